/-
  The reader of draws: it always gives something.
-/
import Derived.Test.YtgajbbadidobfaaDoorFn4
import Derived.Test.YtgajbbadidobfaaDoorPure0
set_option linter.unusedVariables false
set_option linter.unusedSimpArgs false
namespace Go.Pev.F

structure RdOk (r : List Int × Int × Unit) : Prop where
  lo : 0 ≤ r.2.1
  hi : r.2.1 ≤ r.1.length
  len : r.1.length ≤ 140737488351232
  byte : ∀ x ∈ r.1, 0 ≤ x ∧ x ≤ 255

theorem rd_open {code : List Int} (h1 : code.length ≤ 140737488351232) (h2 : ∀ x ∈ code, 0 ≤ x ∧ x ≤ 255) : RdOk (code, 0, ()) := ⟨by simp, by simp, h1, h2⟩

theorem rd_next (k : Nat) {r : List Int × Int × Unit} (h : RdOk r) : ∃ v r', spec_l1Rd_next k (r, ()) = some ((v, ()), (r', ())) ∧ (0 ≤ v ∧ v ≤ 255) ∧ RdOk r' ∧ r'.1 = r.1 := by
  obtain ⟨b, p, ⟨⟩⟩ := r
  obtain ⟨h1, h2, h3, h4⟩ := h
  simp only at h1 h2 h3 h4
  unfold spec_l1Rd_next
  by_cases hp : p ≥ (b.length : Int)
  · refine ⟨0, (b, p, ()), ?_, by omega, ⟨h1, h2, h3, h4⟩, rfl⟩
    simp only [br_dec, if_pos hp]
  · have w1 : IntKind.wrap .i64 (p + 1) = p + 1 := wrap_i64 (by omega) (by omega)
    have w2 : IntKind.wrap .i64 (p + 1 - 1) = p := by rw [wrap_i64 (by omega) (by omega)]; omega
    have hlt : p.toNat < b.length := by omega
    obtain ⟨b1, b2⟩ := h4 b[p.toNat] (List.getElem_mem _)
    refine ⟨b[p.toNat], (b, p + 1, ()), ?_, ⟨b1, b2⟩, ⟨by simp; omega, by simp; omega, h3, h4⟩, rfl⟩
    have w3 : IntKind.wrap .i64 b[p.toNat] = b[p.toNat] := wrap_i64 (by omega) (by omega)
    simp only [br_dec, if_neg hp, w1, w2, if_pos h1, List.getElem?_eq_getElem hlt, bd_some, w3]

theorem tmod_lt {a n : Int} (h0 : 0 ≤ a) (hn : 1 ≤ n) : 0 ≤ a.tmod n ∧ a.tmod n < n := by
  rw [Int.tmod_eq_emod_of_nonneg h0]
  exact ⟨Int.emod_nonneg _ (by omega), Int.emod_lt_of_pos _ (by omega)⟩

theorem rd_below (k : Nat) {r : List Int × Int × Unit} (h : RdOk r) (n : Int) : ∃ v r', spec_l1Rd_below k (r, n, ()) = some ((v, ()), (r', (), ())) ∧ 0 ≤ v ∧ v ≤ 65535 ∧ (1 ≤ n → v < n) ∧ RdOk r' ∧ r'.1 = r.1 := by
  obtain ⟨b, p, ⟨⟩⟩ := r
  unfold spec_l1Rd_below
  by_cases h1 : n ≤ 1
  · exact ⟨0, (b, p, ()), by simp only [br_dec, if_pos h1], by omega, by omega, by omega, h, rfl⟩
  · by_cases h2 : n ≤ 256
    · obtain ⟨v, r', e1, hv, hr, hb⟩ := rd_next k h
      obtain ⟨t1, t2⟩ := tmod_lt (a := v) (n := n) hv.1 (by omega)
      refine ⟨v.tmod n, r', ?_, t1, by omega, fun _ => t2, hr, hb⟩
      have hn : ¬ n = 0 := by omega
      simp only [br_dec, if_neg h1, if_pos h2, e1, bd_some, hn, decide_false, Bool.not_false, br_true]
    · obtain ⟨v, r', e1, hv, hr, hb⟩ := rd_next k h
      obtain ⟨v2, r2, e2, hv2, hr2, hb2⟩ := rd_next k hr
      have w1 : IntKind.wrap .i64 (v * 256) = v * 256 := wrap_i64 (by omega) (by omega)
      have w2 : IntKind.wrap .i64 (v * 256 + v2) = v * 256 + v2 := wrap_i64 (by omega) (by omega)
      obtain ⟨t1, t2⟩ := tmod_lt (a := v * 256 + v2) (n := n) (by omega) (by omega)
      have t3 : (v * 256 + v2).tmod n ≤ v * 256 + v2 := by
        by_cases hlt : v * 256 + v2 < n
        · rw [Int.tmod_eq_emod_of_nonneg (by omega), Int.emod_eq_of_lt (by omega) hlt]; omega
        · omega
      refine ⟨(v * 256 + v2).tmod n, r2, ?_, t1, by omega, fun _ => t2, hr2, by rw [hb2, hb]⟩
      have hn : ¬ n = 0 := by omega
      obtain ⟨rb, rp, ⟨⟩⟩ := r'
      simp only [br_dec, if_neg h1, if_neg h2, e1, bd_some, e2, hn, decide_false, Bool.not_false, br_true, w1, w2]

theorem rd_once (k : Nat) {r : List Int × Int × Unit} (h : RdOk r) (n : Int) : ∃ v r', spec_l1Rd_once k (r, n, ()) = some ((v, ()), (r', (), ())) ∧ RdOk r' ∧ r'.1 = r.1 := by
  obtain ⟨b, p, ⟨⟩⟩ := r
  obtain ⟨v, r', e, _, _, _, hr, hb⟩ := rd_below k h n
  refine ⟨v == IntKind.wrap .i64 (n - 1), r', ?_, hr, hb⟩
  unfold spec_l1Rd_once
  simp only [e, bd_some]

theorem rd_word_loop (k : Nat) : (d : Nat) → (f : Nat) → {r : List Int × Int × Unit} → RdOk r → (x i : Int) → 0 ≤ x → x < 18446744073709551616 → i + d = 8 → 0 ≤ i → ∃ v r', iter (spec_l1Rd_word.l0 k) (d + 1 + f) (r, x, i, ()) = some ((v, ()), (r', ())) ∧ (0 ≤ v ∧ v < 18446744073709551616) ∧ RdOk r' ∧ r'.1 = r.1
  | 0, f, r, h, x, i, h0, h1, hi, _ => by
    obtain ⟨b, p, ⟨⟩⟩ := r
    refine ⟨x, (b, p, ()), ?_, ⟨h0, h1⟩, h, rfl⟩
    have : ¬ (i < 8) := by omega
    rw [show 0 + 1 + f = f + 1 by omega, iter_succ]
    simp only [spec_l1Rd_word.l0, br_dec, if_neg this]
  | d + 1, f, r, h, x, i, h0, h1, hi, hi0 => by
    obtain ⟨b, p, ⟨⟩⟩ := r
    obtain ⟨v, r', e, hv, hr, hb⟩ := rd_next k h
    have hlt : i < 8 := by omega
    have h8 : (0 : Int) ≤ 8 := by omega
    have hw : ∀ z : Int, 0 ≤ IntKind.wrap .u64 z ∧ IntKind.wrap .u64 z < 18446744073709551616 := by
      intro z
      simp [IntKind.wrap, IntKind.bits, IntKind.signed]
      omega
    obtain ⟨w1, w2⟩ := hw (((BitVec.ofInt 64 (IntKind.wrap .u64 (x * 2 ^ (min (8 : Int).toNat 64))) ||| BitVec.ofInt 64 (IntKind.wrap .u64 v)).toNat : Int))
    obtain ⟨u, r2, e2, hu, hr2, hb2⟩ := rd_word_loop k d f hr _ (i + 1) w1 w2 (by omega) (by omega)
    refine ⟨u, r2, ?_, hu, hr2, by rw [hb2, hb]⟩
    rw [show d + 1 + 1 + f = (d + 1 + f) + 1 by omega, iter_succ]
    obtain ⟨rb, rp, ⟨⟩⟩ := r'
    have w3 : IntKind.wrap .i64 (i + 1) = i + 1 := wrap_i64 (by omega) (by omega)
    simp only [spec_l1Rd_word.l0, br_dec, if_pos hlt, if_pos h8, e, bd_some, w3]
    exact e2

theorem rd_word (k : Nat) (hk : 9 ≤ k) {r : List Int × Int × Unit} (h : RdOk r) : ∃ v r', spec_l1Rd_word k (r, ()) = some ((v, ()), (r', ())) ∧ (0 ≤ v ∧ v < 18446744073709551616) ∧ RdOk r' ∧ r'.1 = r.1 := by
  obtain ⟨b, p, ⟨⟩⟩ := r
  obtain ⟨v, r', e, hv, hr, hb⟩ := rd_word_loop k 8 (k - 9) h 0 0 (by omega) (by omega) (by omega) (by omega)
  refine ⟨v, r', ?_, hv, hr, hb⟩
  rw [show 8 + 1 + (k - 9) = k by omega] at e
  exact e

theorem rd_near (k : Nat) (hk : 9 ≤ k) {r : List Int × Int × Unit} (h : RdOk r) {lo hi : Int} (h1 : -4611686018427387903 ≤ lo) (h2 : lo ≤ hi) (h3 : hi ≤ 4611686018427387903) :
    ∃ v r', spec_l1Rd_near k (r, lo, hi, ()) = some ((v, ()), (r', (), (), ())) ∧ (lo ≤ v ∧ v ≤ hi) ∧ RdOk r' ∧ r'.1 = r.1 := by
  obtain ⟨b, p, ⟨⟩⟩ := r
  obtain ⟨v, r1, e1, v0, v1, v2, hr1, hb1⟩ := rd_below k h 8
  unfold spec_l1Rd_near
  simp only [e1, bd_some]
  by_cases c0 : v = 0
  · exact ⟨lo, r1, by simp [c0], ⟨by omega, h2⟩, hr1, hb1⟩
  by_cases c1 : v = 1
  · exact ⟨hi, r1, by simp [c1], ⟨h2, by omega⟩, hr1, hb1⟩
  obtain ⟨u, r2, e2, hu, hr2, hb2⟩ := rd_word k hk hr1
  have w1 : IntKind.wrap .i64 (hi - lo) = hi - lo := wrap_i64 (by omega) (by omega)
  have w2 : IntKind.wrap .i64 (hi - lo + 1) = hi - lo + 1 := wrap_i64 (by omega) (by omega)
  have w3 : IntKind.wrap .u64 (hi - lo + 1) = hi - lo + 1 := wrap_u64 (by omega) (by omega)
  have hf : 0 ≤ u.fdiv (2 ^ (min (1 : Int).toNat 64)) := Int.fdiv_nonneg (by omega) (by decide)
  obtain ⟨t1, t2⟩ := tmod_lt (a := u.fdiv (2 ^ (min (1 : Int).toNat 64))) (n := hi - lo + 1) hf (by omega)
  have w4 : IntKind.wrap .i64 ((u.fdiv (2 ^ (min (1 : Int).toNat 64))).tmod (hi - lo + 1)) = (u.fdiv (2 ^ (min (1 : Int).toNat 64))).tmod (hi - lo + 1) := wrap_i64 (by omega) (by omega)
  have w5 : IntKind.wrap .i64 (lo + (u.fdiv (2 ^ (min (1 : Int).toNat 64))).tmod (hi - lo + 1)) = lo + (u.fdiv (2 ^ (min (1 : Int).toNat 64))).tmod (hi - lo + 1) := wrap_i64 (by omega) (by omega)
  refine ⟨lo + (u.fdiv (2 ^ (min (1 : Int).toNat 64))).tmod (hi - lo + 1), r2, ?_, by omega, hr2, by rw [hb2, hb1]⟩
  have n0 : (v == 0) = false := by simpa using c0
  have n1 : (v == 1) = false := by simpa using c1
  have n2 : ¬ hi < lo := by omega
  have n3 : (0 : Int) ≤ 1 := by omega
  have n4 : ¬ (hi - lo + 1 = 0) := by omega
  obtain ⟨rb, rp, ⟨⟩⟩ := r1
  simp only [n0, n1, br_false, br_dec, if_neg n2, e2, bd_some, if_pos n3, w1, w2, w3, w4, w5, n4, decide_false, Bool.not_false, br_true]

theorem rd_off (k : Nat) (hk : 9 ≤ k) {r : List Int × Int × Unit} (h : RdOk r) {lo hi : Int} (h1 : -4611686018427387903 ≤ lo) (h2 : lo ≤ hi) (h3 : hi ≤ 4611686018427387903) :
    ∃ v r', spec_l1Rd_off k (r, lo, hi, ()) = some ((v, ()), (r', (), (), ())) ∧ (-9223372036854775808 ≤ v ∧ v ≤ 9223372036854775807) ∧ RdOk r' ∧ r'.1 = r.1 := by
  obtain ⟨b, p, ⟨⟩⟩ := r
  obtain ⟨c, r1, e1, hr1, hb1⟩ := rd_once k h 24
  unfold spec_l1Rd_off
  simp only [e1, bd_some]
  cases c with
  | true =>
    obtain ⟨v, r2, e2, v0, v1, v2, hr2, hb2⟩ := rd_below k hr1 4
    have v4 := v2 (by omega)
    obtain ⟨rb, rp, ⟨⟩⟩ := r1
    have w1 : IntKind.wrap .i64 (lo - 1) = lo - 1 := wrap_i64 (by omega) (by omega)
    have w2 : IntKind.wrap .i64 (hi + 1) = hi + 1 := wrap_i64 (by omega) (by omega)
    have hc : v = 0 ∨ v = 1 ∨ v = 2 ∨ v = 3 := by omega
    rw [w1, w2]
    rcases hc with rfl | rfl | rfl | rfl
    · exact ⟨lo - 1, r2, by simp [e2], by omega, hr2, by rw [hb2]; exact hb1⟩
    · exact ⟨hi + 1, r2, by simp [e2], by omega, hr2, by rw [hb2]; exact hb1⟩
    · exact ⟨-9223372036854775808, r2, by simp [e2], by omega, hr2, by rw [hb2]; exact hb1⟩
    · exact ⟨9223372036854775807, r2, by simp [e2], by omega, hr2, by rw [hb2]; exact hb1⟩
  | false =>
    obtain ⟨v, r2, e2, hv, hr2, hb2⟩ := rd_near k hk hr1 h1 h2 h3
    obtain ⟨rb, rp, ⟨⟩⟩ := r1
    exact ⟨v, r2, by simp [e2], by omega, hr2, by rw [hb2]; exact hb1⟩

theorem rd_hurt (k : Nat) {r : List Int × Int × Unit} (h : RdOk r) (s : List UInt8) (hs : s.length ≤ 140737488351232) : ∃ u r', spec_l1Rd_hurt k (r, s, ()) = some ((u, ()), (r', (), ())) ∧ u.length ≤ s.length + 1 ∧ RdOk r' ∧ r'.1 = r.1 := by
  obtain ⟨b, p, ⟨⟩⟩ := r
  obtain ⟨v, r1, e1, v0, v1, v2, hr1, hb1⟩ := rd_below k h 6
  unfold spec_l1Rd_hurt
  simp only [e1, bd_some]
  have pick : ∀ (v : Int) (a b c d : List UInt8), 0 ≤ v → v < 4 → a.length = 1 → b.length = 1 → c.length = 1 → d.length = 1 → ∃ x, ([a, b, c, d] : List (List UInt8))[v.toNat]? = some x ∧ x.length = 1 := by
    intro v a b c d h0 h4 ha hb hc hd
    have hc' : v = 0 ∨ v = 1 ∨ v = 2 ∨ v = 3 := by omega
    rcases hc' with rfl | rfl | rfl | rfl
    · exact ⟨a, rfl, ha⟩
    · exact ⟨b, rfl, hb⟩
    · exact ⟨c, rfl, hc⟩
    · exact ⟨d, rfl, hd⟩
  by_cases c1 : v = 1
  · subst c1
    have w : IntKind.wrap .i64 ((s.length : Int) + 1) = (s.length : Int) + 1 := wrap_i64 (by omega) (by omega)
    obtain ⟨u, r2, e2, u0, _, u2, hr2, hb2⟩ := rd_below k hr1 ((s.length : Int) + 1)
    have u3 := u2 (by omega)
    obtain ⟨rb, rp, ⟨⟩⟩ := r1
    have hc : 0 ≤ u ∧ u ≤ (s.length : Int) := by omega
    refine ⟨s.take u.toNat, r2, ?_, by simp; omega, hr2, by rw [hb2]; exact hb1⟩
    have b1 : ((1 : Int) == 1) = true := rfl
    simp only [b1, br_true, w, e2, bd_some, br_dec, if_pos hc]
  by_cases c2 : v = 2
  · subst c2
    have b1 : ((2 : Int) == 1) = false := rfl
    have b2 : ((2 : Int) == 2) = true := rfl
    simp only [b1, b2, br_true, br_false, br_dec]
    by_cases hl : (s.length : Int) > 0
    · rw [if_pos hl]
      obtain ⟨u, r2, e2, u0, _, u2, hr2, hb2⟩ := rd_below k hr1 (s.length : Int)
      have u3 := u2 (by omega)
      obtain ⟨q, r3, e3, q0, _, q2, hr3, hb3⟩ := rd_below k hr2 4
      have q4 := q2 (by omega)
      obtain ⟨x, hx, hx1⟩ := pick q [0] [55] [255] [32] q0 q4 rfl rfl rfl rfl
      have w : IntKind.wrap .i64 (u + 1) = u + 1 := wrap_i64 (by omega) (by omega)
      obtain ⟨rb, rp, ⟨⟩⟩ := r1
      obtain ⟨rb2, rp2, ⟨⟩⟩ := r2
      have g1 : 0 ≤ u ∧ u ≤ (s.length : Int) := by omega
      have g2 : 0 ≤ q ∧ q < (([[0], [55], [255], [32]] : List (List UInt8)).length : Int) := by simp; omega
      have g3 : ((((s.take u.toNat).length + x.length : Nat) : Int) ≤ maxInt64) := by simp [maxInt64]; omega
      have g4 : 0 ≤ u + 1 ∧ u + 1 ≤ (s.length : Int) := by omega
      have g5 : (((((s.take u.toNat) ++ x).length + (s.drop (u + 1).toNat).length : Nat) : Int) ≤ maxInt64) := by simp [maxInt64]; omega
      refine ⟨s.take u.toNat ++ x ++ s.drop (u + 1).toNat, r3, ?_, by simp; omega, hr3, by rw [hb3]; exact hb2.trans hb1⟩
      simp only [e2, bd_some, e3, if_pos g1, if_pos g2, hx, if_pos g3, w, if_pos g4, if_pos g5]
    · rw [if_neg hl]
      exact ⟨s, r1, rfl, by omega, hr1, hb1⟩
  by_cases c3 : v = 3
  · subst c3
    have b1 : ((3 : Int) == 1) = false := rfl
    have b2 : ((3 : Int) == 2) = false := rfl
    have b3 : ((3 : Int) == 3) = true := rfl
    obtain ⟨q, r3, e3, q0, _, q2, hr3, hb3⟩ := rd_below k hr1 4
    have q4 := q2 (by omega)
    obtain ⟨x, hx, hx1⟩ := pick q [0] [49] [10] [32] q0 q4 rfl rfl rfl rfl
    obtain ⟨rb, rp, ⟨⟩⟩ := r1
    have g2 : 0 ≤ q ∧ q < (([[0], [49], [10], [32]] : List (List UInt8)).length : Int) := by simp; omega
    have g3 : (((s.length + x.length : Nat) : Int) ≤ maxInt64) := by simp [maxInt64]; omega
    refine ⟨s ++ x, r3, ?_, by simp; omega, hr3, by rw [hb3]; exact hb1⟩
    simp only [b1, b2, b3, br_true, br_false, br_dec, e3, bd_some, if_pos g2, hx, if_pos g3]
  · have b1 : (v == 1) = false := by simpa using c1
    have b2 : (v == 2) = false := by simpa using c2
    have b3 : (v == 3) = false := by simpa using c3
    exact ⟨s, r1, by simp only [b1, b2, b3, br_false], by omega, hr1, hb1⟩
end Go.Pev.F
