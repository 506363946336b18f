/-
  The reader of draws: it always gives something.
-/
import Derived.Test.YthjihnplkkhpmaaGreatDoorK13
import Derived.Test.YthjihnplkkhpmaaGreatDoorK02
import Derived.KernelRfl
import Derived.Lib.Join
set_option linter.unusedSimpArgs false
set_option linter.unusedVariables false
section
set_option linter.unusedVariables false
set_option linter.unusedSimpArgs false
namespace Go.Pev.F

structure RdOk (r : List Int × Int × Unit) : Prop where
  lo : 0 ≤ r.2.1
  hi : r.2.1 ≤ r.1.length
  len : r.1.length ≤ 140737488351232
  byte : ∀ x ∈ r.1, 0 ≤ x ∧ x ≤ 255

theorem rd_open {code : List Int} (h1 : code.length ≤ 140737488351232) (h2 : ∀ x ∈ code, 0 ≤ x ∧ x ≤ 255) : RdOk (code, 0, ()) := ⟨by simp, by simp, h1, h2⟩

theorem rd_next (k : Nat) {r : List Int × Int × Unit} (h : RdOk r) : ∃ v r', spec_l1Rd_next k (r, ()) = some ((v, ()), (r', ())) ∧ (0 ≤ v ∧ v ≤ 255) ∧ RdOk r' ∧ r'.1 = r.1 := by
  obtain ⟨b, p, ⟨⟩⟩ := r
  obtain ⟨h1, h2, h3, h4⟩ := h
  simp only at h1 h2 h3 h4
  unfold spec_l1Rd_next
  by_cases hp : p ≥ (b.length : Int)
  · refine ⟨0, (b, p, ()), ?_, by omega, ⟨h1, h2, h3, h4⟩, rfl⟩
    simp only [br_dec, if_pos hp]
  · have w1 : IntKind.wrap .i64 (p + 1) = p + 1 := wrap_i64 (by omega) (by omega)
    have w2 : IntKind.wrap .i64 (p + 1 - 1) = p := by rw [wrap_i64 (by omega) (by omega)]; omega
    have hlt : p.toNat < b.length := by omega
    obtain ⟨b1, b2⟩ := h4 b[p.toNat] (List.getElem_mem _)
    refine ⟨b[p.toNat], (b, p + 1, ()), ?_, ⟨b1, b2⟩, ⟨by simp; omega, by simp; omega, h3, h4⟩, rfl⟩
    have w3 : IntKind.wrap .i64 b[p.toNat] = b[p.toNat] := wrap_i64 (by omega) (by omega)
    simp only [br_dec, if_neg hp, w1, w2, if_pos h1, List.getElem?_eq_getElem hlt, bd_some, w3]

theorem tmod_lt {a n : Int} (h0 : 0 ≤ a) (hn : 1 ≤ n) : 0 ≤ a.tmod n ∧ a.tmod n < n := by
  rw [Int.tmod_eq_emod_of_nonneg h0]
  exact ⟨Int.emod_nonneg _ (by omega), Int.emod_lt_of_pos _ (by omega)⟩

theorem rd_below (k : Nat) {r : List Int × Int × Unit} (h : RdOk r) (n : Int) : ∃ v r', spec_l1Rd_below k (r, n, ()) = some ((v, ()), (r', (), ())) ∧ 0 ≤ v ∧ v ≤ 65535 ∧ (1 ≤ n → v < n) ∧ RdOk r' ∧ r'.1 = r.1 := by
  obtain ⟨b, p, ⟨⟩⟩ := r
  unfold spec_l1Rd_below
  by_cases h1 : n ≤ 1
  · exact ⟨0, (b, p, ()), by simp only [br_dec, if_pos h1], by omega, by omega, by omega, h, rfl⟩
  · by_cases h2 : n ≤ 256
    · obtain ⟨v, r', e1, hv, hr, hb⟩ := rd_next k h
      obtain ⟨t1, t2⟩ := tmod_lt (a := v) (n := n) hv.1 (by omega)
      refine ⟨v.tmod n, r', ?_, t1, by omega, fun _ => t2, hr, hb⟩
      have hn : ¬ n = 0 := by omega
      simp only [br_dec, if_neg h1, if_pos h2, e1, bd_some, hn, decide_false, Bool.not_false, br_true]
    · obtain ⟨v, r', e1, hv, hr, hb⟩ := rd_next k h
      obtain ⟨v2, r2, e2, hv2, hr2, hb2⟩ := rd_next k hr
      have w1 : IntKind.wrap .i64 (v * 256) = v * 256 := wrap_i64 (by omega) (by omega)
      have w2 : IntKind.wrap .i64 (v * 256 + v2) = v * 256 + v2 := wrap_i64 (by omega) (by omega)
      obtain ⟨t1, t2⟩ := tmod_lt (a := v * 256 + v2) (n := n) (by omega) (by omega)
      have t3 : (v * 256 + v2).tmod n ≤ v * 256 + v2 := by
        by_cases hlt : v * 256 + v2 < n
        · rw [Int.tmod_eq_emod_of_nonneg (by omega), Int.emod_eq_of_lt (by omega) hlt]; omega
        · omega
      refine ⟨(v * 256 + v2).tmod n, r2, ?_, t1, by omega, fun _ => t2, hr2, by rw [hb2, hb]⟩
      have hn : ¬ n = 0 := by omega
      obtain ⟨rb, rp, ⟨⟩⟩ := r'
      simp only [br_dec, if_neg h1, if_neg h2, e1, bd_some, e2, hn, decide_false, Bool.not_false, br_true, w1, w2]

theorem rd_once (k : Nat) {r : List Int × Int × Unit} (h : RdOk r) (n : Int) : ∃ v r', spec_l1Rd_once k (r, n, ()) = some ((v, ()), (r', (), ())) ∧ RdOk r' ∧ r'.1 = r.1 := by
  obtain ⟨b, p, ⟨⟩⟩ := r
  obtain ⟨v, r', e, _, _, _, hr, hb⟩ := rd_below k h n
  refine ⟨v == IntKind.wrap .i64 (n - 1), r', ?_, hr, hb⟩
  unfold spec_l1Rd_once
  simp only [e, bd_some]

theorem rd_word_loop (k : Nat) : (d : Nat) → (f : Nat) → {r : List Int × Int × Unit} → RdOk r → (x i : Int) → 0 ≤ x → x < 18446744073709551616 → i + d = 8 → 0 ≤ i → ∃ v r', iter (spec_l1Rd_word.l0 k) (d + 1 + f) (r, x, i, ()) = some ((v, ()), (r', ())) ∧ (0 ≤ v ∧ v < 18446744073709551616) ∧ RdOk r' ∧ r'.1 = r.1
  | 0, f, r, h, x, i, h0, h1, hi, _ => by
    obtain ⟨b, p, ⟨⟩⟩ := r
    refine ⟨x, (b, p, ()), ?_, ⟨h0, h1⟩, h, rfl⟩
    have : ¬ (i < 8) := by omega
    rw [show 0 + 1 + f = f + 1 by omega, iter_succ]
    simp only [spec_l1Rd_word.l0, br_dec, if_neg this]
  | d + 1, f, r, h, x, i, h0, h1, hi, hi0 => by
    obtain ⟨b, p, ⟨⟩⟩ := r
    obtain ⟨v, r', e, hv, hr, hb⟩ := rd_next k h
    have hlt : i < 8 := by omega
    have h8 : (0 : Int) ≤ 8 := by omega
    have hw : ∀ z : Int, 0 ≤ IntKind.wrap .u64 z ∧ IntKind.wrap .u64 z < 18446744073709551616 := by
      intro z
      simp [IntKind.wrap, IntKind.bits, IntKind.signed]
      omega
    obtain ⟨w1, w2⟩ := hw (((BitVec.ofInt 64 (IntKind.wrap .u64 (x * 2 ^ (min (8 : Int).toNat 64))) ||| BitVec.ofInt 64 (IntKind.wrap .u64 v)).toNat : Int))
    obtain ⟨u, r2, e2, hu, hr2, hb2⟩ := rd_word_loop k d f hr _ (i + 1) w1 w2 (by omega) (by omega)
    refine ⟨u, r2, ?_, hu, hr2, by rw [hb2, hb]⟩
    rw [show d + 1 + 1 + f = (d + 1 + f) + 1 by omega, iter_succ]
    obtain ⟨rb, rp, ⟨⟩⟩ := r'
    have w3 : IntKind.wrap .i64 (i + 1) = i + 1 := wrap_i64 (by omega) (by omega)
    simp only [spec_l1Rd_word.l0, br_dec, if_pos hlt, if_pos h8, e, bd_some, w3]
    exact e2

theorem rd_word (k : Nat) (hk : 9 ≤ k) {r : List Int × Int × Unit} (h : RdOk r) : ∃ v r', spec_l1Rd_word k (r, ()) = some ((v, ()), (r', ())) ∧ (0 ≤ v ∧ v < 18446744073709551616) ∧ RdOk r' ∧ r'.1 = r.1 := by
  obtain ⟨b, p, ⟨⟩⟩ := r
  obtain ⟨v, r', e, hv, hr, hb⟩ := rd_word_loop k 8 (k - 9) h 0 0 (by omega) (by omega) (by omega) (by omega)
  refine ⟨v, r', ?_, hv, hr, hb⟩
  rw [show 8 + 1 + (k - 9) = k by omega] at e
  exact e

theorem rd_near (k : Nat) (hk : 9 ≤ k) {r : List Int × Int × Unit} (h : RdOk r) {lo hi : Int} (h1 : -4611686018427387903 ≤ lo) (h2 : lo ≤ hi) (h3 : hi ≤ 4611686018427387903) :
    ∃ v r', spec_l1Rd_near k (r, lo, hi, ()) = some ((v, ()), (r', (), (), ())) ∧ (lo ≤ v ∧ v ≤ hi) ∧ RdOk r' ∧ r'.1 = r.1 := by
  obtain ⟨b, p, ⟨⟩⟩ := r
  obtain ⟨v, r1, e1, v0, v1, v2, hr1, hb1⟩ := rd_below k h 8
  unfold spec_l1Rd_near
  simp only [e1, bd_some]
  by_cases c0 : v = 0
  · exact ⟨lo, r1, by simp [c0], ⟨by omega, h2⟩, hr1, hb1⟩
  by_cases c1 : v = 1
  · exact ⟨hi, r1, by simp [c1], ⟨h2, by omega⟩, hr1, hb1⟩
  obtain ⟨u, r2, e2, hu, hr2, hb2⟩ := rd_word k hk hr1
  have w1 : IntKind.wrap .i64 (hi - lo) = hi - lo := wrap_i64 (by omega) (by omega)
  have w2 : IntKind.wrap .i64 (hi - lo + 1) = hi - lo + 1 := wrap_i64 (by omega) (by omega)
  have w3 : IntKind.wrap .u64 (hi - lo + 1) = hi - lo + 1 := wrap_u64 (by omega) (by omega)
  have hf : 0 ≤ u.fdiv (2 ^ (min (1 : Int).toNat 64)) := Int.fdiv_nonneg (by omega) (by decide)
  obtain ⟨t1, t2⟩ := tmod_lt (a := u.fdiv (2 ^ (min (1 : Int).toNat 64))) (n := hi - lo + 1) hf (by omega)
  have w4 : IntKind.wrap .i64 ((u.fdiv (2 ^ (min (1 : Int).toNat 64))).tmod (hi - lo + 1)) = (u.fdiv (2 ^ (min (1 : Int).toNat 64))).tmod (hi - lo + 1) := wrap_i64 (by omega) (by omega)
  have w5 : IntKind.wrap .i64 (lo + (u.fdiv (2 ^ (min (1 : Int).toNat 64))).tmod (hi - lo + 1)) = lo + (u.fdiv (2 ^ (min (1 : Int).toNat 64))).tmod (hi - lo + 1) := wrap_i64 (by omega) (by omega)
  refine ⟨lo + (u.fdiv (2 ^ (min (1 : Int).toNat 64))).tmod (hi - lo + 1), r2, ?_, by omega, hr2, by rw [hb2, hb1]⟩
  have n0 : (v == 0) = false := by simpa using c0
  have n1 : (v == 1) = false := by simpa using c1
  have n2 : ¬ hi < lo := by omega
  have n3 : (0 : Int) ≤ 1 := by omega
  have n4 : ¬ (hi - lo + 1 = 0) := by omega
  obtain ⟨rb, rp, ⟨⟩⟩ := r1
  simp only [n0, n1, br_false, br_dec, if_neg n2, e2, bd_some, if_pos n3, w1, w2, w3, w4, w5, n4, decide_false, Bool.not_false, br_true]

theorem rd_off (k : Nat) (hk : 9 ≤ k) {r : List Int × Int × Unit} (h : RdOk r) {lo hi : Int} (h1 : -4611686018427387903 ≤ lo) (h2 : lo ≤ hi) (h3 : hi ≤ 4611686018427387903) :
    ∃ v r', spec_l1Rd_off k (r, lo, hi, ()) = some ((v, ()), (r', (), (), ())) ∧ (-9223372036854775808 ≤ v ∧ v ≤ 9223372036854775807) ∧ RdOk r' ∧ r'.1 = r.1 := by
  obtain ⟨b, p, ⟨⟩⟩ := r
  obtain ⟨c, r1, e1, hr1, hb1⟩ := rd_once k h 24
  unfold spec_l1Rd_off
  simp only [e1, bd_some]
  cases c with
  | true =>
    obtain ⟨v, r2, e2, v0, v1, v2, hr2, hb2⟩ := rd_below k hr1 4
    have v4 := v2 (by omega)
    obtain ⟨rb, rp, ⟨⟩⟩ := r1
    have w1 : IntKind.wrap .i64 (lo - 1) = lo - 1 := wrap_i64 (by omega) (by omega)
    have w2 : IntKind.wrap .i64 (hi + 1) = hi + 1 := wrap_i64 (by omega) (by omega)
    have hc : v = 0 ∨ v = 1 ∨ v = 2 ∨ v = 3 := by omega
    rw [w1, w2]
    rcases hc with rfl | rfl | rfl | rfl
    · exact ⟨lo - 1, r2, by simp [e2], by omega, hr2, by rw [hb2]; exact hb1⟩
    · exact ⟨hi + 1, r2, by simp [e2], by omega, hr2, by rw [hb2]; exact hb1⟩
    · exact ⟨-9223372036854775808, r2, by simp [e2], by omega, hr2, by rw [hb2]; exact hb1⟩
    · exact ⟨9223372036854775807, r2, by simp [e2], by omega, hr2, by rw [hb2]; exact hb1⟩
  | false =>
    obtain ⟨v, r2, e2, hv, hr2, hb2⟩ := rd_near k hk hr1 h1 h2 h3
    obtain ⟨rb, rp, ⟨⟩⟩ := r1
    exact ⟨v, r2, by simp [e2], by omega, hr2, by rw [hb2]; exact hb1⟩
end Go.Pev.F
end

section
/-
  Tests of numbers, in both packages.
-/
set_option linter.unusedVariables false
set_option linter.unusedSimpArgs false
namespace Go.Pev.F

theorem br_beq {α : Type} (k : Nat) (a b : Int) (x y : Option α) : br k (a == b) x y = if a = b then x else y := by
  by_cases h : a = b
  · simp [h]
  · have : (a == b) = false := by simpa using h
    rw [this, br_false, if_neg h]

theorem l1In_is (k : Nat) (a b c : Int) : spec_l1In k (a, b, c, ()) = some ((decide (b ≤ a ∧ a ≤ c), ()), ((), (), (), ())) := by
  unfold spec_l1In
  by_cases h : b ≤ a <;> by_cases h2 : a ≤ c <;> simp [h, h2]

theorem within_is (k : Nat) (a b c : Int) : impl_within k (a, b, c, ()) = some ((decide (b ≤ a ∧ a ≤ c), ()), ((), (), (), ())) := by
  unfold impl_within
  by_cases h : b ≤ a <;> by_cases h2 : a ≤ c <;> simp [h, h2]

end Go.Pev.F
end

section
/-
  A program's names: sizes, copies, comparisons; which are right: the reference's and the program's test agree.
-/
set_option linter.unusedVariables false
set_option linter.unusedSimpArgs false
namespace Go.Pev.F

abbrev Names := List (List UInt8)
abbrev ArrT := List UInt8 × Int × Unit
abbrev DeclT := Names × Names × List ArrT × Unit
abbrev IvT := Int × Int × Unit
abbrev EnvT := Bool × List IvT × List IvT × Unit

/-! ### Sizes -/

/-- What the guard grants of a declaration. -/
structure DSmall (d : DeclT) : Prop where
  n0 : d.1.length ≤ 1048576
  s0 : ∀ x ∈ d.1, x.length ≤ 1048576
  n1 : d.2.1.length ≤ 1048576
  s1 : ∀ x ∈ d.2.1, x.length ≤ 1048576
  n2 : d.2.2.1.length ≤ 1048576
  s2 : ∀ x ∈ d.2.2.1, x.1.length ≤ 1048576

abbrev declKd : Kd := .cons (.sl false .str) (.cons (.sl false .str) (.cons (.sl false (.cons .str (.cons (.int .i64) .nil))) .nil))

/-! ### Copies -/

/-! ### Comparisons -/

end Go.Pev.F
end

section
/-
  Which names are right: the reference's test and the program's agree.
-/
set_option linter.unusedVariables false
set_option linter.unusedSimpArgs false
namespace Go.Pev.F

def keys : Names := [[118, 97, 114], [102, 108, 97, 103], [97, 114, 114, 97, 121], [105, 102], [102, 111, 114, 107], [101, 108, 115, 101], [101, 110, 100], [119, 104, 105, 108, 101], [117, 110, 114, 111, 108, 108], [97, 115, 115, 101, 114, 116], [97, 115, 115, 117, 109, 101], [105, 110, 112, 117, 116], [115, 112, 108, 105, 116], [109, 101, 114, 103, 101], [116, 114, 117, 101], [102, 97, 108, 115, 101]]
def letter (b : UInt8) : Bool := decide (97 ≤ b.toNat ∧ b.toNat ≤ 122)
def nameOk (s : List UInt8) : Bool := s.all letter && (decide (1 ≤ s.length ∧ s.length ≤ 8) && !keys.contains s)

theorem l3Key_is (k : Nat) (hk : 1048576 < k) (s : List UInt8) : spec_l3Key k (s, ()) = some ((keys.contains s, ()), ((), ())) := by
  have h := iter_any (b := spec_l3Key.l0 k) (fun i => (s, keys, (i : Int), ())) keys (fun x => x == s) (rf := some ((true, ()), ((), ()))) (r := some ((false, ()), ((), ()))) (fun G i hi => by
    have h2 : ((i : Int) < (keys.length : Int)) := by omega
    have h3 : (0 : Int) ≤ (i : Int) ∧ ((i : Int) < (keys.length : Int)) := by omega
    have h4 : keys.length = 16 := rfl
    simp only [spec_l3Key.l0, br_dec, if_pos h2, if_pos h3, Int.toNat_natCast, List.getElem?_eq_getElem hi, bd_some]
    rw [wrap_succ (by omega)]
    cases h : (keys[i] == s) <;> simp) (fun G => by
    have h2 : ¬ ((keys.length : Int) < (keys.length : Int)) := by omega
    simp only [spec_l3Key.l0, br_dec, if_neg h2]) (f := k) (by show 16 < k; omega)
  unfold spec_l3Key
  refine Eq.trans h ?_
  rw [List.any_beq']
  cases keys.contains s <;> rfl

theorem l3Name_is (k : Nat) (hk : 1048576 < k) (s : List UInt8) (hs : s.length ≤ 1048576) : spec_l3Name k (s, ()) = some ((nameOk s, ()), ((), ())) := by
  have h := iter_any (b := spec_l3Name.l0 k) (fun i => (s, (i : Int), ())) s (fun b => !letter b) (rf := some ((false, ()), ((), ()))) (r := some ((decide (1 ≤ s.length ∧ s.length ≤ 8) && !keys.contains s, ()), ((), ()))) (fun G i hi => by
    have h2 : ((i : Int) < (s.length : Int)) := by omega
    have h3 : (0 : Int) ≤ (i : Int) := by omega
    simp only [spec_l3Name.l0, br_dec, if_pos h2, if_pos h3, Int.toNat_natCast, List.getElem?_eq_getElem hi, bd_some]
    rw [wrap_succ (by omega)]
    by_cases c1 : ((s[i].toNat : Int) < 97)
    · have : letter s[i] = false := by simp [letter]; omega
      simp [if_pos c1, this]
    · rw [if_neg c1]
      by_cases c2 : ((s[i].toNat : Int) > 122)
      · have : letter s[i] = false := by simp [letter]; omega
        have c2' : decide ((s[i].toNat : Int) > 122) = true := decide_eq_true c2
        simp only [Option.bind_some, c2', br_true, this, Bool.not_false, if_true]
      · have : letter s[i] = true := by simp [letter]; omega
        have c2' : decide ((s[i].toNat : Int) > 122) = false := decide_eq_false c2
        simp only [Option.bind_some, c2', br_false, this, Bool.not_true, Bool.false_eq_true, if_false]) (fun G => by
    have h2 : ¬ ((s.length : Int) < (s.length : Int)) := by omega
    simp only [spec_l3Name.l0, br_dec, if_neg h2, l1In_is, l3Key_is k hk, bd_some]
    by_cases c : 1 ≤ s.length ∧ s.length ≤ 8
    · have c' : (1 : Int) ≤ (s.length : Int) ∧ (s.length : Int) ≤ 8 := by omega
      simp only [if_pos c', Option.bind_some, decide_eq_true c, Bool.true_and]
    · have c' : ¬ ((1 : Int) ≤ (s.length : Int) ∧ (s.length : Int) ≤ 8) := by omega
      simp only [if_neg c', Option.bind_some, decide_eq_false c, Bool.false_and]) (f := k) (by omega)
  unfold spec_l3Name
  refine Eq.trans h ?_
  unfold nameOk
  rw [show s.any (fun b => !letter b) = !s.all letter by rw [List.not_all_eq_any_not]]
  cases s.all letter <;> simp

theorem l3Place_is (k : Nat) (l : Names) (v : List UInt8) (hl : l.length ≤ 4194304) (hk : 4194304 < k) : ∃ n : Int, spec_l3Place k (l, v, ()) = some ((n, ()), ((), (), ())) ∧ decide (n ≥ 0) = l.contains v := by
  obtain ⟨n, h1, h2⟩ := iter_find (b := spec_l3Place.l0 k) (fun i => (l, v, (i : Int), ())) l (fun x => x == v) (o := ((), (), ())) (fun G i hi => by
    have h2 : ((i : Int) < (l.length : Int)) := by omega
    have h3 : (0 : Int) ≤ (i : Int) := by omega
    simp only [spec_l3Place.l0, br_dec, if_pos h2, if_pos h3, Int.toNat_natCast, List.getElem?_eq_getElem hi, bd_some]
    rw [wrap_succ (by omega)]
    cases h : (l[i] == v) <;> simp) (fun G => by
    have h2 : ¬ ((l.length : Int) < (l.length : Int)) := by omega
    simp only [spec_l3Place.l0, br_dec, if_neg h2]) (f := k) (by omega)
  refine ⟨n, h1, ?_⟩
  rw [h2, List.any_beq']

theorem slicesContains_is (k : Nat) (l : Names) (v : List UInt8) (hl : l.length ≤ 4194304) (hk : 4194304 < k) : slices_Contains_string_string k (l, v, ()) = some ((l.contains v, ()), ((), (), ())) := by
  obtain ⟨n, h1, h2⟩ := iter_find (b := slices_Index_string_string.l0 k) (fun i => (l, v, (l.length : Int), (i : Int), ())) l (fun x => x == v) (o := ((), (), ())) (fun G i hi => by
    have h2 : ((i : Int) < (l.length : Int)) := by omega
    have h3 : (0 : Int) ≤ (i : Int) := by omega
    simp only [slices_Index_string_string.l0, br_dec, if_pos h2, if_pos h3, Int.toNat_natCast, List.getElem?_eq_getElem hi, bd_some]
    rw [wrap_succ (by omega), show (v == l[i]) = (l[i] == v) from BEq.comm]
    cases h : (l[i] == v) <;> simp) (fun G => by
    have h2 : ¬ ((l.length : Int) < (l.length : Int)) := by omega
    simp only [slices_Index_string_string.l0, br_dec, if_neg h2]) (f := k) (by omega)
  unfold slices_Contains_string_string slices_Index_string_string
  have h1' : iter (slices_Index_string_string.l0 k) k (l, v, (l.length : Int), 0, ()) = some ((n, ()), ((), (), ())) := h1
  simp only [h1', bd_some]
  rw [h2, List.any_beq']

theorem isWord_is (k : Nat) (hk : 4194304 < k) (s : List UInt8) : impl_isWord k (s, ()) = some ((keys.contains s, ()), ((), ())) := by
  unfold impl_isWord
  have h : Lb.Fields k ([118, 97, 114, 32, 102, 108, 97, 103, 32, 97, 114, 114, 97, 121, 32, 105, 102, 32, 102, 111, 114, 107, 32, 101, 108, 115, 101, 32, 101, 110, 100, 32, 119, 104, 105, 108, 101, 32, 117, 110, 114, 111, 108, 108, 32, 97, 115, 115, 101, 114, 116, 32, 97, 115, 115, 117, 109, 101, 32, 105, 110, 112, 117, 116, 32, 115, 112, 108, 105, 116, 32, 109, 101, 114, 103, 101, 32, 116, 114, 117, 101, 32, 102, 97, 108, 115, 101], ()) = some ((keys, ()), ((), ())) := by
    unfold Lb.Fields
    rw [if_pos (by decide +kernel)]
    have : Go.Lib.fields [118, 97, 114, 32, 102, 108, 97, 103, 32, 97, 114, 114, 97, 121, 32, 105, 102, 32, 102, 111, 114, 107, 32, 101, 108, 115, 101, 32, 101, 110, 100, 32, 119, 104, 105, 108, 101, 32, 117, 110, 114, 111, 108, 108, 32, 97, 115, 115, 101, 114, 116, 32, 97, 115, 115, 117, 109, 101, 32, 105, 110, 112, 117, 116, 32, 115, 112, 108, 105, 116, 32, 109, 101, 114, 103, 101, 32, 116, 114, 117, 101, 32, 102, 97, 108, 115, 101] = keys := by decide +kernel
    rw [this]
  simp only [h, bd_some]
  rw [slicesContains_is k keys s (by decide) hk]
  simp

theorem isName_is (k : Nat) (hk : 4194304 < k) (s : List UInt8) (hs : s.length ≤ 1048576) : impl_isName k (s, ()) = some ((nameOk s, ()), ((), ())) := by
  have h := iter_any (b := impl_isName.l0 k) (fun i => (s, (s.length : Int), (i : Int), ())) s (fun b => !letter b) (rf := some ((false, ()), ((), ()))) (r := some ((decide (1 ≤ s.length ∧ s.length ≤ 8) && !keys.contains s, ()), ((), ()))) (fun G i hi => by
    have h2 : ((i : Int) < (s.length : Int)) := by omega
    have h3 : (0 : Int) ≤ (i : Int) := by omega
    simp only [impl_isName.l0, impl_isLetter, br_dec, if_pos h2, if_pos h3, Int.toNat_natCast, List.getElem?_eq_getElem hi, bd_some]
    rw [wrap_succ (by omega)]
    by_cases c1 : ((s[i].toNat : Int) ≥ 97)
    · rw [if_pos c1]
      by_cases c2 : ((s[i].toNat : Int) ≤ 122)
      · have : letter s[i] = true := by simp [letter]; omega
        have c2' : decide ((s[i].toNat : Int) ≤ 122) = true := decide_eq_true c2
        simp only [Option.bind_some, c2', bd_some, br_false, this, Bool.not_true, Bool.false_eq_true, if_false]
      · have : letter s[i] = false := by simp [letter]; omega
        have c2' : decide ((s[i].toNat : Int) ≤ 122) = false := decide_eq_false c2
        simp only [Option.bind_some, c2', bd_some, br_true, this, Bool.not_false, if_true]
    · rw [if_neg c1]
      have : letter s[i] = false := by simp [letter]; omega
      simp only [Option.bind_some, bd_some, br_true, this, Bool.not_false, if_true]) (fun G => by
    have h2 : ¬ ((s.length : Int) < (s.length : Int)) := by omega
    simp only [impl_isName.l0, br_dec, if_neg h2, within_is, isWord_is k hk, bd_some]
    by_cases c : 1 ≤ s.length ∧ s.length ≤ 8
    · have c' : (1 : Int) ≤ (s.length : Int) ∧ (s.length : Int) ≤ 8 := by omega
      simp only [if_pos c', Option.bind_some, decide_eq_true c, Bool.true_and]
    · have c' : ¬ ((1 : Int) ≤ (s.length : Int) ∧ (s.length : Int) ≤ 8) := by omega
      simp only [if_neg c', Option.bind_some, decide_eq_false c, Bool.false_and]) (f := k) (by omega)
  unfold impl_isName
  refine Eq.trans h ?_
  unfold nameOk
  rw [show s.any (fun b => !letter b) = !s.all letter by rw [List.not_all_eq_any_not]]
  cases s.all letter <;> simp

/-! ### Lists of names -/

def badAt (l : Names) (i : Nat) : Bool := !nameOk (l.getD i []) || (l.take i).contains (l.getD i [])
def namesOk (l : Names) : Bool := !(List.range l.length).any (badAt l)
def arrsOk (l : List ArrT) : Bool := !l.any fun a => !decide (1 ≤ a.2.1 ∧ a.2.1 ≤ 16)
def namesOf (d : DeclT) : Names := (d.1 ++ d.2.1) ++ d.2.2.1.map (·.1)
def declOk (d : DeclT) : Bool := decide (d.1.length ≤ 5 ∧ d.2.1.length ≤ 3 ∧ d.2.2.1.length ≤ 2) && (arrsOk d.2.2.1 && namesOk (namesOf d))

theorem namesOf_small {d : DeclT} (hd : DSmall d) : (namesOf d).length ≤ 3145728 ∧ ∀ x ∈ namesOf d, x.length ≤ 1048576 := by
  have h0 := hd.n0
  have h1 := hd.n1
  have h2 := hd.n2
  refine ⟨by simp [namesOf]; omega, fun x hx => ?_⟩
  simp only [namesOf, List.mem_append, List.mem_map] at hx
  rcases hx with (hx | hx) | ⟨y, hy, rfl⟩
  · exact hd.s0 x hx
  · exact hd.s1 x hx
  · exact hd.s2 y hy

theorem declOk_l2 (k : Nat) (hk : 4194304 < k) (l : Names) (hl : l.length ≤ 3145728) (hs : ∀ x ∈ l, x.length ≤ 1048576) : iter (spec_DeclOk.l2 k) k (l, 0, ()) = some ((namesOk l, ()), ((), ())) := by
  have h := iter_range (b := spec_DeclOk.l2 k) (fun i => (l, (i : Int), ())) l.length (badAt l) (rf := some ((false, ()), ((), ()))) (r := some ((true, ()), ((), ()))) (fun G i hi => by
    have h2 : ((i : Int) < (l.length : Int)) := by omega
    have h3 : (0 : Int) ≤ (i : Int) ∧ (i : Int) < (l.length : Int) := by omega
    have h4 : (0 : Int) ≤ (i : Int) ∧ (i : Int) ≤ (l.length : Int) := by omega
    have e : subL l ((0 : Int).toNat) (i - (0 : Int).toNat) = l.take i := by simp [subL]
    obtain ⟨n, e1, e2⟩ := l3Place_is k (l.take i) l[i] (by simp; omega) hk
    have hg : l.getD i [] = l[i] := by simp [List.getD, List.getElem?_eq_getElem hi]
    simp only [spec_DeclOk.l2, br_dec, if_pos h2, if_pos h3, if_pos h4, Int.toNat_natCast, List.getElem?_eq_getElem hi, bd_some, l3Name_is k (by omega) l[i] (hs _ (List.getElem_mem _)), e, e1, e2]
    rw [wrap_succ (by omega), badAt, hg]
    cases nameOk l[i] <;> cases (l.take i).contains l[i] <;> simp) (fun G => by
    have h2 : ¬ ((l.length : Int) < (l.length : Int)) := by omega
    simp only [spec_DeclOk.l2, br_dec, if_neg h2]) (f := k) (by omega)
  refine Eq.trans h ?_
  unfold namesOk
  cases (List.range l.length).any (badAt l) <;> rfl

theorem specDeclOk_is (k : Nat) (hk : 4194304 < k) (d : DeclT) (hd : DSmall d) : spec_DeclOk k (d, ()) = some ((declOk d, ()), ((), ())) := by
  unfold spec_DeclOk declOk
  simp only [br_dec]
  by_cases c0 : (d.1.length : Int) > 5
  · rw [if_pos c0]
    have : decide (d.1.length ≤ 5 ∧ d.2.1.length ≤ 3 ∧ d.2.2.1.length ≤ 2) = false := by simp; omega
    simp [this]
  rw [if_neg c0]
  by_cases c1 : (d.2.1.length : Int) > 3
  · rw [if_pos c1]
    have : decide (d.1.length ≤ 5 ∧ d.2.1.length ≤ 3 ∧ d.2.2.1.length ≤ 2) = false := by simp; omega
    simp [this]
  rw [if_neg c1]
  by_cases c2 : (d.2.2.1.length : Int) > 2
  · have : decide (d.1.length ≤ 5 ∧ d.2.1.length ≤ 3 ∧ d.2.2.1.length ≤ 2) = false := by simp; omega
    have c2' : decide ((d.2.2.1.length : Int) > 2) = true := decide_eq_true c2
    simp only [Option.bind_some, c2', br_true, this, Bool.false_and]
  have c2' : decide ((d.2.2.1.length : Int) > 2) = false := decide_eq_false c2
  have hc : decide (d.1.length ≤ 5 ∧ d.2.1.length ≤ 3 ∧ d.2.2.1.length ≤ 2) = true := by simp; omega
  simp only [Option.bind_some, c2', br_false, hc, Bool.true_and]
  have l1 : (([] : List (List UInt8)).length + d.1.length) * 16 ≤ maxBytes := by simp [maxBytes]; omega
  have l2 : ((([] : List (List UInt8)) ++ d.1).length + d.2.1.length) * 16 ≤ maxBytes := by simp [maxBytes]; omega
  rw [if_pos l1, if_pos l2]
  obtain ⟨hn, hs⟩ := namesOf_small hd
  have h := iter_any (b := spec_DeclOk.l0 k) (fun i => ((d.1, d.2.1, d.2.2.1, ()), ((([] : List (List UInt8)) ++ d.1) ++ d.2.1) ++ (d.2.2.1.take i).map (·.1), (i : Int), ())) d.2.2.1 (fun a => !decide (1 ≤ a.2.1 ∧ a.2.1 ≤ 16)) (rf := some ((false, ()), ((), ()))) (r := some ((namesOk (namesOf d), ()), ((), ()))) (fun G i hi => by
    have h2 : ((i : Int) < (d.2.2.1.length : Int)) := by omega
    have h3 : (0 : Int) ≤ (i : Int) := by omega
    have h4 : (((([] : List (List UInt8)) ++ d.1) ++ d.2.1 ++ (d.2.2.1.take i).map (·.1)).length + ([d.2.2.1[i].1] : List (List UInt8)).length) * 16 ≤ maxBytes := by simp [maxBytes]; omega
    simp only [spec_DeclOk.l0, br_dec, if_pos h2, if_pos h3, Int.toNat_natCast, List.getElem?_eq_getElem hi, bd_some, l1In_is, if_pos h4]
    rw [wrap_succ (by omega), ← List.take_append_getElem hi, List.map_append, List.append_assoc (bs := List.map _ _)]
    cases decide (1 ≤ d.2.2.1[i].2.1 ∧ d.2.2.1[i].2.1 ≤ 16) <;> simp) (fun G => by
    have h2 : ¬ ((d.2.2.1.length : Int) < (d.2.2.1.length : Int)) := by omega
    simp only [spec_DeclOk.l0, br_dec, if_neg h2, List.take_length]
    exact declOk_l2 k hk (namesOf d) hn hs) (f := k) (by omega)
  simp only [List.take_zero, List.map_nil, List.append_nil] at h
  refine Eq.trans h ?_
  unfold arrsOk
  cases d.2.2.1.any (fun a => !decide (1 ≤ a.2.1 ∧ a.2.1 ≤ 16)) <;> simp
end Go.Pev.F
end

section
/-
  Which names are right: the program's test.
-/
set_option linter.unusedVariables false
set_option linter.unusedSimpArgs false
namespace Go.Pev.F

theorem take_flat {l : List Names} {i : Nat} (hi : i < l.length) : (l.take (i + 1)).flatten = (l.take i).flatten ++ l[i] := by
  rw [← List.take_append_getElem hi, List.flatten_append]; simp

theorem flat_le (l : List Names) (i : Nat) : (l.take i).flatten.length ≤ l.flatten.length := by
  conv => rhs; rw [← List.take_append_drop i l, List.flatten_append, List.length_append]
  omega

theorem concat_is (k : Nat) (l : List Names) (hl : l.length < k) (hk : k ≤ 4611686018427387903) (hb : l.flatten.length ≤ 4194304) : slices_Concat_string_string k (l, ()) = some ((l.flatten, ()), ((), ())) := by
  unfold slices_Concat_string_string
  have h2 : iter (slices_Concat_string_string.l2 k) k ([], l, (l.length : Int), 0, ()) = some ((l.flatten, ()), ((), ())) := by
    have h := iter_for (b := slices_Concat_string_string.l2 k) (fun i => ((l.take i).flatten, l, (l.length : Int), (i : Int), ())) l.length (r := some ((l.flatten, ()), ((), ()))) (fun G i hi => by
      have h2 : ((i : Int) < (l.length : Int)) := by omega
      have h3 : (0 : Int) ≤ (i : Int) := by omega
      have h5 := flat_le l (i + 1)
      rw [take_flat hi, List.length_append] at h5
      have h4 : ((l.take i).flatten.length + l[i].length) * 16 ≤ maxBytes := by simp only [maxBytes]; omega
      simp only [slices_Concat_string_string.l2, br_dec, if_pos h2, if_pos h3, Int.toNat_natCast, List.getElem?_eq_getElem hi, bd_some, if_pos h4]
      rw [wrap_succ (by omega), take_flat hi]) (fun G => by
      have h2 : ¬ ((l.length : Int) < (l.length : Int)) := by omega
      simp only [slices_Concat_string_string.l2, br_dec, if_neg h2, List.take_length]) hl
    exact h
  have h := iter_for (b := slices_Concat_string_string.l0 k) (fun i => (l, ((l.take i).flatten.length : Int), l, (l.length : Int), (i : Int), ())) l.length (r := some ((l.flatten, ()), ((), ()))) (fun G i hi => by
    have h2 : ((i : Int) < (l.length : Int)) := by omega
    have h3 : (0 : Int) ≤ (i : Int) := by omega
    have h5 := flat_le l (i + 1)
    have h6 : (l.take (i + 1)).flatten.length = (l.take i).flatten.length + l[i].length := by rw [take_flat hi, List.length_append]
    have e : IntKind.wrap .i64 (((l.take i).flatten.length : Int) + (l[i].length : Int)) = ((l.take (i + 1)).flatten.length : Int) := by
      rw [wrap_i64 (by omega) (by omega), h6]; omega
    have h4 : ¬ (((l.take (i + 1)).flatten.length : Int) < 0) := by omega
    simp only [slices_Concat_string_string.l0, br_dec, if_pos h2, if_pos h3, Int.toNat_natCast, List.getElem?_eq_getElem hi, bd_some, e, if_neg h4]
    rw [wrap_succ (by omega)]) (fun G => by
    have h3 : ¬ ((l.length : Int) < (l.length : Int)) := by omega
    have h4 : 0 ≤ (l.flatten.length : Int) ∧ (l.flatten.length : Int) * ((16 : Nat) : Int) ≤ 140737488355328 := by omega
    simp only [slices_Concat_string_string.l0, br_dec, if_neg h3, List.take_length, Lb.slices_Grow_string_string, Grow, if_pos h4, bd_some]
    exact h2) hl
  exact h

theorem names_is (k : Nat) (hk : 4194304 < k) (hk2 : k ≤ 4611686018427387903) (d : DeclT) (hd : DSmall d) : impl_Decl_names k (d, ()) = some ((namesOf d, ()), ((), ())) := by
  have n0 := hd.n0
  have n1 := hd.n1
  have n2 := hd.n2
  have e : ([d.1, d.2.1] : List Names).flatten = d.1 ++ d.2.1 := by simp
  unfold impl_Decl_names
  have hc := concat_is k [d.1, d.2.1] (by show 2 < k; omega) hk2 (by rw [e]; simp; omega)
  rw [e] at hc
  simp only [hc, bd_some]
  have h := iter_for (b := impl_Decl_names.l0 k) (fun i => ((d.1 ++ d.2.1) ++ (d.2.2.1.take i).map (·.1), d.2.2.1, (d.2.2.1.length : Int), (i : Int), ())) d.2.2.1.length (r := some ((namesOf d, ()), ((), ()))) (fun G i hi => by
    have h2 : ((i : Int) < (d.2.2.1.length : Int)) := by omega
    have h3 : (0 : Int) ≤ (i : Int) := by omega
    have h4 : ((((d.1 ++ d.2.1) ++ (d.2.2.1.take i).map (·.1)).length) + ([d.2.2.1[i].1] : List (List UInt8)).length) * 16 ≤ maxBytes := by simp [maxBytes]; omega
    simp only [impl_Decl_names.l0, br_dec, if_pos h2, if_pos h3, Int.toNat_natCast, List.getElem?_eq_getElem hi, bd_some, if_pos h4]
    rw [wrap_succ (by omega), ← List.take_append_getElem hi, List.map_append, List.append_assoc (bs := List.map _ _)]
    rfl) (fun G => by
    have h2 : ¬ ((d.2.2.1.length : Int) < (d.2.2.1.length : Int)) := by omega
    simp only [impl_Decl_names.l0, br_dec, if_neg h2, List.take_length]
    rfl) (f := k) (by omega)
  simp only [List.take_zero, List.map_nil, List.append_nil] at h
  exact h

theorem areAllArr_is (k : Nat) (l : List ArrT) (hl : l.length ≤ 1048576) (hk : 4194304 < k) : impl_areAll_impl_Arr k (l, (()), ()) = some ((arrsOk l, ()), ((), (()), ())) := by
  obtain ⟨n, h1, h2⟩ := iter_find (b := slices_IndexFunc_impl_Arr_impl_Arr.l0 k) (fun i => (l, (((()), ()), ()), (l.length : Int), (i : Int), ())) l (fun a => !decide (1 ≤ a.2.1 ∧ a.2.1 ≤ 16)) (o := ((), (((()), ()), ()), ())) (fun G i hi => by
    have h2 : ((i : Int) < (l.length : Int)) := by omega
    have h3 : (0 : Int) ≤ (i : Int) := by omega
    simp only [slices_IndexFunc_impl_Arr_impl_Arr.l0, impl_areAll_impl_Arr_1, impl_Decl_isRight_1, within_is, br_dec, if_pos h2, if_pos h3, Int.toNat_natCast, List.getElem?_eq_getElem hi, bd_some]
    rw [wrap_succ (by omega)]
    cases decide (1 ≤ l[i].2.1 ∧ l[i].2.1 ≤ 16) <;> simp) (fun G => by
    have h2 : ¬ ((l.length : Int) < (l.length : Int)) := by omega
    simp only [slices_IndexFunc_impl_Arr_impl_Arr.l0, br_dec, if_neg h2]) (f := k) (by omega)
  unfold impl_areAll_impl_Arr slices_ContainsFunc_impl_Arr_impl_Arr slices_IndexFunc_impl_Arr_impl_Arr
  have h1' : iter (slices_IndexFunc_impl_Arr_impl_Arr.l0 k) k (l, (((()), ()), ()), (l.length : Int), 0, ()) = some ((n, ()), ((), (((()), ()), ()), ())) := h1
  simp only [h1', bd_some, h2]
  rfl

theorem implDeclOk_is (k : Nat) (hk : 4194304 < k) (hk2 : k ≤ 4611686018427387903) (d : DeclT) (hd : DSmall d) : impl_Decl_isRight k (d, ()) = some ((declOk d, ()), ((), ())) := by
  have n2 := hd.n2
  obtain ⟨hn, hs⟩ := namesOf_small hd
  unfold impl_Decl_isRight
  simp only [names_is k hk hk2 d hd, bd_some]
  have h := iter_range (b := impl_Decl_isRight.l0 k) (fun i => ((d.1, d.2.1, d.2.2.1, ()), namesOf d, namesOf d, ((namesOf d).length : Int), (i : Int), ())) (namesOf d).length (badAt (namesOf d)) (rf := some ((false, ()), ((), ()))) (r := some ((decide (d.1.length ≤ 5 ∧ d.2.1.length ≤ 3 ∧ d.2.2.1.length ≤ 2) && arrsOk d.2.2.1, ()), ((), ()))) (fun G i hi => by
    have h2 : ((i : Int) < ((namesOf d).length : Int)) := by omega
    have h3 : (0 : Int) ≤ (i : Int) := by omega
    have h4 : (0 : Int) ≤ (i : Int) ∧ (i : Int) ≤ ((namesOf d).length : Int) := by omega
    have hg : (namesOf d).getD i [] = (namesOf d)[i] := by simp [List.getD, List.getElem?_eq_getElem hi]
    simp only [impl_Decl_isRight.l0, br_dec, if_pos h2, if_pos h3, if_pos h4, Int.toNat_natCast, List.getElem?_eq_getElem hi, bd_some, isName_is k hk (namesOf d)[i] (hs _ (List.getElem_mem _)), slicesContains_is k ((namesOf d).take i) (namesOf d)[i] (by simp; omega) hk]
    rw [wrap_succ (by omega), badAt, hg]
    cases nameOk (namesOf d)[i] <;> cases ((namesOf d).take i).contains (namesOf d)[i] <;> simp) (fun G => by
    have h2 : ¬ (((namesOf d).length : Int) < ((namesOf d).length : Int)) := by omega
    simp only [impl_Decl_isRight.l0, br_dec, if_neg h2, areAllArr_is k d.2.2.1 hd.n2 hk, bd_some]
    by_cases c0 : d.1.length ≤ 5
    · rw [if_pos (by omega)]
      by_cases c1 : d.2.1.length ≤ 3
      · rw [if_pos (by omega)]
        by_cases c2 : d.2.2.1.length ≤ 2
        · rw [if_pos (by omega)]
          simp [c0, c1, c2]
        · rw [if_neg (by omega)]
          simp [c2]
      · rw [if_neg (by omega)]
        simp [c1]
    · rw [if_neg (by omega)]
      simp [c0]) (f := k) (by omega)
  refine Eq.trans h ?_
  unfold declOk namesOk
  cases (List.range (namesOf d).length).any (badAt (namesOf d)) <;> simp
end Go.Pev.F
end

section
/-
  An environment's text: sizes, copies, comparisons; which are right.
-/
set_option linter.unusedVariables false
set_option linter.unusedSimpArgs false
namespace Go.Pev.F

structure ESmall (e : EnvT) : Prop where
  n1 : e.2.1.length ≤ 1048576
  n2 : e.2.2.1.length ≤ 1048576

abbrev ivKd : Kd := .cons (.int .i64) (.cons (.int .i64) .nil)
abbrev envKd : Kd := .cons .bool (.cons (.sl false ivKd) (.cons (.sl false ivKd) .nil))

/-! ### Which are right -/

def ivOk (a : IvT) : Bool := decide (a.1 ≤ a.2.1)
def ivsOk (l : List IvT) : Bool := !l.any fun a => !ivOk a
def envFits (d : DeclT) (e : EnvT) : Bool :=
  cond e.1 (((e.2.1.length : Int) == (d.1.length : Int)) && (((e.2.2.1.length : Int) == (d.2.2.1.length : Int)) && (ivsOk e.2.1 && ivsOk e.2.2.1))) (((e.2.1.length : Int) == 0) && ((e.2.2.1.length : Int) == 0))
def envOk (d : DeclT) (e : EnvT) : Bool := declOk d && envFits d e

theorem specEnvOk_is (k : Nat) (hk : 4194304 < k) (d : DeclT) (hd : DSmall d) (e : EnvT) (he : ESmall e) : spec_EnvOk k (d, e, ()) = some ((envOk d e, ()), ((), (), ())) := by
  have n1 := he.n1
  have n2 := he.n2
  unfold spec_EnvOk envOk
  simp only [specDeclOk_is k hk d hd, bd_some]
  cases hdo : declOk d with
  | false => simp
  | true =>
    simp only [Bool.not_true, br_false, Bool.true_and]
    unfold envFits
    cases he1 : e.1 with
    | false =>
      simp only [Bool.not_false, br_true, cond_false]
      cases hz : ((e.2.1.length : Int) == 0) <;> simp
    | true =>
      simp only [Bool.not_true, br_false, cond_true]
      unfold bne
      cases h1 : ((e.2.1.length : Int) == (d.1.length : Int)) with
      | false => simp
      | true =>
        simp only [Bool.not_true, br_false, Bool.true_and]
        cases h2 : ((e.2.2.1.length : Int) == (d.2.2.1.length : Int)) with
        | false => simp
        | true =>
          have l1 : (([] : List (Int × Int × Unit)).length + e.2.1.length) * 16 ≤ maxBytes := by simp [maxBytes]; omega
          have l2 : ((([] : List (Int × Int × Unit)) ++ e.2.1).length + e.2.2.1.length) * 16 ≤ maxBytes := by simp [maxBytes]; omega
          simp only [Bool.not_true, Option.bind_some, br_false, Bool.true_and, spec_l6List, br_dec, if_pos l1, if_pos l2, bd_some]
          have h := iter_any (b := spec_EnvOk.l0 k) (fun i => (([] ++ e.2.1) ++ e.2.2.1, (i : Int), ())) (([] ++ e.2.1) ++ e.2.2.1) (fun a => !ivOk a) (rf := some ((false, ()), ((), (), ()))) (r := some ((true, ()), ((), (), ()))) (fun G i hi => by
            have hi' : i < e.2.1.length + e.2.2.1.length := by simpa using hi
            have h2 : ((i : Int) < ((([] ++ e.2.1) ++ e.2.2.1).length : Int)) := by omega
            have h3 : 0 ≤ (i : Int) ∧ ((i : Int) < ((([] ++ e.2.1) ++ e.2.2.1).length : Int)) := by omega
            simp only [spec_EnvOk.l0, spec_IvOk, br_dec, if_pos h2, if_pos h3, Int.toNat_natCast, List.getElem?_eq_getElem hi, bd_some]
            rw [wrap_succ (by omega), ivOk]
            cases decide ((([] ++ e.2.1) ++ e.2.2.1)[i].1 ≤ (([] ++ e.2.1) ++ e.2.2.1)[i].2.1) <;> simp) (fun G => by
            have h2 : ¬ ((((([] ++ e.2.1) ++ e.2.2.1).length : Nat) : Int) < ((([] ++ e.2.1) ++ e.2.2.1).length : Int)) := by omega
            simp only [spec_EnvOk.l0, br_dec, if_neg h2]) (f := k) (by simp; omega)
          refine Eq.trans h ?_
          unfold ivsOk
          rw [List.nil_append, List.any_append]
          cases e.2.1.any (fun a => !ivOk a) <;> cases e.2.2.1.any (fun a => !ivOk a) <;> rfl

theorem areAllIv_is (k : Nat) (l : List IvT) (hl : l.length ≤ 1048576) (hk : 4194304 < k) : impl_areAll_impl_Interval k (l, (()), ()) = some ((ivsOk l, ()), ((), (()), ())) := by
  obtain ⟨n, h1, h2⟩ := iter_find (b := slices_IndexFunc_impl_Interval_impl_Interval.l0 k) (fun i => (l, (((()), ()), ()), (l.length : Int), (i : Int), ())) l (fun a => !ivOk a) (o := ((), (((()), ()), ()), ())) (fun G i hi => by
    have h2 : ((i : Int) < (l.length : Int)) := by omega
    have h3 : (0 : Int) ≤ (i : Int) := by omega
    simp only [slices_IndexFunc_impl_Interval_impl_Interval.l0, impl_areAll_impl_Interval_1, impl_IvOk, br_dec, if_pos h2, if_pos h3, Int.toNat_natCast, List.getElem?_eq_getElem hi, bd_some]
    rw [wrap_succ (by omega), ivOk]
    cases decide (l[i].1 ≤ l[i].2.1) <;> simp) (fun G => by
    have h2 : ¬ ((l.length : Int) < (l.length : Int)) := by omega
    simp only [slices_IndexFunc_impl_Interval_impl_Interval.l0, br_dec, if_neg h2]) (f := k) (by omega)
  unfold impl_areAll_impl_Interval slices_ContainsFunc_impl_Interval_impl_Interval slices_IndexFunc_impl_Interval_impl_Interval
  have h1' : iter (slices_IndexFunc_impl_Interval_impl_Interval.l0 k) k (l, (((()), ()), ()), (l.length : Int), 0, ()) = some ((n, ()), ((), (((()), ()), ()), ())) := h1
  simp only [h1', bd_some, h2]
  rfl

theorem isEnv_is (k : Nat) (hk : 4194304 < k) (d : DeclT) (e : EnvT) (he : ESmall e) : impl_Decl_isEnv k (d, e, ()) = some ((envFits d e, ()), ((), (), ())) := by
  unfold impl_Decl_isEnv envFits
  cases he1 : e.1 with
  | false =>
    simp only [he1, Bool.not_false, br_true, cond_false]
    cases hz : ((e.2.1.length : Int) == 0) <;> simp
  | true =>
    simp only [he1, Bool.not_true, br_false, cond_true]
    cases h1 : ((e.2.1.length : Int) == (d.1.length : Int)) with
    | false => simp
    | true =>
      cases h2 : ((e.2.2.1.length : Int) == (d.2.2.1.length : Int)) with
      | false => simp
      | true =>
        simp only [areAllIv_is k _ he.n1 hk, areAllIv_is k _ he.n2 hk, br_true, bd_some]
        cases ivsOk e.2.1 <;> simp
end Go.Pev.F
end

section
/-
  Joined words.
-/
set_option linter.unusedVariables false
set_option linter.unusedSimpArgs false
namespace Go.Pev.F
open Go.Lib (join join_nil join_one join_cons joinTail joinTail_take_succ)

theorem join_step (l : Names) (sep : List UInt8) {i : Nat} (hi : i + 1 < l.length) : join (l.take (i + 1 + 1)) sep = (join (l.take (i + 1)) sep ++ sep) ++ l[i + 1] := by
  cases l with
  | nil => simp at hi
  | cons x r =>
    have hr : i < r.length := by simpa using hi
    rw [List.take_succ_cons, List.take_succ_cons, join_cons, join_cons, joinTail_take_succ sep r i r[i] (List.getElem?_eq_getElem hr)]
    simp

theorem join_first (l : Names) (sep : List UInt8) (hi : 0 < l.length) : join (l.take (0 + 1)) sep = l[0] := by
  cases l with
  | nil => simp at hi
  | cons x r => simp [join_one]

theorem join_len (sep : List UInt8) (M : Nat) : ∀ (l : Names), (∀ x ∈ l, x.length ≤ M) → (join l sep).length ≤ l.length * (M + sep.length)
  | [], _ => by simp [join_nil]
  | x :: r, h => by
    have key : ∀ (r : Names), (∀ x ∈ r, x.length ≤ M) → (joinTail sep r).length ≤ r.length * (M + sep.length) := by
      intro r
      induction r with
      | nil => intro _; simp [joinTail]
      | cons y r ih =>
        intro h
        have h1 := ih fun x hx => h x (List.mem_cons_of_mem _ hx)
        have h2 := h y List.mem_cons_self
        simp only [joinTail, List.map_cons, List.flatten_cons, List.length_append, List.length_cons, Nat.add_mul, Nat.one_mul] at h1 ⊢
        omega
    have h1 := key r fun x hx => h x (List.mem_cons_of_mem _ hx)
    have h2 := h x List.mem_cons_self
    rw [join_cons]
    simp only [List.length_append, List.length_cons, Nat.add_mul, Nat.one_mul] at h1 ⊢
    omega

/-- Pairs told one by one read as pairs told together. -/
theorem join_pairs (sep : List UInt8) (l : List (List UInt8 × List UInt8)) : join (l.flatMap fun p => [p.1, p.2]) sep = join (l.map fun p => (p.1 ++ sep) ++ p.2) sep := by
  have key : ∀ (l : List (List UInt8 × List UInt8)), joinTail sep (l.flatMap fun p => [p.1, p.2]) = joinTail sep (l.map fun p => (p.1 ++ sep) ++ p.2) := by
    intro l
    induction l with
    | nil => rfl
    | cons p r ih =>
      simp only [joinTail] at ih
      simp [joinTail, ih]
  cases l with
  | nil => rfl
  | cons p r =>
    have := key r
    simp only [joinTail] at this
    simp only [List.flatMap_cons, List.map_cons, List.cons_append, List.nil_append, join_cons]
    simp [joinTail, this]

theorem l13Joined_is (k : Nat) (l : Names) (sep : List UInt8) (hl : l.length < k) (hk : k ≤ 4611686018427387903) (M : Nat) (hM : ∀ x ∈ l, x.length ≤ M) (hb : l.length * (M + sep.length) ≤ 4611686018427387903) : spec_l13Joined k (l, sep, ()) = some ((join l sep, ()), ((), (), ())) := by
  have hlen : ∀ i, (join (l.take i) sep).length ≤ (l.take i).length * (M + sep.length) := fun i => join_len sep M _ fun x hx => hM x (List.mem_of_mem_take hx)
  have h := iter_for (b := spec_l13Joined.l0 k) (fun i => (l, sep, join (l.take i) sep, (i : Int), ())) l.length (r := some ((join l sep, ()), ((), (), ()))) (fun G i hi => by
    have h2 : ((i : Int) < (l.length : Int)) := by omega
    have h3 : (0 : Int) ≤ (i : Int) := by omega
    have h5 := hlen (i + 1)
    have h6 : (l.take (i + 1)).length * (M + sep.length) ≤ l.length * (M + sep.length) := Nat.mul_le_mul_right _ (by simp; omega)
    simp only [spec_l13Joined.l0, br_dec, if_pos h2, if_pos h3, Int.toNat_natCast, List.getElem?_eq_getElem hi, bd_some]
    rw [wrap_succ (by omega)]
    cases i with
    | zero =>
      have h4 : ¬ (((0 : Nat) : Int) > 0) := by omega
      rw [if_neg h4, join_first l sep hi] 
      rw [join_first l sep hi] at h5
      have h7 : (((join (l.take 0) sep).length + l[0].length : Nat) : Int) ≤ maxInt64 := by
        rw [List.take_zero, join_nil]; simp only [maxInt64, List.length_nil]; omega
      rw [if_pos h7, List.take_zero, join_nil]
      rfl
    | succ i =>
      have h4 : (((i + 1 : Nat) : Int) > 0) := by omega
      rw [join_step l sep hi] at h5 ⊢
      simp only [List.length_append] at h5
      have h7 : (((join (l.take (i + 1)) sep).length + sep.length : Nat) : Int) ≤ maxInt64 := by simp only [maxInt64]; omega
      have h8 : (((join (l.take (i + 1)) sep ++ sep).length + l[i + 1].length : Nat) : Int) ≤ maxInt64 := by simp only [maxInt64, List.length_append]; omega
      rw [if_pos h4, if_pos h7, if_pos h8]) (fun G => by
    have h2 : ¬ ((l.length : Int) < (l.length : Int)) := by omega
    simp only [spec_l13Joined.l0, br_dec, if_neg h2, List.take_length]) hl
  unfold spec_l13Joined
  simp only [List.take_zero, join_nil] at h
  exact h

theorem lbJoin_is (k : Nat) (l : Names) (sep : List UInt8) (M : Nat) (hM : ∀ x ∈ l, x.length ≤ M) (hl : l.length ≤ 140737488355328) (hb : l.length * (M + sep.length) ≤ 140737488355328) : Lb.Join k (l, sep, ()) = some ((join l sep, ()), ((), (), ())) := by
  unfold Lb.Join
  have := join_len sep M l hM
  rw [if_pos ⟨hl, by simp only; omega⟩]
end Go.Pev.F
end

section
/-
  Numbers in decimal: the reference's and the program's are the library's.
-/
set_option linter.unusedVariables false
set_option linter.unusedSimpArgs false
namespace Go.Pev.F
open Go.Lib (decDigits itoa)

theorem dec_step {u : Nat} (h : ¬ u < 10) : decDigits u = decDigits (u / 10) ++ [UInt8.ofNat (48 + u % 10)] := by
  rw [decDigits]; simp [h]
theorem dec_end {u : Nat} (h : u < 10) : decDigits u = [UInt8.ofNat (48 + u)] := by
  rw [decDigits]; simp [h]

theorem decDigits_len : ∀ (f u : Nat), u < 10 ^ (f + 1) → (decDigits u).length ≤ f + 1
  | 0, u, h => by rw [dec_end (by omega)]; simp
  | f + 1, u, h => by
    by_cases hu : u < 10
    · rw [dec_end hu]; simp
    · rw [dec_step hu]
      have := decDigits_len f (u / 10) (by rw [Nat.pow_succ] at h; omega)
      simp; omega

theorem l1Dec_last (k : Nat) (n : Int) (f m : Nat) (s : List UInt8) (hm : m < 10) (h3 : s.length ≤ 100) :
    iter (spec_l1Dec.l0 k) (f + 1) (n, (m : Int), s, ()) = some (((if n < 0 then 45 :: (decDigits m ++ s) else decDigits m ++ s), ()), ((), ())) := by
  have hm' : ¬ ((m : Int) ≥ 10) := by omega
  have e : ((48 + (m : Int)).toNat) = 48 + m := by omega
  rw [iter_succ]
  simp only [spec_l1Dec.l0, br_dec, if_neg hm']
  rw [wrap_u64 (n := 48 + (m : Int)) (by omega) (by omega), wrap_u8 (n := 48 + (m : Int)) (by omega) (by omega), dec_end hm]
  simp only [List.map_cons, List.map_nil, e]
  have l1 : ((([UInt8.ofNat (48 + m)].length + s.length : Nat) : Int) ≤ maxInt64) := by simp [maxInt64]; omega
  have l2 : ((([(45 : UInt8)].length + ([UInt8.ofNat (48 + m)] ++ s).length : Nat) : Int) ≤ maxInt64) := by simp [maxInt64]; omega
  rw [if_pos l1, if_pos l2]
  by_cases hn : n < 0 <;> simp [hn]

theorem l1Dec_round (k : Nat) (n : Int) : ∀ (f m : Nat) (s : List UInt8), m < 10 ^ (f + 1) → (m : Int) < 18446744073709551616 → s.length + (decDigits m).length ≤ 100 →
    iter (spec_l1Dec.l0 k) (f + 1) (n, (m : Int), s, ()) = some (((if n < 0 then 45 :: (decDigits m ++ s) else decDigits m ++ s), ()), ((), ())) := by
  intro f
  induction f with
  | zero => intro m s h _ h3; exact l1Dec_last k n 0 m s (by omega) (by omega)
  | succ f ih =>
    intro m s h h2 h3
    by_cases hm : m < 10
    · exact l1Dec_last k n (f + 1) m s hm (by omega)
    · have hm' : ((m : Int) ≥ 10) := by omega
      have h4 : s.length ≤ 100 := by omega
      rw [iter_succ]
      simp only [spec_l1Dec.l0, br_dec, if_pos hm']
      rw [tmod10 (by omega), tdiv10 (by omega), wrap_u64 (n := 48 + (m : Int) % 10) (by omega) (by omega), wrap_u8 (n := 48 + (m : Int) % 10) (by omega) (by omega), wrap_u64 (n := (m : Int) / 10) (by omega) (by omega)]
      have e1 : (m : Int) / 10 = ((m / 10 : Nat) : Int) := by omega
      have e2 : ((48 + (m : Int) % 10).toNat) = 48 + m % 10 := by omega
      simp only [List.map_cons, List.map_nil, e2, e1]
      have l1 : ((([UInt8.ofNat (48 + m % 10)].length + s.length : Nat) : Int) ≤ maxInt64) := by simp [maxInt64]; omega
      rw [if_pos l1, ih (m / 10) _ (by rw [Nat.pow_succ] at h; omega) (by omega) (by rw [dec_step (u := m) hm] at h3; simp at h3 ⊢; omega), dec_step (u := m) hm]
      simp

theorem l1Dec_is (k : Nat) (hk : 20 ≤ k) (n : Int) (h0 : -9223372036854775808 ≤ n) (h1 : n ≤ 9223372036854775807) : spec_l1Dec k (n, ()) = some ((itoa n, ()), ((), ())) := by
  obtain ⟨j, rfl⟩ : ∃ j, k = j + 1 := ⟨k - 1, by omega⟩
  have big : ∀ (m : Nat), (m : Int) < 18446744073709551616 → m < 10 ^ (j + 1) := fun m hm => Nat.lt_of_lt_of_le (show m < 10 ^ 20 by omega) (Nat.pow_le_pow_right (by decide) (by omega))
  unfold spec_l1Dec
  simp only [br_dec]
  unfold itoa
  by_cases hn : n < 0
  · rw [if_pos hn, if_pos hn, wrap_u64_neg h0 hn]
    have e : IntKind.wrap .u64 (0 - (n + 18446744073709551616)) = ((n.natAbs : Nat) : Int) := by
      simp [IntKind.wrap, IntKind.bits, IntKind.signed]
      omega
    rw [e]
    rw [l1Dec_round (j + 1) n j n.natAbs [] (big _ (by omega)) (by omega) (by have := decDigits_len 19 n.natAbs (by omega); simp; omega)]
    simp [hn]
  · rw [if_neg hn, if_neg hn, wrap_u64 (by omega) (by omega)]
    have e : n = ((n.toNat : Nat) : Int) := by omega
    have := l1Dec_round (j + 1) n j n.toNat [] (big _ (by omega)) (by omega) (by have := decDigits_len 19 n.toNat (by omega); simp; omega)
    rw [← e] at this
    rw [this]
    simp [hn]

theorem itoa_len (n : Int) (h0 : -9223372036854775808 ≤ n) (h1 : n ≤ 9223372036854775807) : (itoa n).length ≤ 21 := by
  unfold itoa
  split
  · have := decDigits_len 19 n.natAbs (by omega); simp; omega
  · have := decDigits_len 19 n.toNat (by omega); omega

theorem decimal_is (k : Nat) (n : Int) (h0 : -9223372036854775808 ≤ n) (h1 : n ≤ 9223372036854775807) : impl_decimal k (n, ()) = some ((itoa n, ()), ((), ())) := by
  unfold impl_decimal Lb.FormatInt
  simp [h0, h1]
end Go.Pev.F
end

section
/-
  An environment's text, as both write it.
-/
set_option linter.unusedVariables false
set_option linter.unusedSimpArgs false
namespace Go.Pev.F
open Go.Lib (itoa join)

def ivT (a : IvT) : List UInt8 := (itoa a.1 ++ [46, 46]) ++ itoa a.2.1
def IvFits (a : IvT) : Prop := (-9223372036854775808 ≤ a.1 ∧ a.1 ≤ 9223372036854775807) ∧ (-9223372036854775808 ≤ a.2.1 ∧ a.2.1 ≤ 9223372036854775807)

theorem ivT_len {a : IvT} (ha : IvFits a) : (ivT a).length ≤ 44 := by
  have h1 := itoa_len a.1 ha.1.1 ha.1.2
  have h2 := itoa_len a.2.1 ha.2.1 ha.2.2
  simp [ivT]; omega

theorem l13Iv_is (k : Nat) (hk : 20 ≤ k) (a : IvT) (ha : IvFits a) : spec_l13Iv k (a, ()) = some ((ivT a, ()), ((), ())) := by
  have h1 := itoa_len a.1 ha.1.1 ha.1.2
  have h2 := itoa_len a.2.1 ha.2.1 ha.2.2
  have l1 : (((itoa a.1).length + ([46, 46] : List UInt8).length : Nat) : Int) ≤ maxInt64 := by simp [maxInt64]; omega
  have l2 : (((itoa a.1 ++ [46, 46]).length + (itoa a.2.1).length : Nat) : Int) ≤ maxInt64 := by simp [maxInt64]; omega
  unfold spec_l13Iv
  simp only [l1Dec_is k hk a.1 ha.1.1 ha.1.2, bd_some, br_dec, if_pos l1]
  rw [l1Dec_is k hk a.2.1 ha.2.1 ha.2.2]
  simp only [bd_some, if_pos l2]
  rfl

def told (p : List UInt8 × List UInt8) : List UInt8 := (p.1 ++ [32]) ++ p.2
def both (p : List UInt8 × List UInt8) : Names := [p.1, p.2]

theorem map_next {α β : Type} (f : α → β) {l : List α} {i : Nat} (hi : i < l.length) : (l.take (i + 1)).map f = (l.take i).map f ++ [f l[i]] := by
  rw [← List.take_append_getElem hi, List.map_append]; rfl

theorem flat_next {α β : Type} (f : α → List β) {l : List α} {i : Nat} (hi : i < l.length) : (l.take (i + 1)).flatMap f = (l.take i).flatMap f ++ f l[i] := by
  rw [← List.take_append_getElem hi, List.flatMap_append]; simp

def zero (d : DeclT) (e : EnvT) : List (List UInt8 × List UInt8) := d.1.zip (e.2.1.map ivT)
def ones (d : DeclT) (e : EnvT) : List (List UInt8 × List UInt8) := (d.2.2.1.map (·.1)).zip (e.2.2.1.map ivT)
def envT (d : DeclT) (e : EnvT) : List UInt8 :=
  cond e.1 (cond ((((zero d e ++ ones d e).map told).length : Int) == 0) [97, 108, 108] (join ((zero d e ++ ones d e).map told) [32])) [110, 111, 110, 101]

structure Fine (d : DeclT) (e : EnvT) : Prop where
  l0 : d.1.length ≤ 5
  l2 : d.2.2.1.length ≤ 2
  e1 : e.2.1.length = d.1.length
  e2 : e.2.2.1.length = d.2.2.1.length
  f1 : ∀ a ∈ e.2.1, IvFits a
  f2 : ∀ a ∈ e.2.2.1, IvFits a

theorem fine_of {d : DeclT} {e : EnvT} (h : envOk d e = true) (he : e.1 = true) (hw : envKd.WF e) : Fine d e := by
  simp only [envOk, declOk, envFits, he, cond_true, Bool.and_eq_true, decide_eq_true_eq, beq_iff_eq] at h
  obtain ⟨⟨⟨h0, h1, h2⟩, _⟩, h3, h4, _⟩ := h
  obtain ⟨_, ⟨_, b2⟩, ⟨_, c2⟩, _⟩ := hw
  exact ⟨h0, h2, by omega, by omega, fun a ha => ⟨(b2 a ha).1, (b2 a ha).2.1⟩, fun a ha => ⟨(c2 a ha).1, (c2 a ha).2.1⟩⟩

theorem told_len {d : DeclT} {e : EnvT} (hd : DSmall d) (hf : Fine d e) : ∀ p ∈ zero d e ++ ones d e, p.1.length ≤ 1048576 ∧ p.2.length ≤ 44 := by
  intro p hp
  rcases List.mem_append.1 hp with hp | hp
  · have h := List.of_mem_zip hp
    obtain ⟨a, ha, e⟩ := List.mem_map.1 h.2
    exact ⟨hd.s0 _ h.1, e ▸ ivT_len (hf.f1 a ha)⟩
  · have h := List.of_mem_zip hp
    obtain ⟨a, ha, e⟩ := List.mem_map.1 h.2
    obtain ⟨b, hb, e'⟩ := List.mem_map.1 h.1
    exact ⟨e' ▸ hd.s2 b hb, e ▸ ivT_len (hf.f2 a ha)⟩

theorem l13Env_l2 (k : Nat) (hk : 4194304 < k) (hk2 : k ≤ 4611686018427387903) (d : DeclT) (hd : DSmall d) (e : EnvT) (hf : Fine d e) (he : e.1 = true) :
    iter (spec_l13Env.l2 k) k ((d.1, d.2.1, d.2.2.1, ()), (e.1, e.2.1, e.2.2.1, ()), (zero d e).map told, 0, ()) = some ((envT d e, ()), ((), (), ())) := by
  have l0 := hf.l0
  have l2 := hf.l2
  have x1 := hf.e1
  have x2 := hf.e2
  have z0 : (zero d e).length = d.1.length := by simp [zero]; omega
  have z1 : (ones d e).length = d.2.2.1.length := by simp [ones]; omega
  have h := iter_for (b := spec_l13Env.l2 k) (fun i => ((d.1, d.2.1, d.2.2.1, ()), (e.1, e.2.1, e.2.2.1, ()), (zero d e).map told ++ ((ones d e).take i).map told, (i : Int), ())) e.2.2.1.length (r := some ((envT d e, ()), ((), (), ()))) (fun G i hi => by
    have hi2 : i < d.2.2.1.length := by omega
    have hi3 : i < (ones d e).length := by omega
    have h2 : ((i : Int) < (e.2.2.1.length : Int)) := by omega
    have h3 : (0 : Int) ≤ (i : Int) := by omega
    have s1 := hd.s2 d.2.2.1[i] (List.getElem_mem _)
    have hfi := hf.f2 e.2.2.1[i] (List.getElem_mem _)
    have s2 := ivT_len hfi
    have h4 : (((d.2.2.1[i].1.length + ([32] : List UInt8).length : Nat) : Int) ≤ maxInt64) := by simp [maxInt64]; omega
    have h5 : ((((d.2.2.1[i].1 ++ [32]).length + (ivT e.2.2.1[i]).length : Nat) : Int) ≤ maxInt64) := by simp [maxInt64]; omega
    have h6 : (((zero d e).map told ++ ((ones d e).take i).map told).length + ([(d.2.2.1[i].1 ++ [32]) ++ ivT e.2.2.1[i]] : List (List UInt8)).length) * 16 ≤ maxBytes := by simp [maxBytes]; omega
    have eo : told (ones d e)[i] = (d.2.2.1[i].1 ++ [32]) ++ ivT e.2.2.1[i] := by simp [ones, told]
    simp only [spec_l13Env.l2, br_dec, if_pos h2, if_pos h3, Int.toNat_natCast, List.getElem?_eq_getElem hi, List.getElem?_eq_getElem hi2, bd_some, if_pos h4, l13Iv_is k (by omega) e.2.2.1[i] hfi, if_pos h5, if_pos h6]
    rw [wrap_succ (by omega), map_next told hi3, eo, List.append_assoc (bs := List.map _ _)]) (fun G => by
    have h2 : ¬ ((e.2.2.1.length : Int) < (e.2.2.1.length : Int)) := by omega
    have ht : (ones d e).take e.2.2.1.length = ones d e := by rw [List.take_of_length_le (by omega)]
    have hlen : ((zero d e ++ ones d e).map told).length = d.1.length + d.2.2.1.length := by simp; omega
    have hj := l13Joined_is k ((zero d e ++ ones d e).map told) [32] (by omega) hk2 1048700 (fun x hx => by
      obtain ⟨p, hp, rfl⟩ := List.mem_map.1 hx
      have := told_len hd hf p hp
      simp [told]; omega) (by rw [hlen]; exact Nat.le_trans (Nat.mul_le_mul_right _ (show d.1.length + d.2.2.1.length ≤ 7 by omega)) (by decide))
    simp only [spec_l13Env.l2, br_dec, if_neg h2, ht, ← List.map_append, hj, bd_some, envT, he, cond_true]
    cases ((((zero d e ++ ones d e).map told).length : Int) == 0) <;> simp) (f := k) (by omega)
  simp only [List.take_zero, List.map_nil, List.append_nil] at h
  exact h

theorem l13Env_is (k : Nat) (hk : 4194304 < k) (hk2 : k ≤ 4611686018427387903) (d : DeclT) (hd : DSmall d) (e : EnvT) (hf : e.1 = true → Fine d e) : spec_l13Env k (d, e, ()) = some ((envT d e, ()), ((), (), ())) := by
  unfold spec_l13Env
  cases he : e.1 with
  | false => simp [he, envT]
  | true =>
    have hf := hf he
    have l0 := hf.l0
    have l2 := hf.l2
    have x1 := hf.e1
    have z0 : (zero d e).length = d.1.length := by simp [zero]; omega
    simp only [he, Bool.not_true, br_false]
    have h := iter_for (b := spec_l13Env.l0 k) (fun i => ((d.1, d.2.1, d.2.2.1, ()), (e.1, e.2.1, e.2.2.1, ()), ((zero d e).take i).map told, (i : Int), ())) e.2.1.length (r := some ((envT d e, ()), ((), (), ()))) (fun G i hi => by
      have hi2 : i < d.1.length := by omega
      have hi3 : i < (zero d e).length := by omega
      have h2 : ((i : Int) < (e.2.1.length : Int)) := by omega
      have h3 : (0 : Int) ≤ (i : Int) := by omega
      have s1 := hd.s0 d.1[i] (List.getElem_mem _)
      have hfi := hf.f1 e.2.1[i] (List.getElem_mem _)
      have s2 := ivT_len hfi
      have h4 : (((d.1[i].length + ([32] : List UInt8).length : Nat) : Int) ≤ maxInt64) := by simp [maxInt64]; omega
      have h5 : ((((d.1[i] ++ [32]).length + (ivT e.2.1[i]).length : Nat) : Int) ≤ maxInt64) := by simp [maxInt64]; omega
      have h6 : ((((zero d e).take i).map told).length + ([(d.1[i] ++ [32]) ++ ivT e.2.1[i]] : List (List UInt8)).length) * 16 ≤ maxBytes := by simp [maxBytes]; omega
      have eo : told (zero d e)[i] = (d.1[i] ++ [32]) ++ ivT e.2.1[i] := by simp [zero, told]
      simp only [spec_l13Env.l0, br_dec, if_pos h2, if_pos h3, Int.toNat_natCast, List.getElem?_eq_getElem hi, List.getElem?_eq_getElem hi2, bd_some, if_pos h4, l13Iv_is k (by omega) e.2.1[i] hfi, if_pos h5, if_pos h6]
      rw [wrap_succ (by omega), map_next told hi3, eo]) (fun G => by
      have h2 : ¬ ((e.2.1.length : Int) < (e.2.1.length : Int)) := by omega
      have ht : (zero d e).take e.2.1.length = zero d e := by rw [List.take_of_length_le (by omega)]
      simp only [spec_l13Env.l0, br_dec, if_neg h2, ht]
      exact l13Env_l2 k hk hk2 d hd e hf he) (f := k) (by omega)
    simp only [List.take_zero, List.map_nil, he] at h
    exact h

/-! ### The program -/

theorem named_is (k : Nat) (hk : 4194304 < k) (ns : Names) (l : List IvT) (hl : l.length ≤ 5) (hn : l.length ≤ ns.length) (hf : ∀ a ∈ l, IvFits a) : impl_named k (ns, l, ()) = some (((ns.zip (l.map ivT)).flatMap both, ()), ((), (), ())) := by
  have z0 : (ns.zip (l.map ivT)).length = l.length := by simp; omega
  have h := iter_for (b := impl_named.l0 k) (fun i => (ns, ((ns.zip (l.map ivT)).take i).flatMap both, l, (l.length : Int), (i : Int), ())) l.length (r := some (((ns.zip (l.map ivT)).flatMap both, ()), ((), (), ()))) (fun G i hi => by
    have hi2 : i < ns.length := by omega
    have hi3 : i < (ns.zip (l.map ivT)).length := by omega
    have h2 : ((i : Int) < (l.length : Int)) := by omega
    have h3 : (0 : Int) ≤ (i : Int) := by omega
    have hfi := hf l[i] (List.getElem_mem _)
    have i1 := itoa_len l[i].1 hfi.1.1 hfi.1.2
    have i2 := itoa_len l[i].2.1 hfi.2.1 hfi.2.2
    have h4 : (((itoa l[i].1).length + ([46, 46] : List UInt8).length : Nat) : Int) ≤ maxInt64 := by simp [maxInt64]; omega
    have h5 : (((itoa l[i].1 ++ [46, 46]).length + (itoa l[i].2.1).length : Nat) : Int) ≤ maxInt64 := by simp [maxInt64]; omega
    have hb : ∀ (z : List (List UInt8 × List UInt8)), (z.flatMap both).length = 2 * z.length := by
      intro z
      induction z with
      | nil => rfl
      | cons p r ih => simp [both] at ih ⊢; omega
    have h6 : ((((ns.zip (l.map ivT)).take i).flatMap both).length + ([ns[i], (itoa l[i].1 ++ [46, 46]) ++ itoa l[i].2.1] : List (List UInt8)).length) * 16 ≤ maxBytes := by
      rw [hb]; simp [maxBytes]; omega
    have eo : both (ns.zip (l.map ivT))[i] = [ns[i], (itoa l[i].1 ++ [46, 46]) ++ itoa l[i].2.1] := by simp [both, ivT]
    simp only [impl_named.l0, br_dec, if_pos h2, if_pos h3, Int.toNat_natCast, List.getElem?_eq_getElem hi, List.getElem?_eq_getElem hi2, bd_some, decimal_is k l[i].1 hfi.1.1 hfi.1.2, if_pos h4, decimal_is k l[i].2.1 hfi.2.1 hfi.2.2, if_pos h5, if_pos h6]
    rw [wrap_succ (by omega), flat_next both hi3, eo]) (fun G => by
    have h2 : ¬ ((l.length : Int) < (l.length : Int)) := by omega
    have ht : (ns.zip (l.map ivT)).take l.length = ns.zip (l.map ivT) := by rw [List.take_of_length_le (by omega)]
    simp only [impl_named.l0, br_dec, if_neg h2, ht]) (f := k) (by omega)
  unfold impl_named
  simp only [List.take_zero, List.flatMap_nil] at h
  exact h

theorem implEnvT_is (k : Nat) (hk : 4194304 < k) (hk2 : k ≤ 4611686018427387903) (d : DeclT) (hd : DSmall d) (e : EnvT) (hf : e.1 = true → Fine d e) : impl_Decl_envText k (d, e, ()) = some ((envT d e, ()), ((), (), ())) := by
  unfold impl_Decl_envText
  cases he : e.1 with
  | false => simp [he, envT]
  | true =>
    have hf := hf he
    have l0 := hf.l0
    have l2 := hf.l2
    have x1 := hf.e1
    have x2 := hf.e2
    have n1 := hd.n1
    have hb : ∀ (z : List (List UInt8 × List UInt8)), (z.flatMap both).length = 2 * z.length := by
      intro z
      induction z with
      | nil => rfl
      | cons p r ih => simp [both] at ih ⊢; omega
    have ew : IntKind.wrap .i64 ((d.1.length : Int) + (d.2.1.length : Int)) = ((d.1.length + d.2.1.length : Nat) : Int) := by rw [wrap_i64 (by omega) (by omega)]; omega
    have hnl : (namesOf d).length = d.1.length + d.2.1.length + d.2.2.1.length := by simp [namesOf]; omega
    have h2 : 0 ≤ ((d.1.length + d.2.1.length : Nat) : Int) ∧ ((d.1.length + d.2.1.length : Nat) : Int) ≤ ((namesOf d).length : Int) := by omega
    have es : subL (namesOf d) (d.1.length + d.2.1.length) ((namesOf d).length - (d.1.length + d.2.1.length)) = d.2.2.1.map (·.1) := by
      simp only [subL, namesOf]
      rw [List.drop_append_of_le_length (by simp), List.drop_of_length_le (by simp), List.nil_append, List.take_of_length_le (by simp; omega)]
    have z0 : (zero d e).length = d.1.length := by simp [zero]; omega
    have z1 : (ones d e).length = d.2.2.1.length := by simp [ones]; omega
    have nm1 := named_is k hk d.1 e.2.1 (by omega) (by omega) hf.f1
    have nm2 := named_is k hk (d.2.2.1.map (·.1)) e.2.2.1 (by omega) (by simp; omega) hf.f2
    have h3 : (((zero d e).flatMap both).length + ((ones d e).flatMap both).length) * 16 ≤ maxBytes := by rw [hb, hb]; simp only [maxBytes]; omega
    change impl_named k (d.1, e.2.1, ()) = some (((zero d e).flatMap both, ()), ((), (), ())) at nm1
    change impl_named k (d.2.2.1.map (·.1), e.2.2.1, ()) = some (((ones d e).flatMap both, ()), ((), (), ())) at nm2
    have hj := lbJoin_is k ((zero d e).flatMap both ++ (ones d e).flatMap both) [32] 1048576 (fun x hx => by
      rw [← List.flatMap_append] at hx
      obtain ⟨p, hp, hx⟩ := List.mem_flatMap.1 hx
      have := told_len hd hf p hp
      simp only [both, List.mem_cons, List.not_mem_nil, or_false] at hx
      rcases hx with rfl | rfl <;> omega) (by rw [List.length_append, hb, hb]; omega) (by rw [List.length_append, hb, hb]; exact Nat.le_trans (Nat.mul_le_mul_right _ (show 2 * (zero d e).length + 2 * (ones d e).length ≤ 14 by omega)) (by decide))
    have el : ((((zero d e).flatMap both ++ (ones d e).flatMap both).length : Int) == 0) = ((((zero d e ++ ones d e).map told).length : Int) == 0) := by
      rw [Bool.eq_iff_iff, beq_iff_eq, beq_iff_eq, List.length_append, hb, hb, List.length_map, List.length_append]; omega
    have ej : join ((zero d e).flatMap both ++ (ones d e).flatMap both) [32] = join ((zero d e ++ ones d e).map told) [32] := by
      rw [← List.flatMap_append]; exact join_pairs [32] _
    simp only [he, Bool.not_true, br_false, names_is k hk hk2 d hd, bd_some, nm1, br_dec, ew, if_pos h2, Int.toNat_natCast, es, nm2, if_pos h3, hj, el, ej, envT, cond_true]
    cases ((((zero d e ++ ones d e).map told).length : Int) == 0) <;> simp
end Go.Pev.F
end

section
/-
  Draws of declarations, intervals and bounds: they always give something, and it fits.
-/
set_option linter.unusedVariables false
set_option linter.unusedSimpArgs false
namespace Go.Pev.F

abbrev RdT : Type := List Int × Int × Unit

def Fits (n : Int) : Prop := -9223372036854775808 ≤ n ∧ n ≤ 9223372036854775807

theorem t_open {code : List Int} (k : Nat) (h1 : code.length ≤ 140737488351232) (h2 : ∀ x ∈ code, 0 ≤ x ∧ x ≤ 255) : Tot (spec_l1Open k (code, ())) fun y => RdOk y.1.1 := by
  unfold spec_l1Open
  exact Tot.ret (rd_open h1 h2)

theorem t_below (k : Nat) {r : RdT} (h : RdOk r) (n : Int) : Tot (spec_l1Rd_below k (r, n, ())) fun y => (0 ≤ y.1.1 ∧ y.1.1 ≤ 65535 ∧ (1 ≤ n → y.1.1 < n)) ∧ RdOk y.2.1 := by
  obtain ⟨v, r', e, h0, h1, h2, hr, _⟩ := rd_below k h n
  exact ⟨_, e, ⟨h0, h1, h2⟩, hr⟩

theorem t_once (k : Nat) {r : RdT} (h : RdOk r) (n : Int) : Tot (spec_l1Rd_once k (r, n, ())) fun y => RdOk y.2.1 := by
  obtain ⟨v, r', e, hr, _⟩ := rd_once k h n
  exact ⟨_, e, hr⟩

theorem t_word (k : Nat) (hk : 9 ≤ k) {r : RdT} (h : RdOk r) : Tot (spec_l1Rd_word k (r, ())) fun y => (0 ≤ y.1.1 ∧ y.1.1 < 18446744073709551616) ∧ RdOk y.2.1 := by
  obtain ⟨v, r', e, hv, hr, _⟩ := rd_word k hk h
  exact ⟨_, e, hv, hr⟩

theorem t_off (k : Nat) (hk : 9 ≤ k) {r : RdT} (h : RdOk r) {lo hi : Int} (h1 : -4611686018427387903 ≤ lo) (h2 : lo ≤ hi) (h3 : hi ≤ 4611686018427387903) : Tot (spec_l1Rd_off k (r, lo, hi, ())) fun y => Fits y.1.1 ∧ RdOk y.2.1 := by
  obtain ⟨v, r', e, hv, hr, _⟩ := rd_off k hk h h1 h2 h3
  exact ⟨_, e, hv, hr⟩

theorem t_num (k : Nat) (hk : 9 ≤ k) {r : RdT} (h : RdOk r) : Tot (spec_l1Rd_num k (r, ())) fun y => Fits y.1.1 ∧ RdOk y.2.1 := by
  obtain ⟨b, p, ⟨⟩⟩ := r
  unfold spec_l1Rd_num
  refine Tot.bd (t_below k h 6) fun y1 h1 => Tot.br (fun _ => ?_) fun _ => Tot.br (fun _ => ?_) fun _ => Tot.br (fun _ => ?_) fun _ => ?_
  · refine Tot.bd (t_below k h1.2 10) fun y2 h2 => ?_
    have b2 := h2.1.2.2 (by omega)
    have b0 := h2.1.1
    refine Tot.chk (by simp only [List.length_cons, List.length_nil]; omega) (Tot.get (by simp only [List.length_cons, List.length_nil]; omega) fun x hx _ => Tot.ret ⟨?_, h2.2⟩)
    simp only [List.mem_cons, List.not_mem_nil, or_false] at hx
    simp only [Fits]
    omega
  · refine Tot.bd (t_word k hk h1.2) fun y4 h4 => Tot.ret ⟨wrap_i64_fits _, h4.2⟩
  · refine Tot.bd (t_word k hk h1.2) fun y5 h5 => Tot.bd (t_below k h5.2 60) fun y6 h6 => ?_
    have b2 := h6.1.2.2 (by omega)
    have b0 := h6.1.1
    have w : IntKind.wrap .u64 y6.1.1 = y6.1.1 := wrap_u64 b0 (by omega)
    rw [w]
    refine Tot.chk b0 (Tot.ret ⟨?_, h6.2⟩)
    obtain ⟨f0, f1⟩ := wrap_i64_fits y5.1.1
    generalize IntKind.wrap .i64 y5.1.1 = z at f0 f1
    have hp : (1 : Int) ≤ 2 ^ (min y6.1.1.toNat 64) := by
      have := Nat.one_le_two_pow (n := min y6.1.1.toNat 64)
      exact_mod_cast this
    generalize (2 : Int) ^ (min y6.1.1.toNat 64) = q at hp
    simp only [Fits]
    rw [Int.fdiv_eq_ediv_of_nonneg _ (by omega)]
    have h3 := Int.natAbs_ediv_le_natAbs z q
    by_cases hz : 0 ≤ z
    · have h4 := Int.ediv_nonneg hz (show 0 ≤ q by omega)
      generalize z / q = y at h3 h4
      omega
    · have h4 := Int.ediv_neg_of_neg_of_pos (show z < 0 by omega) (show 0 < q by omega)
      generalize z / q = y at h3 h4
      omega
  · refine Tot.bd (t_below k h1.2 41) fun y7 h7 => Tot.ret ⟨wrap_i64_fits _, h7.2⟩

theorem t_numAdd (k : Nat) (a b : Int) : Tot (spec_NumAdd k (a, b, ())) fun y => Fits y.1.1 := by
  unfold spec_NumAdd
  refine Tot.bind (P := fun _ => True) (Tot.dec (fun _ => Tot.ret trivial) fun _ => Tot.ret trivial) fun j1 _ => Tot.br (fun _ => Tot.ret (by simp [Fits])) fun _ => ?_
  refine Tot.bind (P := fun _ => True) (Tot.dec (fun _ => Tot.ret trivial) fun _ => Tot.ret trivial) fun j2 _ => Tot.br (fun _ => Tot.ret (by simp [Fits])) fun _ => ?_
  exact Tot.ret (wrap_i64_fits _)

theorem t_iv (k : Nat) (hk : 9 ≤ k) {r : RdT} (h : RdOk r) : Tot (spec_l1Rd_iv k (r, ())) fun y => IvFits y.1.1 ∧ RdOk y.2.1 := by
  obtain ⟨b, p, ⟨⟩⟩ := r
  unfold spec_l1Rd_iv
  refine Tot.bd (t_num k hk h) fun y1 h1 => Tot.bd (t_below k h1.2 4) fun y2 h2 => ?_
  have fin : ∀ (a b : Int) (r : RdT), Fits a → Fits b → RdOk r → Tot (some (((a, b, ()), ()), (r, ()))) fun y : ((Int × Int × Unit) × Unit) × RdT × Unit => IvFits y.1.1 ∧ RdOk y.2.1 := fun a b r ha hb hr => Tot.ret ⟨⟨ha, hb⟩, hr⟩
  refine Tot.br (fun _ => ?_) fun _ => Tot.br (fun _ => Tot.br (fun _ => ?_) fun _ => ?_) fun _ => Tot.br (fun _ => ?_) fun _ => ?_
  · refine Tot.bd (t_num k hk h2.2) fun y3 h3 => Tot.dec (fun _ => Tot.bd (t_once k h3.2 12) fun y4 h4 => Tot.br (fun _ => ?_) fun _ => ?_) fun _ => ?_
    · exact fin _ _ _ h3.1 h1.1 h4
    · exact fin _ _ _ h1.1 h3.1 h4
    · exact fin _ _ _ h1.1 h3.1 h3.2
  · refine Tot.bd (t_below k h2.2 30) fun y5 h5 => Tot.bd (t_numAdd k _ _) fun y6 h6 => Tot.dec (fun _ => Tot.dec (fun _ => Tot.bd (t_once k h5.2 12) fun y7 h7 => Tot.br (fun _ => ?_) fun _ => ?_) fun _ => ?_) fun _ => Tot.dec (fun _ => Tot.bd (t_once k h5.2 12) fun y8 h8 => Tot.br (fun _ => ?_) fun _ => ?_) fun _ => ?_
    · exact fin _ _ _ h1.1 h1.1 h7
    · exact fin _ _ _ h1.1 h1.1 h7
    · exact fin _ _ _ h1.1 h1.1 h5.2
    · exact fin _ _ _ h6 h1.1 h8
    · exact fin _ _ _ h1.1 h6 h8
    · exact fin _ _ _ h1.1 h6 h5.2
  · refine Tot.dec (fun _ => Tot.bd (t_once k h2.2 12) fun y9 h9 => Tot.br (fun _ => ?_) fun _ => ?_) fun _ => ?_
    · exact fin _ _ _ h1.1 h1.1 h9
    · exact fin _ _ _ h1.1 h1.1 h9
    · exact fin _ _ _ h1.1 h1.1 h2.2
  · refine Tot.bd (t_below k h2.2 30) fun y5 h5 => Tot.bd (t_numAdd k _ _) fun y6 h6 => Tot.dec (fun _ => Tot.dec (fun _ => Tot.bd (t_once k h5.2 12) fun y7 h7 => Tot.br (fun _ => ?_) fun _ => ?_) fun _ => ?_) fun _ => Tot.dec (fun _ => Tot.bd (t_once k h5.2 12) fun y8 h8 => Tot.br (fun _ => ?_) fun _ => ?_) fun _ => ?_
    · exact fin _ _ _ h1.1 h1.1 h7
    · exact fin _ _ _ h1.1 h1.1 h7
    · exact fin _ _ _ h1.1 h1.1 h5.2
    · exact fin _ _ _ h6 h1.1 h8
    · exact fin _ _ _ h1.1 h6 h8
    · exact fin _ _ _ h1.1 h6 h5.2
  · refine Tot.dec (fun _ => Tot.bd (t_once k h2.2 12) fun y9 h9 => Tot.br (fun _ => ?_) fun _ => ?_) fun _ => ?_
    · exact fin _ _ _ h1.1 h1.1 h9
    · exact fin _ _ _ h1.1 h1.1 h9
    · exact fin _ _ _ h1.1 h1.1 h2.2

theorem t_small (k : Nat) (hk : 9 ≤ k) {r : RdT} (h : RdOk r) : Tot (spec_l1Rd_small k (r, ())) fun y => IvFits y.1.1 ∧ RdOk y.2.1 := by
  obtain ⟨b, p, ⟨⟩⟩ := r
  unfold spec_l1Rd_small
  refine Tot.bd (t_once k h 6) fun y1 h1 => Tot.br (fun _ => ?_) fun _ => ?_
  · refine Tot.bd (t_iv k hk h1) fun y2 h2 => Tot.ret ⟨⟨?_, ?_⟩, h2.2⟩
    · obtain ⟨⟨a1, a2⟩, b1, b2⟩ := h2.1
      dsimp only
      split <;> omega
    · obtain ⟨⟨a1, a2⟩, b1, b2⟩ := h2.1
      dsimp only
      split <;> omega
  · exact Tot.bd (t_below k h1 20) fun y3 h3 => Tot.bd (t_below k h3.2 9) fun y4 h4 => Tot.ret ⟨⟨wrap_i64_fits _, wrap_i64_fits _⟩, h4.2⟩

/-- A drawn declaration. -/
structure DDr (d : DeclT) : Prop where
  s : DSmall d
  n0 : d.1.length ≤ 5
  n1 : d.2.1.length ≤ 3
  n2 : d.2.2.1.length ≤ 1

theorem ddr_of (a b : Names) (hb : b = [[98], [99], [102]]) (ha : a = [[120], [121], [105], [110], [107]]) (i j : Nat) (c : List ArrT) (hc : c.length ≤ 1) (hs : ∀ x ∈ c, x.1.length ≤ 1048576) : DDr (subL a 0 i, subL b 0 j, c, ()) := by
  have la := (subL_lens a 0 i).2
  have lb := (subL_lens b 0 j).2
  have sa : ∀ x ∈ subL a 0 i, x.length ≤ 1048576 := fun x hx => by
    have := subL_memb hx
    rw [ha] at this
    simp only [List.mem_cons, List.not_mem_nil, or_false] at this
    rcases this with rfl | rfl | rfl | rfl | rfl <;> decide
  have sb : ∀ x ∈ subL b 0 j, x.length ≤ 1048576 := fun x hx => by
    have := subL_memb hx
    rw [hb] at this
    simp only [List.mem_cons, List.not_mem_nil, or_false] at this
    rcases this with rfl | rfl | rfl <;> decide
  rw [ha] at la sa
  rw [hb] at lb sb
  rw [ha, hb]
  simp only [List.length_cons, List.length_nil] at la lb
  exact ⟨⟨by simp only; omega, sa, by simp only; omega, sb, by simp only; omega, hs⟩, by simp only; omega, by simp only; omega, hc⟩

theorem t_decl (k : Nat) (hk : 9 ≤ k) {r : RdT} (h : RdOk r) : Tot (spec_l1Rd_decl k (r, ())) fun y => DDr y.1.1 ∧ RdOk y.2.1 := by
  obtain ⟨b, p, ⟨⟩⟩ := r
  unfold spec_l1Rd_decl
  refine Tot.bd (t_below k h 4) fun y1 h1 => ?_
  obtain ⟨⟨a0, _, a1⟩, r1⟩ := h1
  have a2 := a1 (by omega)
  have w1 : IntKind.wrap .i64 (1 + y1.1.1) = 1 + y1.1.1 := wrap_i64 (by omega) (by omega)
  rw [w1]
  refine Tot.chk (by simp only [List.length_cons, List.length_nil]; omega) (Tot.bd (t_below k r1 2) fun y2 h2 => ?_)
  obtain ⟨⟨b0, _, b1⟩, r2⟩ := h2
  have b2 := b1 (by omega)
  have w2 : IntKind.wrap .i64 (1 + y2.1.1) = 1 + y2.1.1 := wrap_i64 (by omega) (by omega)
  rw [w2]
  refine Tot.chk (by simp only [List.length_cons, List.length_nil]; omega) (Tot.bd (t_once k r2 3) fun y3 r3 => Tot.br (fun _ => ?_) fun _ => ?_)
  · refine Tot.bd (t_below k r3 4) fun y4 h4 => ?_
    obtain ⟨⟨c0, _, c1⟩, r4⟩ := h4
    have c2 := c1 (by omega)
    refine Tot.chk (by simp only [List.length_cons, List.length_nil]; omega) (Tot.bd (t_once k r4 2) fun y5 r5 => Tot.br (fun _ => ?_) fun _ => ?_)
    · refine Tot.bd (t_below k r5 6) fun y6 h6 => Tot.ret ⟨ddr_of _ _ rfl rfl _ _ _ (by simp) (by simp), h6.2⟩
    · exact Tot.ret ⟨ddr_of _ _ rfl rfl _ _ _ (by simp) (by simp), r5⟩
  · refine Tot.bd (t_once k r3 2) fun y7 r7 => Tot.br (fun _ => ?_) fun _ => ?_
    · refine Tot.bd (t_below k r7 6) fun y8 h8 => Tot.ret ⟨ddr_of _ _ rfl rfl _ _ _ (by simp) (by simp), h8.2⟩
    · exact Tot.ret ⟨ddr_of _ _ rfl rfl _ _ _ (by simp) (by simp), r7⟩

/-- Drawn bounds: of a declaration's size, or none. -/
structure EDr (n m : Nat) (e : EnvT) : Prop where
  s : (e.1 = true ∧ e.2.1.length = n ∧ e.2.2.1.length = m) ∨ (e.1 = false ∧ e.2.1.length = 0 ∧ e.2.2.1.length = 0)
  f1 : ∀ a ∈ e.2.1, IvFits a
  f2 : ∀ a ∈ e.2.2.1, IvFits a

theorem edr_none (n m : Nat) : EDr n m (false, [], [], ()) := ⟨.inr ⟨rfl, rfl, rfl⟩, by simp, by simp⟩

theorem mem_push {α : Type} {P : α → Prop} {l : List α} {x : α} (hl : ∀ a ∈ l, P a) (hx : P x) : ∀ a ∈ l ++ [x], P a := by
  intro a ha
  rcases List.mem_append.1 ha with h | h
  · exact hl a h
  · rw [List.mem_singleton.1 h]; exact hx

theorem mem_set {α : Type} {P : α → Prop} {l : List α} {x : α} {i : Nat} (hl : ∀ a ∈ l, P a) (hx : P x) : ∀ a ∈ l.set i x, P a := by
  intro a ha
  rcases List.mem_or_eq_of_mem_set ha with h | h
  · exact hl a h
  · rw [h]; exact hx

abbrev EnvSt : Type := RdT × DeclT × EnvT × EnvT × Int × Unit

def EnvJ0 (d : DeclT) (x : EnvSt) : Prop := RdOk x.1 ∧ x.2.1 = d ∧ x.2.2.2.1.1 = true ∧ x.2.2.2.1.2.2.1 = [] ∧ (x.2.2.2.1.2.1.length : Int) = x.2.2.2.2.1 ∧ x.2.2.2.2.1 ≤ d.1.length ∧ (∀ a ∈ x.2.2.2.1.2.1, IvFits a)
def EnvJ2 (d : DeclT) (x : EnvSt) : Prop := RdOk x.1 ∧ x.2.1 = d ∧ x.2.2.2.1.1 = true ∧ x.2.2.2.1.2.1.length = d.1.length ∧ (∀ a ∈ x.2.2.2.1.2.1, IvFits a) ∧ (x.2.2.2.1.2.2.1.length : Int) = x.2.2.2.2.1 ∧ x.2.2.2.2.1 ≤ d.2.2.1.length ∧ (∀ a ∈ x.2.2.2.1.2.2.1, IvFits a)

theorem t_env_l2 (k : Nat) (hk : 64 ≤ k) {d : DeclT} (hd : DDr d) : ∀ (f : Nat) (x : EnvSt), EnvJ2 d x → ((d.2.2.1.length : Int) - x.2.2.2.2.1).toNat < f → Tot (iter (spec_l1Rd_env.l2 k) f x) fun y => EDr d.1.length d.2.2.1.length y.1.1 ∧ RdOk y.2.1 := by
  refine Tot.loop (EnvJ2 d) (fun x => ((d.2.2.1.length : Int) - x.2.2.2.2.1).toNat) ?_
  have n2 := hd.n2
  rintro G ⟨⟨b, p, ⟨⟩⟩, ⟨d0, d1, d2, ⟨⟩⟩, ⟨t0, t1, t2, ⟨⟩⟩, ⟨e0, e1, e2, ⟨⟩⟩, i, ⟨⟩⟩ ⟨hr, rfl, he, l1, f1, l2, li, f2⟩ hG
  simp only at he l1 f1 l2 li f2 n2
  simp only [spec_l1Rd_env.l2]
  refine Tot.dec (fun hi => Tot.bd (t_small k (by omega) hr) fun y3 h3 => ?_) fun hi => ?_
  · have w : IntKind.wrap .i64 (i + 1) = i + 1 := wrap_i64 (by omega) (by omega)
    rw [w]
    refine Tot.chk (by simp only [List.length_cons, List.length_nil, maxBytes]; omega) (hG _ ⟨h3.2, rfl, he, l1, f1, ?_, ?_, mem_push f2 h3.1⟩ ?_)
    · simp only [List.length_append, List.length_cons, List.length_nil]; omega
    · simp only; omega
    · simp only; omega
  · exact Tot.ret ⟨⟨.inl ⟨he, l1, by simp only; omega⟩, f1, f2⟩, hr⟩

theorem t_env_l0 (k : Nat) (hk : 64 ≤ k) {d : DeclT} (hd : DDr d) : ∀ (f : Nat) (x : EnvSt), EnvJ0 d x → ((d.1.length : Int) - x.2.2.2.2.1).toNat < f → Tot (iter (spec_l1Rd_env.l0 k) f x) fun y => EDr d.1.length d.2.2.1.length y.1.1 ∧ RdOk y.2.1 := by
  refine Tot.loop (EnvJ0 d) (fun x => ((d.1.length : Int) - x.2.2.2.2.1).toNat) ?_
  have n0 := hd.n0
  have n2 := hd.n2
  rintro G ⟨⟨b, p, ⟨⟩⟩, ⟨d0, d1, d2, ⟨⟩⟩, ⟨t0, t1, t2, ⟨⟩⟩, ⟨e0, e1, e2, ⟨⟩⟩, i, ⟨⟩⟩ ⟨hr, rfl, he, l2, l1, li, f1⟩ hG
  simp only at he l1 f1 l2 li n0 n2
  simp only [spec_l1Rd_env.l0]
  refine Tot.dec (fun hi => Tot.bd (t_small k (by omega) hr) fun y3 h3 => ?_) fun hi => ?_
  · have w : IntKind.wrap .i64 (i + 1) = i + 1 := wrap_i64 (by omega) (by omega)
    rw [w]
    refine Tot.chk (by simp only [List.length_cons, List.length_nil, maxBytes]; omega) (hG _ ⟨h3.2, rfl, he, l2, ?_, ?_, mem_push f1 h3.1⟩ ?_)
    · simp only [List.length_append, List.length_cons, List.length_nil]; omega
    · simp only; omega
    · simp only; omega
  · refine t_env_l2 k hk hd _ _ ⟨hr, rfl, he, by simp only; omega, f1, by simp only [l2, List.length_nil]; rfl, by simp only; omega, by simp only [l2]; simp⟩ (by simp only; omega)

theorem t_env (k : Nat) (hk : 64 ≤ k) {r : RdT} (h : RdOk r) {d : DeclT} (hd : DDr d) : Tot (spec_l1Rd_env k (r, d, ())) fun y => EDr d.1.length d.2.2.1.length y.1.1 ∧ RdOk y.2.1 := by
  obtain ⟨b, p, ⟨⟩⟩ := r
  have n0 := hd.n0
  unfold spec_l1Rd_env
  refine Tot.bd (t_once k h 16) fun y1 r1 => Tot.br (fun _ => Tot.ret ⟨edr_none _ _, r1⟩) fun _ => ?_
  exact t_env_l0 k hk hd _ _ ⟨r1, rfl, rfl, rfl, rfl, by simp only; omega, by simp⟩ (by simp only; omega)

theorem t_copy (k : Nat) {n m : Nat} (hn : n ≤ 100) (hm : m ≤ 100) {e : EnvT} (he : EDr n m e) : Tot (spec_l6Copy k (e, ())) fun y => EDr n m y.1.1 := by
  unfold spec_l6Copy
  have h1 : e.2.1.length ≤ 100 := by rcases he.s with h | h <;> omega
  have h2 : e.2.2.1.length ≤ 100 := by rcases he.s with h | h <;> omega
  exact Tot.chk (by simp only [List.length_nil, maxBytes]; omega) (Tot.chk (by simp only [List.length_nil, maxBytes]; omega) (Tot.ret ⟨by simp only [List.nil_append]; exact he.s, by simp only [List.nil_append]; exact he.f1, by simp only [List.nil_append]; exact he.f2⟩))
end Go.Pev.F
end

section
/-
  Tokens: which are right, and their order: the reference's and the program's agree.
-/
set_option linter.unusedVariables false
set_option linter.unusedSimpArgs false
namespace Go.Pev.F

abbrev EntT := Int × Int × Unit
def entOk (e : EntT) : Bool := decide (0 ≤ e.1 ∧ e.1 ≤ 29) && decide (0 ≤ e.2.1 ∧ e.2.1 ≤ 4)
def tokenOk (t : List EntT) : Bool := decide (t.length ≤ 3) && t.all entOk

theorem entOk_fits {e : EntT} (h : entOk e = true) : (0 ≤ e.1 ∧ e.1 ≤ 29) ∧ (0 ≤ e.2.1 ∧ e.2.1 ≤ 4) := by
  unfold entOk at h
  rw [Bool.and_eq_true] at h
  exact ⟨of_decide_eq_true h.1, of_decide_eq_true h.2⟩

theorem specTokenOk_is (k : Nat) (hk : 4194304 < k) (t : List EntT) : spec_TokenOk k (t, ()) = some ((tokenOk t, ()), ((), ())) := by
  unfold spec_TokenOk tokenOk
  simp only [br_dec]
  by_cases hc : (t.length : Int) > 3
  · have : decide (t.length ≤ 3) = false := by simp; omega
    rw [if_pos hc, this]; rfl
  · have hc' : t.length ≤ 3 := by omega
    rw [if_neg hc, decide_eq_true hc', Bool.true_and]
    have h := iter_any (b := spec_TokenOk.l0 k) (fun i => (t, (i : Int), ())) t (fun e => !entOk e) (rf := some ((false, ()), ((), ()))) (r := some ((true, ()), ((), ()))) (fun G i hi => by
      have h2 : ((i : Int) < (t.length : Int)) := by omega
      have h3 : (0 : Int) ≤ (i : Int) := by omega
      simp only [spec_TokenOk.l0, br_dec, if_pos h2, if_pos h3, Int.toNat_natCast, List.getElem?_eq_getElem hi, bd_some, l1In_is]
      rw [wrap_succ (by omega), entOk]
      cases decide (0 ≤ t[i].1 ∧ t[i].1 ≤ 29) <;> cases decide (0 ≤ t[i].2.1 ∧ t[i].2.1 ≤ 4) <;> simp) (fun G => by
      have h2 : ¬ ((t.length : Int) < (t.length : Int)) := by omega
      simp only [spec_TokenOk.l0, br_dec, if_neg h2]) (f := k) (by omega)
    refine Eq.trans h ?_
    rw [all_any]
    cases t.all entOk <;> rfl

theorem implTokenOk_is (k : Nat) (hk : 4194304 < k) (t : List EntT) : impl_TokenOk k (t, ()) = some ((tokenOk t, ()), ((), ())) := by
  unfold impl_TokenOk tokenOk
  simp only [br_dec]
  by_cases hc : (t.length : Int) ≤ 3
  · have hc' : t.length ≤ 3 := by omega
    rw [if_pos hc, decide_eq_true hc', Bool.true_and]
    obtain ⟨n, h1, h2⟩ := iter_find (b := slices_IndexFunc_impl_Entry_impl_Entry.l0 k) (fun i => (t, (((()), ()), ()), (t.length : Int), (i : Int), ())) t (fun e => !entOk e) (o := ((), (((()), ()), ()), ())) (fun G i hi => by
      have h2 : ((i : Int) < (t.length : Int)) := by omega
      have h3 : (0 : Int) ≤ (i : Int) := by omega
      simp only [slices_IndexFunc_impl_Entry_impl_Entry.l0, impl_areAll_impl_Entry_1, impl_entryOk, within_is, br_dec (p := (i : Int) < (t.length : Int)), br_dec (p := (0 : Int) ≤ (i : Int)), if_pos h2, if_pos h3, Int.toNat_natCast, List.getElem?_eq_getElem hi, bd_some]
      rw [wrap_succ (by omega), entOk]
      cases decide (0 ≤ t[i].1 ∧ t[i].1 ≤ 29) <;> cases decide (0 ≤ t[i].2.1 ∧ t[i].2.1 ≤ 4) <;> simp) (fun G => by
      have h2 : ¬ ((t.length : Int) < (t.length : Int)) := by omega
      simp only [slices_IndexFunc_impl_Entry_impl_Entry.l0, br_dec, if_neg h2]) (f := k) (by omega)
    unfold impl_areAll_impl_Entry slices_ContainsFunc_impl_Entry_impl_Entry slices_IndexFunc_impl_Entry_impl_Entry
    have h1' : iter (slices_IndexFunc_impl_Entry_impl_Entry.l0 k) k (t, (((()), ()), ()), (t.length : Int), 0, ()) = some ((n, ()), ((), (((()), ()), ()), ())) := h1
    simp only [h1', bd_some, h2, all_any, Bool.not_not]
  · have : decide (t.length ≤ 3) = false := by simp; omega
    rw [if_neg hc, this]; rfl

/-! ### The order -/

def cmpE (x y : EntT) : Int := if x.1 < y.1 then -1 else if x.1 > y.1 then 1 else if x.2.1 < y.2.1 then -1 else if x.2.1 > y.2.1 then 1 else 0
def cmpX : List EntT → List EntT → Int
  | x :: a, y :: b => if cmpE x y = 0 then cmpX a b else cmpE x y
  | _, _ => 0
def cmpT (a b : List EntT) : Int := if a.length < b.length then -1 else if a.length > b.length then 1 else cmpX a b

theorem compare_is (k : Nat) (x y : Int) : cmp_Compare_int k (x, y, ()) = some ((if x < y then -1 else if x > y then 1 else 0, ()), ((), (), ())) := by
  unfold cmp_Compare_int cmp_isNaN_int
  simp only [bd_some, bne_self_eq_false, br_false, br_dec]
  by_cases h1 : x < y
  · simp only [if_pos h1]
  · by_cases h2 : x > y
    · simp only [if_neg h1, if_pos h2]
    · simp only [if_neg h1, if_neg h2]

theorem compare64_is (k : Nat) (x y : Int) : cmp_Compare_int64 k (x, y, ()) = some ((if x < y then -1 else if x > y then 1 else 0, ()), ((), (), ())) := by
  unfold cmp_Compare_int64 cmp_isNaN_int64
  simp only [bd_some, bne_self_eq_false, br_false, br_dec]
  by_cases h1 : x < y
  · simp only [if_pos h1]
  · by_cases h2 : x > y
    · simp only [if_neg h1, if_pos h2]
    · simp only [if_neg h1, if_neg h2]

theorem or_is (k : Nat) (hk : 4194304 < k) (x y : Int) : cmp_Or_int k (([x, y] : List Int), ()) = some ((if x = 0 then y else x, ()), ((), ())) := by
  obtain ⟨j, rfl⟩ : ∃ j, k = j + 3 := ⟨k - 3, by omega⟩
  unfold cmp_Or_int
  simp only [List.length_cons, List.length_nil]
  rw [iter_succ]
  simp only [cmp_Or_int.l0, br_dec]
  rw [if_pos (by decide), if_pos (by decide)]
  by_cases h1 : x = 0
  · subst h1
    simp only [Int.toNat_zero, List.getElem?_cons_zero, bd_some, bne_self_eq_false, br_false, if_pos]
    rw [wrap_i64 (by decide) (by decide), iter_succ]
    simp only [cmp_Or_int.l0, br_dec]
    rw [if_pos (by decide), if_pos (by decide)]
    by_cases h2 : y = 0
    · subst h2
      have e : ([0, 0] : List Int)[((0 : Int) + 1).toNat]? = some 0 := rfl
      simp only [e, bd_some, bne_self_eq_false, br_false]
      rw [wrap_i64 (by decide) (by decide), iter_succ]
      simp only [cmp_Or_int.l0, br_dec]
      rw [if_neg (by decide)]
    · have e : ([0, y] : List Int)[((0 : Int) + 1).toNat]? = some y := rfl
      have b : (y != 0) = true := by simpa using h2
      simp only [e, bd_some, b, br_true]
  · have b : (x != 0) = true := by simpa using h1
    simp only [Int.toNat_zero, List.getElem?_cons_zero, bd_some, b, br_true, if_neg h1]

theorem cmpE_is (k : Nat) (hk : 4194304 < k) (x y : EntT) : impl_compareTokens_1 k (x, y, ()) = some ((cmpE x y, ()), ((), (), ())) := by
  unfold impl_compareTokens_1
  simp only [compare64_is, or_is k hk, bd_some]
  unfold cmpE
  by_cases h1 : x.1 < y.1
  · simp [h1]
  · by_cases h2 : x.1 > y.1
    · simp [h1, h2]
    · simp [h1, h2]

theorem cmpX_drop {a b : List EntT} {i : Nat} (ha : i < a.length) (hb : i < b.length) : cmpX (a.drop i) (b.drop i) = if cmpE a[i] b[i] = 0 then cmpX (a.drop (i + 1)) (b.drop (i + 1)) else cmpE a[i] b[i] := by
  rw [List.drop_eq_getElem_cons ha, List.drop_eq_getElem_cons hb]; rfl

theorem cmpX_nil (a b : List EntT) {i : Nat} (ha : a.length ≤ i) : cmpX (a.drop i) (b.drop i) = 0 := by
  rw [List.drop_of_length_le ha]; cases b.drop i <;> rfl

theorem compareFunc_is (k : Nat) (hk : 4194304 < k) (a b : List EntT) (ha : a.length ≤ 1048576) : ∃ n : Int, slices_CompareFunc_impl_Entry_impl_Entry_impl_Entry_impl_Entry k (a, b, (()), ()) = some ((n, ()), ((), (), (()), ())) ∧ (a.length = b.length → n = cmpX a b) := by
  have key : ∀ (n i f : Nat), i + n = a.length → n < f → ∃ m : Int, iter (slices_CompareFunc_impl_Entry_impl_Entry_impl_Entry_impl_Entry.l0 k) f (a, b, (()), a, (a.length : Int), (i : Int), ()) = some ((m, ()), ((), (), (()), ())) ∧ (a.length = b.length → m = cmpX (a.drop i) (b.drop i)) := by
    intro n
    induction n with
    | zero =>
      intro i f hi hf
      obtain ⟨f, rfl⟩ : ∃ g, f = g + 1 := ⟨f - 1, by omega⟩
      have h2 : ¬ ((i : Int) < (a.length : Int)) := by omega
      rw [iter_succ]
      simp only [slices_CompareFunc_impl_Entry_impl_Entry_impl_Entry_impl_Entry.l0, br_dec, if_neg h2]
      by_cases hl : (a.length : Int) < (b.length : Int)
      · exact ⟨-1, by rw [if_pos hl], fun h => by omega⟩
      · exact ⟨0, by rw [if_neg hl], fun h => by rw [cmpX_nil a b (by omega)]⟩
    | succ n ih =>
      intro i f hi hf
      obtain ⟨f, rfl⟩ : ∃ g, f = g + 1 := ⟨f - 1, by omega⟩
      have hi' : i < a.length := by omega
      have h2 : ((i : Int) < (a.length : Int)) := by omega
      have h3 : (0 : Int) ≤ (i : Int) := by omega
      rw [iter_succ]
      simp only [slices_CompareFunc_impl_Entry_impl_Entry_impl_Entry_impl_Entry.l0, br_dec, if_pos h2, if_pos h3, Int.toNat_natCast, List.getElem?_eq_getElem hi', bd_some]
      by_cases hb : (i : Int) ≥ (b.length : Int)
      · exact ⟨1, by rw [if_pos hb], fun h => by omega⟩
      · have hb' : i < b.length := by omega
        rw [if_neg hb]
        simp only [List.getElem?_eq_getElem hb', bd_some, cmpE_is k hk]
        rw [wrap_succ (by omega)]
        by_cases hc : cmpE a[i] b[i] = 0
        · have e : (cmpE a[i] b[i] != 0) = false := by simpa using hc
          obtain ⟨m, e1, e2⟩ := ih (i + 1) f (by omega) (by omega)
          refine ⟨m, by rw [e, br_false]; exact e1, fun h => ?_⟩
          rw [cmpX_drop hi' hb', if_pos hc]; exact e2 h
        · have e : (cmpE a[i] b[i] != 0) = true := by simpa using hc
          exact ⟨cmpE a[i] b[i], by rw [e, br_true], fun h => by rw [cmpX_drop hi' hb', if_neg hc]⟩
  obtain ⟨m, e1, e2⟩ := key a.length 0 k (by omega) (by omega)
  exact ⟨m, e1, fun h => e2 h⟩

theorem implCmp_is (k : Nat) (hk : 4194304 < k) (a b : List EntT) (ha : a.length ≤ 1048576) : impl_compareTokens k (a, b, ()) = some ((cmpT a b, ()), ((), (), ())) := by
  unfold impl_compareTokens cmpT
  obtain ⟨n, e1, e2⟩ := compareFunc_is k hk a b ha
  simp only [compare_is, e1, or_is k hk, bd_some]
  by_cases h1 : a.length < b.length
  · have h1' : (a.length : Int) < (b.length : Int) := by omega
    rw [if_pos h1', if_pos h1]; rfl
  · by_cases h2 : a.length > b.length
    · have h1' : ¬ (a.length : Int) < (b.length : Int) := by omega
      have h2' : (a.length : Int) > (b.length : Int) := by omega
      rw [if_neg h1', if_pos h2', if_neg h1, if_pos h2]; rfl
    · have h1' : ¬ (a.length : Int) < (b.length : Int) := by omega
      have h2' : ¬ (a.length : Int) > (b.length : Int) := by omega
      rw [if_neg h1', if_neg h2', if_neg h1, if_neg h2, if_pos rfl, e2 (by omega)]

/-- The reference's order is the program's where entries fit. -/
theorem specCmp_is (k : Nat) (hk : 4194304 < k) (a b : List EntT) (ha : tokenOk a = true) (hb : tokenOk b = true) : spec_l9Cmp k (a, b, ()) = some ((cmpT a b, ()), ((), (), ())) := by
  unfold tokenOk at ha hb
  rw [Bool.and_eq_true] at ha hb
  have la := of_decide_eq_true ha.1
  have fa := fun i (h : i < a.length) => entOk_fits (List.all_eq_true.1 ha.2 a[i] (List.getElem_mem h))
  have fb := fun i (h : i < b.length) => entOk_fits (List.all_eq_true.1 hb.2 b[i] (List.getElem_mem h))
  unfold spec_l9Cmp cmpT
  by_cases hl : a.length = b.length
  · have hz : ((a.length : Int) != (b.length : Int)) = false := by simp [hl]
    simp only [hz, br_false]
    rw [if_neg (by omega), if_neg (by omega)]
    have key : ∀ (n i f : Nat), i + n = a.length → n < f → iter (spec_l9Cmp.l0 k) f (a, b, (i : Int), ()) = some ((cmpX (a.drop i) (b.drop i), ()), ((), (), ())) := by
      intro n
      induction n with
      | zero =>
        intro i f hi hf
        obtain ⟨f, rfl⟩ : ∃ g, f = g + 1 := ⟨f - 1, by omega⟩
        have h2 : ¬ ((i : Int) < (a.length : Int)) := by omega
        rw [iter_succ, cmpX_nil a b (by omega)]
        simp only [spec_l9Cmp.l0, br_dec, if_neg h2]
      | succ n ih =>
        intro i f hi hf
        obtain ⟨f, rfl⟩ : ∃ g, f = g + 1 := ⟨f - 1, by omega⟩
        have hi' : i < a.length := by omega
        have hb' : i < b.length := by omega
        have h2 : ((i : Int) < (a.length : Int)) := by omega
        have h3 : (0 : Int) ≤ (i : Int) := by omega
        have xa := fa i hi'
        have xb := fb i hb'
        rw [iter_succ, cmpX_drop hi' hb']
        simp only [spec_l9Cmp.l0, br_dec, if_pos h2, if_pos h3, Int.toNat_natCast, List.getElem?_eq_getElem hi', List.getElem?_eq_getElem hb', bd_some]
        rw [wrap_i64 (n := 10 * a[i].1) (by omega) (by omega), wrap_i64 (n := 10 * b[i].1) (by omega) (by omega), wrap_i64 (n := 10 * a[i].1 + a[i].2.1) (by omega) (by omega), wrap_i64 (n := 10 * b[i].1 + b[i].2.1) (by omega) (by omega), wrap_succ (by omega)]
        by_cases c1 : 10 * a[i].1 + a[i].2.1 < 10 * b[i].1 + b[i].2.1
        · have e : cmpE a[i] b[i] = -1 := by
            unfold cmpE
            by_cases d1 : a[i].1 < b[i].1
            · rw [if_pos d1]
            · rw [if_neg d1, if_neg (by omega), if_pos (by omega)]
          rw [if_pos c1, e]; rfl
        · by_cases c2 : 10 * a[i].1 + a[i].2.1 > 10 * b[i].1 + b[i].2.1
          · have e : cmpE a[i] b[i] = 1 := by
              unfold cmpE
              by_cases d1 : a[i].1 > b[i].1
              · rw [if_neg (by omega), if_pos d1]
              · rw [if_neg (by omega), if_neg d1, if_neg (by omega), if_pos (by omega)]
            rw [if_neg c1, if_pos c2, e]; rfl
          · have e : cmpE a[i] b[i] = 0 := by
              unfold cmpE
              rw [if_neg (by omega), if_neg (by omega), if_neg (by omega), if_neg (by omega)]
            rw [if_neg c1, if_neg c2, if_pos e]
            exact ih (i + 1) f (by omega) (by omega)
    exact key a.length 0 k (by omega) (by omega)
  · have hz : ((a.length : Int) != (b.length : Int)) = true := by simp; omega
    simp only [hz, br_true, br_dec]
    by_cases h1 : a.length < b.length
    · rw [if_pos (show (a.length : Int) < (b.length : Int) by omega), if_pos h1]
    · rw [if_neg (show ¬ (a.length : Int) < (b.length : Int) by omega), if_neg h1, if_pos (by omega)]
end Go.Pev.F
end

section
/-
  Tables: which are right, and which live: the reference's test and the program's agree.
-/
set_option linter.unusedVariables false
set_option linter.unusedSimpArgs false
namespace Go.Pev.F

def tableOk (d : DeclT) (t : List EnvT) : Bool := decide ((t.length : Int) = 2 ^ d.2.1.length) && t.all (envFits d)
def tableLive (t : List EnvT) : Bool := t.any fun e => e.1

theorem wrap_pow {n : Nat} (h : n ≤ 3) : IntKind.wrap .i64 (1 * 2 ^ (min n 64)) = 2 ^ n := by
  have : n = 0 ∨ n = 1 ∨ n = 2 ∨ n = 3 := by omega
  rcases this with rfl | rfl | rfl | rfl <;> decide

theorem l8Size_is (k : Nat) (d : DeclT) (h : d.2.1.length ≤ 3) : spec_l8Size k (d, ()) = some (((2 : Int) ^ d.2.1.length, ()), ((), ())) := by
  unfold spec_l8Size
  have w : IntKind.wrap .u64 (d.2.1.length : Int) = (d.2.1.length : Int) := wrap_u64 (by omega) (by omega)
  have h0 : (0 : Int) ≤ (d.2.1.length : Int) := by omega
  simp only [w, br_dec, if_pos h0, Int.toNat_natCast, wrap_pow h]

theorem leaves_of (k : Nat) (d : DeclT) (h : d.2.1.length ≤ 3) : impl_Decl_leaves k (d, ()) = some (((2 : Int) ^ d.2.1.length, ()), ((), ())) := by
  unfold impl_Decl_leaves
  have h0 : (0 : Int) ≤ (d.2.1.length : Int) := by omega
  simp only [br_dec, if_pos h0, Int.toNat_natCast, wrap_pow h]

theorem decl_flags {d : DeclT} (h : declOk d = true) : d.1.length ≤ 5 ∧ d.2.1.length ≤ 3 ∧ d.2.2.1.length ≤ 2 := by
  unfold declOk at h
  rw [Bool.and_eq_true] at h
  exact of_decide_eq_true h.1

theorem specTableOk_is (k : Nat) (hk : 4194304 < k) (d : DeclT) (hd : DSmall d) (hdo : declOk d = true) (t : List EnvT) (ht : t.length ≤ 1048576) (hs : ∀ e ∈ t, ESmall e) : spec_TableOk k (d, t, ()) = some ((tableOk d t, ()), ((), (), ())) := by
  have hf := (decl_flags hdo).2.1
  unfold spec_TableOk tableOk
  simp only [specDeclOk_is k hk d hd, hdo, bd_some, Bool.not_true, br_false, l8Size_is k d hf, Option.bind_some]
  by_cases hl : (t.length : Int) = 2 ^ d.2.1.length
  · have b : ((t.length : Int) != 2 ^ d.2.1.length) = false := by simpa using hl
    rw [b, br_false, decide_eq_true hl, Bool.true_and]
    have h := iter_any (b := spec_TableOk.l0 k) (fun i => (t, (d.1, d.2.1, d.2.2.1, ()), (i : Int), ())) t (fun e => !envFits d e) (rf := some ((false, ()), ((), (), ()))) (r := some ((true, ()), ((), (), ()))) (fun G i hi => by
      have h2 : ((i : Int) < (t.length : Int)) := by omega
      have h3 : (0 : Int) ≤ (i : Int) := by omega
      have he : spec_EnvOk k ((d.1, d.2.1, d.2.2.1, ()), t[i], ()) = some ((envOk d t[i], ()), ((), (), ())) := specEnvOk_is k hk d hd t[i] (hs _ (List.getElem_mem hi))
      simp only [spec_TableOk.l0, br_dec, if_pos h2, if_pos h3, Int.toNat_natCast, List.getElem?_eq_getElem hi, bd_some, he, envOk, hdo, Bool.true_and]
      rw [wrap_succ (by omega)]
      cases envFits d t[i] <;> simp) (fun G => by
      have h2 : ¬ ((t.length : Int) < (t.length : Int)) := by omega
      simp only [spec_TableOk.l0, br_dec, if_neg h2]) (f := k) (by omega)
    refine Eq.trans h ?_
    rw [all_any]
    cases t.all (envFits d) <;> rfl
  · have b : ((t.length : Int) != 2 ^ d.2.1.length) = true := by simpa using hl
    rw [b, br_true, decide_eq_false hl]; rfl

theorem areAllEnv_is (k : Nat) (hk : 4194304 < k) (d : DeclT) (t : List EnvT) (ht : t.length ≤ 1048576) (hs : ∀ e ∈ t, ESmall e) : impl_areAll_impl_Env k (t, (d, ()), ()) = some ((t.all (envFits d), ()), ((), ((), ()), ())) := by
  obtain ⟨n, h1, h2⟩ := iter_find (b := slices_IndexFunc_impl_Env_impl_Env.l0 k) (fun i => (t, (((d, ()), ()), ()), (t.length : Int), (i : Int), ())) t (fun e => !envFits d e) (o := ((), (((d, ()), ()), ()), ())) (fun G i hi => by
    have h2 : ((i : Int) < (t.length : Int)) := by omega
    have h3 : (0 : Int) ≤ (i : Int) := by omega
    simp only [slices_IndexFunc_impl_Env_impl_Env.l0, impl_areAll_impl_Env_1, isEnv_is k hk d t[i] (hs _ (List.getElem_mem hi)), br_dec, if_pos h2, if_pos h3, Int.toNat_natCast, List.getElem?_eq_getElem hi, bd_some]
    rw [wrap_succ (by omega)]
    cases envFits d t[i] <;> simp) (fun G => by
    have h2 : ¬ ((t.length : Int) < (t.length : Int)) := by omega
    simp only [slices_IndexFunc_impl_Env_impl_Env.l0, br_dec, if_neg h2]) (f := k) (by omega)
  unfold impl_areAll_impl_Env slices_ContainsFunc_impl_Env_impl_Env slices_IndexFunc_impl_Env_impl_Env
  have h1' : iter (slices_IndexFunc_impl_Env_impl_Env.l0 k) k (t, (((d, ()), ()), ()), (t.length : Int), 0, ()) = some ((n, ()), ((), (((d, ()), ()), ()), ())) := h1
  simp only [h1', bd_some, h2, all_any, Bool.not_not]

theorem isTable_is (k : Nat) (hk : 4194304 < k) (d : DeclT) (hf : d.2.1.length ≤ 3) (t : List EnvT) (ht : t.length ≤ 1048576) (hs : ∀ e ∈ t, ESmall e) : impl_Decl_isTable k (d, t, ()) = some ((tableOk d t, ()), ((), (), ())) := by
  unfold impl_Decl_isTable tableOk impl_size_impl_Env
  simp only [bd_some, leaves_of k d hf, areAllEnv_is k hk d t ht hs]
  by_cases hl : (t.length : Int) = 2 ^ d.2.1.length
  · have b : ((t.length : Int) == 2 ^ d.2.1.length) = true := by simpa using hl
    rw [b, br_true, decide_eq_true hl, Bool.true_and]
  · have b : ((t.length : Int) == 2 ^ d.2.1.length) = false := by simpa using hl
    rw [b, br_false, decide_eq_false hl]; rfl

theorem l9Live_is (k : Nat) (hk : 4194304 < k) (t : List EnvT) (ht : t.length ≤ 1048576) : spec_l9Live k (t, ()) = some ((tableLive t, ()), ((), ())) := by
  have h := iter_any (b := spec_l9Live.l0 k) (fun i => (t, (i : Int), ())) t (fun e => e.1) (rf := some ((true, ()), ((), ()))) (r := some ((false, ()), ((), ()))) (fun G i hi => by
    have h2 : ((i : Int) < (t.length : Int)) := by omega
    have h3 : (0 : Int) ≤ (i : Int) := by omega
    simp only [spec_l9Live.l0, br_dec, if_pos h2, if_pos h3, Int.toNat_natCast, List.getElem?_eq_getElem hi, bd_some]
    rw [wrap_succ (by omega)]
    cases t[i].1 <;> simp) (fun G => by
    have h2 : ¬ ((t.length : Int) < (t.length : Int)) := by omega
    simp only [spec_l9Live.l0, br_dec, if_neg h2]) (f := k) (by omega)
  unfold spec_l9Live
  refine Eq.trans h ?_
  unfold tableLive
  cases t.any fun e => e.1 <;> rfl
end Go.Pev.F
end

section
/-
  Draws of tables and tokens.
-/
set_option linter.unusedVariables false
set_option linter.unusedSimpArgs false
namespace Go.Pev.F

theorem tot_of {α : Type} {m : Option α} {x : α} (h : m = some x) : Tot m fun y => y = x := ⟨x, h, rfl⟩

abbrev TokSt : Type := RdT × List EntT × Int × Unit

def TokJ (x : TokSt) : Prop := RdOk x.1 ∧ (x.2.1.length : Int) + x.2.2.1 ≤ 3 ∧ 0 ≤ x.2.2.1

theorem t_token_l (k : Nat) (hk : 64 ≤ k) : ∀ (f : Nat) (x : TokSt), TokJ x → x.2.2.1.toNat < f → Tot (iter (spec_l1Rd_token.l0 k) f x) fun y => y.1.1.length ≤ 1048576 ∧ RdOk y.2.1 := by
  refine Tot.loop TokJ (fun x => x.2.2.1.toNat) ?_
  rintro G ⟨⟨b, p, ⟨⟩⟩, out, i, ⟨⟩⟩ ⟨hr, hi, h00⟩ hG
  simp only at hi h00
  simp only [spec_l1Rd_token.l0]
  refine Tot.dec (fun h0 => Tot.bd (t_below k hr 4) fun y2 h2 => Tot.bd (t_below k h2.2 3) fun y3 h3 => ?_) fun h0 => Tot.bd (t_below k hr 40) fun y4 h4 => Tot.br (fun _ => ?_) fun _ => Tot.br (fun _ => ?_) fun _ => ?_
  · have w : IntKind.wrap .i64 (i - 1) = i - 1 := wrap_i64 (by omega) (by omega)
    rw [w]
    refine Tot.chk (by simp only [List.length_cons, List.length_nil, maxBytes]; omega) (hG _ ⟨h3.2, ?_, ?_⟩ ?_)
    · simp only [List.length_append, List.length_cons, List.length_nil]; omega
    · simp only; omega
    · simp only; omega
  · refine Tot.bd (t_off k (by omega) h4.2 (by omega) (by omega) (by omega)) fun y5 h5 => Tot.bd (t_off k (by omega) h5.2 (by omega) (by omega) (by omega)) fun y6 h6 => ?_
    refine Tot.chk (by simp only [List.length_cons, List.length_nil, maxBytes]; omega) (Tot.ret ⟨?_, h6.2⟩)
    simp only [List.length_append, List.length_cons, List.length_nil]; omega
  · refine Tot.bd (t_off k (by omega) h4.2 (by omega) (by omega) (by omega)) fun y5 h5 => Tot.bd (t_off k (by omega) h5.2 (by omega) (by omega) (by omega)) fun y6 h6 => ?_
    exact Tot.ret ⟨by simp only [List.length_cons, List.length_nil]; omega, h6.2⟩
  · exact Tot.ret ⟨by simp only; omega, h4.2⟩

theorem t_token (k : Nat) (hk : 64 ≤ k) {r : RdT} (h : RdOk r) : Tot (spec_l1Rd_token k (r, ())) fun y => y.1.1.length ≤ 1048576 ∧ RdOk y.2.1 := by
  obtain ⟨b, p, ⟨⟩⟩ := r
  unfold spec_l1Rd_token
  refine Tot.bd (t_below k h 4) fun y1 h1 => ?_
  have b2 := h1.1.2.2 (by omega)
  have b0 := h1.1.1
  exact t_token_l k hk _ _ ⟨h1.2, by simp only [List.length_nil]; omega, b0⟩ (by simp only; omega)

/-- Drawn tables. -/
structure TDr (d : DeclT) (t : List EnvT) : Prop where
  n : (t.length : Int) = 2 ^ d.2.1.length
  e : ∀ e ∈ t, EDr d.1.length d.2.2.1.length e

theorem pow3 {n : Nat} (h : n ≤ 3) : (1 : Int) ≤ 2 ^ n ∧ (2 : Int) ^ n ≤ 8 := by
  have : n = 0 ∨ n = 1 ∨ n = 2 ∨ n = 3 := by omega
  rcases this with rfl | rfl | rfl | rfl <;> decide

theorem TDr.len {d : DeclT} {t : List EnvT} (hd : DDr d) (h : TDr d t) : 1 ≤ t.length ∧ t.length ≤ 8 := by
  have := pow3 hd.n1
  have := h.n
  omega

abbrev TabSt : Type := RdT × DeclT × List EnvT × Int × Unit

def TabJ (d : DeclT) (x : TabSt) : Prop := RdOk x.1 ∧ x.2.1 = d ∧ (x.2.2.1.length : Int) = x.2.2.2.1 ∧ x.2.2.2.1 ≤ 2 ^ d.2.1.length ∧ ∀ e ∈ x.2.2.1, EDr d.1.length d.2.2.1.length e

theorem t_table_l (k : Nat) (hk : 64 ≤ k) {d : DeclT} (hd : DDr d) : ∀ (f : Nat) (x : TabSt), TabJ d x → ((2 : Int) ^ d.2.1.length - x.2.2.2.1).toNat < f → Tot (iter (spec_l1Rd_table.l0 k) f x) fun y => TDr d y.1.1 ∧ RdOk y.2.1 := by
  refine Tot.loop (TabJ d) (fun x => ((2 : Int) ^ d.2.1.length - x.2.2.2.1).toNat) ?_
  obtain ⟨p1, p2⟩ := pow3 hd.n1
  have n0 := hd.n0
  have n2 := hd.n2
  rintro G ⟨⟨b, p, ⟨⟩⟩, ⟨d0, d1, d2, ⟨⟩⟩, out, i, ⟨⟩⟩ ⟨hr, rfl, hn, hi, he⟩ hG
  simp only at hn hi he p1 p2 n0 n2
  have hd' : DDr (d0, d1, d2, ()) := hd
  have hl : spec_l8Size k ((d0, d1, d2, ()), ()) = _ := l8Size_is k (d0, d1, d2, ()) hd.n1
  simp only [spec_l1Rd_table.l0, hl, bd_some]
  have w : i ≤ 8 → IntKind.wrap .i64 (i + 1) = i + 1 := fun _ => wrap_i64 (by omega) (by omega)
  have go : ∀ (r : RdT) (out' : List EnvT) (e : EnvT), RdOk r → out'.length = out.length → (∀ a ∈ out', EDr d0.length d2.length a) → EDr d0.length d2.length e → i < 2 ^ d1.length → Tot (br k (decide ((out'.length + ([e] : List EnvT).length) * 56 ≤ maxBytes)) (G (r, (d0, d1, d2, ()), out' ++ [e], IntKind.wrap .i64 (i + 1), ())) none) fun y => TDr (d0, d1, d2, ()) y.1.1 ∧ RdOk y.2.1 := by
    intro r out' e hr hl he' h1 hlt
    rw [w (by omega)]
    refine Tot.chk (by simp only [List.length_cons, List.length_nil, maxBytes]; omega) (hG _ ⟨hr, rfl, ?_, ?_, mem_push he' h1⟩ ?_)
    · simp only [List.length_append, List.length_cons, List.length_nil]; omega
    · simp only; omega
    · simp only; omega
  refine Tot.dec (fun hlt => Tot.bd (t_env k hk hr hd') fun y2 h2 => Tot.dec (fun h0 => Tot.bd (t_once k h2.2 2) fun y3 r3 => Tot.br (fun _ => ?_) fun _ => ?_) fun h0 => ?_) fun hlt => ?_
  · refine Tot.bd (t_below k r3 i) fun y4 h4 => ?_
    have b2 := h4.1.2.2 (by omega)
    have b0 := h4.1.1
    refine Tot.chk ⟨b0, by omega⟩ (Tot.get (by omega) fun x5 hx5 _ => Tot.bd (t_copy k (by omega) (by omega) (he _ hx5)) fun y6 h6 => Tot.bd (t_once k h4.2 6) fun y7 r7 => Tot.br (fun _ => ?_) fun _ => ?_)
    · exact go _ _ _ r7 (by simp) (mem_set he (he _ hx5)) (edr_none _ _) hlt
    · exact go _ _ _ r7 (by simp) (mem_set he (he _ hx5)) h6 hlt
  · refine Tot.bd (t_once k r3 6) fun y8 r8 => Tot.br (fun _ => ?_) fun _ => ?_
    · exact go _ _ _ r8 rfl he (edr_none _ _) hlt
    · exact go _ _ _ r8 rfl he h2.1 hlt
  · refine Tot.bd (t_once k h2.2 6) fun y8 r8 => Tot.br (fun _ => ?_) fun _ => ?_
    · exact go _ _ _ r8 rfl he (edr_none _ _) hlt
    · exact go _ _ _ r8 rfl he h2.1 hlt
  · exact Tot.ret ⟨⟨by simp only; omega, he⟩, hr⟩

theorem t_table (k : Nat) (hk : 64 ≤ k) {r : RdT} (h : RdOk r) {d : DeclT} (hd : DDr d) : Tot (spec_l1Rd_table k (r, d, ())) fun y => TDr d y.1.1 ∧ RdOk y.2.1 := by
  obtain ⟨b, p, ⟨⟩⟩ := r
  obtain ⟨p1, p2⟩ := pow3 hd.n1
  unfold spec_l1Rd_table
  exact t_table_l k hk hd _ _ ⟨h, rfl, by simp, by simp only; omega, by simp⟩ (by simp only; omega)

/-! ### Joined -/

theorem join_fits {a b : IvT} (ha : IvFits a) (hb : IvFits b) : IvFits (if b.1 < a.1 then b.1 else a.1, if b.2.1 > a.2.1 then b.2.1 else a.2.1, ()) := by
  obtain ⟨a1, a2⟩ := ha
  obtain ⟨b1, b2⟩ := hb
  constructor
  · dsimp only; split <;> omega
  · dsimp only; split <;> omega

abbrev JoinSt : Type := EnvT × EnvT × List IvT × List IvT × List IvT × Int × Unit
def JoinJ (a : EnvT) (N : Nat) (x : JoinSt) : Prop := x.1 = a ∧ x.2.2.1.length = N ∧ x.2.2.2.1.length = N ∧ (x.2.2.2.2.1.length : Int) = x.2.2.2.2.2.1 ∧ x.2.2.2.2.2.1 ≤ N ∧ (∀ v ∈ x.2.2.1, IvFits v) ∧ (∀ v ∈ x.2.2.2.1, IvFits v) ∧ ∀ v ∈ x.2.2.2.2.1, IvFits v

theorem t_of (k : Nat) {l : List IvT} {n m : Nat} (hn : l.length = n + m) (hs : l.length ≤ 1000) (hf : ∀ v ∈ l, IvFits v) : Tot (spec_l6Of k (l, (n : Int), ())) fun y => EDr n m y.1.1 := by
  unfold spec_l6Of
  refine Tot.chk (by omega) (Tot.chk ?_ (Tot.chk (by omega) (Tot.chk ?_ (Tot.ret ⟨.inl ⟨rfl, ?_, ?_⟩, ?_, ?_⟩))))
  · simp only [List.length_nil, List.length_take, maxBytes]; omega
  · simp only [List.length_nil, List.length_drop, maxBytes]; omega
  · simp only [List.nil_append, List.length_take, Int.toNat_natCast]; omega
  · simp only [List.nil_append, List.length_drop, Int.toNat_natCast]; omega
  · exact fun a ha => hf a (List.mem_of_mem_take (by simpa using ha))
  · exact fun a ha => hf a (List.mem_of_mem_drop (by simpa using ha))

theorem t_join_l (k : Nat) {a : EnvT} {n m : Nat} (hn : n ≤ 100) (hm : m ≤ 100) (ha : a.2.1.length = n) : ∀ (f : Nat) (x : JoinSt), JoinJ a (n + m) x → (((n + m : Nat) : Int) - x.2.2.2.2.2.1).toNat < f → Tot (iter (spec_l6Join.l0 k) f x) fun y => EDr n m y.1.1 := by
  refine Tot.loop (JoinJ a (n + m)) (fun x => (((n + m : Nat) : Int) - x.2.2.2.2.2.1).toNat) ?_
  rintro G ⟨⟨a0, a1, a2, ⟨⟩⟩, ⟨t0, t1, t2, ⟨⟩⟩, x, y, out, i, ⟨⟩⟩ ⟨rfl, lx, ly, lo, li, fx, fy, fo⟩ hG
  simp only at lx ly lo li fx fy fo ha
  simp only [spec_l6Join.l0]
  refine Tot.dec (fun hi => ?_) fun hi => ?_
  · refine Tot.chk (by omega) (Tot.get (by omega) fun x5 h5 _ => Tot.chk (by omega) (Tot.get (by omega) fun x6 h6 _ => ?_))
    unfold spec_l2Join
    rw [bd_some, wrap_i64 (n := i + 1) (by omega) (by omega)]
    refine Tot.chk (by simp only [List.length_cons, List.length_nil, maxBytes]; omega) (hG _ ⟨rfl, lx, ly, ?_, ?_, fx, fy, mem_push fo (join_fits (fx _ h5) (fy _ h6))⟩ ?_)
    · simp only [List.length_append, List.length_cons, List.length_nil]; omega
    · simp only; omega
    · simp only; omega
  · have := t_of k (l := out) (n := n) (m := m) (by omega) (by omega) fo
    rw [ha]
    exact Tot.bd this fun y8 h8 => Tot.ret h8

theorem t_list (k : Nat) {e : EnvT} {n m : Nat} (hn : n ≤ 100) (hm : m ≤ 100) (he : EDr n m e) (hl : e.1 = true) : Tot (spec_l6List k (e, ())) fun y => y.1.1.length = n + m ∧ ∀ v ∈ y.1.1, IvFits v := by
  unfold spec_l6List
  have h : e.2.1.length = n ∧ e.2.2.1.length = m := by
    rcases he.s with h | h
    · exact h.2
    · rw [hl] at h; simp at h
  refine Tot.chk (by simp only [List.length_nil, maxBytes]; omega) (Tot.chk (by simp only [List.nil_append, maxBytes]; omega) (Tot.ret ⟨?_, ?_⟩))
  · simp only [List.nil_append, List.length_append]; omega
  · intro v hv
    simp only [List.nil_append, List.mem_append] at hv
    exact hv.elim (he.f1 v) (he.f2 v)

theorem t_join (k : Nat) (hk : 1000 ≤ k) {a b : EnvT} {n m : Nat} (hn : n ≤ 100) (hm : m ≤ 100) (ha : EDr n m a) (hb : EDr n m b) : Tot (spec_l6Join k (a, b, ())) fun y => EDr n m y.1.1 := by
  unfold spec_l6Join
  refine Tot.br (fun _ => Tot.bd (t_copy k hn hm hb) fun y1 h1 => Tot.ret h1) fun h1 => Tot.br (fun _ => Tot.bd (t_copy k hn hm ha) fun y2 h2 => Tot.ret h2) fun h2 => ?_
  have la : a.1 = true := by simpa using h1
  have lb : b.1 = true := by simpa using h2
  refine Tot.bd (t_list k hn hm ha la) fun y3 h3 => Tot.bd (t_list k hn hm hb lb) fun y4 h4 => ?_
  have hal : a.2.1.length = n := by
    rcases ha.s with h | h
    · exact h.2.1
    · rw [la] at h; simp at h
  exact t_join_l k hn hm (a := a) hal _ _ ⟨rfl, h3.1, h4.1, by simp, by simp only; omega, h3.2, h4.2, by simp⟩ (by simp only; omega)

abbrev Join8St : Type := List EnvT × List EnvT × List EnvT × Int × Unit
def Join8J (n m N : Nat) (x : Join8St) : Prop := x.1.length = N ∧ x.2.1.length = N ∧ (x.2.2.1.length : Int) = x.2.2.2.1 ∧ x.2.2.2.1 ≤ N ∧ (∀ e ∈ x.1, EDr n m e) ∧ (∀ e ∈ x.2.1, EDr n m e) ∧ ∀ e ∈ x.2.2.1, EDr n m e

theorem t_join8_l (k : Nat) (hk : 1000 ≤ k) {n m N : Nat} (hn : n ≤ 100) (hm : m ≤ 100) (hN : N ≤ 100) : ∀ (f : Nat) (x : Join8St), Join8J n m N x → ((N : Int) - x.2.2.2.1).toNat < f → Tot (iter (spec_l8Join.l0 k) f x) fun y => y.1.1.length = N ∧ ∀ e ∈ y.1.1, EDr n m e := by
  refine Tot.loop (Join8J n m N) (fun x => ((N : Int) - x.2.2.2.1).toNat) ?_
  rintro G ⟨a, b, out, i, ⟨⟩⟩ ⟨la, lb, lo, li, fa, fb, fo⟩ hG
  simp only at la lb lo li fa fb fo
  simp only [spec_l8Join.l0]
  refine Tot.dec (fun hi => ?_) fun hi => Tot.ret ⟨by simp only; omega, fo⟩
  refine Tot.chk (by omega) (Tot.get (by omega) fun x1 h1 _ => Tot.chk (by omega) (Tot.get (by omega) fun x2 h2 _ => Tot.bd (t_join k hk hn hm (fa _ h1) (fb _ h2)) fun y3 h3 => ?_))
  rw [wrap_i64 (n := i + 1) (by omega) (by omega)]
  refine Tot.chk (by simp only [List.length_cons, List.length_nil, maxBytes]; omega) (hG _ ⟨la, lb, ?_, ?_, fa, fb, mem_push fo h3⟩ ?_)
  · simp only [List.length_append, List.length_cons, List.length_nil]; omega
  · simp only; omega
  · simp only; omega

theorem t_join8 (k : Nat) (hk : 1000 ≤ k) {d : DeclT} (hd : DDr d) {a b : List EnvT} (ha : TDr d a) (hb : TDr d b) : Tot (spec_l8Join k (a, b, ())) fun y => TDr d y.1.1 := by
  have n0 := hd.n0
  have n2 := hd.n2
  obtain ⟨l1, l2⟩ := ha.len hd
  have e1 := ha.n
  have e2 := hb.n
  unfold spec_l8Join
  exact (t_join8_l k hk (n := d.1.length) (m := d.2.2.1.length) (N := a.length) (by omega) (by omega) (by omega) _ _ ⟨rfl, by simp only; omega, by simp, by simp only; omega, ha.e, hb.e, by simp⟩ (by simp only; omega)).mono fun y hy => ⟨by omega, hy.2⟩
end Go.Pev.F
end

section
/-
  A store's text: sizes, copies, comparisons; which are right.
-/
set_option linter.unusedVariables false
set_option linter.unusedSimpArgs false
namespace Go.Pev.F

abbrev StoreT := List Int × List Bool × List (List Int) × Unit

structure SSmall (s : StoreT) : Prop where
  n0 : s.1.length ≤ 1048576
  n1 : s.2.1.length ≤ 1048576
  n2 : s.2.2.1.length ≤ 1048576
  m2 : ∀ x ∈ s.2.2.1, x.length ≤ 1048576

abbrev storeKd : Kd := .cons (.sl false (.int .i64)) (.cons (.sl false .bool) (.cons (.sl false (.sl false (.int .i64))) .nil))

/-! ### Copies -/

/-! ### Comparisons -/

/-! ### Which are right -/

def lensOk (d : DeclT) (s : StoreT) : Bool := ((s.1.length : Int) == (d.1.length : Int)) && (((s.2.1.length : Int) == (d.2.1.length : Int)) && ((s.2.2.1.length : Int) == (d.2.2.1.length : Int)))
def rowsOk (d : DeclT) (s : StoreT) : Bool := !(List.range s.2.2.1.length).any fun i => ((s.2.2.1.getD i []).length : Int) != (d.2.2.1.getD i ([], 0, ())).2.1
def storeOk (d : DeclT) (s : StoreT) : Bool := declOk d && (lensOk d s && rowsOk d s)

theorem lens_of {d : DeclT} {s : StoreT} (h : lensOk d s = true) : s.1.length = d.1.length ∧ s.2.1.length = d.2.1.length ∧ s.2.2.1.length = d.2.2.1.length := by
  simp only [lensOk, Bool.and_eq_true, beq_iff_eq] at h
  omega

theorem specRows (k : Nat) (hk : 4194304 < k) (d : DeclT) (s : StoreT) (hs : SSmall s) (hl : s.2.2.1.length = d.2.2.1.length) : iter (spec_StoreOk.l0 k) k ((d.1, d.2.1, d.2.2.1, ()), (s.1, s.2.1, s.2.2.1, ()), 0, ()) = some ((rowsOk d s, ()), ((), (), ())) := by
  have n2 := hs.n2
  have h := iter_range (b := spec_StoreOk.l0 k) (fun i => ((d.1, d.2.1, d.2.2.1, ()), (s.1, s.2.1, s.2.2.1, ()), (i : Int), ())) s.2.2.1.length (fun i => ((s.2.2.1.getD i []).length : Int) != (d.2.2.1.getD i ([], 0, ())).2.1) (rf := some ((false, ()), ((), (), ()))) (r := some ((true, ()), ((), (), ()))) (fun G i hi => by
    have hi2 : i < d.2.2.1.length := by omega
    have h2 : ((i : Int) < (s.2.2.1.length : Int)) := by omega
    have h3 : (0 : Int) ≤ (i : Int) := by omega
    have g1 : s.2.2.1.getD i [] = s.2.2.1[i] := by simp [List.getD, List.getElem?_eq_getElem hi]
    have g2 : d.2.2.1.getD i ([], 0, ()) = d.2.2.1[i] := by simp [List.getD, List.getElem?_eq_getElem hi2]
    simp only [spec_StoreOk.l0, br_dec, if_pos h2, if_pos h3, Int.toNat_natCast, List.getElem?_eq_getElem hi, List.getElem?_eq_getElem hi2, bd_some, g1, g2]
    rw [wrap_succ (by omega)]
    cases ((s.2.2.1[i].length : Int) != d.2.2.1[i].2.1) <;> simp) (fun G => by
    have h2 : ¬ ((s.2.2.1.length : Int) < (s.2.2.1.length : Int)) := by omega
    simp only [spec_StoreOk.l0, br_dec, if_neg h2]) (f := k) (by omega)
  refine Eq.trans h ?_
  unfold rowsOk
  cases (List.range s.2.2.1.length).any fun i => ((s.2.2.1.getD i []).length : Int) != (d.2.2.1.getD i ([], 0, ())).2.1 <;> rfl

theorem implRows (k : Nat) (hk : 4194304 < k) (d : DeclT) (s : StoreT) (hs : SSmall s) (hl : s.2.2.1.length = d.2.2.1.length) : iter (impl_Decl_isStore.l0 k) k ((s.1, s.2.1, s.2.2.1, ()), d.2.2.1, (d.2.2.1.length : Int), 0, ()) = some ((rowsOk d s, ()), ((), (), ())) := by
  have n2 := hs.n2
  have h := iter_range (b := impl_Decl_isStore.l0 k) (fun i => ((s.1, s.2.1, s.2.2.1, ()), d.2.2.1, (d.2.2.1.length : Int), (i : Int), ())) s.2.2.1.length (fun i => ((s.2.2.1.getD i []).length : Int) != (d.2.2.1.getD i ([], 0, ())).2.1) (rf := some ((false, ()), ((), (), ()))) (r := some ((true, ()), ((), (), ()))) (fun G i hi => by
    have hi2 : i < d.2.2.1.length := by omega
    have h2 : ((i : Int) < (d.2.2.1.length : Int)) := by omega
    have h3 : (0 : Int) ≤ (i : Int) := by omega
    have g1 : s.2.2.1.getD i [] = s.2.2.1[i] := by simp [List.getD, List.getElem?_eq_getElem hi]
    have g2 : d.2.2.1.getD i ([], 0, ()) = d.2.2.1[i] := by simp [List.getD, List.getElem?_eq_getElem hi2]
    simp only [impl_Decl_isStore.l0, impl_size_int64, br_dec, if_pos h2, if_pos h3, Int.toNat_natCast, List.getElem?_eq_getElem hi, List.getElem?_eq_getElem hi2, bd_some, g1, g2]
    rw [wrap_succ (by omega)]
    cases ((s.2.2.1[i].length : Int) != d.2.2.1[i].2.1) <;> simp) (fun G => by
    have h2 : ¬ ((s.2.2.1.length : Int) < (d.2.2.1.length : Int)) := by omega
    simp only [impl_Decl_isStore.l0, br_dec, if_neg h2]) (f := k) (by omega)
  refine Eq.trans h ?_
  unfold rowsOk
  cases (List.range s.2.2.1.length).any fun i => ((s.2.2.1.getD i []).length : Int) != (d.2.2.1.getD i ([], 0, ())).2.1 <;> rfl

theorem specStoreOk_is (k : Nat) (hk : 4194304 < k) (d : DeclT) (hd : DSmall d) (s : StoreT) (hs : SSmall s) : spec_StoreOk k (d, s, ()) = some ((storeOk d s, ()), ((), (), ())) := by
  unfold spec_StoreOk storeOk
  simp only [specDeclOk_is k hk d hd, bd_some]
  cases hdo : declOk d with
  | false => simp
  | true =>
    simp only [Bool.not_true, br_false, Bool.true_and]
    cases hl : lensOk d s with
    | true =>
      obtain ⟨l0, l1, l2⟩ := lens_of hl
      simp only [l0, l1, l2, bne_self_eq_false, br_false, Option.bind_some, Bool.true_and]
      exact specRows k hk d s hs l2
    | false =>
      unfold lensOk at hl
      unfold bne
      revert hl
      cases ((s.1.length : Int) == (d.1.length : Int)) <;> cases ((s.2.1.length : Int) == (d.2.1.length : Int)) <;> cases ((s.2.2.1.length : Int) == (d.2.2.1.length : Int)) <;> simp

theorem isStore_is (k : Nat) (hk : 4194304 < k) (d : DeclT) (s : StoreT) (hs : SSmall s) : impl_Decl_isStore k (d, s, ()) = some ((lensOk d s && rowsOk d s, ()), ((), (), ())) := by
  unfold impl_Decl_isStore
  cases hl : lensOk d s with
  | true =>
    obtain ⟨l0, l1, l2⟩ := lens_of hl
    have hr := implRows k hk d s hs l2
    simp only [l0, l1, l2, bne_self_eq_false, br_false, Option.bind_some, Bool.true_and]
    exact hr
  | false =>
    unfold lensOk at hl
    simp only [bne]
    revert hl
    cases ((s.1.length : Int) == (d.1.length : Int)) <;> cases ((s.2.1.length : Int) == (d.2.1.length : Int)) <;> cases ((s.2.2.1.length : Int) == (d.2.2.1.length : Int)) <;> simp
end Go.Pev.F
end

section
/-
  Draws of stores.
-/
set_option linter.unusedVariables false
set_option linter.unusedSimpArgs false
namespace Go.Pev.F

/-- Small stores. -/
structure SAny (s : StoreT) : Prop where
  n0 : s.1.length ≤ 1000
  n1 : s.2.1.length ≤ 1000
  n2 : s.2.2.1.length ≤ 1000
  m2 : ∀ r ∈ s.2.2.1, r.length ≤ 1000
  f0 : ∀ x ∈ s.1, Fits x
  f2 : ∀ r ∈ s.2.2.1, ∀ x ∈ r, Fits x

theorem SAny.small {s : StoreT} (h : SAny s) : SSmall s := by
  have n0 := h.n0
  have n1 := h.n1
  have n2 := h.n2
  exact ⟨by omega, by omega, by omega, fun r hr => by have := h.m2 r hr; omega⟩

theorem SAny.wf {s : StoreT} (h : SAny s) : storeKd.WF s := by
  have n0 := h.n0
  have n1 := h.n1
  have n2 := h.n2
  exact ⟨⟨by omega, fun x hx => h.f0 x hx⟩, ⟨by omega, fun x hx => trivial⟩, ⟨by omega, fun r hr => ⟨by have := h.m2 r hr; omega, fun x hx => h.f2 r hr x hx⟩⟩, trivial⟩

/-- A new store. -/
def newS (d : DeclT) : StoreT := (List.replicate d.1.length (0 : Int), List.replicate d.2.1.length false, d.2.2.1.map fun a => List.replicate a.2.1.toNat (0 : Int), ())

theorem decl_arrs {d : DeclT} (h : declOk d = true) : (d.1.length ≤ 5 ∧ d.2.1.length ≤ 3 ∧ d.2.2.1.length ≤ 2) ∧ ∀ a ∈ d.2.2.1, 1 ≤ a.2.1 ∧ a.2.1 ≤ 16 := by
  simp only [declOk, Bool.and_eq_true, decide_eq_true_eq] at h
  refine ⟨h.1, fun a ha => ?_⟩
  have := h.2.1
  simp only [arrsOk, Bool.not_eq_true', List.any_eq_false, Bool.not_eq_true', Bool.not_eq_false', decide_eq_true_eq] at this
  have := this a ha
  simpa using this

theorem newS_any {d : DeclT} (h : declOk d = true) : SAny (newS d) := by
  obtain ⟨⟨h0, h1, h2⟩, h3⟩ := decl_arrs h
  refine ⟨by simp [newS]; omega, by simp [newS]; omega, by simp [newS]; omega, ?_, ?_, ?_⟩
  · intro r hr
    obtain ⟨a, ha, rfl⟩ := List.mem_map.1 hr
    have := h3 a ha
    simp; omega
  · intro x hx
    have := List.eq_of_mem_replicate hx
    simp [Fits, this]
  · intro r hr x hx
    obtain ⟨a, ha, rfl⟩ := List.mem_map.1 hr
    have := List.eq_of_mem_replicate hx
    simp [Fits, this]

abbrev NewSt : Type := DeclT × StoreT × StoreT × Int × Unit
def NewJ (d : DeclT) (x : NewSt) : Prop := x.1 = d ∧ 0 ≤ x.2.2.2.1 ∧ x.2.2.2.1 ≤ d.2.2.1.length ∧ x.2.2.1 = (List.replicate d.1.length (0 : Int), List.replicate d.2.1.length false, (d.2.2.1.take x.2.2.2.1.toNat).map fun a => List.replicate a.2.1.toNat (0 : Int), ())

theorem t_storeNew (k : Nat) (hk : 4194304 < k) {d : DeclT} (hd : DSmall d) : Tot (spec_StoreNew k (d, ())) fun y => y.1.1 = cond (declOk d) (newS d) ([], [], [], ()) := by
  unfold spec_StoreNew
  simp only [specDeclOk_is k hk d hd, bd_some]
  cases hdo : declOk d with
  | false => simp only [Bool.not_false, br_true]; exact Tot.ret rfl
  | true =>
    simp only [Bool.not_true, br_false, cond_true]
    obtain ⟨⟨h0, h1, h2⟩, h3⟩ := decl_arrs hdo
    refine Tot.chk (by simp only [maxBytes]; omega) (Tot.chk (by simp only [maxBytes]; omega) ?_)
    refine Tot.loop (NewJ d) (fun x => ((d.2.2.1.length : Int) - x.2.2.2.1).toNat) ?_ k _ ⟨rfl, by simp, by simp, rfl⟩ (by simp only; omega)
    rintro G ⟨⟨d0, d1, d2, ⟨⟩⟩, ⟨t0, t1, t2, ⟨⟩⟩, ⟨s0, s1, s2, ⟨⟩⟩, i, ⟨⟩⟩ ⟨rfl, h4, h5, h6⟩ hG
    simp only at h0 h1 h2 h3 h4 h5 h6
    simp only [Prod.mk.injEq] at h6
    obtain ⟨rfl, rfl, rfl, _⟩ := h6
    simp only [spec_StoreNew.l0]
    refine Tot.dec (fun hlt => Tot.chk h4 (Tot.get (by omega) fun x2 hx2 e2 => ?_)) fun hlt => Tot.ret ?_
    · have hb := h3 x2 hx2
      refine Tot.chk (by simp only [maxBytes]; omega) (Tot.chk (by simp only [List.length_map, List.length_take, List.length_cons, List.length_nil, maxBytes]; omega) ?_)
      rw [wrap_i64 (n := i + 1) (by omega) (by omega)]
      refine hG _ ⟨rfl, ?_, ?_, ?_⟩ (by simp only; omega)
      · simp only; omega
      · simp only; omega
      · have e1 : (i + 1).toNat = i.toNat + 1 := by omega
        obtain ⟨q, r⟩ := List.getElem?_eq_some_iff.1 e2
        simp only [e1]
        rw [← List.take_append_getElem q, List.map_append, r]
        rfl
    · simp only [newS]
      rw [List.take_of_length_le (by omega)]

/-! ### Stores that are filled -/

/-- Of the same form. -/
structure Alike (S s : StoreT) : Prop where
  a0 : s.1.length = S.1.length
  a1 : s.2.1.length = S.2.1.length
  a2 : s.2.2.1.map List.length = S.2.2.1.map List.length
  f0 : ∀ x ∈ s.1, Fits x
  f2 : ∀ r ∈ s.2.2.1, ∀ x ∈ r, Fits x

theorem Alike.n2 {S s : StoreT} (h : Alike S s) : s.2.2.1.length = S.2.2.1.length := by
  have := congrArg List.length h.a2
  simpa using this

theorem Alike.row {S s : StoreT} (h : Alike S s) {i : Nat} (hi : i < s.2.2.1.length) : (s.2.2.1[i]).length = (S.2.2.1.getD i []).length := by
  have hi' : i < S.2.2.1.length := by have := h.n2; omega
  have := congrArg (·[i]?) h.a2
  simp only [List.getElem?_map, List.getElem?_eq_getElem hi, List.getElem?_eq_getElem hi', Option.map_some, Option.some.injEq] at this
  rw [this]
  simp [List.getD, List.getElem?_eq_getElem hi']

theorem Alike.any {S s : StoreT} (hS : SAny S) (h : Alike S s) : SAny s := by
  have n0 := hS.n0
  have n1 := hS.n1
  have n2 := hS.n2
  have a0 := h.a0
  have a1 := h.a1
  have a2 := h.n2
  refine ⟨by omega, by omega, by omega, fun r hr => ?_, h.f0, h.f2⟩
  obtain ⟨i, hi, rfl⟩ := List.mem_iff_getElem.1 hr
  rw [h.row hi]
  have hi' : i < S.2.2.1.length := by omega
  simp only [List.getD, List.getElem?_eq_getElem hi', Option.getD_some]
  exact hS.m2 _ (List.getElem_mem _)

theorem lens_set {l : List (List Int)} {i : Nat} {r x : List Int} (hx : l[i]? = some x) (hr : r.length = x.length) : (l.set i r).map List.length = l.map List.length := by
  obtain ⟨hi, e⟩ := List.getElem?_eq_some_iff.1 hx
  refine List.ext_getElem (by simp) fun j h1 h2 => ?_
  simp only [List.getElem_map, List.getElem_set]
  split
  · rename_i h; subst h; rw [hr, ← e]
  · rfl

abbrev StSt : Type := RdT × StoreT × StoreT × Int × Unit
abbrev StSt6 : Type := RdT × StoreT × StoreT × Int × Int × Unit
def StJ (S : StoreT) (x : StSt) : Prop := RdOk x.1 ∧ Alike S x.2.2.1 ∧ 0 ≤ x.2.2.2.1

abbrev StRes : Type := ((List Int × List Bool × List (List Int) × Unit) × Unit) × (RdT × Unit × Unit)

theorem alike_row {S : StoreT} {s0 : List Int} {s1 : List Bool} {s2 : List (List Int)} (h : Alike S (s0, s1, s2, ())) {i : Nat} {x : List Int} (hx : s2[i]? = some x) {j : Nat} {v : Int} (hv : Fits v) : Alike S (s0, s1, (s2.set i x).set i (x.set j v), ()) := by
  have e : (s2.set i x).set i (x.set j v) = s2.set i (x.set j v) := by simp
  obtain ⟨hi, ex⟩ := List.getElem?_eq_some_iff.1 hx
  have hxs : ∀ n ∈ x, Fits n := h.f2 x (ex ▸ List.getElem_mem hi)
  refine ⟨h.a0, h.a1, ?_, h.f0, ?_⟩
  · simp only [e]
    rw [lens_set hx (by simp)]
    exact h.a2
  · simp only [e]
    exact mem_set h.f2 (mem_set hxs hv)

theorem set_same {α : Type} {l : List α} {i : Nat} {x : α} (hx : l[i]? = some x) : l.set i x = l := by
  obtain ⟨hi, rfl⟩ := List.getElem?_eq_some_iff.1 hx
  exact List.set_getElem_self hi

theorem t_store_l6 (k : Nat) (hk : 4194304 < k) {S : StoreT} (hS : SAny S) (Q : StRes → Prop) (G4 : StSt → Option StRes) {i : Int} (h0 : 0 ≤ i) (hi : i < (S.2.2.1.length : Int))
    (hG4 : ∀ y : StSt, StJ S y → y.2.2.2.1 = i + 1 → Tot (G4 y) Q) :
    ∀ (f : Nat) (x : StSt6), (StJ S (x.1, x.2.1, x.2.2.1, x.2.2.2.1, ()) ∧ x.2.2.2.1 = i ∧ 0 ≤ x.2.2.2.2.1) → (((S.2.2.1.getD i.toNat []).length : Int) - x.2.2.2.2.1).toNat < f → Tot (iter (spec_l1Rd_store.l6 k G4) f x) Q := by
  refine Tot.loop (fun x : StSt6 => StJ S (x.1, x.2.1, x.2.2.1, x.2.2.2.1, ()) ∧ x.2.2.2.1 = i ∧ 0 ≤ x.2.2.2.2.1) (fun x : StSt6 => (((S.2.2.1.getD i.toNat []).length : Int) - x.2.2.2.2.1).toNat) ?_
  rintro G ⟨⟨b, p, ⟨⟩⟩, ⟨t0, t1, t2, ⟨⟩⟩, ⟨s0, s1, s2, ⟨⟩⟩, i', q, ⟨⟩⟩ ⟨⟨hr, al, _⟩, e, hq⟩ hG
  simp only at e hq al
  subst e
  have n2 := al.n2
  have m2 := (al.any hS).m2
  have N2 := hS.n2
  simp only at n2 m2
  have hlt : i'.toNat < s2.length := by omega
  simp only [spec_l1Rd_store.l6]
  refine Tot.chk (by omega) ?_
  rw [List.getElem?_eq_getElem hlt, bd_some]
  have hx := List.getElem?_eq_getElem hlt
  have hrow := al.row (i := i'.toNat) hlt
  simp only at hrow
  have hm := m2 _ (List.getElem_mem hlt)
  generalize s2[i'.toNat] = x at hx hrow hm
  rw [set_same hx]
  refine Tot.dec (fun hql => ?_) fun hql => ?_
  · refine Tot.chk (by omega) ?_
    rw [hx, bd_some]
    refine Tot.bd (t_below k hr 9) fun y8 h8 => Tot.chk ⟨hq, hql⟩ (Tot.get (by omega) fun x9 _ _ => ?_)
    rw [wrap_i64 (n := q + 1) (by omega) (by omega)]
    refine hG _ ⟨⟨h8.2, ?_, h0⟩, rfl, by simp only; omega⟩ (by simp only; omega)
    have := alike_row al hx (j := q.toNat) (v := IntKind.wrap .i64 (y8.1.1 - 3)) (wrap_i64_fits _)
    rw [set_same hx] at this
    exact this
  · rw [wrap_i64 (n := i' + 1) (by omega) (by omega)]
    exact hG4 _ ⟨hr, al, by simp only; omega⟩ rfl

theorem t_store_l4 (k : Nat) (hk : 4194304 < k) {S : StoreT} (hS : SAny S) : ∀ (f : Nat) (x : StSt), StJ S x → ((S.2.2.1.length : Int) - x.2.2.2.1).toNat < f → Tot (iter (spec_l1Rd_store.l4 k) f x) fun y => Alike S y.1.1 ∧ RdOk y.2.1 := by
  refine Tot.loop (StJ S) (fun x => ((S.2.2.1.length : Int) - x.2.2.2.1).toNat) ?_
  rintro G ⟨⟨b, p, ⟨⟩⟩, ⟨t0, t1, t2, ⟨⟩⟩, ⟨s0, s1, s2, ⟨⟩⟩, i, ⟨⟩⟩ ⟨hr, al, h0⟩ hG
  simp only at al h0
  have n2 := al.n2
  simp only at n2
  simp only [spec_l1Rd_store.l4]
  refine Tot.dec (fun hlt => ?_) fun _ => Tot.ret ⟨al, hr⟩
  have hrow : (S.2.2.1.getD i.toNat []).length ≤ 1000 := by
    have hi' : i.toNat < S.2.2.1.length := by omega
    simp only [List.getD, List.getElem?_eq_getElem hi', Option.getD_some]
    exact hS.m2 _ (List.getElem_mem _)
  exact t_store_l6 k hk hS _ G (i := i) h0 (by omega) (fun y hy e => hG y hy (by simp only; omega)) k _ ⟨⟨hr, al, h0⟩, rfl, by simp⟩ (by simp only; omega)

theorem t_store_l2 (k : Nat) (hk : 4194304 < k) {S : StoreT} (hS : SAny S) : ∀ (f : Nat) (x : StSt), StJ S x → ((S.2.1.length : Int) - x.2.2.2.1).toNat < f → Tot (iter (spec_l1Rd_store.l2 k) f x) fun y => Alike S y.1.1 ∧ RdOk y.2.1 := by
  refine Tot.loop (StJ S) (fun x => ((S.2.1.length : Int) - x.2.2.2.1).toNat) ?_
  rintro G ⟨⟨b, p, ⟨⟩⟩, ⟨t0, t1, t2, ⟨⟩⟩, ⟨s0, s1, s2, ⟨⟩⟩, i, ⟨⟩⟩ ⟨hr, al, h0⟩ hG
  simp only at al h0
  have n1 := al.a1
  have N1 := hS.n1
  have N2 := hS.n2
  simp only at n1
  simp only [spec_l1Rd_store.l2]
  refine Tot.dec (fun hlt => ?_) fun _ => ?_
  · refine Tot.bd (t_once k hr 2) fun y4 r4 => Tot.chk ⟨h0, hlt⟩ (Tot.get (by omega) fun x5 _ _ => ?_)
    rw [wrap_i64 (n := i + 1) (by omega) (by omega)]
    exact hG _ ⟨r4, ⟨al.a0, by simp only [List.length_set]; exact al.a1, al.a2, al.f0, al.f2⟩, by simp only; omega⟩ (by simp only; omega)
  · exact t_store_l4 k hk hS k _ ⟨hr, al, by simp⟩ (by simp only; omega)

theorem t_store_l0 (k : Nat) (hk : 4194304 < k) {S : StoreT} (hS : SAny S) : ∀ (f : Nat) (x : StSt), StJ S x → ((S.1.length : Int) - x.2.2.2.1).toNat < f → Tot (iter (spec_l1Rd_store.l0 k) f x) fun y => Alike S y.1.1 ∧ RdOk y.2.1 := by
  refine Tot.loop (StJ S) (fun x => ((S.1.length : Int) - x.2.2.2.1).toNat) ?_
  rintro G ⟨⟨b, p, ⟨⟩⟩, ⟨t0, t1, t2, ⟨⟩⟩, ⟨s0, s1, s2, ⟨⟩⟩, i, ⟨⟩⟩ ⟨hr, al, h0⟩ hG
  simp only at al h0
  have n0 := al.a0
  have N0 := hS.n0
  have N1 := hS.n1
  simp only at n0
  simp only [spec_l1Rd_store.l0]
  refine Tot.dec (fun hlt => ?_) fun _ => ?_
  · refine Tot.bd (t_num k (by omega) hr) fun y2 h2 => Tot.chk ⟨h0, hlt⟩ (Tot.get (by omega) fun x5 _ _ => ?_)
    rw [wrap_i64 (n := i + 1) (by omega) (by omega)]
    exact hG _ ⟨h2.2, ⟨by simp only [List.length_set]; exact al.a0, al.a1, al.a2, mem_set al.f0 h2.1, al.f2⟩, by simp only; omega⟩ (by simp only; omega)
  · exact t_store_l2 k hk hS k _ ⟨hr, al, by simp⟩ (by simp only; omega)

theorem alike_self {S : StoreT} (h : SAny S) : Alike S S := ⟨rfl, rfl, rfl, h.f0, h.f2⟩

theorem none_any : SAny ([], [], [], ()) := ⟨by simp, by simp, by simp, by simp, by simp, by simp⟩

theorem t_store (k : Nat) (hk : 4194304 < k) {r : RdT} (h : RdOk r) {d : DeclT} (hd : DSmall d) : Tot (spec_l1Rd_store k (r, d, ())) fun y => SAny y.1.1 ∧ RdOk y.2.1 := by
  obtain ⟨b, p, ⟨⟩⟩ := r
  unfold spec_l1Rd_store
  refine Tot.bd (t_storeNew k hk hd) fun y1 h1 => ?_
  have hS : SAny y1.1.1 := by
    rw [h1]
    cases hdo : declOk d with
    | false => exact none_any
    | true => exact newS_any hdo
  have n0 := hS.n0
  exact (t_store_l0 k hk hS k _ ⟨h, alike_self hS, by simp⟩ (by simp only; omega)).mono fun y hy => ⟨hy.1.any hS, hy.2⟩

theorem t_hurtDecl (k : Nat) (hk : 64 ≤ k) {r : RdT} (h : RdOk r) {d : DeclT} (hd : DDr d) : Tot (spec_l1Rd_hurtDecl k (r, d, ())) fun y => DSmall y.1.1 ∧ RdOk y.2.1 := by
  obtain ⟨b, p, ⟨⟩⟩ := r
  have n0 := hd.n0
  have n1 := hd.n1
  have n2 := hd.n2
  have s := hd.s
  unfold spec_l1Rd_hurtDecl
  refine Tot.bd (t_below k h 24) fun y1 h1 => Tot.br (fun _ => ?_) fun _ => Tot.br (fun _ => ?_) fun _ => Tot.br (fun _ => ?_) fun _ => ?_
  · refine Tot.chk (by simp only [List.length_nil, maxBytes]; omega) (Tot.bd (t_below k h1.2 6) fun y2 h2 => ?_)
    have b2 := h2.1.2.2 (by omega)
    have b0 := h2.1.1
    refine Tot.chk (by simp only [List.length_cons, List.length_nil]; omega) (Tot.get (by simp only [List.length_cons, List.length_nil]; omega) fun x3 hx _ => Tot.chk (by simp only [List.nil_append, List.length_cons, List.length_nil, maxBytes]; omega) (Tot.ret ⟨⟨?_, ?_, s.n1, s.s1, s.n2, s.s2⟩, h2.2⟩))
    · simp only [List.nil_append, List.length_append, List.length_cons, List.length_nil]; omega
    · simp only [List.nil_append]
      refine mem_push s.s0 ?_
      simp only [List.mem_cons, List.not_mem_nil, or_false] at hx
      rcases hx with rfl | rfl | rfl | rfl | rfl | rfl <;> decide
  · refine Tot.chk (by simp only [List.length_nil, maxBytes]; omega) (Tot.bd (t_off k (by omega) h1.2 (by omega) (by omega) (by omega)) fun y4 h4 => Tot.chk (by simp only [List.nil_append, List.length_cons, List.length_nil, maxBytes]; omega) (Tot.ret ⟨⟨s.n0, s.s0, s.n1, s.s1, ?_, ?_⟩, h4.2⟩))
    · simp only [List.nil_append, List.length_append, List.length_cons, List.length_nil]; omega
    · simp only [List.nil_append]
      exact mem_push s.s2 (by simp)
  · refine Tot.bd (t_below k h1.2 2) fun y5 h5 => ?_
    have b2 := h5.1.2.2 (by omega)
    have b0 := h5.1.1
    rw [wrap_i64 (n := 5 + y5.1.1) (by omega) (by omega)]
    refine Tot.chk (by simp only [List.length_cons, List.length_nil]; omega) (Tot.ret ⟨⟨?_, ?_, s.n1, s.s1, s.n2, s.s2⟩, h5.2⟩)
    · have := (subL_lens ([[112], [113], [114], [115], [116], [117]] : List (List UInt8)) (0 : Int).toNat ((5 + y5.1.1).toNat - (0 : Int).toNat)).2
      simp only [List.length_cons, List.length_nil] at this
      simp only; omega
    · intro x hx
      have := subL_memb hx
      simp only [List.mem_cons, List.not_mem_nil, or_false] at this
      rcases this with rfl | rfl | rfl | rfl | rfl | rfl <;> decide
  · exact Tot.ret ⟨s, h1.2⟩

theorem t_drawStore (k : Nat) (hk : 4194304 < k) {code : List Int} (h1 : code.length ≤ 140737488351232) (h2 : ∀ x ∈ code, 0 ≤ x ∧ x ≤ 255) : Tot (spec_DrawStoreText k (code, ())) fun y => DSmall y.1.1 ∧ SSmall y.1.2.1 ∧ storeKd.WF y.1.2.1 := by
  unfold spec_DrawStoreText
  refine Tot.bd (P := fun y => DSmall y.1.1 ∧ SSmall y.1.2.1 ∧ storeKd.WF y.1.2.1) ?_ fun y hy => Tot.ret hy
  unfold spec_DrawStoreOk
  refine Tot.bd (t_open k h1 h2) fun y1 r1 => Tot.bd (t_decl k (by omega) r1) fun y2 hd => Tot.bd (t_store k hk hd.2 hd.1.s) fun y3 h3 => Tot.bd (t_below k h3.2 16) fun y4 h4 => ?_
  obtain ⟨hS, r3⟩ := h3
  have sm := hS.small
  have wf := hS.wf
  have n0 := hS.n0
  have n2 := hS.n2
  refine Tot.br (fun _ => ?_) fun _ => Tot.br (fun _ => ?_) fun _ => Tot.br (fun _ => ?_) fun _ => ?_
  · refine Tot.chk (by simp only [List.length_cons, List.length_nil, maxBytes]; omega) (Tot.bd (t_hurtDecl k (by omega) h4.2 hd.1) fun y5 h5 => Tot.ret ⟨h5.1, ⟨?_, sm.n1, sm.n2, sm.m2⟩, ⟨?_, ?_⟩, wf.2⟩)
    · simp only [List.length_append, List.length_cons, List.length_nil]; omega
    · simp only [List.length_append, List.length_cons, List.length_nil]; omega
    · exact mem_push wf.1.2 (show IntKind.min .i64 ≤ (0 : Int) ∧ (0 : Int) ≤ IntKind.max .i64 by decide)
  · exact Tot.bd (t_hurtDecl k (by omega) h4.2 hd.1) fun y5 h5 => Tot.ret ⟨h5.1, ⟨sm.n0, by simp, sm.n2, sm.m2⟩, wf.1, ⟨by simp, by simp⟩, wf.2.2⟩
  · refine Tot.chk (by simp only [List.length_cons, List.length_nil, maxBytes]; omega) (Tot.bd (t_hurtDecl k (by omega) h4.2 hd.1) fun y5 h5 => Tot.ret ⟨h5.1, ⟨sm.n0, sm.n1, ?_, mem_push sm.m2 (by simp)⟩, wf.1, wf.2.1, ⟨?_, mem_push wf.2.2.1.2 (by simp [Kd.WF])⟩, wf.2.2.2⟩)
    · simp only [List.length_append, List.length_cons, List.length_nil]; omega
    · simp only [List.length_append, List.length_cons, List.length_nil]; omega
  · exact Tot.bd (t_hurtDecl k (by omega) h4.2 hd.1) fun y5 h5 => Tot.ret ⟨h5.1, sm, wf⟩
end Go.Pev.F
end

section
/-
  A store within bounds, by a code.
-/
set_option linter.unusedVariables false
set_option linter.unusedSimpArgs false
namespace Go.Pev.F

theorem t_byteOf (k : Nat) (code : List Int) {i : Int} (hi : 0 ≤ i) : Tot (laws_byteOf k (code, i, ())) fun _ => True := by
  unfold laws_byteOf
  refine Tot.br (fun _ => Tot.ret trivial) fun h => ?_
  have hn : ¬ (code.length : Int) = 0 := by simpa using h
  have hz : (!decide ((code.length : Int) = 0)) = true := by rw [decide_eq_false hn]; rfl
  obtain ⟨t1, t2⟩ := tmod_lt (a := i) (n := (code.length : Int)) hi (by omega)
  rw [hz, br_true]
  exact Tot.chk t1 (Tot.get (by omega) fun x _ _ => Tot.ret trivial)

theorem t_within (k : Nat) {a : IvT} (ha : IvFits a) (code : List Int) {i : Int} (h0 : 0 ≤ i) (h1 : i ≤ 1000000) : Tot (laws_within k (a, code, i, ())) fun y => Fits y.1.1 := by
  have hz : (!decide ((4 : Int) = 0)) = true := rfl
  have w1 : IntKind.wrap .i64 (i + 1) = i + 1 := wrap_i64 (by omega) (by omega)
  have w2 : IntKind.wrap .i64 (i + 2) = i + 2 := wrap_i64 (by omega) (by omega)
  unfold laws_within
  refine Tot.bd (t_byteOf k code h0) fun y1 _ => Tot.bd (t_byteOf k code (by rw [w1]; omega)) fun y2 _ => Tot.bd (t_byteOf k code (by rw [w2]; omega)) fun y3 _ => ?_
  rw [hz, br_true]
  refine Tot.br (fun _ => Tot.ret ha.1) fun _ => Tot.br (fun _ => Tot.ret ha.2) fun _ => Tot.br (fun _ => Tot.ret (wrap_i64_fits _)) fun h => ?_
  generalize IntKind.wrap .u64 (IntKind.wrap .u64 (IntKind.wrap .u64 a.2.1 - IntKind.wrap .u64 a.1) + 1) = n at h ⊢
  have hn : (!decide (n = 0)) = true := by
    have : ¬ n = 0 := by simpa using h
    rw [decide_eq_false this]; rfl
  rw [hn, br_true]
  exact Tot.ret (wrap_i64_fits _)

abbrev InSt4 : Type := List Int × EnvT × StoreT × StoreT × Int × Unit
abbrev InSt6 : Type := List Int × EnvT × StoreT × StoreT × Int × Int × Unit
abbrev InSt : Type := Int × List Int × EnvT × StoreT × StoreT × Int × Unit
abbrev InRes : Type := ((List Int × List Bool × List (List Int) × Unit) × Unit) × (Unit × Unit × Unit × Unit × Unit)

def InJ (S : StoreT) (e : EnvT) (x : InSt4) : Prop := x.2.1 = e ∧ Alike S x.2.2.2.1 ∧ 0 ≤ x.2.2.2.2.1

theorem t_inside_l6 (k : Nat) (hk : 4194304 < k) {S : StoreT} (hS : SAny S) {e : EnvT} (he2 : e.2.2.1.length = S.2.2.1.length) (fe : ∀ a ∈ e.2.2.1, IvFits a) (Q : InRes → Prop) (G4 : InSt4 → Option InRes) {i : Int} (h0 : 0 ≤ i) (hi : i < (S.2.2.1.length : Int))
    (hG4 : ∀ y : InSt4, InJ S e y → y.2.2.2.2.1 = i + 1 → Tot (G4 y) Q) :
    ∀ (f : Nat) (x : InSt6), (InJ S e (x.1, x.2.1, x.2.2.1, x.2.2.2.1, x.2.2.2.2.1, ()) ∧ x.2.2.2.2.1 = i ∧ 0 ≤ x.2.2.2.2.2.1) → (((S.2.2.1.getD i.toNat []).length : Int) - x.2.2.2.2.2.1).toNat < f → Tot (iter (laws_inside.l6 k G4) f x) Q := by
  refine Tot.loop (fun x : InSt6 => InJ S e (x.1, x.2.1, x.2.2.1, x.2.2.2.1, x.2.2.2.2.1, ()) ∧ x.2.2.2.2.1 = i ∧ 0 ≤ x.2.2.2.2.2.1) (fun x : InSt6 => (((S.2.2.1.getD i.toNat []).length : Int) - x.2.2.2.2.2.1).toNat) ?_
  rintro G ⟨code, ⟨e0, e1, e2, ⟨⟩⟩, ⟨t0, t1, t2, ⟨⟩⟩, ⟨s0, s1, s2, ⟨⟩⟩, i', q, ⟨⟩⟩ ⟨⟨ee, al, _⟩, ei, hq⟩ hG
  simp only at ee ei hq al
  subst ee
  subst ei
  have n2 := al.n2
  have m2 := (al.any hS).m2
  have N2 := hS.n2
  simp only at n2 m2 he2 fe
  have hlt : i'.toNat < s2.length := by omega
  simp only [laws_inside.l6]
  refine Tot.chk (by omega) ?_
  rw [List.getElem?_eq_getElem hlt, bd_some]
  have hx := List.getElem?_eq_getElem hlt
  have hrow := al.row (i := i'.toNat) hlt
  simp only at hrow
  have hm := m2 _ (List.getElem_mem hlt)
  generalize s2[i'.toNat] = x at hx hrow hm
  rw [set_same hx]
  refine Tot.dec (fun hql => ?_) fun hql => ?_
  · refine Tot.chk (by omega) ?_
    rw [hx, bd_some]
    refine Tot.chk h0 (Tot.get (by omega) fun x8 h8 _ => ?_)
    have w1 : IntKind.wrap .i64 (5 * q) = 5 * q := wrap_i64 (by omega) (by omega)
    have w2 : IntKind.wrap .i64 (5 * q + i') = 5 * q + i' := wrap_i64 (by omega) (by omega)
    rw [w1, w2]
    refine Tot.bd (t_within k (fe _ h8) code (by omega) (by omega)) fun y9 h9 => Tot.chk ⟨hq, hql⟩ (Tot.get (by omega) fun x10 _ _ => ?_)
    rw [wrap_i64 (n := q + 1) (by omega) (by omega)]
    refine hG _ ⟨⟨rfl, ?_, h0⟩, rfl, by simp only; omega⟩ (by simp only; omega)
    have := alike_row al hx (j := q.toNat) (v := y9.1.1) h9
    rw [set_same hx] at this
    exact this
  · rw [wrap_i64 (n := i' + 1) (by omega) (by omega)]
    exact hG4 _ ⟨rfl, al, by simp only; omega⟩ rfl

theorem t_inside_l4 (k : Nat) (hk : 4194304 < k) {S : StoreT} (hS : SAny S) {e : EnvT} (he2 : e.2.2.1.length = S.2.2.1.length) (fe : ∀ a ∈ e.2.2.1, IvFits a) : ∀ (f : Nat) (x : InSt4), InJ S e x → ((S.2.2.1.length : Int) - x.2.2.2.2.1).toNat < f → Tot (iter (laws_inside.l4 k) f x) fun y => Alike S y.1.1 := by
  refine Tot.loop (InJ S e) (fun x => ((S.2.2.1.length : Int) - x.2.2.2.2.1).toNat) ?_
  rintro G ⟨code, ⟨e0, e1, e2, ⟨⟩⟩, ⟨t0, t1, t2, ⟨⟩⟩, ⟨s0, s1, s2, ⟨⟩⟩, i, ⟨⟩⟩ ⟨ee, al, h0⟩ hG
  simp only at ee al h0
  subst ee
  have n2 := al.n2
  simp only at n2
  simp only [laws_inside.l4]
  refine Tot.dec (fun hlt => ?_) fun _ => Tot.ret al
  have hrow : (S.2.2.1.getD i.toNat []).length ≤ 1000 := by
    have hi' : i.toNat < S.2.2.1.length := by omega
    simp only [List.getD, List.getElem?_eq_getElem hi', Option.getD_some]
    exact hS.m2 _ (List.getElem_mem _)
  exact t_inside_l6 k hk hS he2 fe _ G (i := i) h0 (by omega) (fun y hy e => hG y hy (by simp only; omega)) k _ ⟨⟨rfl, al, h0⟩, rfl, by simp⟩ (by simp only; omega)

def InJ2 (S : StoreT) (e : EnvT) (x : InSt) : Prop := x.2.2.1 = e ∧ Alike S x.2.2.2.2.1 ∧ 0 ≤ x.2.2.2.2.2.1

theorem t_inside_l2 (k : Nat) (hk : 4194304 < k) {S : StoreT} (hS : SAny S) {e : EnvT} (he2 : e.2.2.1.length = S.2.2.1.length) (fe : ∀ a ∈ e.2.2.1, IvFits a) : ∀ (f : Nat) (x : InSt), InJ2 S e x → ((S.2.1.length : Int) - x.2.2.2.2.2.1).toNat < f → Tot (iter (laws_inside.l2 k) f x) fun y => Alike S y.1.1 := by
  refine Tot.loop (InJ2 S e) (fun x => ((S.2.1.length : Int) - x.2.2.2.2.2.1).toNat) ?_
  rintro G ⟨leaf, code, ⟨e0, e1, e2, ⟨⟩⟩, ⟨t0, t1, t2, ⟨⟩⟩, ⟨s0, s1, s2, ⟨⟩⟩, i, ⟨⟩⟩ ⟨ee, al, h0⟩ hG
  simp only at ee al h0
  subst ee
  have n1 := al.a1
  have N1 := hS.n1
  have N2 := hS.n2
  simp only at n1
  simp only [laws_inside.l2]
  refine Tot.dec (fun hlt => ?_) fun _ => ?_
  · refine Tot.chk (wrap_u64_fits _).1 (Tot.chk ⟨h0, hlt⟩ (Tot.get (by omega) fun x5 _ _ => ?_))
    rw [wrap_i64 (n := i + 1) (by omega) (by omega)]
    exact hG _ ⟨rfl, ⟨al.a0, by simp only [List.length_set]; exact al.a1, al.a2, al.f0, al.f2⟩, by simp only; omega⟩ (by simp only; omega)
  · exact t_inside_l4 k hk hS he2 fe k _ ⟨rfl, al, by simp⟩ (by simp only; omega)

theorem t_inside_l0 (k : Nat) (hk : 4194304 < k) {S : StoreT} (hS : SAny S) {e : EnvT} (he1 : e.2.1.length = S.1.length) (he2 : e.2.2.1.length = S.2.2.1.length) (f1 : ∀ a ∈ e.2.1, IvFits a) (f2 : ∀ a ∈ e.2.2.1, IvFits a) : ∀ (f : Nat) (x : InSt), InJ2 S e x → ((S.1.length : Int) - x.2.2.2.2.2.1).toNat < f → Tot (iter (laws_inside.l0 k) f x) fun y => Alike S y.1.1 := by
  refine Tot.loop (InJ2 S e) (fun x => ((S.1.length : Int) - x.2.2.2.2.2.1).toNat) ?_
  rintro G ⟨leaf, code, ⟨e0, e1, e2, ⟨⟩⟩, ⟨t0, t1, t2, ⟨⟩⟩, ⟨s0, s1, s2, ⟨⟩⟩, i, ⟨⟩⟩ ⟨ee, al, h0⟩ hG
  simp only at ee al h0
  subst ee
  have n0 := al.a0
  have N0 := hS.n0
  have N1 := hS.n1
  simp only at n0 he1 f1
  simp only [laws_inside.l0]
  refine Tot.dec (fun hlt => ?_) fun _ => ?_
  · refine Tot.chk h0 (Tot.get (by omega) fun x2 h2 _ => ?_)
    rw [wrap_i64 (n := 3 * i) (by omega) (by omega)]
    refine Tot.bd (t_within k (f1 _ h2) code (by omega) (by omega)) fun y3 h3 => Tot.chk ⟨h0, hlt⟩ (Tot.get (by omega) fun x4 _ _ => ?_)
    rw [wrap_i64 (n := i + 1) (by omega) (by omega)]
    exact hG _ ⟨rfl, ⟨by simp only [List.length_set]; exact al.a0, al.a1, al.a2, mem_set al.f0 h3, al.f2⟩, by simp only; omega⟩ (by simp only; omega)
  · exact t_inside_l2 k hk hS he2 f2 k _ ⟨rfl, al, by simp⟩ (by simp only; omega)

theorem t_inside (k : Nat) (hk : 4194304 < k) {d : DeclT} (hd : DSmall d) (hdo : declOk d = true) {e : EnvT} (he1 : e.2.1.length = d.1.length) (he2 : e.2.2.1.length = d.2.2.1.length) (f1 : ∀ a ∈ e.2.1, IvFits a) (f2 : ∀ a ∈ e.2.2.1, IvFits a) (leaf : Int) (code : List Int) :
    Tot (laws_inside k (d, e, leaf, code, ())) fun y => Alike (newS d) y.1.1 := by
  unfold laws_inside
  refine Tot.bd (t_storeNew k hk hd) fun y1 h1 => ?_
  rw [hdo, cond_true] at h1
  have hS := newS_any hdo
  have n0 := hS.n0
  obtain ⟨⟨⟨s0, s1, s2, ⟨⟩⟩, ⟨⟩⟩, o⟩ := y1
  simp only at h1
  have al : Alike (newS d) (s0, s1, s2, ()) := by rw [h1]; exact alike_self hS
  exact t_inside_l0 k hk hS (by simp [newS]; exact he1) (by simp [newS]; exact he2) f1 f2 k _ ⟨rfl, al, by simp⟩ (by simp only; omega)
end Go.Pev.F
end

section
/-
  A store's text: the program's is the reference's.
-/
set_option linter.unusedVariables false
set_option linter.unusedSimpArgs false
namespace Go.Pev.F
open Go.Lib (itoa join)

theorem implStoreOk_is (k : Nat) (hk : 4194304 < k) (hk2 : k ≤ 4611686018427387903) (d : DeclT) (hd : DSmall d) (s : StoreT) (hs : SSmall s) : impl_StoreOk k (d, s, ()) = some ((storeOk d s, ()), ((), (), ())) := by
  unfold impl_StoreOk storeOk
  simp only [implDeclOk_is k hk hk2 d hd, isStore_is k hk d s hs, bd_some]
  cases hdo : declOk d with
  | false => simp
  | true => simp

def IFits (n : Int) : Prop := -9223372036854775808 ≤ n ∧ n ≤ 9223372036854775807
def boolW (b : Bool) : List UInt8 := cond b [116, 114, 117, 101] [102, 97, 108, 115, 101]
def tok0 (p : List UInt8 × Int) : Names := [p.1, itoa p.2]
def tok1 (p : List UInt8 × Bool) : Names := [p.1, boolW p.2]
def tok2 (p : ArrT × List Int) : Names := p.1.1 :: p.2.map itoa
def pr0 (d : DeclT) (s : StoreT) : List (List UInt8 × Int) := d.1.zip s.1
def pr1 (d : DeclT) (s : StoreT) : List (List UInt8 × Bool) := d.2.1.zip s.2.1
def pr2 (d : DeclT) (s : StoreT) : List (ArrT × List Int) := d.2.2.1.zip s.2.2.1
def toks (d : DeclT) (s : StoreT) : Names := ((pr0 d s).flatMap tok0 ++ (pr1 d s).flatMap tok1) ++ (pr2 d s).flatMap tok2

structure SFine (d : DeclT) (s : StoreT) : Prop where
  l0 : d.1.length ≤ 5
  l1 : d.2.1.length ≤ 3
  l2 : d.2.2.1.length ≤ 2
  e0 : s.1.length = d.1.length
  e1 : s.2.1.length = d.2.1.length
  e2 : s.2.2.1.length = d.2.2.1.length
  f0 : ∀ n ∈ s.1, IFits n
  f2 : ∀ r ∈ s.2.2.1, ∀ n ∈ r, IFits n

theorem sfine_of {d : DeclT} {s : StoreT} (h : storeOk d s = true) (hw : storeKd.WF s) : SFine d s := by
  simp only [storeOk, declOk, Bool.and_eq_true, decide_eq_true_eq] at h
  obtain ⟨⟨⟨h0, h1, h2⟩, _⟩, h3, _⟩ := h
  obtain ⟨e0, e1, e2⟩ := lens_of h3
  obtain ⟨⟨_, a2⟩, _, ⟨_, c2⟩, _⟩ := hw
  exact ⟨h0, h1, h2, e0, e1, e2, fun n hn => a2 n hn, fun r hr n hn => (c2 r hr).2 n hn⟩

theorem flat_step {α β : Type} (f : α → List β) {l : List α} {i : Nat} (hi : i < l.length) : (l.take (i + 1)).flatMap f = (l.take i).flatMap f ++ f l[i] := by
  rw [← List.take_append_getElem hi, List.flatMap_append]; simp

theorem flat_len {α β : Type} (f : α → List β) (M : Nat) : ∀ (l : List α), (∀ p ∈ l, (f p).length ≤ M) → (l.flatMap f).length ≤ l.length * M
  | [], _ => by simp
  | x :: r, h => by
    have h1 := flat_len f M r fun p hp => h p (List.mem_cons_of_mem _ hp)
    have h2 := h x List.mem_cons_self
    simp only [List.flatMap_cons, List.length_append, List.length_cons, Nat.add_mul, Nat.one_mul]
    omega

theorem len0 (l : List (List UInt8 × Int)) : (l.flatMap tok0).length ≤ l.length * 2 := flat_len tok0 2 l fun p _ => Nat.le_refl _
theorem len1 (l : List (List UInt8 × Bool)) : (l.flatMap tok1).length ≤ l.length * 2 := flat_len tok1 2 l fun p _ => Nat.le_refl _
theorem len2 {d : DeclT} {s : StoreT} (hs : SSmall s) (i : Nat) : (((pr2 d s).take i).flatMap tok2).length ≤ ((pr2 d s).take i).length * 1048577 := flat_len tok2 1048577 _ fun p hp => by
  have h := List.of_mem_zip (List.mem_of_mem_take hp)
  have := hs.m2 _ h.2
  simp [tok2]; omega

theorem toks_small {d : DeclT} {s : StoreT} (hd : DSmall d) (hs : SSmall s) (hf : SFine d s) : (toks d s).length ≤ 2097170 ∧ ∀ x ∈ toks d s, x.length ≤ 1048576 := by
  have l0 := hf.l0
  have l1 := hf.l1
  have l2 := hf.l2
  have z0 : (pr0 d s).length ≤ 5 := by simp [pr0]; omega
  have z1 : (pr1 d s).length ≤ 3 := by simp [pr1]; omega
  have z2 : (pr2 d s).length ≤ 2 := by simp [pr2]; omega
  have k0 := len0 (pr0 d s)
  have k1 := len1 (pr1 d s)
  have k2 := len2 (d := d) hs (pr2 d s).length
  rw [List.take_length] at k2
  refine ⟨by simp only [toks, List.length_append]; omega, fun x hx => ?_⟩
  simp only [toks, List.mem_append, List.mem_flatMap] at hx
  rcases hx with (⟨p, hp, hx⟩ | ⟨p, hp, hx⟩) | ⟨p, hp, hx⟩
  · have h := List.of_mem_zip hp
    have hi := hf.f0 _ h.2
    have := itoa_len p.2 hi.1 hi.2
    have := hd.s0 _ h.1
    simp only [tok0, List.mem_cons, List.not_mem_nil, or_false] at hx
    rcases hx with rfl | rfl <;> omega
  · have h := List.of_mem_zip hp
    have := hd.s1 _ h.1
    simp only [tok1, List.mem_cons, List.not_mem_nil, or_false] at hx
    rcases hx with rfl | rfl
    · omega
    · unfold boolW; cases p.2 <;> simp
  · have h := List.of_mem_zip hp
    have := hd.s2 _ h.1
    simp only [tok2, List.mem_cons, List.mem_map] at hx
    rcases hx with rfl | ⟨n, hn, rfl⟩
    · omega
    · have hi := hf.f2 _ h.2 n hn
      have := itoa_len n hi.1 hi.2
      omega

/-! ### The reference -/

theorem specRow (k : Nat) (hk : 4194304 < k) (d : DeclT) (s : StoreT) (G4) (l : Names) {i : Nat} (hi : i < s.2.2.1.length) (hn : s.2.2.1.length ≤ 1048576) (hl : l.length ≤ 4194304) (hr : s.2.2.1[i].length ≤ 1048576) (hf : ∀ n ∈ s.2.2.1[i], IFits n) :
    iter (spec_StoreText.l6 k G4) k ((d.1, d.2.1, d.2.2.1, ()), (s.1, s.2.1, s.2.2.1, ()), l, (i : Int), 0, ()) = G4 ((d.1, d.2.1, d.2.2.1, ()), (s.1, s.2.1, s.2.2.1, ()), l ++ s.2.2.1[i].map itoa, ((i + 1 : Nat) : Int), ()) := by
  have h3 : (0 : Int) ≤ (i : Int) := by omega
  have h := iter_for (b := spec_StoreText.l6 k G4) (fun j => ((d.1, d.2.1, d.2.2.1, ()), (s.1, s.2.1, s.2.2.1, ()), l ++ (s.2.2.1[i].take j).map itoa, (i : Int), (j : Int), ())) s.2.2.1[i].length (r := G4 ((d.1, d.2.1, d.2.2.1, ()), (s.1, s.2.1, s.2.2.1, ()), l ++ s.2.2.1[i].map itoa, ((i + 1 : Nat) : Int), ())) (fun G j hj => by
    have h2 : ((j : Int) < (s.2.2.1[i].length : Int)) := by omega
    have h4 : (0 : Int) ≤ (j : Int) := by omega
    have hfj := hf _ (List.getElem_mem hj)
    have h5 : ((l ++ (s.2.2.1[i].take j).map itoa).length + ([itoa s.2.2.1[i][j]] : List (List UInt8)).length) * 16 ≤ maxBytes := by simp [maxBytes]; omega
    simp only [spec_StoreText.l6, br_dec, if_pos h2, if_pos h3, if_pos h4, Int.toNat_natCast, List.getElem?_eq_getElem hi, List.getElem?_eq_getElem hj, bd_some, l1Dec_is k (by omega) s.2.2.1[i][j] hfj.1 hfj.2, if_pos h5]
    rw [wrap_succ (by omega), ← List.take_append_getElem hj, List.map_append, List.append_assoc]
    rfl) (fun G => by
    have h2 : ¬ ((s.2.2.1[i].length : Int) < (s.2.2.1[i].length : Int)) := by omega
    simp only [spec_StoreText.l6, br_dec, if_neg h2, if_pos h3, Int.toNat_natCast, List.getElem?_eq_getElem hi, bd_some, List.take_length]
    rw [wrap_succ (by omega)]) (f := k) (by omega)
  simp only [List.take_zero, List.map_nil, List.append_nil] at h
  exact h

theorem specStore_l4 (k : Nat) (hk : 4194304 < k) (hk2 : k ≤ 4611686018427387903) (d : DeclT) (hd : DSmall d) (s : StoreT) (hs : SSmall s) (hf : SFine d s) :
    iter (spec_StoreText.l4 k) k ((d.1, d.2.1, d.2.2.1, ()), (s.1, s.2.1, s.2.2.1, ()), (pr0 d s).flatMap tok0 ++ (pr1 d s).flatMap tok1, 0, ()) = some ((join (toks d s) [32], ()), ((), (), ())) := by
  have l0 := hf.l0
  have l1 := hf.l1
  have l2 := hf.l2
  have e2 := hf.e2
  have n2 := hs.n2
  have z0 : (pr0 d s).length ≤ 5 := by simp [pr0]; omega
  have z1 : (pr1 d s).length ≤ 3 := by simp [pr1]; omega
  have z2 : (pr2 d s).length = s.2.2.1.length := by simp [pr2]; omega
  have k0 := len0 (pr0 d s)
  have k1 := len1 (pr1 d s)
  obtain ⟨t1, t2⟩ := toks_small hd hs hf
  have h := iter_for (b := spec_StoreText.l4 k) (fun i => ((d.1, d.2.1, d.2.2.1, ()), (s.1, s.2.1, s.2.2.1, ()), ((pr0 d s).flatMap tok0 ++ (pr1 d s).flatMap tok1) ++ ((pr2 d s).take i).flatMap tok2, (i : Int), ())) s.2.2.1.length (r := some ((join (toks d s) [32], ()), ((), (), ()))) (fun G i hi => by
    have hi2 : i < d.2.2.1.length := by omega
    have hi3 : i < (pr2 d s).length := by omega
    have h2 : ((i : Int) < (s.2.2.1.length : Int)) := by omega
    have h3 : (0 : Int) ≤ (i : Int) := by omega
    have k2 := len2 (d := d) hs i
    have k3 : ((pr2 d s).take i).length ≤ 2 := by simp; omega
    have h5 : ((((pr0 d s).flatMap tok0 ++ (pr1 d s).flatMap tok1) ++ ((pr2 d s).take i).flatMap tok2).length + ([d.2.2.1[i].1] : List (List UInt8)).length) * 16 ≤ maxBytes := by
      simp only [List.length_append, List.length_cons, List.length_nil, maxBytes]; omega
    have eo : tok2 (pr2 d s)[i] = [d.2.2.1[i].1] ++ s.2.2.1[i].map itoa := by simp [pr2, tok2]
    simp only [spec_StoreText.l4, br_dec, if_pos h2, if_pos h3, Int.toNat_natCast, List.getElem?_eq_getElem hi2, bd_some, if_pos h5]
    rw [specRow k hk d s G _ hi n2 (by simp only [List.length_append, List.length_cons, List.length_nil]; omega) (hs.m2 _ (List.getElem_mem hi)) (hf.f2 _ (List.getElem_mem hi)), flat_step tok2 hi3, eo]
    simp only [List.append_assoc]) (fun G => by
    have h2 : ¬ ((s.2.2.1.length : Int) < (s.2.2.1.length : Int)) := by omega
    have ht : (pr2 d s).take s.2.2.1.length = pr2 d s := by rw [List.take_of_length_le (by omega)]
    have hj := l13Joined_is k (toks d s) [32] (by omega) hk2 1048576 t2 (Nat.le_trans (Nat.mul_le_mul_right _ t1) (by decide))
    have hj' : spec_l13Joined k (((pr0 d s).flatMap tok0 ++ (pr1 d s).flatMap tok1) ++ (pr2 d s).flatMap tok2, [32], ()) = some ((join (toks d s) [32], ()), ((), (), ())) := hj
    simp only [spec_StoreText.l4, br_dec, if_neg h2, ht, hj', bd_some]) (f := k) (by omega)
  simp only [List.take_zero, List.flatMap_nil, List.append_nil] at h
  exact h

theorem specStore_l2 (k : Nat) (hk : 4194304 < k) (hk2 : k ≤ 4611686018427387903) (d : DeclT) (hd : DSmall d) (s : StoreT) (hs : SSmall s) (hf : SFine d s) :
    iter (spec_StoreText.l2 k) k ((d.1, d.2.1, d.2.2.1, ()), (s.1, s.2.1, s.2.2.1, ()), (pr0 d s).flatMap tok0, 0, ()) = some ((join (toks d s) [32], ()), ((), (), ())) := by
  have l0 := hf.l0
  have l1 := hf.l1
  have e1 := hf.e1
  have z0 : (pr0 d s).length ≤ 5 := by simp [pr0]; omega
  have z1 : (pr1 d s).length = s.2.1.length := by simp [pr1]; omega
  have k0 := len0 (pr0 d s)
  have h := iter_for (b := spec_StoreText.l2 k) (fun i => ((d.1, d.2.1, d.2.2.1, ()), (s.1, s.2.1, s.2.2.1, ()), (pr0 d s).flatMap tok0 ++ ((pr1 d s).take i).flatMap tok1, (i : Int), ())) s.2.1.length (r := some ((join (toks d s) [32], ()), ((), (), ()))) (fun G i hi => by
    have hi2 : i < d.2.1.length := by omega
    have hi3 : i < (pr1 d s).length := by omega
    have h2 : ((i : Int) < (s.2.1.length : Int)) := by omega
    have h3 : (0 : Int) ≤ (i : Int) := by omega
    have k2 := len1 ((pr1 d s).take i)
    have k3 : ((pr1 d s).take i).length ≤ 3 := by simp; omega
    have h5 : ∀ w : List UInt8, (((pr0 d s).flatMap tok0 ++ ((pr1 d s).take i).flatMap tok1).length + ([d.2.1[i], w] : List (List UInt8)).length) * 16 ≤ maxBytes := fun w => by
      simp only [List.length_append, List.length_cons, List.length_nil, maxBytes]; omega
    have eo : tok1 (pr1 d s)[i] = [d.2.1[i], boolW s.2.1[i]] := by simp [pr1, tok1]
    simp only [spec_StoreText.l2, br_dec, if_pos h2, if_pos h3, Int.toNat_natCast, List.getElem?_eq_getElem hi, List.getElem?_eq_getElem hi2, bd_some, if_pos (h5 _)]
    rw [wrap_succ (by omega), flat_step tok1 hi3, eo, ← List.append_assoc]
    cases s.2.1[i] <;> simp [boolW]) (fun G => by
    have h2 : ¬ ((s.2.1.length : Int) < (s.2.1.length : Int)) := by omega
    have ht : (pr1 d s).take s.2.1.length = pr1 d s := by rw [List.take_of_length_le (by omega)]
    simp only [spec_StoreText.l2, br_dec, if_neg h2, ht]
    exact specStore_l4 k hk hk2 d hd s hs hf) (f := k) (by omega)
  simp only [List.take_zero, List.flatMap_nil, List.append_nil] at h
  exact h

theorem specStore_l0 (k : Nat) (hk : 4194304 < k) (hk2 : k ≤ 4611686018427387903) (d : DeclT) (hd : DSmall d) (s : StoreT) (hs : SSmall s) (hf : SFine d s) :
    iter (spec_StoreText.l0 k) k ((d.1, d.2.1, d.2.2.1, ()), (s.1, s.2.1, s.2.2.1, ()), ([] : List (List UInt8)), 0, ()) = some ((join (toks d s) [32], ()), ((), (), ())) := by
  have l0 := hf.l0
  have e0 := hf.e0
  have z0 : (pr0 d s).length = s.1.length := by simp [pr0]; omega
  have h := iter_for (b := spec_StoreText.l0 k) (fun i => ((d.1, d.2.1, d.2.2.1, ()), (s.1, s.2.1, s.2.2.1, ()), ((pr0 d s).take i).flatMap tok0, (i : Int), ())) s.1.length (r := some ((join (toks d s) [32], ()), ((), (), ()))) (fun G i hi => by
    have hi2 : i < d.1.length := by omega
    have hi3 : i < (pr0 d s).length := by omega
    have h2 : ((i : Int) < (s.1.length : Int)) := by omega
    have h3 : (0 : Int) ≤ (i : Int) := by omega
    have hfi := hf.f0 _ (List.getElem_mem hi)
    have k2 := len0 ((pr0 d s).take i)
    have k3 : ((pr0 d s).take i).length ≤ 5 := by simp; omega
    have h5 : ((((pr0 d s).take i).flatMap tok0).length + ([d.1[i], itoa s.1[i]] : List (List UInt8)).length) * 16 ≤ maxBytes := by
      simp only [List.length_cons, List.length_nil, maxBytes]; omega
    have eo : tok0 (pr0 d s)[i] = [d.1[i], itoa s.1[i]] := by simp [pr0, tok0]
    simp only [spec_StoreText.l0, br_dec, if_pos h2, if_pos h3, Int.toNat_natCast, List.getElem?_eq_getElem hi, List.getElem?_eq_getElem hi2, bd_some, l1Dec_is k (by omega) s.1[i] hfi.1 hfi.2, if_pos h5]
    rw [wrap_succ (by omega), flat_step tok0 hi3, eo]) (fun G => by
    have h2 : ¬ ((s.1.length : Int) < (s.1.length : Int)) := by omega
    have ht : (pr0 d s).take s.1.length = pr0 d s := by rw [List.take_of_length_le (by omega)]
    simp only [spec_StoreText.l0, br_dec, if_neg h2, ht]
    exact specStore_l2 k hk hk2 d hd s hs hf) (f := k) (by omega)
  simp only [List.take_zero, List.flatMap_nil] at h
  exact h

/-! ### The program -/

theorem formatBool_is (k : Nat) (b : Bool) : strconv_FormatBool k (b, ()) = some ((boolW b, ()), ((), ())) := by
  unfold strconv_FormatBool strconv_FormatBool_x boolW
  cases b <;> simp

theorem implRow (k : Nat) (hk : 4194304 < k) (d : DeclT) (s : StoreT) (G4) (l : Names) {i : Nat} (hi : i < s.2.2.1.length) (hn : s.2.2.1.length ≤ 1048576) (hl : l.length ≤ 4194304) (hr : s.2.2.1[i].length ≤ 1048576) (hf : ∀ n ∈ s.2.2.1[i], IFits n) :
    iter (impl_StoreText.l6 k G4) k ((d.1, d.2.1, d.2.2.1, ()), l, s.2.2.1, (s.2.2.1.length : Int), (i : Int), s.2.2.1[i], (s.2.2.1[i].length : Int), 0, ()) = G4 ((d.1, d.2.1, d.2.2.1, ()), l ++ s.2.2.1[i].map itoa, s.2.2.1, (s.2.2.1.length : Int), ((i + 1 : Nat) : Int), ()) := by
  have h := iter_for (b := impl_StoreText.l6 k G4) (fun j => ((d.1, d.2.1, d.2.2.1, ()), l ++ (s.2.2.1[i].take j).map itoa, s.2.2.1, (s.2.2.1.length : Int), (i : Int), s.2.2.1[i], (s.2.2.1[i].length : Int), (j : Int), ())) s.2.2.1[i].length (r := G4 ((d.1, d.2.1, d.2.2.1, ()), l ++ s.2.2.1[i].map itoa, s.2.2.1, (s.2.2.1.length : Int), ((i + 1 : Nat) : Int), ())) (fun G j hj => by
    have h2 : ((j : Int) < (s.2.2.1[i].length : Int)) := by omega
    have h4 : (0 : Int) ≤ (j : Int) := by omega
    have hfj := hf _ (List.getElem_mem hj)
    have h5 : ((l ++ (s.2.2.1[i].take j).map itoa).length + ([itoa s.2.2.1[i][j]] : List (List UInt8)).length) * 16 ≤ maxBytes := by simp [maxBytes]; omega
    simp only [impl_StoreText.l6, br_dec, if_pos h2, if_pos h4, Int.toNat_natCast, List.getElem?_eq_getElem hj, bd_some, decimal_is k s.2.2.1[i][j] hfj.1 hfj.2, if_pos h5]
    rw [wrap_succ (by omega), ← List.take_append_getElem hj, List.map_append, List.append_assoc]
    rfl) (fun G => by
    have h2 : ¬ ((s.2.2.1[i].length : Int) < (s.2.2.1[i].length : Int)) := by omega
    simp only [impl_StoreText.l6, br_dec, if_neg h2, List.take_length]
    rw [wrap_succ (by omega)]) (f := k) (by omega)
  simp only [List.take_zero, List.map_nil, List.append_nil] at h
  exact h

theorem implStore_l4 (k : Nat) (hk : 4194304 < k) (hk2 : k ≤ 4611686018427387903) (d : DeclT) (hd : DSmall d) (s : StoreT) (hs : SSmall s) (hf : SFine d s) :
    iter (impl_StoreText.l4 k) k ((d.1, d.2.1, d.2.2.1, ()), (pr0 d s).flatMap tok0 ++ (pr1 d s).flatMap tok1, s.2.2.1, (s.2.2.1.length : Int), 0, ()) = some ((join (toks d s) [32], ()), ((), (), ())) := by
  have l0 := hf.l0
  have l1 := hf.l1
  have l2 := hf.l2
  have e2 := hf.e2
  have n2 := hs.n2
  have z0 : (pr0 d s).length ≤ 5 := by simp [pr0]; omega
  have z1 : (pr1 d s).length ≤ 3 := by simp [pr1]; omega
  have z2 : (pr2 d s).length = s.2.2.1.length := by simp [pr2]; omega
  have k0 := len0 (pr0 d s)
  have k1 := len1 (pr1 d s)
  obtain ⟨t1, t2⟩ := toks_small hd hs hf
  have h := iter_for (b := impl_StoreText.l4 k) (fun i => ((d.1, d.2.1, d.2.2.1, ()), ((pr0 d s).flatMap tok0 ++ (pr1 d s).flatMap tok1) ++ ((pr2 d s).take i).flatMap tok2, s.2.2.1, (s.2.2.1.length : Int), (i : Int), ())) s.2.2.1.length (r := some ((join (toks d s) [32], ()), ((), (), ()))) (fun G i hi => by
    have hi2 : i < d.2.2.1.length := by omega
    have hi3 : i < (pr2 d s).length := by omega
    have h2 : ((i : Int) < (s.2.2.1.length : Int)) := by omega
    have h3 : (0 : Int) ≤ (i : Int) := by omega
    have k2 := len2 (d := d) hs i
    have k3 : ((pr2 d s).take i).length ≤ 2 := by simp; omega
    have h5 : ((((pr0 d s).flatMap tok0 ++ (pr1 d s).flatMap tok1) ++ ((pr2 d s).take i).flatMap tok2).length + ([d.2.2.1[i].1] : List (List UInt8)).length) * 16 ≤ maxBytes := by
      simp only [List.length_append, List.length_cons, List.length_nil, maxBytes]; omega
    have eo : tok2 (pr2 d s)[i] = [d.2.2.1[i].1] ++ s.2.2.1[i].map itoa := by simp [pr2, tok2]
    simp only [impl_StoreText.l4, br_dec, if_pos h2, if_pos h3, Int.toNat_natCast, List.getElem?_eq_getElem hi, List.getElem?_eq_getElem hi2, bd_some, if_pos h5]
    rw [implRow k hk d s G _ hi n2 (by simp only [List.length_append, List.length_cons, List.length_nil]; omega) (hs.m2 _ (List.getElem_mem hi)) (hf.f2 _ (List.getElem_mem hi)), flat_step tok2 hi3, eo]
    simp only [List.append_assoc]) (fun G => by
    have h2 : ¬ ((s.2.2.1.length : Int) < (s.2.2.1.length : Int)) := by omega
    have ht : (pr2 d s).take s.2.2.1.length = pr2 d s := by rw [List.take_of_length_le (by omega)]
    have hj := lbJoin_is k (toks d s) [32] 1048576 t2 (by omega) (Nat.le_trans (Nat.mul_le_mul_right _ t1) (by decide))
    have hj' : Lb.Join k (((pr0 d s).flatMap tok0 ++ (pr1 d s).flatMap tok1) ++ (pr2 d s).flatMap tok2, [32], ()) = some ((join (toks d s) [32], ()), ((), (), ())) := hj
    simp only [impl_StoreText.l4, br_dec, if_neg h2, ht, hj', bd_some]) (f := k) (by omega)
  simp only [List.take_zero, List.flatMap_nil, List.append_nil] at h
  exact h

theorem implStore_l2 (k : Nat) (hk : 4194304 < k) (hk2 : k ≤ 4611686018427387903) (d : DeclT) (hd : DSmall d) (s : StoreT) (hs : SSmall s) (hf : SFine d s) :
    iter (impl_StoreText.l2 k) k ((d.1, d.2.1, d.2.2.1, ()), (s.1, s.2.1, s.2.2.1, ()), (pr0 d s).flatMap tok0, s.2.1, (s.2.1.length : Int), 0, ()) = some ((join (toks d s) [32], ()), ((), (), ())) := by
  have l0 := hf.l0
  have l1 := hf.l1
  have e1 := hf.e1
  have z0 : (pr0 d s).length ≤ 5 := by simp [pr0]; omega
  have z1 : (pr1 d s).length = s.2.1.length := by simp [pr1]; omega
  have k0 := len0 (pr0 d s)
  have h := iter_for (b := impl_StoreText.l2 k) (fun i => ((d.1, d.2.1, d.2.2.1, ()), (s.1, s.2.1, s.2.2.1, ()), (pr0 d s).flatMap tok0 ++ ((pr1 d s).take i).flatMap tok1, s.2.1, (s.2.1.length : Int), (i : Int), ())) s.2.1.length (r := some ((join (toks d s) [32], ()), ((), (), ()))) (fun G i hi => by
    have hi2 : i < d.2.1.length := by omega
    have hi3 : i < (pr1 d s).length := by omega
    have h2 : ((i : Int) < (s.2.1.length : Int)) := by omega
    have h3 : (0 : Int) ≤ (i : Int) := by omega
    have k2 := len1 ((pr1 d s).take i)
    have k3 : ((pr1 d s).take i).length ≤ 3 := by simp; omega
    have h5 : (((pr0 d s).flatMap tok0 ++ ((pr1 d s).take i).flatMap tok1).length + ([d.2.1[i], boolW s.2.1[i]] : List (List UInt8)).length) * 16 ≤ maxBytes := by
      simp only [List.length_append, List.length_cons, List.length_nil, maxBytes]; omega
    have eo : tok1 (pr1 d s)[i] = [d.2.1[i], boolW s.2.1[i]] := by simp [pr1, tok1]
    simp only [impl_StoreText.l2, br_dec, if_pos h2, if_pos h3, Int.toNat_natCast, List.getElem?_eq_getElem hi, List.getElem?_eq_getElem hi2, bd_some, formatBool_is, if_pos h5]
    rw [wrap_succ (by omega), flat_step tok1 hi3, eo, ← List.append_assoc]) (fun G => by
    have h2 : ¬ ((s.2.1.length : Int) < (s.2.1.length : Int)) := by omega
    have ht : (pr1 d s).take s.2.1.length = pr1 d s := by rw [List.take_of_length_le (by omega)]
    simp only [impl_StoreText.l2, br_dec, if_neg h2, ht]
    exact implStore_l4 k hk hk2 d hd s hs hf) (f := k) (by omega)
  simp only [List.take_zero, List.flatMap_nil, List.append_nil] at h
  exact h

theorem implStore_l0 (k : Nat) (hk : 4194304 < k) (hk2 : k ≤ 4611686018427387903) (d : DeclT) (hd : DSmall d) (s : StoreT) (hs : SSmall s) (hf : SFine d s) :
    iter (impl_StoreText.l0 k) k ((d.1, d.2.1, d.2.2.1, ()), (s.1, s.2.1, s.2.2.1, ()), ([] : List (List UInt8)), s.1, (s.1.length : Int), 0, ()) = some ((join (toks d s) [32], ()), ((), (), ())) := by
  have l0 := hf.l0
  have e0 := hf.e0
  have z0 : (pr0 d s).length = s.1.length := by simp [pr0]; omega
  have h := iter_for (b := impl_StoreText.l0 k) (fun i => ((d.1, d.2.1, d.2.2.1, ()), (s.1, s.2.1, s.2.2.1, ()), ((pr0 d s).take i).flatMap tok0, s.1, (s.1.length : Int), (i : Int), ())) s.1.length (r := some ((join (toks d s) [32], ()), ((), (), ()))) (fun G i hi => by
    have hi2 : i < d.1.length := by omega
    have hi3 : i < (pr0 d s).length := by omega
    have h2 : ((i : Int) < (s.1.length : Int)) := by omega
    have h3 : (0 : Int) ≤ (i : Int) := by omega
    have hfi := hf.f0 _ (List.getElem_mem hi)
    have k2 := len0 ((pr0 d s).take i)
    have k3 : ((pr0 d s).take i).length ≤ 5 := by simp; omega
    have h5 : ((((pr0 d s).take i).flatMap tok0).length + ([d.1[i], itoa s.1[i]] : List (List UInt8)).length) * 16 ≤ maxBytes := by
      simp only [List.length_cons, List.length_nil, maxBytes]; omega
    have eo : tok0 (pr0 d s)[i] = [d.1[i], itoa s.1[i]] := by simp [pr0, tok0]
    simp only [impl_StoreText.l0, br_dec, if_pos h2, if_pos h3, Int.toNat_natCast, List.getElem?_eq_getElem hi, List.getElem?_eq_getElem hi2, bd_some, decimal_is k s.1[i] hfi.1 hfi.2, if_pos h5]
    rw [wrap_succ (by omega), flat_step tok0 hi3, eo]) (fun G => by
    have h2 : ¬ ((s.1.length : Int) < (s.1.length : Int)) := by omega
    have ht : (pr0 d s).take s.1.length = pr0 d s := by rw [List.take_of_length_le (by omega)]
    simp only [impl_StoreText.l0, br_dec, if_neg h2, ht]
    exact implStore_l2 k hk hk2 d hd s hs hf) (f := k) (by omega)
  simp only [List.take_zero, List.flatMap_nil] at h
  exact h

theorem storeText_is (k : Nat) (hk : 4194304 < k) (hk2 : k ≤ 4611686018427387903) (d : DeclT) (hd : DSmall d) (s : StoreT) (hs : SSmall s) (hw : storeKd.WF s) :
    ∃ t, spec_StoreText k (d, s, ()) = some ((t, ()), ((), (), ())) ∧ impl_StoreText k (d, s, ()) = some ((t, ()), ((), (), ())) ∧ (storeOk d s = true → t = join (toks d s) [32]) := by
  unfold spec_StoreText impl_StoreText
  simp only [specStoreOk_is k hk d hd s hs, implStoreOk_is k hk hk2 d hd s hs, bd_some]
  cases ho : storeOk d s with
  | false => exact ⟨[], by simp, by simp, fun h => by cases h⟩
  | true =>
    have hf := sfine_of ho hw
    refine ⟨join (toks d s) [32], ?_, ?_, fun _ => rfl⟩
    · rw [Bool.not_true, br_false]; exact specStore_l0 k hk hk2 d hd s hs hf
    · rw [Bool.not_true, br_false]; exact implStore_l0 k hk hk2 d hd s hs hf

theorem storeText_both (k : Nat) (hk : 4194304 < k) (hk2 : k ≤ 4611686018427387903) (d : DeclT) (hd : DSmall d) (s : StoreT) (hs : SSmall s) (hw : storeKd.WF s) :
    ∃ t, spec_StoreText k (d, s, ()) = some ((t, ()), ((), (), ())) ∧ impl_StoreText k (d, s, ()) = some ((t, ()), ((), (), ())) := by
  obtain ⟨t, h1, h2, _⟩ := storeText_is k hk hk2 d hd s hs hw
  exact ⟨t, h1, h2⟩
end Go.Pev.F
end

section
/-
  An environment's text: the program's is the reference's.
-/
set_option linter.unusedVariables false
set_option linter.unusedSimpArgs false
namespace Go.Pev.F
open Go.Lib (itoa join)

theorem implEnvOk_is (k : Nat) (hk : 4194304 < k) (hk2 : k ≤ 4611686018427387903) (d : DeclT) (hd : DSmall d) (e : EnvT) (he : ESmall e) : impl_EnvOk k (d, e, ()) = some ((envOk d e, ()), ((), (), ())) := by
  unfold impl_EnvOk envOk
  simp only [implDeclOk_is k hk hk2 d hd, isEnv_is k hk d e he, bd_some]
  cases hdo : declOk d with
  | false => simp
  | true => simp

theorem envText_is (k : Nat) (hk : 4194304 < k) (hk2 : k ≤ 4611686018427387903) (d : DeclT) (hd : DSmall d) (e : EnvT) (he : ESmall e) (hw : envKd.WF e) :
    ∃ t, spec_EnvText k (d, e, ()) = some ((t, ()), ((), (), ())) ∧ impl_EnvText k (d, e, ()) = some ((t, ()), ((), (), ())) ∧ (envOk d e = true → t = envT d e) := by
  unfold spec_EnvText impl_EnvText
  simp only [specEnvOk_is k hk d hd e he, implEnvOk_is k hk hk2 d hd e he, bd_some]
  cases ho : envOk d e with
  | false => exact ⟨[], by simp, by simp, fun h => by cases h⟩
  | true =>
    have hf := fun h => fine_of ho h hw
    refine ⟨envT d e, ?_, ?_, fun _ => rfl⟩
    · simp [l13Env_is k hk hk2 d hd e hf]
    · simp [implEnvT_is k hk hk2 d hd e hf]

theorem envText_both (k : Nat) (hk : 4194304 < k) (hk2 : k ≤ 4611686018427387903) (d : DeclT) (hd : DSmall d) (e : EnvT) (he : ESmall e) (hw : envKd.WF e) :
    ∃ t, spec_EnvText k (d, e, ()) = some ((t, ()), ((), (), ())) ∧ impl_EnvText k (d, e, ()) = some ((t, ()), ((), (), ())) := by
  obtain ⟨t, h1, h2, _⟩ := envText_is k hk hk2 d hd e he hw
  exact ⟨t, h1, h2⟩
end Go.Pev.F
end

section
/-
  Parts: which are right: the reference's test and the program's agree.
-/
set_option linter.unusedVariables false
set_option linter.unusedSimpArgs false
namespace Go.Pev.F

abbrev PartT := List EntT × List EnvT × Unit
def partOkB (d : DeclT) (p : PartT) : Bool := tokenOk p.1 && (tableOk d p.2.1 && tableLive p.2.1)
def above (prev : Option (List EntT)) (t : List EntT) : Bool :=
  match prev with
  | none => true
  | some s => !decide (cmpT s t ≥ 0)
def riseP : Option (List EntT) → List PartT → Bool
  | _, [] => true
  | prev, p :: r => above prev p.1 && riseP (some p.1) r
def goodP (d : DeclT) : Option (List EntT) → List PartT → Bool
  | _, [] => true
  | prev, p :: r => (tokenOk p.1 && (above prev p.1 && (tableOk d p.2.1 && tableLive p.2.1))) && goodP d (some p.1) r
def partsOk (d : DeclT) (l : List PartT) : Bool := decide (l.length ≤ 100) && (l.all (partOkB d) && riseP none l)

theorem goodP_is (d : DeclT) : ∀ (l : List PartT) (prev : Option (List EntT)), goodP d prev l = (l.all (partOkB d) && riseP prev l)
  | [], _ => rfl
  | p :: r, prev => by
    simp only [goodP, riseP, List.all_cons, goodP_is d r, partOkB]
    cases tokenOk p.1 <;> cases above prev p.1 <;> cases tableOk d p.2.1 <;> cases tableLive p.2.1 <;> cases r.all (fun p => tokenOk p.1 && (tableOk d p.2.1 && tableLive p.2.1)) <;> simp [partOkB]

structure LSmall (l : List PartT) : Prop where
  n : l.length ≤ 1048576
  t : ∀ p ∈ l, p.1.length ≤ 1048576
  m : ∀ p ∈ l, p.2.1.length ≤ 1048576
  e : ∀ p ∈ l, ∀ e ∈ p.2.1, ESmall e

theorem specParts_loop (k : Nat) (hk : 4194304 < k) (d : DeclT) (hd : DSmall d) (hdo : declOk d = true) (l : List PartT) (hl : LSmall l) : ∀ (n i f : Nat) (prev : Option (List EntT)), i + n = l.length → n < f → (i = 0 → prev = none) → (∀ (h : 0 < i) (h' : i - 1 < l.length), prev = some l[i - 1].1 ∧ tokenOk l[i - 1].1 = true) →
    iter (spec_PartsOk.l0 k) f (l, (d.1, d.2.1, d.2.2.1, ()), (i : Int), ()) = some ((goodP d prev (l.drop i), ()), ((), (), ())) := by
  have hn := hl.n
  intro n
  induction n with
  | zero =>
    intro i f prev hi hf h0 h1
    obtain ⟨f, rfl⟩ : ∃ g, f = g + 1 := ⟨f - 1, by omega⟩
    have h2 : ¬ ((i : Int) < (l.length : Int)) := by omega
    rw [iter_succ, List.drop_of_length_le (by omega)]
    simp only [spec_PartsOk.l0, br_dec (p := (i : Int) < (l.length : Int)), if_neg h2, goodP]
  | succ n ih =>
    intro i f prev hi hf h0 h1
    obtain ⟨f, rfl⟩ : ∃ g, f = g + 1 := ⟨f - 1, by omega⟩
    have hi' : i < l.length := by omega
    have h2 : ((i : Int) < (l.length : Int)) := by omega
    have h3 : (0 : Int) ≤ (i : Int) := by omega
    have hm := List.getElem_mem hi'
    have ht : spec_TableOk k ((d.1, d.2.1, d.2.2.1, ()), l[i].2.1, ()) = some ((tableOk d l[i].2.1, ()), ((), (), ())) := specTableOk_is k hk d hd hdo l[i].2.1 (hl.m _ hm) (hl.e _ hm)
    rw [iter_succ, List.drop_eq_getElem_cons hi']
    simp only [spec_PartsOk.l0, br_dec (p := (i : Int) < (l.length : Int)), br_dec (p := (0 : Int) ≤ (i : Int)), if_pos h2, if_pos h3, Int.toNat_natCast, List.getElem?_eq_getElem hi', bd_some, specTokenOk_is k hk, ht, l9Live_is k hk l[i].2.1 (hl.m _ hm), goodP]
    cases htok : tokenOk l[i].1 with
    | false => simp
    | true =>
      have next := ih (i + 1) f (some l[i].1) (by omega) (by omega) (fun h => by omega) (fun h h' => ⟨by simp, by simpa using htok⟩)
      simp only [Bool.not_true, br_false, Bool.true_and]
      by_cases hz : i = 0
      · have hz' : ¬ ((i : Int) > 0) := by omega
        have hp := h0 hz
        rw [wrap_succ (by omega)]
        simp only [br_dec (p := (i : Int) > 0), if_neg hz', hp, above, Bool.true_and]
        cases tableOk d l[i].2.1 <;> cases tableLive l[i].2.1 <;> simp [next]
        all_goals exact next
      · have hz' : ((i : Int) > 0) := by omega
        obtain ⟨hp, hpt⟩ := h1 (by omega) (by omega)
        have ew : IntKind.wrap .i64 ((i : Int) - 1) = ((i - 1 : Nat) : Int) := by rw [wrap_i64 (by omega) (by omega)]; omega
        have h4 : (0 : Int) ≤ ((i - 1 : Nat) : Int) := by omega
        have hi1 : i - 1 < l.length := by omega
        rw [wrap_succ (by omega)]
        simp only [br_dec (p := (i : Int) > 0), if_pos hz', ew, br_dec (p := (0 : Int) ≤ ((i - 1 : Nat) : Int)), if_pos h4, Int.toNat_natCast, List.getElem?_eq_getElem hi1, bd_some, specCmp_is k hk l[i - 1].1 l[i].1 hpt htok, hp, above]
        cases decide (cmpT l[i - 1].1 l[i].1 ≥ 0) <;> cases tableOk d l[i].2.1 <;> cases tableLive l[i].2.1 <;> simp [next]
        all_goals exact next

theorem specPartsOk_is (k : Nat) (hk : 4194304 < k) (d : DeclT) (hd : DSmall d) (hdo : declOk d = true) (l : List PartT) (hl : LSmall l) : spec_PartsOk k (d, l, ()) = some ((partsOk d l, ()), ((), (), ())) := by
  have hn := hl.n
  unfold spec_PartsOk partsOk
  simp only [specDeclOk_is k hk d hd, hdo, bd_some, Bool.not_true, br_false, Option.bind_some, br_dec]
  by_cases hc : (l.length : Int) > 100
  · have : decide (l.length ≤ 100) = false := by simp; omega
    rw [if_pos hc, this]; rfl
  · have hc' : l.length ≤ 100 := by omega
    rw [if_neg hc, decide_eq_true hc', Bool.true_and, ← goodP_is]
    exact specParts_loop k hk d hd hdo l hl l.length 0 k none (by omega) (by omega) (fun _ => rfl) (fun h => by omega)
end Go.Pev.F
end

section
/-
  Parts: the program's test.
-/
set_option linter.unusedVariables false
set_option linter.unusedSimpArgs false
namespace Go.Pev.F

theorem live_is (k : Nat) (hk : 4194304 < k) (t : List EnvT) (ht : t.length ≤ 1048576) : slices_ContainsFunc_impl_Env_impl_Env_v1 k (t, (()), ()) = some ((tableLive t, ()), ((), (()), ())) := by
  obtain ⟨n, h1, h2⟩ := iter_find (b := slices_IndexFunc_impl_Env_impl_Env_v1.l0 k) (fun i => (t, (()), (t.length : Int), (i : Int), ())) t (fun e => e.1) (o := ((), (()), ())) (fun G i hi => by
    have h2 : ((i : Int) < (t.length : Int)) := by omega
    have h3 : (0 : Int) ≤ (i : Int) := by omega
    simp only [slices_IndexFunc_impl_Env_impl_Env_v1.l0, impl_Decl_partOk_1, br_dec, if_pos h2, if_pos h3, Int.toNat_natCast, List.getElem?_eq_getElem hi, bd_some]
    rw [wrap_succ (by omega)]
    cases t[i].1 <;> simp) (fun G => by
    have h2 : ¬ ((t.length : Int) < (t.length : Int)) := by omega
    simp only [slices_IndexFunc_impl_Env_impl_Env_v1.l0, br_dec, if_neg h2]) (f := k) (by omega)
  unfold slices_ContainsFunc_impl_Env_impl_Env_v1 slices_IndexFunc_impl_Env_impl_Env_v1
  have h1' : iter (slices_IndexFunc_impl_Env_impl_Env_v1.l0 k) k (t, (()), (t.length : Int), 0, ()) = some ((n, ()), ((), (()), ())) := h1
  simp only [h1', bd_some, h2]
  rfl

theorem partOk_is (k : Nat) (hk : 4194304 < k) (d : DeclT) (hf : d.2.1.length ≤ 3) (p : PartT) (hm : p.2.1.length ≤ 1048576) (hs : ∀ e ∈ p.2.1, ESmall e) : impl_Decl_partOk k (d, p, ()) = some ((partOkB d p, ()), ((), (), ())) := by
  unfold impl_Decl_partOk partOkB
  simp only [implTokenOk_is k hk, isTable_is k hk d hf p.2.1 hm hs, live_is k hk p.2.1 hm, bd_some]
  cases tokenOk p.1 <;> cases tableOk d p.2.1 <;> simp

theorem areAllPart_is (k : Nat) (hk : 4194304 < k) (d : DeclT) (hf : d.2.1.length ≤ 3) (l : List PartT) (hl : LSmall l) : impl_areAll_impl_Part k (l, (d, ()), ()) = some ((l.all (partOkB d), ()), ((), ((), ()), ())) := by
  have hn := hl.n
  obtain ⟨n, h1, h2⟩ := iter_find (b := slices_IndexFunc_impl_Part_impl_Part.l0 k) (fun i => (l, (((d, ()), ()), ()), (l.length : Int), (i : Int), ())) l (fun p => !partOkB d p) (o := ((), (((d, ()), ()), ()), ())) (fun G i hi => by
    have h2 : ((i : Int) < (l.length : Int)) := by omega
    have h3 : (0 : Int) ≤ (i : Int) := by omega
    have hm := List.getElem_mem hi
    simp only [slices_IndexFunc_impl_Part_impl_Part.l0, impl_areAll_impl_Part_1, partOk_is k hk d hf l[i] (hl.m _ hm) (hl.e _ hm), br_dec, if_pos h2, if_pos h3, Int.toNat_natCast, List.getElem?_eq_getElem hi, bd_some]
    rw [wrap_succ (by omega)]
    cases partOkB d l[i] <;> simp) (fun G => by
    have h2 : ¬ ((l.length : Int) < (l.length : Int)) := by omega
    simp only [slices_IndexFunc_impl_Part_impl_Part.l0, br_dec, if_neg h2]) (f := k) (by omega)
  unfold impl_areAll_impl_Part slices_ContainsFunc_impl_Part_impl_Part slices_IndexFunc_impl_Part_impl_Part
  have h1' : iter (slices_IndexFunc_impl_Part_impl_Part.l0 k) k (l, (((d, ()), ()), ()), (l.length : Int), 0, ()) = some ((n, ()), ((), (((d, ()), ()), ()), ())) := h1
  simp only [h1', bd_some, h2, all_any, Bool.not_not]

theorem implParts_loop (k : Nat) (hk : 4194304 < k) (d : DeclT) (hf : d.2.1.length ≤ 3) (l : List PartT) (hl : LSmall l) : ∀ (n i f : Nat) (h1 : 1 ≤ i), (i ≤ l.length → ∀ (h' : i - 1 < l.length), i + n = l.length → n < f →
    iter (impl_Decl_areParts.l0 k) f (l, (d.1, d.2.1, d.2.2.1, ()), (i : Int), ()) = some ((riseP (some l[i - 1].1) (l.drop i) && (decide (l.length ≤ 100) && l.all (partOkB d)), ()), ((), (), ()))) := by
  have hn := hl.n
  intro n
  induction n with
  | zero =>
    intro i f h1 hle h' hi hf'
    obtain ⟨f, rfl⟩ : ∃ g, f = g + 1 := ⟨f - 1, by omega⟩
    have h2 : ¬ ((i : Int) < (l.length : Int)) := by omega
    have ha : impl_areAll_impl_Part k (l, ((d.1, d.2.1, d.2.2.1, ()), ()), ()) = some ((l.all (partOkB d), ()), ((), ((), ()), ())) := areAllPart_is k hk d hf l hl
    rw [iter_succ, List.drop_of_length_le (by omega)]
    simp only [impl_Decl_areParts.l0, br_dec, if_neg h2, riseP, Bool.true_and, ha, bd_some]
    by_cases hc : l.length ≤ 100
    · rw [if_pos (by omega), decide_eq_true hc, Bool.true_and]
    · rw [if_neg (by omega), decide_eq_false hc]; rfl
  | succ n ih =>
    intro i f h1 hle h' hi hf'
    obtain ⟨f, rfl⟩ : ∃ g, f = g + 1 := ⟨f - 1, by omega⟩
    have hi' : i < l.length := by omega
    have h2 : ((i : Int) < (l.length : Int)) := by omega
    have h3 : (0 : Int) ≤ (i : Int) := by omega
    have ew : IntKind.wrap .i64 ((i : Int) - 1) = ((i - 1 : Nat) : Int) := by rw [wrap_i64 (by omega) (by omega)]; omega
    have h4 : (0 : Int) ≤ ((i - 1 : Nat) : Int) := by omega
    rw [iter_succ, List.drop_eq_getElem_cons hi']
    simp only [impl_Decl_areParts.l0, br_dec (p := (i : Int) < (l.length : Int)), br_dec (p := (0 : Int) ≤ (i : Int)), if_pos h2, if_pos h3, ew, br_dec (p := (0 : Int) ≤ ((i - 1 : Nat) : Int)), if_pos h4, Int.toNat_natCast, List.getElem?_eq_getElem hi', List.getElem?_eq_getElem h', bd_some, implCmp_is k hk l[i - 1].1 l[i].1 (hl.t _ (List.getElem_mem h')), riseP, above]
    rw [wrap_succ (by omega)]
    cases decide (cmpT l[i - 1].1 l[i].1 ≥ 0) with
    | true => simp
    | false =>
      have := ih (i + 1) f (by omega) (by omega) (by omega) (by omega) (by omega)
      simp only [Nat.add_sub_cancel] at this
      simpa using this

theorem areParts_is (k : Nat) (hk : 4194304 < k) (d : DeclT) (hf : d.2.1.length ≤ 3) (l : List PartT) (hl : LSmall l) : impl_Decl_areParts k (d, l, ()) = some ((partsOk d l, ()), ((), (), ())) := by
  have hn := hl.n
  unfold impl_Decl_areParts partsOk
  cases l with
  | nil =>
    obtain ⟨j, rfl⟩ : ∃ j, k = j + 1 := ⟨k - 1, by omega⟩
    have ha : impl_areAll_impl_Part (j + 1) (([] : List PartT), ((d.1, d.2.1, d.2.2.1, ()), ()), ()) = some ((([] : List PartT).all (partOkB d), ()), ((), ((), ()), ())) := areAllPart_is (j + 1) hk d hf [] hl
    simp only
    rw [iter_succ]
    simp only [impl_Decl_areParts.l0, br_dec, List.length_nil]
    rw [if_neg (by decide), if_pos (by decide), ha]
    simp [riseP]
  | cons p r =>
    have h := implParts_loop k hk d hf (p :: r) hl r.length 1 k (Nat.le_refl _) (by simp) (by simp) (by simp; omega) (by simp at hn; omega)
    refine Eq.trans h ?_
    simp only [riseP, above, Bool.true_and]
    have e : (p :: r)[1 - 1].1 = p.1 := rfl
    have e2 : (p :: r).drop 1 = r := rfl
    rw [e, e2]
    cases riseP (some p.1) r <;> simp
end Go.Pev.F
end

section
/-
  Draws of parts.
-/
set_option linter.unusedVariables false
set_option linter.unusedSimpArgs false
namespace Go.Pev.F

/-- Drawn parts. -/
structure PDr (d : DeclT) (p : PartT) : Prop where
  t : tokenOk p.1 = true
  e : TDr d p.2.1

abbrev PutSt : Type := List PartT × Bool × List Int × PartT × List PartT × Bool × Int × Unit
def PutJ (d : DeclT) (l : List PartT) (p : PartT) (x : PutSt) : Prop := x.1 = l ∧ x.2.1 = false ∧ x.2.2.2.1 = p ∧ 0 ≤ x.2.2.2.2.2.2.1 ∧ x.2.2.2.2.2.2.1 ≤ l.length ∧ (x.2.2.2.2.1.length : Int) ≤ x.2.2.2.2.2.2.1 + 1 ∧ (x.2.2.2.2.2.1 = false → (x.2.2.2.2.1.length : Int) ≤ x.2.2.2.2.2.2.1) ∧ ∀ q ∈ x.2.2.2.2.1, PDr d q

theorem t_put_l (k : Nat) (hk : 4194304 < k) {d : DeclT} (hd : DDr d) {l : List PartT} {p : PartT} (hs : l.length ≤ 1000) (hl : ∀ q ∈ l, PDr d q) (hp : PDr d p) : ∀ (f : Nat) (x : PutSt), PutJ d l p x → ((l.length : Int) - x.2.2.2.2.2.2.1).toNat < f → Tot (iter (spec_l9Put.l0 k) f x) fun y => y.1.1.length ≤ l.length + 1 ∧ ∀ q ∈ y.1.1, PDr d q := by
  refine Tot.loop (PutJ d l p) (fun x => ((l.length : Int) - x.2.2.2.2.2.2.1).toNat) ?_
  rintro G ⟨l', wide, steps, ⟨p0, p1, ⟨⟩⟩, out, done, i, ⟨⟩⟩ ⟨rfl, rfl, rfl, h0, hi, ho, hd', hq⟩ hG
  simp only at h0 hi ho hd' hq hs
  have hp0 : PDr d (p0, p1, ()) := hp
  have w : i < l'.length → IntKind.wrap .i64 (i + 1) = i + 1 := fun h => wrap_i64 (by omega) (by omega)
  have go : ∀ (out' : List PartT) (q : PartT) (done' : Bool), (out'.length : Int) ≤ i + 1 → (done' = false → (out'.length : Int) ≤ i) → (∀ q ∈ out', PDr d q) → PDr d q → i < l'.length → Tot (br k (decide ((out'.length + ([q] : List PartT).length) * 48 ≤ maxBytes)) (G (l', false, steps, (p0, p1, ()), out' ++ [q], done', IntKind.wrap .i64 (i + 1), ())) none) fun y => y.1.1.length ≤ l'.length + 1 ∧ ∀ q ∈ y.1.1, PDr d q := by
    intro out' q done' h1 h2 h3 h4 hlt
    rw [w hlt]
    refine Tot.chk (by simp only [List.length_cons, List.length_nil, maxBytes]; omega) (hG _ ⟨rfl, rfl, rfl, ?_, ?_, ?_, ?_, mem_push h3 h4⟩ ?_)
    · simp only; omega
    · simp only; omega
    · simp only [List.length_append, List.length_cons, List.length_nil]; omega
    · intro h; have := h2 h; simp only [List.length_append, List.length_cons, List.length_nil]; omega
    · simp only; omega
  simp only [spec_l9Put.l0]
  refine Tot.dec (fun hlt => Tot.chk h0 (Tot.get (by omega) fun x1 hx1 _ => ?_)) fun hlt => ?_
  · have hc : spec_l9Cmp k (x1.1, p0, ()) = _ := specCmp_is k hk x1.1 p0 (hl _ hx1).t hp0.t
    rw [hc, bd_some]
    generalize cmpT x1.1 p0 = c
    refine Tot.bind (P := fun y => y.1 = true → done = false) (Tot.dec (fun _ => Tot.ret (by simp)) fun _ => Tot.ret (by simp)) fun j hj => Tot.br (fun hj1 => ?_) fun _ => ?_
    · have hdn := hj hj1
      have ho2 := hd' hdn
      refine Tot.chk (by simp only [List.length_cons, List.length_nil, maxBytes]; omega) (Tot.chk h0 (Tot.get (by omega) fun x4 hx4 _ => Tot.br (fun _ => ?_) fun _ => ?_))
      · refine Tot.chk h0 (Tot.get (by omega) fun x5 hx5 _ => Tot.bd (t_join8 k (by omega) hd (hl _ hx5).e hp0.e) fun y6 h6 => ?_)
        rw [br_false]
        refine go _ _ true ?_ (by simp) (mem_push hq hp0) ⟨(hl _ hx4).t, h6⟩ hlt
        simp only [List.length_append, List.length_cons, List.length_nil]; omega
      · refine go _ _ true ?_ (by simp) (mem_push hq hp0) (hl _ hx4) hlt
        simp only [List.length_append, List.length_cons, List.length_nil]; omega
    · refine Tot.chk h0 (Tot.get (by omega) fun x9 hx9 _ => Tot.br (fun _ => ?_) fun _ => ?_)
      · refine Tot.chk h0 (Tot.get (by omega) fun x10 hx10 _ => Tot.bd (t_join8 k (by omega) hd (hl _ hx10).e hp0.e) fun y11 h11 => ?_)
        rw [br_false]
        exact go _ _ true ho (by simp) hq ⟨(hl _ hx9).t, h11⟩ hlt
      · exact go _ _ done ho hd' hq (hl _ hx9) hlt
  · refine Tot.br (fun hn => ?_) fun _ => Tot.ret ⟨by simp only; omega, hq⟩
    have ho2 := hd' (by simpa using hn)
    refine Tot.chk (by simp only [List.length_cons, List.length_nil, maxBytes]; omega) (Tot.ret ⟨?_, mem_push hq hp0⟩)
    simp only [List.length_append, List.length_cons, List.length_nil]; omega

theorem t_put (k : Nat) (hk : 4194304 < k) {d : DeclT} (hd : DDr d) {l : List PartT} {p : PartT} (hs : l.length ≤ 1000) (hl : ∀ q ∈ l, PDr d q) (hp : PDr d p) : Tot (spec_l9Put k (l, p, false, [], ())) fun y => y.1.1.length ≤ l.length + 1 ∧ ∀ q ∈ y.1.1, PDr d q := by
  unfold spec_l9Put
  exact t_put_l k hk hd hs hl hp _ _ ⟨rfl, rfl, rfl, by simp, by simp, by simp, by simp, by simp⟩ (by simp only; omega)

abbrev CopySt : Type := PartT × PartT × PartT × Int × Unit
def CopyJ (d : DeclT) (p : PartT) (x : CopySt) : Prop := x.1 = p ∧ x.2.2.1.1 = p.1 ∧ (x.2.2.1.2.1.length : Int) = x.2.2.2.1 ∧ x.2.2.2.1 ≤ p.2.1.length ∧ ∀ e ∈ x.2.2.1.2.1, EDr d.1.length d.2.2.1.length e

theorem t_copy9_l (k : Nat) (hk : 64 ≤ k) {d : DeclT} (hd : DDr d) {p : PartT} (hp : PDr d p) : ∀ (f : Nat) (x : CopySt), CopyJ d p x → ((p.2.1.length : Int) - x.2.2.2.1).toNat < f → Tot (iter (spec_l9Copy.l0 k) f x) fun y => PDr d y.1.1 := by
  have hlen := hp.e.len hd
  have n0 := hd.n0
  have n2 := hd.n2
  refine Tot.loop (CopyJ d p) (fun x => ((p.2.1.length : Int) - x.2.2.2.1).toNat) ?_
  rintro G ⟨⟨p0, p1, ⟨⟩⟩, ⟨t0, t1, ⟨⟩⟩, ⟨o0, o1, ⟨⟩⟩, i, ⟨⟩⟩ ⟨rfl, e0, hn, hi, ho⟩ hG
  simp only at e0 hn hi ho hlen
  subst e0
  simp only [spec_l9Copy.l0]
  refine Tot.dec (fun hlt => Tot.chk (by omega) (Tot.get (by omega) fun x1 hx1 _ => Tot.bd (t_copy k (by omega) (by omega) (hp.e.e _ hx1)) fun y2 h2 => ?_)) fun hlt => ?_
  · rw [wrap_i64 (n := i + 1) (by omega) (by omega)]
    refine Tot.chk (by simp only [List.length_cons, List.length_nil, maxBytes]; omega) (hG _ ⟨rfl, rfl, ?_, ?_, mem_push ho h2⟩ ?_)
    · simp only [List.length_append, List.length_cons, List.length_nil]; omega
    · simp only; omega
    · simp only; omega
  · have := hp.e.n
    simp only at this
    exact Tot.ret ⟨hp.t, by simp only; omega, ho⟩

theorem tok_len {t : List EntT} (h : tokenOk t = true) : t.length ≤ 3 := by
  simp only [tokenOk, Bool.and_eq_true, decide_eq_true_eq] at h
  exact h.1

theorem t_copy9 (k : Nat) (hk : 64 ≤ k) {d : DeclT} (hd : DDr d) {p : PartT} (hp : PDr d p) : Tot (spec_l9Copy k (p, ())) fun y => PDr d y.1.1 := by
  have h1 := tok_len hp.t
  have hlen := hp.e.len hd
  unfold spec_l9Copy
  refine Tot.chk (by simp only [List.length_nil, maxBytes]; omega) (t_copy9_l k hk hd hp _ _ ⟨rfl, by simp, by simp, by simp, by simp⟩ (by simp only; omega))

abbrev FreshSt : Type := List PartT × List PartT × Int × Unit
def FreshJ (d : DeclT) (l : List PartT) (x : FreshSt) : Prop := x.1 = l ∧ (x.2.1.length : Int) = x.2.2.1 ∧ x.2.2.1 ≤ l.length ∧ ∀ q ∈ x.2.1, PDr d q

theorem t_fresh_l (k : Nat) (hk : 64 ≤ k) {d : DeclT} (hd : DDr d) {l : List PartT} (hs : l.length ≤ 1000) (hl : ∀ q ∈ l, PDr d q) : ∀ (f : Nat) (x : FreshSt), FreshJ d l x → ((l.length : Int) - x.2.2.1).toNat < f → Tot (iter (spec_l9Fresh.l0 k) f x) fun y => y.1.1.length ≤ l.length ∧ ∀ q ∈ y.1.1, PDr d q := by
  refine Tot.loop (FreshJ d l) (fun x => ((l.length : Int) - x.2.2.1).toNat) ?_
  rintro G ⟨l', out, i, ⟨⟩⟩ ⟨rfl, hn, hi, ho⟩ hG
  simp only at hn hi ho hs
  simp only [spec_l9Fresh.l0]
  refine Tot.bind (P := fun y => y.1 = true → i < l'.length) (Tot.dec (fun h => Tot.ret fun _ => h) fun _ => Tot.ret (by simp)) fun j hj => Tot.br (fun hj1 => ?_) fun _ => Tot.ret ⟨by simp only; omega, ho⟩
  have hlt := hj hj1
  refine Tot.chk (by omega) (Tot.get (by omega) fun x2 hx2 _ => Tot.bd (t_copy9 k hk hd (hl _ hx2)) fun y3 h3 => ?_)
  rw [wrap_i64 (n := i + 1) (by omega) (by omega)]
  refine Tot.chk (by simp only [List.length_cons, List.length_nil, maxBytes]; omega) (hG _ ⟨rfl, ?_, ?_, mem_push ho h3⟩ ?_)
  · simp only [List.length_append, List.length_cons, List.length_nil]; omega
  · simp only; omega
  · simp only; omega

theorem t_fresh (k : Nat) (hk : 1064 ≤ k) {d : DeclT} (hd : DDr d) {l : List PartT} (hs : l.length ≤ 1000) (hl : ∀ q ∈ l, PDr d q) : Tot (spec_l9Fresh k (l, ())) fun y => y.1.1.length ≤ l.length ∧ ∀ q ∈ y.1.1, PDr d q := by
  unfold spec_l9Fresh
  exact t_fresh_l k (by omega) hd hs hl _ _ ⟨rfl, by simp, by simp, by simp⟩ (by simp only; omega)

abbrev PartsSt : Type := RdT × DeclT × List PartT × Int × Unit
def PartsJ (d : DeclT) (x : PartsSt) : Prop := RdOk x.1 ∧ x.2.1 = d ∧ 0 ≤ x.2.2.2.1 ∧ (x.2.2.1.length : Int) + x.2.2.2.1 ≤ 3 ∧ ∀ q ∈ x.2.2.1, PDr d q

theorem t_parts_l (k : Nat) (hk : 4194304 < k) {d : DeclT} (hd : DDr d) : ∀ (f : Nat) (x : PartsSt), PartsJ d x → x.2.2.2.1.toNat < f → Tot (iter (spec_l1Rd_parts.l0 k) f x) fun y => (y.1.1.length ≤ 3 ∧ ∀ q ∈ y.1.1, PDr d q) ∧ RdOk y.2.1 := by
  refine Tot.loop (PartsJ d) (fun x => x.2.2.2.1.toNat) ?_
  rintro G ⟨⟨b, p, ⟨⟩⟩, ⟨d0, d1, d2, ⟨⟩⟩, out, i, ⟨⟩⟩ ⟨hr, rfl, h0, hn, ho⟩ hG
  simp only at h0 hn ho
  simp only [spec_l1Rd_parts.l0]
  refine Tot.dec (fun hlt => Tot.bd (t_token k (by omega) hr) fun y2 h2 => Tot.bd (t_table k (by omega) h2.2 hd) fun y3 h3 => ?_) fun hlt => ?_
  · have hlen := h3.1.len hd
    have hto := specTokenOk_is k hk y2.1.1
    have hli := l9Live_is k hk y3.1.1 (by omega)
    have w : IntKind.wrap .i64 (i - 1) = i - 1 := wrap_i64 (by omega) (by omega)
    rw [hto, bd_some, hli, w]
    refine Tot.bind (P := fun y => y.1 = true → tokenOk y2.1.1 = true) (Tot.br (fun h => ?_) fun _ => Tot.ret (by simp)) fun j hj => Tot.br (fun hj1 => ?_) fun _ => ?_
    · rw [bd_some]; exact Tot.ret fun _ => h
    · refine Tot.bd (t_put k hk hd (l := out) (p := (y2.1.1, y3.1.1, ())) (by omega) ho ⟨hj hj1, h3.1⟩) fun y7 h7 => hG _ ⟨h3.2, rfl, ?_, ?_, h7.2⟩ ?_
      · simp only; omega
      · have := h7.1; simp only; omega
      · simp only; omega
    · refine hG _ ⟨h3.2, rfl, ?_, ?_, ho⟩ ?_
      · simp only; omega
      · simp only; omega
      · simp only; omega
  · refine Tot.bd (t_fresh k (by omega) hd (by omega) ho) fun y8 h8 => Tot.ret ⟨⟨?_, h8.2⟩, hr⟩
    have := h8.1
    simp only; omega

theorem t_parts (k : Nat) (hk : 4194304 < k) {r : RdT} (h : RdOk r) {d : DeclT} (hd : DDr d) : Tot (spec_l1Rd_parts k (r, d, ())) fun y => (y.1.1.length ≤ 3 ∧ ∀ q ∈ y.1.1, PDr d q) ∧ RdOk y.2.1 := by
  obtain ⟨b, p, ⟨⟩⟩ := r
  unfold spec_l1Rd_parts
  refine Tot.bd (t_below k h 3) fun y1 h1 => ?_
  have b2 := h1.1.2.2 (by omega)
  have b0 := h1.1.1
  have w : IntKind.wrap .i64 (1 + y1.1.1) = 1 + y1.1.1 := wrap_i64 (by omega) (by omega)
  rw [w]
  exact t_parts_l k hk hd _ _ ⟨h1.2, rfl, by simp only; omega, by simp only [List.length_nil]; omega, by simp⟩ (by simp only; omega)

/-! ### Hurt -/

/-- Bounds that are small, right or not. -/
structure EAny (e : EnvT) : Prop where
  n1 : e.2.1.length ≤ 1000
  n2 : e.2.2.1.length ≤ 1000
  f1 : ∀ a ∈ e.2.1, IvFits a
  f2 : ∀ a ∈ e.2.2.1, IvFits a

theorem EDr.any {d : DeclT} (hd : DDr d) {e : EnvT} (h : EDr d.1.length d.2.2.1.length e) : EAny e := by
  have n0 := hd.n0
  have n2 := hd.n2
  exact ⟨by rcases h.s with h | h <;> omega, by rcases h.s with h | h <;> omega, h.f1, h.f2⟩

theorem EAny.wf {e : EnvT} (h : EAny e) : envKd.WF e := by
  have n1 := h.n1
  have n2 := h.n2
  have fit : ∀ a, IvFits a → ivKd.WF a := fun a ha => ⟨ha.1, ha.2, trivial⟩
  exact ⟨trivial, ⟨by omega, fun a ha => fit a (h.f1 a ha)⟩, ⟨by omega, fun a ha => fit a (h.f2 a ha)⟩, trivial⟩

theorem t_hurtEnv (k : Nat) {r : RdT} (h : RdOk r) {e : EnvT} {n : Nat} (hn : n ≤ 500) (he : EAny e) (h1 : e.2.1.length ≤ n) (h2 : e.2.2.1.length ≤ n) : Tot (spec_l1Rd_hurtEnv k (r, e, ())) fun y => (EAny y.1.1 ∧ y.1.1.2.1.length ≤ n + 1 ∧ y.1.1.2.2.1.length ≤ n + 1) ∧ RdOk y.2.1 := by
  obtain ⟨b, p, ⟨⟩⟩ := r
  obtain ⟨e0, e1, e2, ⟨⟩⟩ := e
  simp only at h1 h2
  unfold spec_l1Rd_hurtEnv
  refine Tot.bd (t_below k h 24) fun y1 r1 => Tot.br (fun _ => ?_) fun _ => Tot.br (fun _ => ?_) fun _ => Tot.br (fun _ => Tot.dec (fun hp => ?_) fun _ => ?_) fun _ => ?_
  · exact Tot.ret ⟨⟨⟨he.n1, he.n2, he.f1, he.f2⟩, by simp only; omega, by simp only; omega⟩, r1.2⟩
  · refine Tot.chk (by simp only [List.length_cons, List.length_nil, maxBytes]; omega) (Tot.ret ⟨⟨⟨?_, he.n2, mem_push he.f1 ⟨by simp, by simp⟩, he.f2⟩, ?_, by simp only; omega⟩, r1.2⟩)
    · simp only [List.length_append, List.length_cons, List.length_nil]; omega
    · simp only [List.length_append, List.length_cons, List.length_nil]; omega
  · refine Tot.chk (by omega) (Tot.get (by omega) fun x hx _ => Tot.ret ⟨⟨⟨?_, he.n2, mem_set he.f1 ⟨by simp, by simp⟩, he.f2⟩, ?_, by simp only; omega⟩, r1.2⟩)
    · simp only [List.length_set]; omega
    · simp only [List.length_set]; omega
  · exact Tot.ret ⟨⟨⟨he.n1, he.n2, he.f1, he.f2⟩, by simp only; omega, by simp only; omega⟩, r1.2⟩
  · exact Tot.ret ⟨⟨⟨he.n1, he.n2, he.f1, he.f2⟩, by simp only; omega, by simp only; omega⟩, r1.2⟩

theorem t_hurtTable (k : Nat) {r : RdT} (h : RdOk r) {d : DeclT} (hd : DDr d) {t : List EnvT} (ht : TDr d t) : Tot (spec_l1Rd_hurtTable k (r, t, ())) fun y => (y.1.1.length ≤ 9 ∧ ∀ e ∈ y.1.1, EAny e) ∧ RdOk y.2.1 := by
  obtain ⟨b, p, ⟨⟩⟩ := r
  have hlen := ht.len hd
  have n0 := hd.n0
  have n2 := hd.n2
  have he : ∀ e ∈ t, EAny e := fun e h => (ht.e e h).any hd
  unfold spec_l1Rd_hurtTable
  refine Tot.bd (t_below k h 24) fun y1 r1 => Tot.br (fun _ => ?_) fun _ => Tot.br (fun _ => ?_) fun _ => Tot.br (fun _ => ?_) fun _ => ?_
  · refine Tot.chk (by omega) (Tot.ret ⟨⟨?_, fun e he' => he e (subL_memb he')⟩, r1.2⟩)
    have := (subL_lens t (1 : Int).toNat ((t.length : Int).toNat - (1 : Int).toNat)).2
    simp only; omega
  · refine Tot.chk (by omega) (Tot.get (by omega) fun x2 hx2 _ => Tot.bd (t_hurtEnv k r1.2 (n := 10) (by omega) (he _ hx2) ?_ ?_) fun y3 h3 => Tot.chk (by omega) (Tot.chk rfl (Tot.ret ⟨⟨?_, mem_set he h3.1.1⟩, h3.2⟩)))
    · have : x2.2.1.length ≤ 10 := by rcases (ht.e _ hx2).s with h | h <;> omega
      exact this
    · have : x2.2.2.1.length ≤ 10 := by rcases (ht.e _ hx2).s with h | h <;> omega
      exact this
    · simp only [List.length_set]; omega
  · refine Tot.chk (by simp only [List.length_cons, List.length_nil, maxBytes]; omega) (Tot.ret ⟨⟨?_, mem_push he ⟨by simp, by simp, by simp, by simp⟩⟩, r1.2⟩)
    simp only [List.length_append, List.length_cons, List.length_nil]; omega
  · exact Tot.ret ⟨⟨by simp only; omega, he⟩, r1.2⟩

/-- Small parts, right or not. -/
structure PAny (p : PartT) : Prop where
  t : p.1.length ≤ 1048576
  n : p.2.1.length ≤ 9
  e : ∀ e ∈ p.2.1, EAny e

theorem t_hurtParts (k : Nat) (hk : 64 ≤ k) {r : RdT} (h : RdOk r) {d : DeclT} (hd : DDr d) {l : List PartT} (hs : l.length ≤ 3) (hl : ∀ q ∈ l, PDr d q) : Tot (spec_l1Rd_hurtParts k (r, l, ())) fun y => (y.1.1.length ≤ 4 ∧ ∀ q ∈ y.1.1, PAny q) ∧ RdOk y.2.1 := by
  obtain ⟨b, p, ⟨⟩⟩ := r
  have hp : ∀ q ∈ l, PAny q := fun q hq => by
    have h := hl q hq
    have h1 := tok_len h.t
    have h2 := h.e.len hd
    exact ⟨by omega, by omega, fun e he => (h.e.e e he).any hd⟩
  unfold spec_l1Rd_hurtParts
  have all : Tot (some ((l, ()), ((b, p, ()), (), ()))) fun y : ((List PartT) × Unit) × RdT × Unit × Unit => (y.1.1.length ≤ 4 ∧ ∀ q ∈ y.1.1, PAny q) := Tot.ret ⟨by simp only; omega, hp⟩
  refine Tot.bd (t_below k h 24) fun y1 r1 => Tot.br (fun _ => ?_) fun _ => Tot.br (fun _ => Tot.dec (fun h0 => ?_) fun _ => ?_) fun _ => Tot.br (fun _ => Tot.dec (fun h1 => ?_) fun _ => ?_) fun _ => ?_
  · refine Tot.bd (t_token k hk r1.2) fun y2 h2 => Tot.chk (by simp only [List.length_cons, List.length_nil, maxBytes]; omega) (Tot.ret ⟨⟨?_, mem_push hp ⟨h2.1, by simp, by simp⟩⟩, h2.2⟩)
    simp only [List.length_append, List.length_cons, List.length_nil]; omega
  · refine Tot.chk (by omega) (Tot.get (by omega) fun x3 hx3 _ => Tot.bd (t_hurtTable k r1.2 hd (hl _ hx3).e) fun y4 h4 => Tot.chk (by omega) (Tot.chk rfl (Tot.ret ⟨⟨?_, mem_set hp ⟨(hp _ hx3).t, h4.1.1, h4.1.2⟩⟩, h4.2⟩)))
    simp only [List.length_set]; omega
  · exact Tot.ret ⟨⟨by simp only; omega, hp⟩, r1.2⟩
  · refine Tot.chk (by omega) (Tot.get (by omega) fun x5 hx5 _ => Tot.chk (by omega) (Tot.get (by omega) fun x6 hx6 _ => Tot.ret ⟨⟨?_, mem_set hp ⟨(hp _ hx5).t, (hp _ hx6).n, (hp _ hx6).e⟩⟩, r1.2⟩))
    simp only [List.length_set]; omega
  · exact Tot.ret ⟨⟨by simp only; omega, hp⟩, r1.2⟩
  · exact Tot.ret ⟨⟨by simp only; omega, hp⟩, r1.2⟩

theorem t_drawParts (k : Nat) (hk : 4194304 < k) {code : List Int} (h1 : code.length ≤ 140737488351232) (h2 : ∀ x ∈ code, 0 ≤ x ∧ x ≤ 255) : Tot (spec_DrawPartsOk k (code, ())) fun y => DDr y.1.1 ∧ y.1.2.1.length ≤ 4 ∧ ∀ q ∈ y.1.2.1, PAny q := by
  unfold spec_DrawPartsOk
  exact Tot.bd (t_open k h1 h2) fun y1 r1 => Tot.bd (t_decl k (by omega) r1) fun y2 d2 => Tot.bd (t_parts k hk d2.2 d2.1) fun y3 h3 => Tot.bd (t_hurtParts k (by omega) h3.2 d2.1 h3.1.1 h3.1.2) fun y4 h4 => Tot.ret ⟨d2.1, h4.1⟩
end Go.Pev.F
end

section
/-
  Comparisons and copies of environments and of a tree's nodes.
-/
set_option linter.unusedVariables false
set_option linter.unusedSimpArgs false
namespace Go.Pev.F

abbrev NodeT := Int × Int × Int × Bool × List IvT × List IvT × Unit
instance envDec : DecidableEq EnvT := fun _ _ => inferInstance
instance nodeDec : DecidableEq NodeT := @instDecidableEqProd Int _ _ (@instDecidableEqProd Int _ _ (@instDecidableEqProd Int _ _ envDec))
def envOf (x : NodeT) : EnvT := (x.2.2.2.1, x.2.2.2.2.1, x.2.2.2.2.2.1, ())

theorem list_differ {α : Type} [DecidableEq α] (a b : List α) (h : a.length = b.length) : ((List.range a.length).any fun i => !decide (a[i]? = b[i]?)) = !decide (a = b) := by
  rw [Bool.eq_iff_iff]
  simp only [List.any_eq_true, List.mem_range, Bool.not_eq_true', decide_eq_false_iff_not]
  refine ⟨fun ⟨i, _, hi⟩ e => hi (by rw [e]), fun hn => ?_⟩
  refine Classical.byContradiction fun hc => hn (List.ext_getElem? fun i => ?_)
  by_cases hi : i < a.length
  · exact Classical.byContradiction fun hx => hc ⟨i, hi, hx⟩
  · rw [List.getElem?_eq_none (by omega), List.getElem?_eq_none (by omega)]

theorem iv_differ (x y : IvT) : (!((x.1 == y.1) && ((x.2.1 == y.2.1) && true))) = !decide (x = y) := by
  obtain ⟨a, b, ⟨⟩⟩ := x
  obtain ⟨c, d, ⟨⟩⟩ := y
  rw [Bool.eq_iff_iff]; simp

theorem equalIv_is (k : Nat) (hk : 4194304 < k) (a b : List IvT) (ha : a.length ≤ 1048576) : slices_Equal_impl_Interval_impl_Interval k (a, b, ()) = some ((decide (a = b), ()), ((), (), ())) := by
  unfold slices_Equal_impl_Interval_impl_Interval
  by_cases hl : a.length = b.length
  · have hb : ((a.length : Int) != (b.length : Int)) = false := by simp [hl]
    simp only [hb, br_false]
    have h := iter_range (b := slices_Equal_impl_Interval_impl_Interval.l0 k) (fun i => (a, b, (a.length : Int), (i : Int), ())) a.length (fun i => !decide (a[i]? = b[i]?)) (rf := some ((false, ()), ((), (), ()))) (r := some ((true, ()), ((), (), ()))) (fun G i hi => by
      have h2 : ((i : Int) < (a.length : Int)) := by omega
      have h3 : (0 : Int) ≤ (i : Int) := by omega
      have hi2 : i < b.length := by omega
      simp only [slices_Equal_impl_Interval_impl_Interval.l0, br_dec, if_pos h2, if_pos h3, Int.toNat_natCast, List.getElem?_eq_getElem hi, List.getElem?_eq_getElem hi2, bd_some, iv_differ, Option.some.injEq]
      rw [wrap_succ (by omega)]
      cases decide (a[i] = b[i]) <;> simp) (fun G => by
      have h2 : ¬ ((a.length : Int) < (a.length : Int)) := by omega
      simp only [slices_Equal_impl_Interval_impl_Interval.l0, br_dec, if_neg h2]) (f := k) (by omega)
    refine Eq.trans h ?_
    rw [list_differ a b hl]
    cases decide (a = b) <;> rfl
  · have hb : ((a.length : Int) != (b.length : Int)) = true := by simpa using fun h : (a.length : Int) = b.length => hl (by omega)
    have hd : decide (a = b) = false := decide_eq_false fun h => hl (by rw [h])
    simp only [hb, br_true, hd]

theorem env_same (x y : EnvT) : decide (x = y) = ((x.1 == y.1) && (decide (x.2.1 = y.2.1) && decide (x.2.2.1 = y.2.2.1))) := by
  obtain ⟨a, b, c, ⟨⟩⟩ := x
  obtain ⟨a', b', c', ⟨⟩⟩ := y
  rw [Bool.eq_iff_iff]; simp

theorem sameEnv_is (k : Nat) (hk : 4194304 < k) (x y : EnvT) (hx : ESmall x) : impl_sameEnv k (x, y, ()) = some ((decide (x = y), ()), ((), (), ())) := by
  unfold impl_sameEnv
  simp only [equalIv_is k hk _ _ hx.n1, equalIv_is k hk _ _ hx.n2, bd_some, env_same x y]
  cases (x.1 == y.1) <;> cases decide (x.2.1 = y.2.1) <;> simp

theorem node_same (x y : NodeT) : decide (x = y) = ((x.1 == y.1) && ((x.2.1 == y.2.1) && ((x.2.2.1 == y.2.2.1) && decide (envOf x = envOf y)))) := by
  obtain ⟨a, b, c, d, e, f, ⟨⟩⟩ := x
  obtain ⟨a', b', c', d', e', f', ⟨⟩⟩ := y
  rw [Bool.eq_iff_iff]; simp [envOf]

theorem sameNode_is (k : Nat) (hk : 4194304 < k) (x y : NodeT) (hx : ESmall (envOf x)) : impl_sameNode k (x, y, ()) = some ((decide (x = y), ()), ((), (), ())) := by
  unfold impl_sameNode
  have h : impl_sameEnv k ((x.2.2.2.1, x.2.2.2.2.1, x.2.2.2.2.2.1, ()), (y.2.2.2.1, y.2.2.2.2.1, y.2.2.2.2.2.1, ()), ()) = some ((decide (envOf x = envOf y), ()), ((), (), ())) := sameEnv_is k hk (envOf x) (envOf y) hx
  simp only [h, bd_some, node_same x y]
  cases (x.1 == y.1) <;> cases (x.2.1 == y.2.1) <;> cases (x.2.2.1 == y.2.2.1) <;> simp

theorem l6Copy_is (k : Nat) (x : EnvT) (hx : ESmall x) : spec_l6Copy k (x, ()) = some ((x, ()), ((), ())) := by
  have h1 := hx.n1
  have h2 := hx.n2
  have b1 : (([] : List (Int × Int × Unit)).length + x.2.1.length) * 16 ≤ maxBytes := by simp [maxBytes]; omega
  have b2 : (([] : List (Int × Int × Unit)).length + x.2.2.1.length) * 16 ≤ maxBytes := by simp [maxBytes]; omega
  unfold spec_l6Copy
  simp only [br_dec, if_pos b1, if_pos b2, List.nil_append]

theorem l6List_is (k : Nat) (x : EnvT) (hx : ESmall x) : spec_l6List k (x, ()) = some ((x.2.1 ++ x.2.2.1, ()), ((), ())) := by
  have h1 := hx.n1
  have h2 := hx.n2
  have b1 : (([] : List (Int × Int × Unit)).length + x.2.1.length) * 16 ≤ maxBytes := by simp [maxBytes]; omega
  have b2 : ((([] : List (Int × Int × Unit)) ++ x.2.1).length + x.2.2.1.length) * 16 ≤ maxBytes := by simp [maxBytes]; omega
  unfold spec_l6List
  rw [List.nil_append] at b2
  simp only [br_dec, if_pos b1, List.nil_append, if_pos b2]

theorem cloneIv_is (k : Nat) (a : List IvT) (ha : a.length ≤ 1048576) : slices_Clone_impl_Interval_impl_Interval k (a, ()) = some ((a, ()), ((), ())) := by
  have b1 : (([] : List (Int × Int × Unit)).length + a.length) * 16 ≤ maxBytes := by simp [maxBytes]; omega
  unfold slices_Clone_impl_Interval_impl_Interval
  simp only [br_dec, if_pos b1, List.nil_append]
  cases a with
  | nil => simp [br_eq]
  | cons p r => simp

theorem own_is (k : Nat) (x : EnvT) (hx : ESmall x) : impl_Env_own k (x, ()) = some ((x, ()), ((), ())) := by
  unfold impl_Env_own
  simp only [cloneIv_is k _ hx.n1, cloneIv_is k _ hx.n2, bd_some]

theorem l8Same_is (k : Nat) (hk : 4194304 < k) (x y : EnvT) (hx : ESmall x) (hy : ESmall y) : spec_l8Same k (x, y, ()) = some ((decide (x = y), ()), ((), (), ())) := by
  have x1 := hx.n1
  have x2 := hx.n2
  unfold spec_l8Same
  rw [env_same x y]
  cases hb : (x.1 == y.1) with
  | false => simp [hb]
  | true =>
    simp only [hb, Bool.not_true, br_false, Bool.true_and]
    by_cases h1 : x.2.1.length = y.2.1.length
    · have c1 : ((x.2.1.length : Int) != (y.2.1.length : Int)) = false := by simp [h1]
      simp only [c1, br_false]
      by_cases h2 : x.2.2.1.length = y.2.2.1.length
      · have c2 : ((x.2.2.1.length : Int) != (y.2.2.1.length : Int)) = false := by simp [h2]
        simp only [c2, Option.bind_some, br_false, l6List_is k x hx, l6List_is k y hy, bd_some]
        have hl : (x.2.1 ++ x.2.2.1).length = (y.2.1 ++ y.2.2.1).length := by simp [h1, h2]
        have hn : (x.2.1 ++ x.2.2.1).length ≤ 2097152 := by simp; omega
        have e : decide (x.2.1 ++ x.2.2.1 = y.2.1 ++ y.2.2.1) = (decide (x.2.1 = y.2.1) && decide (x.2.2.1 = y.2.2.1)) := by
          rw [Bool.eq_iff_iff]
          simp only [decide_eq_true_eq, Bool.and_eq_true]
          exact ⟨fun h => List.append_inj h h1, fun h => by rw [h.1, h.2]⟩
        have h := iter_range (b := spec_l8Same.l0 k) (fun i => (x.2.1 ++ x.2.2.1, y.2.1 ++ y.2.2.1, (i : Int), ())) (x.2.1 ++ x.2.2.1).length (fun i => !decide ((x.2.1 ++ x.2.2.1)[i]? = (y.2.1 ++ y.2.2.1)[i]?)) (rf := some ((false, ()), ((), (), ()))) (r := some ((true, ()), ((), (), ()))) (fun G i hi => by
          generalize (x.2.1 ++ x.2.2.1) = a at *
          generalize (y.2.1 ++ y.2.2.1) = b at *
          have h2 : ((i : Int) < (a.length : Int)) := by omega
          have h3 : (0 : Int) ≤ (i : Int) := by omega
          have hi2 : i < b.length := by omega
          have h4 : ((i : Int) < (b.length : Int)) := by omega
          simp only [spec_l8Same.l0, br_dec, if_pos h2, if_pos (And.intro h3 h2), if_pos (And.intro h3 h4), Int.toNat_natCast, List.getElem?_eq_getElem hi, List.getElem?_eq_getElem hi2, bd_some, iv_differ, Option.some.injEq]
          rw [wrap_succ (by omega)]
          cases decide (a[i] = b[i]) <;> simp) (fun G => by
          have h2 : ¬ (((x.2.1 ++ x.2.2.1).length : Int) < ((x.2.1 ++ x.2.2.1).length : Int)) := by omega
          simp only [spec_l8Same.l0, br_dec, if_neg h2]) (f := k) (by omega)
        refine Eq.trans h ?_
        rw [list_differ _ _ hl, e]
        cases (decide (x.2.1 = y.2.1) && decide (x.2.2.1 = y.2.2.1)) <;> rfl
      · have c2 : ((x.2.2.1.length : Int) != (y.2.2.1.length : Int)) = true := by simpa using fun h : (x.2.2.1.length : Int) = y.2.2.1.length => h2 (by omega)
        have hd : decide (x.2.2.1 = y.2.2.1) = false := decide_eq_false fun h => h2 (by rw [h])
        simp only [c2, Option.bind_some, br_true, hd, Bool.and_false]
    · have c1 : ((x.2.1.length : Int) != (y.2.1.length : Int)) = true := by simpa using fun h : (x.2.1.length : Int) = y.2.1.length => h1 (by omega)
      have hd : decide (x.2.1 = y.2.1) = false := decide_eq_false fun h => h1 (by rw [h])
      simp only [c1, br_true, hd, Option.bind_some, Bool.false_and]

theorem l8Node_is (k : Nat) (hk : 4194304 < k) (x y : NodeT) (hx : ESmall (envOf x)) (hy : ESmall (envOf y)) : spec_l8Node k (x, y, ()) = some ((decide (x = y), ()), ((), (), ())) := by
  unfold spec_l8Node
  have h : spec_l8Same k ((x.2.2.2.1, x.2.2.2.2.1, x.2.2.2.2.2.1, ()), (y.2.2.2.1, y.2.2.2.2.1, y.2.2.2.2.2.1, ()), ()) = some ((decide (envOf x = envOf y), ()), ((), (), ())) := l8Same_is k hk (envOf x) (envOf y) hx hy
  simp only [h, bd_some, node_same x y]
  cases (x.1 == y.1) <;> cases (x.2.1 == y.2.1) <;> cases (x.2.2.1 == y.2.2.1) <;> simp
end Go.Pev.F
end

section
/-
  Loops that compare lists.
-/
set_option linter.unusedVariables false
set_option linter.unusedSimpArgs false
namespace Go.Pev.F

/-- So far they are alike. -/
def SoFar {α : Type} (a b : List α) (i : Int) : Prop := 0 ≤ i ∧ i ≤ a.length ∧ a.take i.toNat = b.take i.toNat

theorem soFar_0 {α : Type} (a b : List α) : SoFar a b 0 := ⟨by omega, by omega, rfl⟩

theorem soFar_end {α : Type} {a b : List α} (h : a.length = b.length) {i : Int} (hi : SoFar a b i) (hn : ¬ i < (a.length : Int)) : a = b := by
  obtain ⟨h0, h1, h2⟩ := hi
  rw [List.take_of_length_le (by omega), List.take_of_length_le (by omega)] at h2
  exact h2

theorem soFar_step {α : Type} {a b : List α} {i : Int} (hi : SoFar a b i) (hlt : i < (a.length : Int)) {x y : α} (hx : a[i.toNat]? = some x) (hy : b[i.toNat]? = some y) (e : x = y) : SoFar a b (i + 1) := by
  obtain ⟨h0, h1, h2⟩ := hi
  refine ⟨by omega, by omega, ?_⟩
  have e1 : (i + 1).toNat = i.toNat + 1 := by omega
  obtain ⟨q1, r1⟩ := List.getElem?_eq_some_iff.1 hx
  obtain ⟨q2, r2⟩ := List.getElem?_eq_some_iff.1 hy
  rw [e1, ← List.take_append_getElem q1, ← List.take_append_getElem q2, h2, r1, r2, e]

theorem soFar_ne {α : Type} {a b : List α} {i : Nat} {x y : α} (hx : a[i]? = some x) (hy : b[i]? = some y) (e : x ≠ y) : a ≠ b := by
  rintro rfl
  rw [hx] at hy
  exact e (Option.some.inj hy)

abbrev EqSt (α : Type) : Type := List α × List α × Int × Unit
def EqJ {α : Type} (a b : List α) (x : EqSt α) : Prop := x.1 = a ∧ x.2.1 = b ∧ SoFar a b x.2.2.1

theorem t_sameIvs (k : Nat) (hk : 2000 ≤ k) {a b : List IvT} (ha : a.length ≤ 1000) : Tot (laws_sameIvs k (a, b, ())) fun y => y.1.1 = decide (a = b) := by
  unfold laws_sameIvs
  refine Tot.br (fun h => Tot.ret ?_) fun h => ?_
  · have : a ≠ b := by rintro rfl; simp at h
    simp [this]
  · have hl : a.length = b.length := by
      simp only [bne_eq_false_iff_eq] at h
      omega
    refine Tot.loop (EqJ a b) (fun x => ((a.length : Int) - x.2.2.1).toNat) ?_ k _ ⟨rfl, rfl, soFar_0 a b⟩ (by simp only; omega)
    rintro G ⟨a', b', i, ⟨⟩⟩ ⟨rfl, rfl, hi⟩ hG
    simp only at hi ha hl
    have h0 := hi.1
    simp only [laws_sameIvs.l0]
    refine Tot.dec (fun hlt => ?_) fun hlt => Tot.ret ?_
    · refine Tot.chk h0 (Tot.get (by omega) fun x1 _ e1 => Tot.chk h0 (Tot.get (by omega) fun x2 _ e2 => ?_))
      rw [iv_differ, wrap_i64 (n := i + 1) (by omega) (by omega)]
      refine Tot.br (fun hne => Tot.ret ?_) fun heq => hG _ ⟨rfl, rfl, soFar_step hi hlt e1 e2 (by simpa using heq)⟩ (by simp only; omega)
      have := soFar_ne e1 e2 (by simpa using hne)
      simp [this]
    · simp [soFar_end hl hi hlt]

theorem t_sameEnv (k : Nat) (hk : 2000 ≤ k) {a b : EnvT} (h1 : a.2.1.length ≤ 1000) (h2 : a.2.2.1.length ≤ 1000) : Tot (laws_sameEnv k (a, b, ())) fun y => y.1.1 = decide (a = b) := by
  unfold laws_sameEnv
  refine Tot.bind (P := fun y => y.1 = decide (a = b)) ?_ fun j hj => Tot.ret hj
  rw [env_same]
  refine Tot.br (fun h0 => Tot.bd (t_sameIvs k hk h1) fun y1 e1 => Tot.br (fun c1 => Tot.bd (t_sameIvs k hk h2) fun y2 e2 => Tot.ret ?_) fun c1 => Tot.ret ?_) fun h0 => Tot.ret ?_
  · rw [h0, ← e1, c1, ← e2]; rfl
  · rw [h0, ← e1, c1]; rfl
  · rw [h0]; rfl

theorem t_sameTable (k : Nat) (hk : 2000 ≤ k) {a b : List EnvT} (ha : a.length ≤ 1000) (hs : ∀ e ∈ a, EAny e) : Tot (laws_sameTable k (a, b, ())) fun y => y.1.1 = decide (a = b) := by
  unfold laws_sameTable
  refine Tot.br (fun h => Tot.ret ?_) fun h => ?_
  · have : a ≠ b := by rintro rfl; simp at h
    simp [this]
  · have hl : a.length = b.length := by
      simp only [bne_eq_false_iff_eq] at h
      omega
    refine Tot.loop (EqJ a b) (fun x => ((a.length : Int) - x.2.2.1).toNat) ?_ k _ ⟨rfl, rfl, soFar_0 a b⟩ (by simp only; omega)
    rintro G ⟨a', b', i, ⟨⟩⟩ ⟨rfl, rfl, hi⟩ hG
    simp only at hi ha hl hs
    have h0 := hi.1
    simp only [laws_sameTable.l0]
    refine Tot.dec (fun hlt => ?_) fun hlt => Tot.ret ?_
    · refine Tot.chk h0 (Tot.get (by omega) fun x1 hx1 e1 => Tot.chk h0 (Tot.get (by omega) fun x2 _ e2 => Tot.bd (t_sameEnv k hk (hs _ hx1).n1 (hs _ hx1).n2) fun y3 h3 => ?_))
      rw [wrap_i64 (n := i + 1) (by omega) (by omega), h3]
      refine Tot.br (fun hne => Tot.ret ?_) fun heq => hG _ ⟨rfl, rfl, soFar_step hi hlt e1 e2 (by simpa using heq)⟩ (by simp only; omega)
      have := soFar_ne e1 e2 (by simpa using hne)
      simp [this]
    · simp [soFar_end hl hi hlt]
end Go.Pev.F
end

section
/-
  Numbers' texts: their signs, their values.
-/
set_option linter.unusedVariables false
set_option linter.unusedSimpArgs false
namespace Go.Pev.F
open Go.Lib (decDigits itoa)

def IsDig (c : UInt8) : Prop := 48 ≤ c.toNat ∧ c.toNat ≤ 57
instance (c : UInt8) : Decidable (IsDig c) := inferInstanceAs (Decidable (_ ∧ _))

def valD (a : Nat) (l : List UInt8) : Nat := l.foldl (fun a c => a * 10 + (c.toNat - 48)) a

theorem valD_nil (a : Nat) : valD a [] = a := List.foldl_nil
theorem valD_cons (a : Nat) (c : UInt8) (r : List UInt8) : valD a (c :: r) = valD (a * 10 + (c.toNat - 48)) r := List.foldl_cons ..

theorem valD_snoc (l : List UInt8) (a : Nat) (d : UInt8) : valD a (l ++ [d]) = valD a l * 10 + (d.toNat - 48) := by
  simp [valD, List.foldl_append]

theorem valD_ge : (l : List UInt8) → (a : Nat) → a ≤ valD a l
  | [], a => by rw [valD_nil]; exact Nat.le_refl _
  | c :: r, a => by
    rw [valD_cons]
    exact Nat.le_trans (by omega) (valD_ge r _)

theorem valD_lt : (l : List UInt8) → (a n : Nat) → (∀ c ∈ l, IsDig c) → a < 10 ^ n → valD a l < 10 ^ (n + l.length)
  | [], a, n, _, h => by rw [valD_nil]; exact h
  | c :: r, a, n, hd, h => by
    rw [valD_cons]
    have h1 := hd c (by simp)
    have := valD_lt r (a * 10 + (c.toNat - 48)) (n + 1) (fun x hx => hd x (by simp [hx])) (by rw [Nat.pow_succ]; unfold IsDig at h1; omega)
    rw [show n + (c :: r).length = n + 1 + r.length by simp; omega]
    exact this

theorem dig_of {u : Nat} (h : u < 10) : (UInt8.ofNat (48 + u)).toNat = 48 + u := by
  simp; omega

theorem decDigits_dig (u : Nat) : ∀ c ∈ decDigits u, IsDig c := by
  induction u using Nat.strongRecOn with
  | _ u ih =>
    by_cases h : u < 10
    · rw [dec_end h]
      intro c hc
      rw [List.mem_singleton] at hc
      subst hc
      unfold IsDig
      rw [dig_of h]; omega
    · rw [dec_step h]
      intro c hc
      rcases List.mem_append.1 hc with hc | hc
      · exact ih (u / 10) (by omega) c hc
      · rw [List.mem_singleton] at hc
        subst hc
        unfold IsDig
        rw [dig_of (u := u % 10) (by omega)]; omega

theorem decDigits_val (u : Nat) : valD 0 (decDigits u) = u := by
  induction u using Nat.strongRecOn with
  | _ u ih =>
    by_cases h : u < 10
    · rw [dec_end h]
      simp only [valD_cons, valD_nil]
      rw [dig_of h]; omega
    · rw [dec_step h, valD_snoc, ih (u / 10) (by omega), dig_of (u := u % 10) (by omega)]
      omega

theorem decDigits_ne (u : Nat) : decDigits u ≠ [] := by
  by_cases h : u < 10
  · rw [dec_end h]; simp
  · rw [dec_step h]; simp

theorem itoa_head {n : Int} : (n < 0 → itoa n = 45 :: decDigits n.natAbs) ∧ (¬ n < 0 → itoa n = decDigits n.natAbs ∧ ∃ c r, decDigits n.natAbs = c :: r ∧ c ≠ 45) := by
  unfold itoa
  refine ⟨fun h => by rw [if_pos h], fun h => ?_⟩
  rw [if_neg h]
  have e : n.toNat = n.natAbs := by omega
  rw [e]
  refine ⟨rfl, ?_⟩
  cases hd : decDigits n.natAbs with
  | nil => exact absurd hd (decDigits_ne _)
  | cons c r =>
    refine ⟨c, r, rfl, fun h45 => ?_⟩
    have h1 := decDigits_dig n.natAbs c (by rw [hd]; simp)
    unfold IsDig at h1
    rw [h45] at h1
    simp at h1

theorem itoa_sign (n : Int) : ∀ c ∈ itoa n, c = 45 ∨ IsDig c := by
  intro c hc
  by_cases hn : n < 0
  · rw [(itoa_head (n := n)).1 hn] at hc
    rcases List.mem_cons.1 hc with h | h
    · exact .inl h
    · exact .inr (decDigits_dig _ _ h)
  · rw [((itoa_head (n := n)).2 hn).1] at hc
    exact .inr (decDigits_dig _ _ hc)

theorem itoa_no (n : Int) {c : UInt8} (h1 : c ≠ 45) (h2 : ¬ IsDig c) : c ∉ itoa n := fun h => (itoa_sign n c h).elim h1 h2

theorem dec_inj {a b : Nat} (h : decDigits a = decDigits b) : a = b := by
  have := congrArg (valD 0) h
  rwa [decDigits_val, decDigits_val] at this

theorem itoa_inj {a b : Int} (h : itoa a = itoa b) : a = b := by
  by_cases ha : a < 0
  · rw [(itoa_head (n := a)).1 ha] at h
    by_cases hb : b < 0
    · rw [(itoa_head (n := b)).1 hb] at h
      have := dec_inj (List.cons.inj h).2
      omega
    · obtain ⟨e, c, r, e2, hc⟩ := (itoa_head (n := b)).2 hb
      rw [e, e2] at h
      exact absurd (List.cons.inj h).1.symm hc
  · obtain ⟨e, c, r, e2, hc⟩ := (itoa_head (n := a)).2 ha
    by_cases hb : b < 0
    · rw [(itoa_head (n := b)).1 hb, e, e2] at h
      exact absurd (List.cons.inj h).1 hc
    · rw [e, ((itoa_head (n := b)).2 hb).1] at h
      have := dec_inj h
      omega

/-- Up to a sign that stands in neither. -/
theorem app_sep {c : UInt8} : ∀ {a b r s : List UInt8}, c ∉ a → c ∉ b → a ++ c :: r = b ++ c :: s → a = b ∧ r = s
  | [], [], _, _, _, _, h => ⟨rfl, (List.cons.inj h).2⟩
  | [], y :: b, _, _, _, hb, h => absurd (List.cons.inj h).1 fun e => hb (by simp [e])
  | x :: a, [], _, _, ha, _, h => absurd (List.cons.inj h).1 fun e => ha (by simp [e])
  | x :: a, y :: b, r, s, ha, hb, h => by
    obtain ⟨e, h⟩ := List.cons.inj h
    obtain ⟨h1, h2⟩ := app_sep (fun q => ha (List.mem_cons_of_mem _ q)) (fun q => hb (List.mem_cons_of_mem _ q)) h
    exact ⟨by rw [e, h1], h2⟩
end Go.Pev.F
end

section
/-
  Unlike bounds have unlike texts.
-/
set_option linter.unusedVariables false
set_option linter.unusedSimpArgs false
namespace Go.Pev.F
open Go.Lib (itoa join joinTail join_cons join_one)

theorem tail_cons (x : List UInt8) (r : Names) (sep : List UInt8) : joinTail sep (x :: r) = (sep ++ x) ++ joinTail sep r := by simp [joinTail]

/-- Tokens without blanks, joined by blanks. -/
theorem join_inj : ∀ (l m : Names), (∀ x ∈ l, (32 : UInt8) ∉ x) → (∀ x ∈ m, (32 : UInt8) ∉ x) → l.length = m.length → join l [32] = join m [32] → l = m
  | [], [], _, _, _, _ => rfl
  | [], _ :: _, _, _, h, _ => by simp at h
  | _ :: _, [], _, _, h, _ => by simp at h
  | x :: l, y :: m, hl, hm, hn, h => by
    have hx := hl x (by simp)
    have hy := hm y (by simp)
    cases l with
    | nil =>
      have : m = [] := List.eq_nil_of_length_eq_zero (by simpa using hn.symm)
      subst this
      rw [join_one, join_one] at h
      rw [h]
    | cons a l =>
      cases m with
      | nil => simp at hn
      | cons b m =>
        have e : ∀ (x a : List UInt8) (l : Names), join (x :: a :: l) [32] = x ++ 32 :: join (a :: l) [32] := by
          intro x a l
          rw [join_cons, tail_cons, join_cons]
          simp
        rw [e, e] at h
        obtain ⟨h1, h2⟩ := app_sep hx hy h
        rw [h1, join_inj (a :: l) (b :: m) (fun z hz => hl z (List.mem_cons_of_mem _ hz)) (fun z hz => hm z (List.mem_cons_of_mem _ hz)) (by simpa using hn) h2]

theorem ivT_inj {a b : IvT} (h : ivT a = ivT b) : a = b := by
  have d : ¬ IsDig 46 := by decide
  unfold ivT at h
  rw [List.append_assoc, List.append_assoc] at h
  obtain ⟨h1, h2⟩ := app_sep (c := 46) (itoa_no a.1 (by decide) d) (itoa_no b.1 (by decide) d) h
  have e1 := itoa_inj h1
  have e2 := itoa_inj (List.cons.inj h2).2
  obtain ⟨a0, a1, ⟨⟩⟩ := a
  obtain ⟨b0, b1, ⟨⟩⟩ := b
  simp only at e1 e2
  rw [e1, e2]

theorem ivT_no {c : UInt8} (h1 : c ≠ 45) (h2 : ¬ IsDig c) (h3 : c ≠ 46) (a : IvT) : c ∉ ivT a := by
  intro h
  simp only [ivT, List.mem_append, List.mem_cons, List.not_mem_nil, or_false] at h
  rcases h with (h | h | h) | h
  · exact itoa_no _ h1 h2 h
  · exact h3 h
  · exact h3 h
  · exact itoa_no _ h1 h2 h

/-- A name has letters alone. -/
theorem name_no {c : UInt8} {s : List UInt8} (h : nameOk s = true) (hc : letter c = false) : c ∉ s := by
  intro hm
  simp only [nameOk, Bool.and_eq_true, List.all_eq_true] at h
  rw [h.1 c hm] at hc
  cases hc

theorem name_ne {s : List UInt8} (h : nameOk s = true) : s ≠ [] := by
  simp only [nameOk, Bool.and_eq_true, decide_eq_true_eq] at h
  intro e
  rw [e] at h
  simp at h

theorem names_of {l : Names} (h : namesOk l = true) : (∀ s ∈ l, nameOk s = true) ∧ ∀ i j (hi : i < l.length) (hj : j < l.length), l[i] = l[j] → i = j := by
  simp only [namesOk, Bool.not_eq_true', List.any_eq_false, List.mem_range, badAt, Bool.or_eq_true, Bool.not_eq_true', not_or] at h
  have g : ∀ i (hi : i < l.length), nameOk l[i] = true ∧ l[i] ∉ l.take i := by
    intro i hi
    have := h i hi
    simp only [List.getD, List.getElem?_eq_getElem hi, Option.getD_some, List.contains_iff_mem] at this
    exact ⟨by simpa using this.1, this.2⟩
  refine ⟨fun s hs => ?_, ?_⟩
  · obtain ⟨i, hi, rfl⟩ := List.mem_iff_getElem.1 hs
    exact (g i hi).1
  · have key : ∀ i j (hi : i < l.length) (hj : j < l.length), i < j → l[i] ≠ l[j] := by
      intro i j hi hj hlt e
      refine (g j hj).2 ?_
      rw [← e]
      exact List.mem_iff_getElem.2 ⟨i, by simp; omega, by simp⟩
    intro i j hi hj e
    by_cases h1 : i < j
    · exact absurd e (key i j hi hj h1)
    · by_cases h2 : j < i
      · exact absurd e.symm (key j i hj hi h2)
      · omega

theorem decl_names {d : DeclT} (h : declOk d = true) : (∀ s ∈ d.1, nameOk s = true) ∧ (∀ s ∈ d.2.1, nameOk s = true) ∧ (∀ a ∈ d.2.2.1, nameOk a.1 = true) ∧ ∀ i j (hi : i < d.2.1.length) (hj : j < d.2.1.length), d.2.1[i] = d.2.1[j] → i = j := by
  simp only [declOk, Bool.and_eq_true] at h
  obtain ⟨h1, h2⟩ := names_of h.2.2
  refine ⟨fun s hs => h1 s ?_, fun s hs => h1 s ?_, fun a ha => h1 a.1 ?_, fun i j hi hj e => ?_⟩
  · simp only [namesOf, List.mem_append]; exact .inl (.inl hs)
  · simp only [namesOf, List.mem_append]; exact .inl (.inr hs)
  · simp only [namesOf, List.mem_append, List.mem_map]; exact .inr ⟨a, ha, rfl⟩
  · have g : ∀ i (hi : i < d.2.1.length), ∃ hq : d.1.length + i < (namesOf d).length, (namesOf d)[d.1.length + i] = d.2.1[i] := by
      intro i hi
      refine ⟨by simp [namesOf]; omega, ?_⟩
      simp only [namesOf]
      rw [List.getElem_append_left (by simp; omega), List.getElem_append_right (by omega)]
      simp
    obtain ⟨q1, e1⟩ := g i hi
    obtain ⟨q2, e2⟩ := g j hj
    have := h2 _ _ q1 q2 (by rw [e1, e2, e])
    omega

theorem both_len (z : List (List UInt8 × List UInt8)) : (z.flatMap both).length = 2 * z.length := by
  induction z with
  | nil => rfl
  | cons p r ih => simp [both] at ih ⊢; omega

theorem flat_inj : ∀ (a b : List (List UInt8 × List UInt8)), a.flatMap both = b.flatMap both → a = b
  | [], [], _ => rfl
  | [], p :: r, h => by simp [both] at h
  | p :: r, [], h => by simp [both] at h
  | p :: r, q :: s, h => by
    simp only [List.flatMap_cons, both, List.cons_append, List.nil_append, List.cons.injEq] at h
    rw [flat_inj r s h.2.2, Prod.ext h.1 h.2.1]

theorem zip_inj {α β : Type} : ∀ {n : List α} {a b : List β}, a.length = n.length → b.length = n.length → n.zip a = n.zip b → a = b
  | [], [], [], _, _, _ => rfl
  | [], [], _ :: _, _, h, _ => by simp at h
  | [], _ :: _, _, h, _, _ => by simp at h
  | _ :: _, [], _, h, _, _ => by simp at h
  | _ :: _, _ :: _, [], _, h, _ => by simp at h
  | x :: n, y :: a, z :: b, h1, h2, h => by
    simp only [List.zip_cons_cons, List.cons.injEq, Prod.mk.injEq] at h
    rw [h.1.2, zip_inj (by simpa using h1) (by simpa using h2) h.2]

theorem map_inj {α β : Type} {f : α → β} (hf : ∀ {a b}, f a = f b → a = b) : ∀ {a b : List α}, a.map f = b.map f → a = b
  | [], [], _ => rfl
  | [], _ :: _, h => by simp at h
  | _ :: _, [], h => by simp at h
  | x :: a, y :: b, h => by
    simp only [List.map_cons, List.cons.injEq] at h
    rw [hf h.1, map_inj hf h.2]

/-- Live bounds' tokens. -/
def pairs (d : DeclT) (e : EnvT) : List (List UInt8 × List UInt8) := zero d e ++ ones d e

theorem pairs_no {d : DeclT} (hd : declOk d = true) {e : EnvT} {c : UInt8} (hc : letter c = false) (h1 : c ≠ 45) (h2 : ¬ IsDig c) (h3 : c ≠ 46) : ∀ p ∈ pairs d e, c ∉ p.1 ∧ c ∉ p.2 := by
  obtain ⟨n0, _, n2, _⟩ := decl_names hd
  intro p hp
  rcases List.mem_append.1 hp with hp | hp
  · have h := List.of_mem_zip hp
    obtain ⟨a, _, e⟩ := List.mem_map.1 h.2
    exact ⟨name_no (n0 _ h.1) hc, e ▸ ivT_no h1 h2 h3 a⟩
  · have h := List.of_mem_zip hp
    obtain ⟨a, _, e⟩ := List.mem_map.1 h.2
    obtain ⟨b, hb, e'⟩ := List.mem_map.1 h.1
    exact ⟨e' ▸ name_no (n2 _ hb) hc, e ▸ ivT_no h1 h2 h3 a⟩

theorem envT_live (d : DeclT) {e : EnvT} (he : e.1 = true) : envT d e = if (pairs d e).length = 0 then [97, 108, 108] else join ((pairs d e).flatMap both) [32] := by
  unfold envT
  rw [he, cond_true, List.length_map]
  by_cases h : (pairs d e).length = 0
  · rw [if_pos h]
    have : ((((zero d e ++ ones d e).length : Nat) : Int) == 0) = true := by
      have : (zero d e ++ ones d e).length = 0 := h
      rw [this]; rfl
    rw [this, cond_true]
  · rw [if_neg h]
    have : ((((zero d e ++ ones d e).length : Nat) : Int) == 0) = false := by
      have : ¬ (zero d e ++ ones d e).length = 0 := h
      rw [beq_eq_false_iff_ne]; omega
    rw [this, cond_false]
    exact (join_pairs [32] _).symm

theorem join_has {l : Names} (h : 2 ≤ l.length) : (32 : UInt8) ∈ join l [32] := by
  match l, h with
  | x :: y :: r, _ =>
    rw [join_cons, tail_cons]
    simp

/-- Unlike bounds have unlike texts. -/
theorem envT_inj {d : DeclT} (hd : declOk d = true) {e f : EnvT} (he : e.1 = true → Fine d e) (hf : f.1 = true → Fine d f) (he0 : e.1 = false → e.2.1 = [] ∧ e.2.2.1 = []) (hf0 : f.1 = false → f.2.1 = [] ∧ f.2.2.1 = []) (h : envT d e = envT d f) : e = f := by
  have dead : ∀ {e : EnvT}, e.1 = false → envT d e = [110, 111, 110, 101] := by
    intro e h0
    unfold envT
    rw [h0]
    rfl
  have live : ∀ {e : EnvT}, e.1 = true → envT d e ≠ [110, 111, 110, 101] := by
    intro e h1 h
    rw [envT_live d h1] at h
    split at h
    · simp at h
    · rename_i hn
      have : (32 : UInt8) ∈ join ((pairs d e).flatMap both) [32] := join_has (by rw [both_len]; omega)
      rw [h] at this
      simp at this
  obtain ⟨e0, e1, e2, ⟨⟩⟩ := e
  obtain ⟨f0, f1, f2, ⟨⟩⟩ := f
  cases e0 with
  | false =>
    cases f0 with
    | false =>
      obtain ⟨a, b⟩ := he0 rfl
      obtain ⟨a', b'⟩ := hf0 rfl
      simp only at a b a' b'
      rw [a, b, a', b']
    | true => rw [dead rfl] at h; exact absurd h.symm (live rfl)
  | true =>
    cases f0 with
    | false => rw [dead (e := (false, f1, f2, ())) rfl] at h; exact absurd h (live rfl)
    | true =>
      have E := he rfl
      have F := hf rfl
      have x1 := E.e1
      have x2 := E.e2
      have y1 := F.e1
      have y2 := F.e2
      have z : ∀ (g1 g2 : List IvT), g1.length = d.1.length → g2.length = d.2.2.1.length → (pairs d (true, g1, g2, ())).length = d.1.length + d.2.2.1.length := by
        intro g1 g2 h1 h2
        simp only [pairs, zero, ones, List.length_append, List.length_zip, List.length_map]; omega
      have ze := z e1 e2 x1 x2
      have zf := z f1 f2 y1 y2
      have hp : pairs d (true, e1, e2, ()) = pairs d (true, f1, f2, ()) := by
        rw [envT_live d (e := (true, e1, e2, ())) rfl, envT_live d (e := (true, f1, f2, ())) rfl, ze, zf] at h
        by_cases h0 : d.1.length + d.2.2.1.length = 0
        · rw [List.eq_nil_of_length_eq_zero (ze.trans h0), List.eq_nil_of_length_eq_zero (zf.trans h0)]
        · rw [if_neg h0, if_neg h0] at h
          have no : ∀ (g : EnvT), ∀ x ∈ (pairs d g).flatMap both, (32 : UInt8) ∉ x := by
            intro g x hx
            obtain ⟨p, hp, hx⟩ := List.mem_flatMap.1 hx
            have := pairs_no hd (e := g) (c := 32) (by decide) (by decide) (by decide) (by decide) p hp
            simp only [both, List.mem_cons, List.not_mem_nil, or_false] at hx
            rcases hx with rfl | rfl
            · exact this.1
            · exact this.2
          exact flat_inj _ _ (join_inj _ _ (no _) (no _) (by rw [both_len, both_len, ze, zf]) h)
      have l0 : (zero d (true, e1, e2, ())).length = (zero d (true, f1, f2, ())).length := by
        simp only [zero, List.length_zip, List.length_map]; simp only at x1 y1; omega
      obtain ⟨h1, h2⟩ := List.append_inj hp l0
      have r1 := map_inj (f := ivT) ivT_inj (zip_inj (n := d.1) (by simpa using x1) (by simpa using y1) h1)
      have h2' : (d.2.2.1.map (fun x : ArrT => x.1)).zip (e2.map ivT) = (d.2.2.1.map (fun x : ArrT => x.1)).zip (f2.map ivT) := h2
      have r2 := map_inj (f := ivT) ivT_inj (zip_inj (by simpa using x2) (by simpa using y2) h2')
      simp only at r1 r2
      rw [r1, r2]

/-- No bracket stands in a text of bounds. -/
theorem envT_no {d : DeclT} (hd : declOk d = true) {e : EnvT} {c : UInt8} (hc : letter c = false) (h1 : c ≠ 45) (h2 : ¬ IsDig c) (h3 : c ≠ 46) (h4 : c ≠ 32) : c ∉ envT d e := by
  have w : ∀ (s : List UInt8), s.all letter = true → c ∉ s := by
    intro s hs hm
    rw [List.all_eq_true.1 hs c hm] at hc
    cases hc
  have jn : ∀ (l : Names), (∀ x ∈ l, c ∉ x) → c ∉ join l [32] := by
    intro l
    induction l with
    | nil => intro _; simp [join]
    | cons x r ih =>
      intro hl
      cases r with
      | nil => rw [join_one]; exact hl x (by simp)
      | cons y r =>
        have : join (x :: y :: r) [32] = x ++ 32 :: join (y :: r) [32] := by
          rw [join_cons, tail_cons, join_cons]; simp
        rw [this]
        intro hm
        rcases List.mem_append.1 hm with hm | hm
        · exact hl x (by simp) hm
        · rcases List.mem_cons.1 hm with hm | hm
          · exact h4 hm
          · exact ih (fun z hz => hl z (List.mem_cons_of_mem _ hz)) hm
  cases he : e.1 with
  | false =>
    unfold envT
    rw [he]
    show c ∉ ([110, 111, 110, 101] : List UInt8)
    exact w _ (by decide)
  | true =>
    rw [envT_live d he]
    split
    · exact w _ (by decide)
    · refine jn _ fun x hx => ?_
      obtain ⟨p, hp, hx⟩ := List.mem_flatMap.1 hx
      have := pairs_no hd (e := e) hc h1 h2 h3 p hp
      simp only [both, List.mem_cons, List.not_mem_nil, or_false] at hx
      rcases hx with rfl | rfl
      · exact this.1
      · exact this.2
end Go.Pev.F
end

section
/-
  Unlike stores have unlike texts, unlike bounds, too.
-/
set_option linter.unusedVariables false
set_option linter.unusedSimpArgs false
namespace Go.Pev.F
open Go.Lib (itoa join)

theorem EAny.small {e : EnvT} (h : EAny e) : ESmall e := by
  have n1 := h.n1
  have n2 := h.n2
  exact ⟨by omega, by omega⟩

theorem env_dead {d : DeclT} {e : EnvT} (h : envFits d e = true) (he : e.1 = false) : e.2.1 = [] ∧ e.2.2.1 = [] := by
  simp only [envFits, he, cond_false, Bool.and_eq_true, beq_iff_eq] at h
  exact ⟨List.eq_nil_of_length_eq_zero (by omega), List.eq_nil_of_length_eq_zero (by omega)⟩

theorem t_big2 (k : Nat) (code : List Int) : Tot (laws_big k (code, ())) fun _ => True := by
  unfold laws_big
  exact Tot.ret trivial

theorem t_drawEnvs (k : Nat) (hk : 4194304 < k) {code : List Int} (h1 : code.length ≤ 140737488351232) (h2 : ∀ x ∈ code, 0 ≤ x ∧ x ≤ 255) : Tot (spec_DrawEnvLeq k (code, ())) fun y => DDr y.1.1 ∧ EAny y.1.2.1 ∧ EAny y.1.2.2.1 := by
  unfold spec_DrawEnvLeq
  refine Tot.bd (t_open k h1 h2) fun y1 r1 => Tot.bd (t_decl k (by omega) r1) fun y2 hd => Tot.bd (t_env k (by omega) hd.2 hd.1) fun y3 h3 => Tot.bd (t_env k (by omega) h3.2 hd.1) fun y4 h4 => Tot.bd (t_once k h4.2 2) fun y5 r5 => ?_
  have n0 := hd.1.n0
  have n2 := hd.1.n2
  have len : ∀ {e : EnvT}, EDr y2.1.1.1.length y2.1.1.2.2.1.length e → e.2.1.length ≤ 10 ∧ e.2.2.1.length ≤ 10 := by
    intro e h
    rcases h.s with h | h <;> omega
  refine Tot.br (fun _ => ?_) fun _ => ?_
  · refine Tot.bd (t_join k (by omega) (by omega) (by omega) h3.1 h4.1) fun y6 h6 => Tot.bd (t_hurtEnv k r5 (n := 10) (by omega) (h3.1.any hd.1) (len h3.1).1 (len h3.1).2) fun y7 h7 => Tot.bd (t_hurtEnv k h7.2 (n := 10) (by omega) (h6.any hd.1) (len h6).1 (len h6).2) fun y8 h8 => Tot.ret ⟨hd.1, h7.1.1, h8.1.1⟩
  · refine Tot.bd (t_hurtEnv k r5 (n := 10) (by omega) (h3.1.any hd.1) (len h3.1).1 (len h3.1).2) fun y7 h7 => Tot.bd (t_hurtEnv k h7.2 (n := 10) (by omega) (h4.1.any hd.1) (len h4.1).1 (len h4.1).2) fun y8 h8 => Tot.ret ⟨hd.1, h7.1.1, h8.1.1⟩

/-! ### Texts of stores -/

theorem flatf_inj {α β : Type} (f : α → List β) : ∀ (a b : List α), a.map (fun x => (f x).length) = b.map (fun x => (f x).length) → a.flatMap f = b.flatMap f → a.map f = b.map f
  | [], [], _, _ => rfl
  | [], _ :: _, h, _ => by simp at h
  | _ :: _, [], h, _ => by simp at h
  | x :: a, y :: b, h, e => by
    simp only [List.map_cons, List.cons.injEq] at h ⊢
    simp only [List.flatMap_cons] at e
    obtain ⟨e1, e2⟩ := List.append_inj e h.1
    exact ⟨e1, flatf_inj f a b h.2 e2⟩

theorem zipf_inj {α β γ : Type} {f : α × β → γ} (hf : ∀ x y z, f (x, y) = f (x, z) → y = z) : ∀ {n : List α} {a b : List β}, a.length = n.length → b.length = n.length → (n.zip a).map f = (n.zip b).map f → a = b
  | [], [], [], _, _, _ => rfl
  | [], [], _ :: _, _, h, _ => by simp at h
  | [], _ :: _, _, h, _, _ => by simp at h
  | _ :: _, [], _, h, _, _ => by simp at h
  | _ :: _, _ :: _, [], _, h, _ => by simp at h
  | x :: n, y :: a, z :: b, h1, h2, h => by
    simp only [List.zip_cons_cons, List.map_cons, List.cons.injEq] at h
    rw [hf _ _ _ h.1, zipf_inj hf (by simpa using h1) (by simpa using h2) h.2]

theorem zip_rows {α : Type} : ∀ {n : List α} {a b : List (List Int)}, a.map List.length = b.map List.length → a.length = n.length → (n.zip a).map (fun p => p.2.length + 1) = (n.zip b).map (fun p => p.2.length + 1)
  | [], [], [], _, _ => rfl
  | [], [], _ :: _, h, _ => by simp at h
  | [], _ :: _, _, _, h => by simp at h
  | _ :: _, [], _, _, h => by simp at h
  | _ :: _, _ :: _, [], h, _ => by simp at h
  | x :: n, y :: a, z :: b, h, h1 => by
    simp only [List.map_cons, List.cons.injEq] at h
    simp only [List.zip_cons_cons, List.map_cons, h.1, zip_rows (n := n) h.2 (by simpa using h1)]

theorem boolW_inj {a b : Bool} (h : boolW a = boolW b) : a = b := by
  cases a <;> cases b <;> first | rfl | (simp [boolW] at h)

theorem toks_no {d : DeclT} (hdo : declOk d = true) (s : StoreT) : ∀ x ∈ toks d s, (32 : UInt8) ∉ x := by
  obtain ⟨n0, n1, n2, _⟩ := decl_names hdo
  have it : ∀ n : Int, (32 : UInt8) ∉ itoa n := fun n => itoa_no n (by decide) (by decide)
  intro x hx
  simp only [toks, List.mem_append, List.mem_flatMap] at hx
  rcases hx with (⟨p, hp, hx⟩ | ⟨p, hp, hx⟩) | ⟨p, hp, hx⟩
  · have h := List.of_mem_zip hp
    simp only [tok0, List.mem_cons, List.not_mem_nil, or_false] at hx
    rcases hx with rfl | rfl
    · exact name_no (n0 _ h.1) (by decide)
    · exact it _
  · have h := List.of_mem_zip hp
    simp only [tok1, List.mem_cons, List.not_mem_nil, or_false] at hx
    rcases hx with rfl | rfl
    · exact name_no (n1 _ h.1) (by decide)
    · cases p.2 <;> simp [boolW]
  · have h := List.of_mem_zip hp
    simp only [tok2, List.mem_cons, List.mem_map] at hx
    rcases hx with rfl | ⟨n, _, rfl⟩
    · exact name_no (n2 _ h.1) (by decide)
    · exact it _

theorem toks_inj {d : DeclT} (hdo : declOk d = true) {a b : StoreT} (ha : Alike (newS d) a) (hb : Alike (newS d) b) (h : join (toks d a) [32] = join (toks d b) [32]) : a = b := by
  have a0 : a.1.length = d.1.length := by have := ha.a0; simpa [newS] using this
  have a1 : a.2.1.length = d.2.1.length := by have := ha.a1; simpa [newS] using this
  have a2 : a.2.2.1.length = d.2.2.1.length := by have := ha.n2; simpa [newS] using this
  have b0 : b.1.length = d.1.length := by have := hb.a0; simpa [newS] using this
  have b1 : b.2.1.length = d.2.1.length := by have := hb.a1; simpa [newS] using this
  have b2 : b.2.2.1.length = d.2.2.1.length := by have := hb.n2; simpa [newS] using this
  have rr : a.2.2.1.map List.length = b.2.2.1.map List.length := ha.a2.trans hb.a2.symm
  have m0 : (pr0 d a).map (fun x => (tok0 x).length) = (pr0 d b).map (fun x => (tok0 x).length) := by
    have : ∀ (l : List (List UInt8 × Int)), l.map (fun x => (tok0 x).length) = List.replicate l.length 2 := fun l => by
      induction l with
      | nil => rfl
      | cons x r ih => rw [List.map_cons, ih]; rfl
    rw [this, this]
    congr 1
    simp only [pr0, List.length_zip]; omega
  have m1 : (pr1 d a).map (fun x => (tok1 x).length) = (pr1 d b).map (fun x => (tok1 x).length) := by
    have : ∀ (l : List (List UInt8 × Bool)), l.map (fun x => (tok1 x).length) = List.replicate l.length 2 := fun l => by
      induction l with
      | nil => rfl
      | cons x r ih => rw [List.map_cons, ih]; rfl
    rw [this, this]
    congr 1
    simp only [pr1, List.length_zip]; omega
  have m2 : (pr2 d a).map (fun x => (tok2 x).length) = (pr2 d b).map (fun x => (tok2 x).length) := by
    have : (fun x : ArrT × List Int => (tok2 x).length) = fun p => p.2.length + 1 := by
      funext p; simp [tok2]
    rw [this]
    exact zip_rows rr a2
  have fl : ∀ {α β : Type} (f : α → List β) (l m : List α), l.map (fun x => (f x).length) = m.map (fun x => (f x).length) → (l.flatMap f).length = (m.flatMap f).length := by
    intro α β f l m h
    rw [List.length_flatMap, List.length_flatMap, h]
  have l0 := fl _ _ _ m0
  have l1 := fl _ _ _ m1
  have l2 := fl _ _ _ m2
  have e := join_inj _ _ (toks_no hdo a) (toks_no hdo b) (by simp only [toks, List.length_append]; omega) h
  unfold toks at e
  obtain ⟨e1, e2⟩ := List.append_inj e (by simp only [List.length_append]; omega)
  obtain ⟨e0, e1⟩ := List.append_inj e1 l0
  have q0 := zipf_inj (f := tok0) (fun x y z h => by
    simp only [tok0, List.cons.injEq, and_true, true_and] at h
    exact itoa_inj h) a0 b0 (flatf_inj tok0 _ _ m0 e0)
  have q1 := zipf_inj (f := tok1) (fun x y z h => by
    simp only [tok1, List.cons.injEq, and_true, true_and] at h
    exact boolW_inj h) a1 b1 (flatf_inj tok1 _ _ m1 e1)
  have q2 := zipf_inj (f := tok2) (fun x y z h => by
    simp only [tok2, List.cons.injEq, true_and] at h
    exact map_inj (f := itoa) itoa_inj h) a2 b2 (flatf_inj tok2 _ _ m2 e2)
  obtain ⟨x0, x1, x2, ⟨⟩⟩ := a
  obtain ⟨y0, y1, y2, ⟨⟩⟩ := b
  simp only at q0 q1 q2
  rw [q0, q1, q2]

theorem alike_ok {d : DeclT} (hdo : declOk d = true) {s : StoreT} (h : Alike (newS d) s) : storeOk d s = true := by
  have a0 : s.1.length = d.1.length := by have := h.a0; simpa [newS] using this
  have a1 : s.2.1.length = d.2.1.length := by have := h.a1; simpa [newS] using this
  have a2 : s.2.2.1.length = d.2.2.1.length := by have := h.n2; simpa [newS] using this
  have har := (decl_arrs hdo).2
  have lo : lensOk d s = true := by
    simp only [lensOk, Bool.and_eq_true, beq_iff_eq]; omega
  have ro : rowsOk d s = true := by
    simp only [rowsOk, Bool.not_eq_true', List.any_eq_false, List.mem_range]
    intro i hi
    have hi' : i < d.2.2.1.length := by omega
    have hr := h.row hi
    have ha := har _ (List.getElem_mem hi')
    have e : ((newS d).2.2.1.getD i []).length = (d.2.2.1[i]).2.1.toNat := by
      have hi2 : i < (newS d).2.2.1.length := by simpa [newS] using hi'
      simp [List.getD, newS, List.getElem?_eq_getElem hi']
    simp only [List.getD, List.getElem?_eq_getElem hi, List.getElem?_eq_getElem hi', Option.getD_some]
    rw [e] at hr
    simp
    omega
  rw [storeOk, hdo, lo, ro]; rfl

/-! ### Compared -/

theorem t_sameInts (k : Nat) (hk : 2000 ≤ k) {a b : List Int} (ha : a.length ≤ 1000) : Tot (laws_sameInts k (a, b, ())) fun y => y.1.1 = decide (a = b) := by
  unfold laws_sameInts
  refine Tot.br (fun h => Tot.ret ?_) fun h => ?_
  · have : a ≠ b := by rintro rfl; simp at h
    simp [this]
  · have hl : a.length = b.length := by
      simp only [bne_eq_false_iff_eq] at h
      omega
    refine Tot.loop (EqJ a b) (fun x => ((a.length : Int) - x.2.2.1).toNat) ?_ k _ ⟨rfl, rfl, soFar_0 a b⟩ (by simp only; omega)
    rintro G ⟨a', b', i, ⟨⟩⟩ ⟨rfl, rfl, hi⟩ hG
    simp only at hi ha hl
    have h0 := hi.1
    simp only [laws_sameInts.l0]
    refine Tot.dec (fun hlt => ?_) fun hlt => Tot.ret ?_
    · refine Tot.chk h0 (Tot.get (by omega) fun x1 _ e1 => Tot.chk h0 (Tot.get (by omega) fun x2 _ e2 => ?_))
      rw [wrap_i64 (n := i + 1) (by omega) (by omega)]
      refine Tot.br (fun hne => Tot.ret ?_) fun heq => hG _ ⟨rfl, rfl, soFar_step hi hlt e1 e2 (by simpa using heq)⟩ (by simp only; omega)
      have := soFar_ne e1 e2 (by simpa using hne)
      simp [this]
    · simp [soFar_end hl hi hlt]

abbrev SameSt : Type := StoreT × StoreT × Int × Unit

theorem t_sameStore (k : Nat) (hk : 2000 ≤ k) {a b : StoreT} (ha : SAny a) : Tot (laws_sameStore k (a, b, ())) fun y => y.1.1 = decide (a = b) := by
  have N0 := ha.n0
  have N1 := ha.n1
  have N2 := ha.n2
  unfold laws_sameStore
  refine Tot.bind (P := fun y => (y.1 = true → a ≠ b) ∧ (y.1 = false → a.1 = b.1 ∧ a.2.1.length = b.2.1.length ∧ a.2.2.1.length = b.2.2.1.length)) (Tot.bd (t_sameInts k hk N0) fun y1 h1 => Tot.br (fun h => Tot.ret ⟨fun _ e => ?_, fun h => by cases h⟩) fun h => Tot.br (fun h' => Tot.ret ⟨fun _ e => ?_, fun h => by cases h⟩) fun h' => Tot.ret ⟨fun h'' e => ?_, fun h'' => ⟨?_, ?_, ?_⟩⟩) fun j hj => Tot.br (fun h => Tot.ret ?_) fun h => ?_
  · rw [e] at h1; rw [h1] at h; simp at h
  · rw [e] at h'; simp at h'
  · rw [e] at h''; simp at h''
  · rw [h1] at h; simpa using h
  · simp only [bne_eq_false_iff_eq] at h'; omega
  · simp only [bne_eq_false_iff_eq] at h''; omega
  · simp [hj.1 h]
  · obtain ⟨e0, l1, l2⟩ := hj.2 h
    have rows : a.2.1 = b.2.1 → ∀ (f : Nat) (x : SameSt), (x.1 = a ∧ x.2.1 = b ∧ SoFar a.2.2.1 b.2.2.1 x.2.2.1) → ((a.2.2.1.length : Int) - x.2.2.1).toNat < f → Tot (iter (laws_sameStore.l2 k) f x) fun y => y.1.1 = decide (a = b) := by
      intro e1
      refine Tot.loop (fun x : SameSt => x.1 = a ∧ x.2.1 = b ∧ SoFar a.2.2.1 b.2.2.1 x.2.2.1) (fun x : SameSt => ((a.2.2.1.length : Int) - x.2.2.1).toNat) ?_
      rintro G ⟨⟨a0, a1, a2, ⟨⟩⟩, ⟨b0, b1, b2, ⟨⟩⟩, i, ⟨⟩⟩ ⟨rfl, rfl, hi⟩ hG
      simp only at hi e0 e1 l1 l2 N2
      have m2 := ha.m2
      simp only at m2
      have h0 := hi.1
      simp only [laws_sameStore.l2]
      refine Tot.dec (fun hlt => ?_) fun hlt => Tot.ret ?_
      · refine Tot.chk h0 (Tot.get (by omega) fun x1 hx1 e1' => Tot.chk h0 (Tot.get (by omega) fun x2 _ e2 => Tot.bd (t_sameInts k hk (m2 _ hx1)) fun y7 h7 => ?_))
        rw [wrap_i64 (n := i + 1) (by omega) (by omega), h7]
        refine Tot.br (fun hne => Tot.ret ?_) fun heq => hG _ ⟨rfl, rfl, soFar_step hi hlt e1' e2 (by simpa using heq)⟩ (by simp only; omega)
        have := soFar_ne e1' e2 (by simpa using hne)
        simp [this]
      · have := soFar_end l2 hi hlt
        simp [e0, e1, this]
    refine Tot.loop (fun x : SameSt => x.1 = a ∧ x.2.1 = b ∧ SoFar a.2.1 b.2.1 x.2.2.1) (fun x : SameSt => ((a.2.1.length : Int) - x.2.2.1).toNat) ?_ k _ ⟨rfl, rfl, soFar_0 _ _⟩ (by simp only; omega)
    rintro G ⟨⟨a0, a1, a2, ⟨⟩⟩, ⟨b0, b1, b2, ⟨⟩⟩, i, ⟨⟩⟩ ⟨rfl, rfl, hi⟩ hG
    simp only at hi e0 l1 l2 N1 N2
    have h0 := hi.1
    simp only [laws_sameStore.l0]
    refine Tot.dec (fun hlt => ?_) fun hlt => ?_
    · refine Tot.chk h0 (Tot.get (by omega) fun x1 hx1 e1 => Tot.chk h0 (Tot.get (by omega) fun x2 _ e2 => ?_))
      rw [wrap_i64 (n := i + 1) (by omega) (by omega)]
      refine Tot.br (fun hne => Tot.ret ?_) fun heq => hG _ ⟨rfl, rfl, soFar_step hi hlt e1 e2 (by simpa using heq)⟩ (by simp only; omega)
      have := soFar_ne e1 e2 (by simpa using hne)
      simp [this]
    · exact rows (soFar_end l1 hi hlt) k _ ⟨rfl, rfl, soFar_0 _ _⟩ (by simp only; omega)

/-! ### The law -/

theorem storeTexts_tot (k : Nat) (hk : 4194304 < k) (hk2 : k ≤ 4611686018427387903) {code more : List Int} (h1 : code.length ≤ 140737488351232) (h2 : ∀ x ∈ code, 0 ≤ x ∧ x ≤ 255) : Tot (laws_FnStoreTexts k (code, more, ())) fun y => y.1.1 = true := by
  unfold laws_FnStoreTexts
  refine Tot.bind (P := fun _ => True) (Tot.bd (t_big2 k code) fun _ _ => Tot.br (fun _ => Tot.ret trivial) fun _ => Tot.bd (t_big2 k more) fun _ _ => Tot.ret trivial) fun j3 _ => Tot.br (fun _ => Tot.ret rfl) fun _ => Tot.bd (t_drawEnvs k hk h1 h2) fun y4 hy4 => Tot.bd (t_drawStore k hk h1 h2) fun y5 hy5 => ?_
  obtain ⟨⟨d, ⟨e0, e1, e2, ⟨⟩⟩, ⟨f0, f1, f2, ⟨⟩⟩, ⟨⟩⟩, o4⟩ := y4
  obtain ⟨⟨x, ⟨s0, s1, s2, ⟨⟩⟩, ⟨⟩⟩, o5⟩ := y5
  obtain ⟨hd, he, hf⟩ := hy4
  obtain ⟨hx, hs, hsw⟩ := hy5
  simp only at hd he hf hx hs hsw
  have es : ESmall (e0, e1, e2, ()) := he.small
  have fs : ESmall (f0, f1, f2, ()) := hf.small
  obtain ⟨te, te1, te2, te3⟩ := envText_is k hk hk2 d hd.s _ es he.wf
  obtain ⟨tf, tf1, tf2, tf3⟩ := envText_is k hk hk2 d hd.s _ fs hf.wf
  obtain ⟨ts, ts1, ts2⟩ := storeText_both k hk hk2 x hx _ hs hsw
  simp only [te1, te2, tf2, ts1, ts2, bd_some, BEq.rfl, Bool.not_true, br_false, br_true, specEnvOk_is k hk d hd.s _ es, specEnvOk_is k hk d hd.s _ fs, Option.bind_some]
  cases oe : envOk d (e0, e1, e2, ()) with
  | false => simp only [Bool.not_false, br_true, Option.bind_some]; exact Tot.ret rfl
  | true =>
    simp only [Bool.not_true, br_false]
    cases of : envOk d (f0, f1, f2, ()) with
    | false => simp only [Bool.not_false, br_true, Option.bind_some]; exact Tot.ret rfl
    | true =>
      simp only [Bool.not_true, br_false, Option.bind_some]
      cases e0 with
      | false => simp only [Bool.not_false, br_true]; exact Tot.ret rfl
      | true =>
        simp only [Bool.not_true, br_false]
        have hdo : declOk d = true := by
          simp only [envOk, Bool.and_eq_true] at oe; exact oe.1
        have E := fine_of oe rfl he.wf
        refine Tot.bd (t_inside k hk hd.s hdo (e := (true, e1, e2, ())) E.e1 E.e2 E.f1 E.f2 0 code) fun y18 ha => Tot.bd (t_inside k hk hd.s hdo (e := (true, e1, e2, ())) E.e1 E.e2 E.f1 E.f2 0 more) fun y19 hb => ?_
        obtain ⟨⟨⟨a0, a1, a2, ⟨⟩⟩, ⟨⟩⟩, o18⟩ := y18
        obtain ⟨⟨⟨b0, b1, b2, ⟨⟩⟩, ⟨⟩⟩, o19⟩ := y19
        simp only at ha hb
        have sa := ha.any (newS_any hdo)
        have sb := hb.any (newS_any hdo)
        obtain ⟨ta, ta1, ta2, ta3⟩ := storeText_is k hk hk2 d hd.s _ sa.small sa.wf
        obtain ⟨tb, tb1, tb2, tb3⟩ := storeText_is k hk hk2 d hd.s _ sb.small sb.wf
        refine Tot.bind (P := fun y => y.1 = true) (Tot.bd (t_sameEnv k (by omega) he.n1 he.n2) fun y22 h22 => ?_) fun j hj => Tot.ret hj
        have q : (te == tf) = decide (((true, e1, e2, ()) : EnvT) = (f0, f1, f2, ())) := by
          rw [Bool.eq_iff_iff, beq_iff_eq, decide_eq_true_iff, te3 oe, tf3 of]
          refine ⟨fun h => envT_inj hdo (fun _ => E) (fun h => fine_of of h hf.wf) (fun h => by cases h) (fun h => ?_) h, fun h => by rw [h]⟩
          have o2 := of
          simp only [envOk, Bool.and_eq_true] at o2
          exact env_dead o2.2 h
        refine Tot.br (fun _ => ?_) fun h => ?_
        · simp only [ta2, tb2, bd_some]
          refine Tot.bd (t_sameStore k (by omega) sa) fun y25 h25 => Tot.ret ?_
          have q2 : (ta == tb) = decide (((a0, a1, a2, ()) : StoreT) = (b0, b1, b2, ())) := by
            rw [Bool.eq_iff_iff, beq_iff_eq, decide_eq_true_iff, ta3 (alike_ok hdo ha), tb3 (alike_ok hdo hb)]
            exact ⟨fun h => toks_inj hdo ha hb h, fun h => by rw [h]⟩
          rw [q2, h25]
          exact BEq.rfl
        · rw [q, h22] at h
          rw [BEq.rfl] at h
          cases h

theorem FnStoreTexts_true (x : List Int × List Int × Unit) (hw : WFs [.sl false (.int .u8), .sl false (.int .u8)] x) : ∃ k o, laws_FnStoreTexts k x = some ((true, ()), o) := by
  obtain ⟨code, more, ⟨⟩⟩ := x
  obtain ⟨⟨hlen, hby⟩, _⟩ := hw
  obtain ⟨⟨⟨b, ⟨⟩⟩, o⟩, e, h⟩ := storeTexts_tot 8388608 (by omega) (by omega) (more := more) hlen fun x hx => hby x hx
  simp only at h
  subst h
  exact ⟨8388608, o, e⟩
end Go.Pev.F
end
