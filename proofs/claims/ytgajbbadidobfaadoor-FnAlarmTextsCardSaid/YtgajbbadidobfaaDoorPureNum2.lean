/-
  Numbers out of their texts: what the reference reads.
-/
import Derived.Test.YtgajbbadidobfaaDoorPureNum
set_option linter.unusedVariables false
set_option linter.unusedSimpArgs false
namespace Go.Pev.F
open Go.Lib (decDigits itoa)

open Classical in
theorem num_loop (k : Nat) (R : List UInt8 × Unit → Option ((Int × Bool × Unit) × Unit × Unit)) (s : List UInt8) (hs : s.length ≤ 16) : (r pre : List UInt8) → (n f : Nat) → s = pre ++ r → n < 10 ^ pre.length →
    iter (spec_l1Num.l0 k R) (r.length + 1 + f) (s, (n : Int), (pre.length : Int), ()) = some (((if ∀ c ∈ r, IsDig c then ((valD n r : Nat) : Int) else 0), decide (∀ c ∈ r, IsDig c), ()), ((), ()))
  | [], pre, n, f, e, hn => by
    have h : ¬ ((pre.length : Int) < (s.length : Int)) := by rw [e]; simp
    rw [show ([] : List UInt8).length + 1 + f = f + 1 by simp; omega, iter_succ]
    simp only [spec_l1Num.l0, br_dec, if_neg h]
    simp [valD_nil]
  | c :: r, pre, n, f, e, hn => by
    have hlen : pre.length + (r.length + 1) = s.length := by rw [e]; simp
    have h : ((pre.length : Int) < (s.length : Int)) := by omega
    have h0 : (0 : Int) ≤ (pre.length : Int) := by omega
    have hget : s[((pre.length : Nat) : Int).toNat]? = some c := by rw [e]; simp
    have hn16 : n < 10 ^ 15 := Nat.lt_of_lt_of_le hn (Nat.pow_le_pow_right (by decide) (by omega))
    rw [show (c :: r).length + 1 + f = (r.length + 1 + f) + 1 by simp; omega, iter_succ]
    simp only [spec_l1Num.l0, br_dec, if_pos h, if_pos h0, hget, bd_some]
    have hc := c.toNat_lt
    by_cases hd : IsDig c
    · have hd' := hd
      unfold IsDig at hd'
      have c1 : ¬ ((c.toNat : Int) < 48) := by omega
      have c2 : ¬ ((c.toNat : Int) > 57) := by omega
      simp only [c1, c2, if_false, decide_false, Option.bind_some, br_false]
      rw [wrap_u8 (by omega) (by omega), wrap_i64 (n := (c.toNat : Int) - 48) (by omega) (by omega), wrap_i64 (n := 10 * (n : Int)) (by omega) (by omega), wrap_i64 (n := 10 * (n : Int) + _) (by omega) (by omega), wrap_i64 (n := (pre.length : Int) + 1) (by omega) (by omega)]
      have ih := num_loop k R s hs r (pre ++ [c]) (n * 10 + (c.toNat - 48)) f (by rw [e]; simp) (by simp [Nat.pow_succ]; omega)
      have e1 : (10 * (n : Int) + ((c.toNat : Int) - 48)) = ((n * 10 + (c.toNat - 48) : Nat) : Int) := by omega
      have e2 : ((pre.length : Int) + 1) = (((pre ++ [c]).length : Nat) : Int) := by simp
      rw [e1, e2, ih, valD_cons]
      have : (∀ x ∈ c :: r, IsDig x) ↔ ∀ x ∈ r, IsDig x := by simp [hd]
      simp only [this]
    · have hall : ¬ ∀ x ∈ c :: r, IsDig x := fun h => hd (h c (by simp))
      rw [if_neg hall]
      have hf : decide (∀ x ∈ c :: r, IsDig x) = false := by simpa using hall
      rw [hf]
      unfold IsDig at hd
      by_cases c1 : (c.toNat : Int) < 48
      · simp [c1]
      · have c2 : (c.toNat : Int) > 57 := by omega
        simp [c1, c2]

def Negs (s : List UInt8) : Prop := ∃ d r, s = 45 :: d :: r ∧ d.toNat ≠ 48 ∧ d.toNat ≠ 45

open Classical in
noncomputable def numU (s : List UInt8) : Int × Bool := if Canon s ∧ s.length ≤ 16 then ((valD 0 s : Nat), true) else (0, false)

theorem b45 (c : UInt8) : (c.toNat = 45) ↔ c = 45 := by
  constructor
  · intro h; apply UInt8.toNat_inj.1; simpa using h
  · rintro rfl; rfl

open Classical in
theorem num_pos (k : Nat) (R : List UInt8 × Unit → Option ((Int × Bool × Unit) × Unit × Unit)) (s : List UInt8) (hk : 20 ≤ k) (hn : ¬ Negs s) : spec_l1Num.f k R (s, ()) = some (((numU s).1, (numU s).2, ()), ((), ())) := by
  have loop : ∀ s : List UInt8, s.length ≤ 16 → iter (spec_l1Num.l0 k R) k (s, 0, 0, ()) = some (((if ∀ c ∈ s, IsDig c then ((valD 0 s : Nat) : Int) else 0), decide (∀ c ∈ s, IsDig c), ()), ((), ())) := by
    intro s hs
    have := num_loop k R s hs s [] 0 (k - (s.length + 1)) rfl (by simp)
    rw [show s.length + 1 + (k - (s.length + 1)) = k by omega] at this
    exact this
  have step2 : ∀ c r, s = c :: r → (((br k (decide ((s.length : Int) < 1)) (some (true, ())) (br k (decide ((s.length : Int) > 16)) (some (true, ())) (br k (decide (0 ≤ (0 : Int))) (bd k (s[(0 : Int).toNat]?) fun b6 => br k ((b6.toNat : Int) == 48) (some (decide ((s.length : Int) > 1), ())) (some (false, ()))) none)) : Option (Bool × Unit)).bind fun j7 =>
      br k (j7.1) (some ((0, false, ()), ((), ()))) (iter (spec_l1Num.l0 k R) k (s, 0, 0, ()))) = some (((numU s).1, (numU s).2, ()), ((), ()))) := by
    intro c r e
    have hl : s.length = r.length + 1 := by rw [e]; simp
    have h1 : ¬ ((s.length : Int) < 1) := by omega
    have hget : s[(0 : Int).toNat]? = some c := by rw [e]; simp
    simp only [br_dec, if_neg h1, hget, bd_some]
    by_cases h16 : (s.length : Int) > 16
    · have : ¬ (Canon s ∧ s.length ≤ 16) := fun h => by omega
      simp [h16, numU, this]
    · rw [if_neg h16, if_pos (by omega)]
      by_cases hz : c.toNat = 48 ∧ r ≠ []
      · have hr : 1 ≤ r.length := by cases r with
          | nil => exact absurd rfl hz.2
          | cons _ _ => simp
        have hg : (s.length : Int) > 1 := by omega
        have hnc : ¬ (Canon s ∧ s.length ≤ 16) := by
          rintro ⟨hc, _⟩
          rcases hc.2.2 c r e with h | h
          · exact hz.2 h
          · exact h hz.1
        have hb : ((c.toNat : Int) == 48) = true := by simp [hz.1]
        simp [hb, hg, numU, hnc]
      · have hj : (br k ((c.toNat : Int) == 48) (some (decide ((s.length : Int) > 1), ())) (some (false, ())) : Option (Bool × Unit)) = some (false, ()) := by
          by_cases h48 : c.toNat = 48
          · have hr : r = [] := by
              rcases r with _ | _
              · rfl
              · exact absurd ⟨h48, by simp⟩ hz
            have hg : ¬ ((s.length : Int) > 1) := by rw [hl, hr]; simp
            have hb : ((c.toNat : Int) == 48) = true := by simp [h48]
            rw [hb, br_true]
            simp only [hg, decide_false]
          · have hb : ((c.toNat : Int) == 48) = false := by simp; omega
            rw [hb, br_false]
        rw [hj]
        simp only [Option.bind_some, br_false]
        rw [loop s (by omega)]
        have hcan : (∀ x ∈ s, IsDig x) ↔ (Canon s ∧ s.length ≤ 16) := by
          constructor
          · intro hall
            refine ⟨⟨by rw [e]; simp, hall, fun c' r' e' => ?_⟩, by omega⟩
            rw [e] at e'
            cases e'
            by_cases h48 : c.toNat = 48
            · left
              rcases r with _ | _
              · rfl
              · exact absurd ⟨h48, by simp⟩ hz
            · exact .inr h48
          · exact fun h => h.1.2.1
        unfold numU
        by_cases hall : ∀ x ∈ s, IsDig x
        · rw [if_pos hall, if_pos (hcan.1 hall)]
          have : decide (∀ x ∈ s, IsDig x) = true := by simpa using hall
          rw [this]
        · rw [if_neg hall, if_neg (fun h => hall (hcan.2 h))]
          have : decide (∀ x ∈ s, IsDig x) = false := by simpa using hall
          rw [this]
  unfold spec_l1Num.f
  rcases s with _ | ⟨c, _ | ⟨d, r⟩⟩
  · have hnc : ¬ Canon [] := fun h => h.1 rfl
    simp [numU, hnc]
  · have hl : ¬ ((([c] : List UInt8).length : Int) > 1) := by simp
    simp only [br_dec, if_neg hl, Option.bind_some, br_false]
    have := step2 c [] rfl
    simp only [br_dec] at this
    exact this
  · have hl : ((c :: d :: r : List UInt8).length : Int) > 1 := by simp; omega
    have g0 : (c :: d :: r : List UInt8)[(0 : Int).toNat]? = some c := rfl
    have g1 : (c :: d :: r : List UInt8)[(1 : Int).toNat]? = some d := rfl
    have hj : (br k ((c.toNat : Int) == 45) (br k (decide (0 ≤ (1 : Int))) (bd k (some d) fun b2 => br k ((b2.toNat : Int) != 48) (br k (decide (0 ≤ (1 : Int))) (bd k (some d) fun b3 => some ((b3.toNat : Int) != 45, ())) none) (some (false, ()))) none) (some (false, ())) : Option (Bool × Unit)) = some (false, ()) := by
      by_cases h45 : c.toNat = 45
      · have hb : ((c.toNat : Int) == 45) = true := by simp [h45]
        rw [hb, br_true]
        by_cases h48 : d.toNat = 48
        · have : ((d.toNat : Int) != 48) = false := by simp [h48]
          simp [br_dec, this]
        · have : ((d.toNat : Int) != 48) = true := by simp; omega
          have h45' : d.toNat = 45 := by
            rcases Nat.decEq d.toNat 45 with h | h
            · exact absurd ⟨d, r, by rw [(b45 c).1 h45], h48, h⟩ hn
            · exact h
          have h3 : ((d.toNat : Int) != 45) = false := by simp [h45']
          simp [br_dec, this, h3]
      · have hb : ((c.toNat : Int) == 45) = false := by simp; omega
        rw [hb, br_false]
    have := step2 c (d :: r) rfl
    simp only [br_dec] at hj
    simp only [br_dec, g0, bd_some] at this
    simp only [br_dec, if_pos hl, g0, g1, bd_some]
    rw [if_pos (by omega)]
    simp only [bd_some] at hj
    rw [hj]
    simp only [Option.bind_some, br_false]
    exact this

theorem num_neg (k : Nat) (R : List UInt8 × Unit → Option ((Int × Bool × Unit) × Unit × Unit)) (d : UInt8) (r : List UInt8) (h1 : d.toNat ≠ 48) (h2 : d.toNat ≠ 45) : spec_l1Num.f k R (45 :: d :: r, ()) = bd k (R (d :: r, ())) fun y5 => some ((IntKind.wrap .i64 (0 - y5.1.1), y5.1.2.1, ()), ((), ())) := by
  unfold spec_l1Num.f
  have hl : (((45 : UInt8) :: d :: r : List UInt8).length : Int) > 1 := by simp; omega
  have hl2 : (0 : Int) ≤ 1 ∧ (1 : Int) ≤ (((45 : UInt8) :: d :: r : List UInt8).length : Int) := by simp; omega
  have g0 : ((45 : UInt8) :: d :: r : List UInt8)[(0 : Int).toNat]? = some 45 := rfl
  have g1 : ((45 : UInt8) :: d :: r : List UInt8)[(1 : Int).toNat]? = some d := rfl
  have e1 : (((45 : UInt8).toNat : Int) == 45) = true := rfl
  have e2 : ((d.toNat : Int) != 48) = true := by simp; omega
  have e3 : ((d.toNat : Int) != 45) = true := by simp; omega
  simp only [br_dec, if_pos hl, g0, g1, bd_some, e1, br_true, e2, e3]
  have z0 : (0 : Int) ≤ 0 := by omega
  have z1 : (0 : Int) ≤ 1 := by omega
  rw [if_pos z0, if_pos z1, if_pos z1, if_pos hl2]
  simp only [Option.bind_some, br_true]
  rfl

/-- What the reference reads. -/
theorem l1Num_is (k : Nat) (hk : 20 ≤ k) (s : List UInt8) : ∃ n ok, spec_l1Num k (s, ()) = some ((n, ok, ()), ((), ())) ∧ (ok = true → CanonInt s n) ∧ (∀ m, CanonInt s m → ok = true ∧ n = m) := by
  obtain ⟨j, rfl⟩ : ∃ j, k = j + 2 := ⟨k - 2, by omega⟩
  have hU : ∀ s : List UInt8, ((numU s).2 = true → Canon s ∧ s.length ≤ 16 ∧ (numU s).1 = (valD 0 s : Nat)) ∧ (Canon s → s.length ≤ 16 → numU s = (((valD 0 s : Nat) : Int), true)) := by
    intro s
    unfold numU
    refine ⟨fun h => ?_, fun h1 h2 => by rw [if_pos ⟨h1, h2⟩]⟩
    split at h
    · rename_i hc; rw [if_pos hc]; exact ⟨hc.1, hc.2, rfl⟩
    · cases h
  by_cases hn : Negs s
  · obtain ⟨d, r, rfl, h48, h45⟩ := hn
    have hnd : ¬ Negs (d :: r) := by
      rintro ⟨d', r', e, _, _⟩
      cases e
      exact h45 rfl
    have hpos : Canon (d :: r) → 1 ≤ valD 0 (d :: r) := by
      intro hc
      have := hc.2.1 d (by simp)
      unfold IsDig at this
      rw [valD_cons]
      have := valD_ge r (0 * 10 + (d.toNat - 48))
      omega
    have hval : ∀ (h : (numU (d :: r)).2 = true), valD 0 (d :: r) < 10000000000000000 := by
      intro h
      obtain ⟨hc, hl, _⟩ := (hU (d :: r)).1 h
      have h1 := dec_of_canon _ _ rfl hc
      exact dec_lt (by rw [h1]; exact hl)
    refine ⟨IntKind.wrap .i64 (0 - (numU (d :: r)).1), (numU (d :: r)).2, ?_, fun h => ?_, fun m hm => ?_⟩
    · unfold spec_l1Num
      rw [iter_succ, num_neg _ _ d r h48 h45, iter_succ, num_pos _ _ _ hk hnd]
      simp
    · obtain ⟨hc, hl, hv⟩ := (hU (d :: r)).1 h
      have h1 := dec_of_canon _ _ rfl hc
      have h2 := hpos hc
      have h3 := hval h
      rw [hv, wrap_i64 (by omega) (by omega)]
      have e1 : (0 - ((valD 0 (d :: r) : Nat) : Int)).natAbs = valD 0 (d :: r) := by omega
      refine ⟨?_, by rw [e1, h1]; exact hl⟩
      rw [(itoa_head (n := 0 - ((valD 0 (d :: r) : Nat) : Int))).1 (by omega), e1, h1]
    · obtain ⟨e, hl⟩ := hm
      by_cases hm0 : m < 0
      · rw [(itoa_head (n := m)).1 hm0] at e
        simp only [List.cons.injEq, true_and] at e
        have hc : Canon (d :: r) := by rw [e]; exact canon_dec _
        have hu := (hU (d :: r)).2 hc (by rw [e]; exact hl)
        rw [hu]
        refine ⟨rfl, ?_⟩
        rw [e, decDigits_val]
        have := dec_lt hl
        rw [wrap_i64 (by omega) (by omega)]
        omega
      · obtain ⟨h1, c, r', h2, h3⟩ := (itoa_head (n := m)).2 hm0
        rw [h1, h2] at e
        cases e
        exact absurd rfl h3
  · refine ⟨(numU s).1, (numU s).2, ?_, fun h => ?_, fun m hm => ?_⟩
    · unfold spec_l1Num
      rw [iter_succ, num_pos _ _ _ hk hn]
    · obtain ⟨hc, hl, hv⟩ := (hU s).1 h
      have h1 := dec_of_canon _ _ rfl hc
      rw [hv]
      refine ⟨?_, by simp only [Int.natAbs_natCast]; rw [h1]; exact hl⟩
      have := ((itoa_head (n := ((valD 0 s : Nat) : Int))).2 (by omega)).1
      rw [this]
      simp only [Int.natAbs_natCast]
      exact h1.symm
    · obtain ⟨e, hl⟩ := hm
      by_cases hm0 : m < 0
      · exfalso
        rw [(itoa_head (n := m)).1 hm0] at e
        have hd := decDigits_val m.natAbs
        have hh := decDigits_head m.natAbs
        have hdg := decDigits_dig m.natAbs
        cases hdd : decDigits m.natAbs with
        | nil => exact decDigits_ne _ hdd
        | cons d r =>
          rw [hdd] at e hd hdg
          have h1 := hdg d (by simp)
          unfold IsDig at h1
          refine hn ⟨d, r, e, fun h48 => ?_, by omega⟩
          rcases hh d r hdd with rfl | h
          · rw [valD_cons, valD_nil, h48] at hd
            omega
          · exact h h48
      · have h1 := ((itoa_head (n := m)).2 hm0).1
        rw [h1] at e
        have hu := (hU s).2 (by rw [e]; exact canon_dec _) (by rw [e]; exact hl)
        rw [hu]
        refine ⟨rfl, ?_⟩
        rw [e, decDigits_val]
        omega
end Go.Pev.F
