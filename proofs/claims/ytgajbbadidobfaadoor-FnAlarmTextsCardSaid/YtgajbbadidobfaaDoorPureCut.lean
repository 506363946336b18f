/-
  A text cut at the first of a byte: the reference's and the program's.
-/
import Derived.Test.YtgajbbadidobfaaDoorFn4
import Derived.Test.YtgajbbadidobfaaDoorPure0
set_option linter.unusedVariables false
set_option linter.unusedSimpArgs false
namespace Go.Pev.F
open Go.Lib (indexByte)

/-- Where the first one is; the length, if there is none. -/
def fst1 (c : UInt8) : List UInt8 → Nat
  | [] => 0
  | b :: r => if b = c then 0 else fst1 c r + 1

theorem fst1_le (c : UInt8) : (s : List UInt8) → fst1 c s ≤ s.length
  | [] => Nat.le_refl _
  | b :: r => by
    unfold fst1
    split
    · omega
    · have := fst1_le c r; simp; omega

theorem fst1_get (c : UInt8) : (s : List UInt8) → (i : Nat) → i < s.length → i ≤ fst1 c s → (s[i]? = some c ↔ fst1 c s = i)
  | [], i, h, _ => by simp at h
  | b :: r, i, h, hi => by
    unfold fst1 at hi ⊢
    by_cases hb : b = c
    · rw [if_pos hb] at hi ⊢
      have : i = 0 := by omega
      subst this
      simp [hb]
    · rw [if_neg hb] at hi ⊢
      cases i with
      | zero => simp [hb]
      | succ i =>
        have := fst1_get c r i (by simpa using h) (by omega)
        simp only [List.getElem?_cons_succ]
        rw [this]
        omega

/-- The cut. -/
def cutF (c : UInt8) (s : List UInt8) : List UInt8 × List UInt8 × Bool := if fst1 c s < s.length then (s.take (fst1 c s), s.drop (fst1 c s + 1), true) else (s, [], false)

theorem index_fst1 (c : UInt8) : (s : List UInt8) → indexByte s c = if fst1 c s < s.length then (fst1 c s : Int) else -1
  | [] => rfl
  | b :: r => by
    unfold indexByte fst1
    by_cases hb : b = c
    · simp [hb]
    · have hb' : (b == c) = false := by simpa using hb
      have ih := index_fst1 c r
      have hl := fst1_le c r
      rw [hb', ih]
      simp only [Bool.false_eq_true, if_false, hb, List.length_cons]
      by_cases h : fst1 c r < r.length
      · rw [if_pos h, if_pos (show fst1 c r + 1 < r.length + 1 by omega)]
        have : (((fst1 c r : Nat) : Int) == -1) = false := by simp
        rw [this]
        simp
      · rw [if_neg h, if_neg (show ¬ (fst1 c r + 1 < r.length + 1) by omega)]
        rfl

theorem cut_take (c : UInt8) : (s : List UInt8) → ∀ b ∈ s.take (fst1 c s), b ≠ c
  | [], b, h => by simp at h
  | a :: r, b, h => by
    unfold fst1 at h
    by_cases ha : a = c
    · rw [if_pos ha] at h; simp at h
    · rw [if_neg ha] at h
      simp only [List.take_succ_cons, List.mem_cons] at h
      rcases h with rfl | h
      · exact ha
      · exact cut_take c r b h

theorem fst1_app (c : UInt8) : (h t : List UInt8) → (∀ b ∈ h, b ≠ c) → fst1 c (h ++ c :: t) = h.length
  | [], t, _ => by simp [fst1]
  | a :: r, t, hh => by
    have := fst1_app c r t (fun b hb => hh b (by simp [hb]))
    have ha := hh a (by simp)
    simp only [List.cons_append, fst1, if_neg ha, this, List.length_cons]

/-- A text with the byte behind others than it. -/
theorem cutF_app (c : UInt8) (h t : List UInt8) (hh : ∀ b ∈ h, b ≠ c) : cutF c (h ++ c :: t) = (h, t, true) := by
  unfold cutF
  rw [fst1_app c h t hh]
  have : (h ++ c :: t).length = h.length + (t.length + 1) := by simp
  rw [if_pos (by omega)]
  simp

theorem stringsCut_is (k : Nat) (s : List UInt8) (c : UInt8) (hs : s.length ≤ 140737488351232) : strings_Cut k (s, [c], ()) = some (((cutF c s).1, (cutF c s).2.1, (cutF c s).2.2, ()), ((), (), ())) := by
  unfold strings_Cut stringslite_Cut Lb.Index cutF
  simp only [bd_some]
  rw [index_fst1]
  have hl := fst1_le c s
  by_cases h : fst1 c s < s.length
  · rw [if_pos h, if_pos h]
    have h1 : ((fst1 c s : Nat) : Int) ≥ 0 := by omega
    have h2 : 0 ≤ ((fst1 c s : Nat) : Int) ∧ ((fst1 c s : Nat) : Int) ≤ (s.length : Int) := by omega
    simp only [br_dec, if_pos h1, if_pos h2]
    rw [wrap_i64 (by simp; omega) (by simp; omega)]
    have h3 : 0 ≤ ((fst1 c s : Nat) : Int) + (([c] : List UInt8).length : Int) ∧ ((fst1 c s : Nat) : Int) + (([c] : List UInt8).length : Int) ≤ (s.length : Int) := by simp; omega
    rw [if_pos h3]
    simp only [bd_some]
    rfl
  · rw [if_neg h, if_neg h]
    have h1 : ¬ ((-1 : Int) ≥ 0) := by omega
    simp only [br_dec, if_neg h1, bd_some]

theorem l1Cut_loop (k : Nat) (s : List UInt8) (c : UInt8) (hs : s.length ≤ 140737488351232) : (d i f : Nat) → s.length - i = d → i ≤ fst1 c s →
    iter (spec_l1Cut.l0 k) (d + 1 + f) (s, (c.toNat : Int), (i : Int), ()) = some (((cutF c s).1, (cutF c s).2.1, (cutF c s).2.2, ()), ((), (), ()))
  | 0, i, f, hd, hi => by
    have hl := fst1_le c s
    have h : ¬ ((i : Int) < (s.length : Int)) := by omega
    rw [show 0 + 1 + f = f + 1 by omega, iter_succ]
    simp only [spec_l1Cut.l0, br_dec, if_neg h]
    unfold cutF
    rw [if_neg (by omega)]
  | d + 1, i, f, hd, hi => by
    have hlt : i < s.length := by omega
    have h : ((i : Int) < (s.length : Int)) := by omega
    have h0 : (0 : Int) ≤ (i : Int) := by omega
    have hget : s[((i : Nat) : Int).toNat]? = some s[i] := by simp [hlt]
    rw [show d + 1 + 1 + f = (d + 1 + f) + 1 by omega, iter_succ]
    simp only [spec_l1Cut.l0, br_dec, if_pos h, if_pos h0, hget, bd_some]
    rw [wrap_i64 (n := (i : Int) + 1) (by omega) (by omega)]
    have hiff := fst1_get c s i hlt hi
    rw [List.getElem?_eq_getElem hlt, Option.some.injEq] at hiff
    by_cases hc : s[i] = c
    · have hf := hiff.1 hc
      have hb : ((s[i].toNat : Int) == (c.toNat : Int)) = true := by rw [hc]; simp
      have e1 : 0 ≤ (i : Int) ∧ (i : Int) ≤ (s.length : Int) := by omega
      have e2 : 0 ≤ (i : Int) + 1 ∧ (i : Int) + 1 ≤ (s.length : Int) := by omega
      rw [hb, br_true, if_pos e1, if_pos e2]
      unfold cutF
      rw [hf, if_pos hlt]
      have : ((i : Int) + 1).toNat = i + 1 := by omega
      rw [this]
      simp
    · have hb : ((s[i].toNat : Int) == (c.toNat : Int)) = false := by
        simp
        intro h
        exact hc (UInt8.toNat_inj.1 (by omega))
      have hf : fst1 c s ≠ i := fun h => hc (hiff.2 h)
      rw [hb, br_false]
      have := l1Cut_loop k s c hs d (i + 1) f (by omega) (by omega)
      rw [show ((i : Int) + 1) = ((i + 1 : Nat) : Int) by omega]
      exact this

theorem l1Cut_is (k : Nat) (s : List UInt8) (c : UInt8) (hs : s.length ≤ 140737488351232) (hk : s.length + 1 ≤ k) : spec_l1Cut k (s, (c.toNat : Int), ()) = some (((cutF c s).1, (cutF c s).2.1, (cutF c s).2.2, ()), ((), (), ())) := by
  unfold spec_l1Cut
  have := l1Cut_loop k s c hs s.length 0 (k - (s.length + 1)) (by omega) (by omega)
  rw [show s.length + 1 + (k - (s.length + 1)) = k by omega] at this
  exact this
end Go.Pev.F
