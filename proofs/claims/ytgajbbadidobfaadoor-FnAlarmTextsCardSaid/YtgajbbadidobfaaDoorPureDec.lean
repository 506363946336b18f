/-
  Numbers in decimal: the reference's and the program's are the library's.
-/
import Derived.Test.YtgajbbadidobfaaDoorFn4
import Derived.Test.YtgajbbadidobfaaDoorPure0
set_option linter.unusedVariables false
set_option linter.unusedSimpArgs false
namespace Go.Pev.F
open Go.Lib (decDigits itoa)

theorem dec_step {u : Nat} (h : ¬ u < 10) : decDigits u = decDigits (u / 10) ++ [UInt8.ofNat (48 + u % 10)] := by
  rw [decDigits]; simp [h]
theorem dec_end {u : Nat} (h : u < 10) : decDigits u = [UInt8.ofNat (48 + u)] := by
  rw [decDigits]; simp [h]

theorem decDigits_len : ∀ (f u : Nat), u < 10 ^ (f + 1) → (decDigits u).length ≤ f + 1
  | 0, u, h => by rw [dec_end (by omega)]; simp
  | f + 1, u, h => by
    by_cases hu : u < 10
    · rw [dec_end hu]; simp
    · rw [dec_step hu]
      have := decDigits_len f (u / 10) (by rw [Nat.pow_succ] at h; omega)
      simp; omega

theorem l1Dec_last (k : Nat) (n : Int) (f m : Nat) (s : List UInt8) (hm : m < 10) (h3 : s.length ≤ 100) :
    iter (spec_l1Dec.l0 k) (f + 1) (n, (m : Int), s, ()) = some (((if n < 0 then 45 :: (decDigits m ++ s) else decDigits m ++ s), ()), ((), ())) := by
  have hm' : ¬ ((m : Int) ≥ 10) := by omega
  have e : ((48 + (m : Int)).toNat) = 48 + m := by omega
  rw [iter_succ]
  simp only [spec_l1Dec.l0, br_dec, if_neg hm']
  rw [wrap_u64 (n := 48 + (m : Int)) (by omega) (by omega), wrap_u8 (n := 48 + (m : Int)) (by omega) (by omega), dec_end hm]
  simp only [List.map_cons, List.map_nil, e]
  have l1 : ((([UInt8.ofNat (48 + m)].length + s.length : Nat) : Int) ≤ maxInt64) := by simp [maxInt64]; omega
  have l2 : ((([(45 : UInt8)].length + ([UInt8.ofNat (48 + m)] ++ s).length : Nat) : Int) ≤ maxInt64) := by simp [maxInt64]; omega
  rw [if_pos l1, if_pos l2]
  by_cases hn : n < 0 <;> simp [hn]

theorem l1Dec_round (k : Nat) (n : Int) : ∀ (f m : Nat) (s : List UInt8), m < 10 ^ (f + 1) → (m : Int) < 18446744073709551616 → s.length + (decDigits m).length ≤ 100 →
    iter (spec_l1Dec.l0 k) (f + 1) (n, (m : Int), s, ()) = some (((if n < 0 then 45 :: (decDigits m ++ s) else decDigits m ++ s), ()), ((), ())) := by
  intro f
  induction f with
  | zero => intro m s h _ h3; exact l1Dec_last k n 0 m s (by omega) (by omega)
  | succ f ih =>
    intro m s h h2 h3
    by_cases hm : m < 10
    · exact l1Dec_last k n (f + 1) m s hm (by omega)
    · have hm' : ((m : Int) ≥ 10) := by omega
      have h4 : s.length ≤ 100 := by omega
      rw [iter_succ]
      simp only [spec_l1Dec.l0, br_dec, if_pos hm']
      rw [tmod10 (by omega), tdiv10 (by omega), wrap_u64 (n := 48 + (m : Int) % 10) (by omega) (by omega), wrap_u8 (n := 48 + (m : Int) % 10) (by omega) (by omega), wrap_u64 (n := (m : Int) / 10) (by omega) (by omega)]
      have e1 : (m : Int) / 10 = ((m / 10 : Nat) : Int) := by omega
      have e2 : ((48 + (m : Int) % 10).toNat) = 48 + m % 10 := by omega
      simp only [List.map_cons, List.map_nil, e2, e1]
      have l1 : ((([UInt8.ofNat (48 + m % 10)].length + s.length : Nat) : Int) ≤ maxInt64) := by simp [maxInt64]; omega
      rw [if_pos l1, ih (m / 10) _ (by rw [Nat.pow_succ] at h; omega) (by omega) (by rw [dec_step (u := m) hm] at h3; simp at h3 ⊢; omega), dec_step (u := m) hm]
      simp

theorem l1Dec_is (k : Nat) (hk : 20 ≤ k) (n : Int) (h0 : -9223372036854775808 ≤ n) (h1 : n ≤ 9223372036854775807) : spec_l1Dec k (n, ()) = some ((itoa n, ()), ((), ())) := by
  obtain ⟨j, rfl⟩ : ∃ j, k = j + 1 := ⟨k - 1, by omega⟩
  have big : ∀ (m : Nat), (m : Int) < 18446744073709551616 → m < 10 ^ (j + 1) := fun m hm => Nat.lt_of_lt_of_le (show m < 10 ^ 20 by omega) (Nat.pow_le_pow_right (by decide) (by omega))
  unfold spec_l1Dec
  simp only [br_dec]
  unfold itoa
  by_cases hn : n < 0
  · rw [if_pos hn, if_pos hn, wrap_u64_neg h0 hn]
    have e : IntKind.wrap .u64 (0 - (n + 18446744073709551616)) = ((n.natAbs : Nat) : Int) := by
      simp [IntKind.wrap, IntKind.bits, IntKind.signed]
      omega
    rw [e]
    rw [l1Dec_round (j + 1) n j n.natAbs [] (big _ (by omega)) (by omega) (by have := decDigits_len 19 n.natAbs (by omega); simp; omega)]
    simp [hn]
  · rw [if_neg hn, if_neg hn, wrap_u64 (by omega) (by omega)]
    have e : n = ((n.toNat : Nat) : Int) := by omega
    have := l1Dec_round (j + 1) n j n.toNat [] (big _ (by omega)) (by omega) (by have := decDigits_len 19 n.toNat (by omega); simp; omega)
    rw [← e] at this
    rw [this]
    simp [hn]

theorem itoa_len (n : Int) (h0 : -9223372036854775808 ≤ n) (h1 : n ≤ 9223372036854775807) : (itoa n).length ≤ 21 := by
  unfold itoa
  split
  · have := decDigits_len 19 n.natAbs (by omega); simp; omega
  · have := decDigits_len 19 n.toNat (by omega); omega

theorem decimal_is (k : Nat) (n : Int) (h0 : -9223372036854775808 ≤ n) (h1 : n ≤ 9223372036854775807) : impl_decimal k (n, ()) = some ((itoa n, ()), ((), ())) := by
  unfold impl_decimal Lb.FormatInt
  simp [h0, h1]
end Go.Pev.F
