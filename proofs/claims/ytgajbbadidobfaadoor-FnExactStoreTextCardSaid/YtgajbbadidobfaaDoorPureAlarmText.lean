/-
  An alarm's text: the program's is the reference's.
-/
import Derived.Test.YtgajbbadidobfaaDoorPureDec
set_option linter.unusedVariables false
set_option linter.unusedSimpArgs false
namespace Go.Pev.F
open Go.Lib (decDigits itoa)

def kindW (n : Int) : List UInt8 := if n = 1 then [100, 105, 118] else if n = 2 then [98, 111, 117, 110, 100, 115] else if n = 4 then [111, 118, 101, 114] else if n = 8 then [97, 115, 115, 101, 114, 116] else []

theorem kindW_len (n : Int) : (kindW n).length ≤ 6 := by
  unfold kindW
  by_cases h1 : n = 1
  · simp [h1]
  by_cases h2 : n = 2
  · simp [h2]
  by_cases h3 : n = 4
  · simp [h3]
  by_cases h4 : n = 8
  · simp [h4]
  · simp [h1, h2, h3, h4]

theorem br_beq {α : Type} (k : Nat) (a b : Int) (x y : Option α) : br k (a == b) x y = if a = b then x else y := by
  by_cases h : a = b
  · simp [h]
  · have : (a == b) = false := by simpa using h
    rw [this, br_false, if_neg h]

theorem l13Kind_is (k : Nat) (n : Int) : spec_l13Kind k (n, ()) = some ((kindW n, ()), ((), ())) := by
  unfold spec_l13Kind kindW
  simp only [br_beq]
  repeat' split
  all_goals rfl

theorem alarmName_is (k : Nat) (n : Int) : impl_alarmName k (n, ()) = some ((kindW n, ()), ((), ())) := by
  unfold impl_alarmName kindW
  simp only [br_beq]
  repeat' split
  all_goals rfl

theorem l1In_is (k : Nat) (a b c : Int) : spec_l1In k (a, b, c, ()) = some ((decide (b ≤ a ∧ a ≤ c), ()), ((), (), (), ())) := by
  unfold spec_l1In
  by_cases h : b ≤ a <;> by_cases h2 : a ≤ c <;> simp [h, h2]

theorem within_is (k : Nat) (a b c : Int) : impl_within k (a, b, c, ()) = some ((decide (b ≤ a ∧ a ≤ c), ()), ((), (), (), ())) := by
  unfold impl_within
  by_cases h : b ≤ a <;> by_cases h2 : a ≤ c <;> simp [h, h2]

def alarmT (a : Int × Int × Unit) : List UInt8 := if (0 ≤ a.1 ∧ a.1 ≤ 29) ∧ kindW a.2.1 ≠ [] then itoa a.1 ++ [32] ++ kindW a.2.1 else []

theorem specAlarmText_is (k : Nat) (hk : 20 ≤ k) (a : Int × Int × Unit) : spec_AlarmText k (a, ()) = some ((alarmT a, ()), ((), ())) := by
  unfold spec_AlarmText alarmT
  simp only [l1In_is, l13Kind_is, bd_some]
  by_cases h : 0 ≤ a.1 ∧ a.1 ≤ 29
  · by_cases hw : kindW a.2.1 = []
    · simp [h, hw]
    · rw [l1Dec_is k hk a.1 (by omega) (by omega)]
      have l1 := itoa_len a.1 (by omega) (by omega)
      have l2 := kindW_len a.2.1
      have e1 : (((itoa a.1).length + ([32] : List UInt8).length : Nat) : Int) ≤ maxInt64 := by simp [maxInt64]; omega
      have e2 : ((((itoa a.1 ++ [32]).length + (kindW a.2.1).length : Nat)) : Int) ≤ maxInt64 := by simp [maxInt64]; omega
      have hb : (kindW a.2.1 == []) = false := by simpa using hw
      simp only [br_dec, h, and_self, decide_true, Bool.not_true, br_false, hb, Option.bind_some, bd_some, e1, e2, if_true, ne_eq, hw, not_false_eq_true]
  · have : decide (0 ≤ a.1 ∧ a.1 ≤ 29) = false := by simpa using h
    simp [this]
    intro h1 h2
    exact absurd ⟨h1, h2⟩ h

theorem implAlarmText_is (k : Nat) (a : Int × Int × Unit) : impl_AlarmText k (a, ()) = some ((alarmT a, ()), ((), ())) := by
  unfold impl_AlarmText alarmT
  simp only [within_is, alarmName_is, bd_some]
  by_cases h : 0 ≤ a.1 ∧ a.1 ≤ 29
  · by_cases hw : kindW a.2.1 = []
    · simp [h, hw]
    · rw [decimal_is k a.1 (by omega) (by omega)]
      have l1 := itoa_len a.1 (by omega) (by omega)
      have l2 := kindW_len a.2.1
      have e1 : (((itoa a.1).length + ([32] : List UInt8).length : Nat) : Int) ≤ maxInt64 := by simp [maxInt64]; omega
      have e2 : ((((itoa a.1 ++ [32]).length + (kindW a.2.1).length : Nat)) : Int) ≤ maxInt64 := by simp [maxInt64]; omega
      have hb : (kindW a.2.1 == []) = false := by simpa using hw
      simp only [br_dec, h, and_self, decide_true, Bool.not_true, br_false, hb, Option.bind_some, bd_some, e1, e2, if_true, ne_eq, hw, not_false_eq_true]
  · have : decide (0 ≤ a.1 ∧ a.1 ≤ 29) = false := by simpa using h
    simp [this]
    intro h1 h2
    exact absurd ⟨h1, h2⟩ h

theorem FnExactAlarmText_true (x : (Int × Int × Unit) × Unit) : ∃ k o, laws_FnExactAlarmText k x = some ((true, ()), o) := by
  obtain ⟨a, ⟨⟩⟩ := x
  refine ⟨20, ((), ()), ?_⟩
  unfold laws_FnExactAlarmText laws_toAlarm
  simp [specAlarmText_is, implAlarmText_is]
end Go.Pev.F
