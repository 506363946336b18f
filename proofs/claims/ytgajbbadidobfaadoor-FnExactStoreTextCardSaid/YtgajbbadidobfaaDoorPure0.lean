/-
  Small laws for the printed texts.
-/
import Derived.Test.YtgajbbadidobfaaDoorPevPur
import Derived.Lib.ItoaNum
set_option linter.unusedVariables false
set_option linter.unusedSimpArgs false
namespace Go.Pev

@[simp] theorem br_true {α : Type} (n : Nat) (x y : Option α) : br n true x y = x := by rw [br_eq]; rfl
@[simp] theorem br_false {α : Type} (n : Nat) (x y : Option α) : br n false x y = y := by rw [br_eq]; rfl
@[simp] theorem bd_some {α β : Type} (n : Nat) (a : β) (f : β → Option α) : bd n (some a) f = f a := by rw [bd_eq]; rfl
@[simp] theorem bd_none {α β : Type} (n : Nat) (f : β → Option α) : bd n none f = none := by rw [bd_eq]; rfl

theorem br_dec {α : Type} (n : Nat) (p : Prop) [Decidable p] (x y : Option α) : br n (decide p) x y = if p then x else y := by
  by_cases h : p <;> simp [h]

theorem iter_succ {A R : Type} (b : (A → Option R) → A → Option R) (n : Nat) (x : A) : iter b (n + 1) x = b (iter b n) x := rfl

/-! ### Numbers that fit -/

theorem wrap_i64 {n : Int} (h0 : -9223372036854775808 ≤ n) (h1 : n ≤ 9223372036854775807) : IntKind.wrap .i64 n = n := by
  simp [IntKind.wrap, IntKind.bits, IntKind.signed]
  omega

theorem wrap_u64 {n : Int} (h0 : 0 ≤ n) (h1 : n < 18446744073709551616) : IntKind.wrap .u64 n = n := by
  simp [IntKind.wrap, IntKind.bits, IntKind.signed]
  omega

theorem wrap_u64_neg {n : Int} (h0 : -9223372036854775808 ≤ n) (h1 : n < 0) : IntKind.wrap .u64 n = n + 18446744073709551616 := by
  simp [IntKind.wrap, IntKind.bits, IntKind.signed]
  omega

theorem wrap_u8 {n : Int} (h0 : 0 ≤ n) (h1 : n < 256) : IntKind.wrap .u8 n = n := by
  simp [IntKind.wrap, IntKind.bits, IntKind.signed]
  omega

theorem tdiv10 {n : Int} (h0 : 0 ≤ n) : n.tdiv 10 = n / 10 := Int.tdiv_eq_ediv_of_nonneg h0
theorem tmod10 {n : Int} (h0 : 0 ≤ n) : n.tmod 10 = n % 10 := Int.tmod_eq_emod_of_nonneg h0
end Go.Pev
