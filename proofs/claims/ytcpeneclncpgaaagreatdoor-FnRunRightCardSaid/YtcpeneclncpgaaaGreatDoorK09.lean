/-
  Printed by gen.py: what functions of the program compute, and that they do.
-/
import Derived.Test.YtcpeneclncpgaaaGreatDoorK08
set_option linter.unusedSimpArgs false
set_option linter.unusedVariables false
open Go.Proofs Go.Pev
namespace Go.Pev.F
set_option maxRecDepth 100000
set_option linter.unusedVariables false
def impl_machine_step.A : Sh := (.cons QS3 .nil)
def impl_machine_step.R : Sh := QS12
def impl_machine_step.ann : Ann := { loops := [], joins := [(4, [(33, .bool)])], keys := [(1, [([], false), ([0], false), ([0], false), ([0], false), ([0], false), ([], false), ([0], false), ([0], false), ([0], false), ([0], false), ([], false), ([], false), ([3], true), ([3], true)]), (17, [([6], false), ([6], false), ([3], false), ([3], false), ([], false), ([3], false), ([0, 87], true), ([0], false), ([0], true)])], heads := [(7, [(0, QS3), (5, (.pur (.int .i64)))]), (32, [(0, QS3), (3, QS14), (4, (.pur (.int .i64))), (5, (.pur (.int .i64))), (7, (.pur (.int .i64)))]), (15, [(0, QS3), (3, QS14), (4, (.pur (.int .i64))), (7, (.pur (.int .i64)))]), (22, [(0, QS3), (3, QS14), (4, (.pur (.int .i64))), (5, (.pur (.int .i64))), (7, (.pur (.int .i64)))]), (26, [(0, QS3), (3, QS14), (4, (.pur (.int .i64))), (5, (.pur (.int .i64))), (7, (.pur (.int .i64))), (56, (.pur (.int .i64)))])] }
noncomputable def impl_machine_step.h7 (k : Nat)  : (QT4 × Int × Unit) → Option QT47 := fun x => match x with
 | ((m__0, m__1, m__2, m__3, m__4, m__5, m__6, m__7, m__8, m__9, m__10, m__11, m__12, m__13, ()), code, ()) =>
  some ((code, ()), ((m__0, m__1, m__2, m__3, m__4, m__5, m__6, m__7, m__8, m__9, m__10, m__11, m__12, m__13, ()), ()))
noncomputable def impl_machine_step.h32 (k : Nat)  : (QT4 × QT0 × Int × Int × Int × Unit) → Option QT47 := fun x => match x with
 | ((m__0, m__1, m__2, m__3, m__4, m__5, m__6, m__7, m__8, m__9, m__10, m__11, m__12, m__13, ()), (n_0, n_1, n_2, n_3, n_4, n_5, ()), v, code, next_, ()) =>
  br k (code != 0)
  (some ((code, ()), ((m__0, m__1, m__2, m__3, m__4, m__5, m__6, m__7, m__8, m__9, m__10, m__11, m__12, m__13, ()), ())))
  (bd k (impl_machine_mark k ((m__0, m__1, m__2, m__3, m__4, m__5, m__6, m__7, m__8, m__9, m__10, m__11, m__12, m__13, ()), (n_0, n_1, n_2, n_3, n_4, n_5, ()), v, ())) fun y7 =>
  some ((0, ()), ((y7.2.1.1, y7.2.1.2.1, y7.2.1.2.2.1, y7.2.1.2.2.2.1, y7.2.1.2.2.2.2.1, y7.2.1.2.2.2.2.2.1, y7.2.1.2.2.2.2.2.2.1, next_, y7.2.1.2.2.2.2.2.2.2.2.1, y7.2.1.2.2.2.2.2.2.2.2.2.1, y7.2.1.2.2.2.2.2.2.2.2.2.2.1, y7.2.1.2.2.2.2.2.2.2.2.2.2.2.1, y7.2.1.2.2.2.2.2.2.2.2.2.2.2.2.1, y7.2.1.2.2.2.2.2.2.2.2.2.2.2.2.2.1, ()), ())))
noncomputable def impl_machine_step.h15 (k : Nat)  : (QT4 × QT0 × Int × Int × Unit) → Option QT47 := fun x => match x with
 | ((m__0, m__1, m__2, m__3, m__4, m__5, m__6, m__7, m__8, m__9, m__10, m__11, m__12, m__13, ()), (n_0, n_1, n_2, n_3, n_4, n_5, ()), v, next_, ()) =>
  bd k (impl_machine_store k ((m__0, m__1, m__2, m__3, m__4, m__5, m__6, m__7, m__8, m__9, m__10, m__11, m__12, m__13, ()), (n_0, n_1, n_2, n_3, n_4, n_5, ()), ())) fun y9 =>
  jn k (impl_machine_step.h32 k) ((y9.2.1.1, y9.2.1.2.1, y9.2.1.2.2.1, y9.2.1.2.2.2.1, y9.2.1.2.2.2.2.1, y9.2.1.2.2.2.2.2.1, y9.2.1.2.2.2.2.2.2.1, y9.2.1.2.2.2.2.2.2.2.1, y9.2.1.2.2.2.2.2.2.2.2.1, y9.2.1.2.2.2.2.2.2.2.2.2.1, y9.2.1.2.2.2.2.2.2.2.2.2.2.1, y9.2.1.2.2.2.2.2.2.2.2.2.2.2.1, y9.2.1.2.2.2.2.2.2.2.2.2.2.2.2.1, y9.2.1.2.2.2.2.2.2.2.2.2.2.2.2.2.1, ()), (n_0, n_1, n_2, n_3, n_4, n_5, ()), v, y9.1.1, next_, ())
noncomputable def impl_machine_step.h22 (k : Nat)  : (QT4 × QT0 × Int × Int × Int × Unit) → Option QT47 := fun x => match x with
 | ((m__0, m__1, m__2, m__3, m__4, m__5, m__6, m__7, m__8, m__9, m__10, m__11, m__12, m__13, ()), (n_0, n_1, n_2, n_3, n_4, n_5, ()), v, code, next_, ()) =>
  br k (v == 1)
  (jn k (impl_machine_step.h32 k) ((m__0, m__1, m__2, m__3, m__4, m__5, m__6, m__7, m__8, m__9, m__10, m__11, m__12, m__13, ()), (n_0, n_1, n_2, n_3, n_4, n_5, ()), v, code, IntKind.wrap .i64 (m__7 + 1), ()))
  (jn k (impl_machine_step.h32 k) ((m__0, m__1, m__2, m__3, m__4, m__5, m__6, m__7, m__8, m__9, m__10, m__11, m__12, m__13, ()), (n_0, n_1, n_2, n_3, n_4, n_5, ()), v, code, next_, ()))
noncomputable def impl_machine_step.h26 (k : Nat)  : (QT4 × QT0 × Int × Int × Int × Int × Unit) → Option QT47 := fun x => match x with
 | ((m__0, m__1, m__2, m__3, m__4, m__5, m__6, m__7, m__8, m__9, m__10, m__11, m__12, m__13, ()), (n_0, n_1, n_2, n_3, n_4, n_5, ()), v, code, next_, t56, ()) =>
  br k (t56 == 11)
  (br k (v == 0)
  (jn k (impl_machine_step.h32 k) ((m__0, m__1, m__2, m__3, m__4, m__5, m__6, m__7, m__8, m__9, m__10, m__11, m__12, m__13, ()), (n_0, n_1, n_2, n_3, n_4, n_5, ()), v, 7, next_, ()))
  (jn k (impl_machine_step.h32 k) ((m__0, m__1, m__2, m__3, m__4, m__5, m__6, m__7, m__8, m__9, m__10, m__11, m__12, m__13, ()), (n_0, n_1, n_2, n_3, n_4, n_5, ()), v, code, next_, ())))
  (br k (t56 == 12)
  (br k (v == 0)
  (jn k (impl_machine_step.h32 k) ((m__0, m__1, m__2, m__3, m__4, m__5, m__6, m__7, m__8, m__9, m__10, m__11, m__12, m__13, ()), (n_0, n_1, n_2, n_3, n_4, n_5, ()), v, 3, next_, ()))
  (jn k (impl_machine_step.h32 k) ((m__0, m__1, m__2, m__3, m__4, m__5, m__6, m__7, m__8, m__9, m__10, m__11, m__12, m__13, ()), (n_0, n_1, n_2, n_3, n_4, n_5, ()), v, code, next_, ())))
  (jn k (impl_machine_step.h32 k) ((m__0, m__1, m__2, m__3, m__4, m__5, m__6, m__7, m__8, m__9, m__10, m__11, m__12, m__13, ()), (n_0, n_1, n_2, n_3, n_4, n_5, ()), v, code, next_, ())))
noncomputable def impl_machine_step (k : Nat) : (QT4 × Unit) → Option QT47 := fun x => match x with
 | ((m__0, m__1, m__2, m__3, m__4, m__5, m__6, m__7, m__8, m__9, m__10, m__11, m__12, m__13, ()), ()) =>
  br k (decide (0 ≤ m__7))
  (bd k (m__3[m__7.toNat]?) fun x1 =>
  (bd k (impl_kindOfE k (x1.1, ())) fun y2 =>
  br k (decide (y2.1.1 > 0))
  (some (x1.1 != 3, ()))
  (some (false, ())) : Option (Bool × Unit)).bind fun j3 =>
  br k (j3.1)
  (bd k (impl_Store_eval k ((m__8, m__9, m__10, ()), x1.2.2.2.1, ())) fun y4 =>
  br k (y4.1.2.1 != 0)
  (jn k (impl_machine_step.h7 k) ((m__0, m__1, m__2, m__3, m__4, m__5, m__6, m__7, m__8, m__9, m__10, m__11, m__12, m__13, ()), y4.1.2.1, ()))
  (br k (decide (0 ≤ m__7 ∧ m__7 < (m__4.length : Int)))
  (bd k (m__4[m__7.toNat]?) fun x5 =>
  br k (x1.1 == 1)
  (br k (decide (0 ≤ x1.2.1 ∧ x1.2.1 < (m__8.length : Int)))
  (bd k (m__8[x1.2.1.toNat]?) fun x6 =>
  jn k (impl_machine_step.h32 k) ((m__0, m__1, m__2, m__3, m__4, m__5, m__6, m__7, m__8.set x1.2.1.toNat y4.1.1, m__9, m__10, m__11, m__12, m__13, ()), (x1.1, x1.2.1, x1.2.2.1, x1.2.2.2.1, x1.2.2.2.2.1, x1.2.2.2.2.2.1, ()), y4.1.1, y4.1.2.1, x5, ()))
  none)
  (br k (x1.1 == 2)
  (br k (decide (0 ≤ x1.2.1 ∧ x1.2.1 < (m__9.length : Int)))
  (bd k (m__9[x1.2.1.toNat]?) fun x8 =>
  jn k (impl_machine_step.h32 k) ((m__0, m__1, m__2, m__3, m__4, m__5, m__6, m__7, m__8, m__9.set x1.2.1.toNat (y4.1.1 == 1), m__10, m__11, m__12, m__13, ()), (x1.1, x1.2.1, x1.2.2.1, x1.2.2.2.1, x1.2.2.2.2.1, x1.2.2.2.2.2.1, ()), y4.1.1, y4.1.2.1, x5, ()))
  none)
  (br k (x1.1 == 3)
  (jn k (impl_machine_step.h15 k) ((m__0, m__1, m__2, m__3, m__4, m__5, m__6, m__7, m__8, m__9, m__10, m__11, m__12, m__13, ()), (x1.1, x1.2.1, x1.2.2.1, x1.2.2.2.1, x1.2.2.2.2.1, x1.2.2.2.2.2.1, ()), y4.1.1, x5, ()))
  (br k (x1.1 == 4)
  (bd k (impl_size_int64 k (m__5, ())) fun y10 =>
  br k (m__12 == y10.1.1)
  (br k (decide (0 ≤ x1.2.1 ∧ x1.2.1 < (m__8.length : Int)))
  (bd k (m__8[x1.2.1.toNat]?) fun x11 =>
  jn k (impl_machine_step.h32 k) ((m__0, m__1, m__2, m__3, m__4, m__5, m__6, m__7, m__8.set x1.2.1.toNat x1.2.2.2.2.1, m__9, m__10, m__11, m__12, m__13, ()), (x1.1, x1.2.1, x1.2.2.1, x1.2.2.2.1, x1.2.2.2.2.1, x1.2.2.2.2.2.1, ()), y4.1.1, y4.1.2.1, x5, ()))
  none)
  (br k (decide (0 ≤ m__12))
  (bd k (m__5[m__12.toNat]?) fun x12 =>
  br k (!decide ((IntKind.wrap .i64 ((IntKind.wrap .i64 (x1.2.2.2.2.2.1 - x1.2.2.2.2.1)) + 1)) = 0))
  (br k (decide ((x12.tmod (IntKind.wrap .i64 ((IntKind.wrap .i64 (x1.2.2.2.2.2.1 - x1.2.2.2.2.1)) + 1))) < 0))
  (br k (decide (0 ≤ x1.2.1 ∧ x1.2.1 < (m__8.length : Int)))
  (bd k (m__8[x1.2.1.toNat]?) fun x13 =>
  jn k (impl_machine_step.h32 k) ((m__0, m__1, m__2, m__3, m__4, m__5, m__6, m__7, m__8.set x1.2.1.toNat (IntKind.wrap .i64 (x1.2.2.2.2.1 + (IntKind.wrap .i64 ((x12.tmod (IntKind.wrap .i64 ((IntKind.wrap .i64 (x1.2.2.2.2.2.1 - x1.2.2.2.2.1)) + 1))) + (IntKind.wrap .i64 ((IntKind.wrap .i64 (x1.2.2.2.2.2.1 - x1.2.2.2.2.1)) + 1)))))), m__9, m__10, m__11, IntKind.wrap .i64 (m__12 + 1), m__13, ()), (x1.1, x1.2.1, x1.2.2.1, x1.2.2.2.1, x1.2.2.2.2.1, x1.2.2.2.2.2.1, ()), y4.1.1, y4.1.2.1, x5, ()))
  none)
  (br k (decide (0 ≤ x1.2.1 ∧ x1.2.1 < (m__8.length : Int)))
  (bd k (m__8[x1.2.1.toNat]?) fun x14 =>
  jn k (impl_machine_step.h32 k) ((m__0, m__1, m__2, m__3, m__4, m__5, m__6, m__7, m__8.set x1.2.1.toNat (IntKind.wrap .i64 (x1.2.2.2.2.1 + (x12.tmod (IntKind.wrap .i64 ((IntKind.wrap .i64 (x1.2.2.2.2.2.1 - x1.2.2.2.2.1)) + 1))))), m__9, m__10, m__11, IntKind.wrap .i64 (m__12 + 1), m__13, ()), (x1.1, x1.2.1, x1.2.2.1, x1.2.2.2.1, x1.2.2.2.2.1, x1.2.2.2.2.2.1, ()), y4.1.1, y4.1.2.1, x5, ()))
  none))
  none)
  none))
  (br k (x1.1 == 5)
  (br k (x1.1 == 5)
  (jn k (impl_machine_step.h22 k) ((m__0, m__1, m__2, m__3, m__4, m__5, m__6, m__7, m__8, m__9, m__10, m__11, m__12, m__13, ()), (x1.1, x1.2.1, x1.2.2.1, x1.2.2.2.1, x1.2.2.2.2.1, x1.2.2.2.2.2.1, ()), y4.1.1, y4.1.2.1, x5, ()))
  (br k (x1.1 == 13)
  (br k (decide (0 ≤ x1.2.1 ∧ x1.2.1 < (m__8.length : Int)))
  (bd k (m__8[x1.2.1.toNat]?) fun x15 =>
  jn k (impl_machine_step.h32 k) ((m__0, m__1, m__2, m__3, m__4, m__5, m__6, m__7, m__8, m__9, m__10, m__11, m__12, m__13, ()), (x1.1, x1.2.1, x1.2.2.1, x1.2.2.2.1, x1.2.2.2.2.1, x1.2.2.2.2.2.1, ()), x15, y4.1.2.1, x5, ()))
  none)
  (jn k (impl_machine_step.h26 k) ((m__0, m__1, m__2, m__3, m__4, m__5, m__6, m__7, m__8, m__9, m__10, m__11, m__12, m__13, ()), (x1.1, x1.2.1, x1.2.2.1, x1.2.2.2.1, x1.2.2.2.2.1, x1.2.2.2.2.2.1, ()), y4.1.1, y4.1.2.1, x5, x1.1, ()))))
  (br k (x1.1 == 6)
  (br k (x1.1 == 6)
  (jn k (impl_machine_step.h22 k) ((m__0, m__1, m__2, m__3, m__4, m__5, m__6, m__7, m__8, m__9, m__10, m__11, m__12, m__13, ()), (x1.1, x1.2.1, x1.2.2.1, x1.2.2.2.1, x1.2.2.2.2.1, x1.2.2.2.2.2.1, ()), y4.1.1, y4.1.2.1, x5, ()))
  (br k (x1.1 == 13)
  (br k (decide (0 ≤ x1.2.1 ∧ x1.2.1 < (m__8.length : Int)))
  (bd k (m__8[x1.2.1.toNat]?) fun x16 =>
  jn k (impl_machine_step.h32 k) ((m__0, m__1, m__2, m__3, m__4, m__5, m__6, m__7, m__8, m__9, m__10, m__11, m__12, m__13, ()), (x1.1, x1.2.1, x1.2.2.1, x1.2.2.2.1, x1.2.2.2.2.1, x1.2.2.2.2.2.1, ()), x16, y4.1.2.1, x5, ()))
  none)
  (jn k (impl_machine_step.h26 k) ((m__0, m__1, m__2, m__3, m__4, m__5, m__6, m__7, m__8, m__9, m__10, m__11, m__12, m__13, ()), (x1.1, x1.2.1, x1.2.2.1, x1.2.2.2.1, x1.2.2.2.2.1, x1.2.2.2.2.2.1, ()), y4.1.1, y4.1.2.1, x5, x1.1, ()))))
  (br k (x1.1 == 9)
  (br k (x1.1 == 9)
  (jn k (impl_machine_step.h22 k) ((m__0, m__1, m__2, m__3, m__4, m__5, m__6, m__7, m__8, m__9, m__10, m__11, m__12, m__13, ()), (x1.1, x1.2.1, x1.2.2.1, x1.2.2.2.1, x1.2.2.2.2.1, x1.2.2.2.2.2.1, ()), y4.1.1, y4.1.2.1, x5, ()))
  (br k (x1.1 == 13)
  (br k (decide (0 ≤ x1.2.1 ∧ x1.2.1 < (m__8.length : Int)))
  (bd k (m__8[x1.2.1.toNat]?) fun x17 =>
  jn k (impl_machine_step.h32 k) ((m__0, m__1, m__2, m__3, m__4, m__5, m__6, m__7, m__8, m__9, m__10, m__11, m__12, m__13, ()), (x1.1, x1.2.1, x1.2.2.1, x1.2.2.2.1, x1.2.2.2.2.1, x1.2.2.2.2.2.1, ()), x17, y4.1.2.1, x5, ()))
  none)
  (jn k (impl_machine_step.h26 k) ((m__0, m__1, m__2, m__3, m__4, m__5, m__6, m__7, m__8, m__9, m__10, m__11, m__12, m__13, ()), (x1.1, x1.2.1, x1.2.2.1, x1.2.2.2.1, x1.2.2.2.2.1, x1.2.2.2.2.2.1, ()), y4.1.1, y4.1.2.1, x5, x1.1, ()))))
  (br k (x1.1 == 10)
  (jn k (impl_machine_step.h22 k) ((m__0, m__1, m__2, m__3, m__4, m__5, m__6, m__7, m__8, m__9, m__10, m__11, m__12, m__13, ()), (x1.1, x1.2.1, x1.2.2.1, x1.2.2.2.1, x1.2.2.2.2.1, x1.2.2.2.2.2.1, ()), y4.1.1, y4.1.2.1, x5, ()))
  (br k (x1.1 == 13)
  (br k (decide (0 ≤ x1.2.1 ∧ x1.2.1 < (m__8.length : Int)))
  (bd k (m__8[x1.2.1.toNat]?) fun x18 =>
  jn k (impl_machine_step.h32 k) ((m__0, m__1, m__2, m__3, m__4, m__5, m__6, m__7, m__8, m__9, m__10, m__11, m__12, m__13, ()), (x1.1, x1.2.1, x1.2.2.1, x1.2.2.2.1, x1.2.2.2.2.1, x1.2.2.2.2.2.1, ()), x18, y4.1.2.1, x5, ()))
  none)
  (jn k (impl_machine_step.h26 k) ((m__0, m__1, m__2, m__3, m__4, m__5, m__6, m__7, m__8, m__9, m__10, m__11, m__12, m__13, ()), (x1.1, x1.2.1, x1.2.2.1, x1.2.2.2.1, x1.2.2.2.2.1, x1.2.2.2.2.2.1, ()), y4.1.1, y4.1.2.1, x5, x1.1, ())))))))))))
  none))
  (br k ((0 : Int) != 0)
  (jn k (impl_machine_step.h7 k) ((m__0, m__1, m__2, m__3, m__4, m__5, m__6, m__7, m__8, m__9, m__10, m__11, m__12, m__13, ()), 0, ()))
  (br k (decide (0 ≤ m__7 ∧ m__7 < (m__4.length : Int)))
  (bd k (m__4[m__7.toNat]?) fun x19 =>
  br k (x1.1 == 1)
  (br k (decide (0 ≤ x1.2.1 ∧ x1.2.1 < (m__8.length : Int)))
  (bd k (m__8[x1.2.1.toNat]?) fun x20 =>
  jn k (impl_machine_step.h32 k) ((m__0, m__1, m__2, m__3, m__4, m__5, m__6, m__7, m__8.set x1.2.1.toNat 0, m__9, m__10, m__11, m__12, m__13, ()), (x1.1, x1.2.1, x1.2.2.1, x1.2.2.2.1, x1.2.2.2.2.1, x1.2.2.2.2.2.1, ()), 0, 0, x19, ()))
  none)
  (br k (x1.1 == 2)
  (br k (decide (0 ≤ x1.2.1 ∧ x1.2.1 < (m__9.length : Int)))
  (bd k (m__9[x1.2.1.toNat]?) fun x21 =>
  jn k (impl_machine_step.h32 k) ((m__0, m__1, m__2, m__3, m__4, m__5, m__6, m__7, m__8, m__9.set x1.2.1.toNat ((0 : Int) == 1), m__10, m__11, m__12, m__13, ()), (x1.1, x1.2.1, x1.2.2.1, x1.2.2.2.1, x1.2.2.2.2.1, x1.2.2.2.2.2.1, ()), 0, 0, x19, ()))
  none)
  (br k (x1.1 == 3)
  (jn k (impl_machine_step.h15 k) ((m__0, m__1, m__2, m__3, m__4, m__5, m__6, m__7, m__8, m__9, m__10, m__11, m__12, m__13, ()), (x1.1, x1.2.1, x1.2.2.1, x1.2.2.2.1, x1.2.2.2.2.1, x1.2.2.2.2.2.1, ()), 0, x19, ()))
  (br k (x1.1 == 4)
  (bd k (impl_size_int64 k (m__5, ())) fun y22 =>
  br k (m__12 == y22.1.1)
  (br k (decide (0 ≤ x1.2.1 ∧ x1.2.1 < (m__8.length : Int)))
  (bd k (m__8[x1.2.1.toNat]?) fun x23 =>
  jn k (impl_machine_step.h32 k) ((m__0, m__1, m__2, m__3, m__4, m__5, m__6, m__7, m__8.set x1.2.1.toNat x1.2.2.2.2.1, m__9, m__10, m__11, m__12, m__13, ()), (x1.1, x1.2.1, x1.2.2.1, x1.2.2.2.1, x1.2.2.2.2.1, x1.2.2.2.2.2.1, ()), 0, 0, x19, ()))
  none)
  (br k (decide (0 ≤ m__12))
  (bd k (m__5[m__12.toNat]?) fun x24 =>
  br k (!decide ((IntKind.wrap .i64 ((IntKind.wrap .i64 (x1.2.2.2.2.2.1 - x1.2.2.2.2.1)) + 1)) = 0))
  (br k (decide ((x24.tmod (IntKind.wrap .i64 ((IntKind.wrap .i64 (x1.2.2.2.2.2.1 - x1.2.2.2.2.1)) + 1))) < 0))
  (br k (decide (0 ≤ x1.2.1 ∧ x1.2.1 < (m__8.length : Int)))
  (bd k (m__8[x1.2.1.toNat]?) fun x25 =>
  jn k (impl_machine_step.h32 k) ((m__0, m__1, m__2, m__3, m__4, m__5, m__6, m__7, m__8.set x1.2.1.toNat (IntKind.wrap .i64 (x1.2.2.2.2.1 + (IntKind.wrap .i64 ((x24.tmod (IntKind.wrap .i64 ((IntKind.wrap .i64 (x1.2.2.2.2.2.1 - x1.2.2.2.2.1)) + 1))) + (IntKind.wrap .i64 ((IntKind.wrap .i64 (x1.2.2.2.2.2.1 - x1.2.2.2.2.1)) + 1)))))), m__9, m__10, m__11, IntKind.wrap .i64 (m__12 + 1), m__13, ()), (x1.1, x1.2.1, x1.2.2.1, x1.2.2.2.1, x1.2.2.2.2.1, x1.2.2.2.2.2.1, ()), 0, 0, x19, ()))
  none)
  (br k (decide (0 ≤ x1.2.1 ∧ x1.2.1 < (m__8.length : Int)))
  (bd k (m__8[x1.2.1.toNat]?) fun x26 =>
  jn k (impl_machine_step.h32 k) ((m__0, m__1, m__2, m__3, m__4, m__5, m__6, m__7, m__8.set x1.2.1.toNat (IntKind.wrap .i64 (x1.2.2.2.2.1 + (x24.tmod (IntKind.wrap .i64 ((IntKind.wrap .i64 (x1.2.2.2.2.2.1 - x1.2.2.2.2.1)) + 1))))), m__9, m__10, m__11, IntKind.wrap .i64 (m__12 + 1), m__13, ()), (x1.1, x1.2.1, x1.2.2.1, x1.2.2.2.1, x1.2.2.2.2.1, x1.2.2.2.2.2.1, ()), 0, 0, x19, ()))
  none))
  none)
  none))
  (br k (x1.1 == 5)
  (br k (x1.1 == 5)
  (jn k (impl_machine_step.h22 k) ((m__0, m__1, m__2, m__3, m__4, m__5, m__6, m__7, m__8, m__9, m__10, m__11, m__12, m__13, ()), (x1.1, x1.2.1, x1.2.2.1, x1.2.2.2.1, x1.2.2.2.2.1, x1.2.2.2.2.2.1, ()), 0, 0, x19, ()))
  (br k (x1.1 == 13)
  (br k (decide (0 ≤ x1.2.1 ∧ x1.2.1 < (m__8.length : Int)))
  (bd k (m__8[x1.2.1.toNat]?) fun x27 =>
  jn k (impl_machine_step.h32 k) ((m__0, m__1, m__2, m__3, m__4, m__5, m__6, m__7, m__8, m__9, m__10, m__11, m__12, m__13, ()), (x1.1, x1.2.1, x1.2.2.1, x1.2.2.2.1, x1.2.2.2.2.1, x1.2.2.2.2.2.1, ()), x27, 0, x19, ()))
  none)
  (jn k (impl_machine_step.h26 k) ((m__0, m__1, m__2, m__3, m__4, m__5, m__6, m__7, m__8, m__9, m__10, m__11, m__12, m__13, ()), (x1.1, x1.2.1, x1.2.2.1, x1.2.2.2.1, x1.2.2.2.2.1, x1.2.2.2.2.2.1, ()), 0, 0, x19, x1.1, ()))))
  (br k (x1.1 == 6)
  (br k (x1.1 == 6)
  (jn k (impl_machine_step.h22 k) ((m__0, m__1, m__2, m__3, m__4, m__5, m__6, m__7, m__8, m__9, m__10, m__11, m__12, m__13, ()), (x1.1, x1.2.1, x1.2.2.1, x1.2.2.2.1, x1.2.2.2.2.1, x1.2.2.2.2.2.1, ()), 0, 0, x19, ()))
  (br k (x1.1 == 13)
  (br k (decide (0 ≤ x1.2.1 ∧ x1.2.1 < (m__8.length : Int)))
  (bd k (m__8[x1.2.1.toNat]?) fun x28 =>
  jn k (impl_machine_step.h32 k) ((m__0, m__1, m__2, m__3, m__4, m__5, m__6, m__7, m__8, m__9, m__10, m__11, m__12, m__13, ()), (x1.1, x1.2.1, x1.2.2.1, x1.2.2.2.1, x1.2.2.2.2.1, x1.2.2.2.2.2.1, ()), x28, 0, x19, ()))
  none)
  (jn k (impl_machine_step.h26 k) ((m__0, m__1, m__2, m__3, m__4, m__5, m__6, m__7, m__8, m__9, m__10, m__11, m__12, m__13, ()), (x1.1, x1.2.1, x1.2.2.1, x1.2.2.2.1, x1.2.2.2.2.1, x1.2.2.2.2.2.1, ()), 0, 0, x19, x1.1, ()))))
  (br k (x1.1 == 9)
  (br k (x1.1 == 9)
  (jn k (impl_machine_step.h22 k) ((m__0, m__1, m__2, m__3, m__4, m__5, m__6, m__7, m__8, m__9, m__10, m__11, m__12, m__13, ()), (x1.1, x1.2.1, x1.2.2.1, x1.2.2.2.1, x1.2.2.2.2.1, x1.2.2.2.2.2.1, ()), 0, 0, x19, ()))
  (br k (x1.1 == 13)
  (br k (decide (0 ≤ x1.2.1 ∧ x1.2.1 < (m__8.length : Int)))
  (bd k (m__8[x1.2.1.toNat]?) fun x29 =>
  jn k (impl_machine_step.h32 k) ((m__0, m__1, m__2, m__3, m__4, m__5, m__6, m__7, m__8, m__9, m__10, m__11, m__12, m__13, ()), (x1.1, x1.2.1, x1.2.2.1, x1.2.2.2.1, x1.2.2.2.2.1, x1.2.2.2.2.2.1, ()), x29, 0, x19, ()))
  none)
  (jn k (impl_machine_step.h26 k) ((m__0, m__1, m__2, m__3, m__4, m__5, m__6, m__7, m__8, m__9, m__10, m__11, m__12, m__13, ()), (x1.1, x1.2.1, x1.2.2.1, x1.2.2.2.1, x1.2.2.2.2.1, x1.2.2.2.2.2.1, ()), 0, 0, x19, x1.1, ()))))
  (br k (x1.1 == 10)
  (jn k (impl_machine_step.h22 k) ((m__0, m__1, m__2, m__3, m__4, m__5, m__6, m__7, m__8, m__9, m__10, m__11, m__12, m__13, ()), (x1.1, x1.2.1, x1.2.2.1, x1.2.2.2.1, x1.2.2.2.2.1, x1.2.2.2.2.2.1, ()), 0, 0, x19, ()))
  (br k (x1.1 == 13)
  (br k (decide (0 ≤ x1.2.1 ∧ x1.2.1 < (m__8.length : Int)))
  (bd k (m__8[x1.2.1.toNat]?) fun x30 =>
  jn k (impl_machine_step.h32 k) ((m__0, m__1, m__2, m__3, m__4, m__5, m__6, m__7, m__8, m__9, m__10, m__11, m__12, m__13, ()), (x1.1, x1.2.1, x1.2.2.1, x1.2.2.2.1, x1.2.2.2.2.1, x1.2.2.2.2.2.1, ()), x30, 0, x19, ()))
  none)
  (jn k (impl_machine_step.h26 k) ((m__0, m__1, m__2, m__3, m__4, m__5, m__6, m__7, m__8, m__9, m__10, m__11, m__12, m__13, ()), (x1.1, x1.2.1, x1.2.2.1, x1.2.2.2.1, x1.2.2.2.2.1, x1.2.2.2.2.2.1, ()), 0, 0, x19, x1.1, ())))))))))))
  none)))
  none
noncomputable def impl_machine_step.sg (k : Nat) : Sig := ⟨impl_machine_step.A, impl_machine_step.R, impl_machine_step k⟩
noncomputable def impl_machine_step.C (k : Nat) : Ctx := ⟨Tryz.prog, [(63, [impl_kindOfE.sg k]), (64, [impl_Store_eval.sg k]), (67, [impl_machine_mark.sg k]), (65, [impl_machine_store.sg k]), (57, [impl_size_int64.sg k])], k, [], [66]⟩
theorem impl_machine_step.ev (k : Nat) (x : impl_machine_step.A.T) : evFunc (impl_machine_step.C k) impl_machine_step.ann Tryz.f43 impl_machine_step.A impl_machine_step.R x = impl_machine_step k x := by kernel_rfl
theorem impl_machine_step.ok {L : List (Nat × Obj)}  (k : Nat) : SigHolds Tryz.prog L 43 (impl_machine_step.sg k) :=
  sig_of_ev (C := impl_machine_step.C k) (holds_cons (allok_cons (impl_kindOfE.ok k) allok_nil) (holds_cons (allok_cons (impl_Store_eval.ok k) allok_nil) (holds_cons (allok_cons (impl_machine_mark.ok k) allok_nil) (holds_cons (allok_cons (impl_machine_store.ok k) allok_nil) (holds_cons (allok_cons (impl_size_int64.ok k) allok_nil) holds_nil))))) (by kernel_rfl) Tryz.func43 (by kernel_rfl) _ _ _ (fun x y h => (impl_machine_step.ev k x).trans h) (by kernel_rfl)
def impl_machine_run.A : Sh := (.cons QS3 (.cons (.pur (.int .i64)) (.cons (.fn (.func 23) 0 .nil) .nil)))
def impl_machine_run.R : Sh := .nil
def impl_machine_run.ann : Ann := { loops := [(0, [(0, QS3), (1, (.pur (.int .i64))), (2, (.fn (.func 23) 0 .nil))])], joins := [], keys := [] }
noncomputable def impl_machine_run.l0 (k : Nat)  (G0 : (QT4 × Int × (Unit) × Unit) → Option ((Unit) × (QT4 × Unit × (Unit) × Unit))) : (QT4 × Int × (Unit) × Unit) → Option ((Unit) × (QT4 × Unit × (Unit) × Unit)) := fun x => match x with
 | ((m__0, m__1, m__2, m__3, m__4, m__5, m__6, m__7, m__8, m__9, m__10, m__11, m__12, m__13, ()), fuel, (()), ()) =>
  bd k (impl_size_impl_Line k (m__3, ())) fun y1 =>
  br k (decide (m__7 < y1.1.1))
  (bd k (impl_Run_1 k (())) fun y2 =>
  br k (m__11 == fuel)
  (some ((()), ((m__0, m__1, m__2, m__3, m__4, m__5, 2, m__7, m__8, m__9, m__10, m__11, m__12, m__13, ()), (), (()), ())))
  (bd k (impl_machine_step k ((m__0, m__1, m__2, m__3, m__4, m__5, m__6, m__7, m__8, m__9, m__10, IntKind.wrap .i64 (m__11 + 1), m__12, m__13, ()), ())) fun y3 =>
  br k (y3.1.1 != 0)
  (some ((()), ((y3.2.1.1, y3.2.1.2.1, y3.2.1.2.2.1, y3.2.1.2.2.2.1, y3.2.1.2.2.2.2.1, y3.2.1.2.2.2.2.2.1, y3.1.1, y3.2.1.2.2.2.2.2.2.2.1, y3.2.1.2.2.2.2.2.2.2.2.1, y3.2.1.2.2.2.2.2.2.2.2.2.1, y3.2.1.2.2.2.2.2.2.2.2.2.2.1, y3.2.1.2.2.2.2.2.2.2.2.2.2.2.1, y3.2.1.2.2.2.2.2.2.2.2.2.2.2.2.1, y3.2.1.2.2.2.2.2.2.2.2.2.2.2.2.2.1, ()), (), (()), ())))
  (G0 ((y3.2.1.1, y3.2.1.2.1, y3.2.1.2.2.1, y3.2.1.2.2.2.1, y3.2.1.2.2.2.2.1, y3.2.1.2.2.2.2.2.1, y3.1.1, y3.2.1.2.2.2.2.2.2.2.1, y3.2.1.2.2.2.2.2.2.2.2.1, y3.2.1.2.2.2.2.2.2.2.2.2.1, y3.2.1.2.2.2.2.2.2.2.2.2.2.1, y3.2.1.2.2.2.2.2.2.2.2.2.2.2.1, y3.2.1.2.2.2.2.2.2.2.2.2.2.2.2.1, y3.2.1.2.2.2.2.2.2.2.2.2.2.2.2.2.1, ()), fuel, (()), ()))))
  (bd k (impl_Run_1 k (())) fun y4 =>
  some ((()), ((m__0, m__1, m__2, m__3, m__4, m__5, m__6, m__7, m__8, m__9, m__10, m__11, m__12, m__13, ()), (), (()), ())))
noncomputable def impl_machine_run (k : Nat) : (QT4 × Int × (Unit) × Unit) → Option ((Unit) × (QT4 × Unit × (Unit) × Unit)) := fun x => match x with
 | ((m__0, m__1, m__2, m__3, m__4, m__5, m__6, m__7, m__8, m__9, m__10, m__11, m__12, m__13, ()), fuel, (()), ()) =>
  iter (impl_machine_run.l0 k) k ((m__0, m__1, m__2, m__3, m__4, m__5, m__6, m__7, m__8, m__9, m__10, m__11, m__12, m__13, ()), fuel, (()), ())
noncomputable def impl_machine_run.sg (k : Nat) : Sig := ⟨impl_machine_run.A, impl_machine_run.R, impl_machine_run k⟩
noncomputable def impl_machine_run.C (k : Nat) : Ctx := ⟨Tryz.prog, [(42, [impl_size_impl_Line.sg k]), (23, [impl_Run_1.sg k]), (43, [impl_machine_step.sg k])], k, [], []⟩
theorem impl_machine_run.ev (k : Nat) (x : impl_machine_run.A.T) : evFunc (impl_machine_run.C k) impl_machine_run.ann Tryz.f22 impl_machine_run.A impl_machine_run.R x = impl_machine_run k x := by kernel_rfl
theorem impl_machine_run.ok {L : List (Nat × Obj)}  (k : Nat) : SigHolds Tryz.prog L 22 (impl_machine_run.sg k) :=
  sig_of_ev (C := impl_machine_run.C k) (holds_cons (allok_cons (impl_size_impl_Line.ok k) allok_nil) (holds_cons (allok_cons (impl_Run_1.ok k) allok_nil) (holds_cons (allok_cons (impl_machine_step.ok k) allok_nil) holds_nil))) (by kernel_rfl) Tryz.func22 (by kernel_rfl) _ _ _ (fun x y h => (impl_machine_run.ev k x).trans h) (by kernel_rfl)
def impl_Run.A : Sh := (.cons QS23 (.cons QS32 QS12))
def impl_Run.R : Sh := (.cons (.agg (.cons (.pur (.int .i64)) (.cons (.pur (.int .i64)) (.cons (.own (.int .i64)) (.cons (.own .bool) (.cons (.rows (.own (.int .i64))) QS5)))))) .nil)
def impl_Run.ann : Ann := { loops := [], joins := [], keys := [] }
noncomputable def impl_Run (k : Nat) : QT52 → Option ((QT27 × Unit) × QT35) := fun x => match x with
 | (p, inputs, fuel, ()) =>
  bd k (impl_isFuel k (p, inputs, fuel, ())) fun y1 =>
  br k (!y1.1.1)
  (some (((1, 0, [], [], ([] : List (List Int)), 0, 0, ()), ()), ((), (), (), ())))
  (bd k (impl_newMachine k (p, inputs, ())) fun y2 =>
  bd k (impl_machine_run k ((y2.1.1.1, y2.1.1.2.1, y2.1.1.2.2.1, y2.1.1.2.2.2.1, y2.1.1.2.2.2.2.1, y2.1.1.2.2.2.2.2.1, y2.1.1.2.2.2.2.2.2.1, y2.1.1.2.2.2.2.2.2.2.1, y2.1.1.2.2.2.2.2.2.2.2.1, y2.1.1.2.2.2.2.2.2.2.2.2.1, y2.1.1.2.2.2.2.2.2.2.2.2.2.1, y2.1.1.2.2.2.2.2.2.2.2.2.2.2.1, y2.1.1.2.2.2.2.2.2.2.2.2.2.2.2.1, y2.1.1.2.2.2.2.2.2.2.2.2.2.2.2.2.1, ()), fuel, (()), ())) fun y3 =>
  some (((y3.2.1.2.2.2.2.2.2.1, y3.2.1.2.2.2.2.2.2.2.1, y3.2.1.2.2.2.2.2.2.2.2.1, y3.2.1.2.2.2.2.2.2.2.2.2.1, y3.2.1.2.2.2.2.2.2.2.2.2.2.1, y3.2.1.2.2.2.2.2.2.2.2.2.2.2.1, y3.2.1.2.2.2.2.2.2.2.2.2.2.2.2.1, ()), ()), ((), (), (), ())))
noncomputable def impl_Run.sg (k : Nat) : Sig := ⟨impl_Run.A, impl_Run.R, impl_Run k⟩
noncomputable def impl_Run.C (k : Nat) : Ctx := ⟨Tryz.prog, [(20, [impl_isFuel.sg k]), (21, [impl_newMachine.sg k]), (22, [impl_machine_run.sg k])], k, [], []⟩
theorem impl_Run.ev (k : Nat) (x : impl_Run.A.T) : evFunc (impl_Run.C k) impl_Run.ann Tryz.f8 impl_Run.A impl_Run.R x = impl_Run k x := by kernel_rfl
theorem impl_Run.ok {L : List (Nat × Obj)} (hSp : Lb.NeedSp L) (k : Nat) : SigHolds Tryz.prog L 8 (impl_Run.sg k) :=
  sig_of_ev (C := impl_Run.C k) (holds_cons (allok_cons (impl_isFuel.ok hSp k) allok_nil) (holds_cons (allok_cons (impl_newMachine.ok k) allok_nil) (holds_cons (allok_cons (impl_machine_run.ok k) allok_nil) holds_nil))) (by kernel_rfl) Tryz.func8 (by kernel_rfl) _ _ _ (fun x y h => (impl_Run.ev k x).trans h) (by kernel_rfl)
def spec_l1In.A : Sh := QS49
def spec_l1In.R : Sh := QS19
def spec_l1In.ann : Ann := { loops := [], joins := [(1, [(6, .bool)])], keys := [] }
noncomputable def spec_l1In (k : Nat) : QT56 → Option ((Bool × Unit) × QT35) := fun x => match x with
 | (n, low, high, ()) =>
  (br k (decide (n ≥ low))
  (some (decide (n ≤ high), ()))
  (some (false, ())) : Option (Bool × Unit)).bind fun j1 =>
  some ((j1.1, ()), ((), (), (), ()))
noncomputable def spec_l1In.sg (k : Nat) : Sig := ⟨spec_l1In.A, spec_l1In.R, spec_l1In k⟩
noncomputable def spec_l1In.C (k : Nat) : Ctx := ⟨Tryz.prog, [], k, [], []⟩
theorem spec_l1In.ev (k : Nat) (x : spec_l1In.A.T) : evFunc (spec_l1In.C k) spec_l1In.ann Tryz.f45 spec_l1In.A spec_l1In.R x = spec_l1In k x := by kernel_rfl
theorem spec_l1In.ok {L : List (Nat × Obj)}  (k : Nat) : SigHolds Tryz.prog L 45 (spec_l1In.sg k) :=
  sig_of_ev (C := spec_l1In.C k) holds_nil (by kernel_rfl) Tryz.func45 (by kernel_rfl) _ _ _ (fun x y h => (spec_l1In.ev k x).trans h) (by kernel_rfl)
def spec_l3Key.A : Sh := QS53
def spec_l3Key.R : Sh := QS19
def spec_l3Key.ann : Ann := { loops := [(0, [(0, (.pur .str)), (3, (.own .str)), (4, (.pur (.int .i64)))])], joins := [], keys := [] }
noncomputable def spec_l3Key.l0 (k : Nat)  (G0 : ((List UInt8) × (List (List UInt8)) × Int × Unit) → Option QT21) : ((List UInt8) × (List (List UInt8)) × Int × Unit) → Option QT21 := fun x => match x with
 | (s_, keys, i, ()) =>
  br k (decide (i < (keys.length : Int)))
  (br k (decide (0 ≤ i ∧ i < (keys.length : Int)))
  (bd k (keys[i.toNat]?) fun x1 =>
  br k (x1 == s_)
  (some ((true, ()), ((), ())))
  (G0 (s_, keys, IntKind.wrap .i64 (i + 1), ())))
  none)
  (some ((false, ()), ((), ())))
noncomputable def spec_l3Key (k : Nat) : ((List UInt8) × Unit) → Option QT21 := fun x => match x with
 | (s_, ()) =>
  iter (spec_l3Key.l0 k) k (s_, ([[118, 97, 114], [102, 108, 97, 103], [97, 114, 114, 97, 121], [105, 102], [102, 111, 114, 107], [101, 108, 115, 101], [101, 110, 100], [119, 104, 105, 108, 101], [117, 110, 114, 111, 108, 108], [97, 115, 115, 101, 114, 116], [97, 115, 115, 117, 109, 101], [105, 110, 112, 117, 116], [115, 112, 108, 105, 116], [109, 101, 114, 103, 101], [116, 114, 117, 101], [102, 97, 108, 115, 101]] : List (List UInt8)), 0, ())
noncomputable def spec_l3Key.sg (k : Nat) : Sig := ⟨spec_l3Key.A, spec_l3Key.R, spec_l3Key k⟩
noncomputable def spec_l3Key.C (k : Nat) : Ctx := ⟨Tryz.prog, [], k, [], []⟩
theorem spec_l3Key.ev (k : Nat) (x : spec_l3Key.A.T) : evFunc (spec_l3Key.C k) spec_l3Key.ann Tryz.f103 spec_l3Key.A spec_l3Key.R x = spec_l3Key k x := by kernel_rfl
theorem spec_l3Key.ok {L : List (Nat × Obj)}  (k : Nat) : SigHolds Tryz.prog L 103 (spec_l3Key.sg k) :=
  sig_of_ev (C := spec_l3Key.C k) holds_nil (by kernel_rfl) Tryz.func103 (by kernel_rfl) _ _ _ (fun x y h => (spec_l3Key.ev k x).trans h) (by kernel_rfl)
def spec_l3Name.A : Sh := QS53
def spec_l3Name.R : Sh := QS19
def spec_l3Name.ann : Ann := { loops := [(0, [(0, (.pur .str)), (3, (.pur (.int .i64)))])], joins := [(4, [(19, .bool)]), (6, [(2, .bool)])], keys := [] }
noncomputable def spec_l3Name.l0 (k : Nat)  (G0 : QT29 → Option QT21) : QT29 → Option QT21 := fun x => match x with
 | (s_, i, ()) =>
  br k (decide (i < (s_.length : Int)))
  ((br k (decide (0 ≤ i))
  (bd k (s_[i.toNat]?) fun b1 =>
  br k (decide ((b1.toNat : Int) < 97))
  (some (true, ()))
  (br k (decide (0 ≤ i))
  (bd k (s_[i.toNat]?) fun b2 =>
  some (decide ((b2.toNat : Int) > 122), ()))
  none))
  none : Option (Bool × Unit)).bind fun j3 =>
  br k (j3.1)
  (some ((false, ()), ((), ())))
  (G0 (s_, IntKind.wrap .i64 (i + 1), ())))
  ((bd k (spec_l1In k ((s_.length : Int), 1, 8, ())) fun y4 =>
  br k (y4.1.1)
  (bd k (spec_l3Key k (s_, ())) fun y5 =>
  some (!y5.1.1, ()))
  (some (false, ())) : Option (Bool × Unit)).bind fun j6 =>
  some ((j6.1, ()), ((), ())))
noncomputable def spec_l3Name (k : Nat) : ((List UInt8) × Unit) → Option QT21 := fun x => match x with
 | (s_, ()) =>
  iter (spec_l3Name.l0 k) k (s_, 0, ())
noncomputable def spec_l3Name.sg (k : Nat) : Sig := ⟨spec_l3Name.A, spec_l3Name.R, spec_l3Name k⟩
noncomputable def spec_l3Name.C (k : Nat) : Ctx := ⟨Tryz.prog, [(45, [spec_l1In.sg k]), (103, [spec_l3Key.sg k])], k, [], []⟩
theorem spec_l3Name.ev (k : Nat) (x : spec_l3Name.A.T) : evFunc (spec_l3Name.C k) spec_l3Name.ann Tryz.f71 spec_l3Name.A spec_l3Name.R x = spec_l3Name k x := by kernel_rfl
theorem spec_l3Name.ok {L : List (Nat × Obj)}  (k : Nat) : SigHolds Tryz.prog L 71 (spec_l3Name.sg k) :=
  sig_of_ev (C := spec_l3Name.C k) (holds_cons (allok_cons (spec_l1In.ok k) allok_nil) (holds_cons (allok_cons (spec_l3Key.ok k) allok_nil) holds_nil)) (by kernel_rfl) Tryz.func71 (by kernel_rfl) _ _ _ (fun x y h => (spec_l3Name.ev k x).trans h) (by kernel_rfl)
def spec_l3Place.A : Sh := (.cons (.pur (.sl false .str)) QS53)
def spec_l3Place.R : Sh := QS12
def spec_l3Place.ann : Ann := { loops := [(0, [(0, (.pur (.sl false .str))), (1, (.pur .str)), (5, (.pur (.int .i64)))])], joins := [], keys := [] }
noncomputable def spec_l3Place.l0 (k : Nat)  (G0 : ((List (List UInt8)) × (List UInt8) × Int × Unit) → Option QT26) : ((List (List UInt8)) × (List UInt8) × Int × Unit) → Option QT26 := fun x => match x with
 | (l_, s_, i, ()) =>
  br k (decide (i < (l_.length : Int)))
  (br k (decide (0 ≤ i))
  (bd k (l_[i.toNat]?) fun x1 =>
  br k (x1 == s_)
  (some ((i, ()), ((), (), ())))
  (G0 (l_, s_, IntKind.wrap .i64 (i + 1), ())))
  none)
  (some (((-1), ()), ((), (), ())))
noncomputable def spec_l3Place (k : Nat) : ((List (List UInt8)) × (List UInt8) × Unit) → Option QT26 := fun x => match x with
 | (l_, s_, ()) =>
  iter (spec_l3Place.l0 k) k (l_, s_, 0, ())
noncomputable def spec_l3Place.sg (k : Nat) : Sig := ⟨spec_l3Place.A, spec_l3Place.R, spec_l3Place k⟩
noncomputable def spec_l3Place.C (k : Nat) : Ctx := ⟨Tryz.prog, [], k, [], []⟩
theorem spec_l3Place.ev (k : Nat) (x : spec_l3Place.A.T) : evFunc (spec_l3Place.C k) spec_l3Place.ann Tryz.f72 spec_l3Place.A spec_l3Place.R x = spec_l3Place k x := by kernel_rfl
theorem spec_l3Place.ok {L : List (Nat × Obj)}  (k : Nat) : SigHolds Tryz.prog L 72 (spec_l3Place.sg k) :=
  sig_of_ev (C := spec_l3Place.C k) holds_nil (by kernel_rfl) Tryz.func72 (by kernel_rfl) _ _ _ (fun x y h => (spec_l3Place.ev k x).trans h) (by kernel_rfl)
def spec_DeclOk.A : Sh := (.cons QS6 .nil)
def spec_DeclOk.R : Sh := QS19
def spec_DeclOk.ann : Ann := { loops := [(0, [(1, QS24), (3, (.own .str)), (4, (.pur (.int .i64)))]), (2, [(3, (.own .str)), (5, (.pur (.int .i64)))])], joins := [(1, [(21, .bool)]), (13, [(75, .bool)])], keys := [(3, [([22], true), ([1], false), ([1], false), ([22, 25], true), ([1], false), ([1], false), ([25, 28], true), ([], false)])] }
noncomputable def spec_DeclOk.l2 (k : Nat)  (G2 : ((List (List UInt8)) × Int × Unit) → Option QT21) : ((List (List UInt8)) × Int × Unit) → Option QT21 := fun x => match x with
 | (all, i, ()) =>
  br k (decide (i < (all.length : Int)))
  ((br k (decide (0 ≤ i ∧ i < (all.length : Int)))
  (bd k (all[i.toNat]?) fun x5 =>
  bd k (spec_l3Name k (x5, ())) fun y6 =>
  br k (!y6.1.1)
  (some (true, ()))
  (br k (decide (0 ≤ i ∧ i ≤ (all.length : Int)))
  (br k (decide (0 ≤ i ∧ i < (all.length : Int)))
  (bd k (all[i.toNat]?) fun x7 =>
  bd k (spec_l3Place k (subL all ((0 : Int).toNat) (i.toNat - (0 : Int).toNat), x7, ())) fun y8 =>
  some (decide (y8.1.1 ≥ 0), ()))
  none)
  none))
  none : Option (Bool × Unit)).bind fun j9 =>
  br k (j9.1)
  (some ((false, ()), ((), ())))
  (G2 (all, IntKind.wrap .i64 (i + 1), ())))
  (some ((true, ()), ((), ())))
noncomputable def spec_DeclOk.l0 (k : Nat)  (G0 : (QT2 × (List (List UInt8)) × Int × Unit) → Option QT21) : (QT2 × (List (List UInt8)) × Int × Unit) → Option QT21 := fun x => match x with
 | ((d__0, d__1, d__2, ()), all, i, ()) =>
  br k (decide (i < (d__2.length : Int)))
  (br k (decide (0 ≤ i))
  (bd k (d__2[i.toNat]?) fun x2 =>
  bd k (spec_l1In k (x2.2.1, 1, 16, ())) fun y3 =>
  br k (!y3.1.1)
  (some ((false, ()), ((), ())))
  (br k (decide (0 ≤ i))
  (bd k (d__2[i.toNat]?) fun x4 =>
  br k (decide ((all.length + ([x4.1] : List (List UInt8)).length) * 16 ≤ maxBytes))
  (G0 ((d__0, d__1, d__2, ()), all ++ ([x4.1] : List (List UInt8)), IntKind.wrap .i64 (i + 1), ()))
  none)
  none))
  none)
  (iter (spec_DeclOk.l2 k) k (all, 0, ()))
noncomputable def spec_DeclOk (k : Nat) : (QT2 × Unit) → Option QT21 := fun x => match x with
 | (d_, ()) =>
  (br k (decide ((d_.1.length : Int) > 5))
  (some (true, ()))
  (br k (decide ((d_.2.1.length : Int) > 3))
  (some (true, ()))
  (some (decide ((d_.2.2.1.length : Int) > 2), ()))) : Option (Bool × Unit)).bind fun j1 =>
  br k (j1.1)
  (some ((false, ()), ((), ())))
  (br k (decide ((([] : List (List UInt8)).length + d_.1.length) * 16 ≤ maxBytes))
  (br k (decide (((([] : List (List UInt8)) ++ d_.1).length + d_.2.1.length) * 16 ≤ maxBytes))
  (iter (spec_DeclOk.l0 k) k ((d_.1, d_.2.1, d_.2.2.1, ()), (([] : List (List UInt8)) ++ d_.1) ++ d_.2.1, 0, ()))
  none)
  none)
noncomputable def spec_DeclOk.sg (k : Nat) : Sig := ⟨spec_DeclOk.A, spec_DeclOk.R, spec_DeclOk k⟩
noncomputable def spec_DeclOk.C (k : Nat) : Ctx := ⟨Tryz.prog, [(45, [spec_l1In.sg k]), (71, [spec_l3Name.sg k]), (72, [spec_l3Place.sg k])], k, [], []⟩
theorem spec_DeclOk.ev (k : Nat) (x : spec_DeclOk.A.T) : evFunc (spec_DeclOk.C k) spec_DeclOk.ann Tryz.f47 spec_DeclOk.A spec_DeclOk.R x = spec_DeclOk k x := by kernel_rfl
theorem spec_DeclOk.ok {L : List (Nat × Obj)}  (k : Nat) : SigHolds Tryz.prog L 47 (spec_DeclOk.sg k) :=
  sig_of_ev (C := spec_DeclOk.C k) (holds_cons (allok_cons (spec_l1In.ok k) allok_nil) (holds_cons (allok_cons (spec_l3Name.ok k) allok_nil) (holds_cons (allok_cons (spec_l3Place.ok k) allok_nil) holds_nil))) (by kernel_rfl) Tryz.func47 (by kernel_rfl) _ _ _ (fun x y h => (spec_DeclOk.ev k x).trans h) (by kernel_rfl)
def spec_l4Uses.A : Sh := (.cons QS6 QS12)
def spec_l4Uses.R : Sh := (.cons (.pur (.int .i64)) (.cons (.pur .bool) (.cons (.pur (.int .i64)) QS19)))
def spec_l4Uses.ann : Ann := { loops := [], joins := [], keys := [] }
noncomputable def spec_l4Uses (k : Nat) : (QT2 × Int × Unit) → Option ((Int × Bool × Int × Bool × Unit) × (Unit × Unit × Unit)) := fun x => match x with
 | (d_, kind, ()) =>
  br k (kind == 1)
  (some (((d_.1.length : Int), false, 1, false, ()), ((), (), ())))
  (br k (kind == 2)
  (some (((d_.2.1.length : Int), false, 2, false, ()), ((), (), ())))
  (br k (kind == 3)
  (some (((d_.2.2.1.length : Int), true, 1, false, ()), ((), (), ())))
  (br k (kind == 4)
  (br k (kind == 4)
  (some (((d_.1.length : Int), false, 0, true, ()), ((), (), ())))
  (br k (kind == 5)
  (br k (kind == 5)
  (some (((-1), false, 2, kind == 10, ()), ((), (), ())))
  (some (((-1), false, 0, false, ()), ((), (), ()))))
  (br k (kind == 6)
  (br k (kind == 6)
  (some (((-1), false, 2, kind == 10, ()), ((), (), ())))
  (some (((-1), false, 0, false, ()), ((), (), ()))))
  (br k (kind == 9)
  (br k (kind == 9)
  (some (((-1), false, 2, kind == 10, ()), ((), (), ())))
  (some (((-1), false, 0, false, ()), ((), (), ()))))
  (br k (kind == 10)
  (br k (kind == 10)
  (some (((-1), false, 2, kind == 10, ()), ((), (), ())))
  (some (((-1), false, 0, false, ()), ((), (), ()))))
  (br k (kind == 11)
  (br k (kind == 11)
  (some (((-1), false, 2, kind == 10, ()), ((), (), ())))
  (some (((-1), false, 0, false, ()), ((), (), ()))))
  (br k (kind == 12)
  (some (((-1), false, 2, kind == 10, ()), ((), (), ())))
  (some (((-1), false, 0, false, ()), ((), (), ()))))))))))
  (br k (kind == 13)
  (some (((d_.1.length : Int), false, 0, true, ()), ((), (), ())))
  (br k (kind == 5)
  (br k (kind == 5)
  (some (((-1), false, 2, kind == 10, ()), ((), (), ())))
  (some (((-1), false, 0, false, ()), ((), (), ()))))
  (br k (kind == 6)
  (br k (kind == 6)
  (some (((-1), false, 2, kind == 10, ()), ((), (), ())))
  (some (((-1), false, 0, false, ()), ((), (), ()))))
  (br k (kind == 9)
  (br k (kind == 9)
  (some (((-1), false, 2, kind == 10, ()), ((), (), ())))
  (some (((-1), false, 0, false, ()), ((), (), ()))))
  (br k (kind == 10)
  (br k (kind == 10)
  (some (((-1), false, 2, kind == 10, ()), ((), (), ())))
  (some (((-1), false, 0, false, ()), ((), (), ()))))
  (br k (kind == 11)
  (br k (kind == 11)
  (some (((-1), false, 2, kind == 10, ()), ((), (), ())))
  (some (((-1), false, 0, false, ()), ((), (), ()))))
  (br k (kind == 12)
  (some (((-1), false, 2, kind == 10, ()), ((), (), ())))
  (some (((-1), false, 0, false, ()), ((), (), ())))))))))))))
noncomputable def spec_l4Uses.sg (k : Nat) : Sig := ⟨spec_l4Uses.A, spec_l4Uses.R, spec_l4Uses k⟩
noncomputable def spec_l4Uses.C (k : Nat) : Ctx := ⟨Tryz.prog, [], k, [], []⟩
theorem spec_l4Uses.ev (k : Nat) (x : spec_l4Uses.A.T) : evFunc (spec_l4Uses.C k) spec_l4Uses.ann Tryz.f101 spec_l4Uses.A spec_l4Uses.R x = spec_l4Uses k x := by kernel_rfl
theorem spec_l4Uses.ok {L : List (Nat × Obj)}  (k : Nat) : SigHolds Tryz.prog L 101 (spec_l4Uses.sg k) :=
  sig_of_ev (C := spec_l4Uses.C k) holds_nil (by kernel_rfl) Tryz.func101 (by kernel_rfl) _ _ _ (fun x y h => (spec_l4Uses.ev k x).trans h) (by kernel_rfl)
def spec_l3Takes.A : Sh := QS12
def spec_l3Takes.R : Sh := QS12
def spec_l3Takes.ann : Ann := { loops := [], joins := [(3, [(6, .bool)])], keys := [] }
noncomputable def spec_l3Takes (k : Nat) : (Int × Unit) → Option QT38 := fun x => match x with
 | (op, ()) =>
  br k (decide (op ≤ 5))
  (some ((0, ()), ((), ())))
  ((br k (decide (op ≤ 7))
  (some (true, ()))
  (some (op == 19, ())) : Option (Bool × Unit)).bind fun j1 =>
  br k (j1.1)
  (some ((1, ()), ((), ())))
  (some ((2, ()), ((), ()))))
noncomputable def spec_l3Takes.sg (k : Nat) : Sig := ⟨spec_l3Takes.A, spec_l3Takes.R, spec_l3Takes k⟩
noncomputable def spec_l3Takes.C (k : Nat) : Ctx := ⟨Tryz.prog, [], k, [], []⟩
theorem spec_l3Takes.ev (k : Nat) (x : spec_l3Takes.A.T) : evFunc (spec_l3Takes.C k) spec_l3Takes.ann Tryz.f73 spec_l3Takes.A spec_l3Takes.R x = spec_l3Takes k x := by kernel_rfl
theorem spec_l3Takes.ok {L : List (Nat × Obj)}  (k : Nat) : SigHolds Tryz.prog L 73 (spec_l3Takes.sg k) :=
  sig_of_ev (C := spec_l3Takes.C k) holds_nil (by kernel_rfl) Tryz.func73 (by kernel_rfl) _ _ _ (fun x y h => (spec_l3Takes.ev k x).trans h) (by kernel_rfl)
def spec_l3Kinds.A : Sh := QS12
def spec_l3Kinds.R : Sh := QS5
def spec_l3Kinds.ann : Ann := { loops := [], joins := [(1, [(4, .bool)])], keys := [] }
noncomputable def spec_l3Kinds (k : Nat) : (Int × Unit) → Option ((Int × Int × Unit) × (Unit × Unit)) := fun x => match x with
 | (op, ()) =>
  (br k (op == 3)
  (some (true, ()))
  (br k (op == 4)
  (some (true, ()))
  (some (op == 5, ()))) : Option (Bool × Unit)).bind fun j1 =>
  br k (j1.1)
  (some ((0, 2, ()), ((), ())))
  (br k (decide (op ≤ 12))
  (some ((1, 1, ()), ((), ())))
  (br k (decide (op ≤ 18))
  (some ((1, 2, ()), ((), ())))
  (some ((2, 2, ()), ((), ())))))
noncomputable def spec_l3Kinds.sg (k : Nat) : Sig := ⟨spec_l3Kinds.A, spec_l3Kinds.R, spec_l3Kinds k⟩
noncomputable def spec_l3Kinds.C (k : Nat) : Ctx := ⟨Tryz.prog, [], k, [], []⟩
theorem spec_l3Kinds.ev (k : Nat) (x : spec_l3Kinds.A.T) : evFunc (spec_l3Kinds.C k) spec_l3Kinds.ann Tryz.f130 spec_l3Kinds.A spec_l3Kinds.R x = spec_l3Kinds k x := by kernel_rfl
theorem spec_l3Kinds.ok {L : List (Nat × Obj)}  (k : Nat) : SigHolds Tryz.prog L 130 (spec_l3Kinds.sg k) :=
  sig_of_ev (C := spec_l3Kinds.C k) holds_nil (by kernel_rfl) Tryz.func130 (by kernel_rfl) _ _ _ (fun x y h => (spec_l3Kinds.ev k x).trans h) (by kernel_rfl)
def spec_l3Tok.A : Sh := (.cons QS6 (.cons (.pur QK1) .nil))
def spec_l3Tok.R : Sh := QS19
def spec_l3Tok.ann : Ann := { loops := [], joins := [(10, [(4, .bool)])], keys := [] }
noncomputable def spec_l3Tok (k : Nat) : (QT2 × (Int × Int × Unit) × Unit) → Option QT22 := fun x => match x with
 | (d_, t, ()) =>
  br k (t.1 == 1)
  (bd k (spec_l1In k (t.2.1, 0, 999999999999999999, ())) fun y1 =>
  some ((y1.1.1, ()), ((), (), ())))
  (br k (t.1 == 2)
  (bd k (spec_l1In k (t.2.1, 0, IntKind.wrap .i64 ((d_.1.length : Int) - 1), ())) fun y2 =>
  some ((y2.1.1, ()), ((), (), ())))
  (br k (t.1 == 3)
  (bd k (spec_l1In k (t.2.1, 0, IntKind.wrap .i64 ((d_.2.1.length : Int) - 1), ())) fun y3 =>
  some ((y3.1.1, ()), ((), (), ())))
  (br k (t.1 == 6)
  (bd k (spec_l1In k (t.2.1, 0, IntKind.wrap .i64 ((d_.2.2.1.length : Int) - 1), ())) fun y4 =>
  some ((y4.1.1, ()), ((), (), ())))
  ((bd k (spec_l1In k (t.1, 4, 21, ())) fun y5 =>
  br k (y5.1.1)
  (some (t.2.1 == 0, ()))
  (some (false, ())) : Option (Bool × Unit)).bind fun j6 =>
  some ((j6.1, ()), ((), (), ()))))))
noncomputable def spec_l3Tok.sg (k : Nat) : Sig := ⟨spec_l3Tok.A, spec_l3Tok.R, spec_l3Tok k⟩
noncomputable def spec_l3Tok.C (k : Nat) : Ctx := ⟨Tryz.prog, [(45, [spec_l1In.sg k])], k, [], []⟩
theorem spec_l3Tok.ev (k : Nat) (x : spec_l3Tok.A.T) : evFunc (spec_l3Tok.C k) spec_l3Tok.ann Tryz.f131 spec_l3Tok.A spec_l3Tok.R x = spec_l3Tok k x := by kernel_rfl
theorem spec_l3Tok.ok {L : List (Nat × Obj)}  (k : Nat) : SigHolds Tryz.prog L 131 (spec_l3Tok.sg k) :=
  sig_of_ev (C := spec_l3Tok.C k) (holds_cons (allok_cons (spec_l1In.ok k) allok_nil) holds_nil) (by kernel_rfl) Tryz.func131 (by kernel_rfl) _ _ _ (fun x y h => (spec_l3Tok.ev k x).trans h) (by kernel_rfl)
end Go.Pev.F
