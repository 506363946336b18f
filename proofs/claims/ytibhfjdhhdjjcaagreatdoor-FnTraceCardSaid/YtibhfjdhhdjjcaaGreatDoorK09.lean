/-
  Printed by gen.py: what functions of the program compute, and that they do.
-/
import Derived.Test.YtibhfjdhhdjjcaaGreatDoorK08
set_option linter.unusedSimpArgs false
set_option linter.unusedVariables false
open Go.Proofs Go.Pev
namespace Go.Pev.F
set_option maxRecDepth 100000
variable {L : List (Nat × Obj)}
noncomputable def z202 (k : Nat) : ((Int × Int × Unit) × ((Unit) × Unit) × Unit) → Option QT72 := fun x => match x with
 | (x_, ((()), ()), ()) =>
  bd k (z200 k (x_, ())) fun y1 =>
  some ((!y1.1.1, ()), ((), ((()), ()), ()))
noncomputable def z202.sg (k : Nat) : Sig := ⟨(.cons (.pur QK0) (.cons (.box (.cons (.fn (.func 238) 0 .nil) .nil)) .nil)), QS19, z202 k, []⟩
theorem z202.ok (k : Nat) : SigHolds Tryz.prog L 253 (z202.sg k) :=
  soe (C := ⟨Tryz.prog, [(238, [z200.sg k])], k, [], []⟩) (hc1 (z200.ok k) holds_nil) Tryz.func253 {} fun _ => by kernel_rfl
noncomputable def z74.l0 (k : Nat) : E2 ((QT7 × QT42 × Int × Int × Unit) → Option QT55) := fun G0 x => match x with
 | (s_, (((()), ()), ()), t7, t8, ()) =>
  br k (decide (t8 < t7))
  (br k (decide (0 ≤ t8))
  (bd k (s_[t8.toNat]?) fun x1 =>
  bd k (z202 k (x1, ((()), ()), ())) fun y2 =>
  br k (y2.1.1)
  (some ((t8, ()), ((), (((()), ()), ()), ())))
  (G0 (s_, (((()), ()), ()), t7, IntKind.wrap .i64 (t8 + 1), ())))
  none)
  (some (((-1), ()), ((), (((()), ()), ()), ())))
noncomputable def z74 (k : Nat) : (QT7 × QT42 × Unit) → Option QT55 := fun x => match x with
 | (s_, (((()), ()), ()), ()) =>
  iter (z74.l0 k) k (s_, (((()), ()), ()), (s_.length : Int), 0, ())
noncomputable def z74.sg (k : Nat) : Sig := ⟨(.cons (.pur (.sl false QK0)) (.cons (.fn (.func 253) 0 (.cons (.box (.cons (.fn (.func 238) 0 .nil) .nil)) .nil)) .nil)), QS6, z74 k, []⟩
theorem z74.ok (k : Nat) : SigHolds Tryz.prog L 259 (z74.sg k) :=
  soe (C := ⟨Tryz.prog, [(253, [z202.sg k])], k, [], []⟩) (hc1 (z202.ok k) holds_nil) Tryz.func259 { loops := [(0, [(0, (.pur (.sl false QK0))), (1, (.fn (.func 253) 0 (.cons (.box (.cons (.fn (.func 238) 0 .nil) .nil)) .nil))), (7, (.pur (.int .i64))), (8, (.pur (.int .i64)))])] } fun _ => by kernel_rfl
noncomputable def z203 (k : Nat) : (QT7 × QT42 × Unit) → Option ((Bool × Unit) × (Unit × QT42 × Unit)) := fun x => match x with
 | (s_, (((()), ()), ()), ()) =>
  bd k (z74 k (s_, (((()), ()), ()), ())) fun y1 =>
  some ((decide (y1.1.1 ≥ 0), ()), ((), (((()), ()), ()), ()))
noncomputable def z203.sg (k : Nat) : Sig := ⟨(.cons (.pur (.sl false QK0)) (.cons (.fn (.func 253) 0 (.cons (.box (.cons (.fn (.func 238) 0 .nil) .nil)) .nil)) .nil)), QS19, z203 k, []⟩
theorem z203.ok (k : Nat) : SigHolds Tryz.prog L 252 (z203.sg k) :=
  soe (C := ⟨Tryz.prog, [(259, [z74.sg k])], k, [], []⟩) (hc1 (z74.ok k) holds_nil) Tryz.func252 {} fun _ => by kernel_rfl
noncomputable def z204 (k : Nat) : (QT7 × (Unit) × Unit) → Option QT65 := fun x => match x with
 | (list, (()), ()) =>
  bd k (z203 k (list, (((()), ()), ()), ())) fun y1 =>
  some ((!y1.1.1, ()), ((), (()), ()))
noncomputable def z204.sg (k : Nat) : Sig := ⟨(.cons (.pur (.sl false QK0)) (.cons (.fn (.func 238) 0 .nil) .nil)), QS19, z204 k, []⟩
theorem z204.ok (k : Nat) : SigHolds Tryz.prog L 237 (z204.sg k) :=
  soe (C := ⟨Tryz.prog, [(252, [z203.sg k])], k, [], []⟩) (hc1 (z203.ok k) holds_nil) Tryz.func237 {} fun _ => by kernel_rfl
noncomputable def z90 (k : Nat) : (QT7 × Unit) → Option QT25 := fun x => match x with
 | (t, ()) =>
  br k (decide ((t.length : Int) ≤ 3))
  (bd k (z204 k (t, (()), ())) fun y1 =>
  some ((y1.1.1, ()), ((), ())))
  (some ((false, ()), ((), ())))
noncomputable def z90.sg (k : Nat) : Sig := ⟨QS41, QS19, z90 k, []⟩
theorem z90.ok (k : Nat) : SigHolds Tryz.prog L 205 (z90.sg k) :=
  soe (C := ⟨Tryz.prog, [(237, [z204.sg k])], k, [], []⟩) (hc1 (z204.ok k) holds_nil) Tryz.func205 {} fun _ => by kernel_rfl
noncomputable def z75 (k : Nat) : (QT7 × Unit) → Option ((QT7 × Unit) × (Unit × Unit)) := fun x => match x with
 | (s_, ()) =>
  br k (s_.isEmpty) (agree
  (some (([], ()), ((), ())))
  (br k (decide ((([] : List (Int × Int × Unit)).length + s_.length) * 16 ≤ maxBytes))
  (some ((([] : List (Int × Int × Unit)) ++ s_, ()), ((), ())))
  none))
  (br k (decide ((([] : List (Int × Int × Unit)).length + s_.length) * 16 ≤ maxBytes))
  (some ((([] : List (Int × Int × Unit)) ++ s_, ()), ((), ())))
  none)
noncomputable def z75.sg (k : Nat) : Sig := ⟨QS41, (.cons (.own QK0) .nil), z75 k, []⟩
theorem z75.ok (k : Nat) : SigHolds Tryz.prog L 51 (z75.sg k) :=
  soe (C := ⟨Tryz.prog, [], k, [], []⟩) holds_nil Tryz.func51 {} fun _ => by kernel_rfl
noncomputable def z118 (k : Nat) : (QT7 × Int × Int × Unit) → Option ((QT7 × Unit) × QT37) := fun x => match x with
 | (t, line, pick, ()) =>
  bd k (z90 k (t, ())) fun y1 =>
  br k (!y1.1.1)
  (some (([], ()), ((), (), (), ())))
  (bd k (z90 k (([(line, pick, ())] : List (Int × Int × Unit)), ())) fun y2 =>
  br k (!y2.1.1)
  (some (([], ()), ((), (), (), ())))
  (bd k (z75 k (t, ())) fun y3 =>
  br k (decide ((t.length : Int) < 3))
  (br k (decide ((y3.1.1.length + ([(line, pick, ())] : List (Int × Int × Unit)).length) * 16 ≤ maxBytes))
  (some ((y3.1.1 ++ ([(line, pick, ())] : List (Int × Int × Unit)), ()), ((), (), (), ())))
  none)
  (some ((y3.1.1, ()), ((), (), (), ())))))
noncomputable def z118.sg (k : Nat) : Sig := ⟨(.cons (.pur (.sl false QK0)) QS22), (.cons (.own QK0) .nil), z118 k, []⟩
theorem z118.ok (k : Nat) : SigHolds Tryz.prog L 190 (z118.sg k) :=
  soe (C := ⟨Tryz.prog, [(205, [z90.sg k]), (51, [z75.sg k])], k, [], []⟩) (hc1 (z90.ok k) (hc1 (z75.ok k) holds_nil)) Tryz.func190 {} fun _ => by kernel_rfl
noncomputable def z91.l0 (k : Nat) : E2 ((Int × Int × QT7 × Int × Int × Unit) → Option QT28) := fun G0 x => match x with
 | (line, n, t8, t9, t10, ()) =>
  br k (decide (t10 < t9))
  (br k (decide (0 ≤ t10))
  (bd k (t8[t10.toNat]?) fun x1 =>
  bd k (z29 k (x1.1 == line, ())) fun y2 =>
  G0 (line, IntKind.wrap .i64 (n + y2.1.1), t8, t9, IntKind.wrap .i64 (t10 + 1), ()))
  none)
  (some ((n, ()), ((), (), ())))
noncomputable def z91 (k : Nat) : (QT7 × Int × Unit) → Option QT28 := fun x => match x with
 | (t, line, ()) =>
  iter (z91.l0 k) k (line, 0, t, (t.length : Int), 0, ())
noncomputable def z91.sg (k : Nat) : Sig := ⟨(.cons (.pur (.sl false QK0)) QS6), QS6, z91 k, []⟩
theorem z91.ok (k : Nat) : SigHolds Tryz.prog L 191 (z91.sg k) :=
  soe (C := ⟨Tryz.prog, [(169, [z29.sg k])], k, [], []⟩) (hc1 (z29.ok k) holds_nil) Tryz.func191 { loops := [(0, [(1, (.pur (.int .i64))), (5, (.pur (.int .i64))), (8, (.pur (.sl false QK0))), (9, (.pur (.int .i64))), (10, (.pur (.int .i64)))])] } fun _ => by kernel_rfl
noncomputable def z166 (k : Nat) : (QT1 × Int × Unit) → Option QT28 := fun x => match x with
 | (n, v, ()) =>
  bd k (z8 k (v, n.2.2.2.2.1, n.2.2.2.2.2.1, ())) fun y1 =>
  br k (!y1.1.1)
  (some ((IntKind.wrap .i64 ((IntKind.wrap .i64 (n.2.2.2.2.2.1 - n.2.2.2.2.1)) + 1), ()), ((), (), ())))
  (some ((IntKind.wrap .i64 (v - n.2.2.2.2.1), ()), ((), (), ())))
noncomputable def z166.sg (k : Nat) : Sig := ⟨(.cons (.pur QK9) QS6), QS6, z166 k, []⟩
theorem z166.ok (k : Nat) : SigHolds Tryz.prog L 192 (z166.sg k) :=
  soe (C := ⟨Tryz.prog, [(83, [z8.sg k])], k, [], []⟩) (hc1 (z8.ok k) holds_nil) Tryz.func192 {} fun _ => by kernel_rfl
noncomputable def z137 (k : Nat) : (QT5 × QT1 × Int × Unit) → Option ((Unit) × (QT5 × Unit × Unit × Unit)) := fun x => match x with
 | ((m__0, m__1, m__2, m__3, m__4, m__5, m__6, m__7, m__8, m__9, m__10, m__11, m__12, m__13, ()), n, v, ()) =>
  br k (n.1 == 6)
  (bd k (z118 k (m__13, m__7, v, ())) fun y1 =>
  some ((()), ((m__0, m__1, m__2, m__3, m__4, m__5, m__6, m__7, m__8, m__9, m__10, m__11, m__12, y1.1.1, ()), (), (), ())))
  (br k (n.1 == 10)
  ((br k (v == 1)
  (bd k (z91 k (m__13, m__7, ())) fun y2 =>
  some (decide (y2.1.1 < n.2.2.2.2.1), ()))
  (some (false, ())) : Option (Bool × Unit)).bind fun j3 =>
  br k (j3.1)
  (bd k (z118 k (m__13, m__7, 1, ())) fun y4 =>
  some ((()), ((m__0, m__1, m__2, m__3, m__4, m__5, m__6, m__7, m__8, m__9, m__10, m__11, m__12, y4.1.1, ()), (), (), ())))
  (some ((()), ((m__0, m__1, m__2, m__3, m__4, m__5, m__6, m__7, m__8, m__9, m__10, m__11, m__12, m__13, ()), (), (), ()))))
  (br k (n.1 == 13)
  (bd k (z166 k (n, v, ())) fun y5 =>
  bd k (z118 k (m__13, m__7, y5.1.1, ())) fun y6 =>
  some ((()), ((m__0, m__1, m__2, m__3, m__4, m__5, m__6, m__7, m__8, m__9, m__10, m__11, m__12, y6.1.1, ()), (), (), ())))
  (br k (n.1 == 14)
  (some ((()), ((m__0, m__1, m__2, m__3, m__4, m__5, m__6, m__7, m__8, m__9, m__10, m__11, m__12, [], ()), (), (), ())))
  (some ((()), ((m__0, m__1, m__2, m__3, m__4, m__5, m__6, m__7, m__8, m__9, m__10, m__11, m__12, m__13, ()), (), (), ()))))))
noncomputable def z137.sg (k : Nat) : Sig := ⟨(.cons QS3 (.cons (.pur QK9) QS6)), .nil, z137 k, []⟩
theorem z137.ok (k : Nat) : SigHolds Tryz.prog L 137 (z137.sg k) :=
  soe (C := ⟨Tryz.prog, [(190, [z118.sg k]), (191, [z91.sg k]), (192, [z166.sg k])], k, [], []⟩) (hc1 (z118.ok k) (hc1 (z91.ok k) (hc1 (z166.ok k) holds_nil))) Tryz.func137 { joins := [(6, [(40, .bool)])], keys := [(9, [([], false), ([], false), ([0], false), ([0], false), ([0], false), ([], false), ([4], false), ([], false), ([], false), ([0, 61], false), ([0], false), ([0], false), ([0, 61], true)])] } fun _ => by kernel_rfl
noncomputable def z138 (k : Nat) : (QT5 × QT1 × Unit) → Option ((Int × Unit) × (QT5 × Unit × Unit)) := fun x => match x with
 | ((m__0, m__1, m__2, m__3, m__4, m__5, m__6, m__7, m__8, m__9, m__10, m__11, m__12, m__13, ()), n, ()) =>
  bd k (z34 k ((m__8, m__9, m__10, ()), n.2.2.1, ())) fun y1 =>
  br k (y1.1.2.1 != 0)
  (some ((y1.1.2.1, ()), ((m__0, m__1, m__2, m__3, m__4, m__5, m__6, m__7, m__8, m__9, m__10, m__11, m__12, m__13, ()), (), ())))
  (bd k (z34 k ((m__8, m__9, m__10, ()), n.2.2.2.1, ())) fun y2 =>
  br k (decide (0 ≤ n.2.1 ∧ n.2.1 < (m__10.length : Int)))
  (bd k (m__10[n.2.1.toNat]?) fun x3 =>
  br k (y2.1.2.1 != 0)
  (some ((y2.1.2.1, ()), ((m__0, m__1, m__2, m__3, m__4, m__5, m__6, m__7, m__8, m__9, m__10.set n.2.1.toNat x3, m__11, m__12, m__13, ()), (), ())))
  (bd k (z32 k (x3, ())) fun y4 =>
  bd k (z8 k (y1.1.1, 0, IntKind.wrap .i64 (y4.1.1 - 1), ())) fun y5 =>
  br k (!y5.1.1)
  (some ((5, ()), ((m__0, m__1, m__2, m__3, m__4, m__5, m__6, m__7, m__8, m__9, m__10.set n.2.1.toNat x3, m__11, m__12, m__13, ()), (), ())))
  (br k (decide (0 ≤ y1.1.1 ∧ y1.1.1 < (x3.length : Int)))
  (bd k (x3[y1.1.1.toNat]?) fun x6 =>
  some ((0, ()), ((m__0, m__1, m__2, m__3, m__4, m__5, m__6, m__7, m__8, m__9, m__10.set n.2.1.toNat (x3.set y1.1.1.toNat y2.1.1), m__11, m__12, m__13, ()), (), ())))
  none)))
  none)
noncomputable def z138.sg (k : Nat) : Sig := ⟨(.cons QS3 (.cons (.pur QK9) .nil)), QS6, z138 k, []⟩
theorem z138.ok (k : Nat) : SigHolds Tryz.prog L 135 (z138.sg k) :=
  soe (C := ⟨Tryz.prog, [(134, [z34.sg k]), (168, [z32.sg k]), (83, [z8.sg k])], k, [], []⟩) (hc1 (z34.ok k) (hc1 (z32.ok k) (hc1 (z8.ok k) holds_nil))) Tryz.func135 { keys := [(5, [([], false), ([0], false), ([0], false), ([0], false), ([0], false), ([0], false), ([3], false), ([3], false), ([0], false), ([0, 43], true), ([], false)])] } fun _ => by kernel_rfl
noncomputable def z7.h7 (k : Nat)  : (QT5 × Int × Unit) → Option QT61 := fun x => match x with
 | ((m__0, m__1, m__2, m__3, m__4, m__5, m__6, m__7, m__8, m__9, m__10, m__11, m__12, m__13, ()), code, ()) =>
  some ((code, ()), ((m__0, m__1, m__2, m__3, m__4, m__5, m__6, m__7, m__8, m__9, m__10, m__11, m__12, m__13, ()), ()))
noncomputable def z7.h32 (k : Nat)  : (QT5 × QT1 × Int × Int × Int × Unit) → Option QT61 := fun x => match x with
 | ((m__0, m__1, m__2, m__3, m__4, m__5, m__6, m__7, m__8, m__9, m__10, m__11, m__12, m__13, ()), (n_0, n_1, n_2, n_3, n_4, n_5, ()), v, code, next_, ()) =>
  br k (code != 0)
  (some ((code, ()), ((m__0, m__1, m__2, m__3, m__4, m__5, m__6, m__7, m__8, m__9, m__10, m__11, m__12, m__13, ()), ())))
  (bd k (z137 k ((m__0, m__1, m__2, m__3, m__4, m__5, m__6, m__7, m__8, m__9, m__10, m__11, m__12, m__13, ()), (n_0, n_1, n_2, n_3, n_4, n_5, ()), v, ())) fun y7 =>
  some ((0, ()), ((y7.2.1.1, y7.2.1.2.1, y7.2.1.2.2.1, y7.2.1.2.2.2.1, y7.2.1.2.2.2.2.1, y7.2.1.2.2.2.2.2.1, y7.2.1.2.2.2.2.2.2.1, next_, y7.2.1.2.2.2.2.2.2.2.2.1, y7.2.1.2.2.2.2.2.2.2.2.2.1, y7.2.1.2.2.2.2.2.2.2.2.2.2.1, y7.2.1.2.2.2.2.2.2.2.2.2.2.2.1, y7.2.1.2.2.2.2.2.2.2.2.2.2.2.2.1, y7.2.1.2.2.2.2.2.2.2.2.2.2.2.2.2.1, ()), ())))
noncomputable def z7.h15 (k : Nat)  : (QT5 × QT1 × Int × Int × Unit) → Option QT61 := fun x => match x with
 | ((m__0, m__1, m__2, m__3, m__4, m__5, m__6, m__7, m__8, m__9, m__10, m__11, m__12, m__13, ()), (n_0, n_1, n_2, n_3, n_4, n_5, ()), v, next_, ()) =>
  bd k (z138 k ((m__0, m__1, m__2, m__3, m__4, m__5, m__6, m__7, m__8, m__9, m__10, m__11, m__12, m__13, ()), (n_0, n_1, n_2, n_3, n_4, n_5, ()), ())) fun y9 =>
  jn k (z7.h32 k) ((y9.2.1.1, y9.2.1.2.1, y9.2.1.2.2.1, y9.2.1.2.2.2.1, y9.2.1.2.2.2.2.1, y9.2.1.2.2.2.2.2.1, y9.2.1.2.2.2.2.2.2.1, y9.2.1.2.2.2.2.2.2.2.1, y9.2.1.2.2.2.2.2.2.2.2.1, y9.2.1.2.2.2.2.2.2.2.2.2.1, y9.2.1.2.2.2.2.2.2.2.2.2.2.1, y9.2.1.2.2.2.2.2.2.2.2.2.2.2.1, y9.2.1.2.2.2.2.2.2.2.2.2.2.2.2.1, y9.2.1.2.2.2.2.2.2.2.2.2.2.2.2.2.1, ()), (n_0, n_1, n_2, n_3, n_4, n_5, ()), v, y9.1.1, next_, ())
noncomputable def z7.h22 (k : Nat)  : (QT5 × QT1 × Int × Int × Int × Unit) → Option QT61 := fun x => match x with
 | ((m__0, m__1, m__2, m__3, m__4, m__5, m__6, m__7, m__8, m__9, m__10, m__11, m__12, m__13, ()), (n_0, n_1, n_2, n_3, n_4, n_5, ()), v, code, next_, ()) =>
  br k (v == 1)
  (jn k (z7.h32 k) ((m__0, m__1, m__2, m__3, m__4, m__5, m__6, m__7, m__8, m__9, m__10, m__11, m__12, m__13, ()), (n_0, n_1, n_2, n_3, n_4, n_5, ()), v, code, IntKind.wrap .i64 (m__7 + 1), ()))
  (jn k (z7.h32 k) ((m__0, m__1, m__2, m__3, m__4, m__5, m__6, m__7, m__8, m__9, m__10, m__11, m__12, m__13, ()), (n_0, n_1, n_2, n_3, n_4, n_5, ()), v, code, next_, ()))
noncomputable def z7.h26 (k : Nat)  : (QT5 × QT1 × Int × Int × Int × Int × Unit) → Option QT61 := fun x => match x with
 | ((m__0, m__1, m__2, m__3, m__4, m__5, m__6, m__7, m__8, m__9, m__10, m__11, m__12, m__13, ()), (n_0, n_1, n_2, n_3, n_4, n_5, ()), v, code, next_, t56, ()) =>
  br k (t56 == 11)
  (br k (v == 0)
  (jn k (z7.h32 k) ((m__0, m__1, m__2, m__3, m__4, m__5, m__6, m__7, m__8, m__9, m__10, m__11, m__12, m__13, ()), (n_0, n_1, n_2, n_3, n_4, n_5, ()), v, 7, next_, ()))
  (jn k (z7.h32 k) ((m__0, m__1, m__2, m__3, m__4, m__5, m__6, m__7, m__8, m__9, m__10, m__11, m__12, m__13, ()), (n_0, n_1, n_2, n_3, n_4, n_5, ()), v, code, next_, ())))
  (br k (t56 == 12)
  (br k (v == 0)
  (jn k (z7.h32 k) ((m__0, m__1, m__2, m__3, m__4, m__5, m__6, m__7, m__8, m__9, m__10, m__11, m__12, m__13, ()), (n_0, n_1, n_2, n_3, n_4, n_5, ()), v, 3, next_, ()))
  (jn k (z7.h32 k) ((m__0, m__1, m__2, m__3, m__4, m__5, m__6, m__7, m__8, m__9, m__10, m__11, m__12, m__13, ()), (n_0, n_1, n_2, n_3, n_4, n_5, ()), v, code, next_, ())))
  (jn k (z7.h32 k) ((m__0, m__1, m__2, m__3, m__4, m__5, m__6, m__7, m__8, m__9, m__10, m__11, m__12, m__13, ()), (n_0, n_1, n_2, n_3, n_4, n_5, ()), v, code, next_, ())))
noncomputable def z7 (k : Nat) : (QT5 × Unit) → Option QT61 := fun x => match x with
 | ((m__0, m__1, m__2, m__3, m__4, m__5, m__6, m__7, m__8, m__9, m__10, m__11, m__12, m__13, ()), ()) =>
  br k (decide (0 ≤ m__7))
  (bd k (m__3[m__7.toNat]?) fun x1 =>
  (bd k (z87 k (x1.1, ())) fun y2 =>
  br k (decide (y2.1.1 > 0))
  (some (x1.1 != 3, ()))
  (some (false, ())) : Option (Bool × Unit)).bind fun j3 =>
  br k (j3.1)
  (bd k (z34 k ((m__8, m__9, m__10, ()), x1.2.2.2.1, ())) fun y4 =>
  br k (y4.1.2.1 != 0)
  (jn k (z7.h7 k) ((m__0, m__1, m__2, m__3, m__4, m__5, m__6, m__7, m__8, m__9, m__10, m__11, m__12, m__13, ()), y4.1.2.1, ()))
  (br k (decide (0 ≤ m__7 ∧ m__7 < (m__4.length : Int)))
  (bd k (m__4[m__7.toNat]?) fun x5 =>
  br k (x1.1 == 1)
  (br k (decide (0 ≤ x1.2.1 ∧ x1.2.1 < (m__8.length : Int)))
  (bd k (m__8[x1.2.1.toNat]?) fun x6 =>
  jn k (z7.h32 k) ((m__0, m__1, m__2, m__3, m__4, m__5, m__6, m__7, m__8.set x1.2.1.toNat y4.1.1, m__9, m__10, m__11, m__12, m__13, ()), (x1.1, x1.2.1, x1.2.2.1, x1.2.2.2.1, x1.2.2.2.2.1, x1.2.2.2.2.2.1, ()), y4.1.1, y4.1.2.1, x5, ()))
  none)
  (br k (x1.1 == 2)
  (br k (decide (0 ≤ x1.2.1 ∧ x1.2.1 < (m__9.length : Int)))
  (bd k (m__9[x1.2.1.toNat]?) fun x8 =>
  jn k (z7.h32 k) ((m__0, m__1, m__2, m__3, m__4, m__5, m__6, m__7, m__8, m__9.set x1.2.1.toNat (y4.1.1 == 1), m__10, m__11, m__12, m__13, ()), (x1.1, x1.2.1, x1.2.2.1, x1.2.2.2.1, x1.2.2.2.2.1, x1.2.2.2.2.2.1, ()), y4.1.1, y4.1.2.1, x5, ()))
  none)
  (br k (x1.1 == 3)
  (jn k (z7.h15 k) ((m__0, m__1, m__2, m__3, m__4, m__5, m__6, m__7, m__8, m__9, m__10, m__11, m__12, m__13, ()), (x1.1, x1.2.1, x1.2.2.1, x1.2.2.2.1, x1.2.2.2.2.1, x1.2.2.2.2.2.1, ()), y4.1.1, x5, ()))
  (br k (x1.1 == 4)
  (bd k (z32 k (m__5, ())) fun y10 =>
  br k (m__12 == y10.1.1)
  (br k (decide (0 ≤ x1.2.1 ∧ x1.2.1 < (m__8.length : Int)))
  (bd k (m__8[x1.2.1.toNat]?) fun x11 =>
  jn k (z7.h32 k) ((m__0, m__1, m__2, m__3, m__4, m__5, m__6, m__7, m__8.set x1.2.1.toNat x1.2.2.2.2.1, m__9, m__10, m__11, m__12, m__13, ()), (x1.1, x1.2.1, x1.2.2.1, x1.2.2.2.1, x1.2.2.2.2.1, x1.2.2.2.2.2.1, ()), y4.1.1, y4.1.2.1, x5, ()))
  none)
  (br k (decide (0 ≤ m__12))
  (bd k (m__5[m__12.toNat]?) fun x12 =>
  br k (!decide ((IntKind.wrap .i64 ((IntKind.wrap .i64 (x1.2.2.2.2.2.1 - x1.2.2.2.2.1)) + 1)) = 0))
  (br k (decide ((x12.tmod (IntKind.wrap .i64 ((IntKind.wrap .i64 (x1.2.2.2.2.2.1 - x1.2.2.2.2.1)) + 1))) < 0))
  (br k (decide (0 ≤ x1.2.1 ∧ x1.2.1 < (m__8.length : Int)))
  (bd k (m__8[x1.2.1.toNat]?) fun x13 =>
  jn k (z7.h32 k) ((m__0, m__1, m__2, m__3, m__4, m__5, m__6, m__7, m__8.set x1.2.1.toNat (IntKind.wrap .i64 (x1.2.2.2.2.1 + (IntKind.wrap .i64 ((x12.tmod (IntKind.wrap .i64 ((IntKind.wrap .i64 (x1.2.2.2.2.2.1 - x1.2.2.2.2.1)) + 1))) + (IntKind.wrap .i64 ((IntKind.wrap .i64 (x1.2.2.2.2.2.1 - x1.2.2.2.2.1)) + 1)))))), m__9, m__10, m__11, IntKind.wrap .i64 (m__12 + 1), m__13, ()), (x1.1, x1.2.1, x1.2.2.1, x1.2.2.2.1, x1.2.2.2.2.1, x1.2.2.2.2.2.1, ()), y4.1.1, y4.1.2.1, x5, ()))
  none)
  (br k (decide (0 ≤ x1.2.1 ∧ x1.2.1 < (m__8.length : Int)))
  (bd k (m__8[x1.2.1.toNat]?) fun x14 =>
  jn k (z7.h32 k) ((m__0, m__1, m__2, m__3, m__4, m__5, m__6, m__7, m__8.set x1.2.1.toNat (IntKind.wrap .i64 (x1.2.2.2.2.1 + (x12.tmod (IntKind.wrap .i64 ((IntKind.wrap .i64 (x1.2.2.2.2.2.1 - x1.2.2.2.2.1)) + 1))))), m__9, m__10, m__11, IntKind.wrap .i64 (m__12 + 1), m__13, ()), (x1.1, x1.2.1, x1.2.2.1, x1.2.2.2.1, x1.2.2.2.2.1, x1.2.2.2.2.2.1, ()), y4.1.1, y4.1.2.1, x5, ()))
  none))
  none)
  none))
  (br k (x1.1 == 5)
  (br k (x1.1 == 5)
  (jn k (z7.h22 k) ((m__0, m__1, m__2, m__3, m__4, m__5, m__6, m__7, m__8, m__9, m__10, m__11, m__12, m__13, ()), (x1.1, x1.2.1, x1.2.2.1, x1.2.2.2.1, x1.2.2.2.2.1, x1.2.2.2.2.2.1, ()), y4.1.1, y4.1.2.1, x5, ()))
  (br k (x1.1 == 13)
  (br k (decide (0 ≤ x1.2.1 ∧ x1.2.1 < (m__8.length : Int)))
  (bd k (m__8[x1.2.1.toNat]?) fun x15 =>
  jn k (z7.h32 k) ((m__0, m__1, m__2, m__3, m__4, m__5, m__6, m__7, m__8, m__9, m__10, m__11, m__12, m__13, ()), (x1.1, x1.2.1, x1.2.2.1, x1.2.2.2.1, x1.2.2.2.2.1, x1.2.2.2.2.2.1, ()), x15, y4.1.2.1, x5, ()))
  none)
  (jn k (z7.h26 k) ((m__0, m__1, m__2, m__3, m__4, m__5, m__6, m__7, m__8, m__9, m__10, m__11, m__12, m__13, ()), (x1.1, x1.2.1, x1.2.2.1, x1.2.2.2.1, x1.2.2.2.2.1, x1.2.2.2.2.2.1, ()), y4.1.1, y4.1.2.1, x5, x1.1, ()))))
  (br k (x1.1 == 6)
  (br k (x1.1 == 6)
  (jn k (z7.h22 k) ((m__0, m__1, m__2, m__3, m__4, m__5, m__6, m__7, m__8, m__9, m__10, m__11, m__12, m__13, ()), (x1.1, x1.2.1, x1.2.2.1, x1.2.2.2.1, x1.2.2.2.2.1, x1.2.2.2.2.2.1, ()), y4.1.1, y4.1.2.1, x5, ()))
  (br k (x1.1 == 13)
  (br k (decide (0 ≤ x1.2.1 ∧ x1.2.1 < (m__8.length : Int)))
  (bd k (m__8[x1.2.1.toNat]?) fun x16 =>
  jn k (z7.h32 k) ((m__0, m__1, m__2, m__3, m__4, m__5, m__6, m__7, m__8, m__9, m__10, m__11, m__12, m__13, ()), (x1.1, x1.2.1, x1.2.2.1, x1.2.2.2.1, x1.2.2.2.2.1, x1.2.2.2.2.2.1, ()), x16, y4.1.2.1, x5, ()))
  none)
  (jn k (z7.h26 k) ((m__0, m__1, m__2, m__3, m__4, m__5, m__6, m__7, m__8, m__9, m__10, m__11, m__12, m__13, ()), (x1.1, x1.2.1, x1.2.2.1, x1.2.2.2.1, x1.2.2.2.2.1, x1.2.2.2.2.2.1, ()), y4.1.1, y4.1.2.1, x5, x1.1, ()))))
  (br k (x1.1 == 9)
  (br k (x1.1 == 9)
  (jn k (z7.h22 k) ((m__0, m__1, m__2, m__3, m__4, m__5, m__6, m__7, m__8, m__9, m__10, m__11, m__12, m__13, ()), (x1.1, x1.2.1, x1.2.2.1, x1.2.2.2.1, x1.2.2.2.2.1, x1.2.2.2.2.2.1, ()), y4.1.1, y4.1.2.1, x5, ()))
  (br k (x1.1 == 13)
  (br k (decide (0 ≤ x1.2.1 ∧ x1.2.1 < (m__8.length : Int)))
  (bd k (m__8[x1.2.1.toNat]?) fun x17 =>
  jn k (z7.h32 k) ((m__0, m__1, m__2, m__3, m__4, m__5, m__6, m__7, m__8, m__9, m__10, m__11, m__12, m__13, ()), (x1.1, x1.2.1, x1.2.2.1, x1.2.2.2.1, x1.2.2.2.2.1, x1.2.2.2.2.2.1, ()), x17, y4.1.2.1, x5, ()))
  none)
  (jn k (z7.h26 k) ((m__0, m__1, m__2, m__3, m__4, m__5, m__6, m__7, m__8, m__9, m__10, m__11, m__12, m__13, ()), (x1.1, x1.2.1, x1.2.2.1, x1.2.2.2.1, x1.2.2.2.2.1, x1.2.2.2.2.2.1, ()), y4.1.1, y4.1.2.1, x5, x1.1, ()))))
  (br k (x1.1 == 10)
  (jn k (z7.h22 k) ((m__0, m__1, m__2, m__3, m__4, m__5, m__6, m__7, m__8, m__9, m__10, m__11, m__12, m__13, ()), (x1.1, x1.2.1, x1.2.2.1, x1.2.2.2.1, x1.2.2.2.2.1, x1.2.2.2.2.2.1, ()), y4.1.1, y4.1.2.1, x5, ()))
  (br k (x1.1 == 13)
  (br k (decide (0 ≤ x1.2.1 ∧ x1.2.1 < (m__8.length : Int)))
  (bd k (m__8[x1.2.1.toNat]?) fun x18 =>
  jn k (z7.h32 k) ((m__0, m__1, m__2, m__3, m__4, m__5, m__6, m__7, m__8, m__9, m__10, m__11, m__12, m__13, ()), (x1.1, x1.2.1, x1.2.2.1, x1.2.2.2.1, x1.2.2.2.2.1, x1.2.2.2.2.2.1, ()), x18, y4.1.2.1, x5, ()))
  none)
  (jn k (z7.h26 k) ((m__0, m__1, m__2, m__3, m__4, m__5, m__6, m__7, m__8, m__9, m__10, m__11, m__12, m__13, ()), (x1.1, x1.2.1, x1.2.2.1, x1.2.2.2.1, x1.2.2.2.2.1, x1.2.2.2.2.2.1, ()), y4.1.1, y4.1.2.1, x5, x1.1, ())))))))))))
  none))
  (br k ((0 : Int) != 0)
  (jn k (z7.h7 k) ((m__0, m__1, m__2, m__3, m__4, m__5, m__6, m__7, m__8, m__9, m__10, m__11, m__12, m__13, ()), 0, ()))
  (br k (decide (0 ≤ m__7 ∧ m__7 < (m__4.length : Int)))
  (bd k (m__4[m__7.toNat]?) fun x19 =>
  br k (x1.1 == 1)
  (br k (decide (0 ≤ x1.2.1 ∧ x1.2.1 < (m__8.length : Int)))
  (bd k (m__8[x1.2.1.toNat]?) fun x20 =>
  jn k (z7.h32 k) ((m__0, m__1, m__2, m__3, m__4, m__5, m__6, m__7, m__8.set x1.2.1.toNat 0, m__9, m__10, m__11, m__12, m__13, ()), (x1.1, x1.2.1, x1.2.2.1, x1.2.2.2.1, x1.2.2.2.2.1, x1.2.2.2.2.2.1, ()), 0, 0, x19, ()))
  none)
  (br k (x1.1 == 2)
  (br k (decide (0 ≤ x1.2.1 ∧ x1.2.1 < (m__9.length : Int)))
  (bd k (m__9[x1.2.1.toNat]?) fun x21 =>
  jn k (z7.h32 k) ((m__0, m__1, m__2, m__3, m__4, m__5, m__6, m__7, m__8, m__9.set x1.2.1.toNat ((0 : Int) == 1), m__10, m__11, m__12, m__13, ()), (x1.1, x1.2.1, x1.2.2.1, x1.2.2.2.1, x1.2.2.2.2.1, x1.2.2.2.2.2.1, ()), 0, 0, x19, ()))
  none)
  (br k (x1.1 == 3)
  (jn k (z7.h15 k) ((m__0, m__1, m__2, m__3, m__4, m__5, m__6, m__7, m__8, m__9, m__10, m__11, m__12, m__13, ()), (x1.1, x1.2.1, x1.2.2.1, x1.2.2.2.1, x1.2.2.2.2.1, x1.2.2.2.2.2.1, ()), 0, x19, ()))
  (br k (x1.1 == 4)
  (bd k (z32 k (m__5, ())) fun y22 =>
  br k (m__12 == y22.1.1)
  (br k (decide (0 ≤ x1.2.1 ∧ x1.2.1 < (m__8.length : Int)))
  (bd k (m__8[x1.2.1.toNat]?) fun x23 =>
  jn k (z7.h32 k) ((m__0, m__1, m__2, m__3, m__4, m__5, m__6, m__7, m__8.set x1.2.1.toNat x1.2.2.2.2.1, m__9, m__10, m__11, m__12, m__13, ()), (x1.1, x1.2.1, x1.2.2.1, x1.2.2.2.1, x1.2.2.2.2.1, x1.2.2.2.2.2.1, ()), 0, 0, x19, ()))
  none)
  (br k (decide (0 ≤ m__12))
  (bd k (m__5[m__12.toNat]?) fun x24 =>
  br k (!decide ((IntKind.wrap .i64 ((IntKind.wrap .i64 (x1.2.2.2.2.2.1 - x1.2.2.2.2.1)) + 1)) = 0))
  (br k (decide ((x24.tmod (IntKind.wrap .i64 ((IntKind.wrap .i64 (x1.2.2.2.2.2.1 - x1.2.2.2.2.1)) + 1))) < 0))
  (br k (decide (0 ≤ x1.2.1 ∧ x1.2.1 < (m__8.length : Int)))
  (bd k (m__8[x1.2.1.toNat]?) fun x25 =>
  jn k (z7.h32 k) ((m__0, m__1, m__2, m__3, m__4, m__5, m__6, m__7, m__8.set x1.2.1.toNat (IntKind.wrap .i64 (x1.2.2.2.2.1 + (IntKind.wrap .i64 ((x24.tmod (IntKind.wrap .i64 ((IntKind.wrap .i64 (x1.2.2.2.2.2.1 - x1.2.2.2.2.1)) + 1))) + (IntKind.wrap .i64 ((IntKind.wrap .i64 (x1.2.2.2.2.2.1 - x1.2.2.2.2.1)) + 1)))))), m__9, m__10, m__11, IntKind.wrap .i64 (m__12 + 1), m__13, ()), (x1.1, x1.2.1, x1.2.2.1, x1.2.2.2.1, x1.2.2.2.2.1, x1.2.2.2.2.2.1, ()), 0, 0, x19, ()))
  none)
  (br k (decide (0 ≤ x1.2.1 ∧ x1.2.1 < (m__8.length : Int)))
  (bd k (m__8[x1.2.1.toNat]?) fun x26 =>
  jn k (z7.h32 k) ((m__0, m__1, m__2, m__3, m__4, m__5, m__6, m__7, m__8.set x1.2.1.toNat (IntKind.wrap .i64 (x1.2.2.2.2.1 + (x24.tmod (IntKind.wrap .i64 ((IntKind.wrap .i64 (x1.2.2.2.2.2.1 - x1.2.2.2.2.1)) + 1))))), m__9, m__10, m__11, IntKind.wrap .i64 (m__12 + 1), m__13, ()), (x1.1, x1.2.1, x1.2.2.1, x1.2.2.2.1, x1.2.2.2.2.1, x1.2.2.2.2.2.1, ()), 0, 0, x19, ()))
  none))
  none)
  none))
  (br k (x1.1 == 5)
  (br k (x1.1 == 5)
  (jn k (z7.h22 k) ((m__0, m__1, m__2, m__3, m__4, m__5, m__6, m__7, m__8, m__9, m__10, m__11, m__12, m__13, ()), (x1.1, x1.2.1, x1.2.2.1, x1.2.2.2.1, x1.2.2.2.2.1, x1.2.2.2.2.2.1, ()), 0, 0, x19, ()))
  (br k (x1.1 == 13)
  (br k (decide (0 ≤ x1.2.1 ∧ x1.2.1 < (m__8.length : Int)))
  (bd k (m__8[x1.2.1.toNat]?) fun x27 =>
  jn k (z7.h32 k) ((m__0, m__1, m__2, m__3, m__4, m__5, m__6, m__7, m__8, m__9, m__10, m__11, m__12, m__13, ()), (x1.1, x1.2.1, x1.2.2.1, x1.2.2.2.1, x1.2.2.2.2.1, x1.2.2.2.2.2.1, ()), x27, 0, x19, ()))
  none)
  (jn k (z7.h26 k) ((m__0, m__1, m__2, m__3, m__4, m__5, m__6, m__7, m__8, m__9, m__10, m__11, m__12, m__13, ()), (x1.1, x1.2.1, x1.2.2.1, x1.2.2.2.1, x1.2.2.2.2.1, x1.2.2.2.2.2.1, ()), 0, 0, x19, x1.1, ()))))
  (br k (x1.1 == 6)
  (br k (x1.1 == 6)
  (jn k (z7.h22 k) ((m__0, m__1, m__2, m__3, m__4, m__5, m__6, m__7, m__8, m__9, m__10, m__11, m__12, m__13, ()), (x1.1, x1.2.1, x1.2.2.1, x1.2.2.2.1, x1.2.2.2.2.1, x1.2.2.2.2.2.1, ()), 0, 0, x19, ()))
  (br k (x1.1 == 13)
  (br k (decide (0 ≤ x1.2.1 ∧ x1.2.1 < (m__8.length : Int)))
  (bd k (m__8[x1.2.1.toNat]?) fun x28 =>
  jn k (z7.h32 k) ((m__0, m__1, m__2, m__3, m__4, m__5, m__6, m__7, m__8, m__9, m__10, m__11, m__12, m__13, ()), (x1.1, x1.2.1, x1.2.2.1, x1.2.2.2.1, x1.2.2.2.2.1, x1.2.2.2.2.2.1, ()), x28, 0, x19, ()))
  none)
  (jn k (z7.h26 k) ((m__0, m__1, m__2, m__3, m__4, m__5, m__6, m__7, m__8, m__9, m__10, m__11, m__12, m__13, ()), (x1.1, x1.2.1, x1.2.2.1, x1.2.2.2.1, x1.2.2.2.2.1, x1.2.2.2.2.2.1, ()), 0, 0, x19, x1.1, ()))))
  (br k (x1.1 == 9)
  (br k (x1.1 == 9)
  (jn k (z7.h22 k) ((m__0, m__1, m__2, m__3, m__4, m__5, m__6, m__7, m__8, m__9, m__10, m__11, m__12, m__13, ()), (x1.1, x1.2.1, x1.2.2.1, x1.2.2.2.1, x1.2.2.2.2.1, x1.2.2.2.2.2.1, ()), 0, 0, x19, ()))
  (br k (x1.1 == 13)
  (br k (decide (0 ≤ x1.2.1 ∧ x1.2.1 < (m__8.length : Int)))
  (bd k (m__8[x1.2.1.toNat]?) fun x29 =>
  jn k (z7.h32 k) ((m__0, m__1, m__2, m__3, m__4, m__5, m__6, m__7, m__8, m__9, m__10, m__11, m__12, m__13, ()), (x1.1, x1.2.1, x1.2.2.1, x1.2.2.2.1, x1.2.2.2.2.1, x1.2.2.2.2.2.1, ()), x29, 0, x19, ()))
  none)
  (jn k (z7.h26 k) ((m__0, m__1, m__2, m__3, m__4, m__5, m__6, m__7, m__8, m__9, m__10, m__11, m__12, m__13, ()), (x1.1, x1.2.1, x1.2.2.1, x1.2.2.2.1, x1.2.2.2.2.1, x1.2.2.2.2.2.1, ()), 0, 0, x19, x1.1, ()))))
  (br k (x1.1 == 10)
  (jn k (z7.h22 k) ((m__0, m__1, m__2, m__3, m__4, m__5, m__6, m__7, m__8, m__9, m__10, m__11, m__12, m__13, ()), (x1.1, x1.2.1, x1.2.2.1, x1.2.2.2.1, x1.2.2.2.2.1, x1.2.2.2.2.2.1, ()), 0, 0, x19, ()))
  (br k (x1.1 == 13)
  (br k (decide (0 ≤ x1.2.1 ∧ x1.2.1 < (m__8.length : Int)))
  (bd k (m__8[x1.2.1.toNat]?) fun x30 =>
  jn k (z7.h32 k) ((m__0, m__1, m__2, m__3, m__4, m__5, m__6, m__7, m__8, m__9, m__10, m__11, m__12, m__13, ()), (x1.1, x1.2.1, x1.2.2.1, x1.2.2.2.1, x1.2.2.2.2.1, x1.2.2.2.2.2.1, ()), x30, 0, x19, ()))
  none)
  (jn k (z7.h26 k) ((m__0, m__1, m__2, m__3, m__4, m__5, m__6, m__7, m__8, m__9, m__10, m__11, m__12, m__13, ()), (x1.1, x1.2.1, x1.2.2.1, x1.2.2.2.1, x1.2.2.2.2.1, x1.2.2.2.2.2.1, ()), 0, 0, x19, x1.1, ())))))))))))
  none)))
  none
noncomputable def z7.sg (k : Nat) : Sig := ⟨(.cons QS3 .nil), QS6, z7 k, []⟩
theorem z7.ok (k : Nat) : SigHolds Tryz.prog L 87 (z7.sg k) :=
  soe (C := ⟨Tryz.prog, [(133, [z87.sg k]), (134, [z34.sg k]), (137, [z137.sg k]), (135, [z138.sg k]), (168, [z32.sg k])], k, [], [(136, [(87, { keys := [], draws := [] })])]⟩) (hc1 (z87.ok k) (hc1 (z34.ok k) (hc1 (z137.ok k) (hc1 (z138.ok k) (hc1 (z32.ok k) holds_nil))))) Tryz.func87 { joins := [(4, [(33, .bool)])], keys := [(1, [([], false), ([0], false), ([0], false), ([0], false), ([0], false), ([], false), ([0], false), ([0], false), ([0], false), ([0], false), ([], false), ([], false), ([3], true), ([3], true)]), (17, [([6], false), ([6], false), ([3], false), ([3], false), ([], false), ([3], false), ([0, 87], true), ([0], false), ([0], true)])], heads := [(7, [(0, QS3), (5, (.pur (.int .i64)))]), (32, [(0, QS3), (3, QS18), (4, (.pur (.int .i64))), (5, (.pur (.int .i64))), (7, (.pur (.int .i64)))]), (15, [(0, QS3), (3, QS18), (4, (.pur (.int .i64))), (7, (.pur (.int .i64)))]), (22, [(0, QS3), (3, QS18), (4, (.pur (.int .i64))), (5, (.pur (.int .i64))), (7, (.pur (.int .i64)))]), (26, [(0, QS3), (3, QS18), (4, (.pur (.int .i64))), (5, (.pur (.int .i64))), (7, (.pur (.int .i64))), (56, (.pur (.int .i64)))])] } fun _ => by kernel_rfl
end Go.Pev.F
