/-
  Printed by gen.py: what functions of the program compute, and that they do.
-/
import Derived.Test.YtibhfjdhhdjjcaaGreatDoorK08
set_option linter.unusedSimpArgs false
set_option linter.unusedVariables false
open Go.Proofs Go.Pev
namespace Go.Pev.F
set_option maxRecDepth 100000
noncomputable def z182 (k : Nat) : ((Int × Int × Unit) × ((Unit) × Unit) × Unit) → Option ((Bool × Unit) × (Unit × ((Unit) × Unit) × Unit)) := fun x => match x with
 | (x_, ((()), ()), ()) =>
  bd k (z181 k (x_, ())) fun y1 =>
  some ((!y1.1.1, ()), ((), ((()), ()), ()))
noncomputable def z182.sg (k : Nat) : Sig := ⟨(.cons (.pur QK0) (.cons (.box (.cons (.fn (.func 238) 0 .nil) .nil)) .nil)), QS17, z182 k, []⟩
theorem z182.ok {L : List (Nat × Obj)} (k : Nat) : SigHolds Tryz.prog L 253 (z182.sg k) :=
  soe (C := ⟨Tryz.prog, [(238, [z181.sg k])], k, [], []⟩) (hc1 (z181.ok k) holds_nil) Tryz.func253 {} fun _ => by kernel_rfl
noncomputable def z70.l0 (k : Nat) : E2 ((QT15 × QT37 × Int × Int × Unit) → Option QT49) := fun G0 x => match x with
 | (s_, (((()), ()), ()), t7, t8, ()) =>
  br k (decide (t8 < t7))
  (br k (decide (0 ≤ t8))
  (bd k (s_[t8.toNat]?) fun x1 =>
  bd k (z182 k (x1, ((()), ()), ())) fun y2 =>
  br k (y2.1.1)
  (some ((t8, ()), ((), (((()), ()), ()), ())))
  (G0 (s_, (((()), ()), ()), t7, IntKind.wrap .i64 (t8 + 1), ())))
  none)
  (some (((-1), ()), ((), (((()), ()), ()), ())))
noncomputable def z70 (k : Nat) : (QT15 × QT37 × Unit) → Option QT49 := fun x => match x with
 | (s_, (((()), ()), ()), ()) =>
  iter (z70.l0 k) k (s_, (((()), ()), ()), (s_.length : Int), 0, ())
noncomputable def z70.sg (k : Nat) : Sig := ⟨(.cons (.pur (.sl false QK0)) (.cons (.fn (.func 253) 0 (.cons (.box (.cons (.fn (.func 238) 0 .nil) .nil)) .nil)) .nil)), QS5, z70 k, []⟩
theorem z70.ok {L : List (Nat × Obj)} (k : Nat) : SigHolds Tryz.prog L 259 (z70.sg k) :=
  soe (C := ⟨Tryz.prog, [(253, [z182.sg k])], k, [], []⟩) (hc1 (z182.ok k) holds_nil) Tryz.func259 { loops := [(0, [(0, (.pur (.sl false QK0))), (1, (.fn (.func 253) 0 (.cons (.box (.cons (.fn (.func 238) 0 .nil) .nil)) .nil))), (7, (.pur (.int .i64))), (8, (.pur (.int .i64)))])] } fun _ => by kernel_rfl
noncomputable def z183 (k : Nat) : (QT15 × QT37 × Unit) → Option ((Bool × Unit) × (Unit × QT37 × Unit)) := fun x => match x with
 | (s_, (((()), ()), ()), ()) =>
  bd k (z70 k (s_, (((()), ()), ()), ())) fun y1 =>
  some ((decide (y1.1.1 ≥ 0), ()), ((), (((()), ()), ()), ()))
noncomputable def z183.sg (k : Nat) : Sig := ⟨(.cons (.pur (.sl false QK0)) (.cons (.fn (.func 253) 0 (.cons (.box (.cons (.fn (.func 238) 0 .nil) .nil)) .nil)) .nil)), QS17, z183 k, []⟩
theorem z183.ok {L : List (Nat × Obj)} (k : Nat) : SigHolds Tryz.prog L 252 (z183.sg k) :=
  soe (C := ⟨Tryz.prog, [(259, [z70.sg k])], k, [], []⟩) (hc1 (z70.ok k) holds_nil) Tryz.func252 {} fun _ => by kernel_rfl
noncomputable def z184 (k : Nat) : (QT15 × (Unit) × Unit) → Option ((Bool × Unit) × (Unit × (Unit) × Unit)) := fun x => match x with
 | (list, (()), ()) =>
  bd k (z183 k (list, (((()), ()), ()), ())) fun y1 =>
  some ((!y1.1.1, ()), ((), (()), ()))
noncomputable def z184.sg (k : Nat) : Sig := ⟨(.cons (.pur (.sl false QK0)) (.cons (.fn (.func 238) 0 .nil) .nil)), QS17, z184 k, []⟩
theorem z184.ok {L : List (Nat × Obj)} (k : Nat) : SigHolds Tryz.prog L 237 (z184.sg k) :=
  soe (C := ⟨Tryz.prog, [(252, [z183.sg k])], k, [], []⟩) (hc1 (z183.ok k) holds_nil) Tryz.func237 {} fun _ => by kernel_rfl
noncomputable def z125 (k : Nat) : (QT15 × Unit) → Option QT22 := fun x => match x with
 | (t, ()) =>
  br k (decide ((t.length : Int) ≤ 3))
  (bd k (z184 k (t, (()), ())) fun y1 =>
  some ((y1.1.1, ()), ((), ())))
  (some ((false, ()), ((), ())))
noncomputable def z125.sg (k : Nat) : Sig := ⟨QS35, QS17, z125 k, []⟩
theorem z125.ok {L : List (Nat × Obj)} (k : Nat) : SigHolds Tryz.prog L 205 (z125.sg k) :=
  soe (C := ⟨Tryz.prog, [(237, [z184.sg k])], k, [], []⟩) (hc1 (z184.ok k) holds_nil) Tryz.func205 {} fun _ => by kernel_rfl
noncomputable def z71 (k : Nat) : (QT15 × Unit) → Option ((QT15 × Unit) × (Unit × Unit)) := fun x => match x with
 | (s_, ()) =>
  br k (s_.isEmpty) (agree
  (some (([], ()), ((), ())))
  (br k (decide ((([] : List (Int × Int × Unit)).length + s_.length) * 16 ≤ maxBytes))
  (some ((([] : List (Int × Int × Unit)) ++ s_, ()), ((), ())))
  none))
  (br k (decide ((([] : List (Int × Int × Unit)).length + s_.length) * 16 ≤ maxBytes))
  (some ((([] : List (Int × Int × Unit)) ++ s_, ()), ((), ())))
  none)
noncomputable def z71.sg (k : Nat) : Sig := ⟨QS35, (.cons (.own QK0) .nil), z71 k, []⟩
theorem z71.ok {L : List (Nat × Obj)} (k : Nat) : SigHolds Tryz.prog L 51 (z71.sg k) :=
  soe (C := ⟨Tryz.prog, [], k, [], []⟩) holds_nil Tryz.func51 {} fun _ => by kernel_rfl
noncomputable def z105 (k : Nat) : (QT15 × Int × Int × Unit) → Option ((QT15 × Unit) × QT29) := fun x => match x with
 | (t, line, pick, ()) =>
  bd k (z125 k (t, ())) fun y1 =>
  br k (!y1.1.1)
  (some (([], ()), ((), (), (), ())))
  (bd k (z125 k (([(line, pick, ())] : List (Int × Int × Unit)), ())) fun y2 =>
  br k (!y2.1.1)
  (some (([], ()), ((), (), (), ())))
  (bd k (z71 k (t, ())) fun y3 =>
  br k (decide ((t.length : Int) < 3))
  (br k (decide ((y3.1.1.length + ([(line, pick, ())] : List (Int × Int × Unit)).length) * 16 ≤ maxBytes))
  (some ((y3.1.1 ++ ([(line, pick, ())] : List (Int × Int × Unit)), ()), ((), (), (), ())))
  none)
  (some ((y3.1.1, ()), ((), (), (), ())))))
noncomputable def z105.sg (k : Nat) : Sig := ⟨(.cons (.pur (.sl false QK0)) QS20), (.cons (.own QK0) .nil), z105 k, []⟩
theorem z105.ok {L : List (Nat × Obj)} (k : Nat) : SigHolds Tryz.prog L 190 (z105.sg k) :=
  soe (C := ⟨Tryz.prog, [(205, [z125.sg k]), (51, [z71.sg k])], k, [], []⟩) (hc1 (z125.ok k) (hc1 (z71.ok k) holds_nil)) Tryz.func190 {} fun _ => by kernel_rfl
noncomputable def z84.l0 (k : Nat) : E2 ((Int × Int × QT15 × Int × Int × Unit) → Option QT16) := fun G0 x => match x with
 | (line, n, t8, t9, t10, ()) =>
  br k (decide (t10 < t9))
  (br k (decide (0 ≤ t10))
  (bd k (t8[t10.toNat]?) fun x1 =>
  bd k (z32 k (x1.1 == line, ())) fun y2 =>
  G0 (line, IntKind.wrap .i64 (n + y2.1.1), t8, t9, IntKind.wrap .i64 (t10 + 1), ()))
  none)
  (some ((n, ()), ((), (), ())))
noncomputable def z84 (k : Nat) : (QT15 × Int × Unit) → Option QT16 := fun x => match x with
 | (t, line, ()) =>
  iter (z84.l0 k) k (line, 0, t, (t.length : Int), 0, ())
noncomputable def z84.sg (k : Nat) : Sig := ⟨(.cons (.pur (.sl false QK0)) QS5), QS5, z84 k, []⟩
theorem z84.ok {L : List (Nat × Obj)} (k : Nat) : SigHolds Tryz.prog L 191 (z84.sg k) :=
  soe (C := ⟨Tryz.prog, [(169, [z32.sg k])], k, [], []⟩) (hc1 (z32.ok k) holds_nil) Tryz.func191 { loops := [(0, [(1, (.pur (.int .i64))), (5, (.pur (.int .i64))), (8, (.pur (.sl false QK0))), (9, (.pur (.int .i64))), (10, (.pur (.int .i64)))])] } fun _ => by kernel_rfl
noncomputable def z160 (k : Nat) : (QT1 × Int × Unit) → Option QT16 := fun x => match x with
 | (n, v, ()) =>
  bd k (z7 k (v, n.2.2.2.2.1, n.2.2.2.2.2.1, ())) fun y1 =>
  br k (!y1.1.1)
  (some ((IntKind.wrap .i64 ((IntKind.wrap .i64 (n.2.2.2.2.2.1 - n.2.2.2.2.1)) + 1), ()), ((), (), ())))
  (some ((IntKind.wrap .i64 (v - n.2.2.2.2.1), ()), ((), (), ())))
noncomputable def z160.sg (k : Nat) : Sig := ⟨(.cons (.pur QK2) QS5), QS5, z160 k, []⟩
theorem z160.ok {L : List (Nat × Obj)} (k : Nat) : SigHolds Tryz.prog L 192 (z160.sg k) :=
  soe (C := ⟨Tryz.prog, [(83, [z7.sg k])], k, [], []⟩) (hc1 (z7.ok k) holds_nil) Tryz.func192 {} fun _ => by kernel_rfl
noncomputable def z126 (k : Nat) : (QT3 × QT1 × Int × Unit) → Option ((Unit) × (QT3 × Unit × Unit × Unit)) := fun x => match x with
 | ((m__0, m__1, m__2, m__3, m__4, m__5, m__6, m__7, m__8, m__9, m__10, m__11, m__12, m__13, ()), n, v, ()) =>
  br k (n.1 == 6)
  (bd k (z105 k (m__13, m__7, v, ())) fun y1 =>
  some ((()), ((m__0, m__1, m__2, m__3, m__4, m__5, m__6, m__7, m__8, m__9, m__10, m__11, m__12, y1.1.1, ()), (), (), ())))
  (br k (n.1 == 10)
  ((br k (v == 1)
  (bd k (z84 k (m__13, m__7, ())) fun y2 =>
  some (decide (y2.1.1 < n.2.2.2.2.1), ()))
  (some (false, ())) : Option (Bool × Unit)).bind fun j3 =>
  br k (j3.1)
  (bd k (z105 k (m__13, m__7, 1, ())) fun y4 =>
  some ((()), ((m__0, m__1, m__2, m__3, m__4, m__5, m__6, m__7, m__8, m__9, m__10, m__11, m__12, y4.1.1, ()), (), (), ())))
  (some ((()), ((m__0, m__1, m__2, m__3, m__4, m__5, m__6, m__7, m__8, m__9, m__10, m__11, m__12, m__13, ()), (), (), ()))))
  (br k (n.1 == 13)
  (bd k (z160 k (n, v, ())) fun y5 =>
  bd k (z105 k (m__13, m__7, y5.1.1, ())) fun y6 =>
  some ((()), ((m__0, m__1, m__2, m__3, m__4, m__5, m__6, m__7, m__8, m__9, m__10, m__11, m__12, y6.1.1, ()), (), (), ())))
  (br k (n.1 == 14)
  (some ((()), ((m__0, m__1, m__2, m__3, m__4, m__5, m__6, m__7, m__8, m__9, m__10, m__11, m__12, [], ()), (), (), ())))
  (some ((()), ((m__0, m__1, m__2, m__3, m__4, m__5, m__6, m__7, m__8, m__9, m__10, m__11, m__12, m__13, ()), (), (), ()))))))
noncomputable def z126.sg (k : Nat) : Sig := ⟨(.cons QS4 (.cons (.pur QK2) QS5)), .nil, z126 k, []⟩
theorem z126.ok {L : List (Nat × Obj)} (k : Nat) : SigHolds Tryz.prog L 137 (z126.sg k) :=
  soe (C := ⟨Tryz.prog, [(190, [z105.sg k]), (191, [z84.sg k]), (192, [z160.sg k])], k, [], []⟩) (hc1 (z105.ok k) (hc1 (z84.ok k) (hc1 (z160.ok k) holds_nil))) Tryz.func137 { joins := [(6, [(40, .bool)])], keys := [(9, [([], false), ([], false), ([0], false), ([0], false), ([0], false), ([], false), ([4], false), ([], false), ([], false), ([0, 61], false), ([0], false), ([0], false), ([0, 61], true)])] } fun _ => by kernel_rfl
noncomputable def z127 (k : Nat) : (QT3 × QT1 × Unit) → Option ((Int × Unit) × (QT3 × Unit × Unit)) := fun x => match x with
 | ((m__0, m__1, m__2, m__3, m__4, m__5, m__6, m__7, m__8, m__9, m__10, m__11, m__12, m__13, ()), n, ()) =>
  bd k (z18 k ((m__8, m__9, m__10, ()), n.2.2.1, ())) fun y1 =>
  br k (y1.1.2.1 != 0)
  (some ((y1.1.2.1, ()), ((m__0, m__1, m__2, m__3, m__4, m__5, m__6, m__7, m__8, m__9, m__10, m__11, m__12, m__13, ()), (), ())))
  (bd k (z18 k ((m__8, m__9, m__10, ()), n.2.2.2.1, ())) fun y2 =>
  br k (decide (0 ≤ n.2.1 ∧ n.2.1 < (m__10.length : Int)))
  (bd k (m__10[n.2.1.toNat]?) fun x3 =>
  br k (y2.1.2.1 != 0)
  (some ((y2.1.2.1, ()), ((m__0, m__1, m__2, m__3, m__4, m__5, m__6, m__7, m__8, m__9, m__10.set n.2.1.toNat x3, m__11, m__12, m__13, ()), (), ())))
  (bd k (z33 k (x3, ())) fun y4 =>
  bd k (z7 k (y1.1.1, 0, IntKind.wrap .i64 (y4.1.1 - 1), ())) fun y5 =>
  br k (!y5.1.1)
  (some ((5, ()), ((m__0, m__1, m__2, m__3, m__4, m__5, m__6, m__7, m__8, m__9, m__10.set n.2.1.toNat x3, m__11, m__12, m__13, ()), (), ())))
  (br k (decide (0 ≤ y1.1.1 ∧ y1.1.1 < (x3.length : Int)))
  (bd k (x3[y1.1.1.toNat]?) fun x6 =>
  some ((0, ()), ((m__0, m__1, m__2, m__3, m__4, m__5, m__6, m__7, m__8, m__9, m__10.set n.2.1.toNat (x3.set y1.1.1.toNat y2.1.1), m__11, m__12, m__13, ()), (), ())))
  none)))
  none)
noncomputable def z127.sg (k : Nat) : Sig := ⟨(.cons QS4 (.cons (.pur QK2) .nil)), QS5, z127 k, []⟩
theorem z127.ok {L : List (Nat × Obj)} (k : Nat) : SigHolds Tryz.prog L 135 (z127.sg k) :=
  soe (C := ⟨Tryz.prog, [(134, [z18.sg k]), (168, [z33.sg k]), (83, [z7.sg k])], k, [], []⟩) (hc1 (z18.ok k) (hc1 (z33.ok k) (hc1 (z7.ok k) holds_nil))) Tryz.func135 { keys := [(5, [([], false), ([0], false), ([0], false), ([0], false), ([0], false), ([0], false), ([3], false), ([3], false), ([0], false), ([0, 43], true), ([], false)])] } fun _ => by kernel_rfl
noncomputable def z6.h7 (k : Nat)  : (QT3 × Int × Unit) → Option QT42 := fun x => match x with
 | ((m__0, m__1, m__2, m__3, m__4, m__5, m__6, m__7, m__8, m__9, m__10, m__11, m__12, m__13, ()), code, ()) =>
  some ((code, ()), ((m__0, m__1, m__2, m__3, m__4, m__5, m__6, m__7, m__8, m__9, m__10, m__11, m__12, m__13, ()), ()))
noncomputable def z6.h32 (k : Nat)  : (QT3 × QT1 × Int × Int × Int × Unit) → Option QT42 := fun x => match x with
 | ((m__0, m__1, m__2, m__3, m__4, m__5, m__6, m__7, m__8, m__9, m__10, m__11, m__12, m__13, ()), (n_0, n_1, n_2, n_3, n_4, n_5, ()), v, code, next_, ()) =>
  br k (code != 0)
  (some ((code, ()), ((m__0, m__1, m__2, m__3, m__4, m__5, m__6, m__7, m__8, m__9, m__10, m__11, m__12, m__13, ()), ())))
  (bd k (z126 k ((m__0, m__1, m__2, m__3, m__4, m__5, m__6, m__7, m__8, m__9, m__10, m__11, m__12, m__13, ()), (n_0, n_1, n_2, n_3, n_4, n_5, ()), v, ())) fun y7 =>
  some ((0, ()), ((y7.2.1.1, y7.2.1.2.1, y7.2.1.2.2.1, y7.2.1.2.2.2.1, y7.2.1.2.2.2.2.1, y7.2.1.2.2.2.2.2.1, y7.2.1.2.2.2.2.2.2.1, next_, y7.2.1.2.2.2.2.2.2.2.2.1, y7.2.1.2.2.2.2.2.2.2.2.2.1, y7.2.1.2.2.2.2.2.2.2.2.2.2.1, y7.2.1.2.2.2.2.2.2.2.2.2.2.2.1, y7.2.1.2.2.2.2.2.2.2.2.2.2.2.2.1, y7.2.1.2.2.2.2.2.2.2.2.2.2.2.2.2.1, ()), ())))
noncomputable def z6.h15 (k : Nat)  : (QT3 × QT1 × Int × Int × Unit) → Option QT42 := fun x => match x with
 | ((m__0, m__1, m__2, m__3, m__4, m__5, m__6, m__7, m__8, m__9, m__10, m__11, m__12, m__13, ()), (n_0, n_1, n_2, n_3, n_4, n_5, ()), v, next_, ()) =>
  bd k (z127 k ((m__0, m__1, m__2, m__3, m__4, m__5, m__6, m__7, m__8, m__9, m__10, m__11, m__12, m__13, ()), (n_0, n_1, n_2, n_3, n_4, n_5, ()), ())) fun y9 =>
  jn k (z6.h32 k) ((y9.2.1.1, y9.2.1.2.1, y9.2.1.2.2.1, y9.2.1.2.2.2.1, y9.2.1.2.2.2.2.1, y9.2.1.2.2.2.2.2.1, y9.2.1.2.2.2.2.2.2.1, y9.2.1.2.2.2.2.2.2.2.1, y9.2.1.2.2.2.2.2.2.2.2.1, y9.2.1.2.2.2.2.2.2.2.2.2.1, y9.2.1.2.2.2.2.2.2.2.2.2.2.1, y9.2.1.2.2.2.2.2.2.2.2.2.2.2.1, y9.2.1.2.2.2.2.2.2.2.2.2.2.2.2.1, y9.2.1.2.2.2.2.2.2.2.2.2.2.2.2.2.1, ()), (n_0, n_1, n_2, n_3, n_4, n_5, ()), v, y9.1.1, next_, ())
noncomputable def z6.h22 (k : Nat)  : (QT3 × QT1 × Int × Int × Int × Unit) → Option QT42 := fun x => match x with
 | ((m__0, m__1, m__2, m__3, m__4, m__5, m__6, m__7, m__8, m__9, m__10, m__11, m__12, m__13, ()), (n_0, n_1, n_2, n_3, n_4, n_5, ()), v, code, next_, ()) =>
  br k (v == 1)
  (jn k (z6.h32 k) ((m__0, m__1, m__2, m__3, m__4, m__5, m__6, m__7, m__8, m__9, m__10, m__11, m__12, m__13, ()), (n_0, n_1, n_2, n_3, n_4, n_5, ()), v, code, IntKind.wrap .i64 (m__7 + 1), ()))
  (jn k (z6.h32 k) ((m__0, m__1, m__2, m__3, m__4, m__5, m__6, m__7, m__8, m__9, m__10, m__11, m__12, m__13, ()), (n_0, n_1, n_2, n_3, n_4, n_5, ()), v, code, next_, ()))
noncomputable def z6.h26 (k : Nat)  : (QT3 × QT1 × Int × Int × Int × Int × Unit) → Option QT42 := fun x => match x with
 | ((m__0, m__1, m__2, m__3, m__4, m__5, m__6, m__7, m__8, m__9, m__10, m__11, m__12, m__13, ()), (n_0, n_1, n_2, n_3, n_4, n_5, ()), v, code, next_, t56, ()) =>
  br k (t56 == 11)
  (br k (v == 0)
  (jn k (z6.h32 k) ((m__0, m__1, m__2, m__3, m__4, m__5, m__6, m__7, m__8, m__9, m__10, m__11, m__12, m__13, ()), (n_0, n_1, n_2, n_3, n_4, n_5, ()), v, 7, next_, ()))
  (jn k (z6.h32 k) ((m__0, m__1, m__2, m__3, m__4, m__5, m__6, m__7, m__8, m__9, m__10, m__11, m__12, m__13, ()), (n_0, n_1, n_2, n_3, n_4, n_5, ()), v, code, next_, ())))
  (br k (t56 == 12)
  (br k (v == 0)
  (jn k (z6.h32 k) ((m__0, m__1, m__2, m__3, m__4, m__5, m__6, m__7, m__8, m__9, m__10, m__11, m__12, m__13, ()), (n_0, n_1, n_2, n_3, n_4, n_5, ()), v, 3, next_, ()))
  (jn k (z6.h32 k) ((m__0, m__1, m__2, m__3, m__4, m__5, m__6, m__7, m__8, m__9, m__10, m__11, m__12, m__13, ()), (n_0, n_1, n_2, n_3, n_4, n_5, ()), v, code, next_, ())))
  (jn k (z6.h32 k) ((m__0, m__1, m__2, m__3, m__4, m__5, m__6, m__7, m__8, m__9, m__10, m__11, m__12, m__13, ()), (n_0, n_1, n_2, n_3, n_4, n_5, ()), v, code, next_, ())))
noncomputable def z6 (k : Nat) : (QT3 × Unit) → Option QT42 := fun x => match x with
 | ((m__0, m__1, m__2, m__3, m__4, m__5, m__6, m__7, m__8, m__9, m__10, m__11, m__12, m__13, ()), ()) =>
  br k (decide (0 ≤ m__7))
  (bd k (m__3[m__7.toNat]?) fun x1 =>
  (bd k (z82 k (x1.1, ())) fun y2 =>
  br k (decide (y2.1.1 > 0))
  (some (x1.1 != 3, ()))
  (some (false, ())) : Option (Bool × Unit)).bind fun j3 =>
  br k (j3.1)
  (bd k (z18 k ((m__8, m__9, m__10, ()), x1.2.2.2.1, ())) fun y4 =>
  br k (y4.1.2.1 != 0)
  (jn k (z6.h7 k) ((m__0, m__1, m__2, m__3, m__4, m__5, m__6, m__7, m__8, m__9, m__10, m__11, m__12, m__13, ()), y4.1.2.1, ()))
  (br k (decide (0 ≤ m__7 ∧ m__7 < (m__4.length : Int)))
  (bd k (m__4[m__7.toNat]?) fun x5 =>
  br k (x1.1 == 1)
  (br k (decide (0 ≤ x1.2.1 ∧ x1.2.1 < (m__8.length : Int)))
  (bd k (m__8[x1.2.1.toNat]?) fun x6 =>
  jn k (z6.h32 k) ((m__0, m__1, m__2, m__3, m__4, m__5, m__6, m__7, m__8.set x1.2.1.toNat y4.1.1, m__9, m__10, m__11, m__12, m__13, ()), (x1.1, x1.2.1, x1.2.2.1, x1.2.2.2.1, x1.2.2.2.2.1, x1.2.2.2.2.2.1, ()), y4.1.1, y4.1.2.1, x5, ()))
  none)
  (br k (x1.1 == 2)
  (br k (decide (0 ≤ x1.2.1 ∧ x1.2.1 < (m__9.length : Int)))
  (bd k (m__9[x1.2.1.toNat]?) fun x8 =>
  jn k (z6.h32 k) ((m__0, m__1, m__2, m__3, m__4, m__5, m__6, m__7, m__8, m__9.set x1.2.1.toNat (y4.1.1 == 1), m__10, m__11, m__12, m__13, ()), (x1.1, x1.2.1, x1.2.2.1, x1.2.2.2.1, x1.2.2.2.2.1, x1.2.2.2.2.2.1, ()), y4.1.1, y4.1.2.1, x5, ()))
  none)
  (br k (x1.1 == 3)
  (jn k (z6.h15 k) ((m__0, m__1, m__2, m__3, m__4, m__5, m__6, m__7, m__8, m__9, m__10, m__11, m__12, m__13, ()), (x1.1, x1.2.1, x1.2.2.1, x1.2.2.2.1, x1.2.2.2.2.1, x1.2.2.2.2.2.1, ()), y4.1.1, x5, ()))
  (br k (x1.1 == 4)
  (bd k (z33 k (m__5, ())) fun y10 =>
  br k (m__12 == y10.1.1)
  (br k (decide (0 ≤ x1.2.1 ∧ x1.2.1 < (m__8.length : Int)))
  (bd k (m__8[x1.2.1.toNat]?) fun x11 =>
  jn k (z6.h32 k) ((m__0, m__1, m__2, m__3, m__4, m__5, m__6, m__7, m__8.set x1.2.1.toNat x1.2.2.2.2.1, m__9, m__10, m__11, m__12, m__13, ()), (x1.1, x1.2.1, x1.2.2.1, x1.2.2.2.1, x1.2.2.2.2.1, x1.2.2.2.2.2.1, ()), y4.1.1, y4.1.2.1, x5, ()))
  none)
  (br k (decide (0 ≤ m__12))
  (bd k (m__5[m__12.toNat]?) fun x12 =>
  br k (!decide ((IntKind.wrap .i64 ((IntKind.wrap .i64 (x1.2.2.2.2.2.1 - x1.2.2.2.2.1)) + 1)) = 0))
  (br k (decide ((x12.tmod (IntKind.wrap .i64 ((IntKind.wrap .i64 (x1.2.2.2.2.2.1 - x1.2.2.2.2.1)) + 1))) < 0))
  (br k (decide (0 ≤ x1.2.1 ∧ x1.2.1 < (m__8.length : Int)))
  (bd k (m__8[x1.2.1.toNat]?) fun x13 =>
  jn k (z6.h32 k) ((m__0, m__1, m__2, m__3, m__4, m__5, m__6, m__7, m__8.set x1.2.1.toNat (IntKind.wrap .i64 (x1.2.2.2.2.1 + (IntKind.wrap .i64 ((x12.tmod (IntKind.wrap .i64 ((IntKind.wrap .i64 (x1.2.2.2.2.2.1 - x1.2.2.2.2.1)) + 1))) + (IntKind.wrap .i64 ((IntKind.wrap .i64 (x1.2.2.2.2.2.1 - x1.2.2.2.2.1)) + 1)))))), m__9, m__10, m__11, IntKind.wrap .i64 (m__12 + 1), m__13, ()), (x1.1, x1.2.1, x1.2.2.1, x1.2.2.2.1, x1.2.2.2.2.1, x1.2.2.2.2.2.1, ()), y4.1.1, y4.1.2.1, x5, ()))
  none)
  (br k (decide (0 ≤ x1.2.1 ∧ x1.2.1 < (m__8.length : Int)))
  (bd k (m__8[x1.2.1.toNat]?) fun x14 =>
  jn k (z6.h32 k) ((m__0, m__1, m__2, m__3, m__4, m__5, m__6, m__7, m__8.set x1.2.1.toNat (IntKind.wrap .i64 (x1.2.2.2.2.1 + (x12.tmod (IntKind.wrap .i64 ((IntKind.wrap .i64 (x1.2.2.2.2.2.1 - x1.2.2.2.2.1)) + 1))))), m__9, m__10, m__11, IntKind.wrap .i64 (m__12 + 1), m__13, ()), (x1.1, x1.2.1, x1.2.2.1, x1.2.2.2.1, x1.2.2.2.2.1, x1.2.2.2.2.2.1, ()), y4.1.1, y4.1.2.1, x5, ()))
  none))
  none)
  none))
  (br k (x1.1 == 5)
  (br k (x1.1 == 5)
  (jn k (z6.h22 k) ((m__0, m__1, m__2, m__3, m__4, m__5, m__6, m__7, m__8, m__9, m__10, m__11, m__12, m__13, ()), (x1.1, x1.2.1, x1.2.2.1, x1.2.2.2.1, x1.2.2.2.2.1, x1.2.2.2.2.2.1, ()), y4.1.1, y4.1.2.1, x5, ()))
  (br k (x1.1 == 13)
  (br k (decide (0 ≤ x1.2.1 ∧ x1.2.1 < (m__8.length : Int)))
  (bd k (m__8[x1.2.1.toNat]?) fun x15 =>
  jn k (z6.h32 k) ((m__0, m__1, m__2, m__3, m__4, m__5, m__6, m__7, m__8, m__9, m__10, m__11, m__12, m__13, ()), (x1.1, x1.2.1, x1.2.2.1, x1.2.2.2.1, x1.2.2.2.2.1, x1.2.2.2.2.2.1, ()), x15, y4.1.2.1, x5, ()))
  none)
  (jn k (z6.h26 k) ((m__0, m__1, m__2, m__3, m__4, m__5, m__6, m__7, m__8, m__9, m__10, m__11, m__12, m__13, ()), (x1.1, x1.2.1, x1.2.2.1, x1.2.2.2.1, x1.2.2.2.2.1, x1.2.2.2.2.2.1, ()), y4.1.1, y4.1.2.1, x5, x1.1, ()))))
  (br k (x1.1 == 6)
  (br k (x1.1 == 6)
  (jn k (z6.h22 k) ((m__0, m__1, m__2, m__3, m__4, m__5, m__6, m__7, m__8, m__9, m__10, m__11, m__12, m__13, ()), (x1.1, x1.2.1, x1.2.2.1, x1.2.2.2.1, x1.2.2.2.2.1, x1.2.2.2.2.2.1, ()), y4.1.1, y4.1.2.1, x5, ()))
  (br k (x1.1 == 13)
  (br k (decide (0 ≤ x1.2.1 ∧ x1.2.1 < (m__8.length : Int)))
  (bd k (m__8[x1.2.1.toNat]?) fun x16 =>
  jn k (z6.h32 k) ((m__0, m__1, m__2, m__3, m__4, m__5, m__6, m__7, m__8, m__9, m__10, m__11, m__12, m__13, ()), (x1.1, x1.2.1, x1.2.2.1, x1.2.2.2.1, x1.2.2.2.2.1, x1.2.2.2.2.2.1, ()), x16, y4.1.2.1, x5, ()))
  none)
  (jn k (z6.h26 k) ((m__0, m__1, m__2, m__3, m__4, m__5, m__6, m__7, m__8, m__9, m__10, m__11, m__12, m__13, ()), (x1.1, x1.2.1, x1.2.2.1, x1.2.2.2.1, x1.2.2.2.2.1, x1.2.2.2.2.2.1, ()), y4.1.1, y4.1.2.1, x5, x1.1, ()))))
  (br k (x1.1 == 9)
  (br k (x1.1 == 9)
  (jn k (z6.h22 k) ((m__0, m__1, m__2, m__3, m__4, m__5, m__6, m__7, m__8, m__9, m__10, m__11, m__12, m__13, ()), (x1.1, x1.2.1, x1.2.2.1, x1.2.2.2.1, x1.2.2.2.2.1, x1.2.2.2.2.2.1, ()), y4.1.1, y4.1.2.1, x5, ()))
  (br k (x1.1 == 13)
  (br k (decide (0 ≤ x1.2.1 ∧ x1.2.1 < (m__8.length : Int)))
  (bd k (m__8[x1.2.1.toNat]?) fun x17 =>
  jn k (z6.h32 k) ((m__0, m__1, m__2, m__3, m__4, m__5, m__6, m__7, m__8, m__9, m__10, m__11, m__12, m__13, ()), (x1.1, x1.2.1, x1.2.2.1, x1.2.2.2.1, x1.2.2.2.2.1, x1.2.2.2.2.2.1, ()), x17, y4.1.2.1, x5, ()))
  none)
  (jn k (z6.h26 k) ((m__0, m__1, m__2, m__3, m__4, m__5, m__6, m__7, m__8, m__9, m__10, m__11, m__12, m__13, ()), (x1.1, x1.2.1, x1.2.2.1, x1.2.2.2.1, x1.2.2.2.2.1, x1.2.2.2.2.2.1, ()), y4.1.1, y4.1.2.1, x5, x1.1, ()))))
  (br k (x1.1 == 10)
  (jn k (z6.h22 k) ((m__0, m__1, m__2, m__3, m__4, m__5, m__6, m__7, m__8, m__9, m__10, m__11, m__12, m__13, ()), (x1.1, x1.2.1, x1.2.2.1, x1.2.2.2.1, x1.2.2.2.2.1, x1.2.2.2.2.2.1, ()), y4.1.1, y4.1.2.1, x5, ()))
  (br k (x1.1 == 13)
  (br k (decide (0 ≤ x1.2.1 ∧ x1.2.1 < (m__8.length : Int)))
  (bd k (m__8[x1.2.1.toNat]?) fun x18 =>
  jn k (z6.h32 k) ((m__0, m__1, m__2, m__3, m__4, m__5, m__6, m__7, m__8, m__9, m__10, m__11, m__12, m__13, ()), (x1.1, x1.2.1, x1.2.2.1, x1.2.2.2.1, x1.2.2.2.2.1, x1.2.2.2.2.2.1, ()), x18, y4.1.2.1, x5, ()))
  none)
  (jn k (z6.h26 k) ((m__0, m__1, m__2, m__3, m__4, m__5, m__6, m__7, m__8, m__9, m__10, m__11, m__12, m__13, ()), (x1.1, x1.2.1, x1.2.2.1, x1.2.2.2.1, x1.2.2.2.2.1, x1.2.2.2.2.2.1, ()), y4.1.1, y4.1.2.1, x5, x1.1, ())))))))))))
  none))
  (br k ((0 : Int) != 0)
  (jn k (z6.h7 k) ((m__0, m__1, m__2, m__3, m__4, m__5, m__6, m__7, m__8, m__9, m__10, m__11, m__12, m__13, ()), 0, ()))
  (br k (decide (0 ≤ m__7 ∧ m__7 < (m__4.length : Int)))
  (bd k (m__4[m__7.toNat]?) fun x19 =>
  br k (x1.1 == 1)
  (br k (decide (0 ≤ x1.2.1 ∧ x1.2.1 < (m__8.length : Int)))
  (bd k (m__8[x1.2.1.toNat]?) fun x20 =>
  jn k (z6.h32 k) ((m__0, m__1, m__2, m__3, m__4, m__5, m__6, m__7, m__8.set x1.2.1.toNat 0, m__9, m__10, m__11, m__12, m__13, ()), (x1.1, x1.2.1, x1.2.2.1, x1.2.2.2.1, x1.2.2.2.2.1, x1.2.2.2.2.2.1, ()), 0, 0, x19, ()))
  none)
  (br k (x1.1 == 2)
  (br k (decide (0 ≤ x1.2.1 ∧ x1.2.1 < (m__9.length : Int)))
  (bd k (m__9[x1.2.1.toNat]?) fun x21 =>
  jn k (z6.h32 k) ((m__0, m__1, m__2, m__3, m__4, m__5, m__6, m__7, m__8, m__9.set x1.2.1.toNat ((0 : Int) == 1), m__10, m__11, m__12, m__13, ()), (x1.1, x1.2.1, x1.2.2.1, x1.2.2.2.1, x1.2.2.2.2.1, x1.2.2.2.2.2.1, ()), 0, 0, x19, ()))
  none)
  (br k (x1.1 == 3)
  (jn k (z6.h15 k) ((m__0, m__1, m__2, m__3, m__4, m__5, m__6, m__7, m__8, m__9, m__10, m__11, m__12, m__13, ()), (x1.1, x1.2.1, x1.2.2.1, x1.2.2.2.1, x1.2.2.2.2.1, x1.2.2.2.2.2.1, ()), 0, x19, ()))
  (br k (x1.1 == 4)
  (bd k (z33 k (m__5, ())) fun y22 =>
  br k (m__12 == y22.1.1)
  (br k (decide (0 ≤ x1.2.1 ∧ x1.2.1 < (m__8.length : Int)))
  (bd k (m__8[x1.2.1.toNat]?) fun x23 =>
  jn k (z6.h32 k) ((m__0, m__1, m__2, m__3, m__4, m__5, m__6, m__7, m__8.set x1.2.1.toNat x1.2.2.2.2.1, m__9, m__10, m__11, m__12, m__13, ()), (x1.1, x1.2.1, x1.2.2.1, x1.2.2.2.1, x1.2.2.2.2.1, x1.2.2.2.2.2.1, ()), 0, 0, x19, ()))
  none)
  (br k (decide (0 ≤ m__12))
  (bd k (m__5[m__12.toNat]?) fun x24 =>
  br k (!decide ((IntKind.wrap .i64 ((IntKind.wrap .i64 (x1.2.2.2.2.2.1 - x1.2.2.2.2.1)) + 1)) = 0))
  (br k (decide ((x24.tmod (IntKind.wrap .i64 ((IntKind.wrap .i64 (x1.2.2.2.2.2.1 - x1.2.2.2.2.1)) + 1))) < 0))
  (br k (decide (0 ≤ x1.2.1 ∧ x1.2.1 < (m__8.length : Int)))
  (bd k (m__8[x1.2.1.toNat]?) fun x25 =>
  jn k (z6.h32 k) ((m__0, m__1, m__2, m__3, m__4, m__5, m__6, m__7, m__8.set x1.2.1.toNat (IntKind.wrap .i64 (x1.2.2.2.2.1 + (IntKind.wrap .i64 ((x24.tmod (IntKind.wrap .i64 ((IntKind.wrap .i64 (x1.2.2.2.2.2.1 - x1.2.2.2.2.1)) + 1))) + (IntKind.wrap .i64 ((IntKind.wrap .i64 (x1.2.2.2.2.2.1 - x1.2.2.2.2.1)) + 1)))))), m__9, m__10, m__11, IntKind.wrap .i64 (m__12 + 1), m__13, ()), (x1.1, x1.2.1, x1.2.2.1, x1.2.2.2.1, x1.2.2.2.2.1, x1.2.2.2.2.2.1, ()), 0, 0, x19, ()))
  none)
  (br k (decide (0 ≤ x1.2.1 ∧ x1.2.1 < (m__8.length : Int)))
  (bd k (m__8[x1.2.1.toNat]?) fun x26 =>
  jn k (z6.h32 k) ((m__0, m__1, m__2, m__3, m__4, m__5, m__6, m__7, m__8.set x1.2.1.toNat (IntKind.wrap .i64 (x1.2.2.2.2.1 + (x24.tmod (IntKind.wrap .i64 ((IntKind.wrap .i64 (x1.2.2.2.2.2.1 - x1.2.2.2.2.1)) + 1))))), m__9, m__10, m__11, IntKind.wrap .i64 (m__12 + 1), m__13, ()), (x1.1, x1.2.1, x1.2.2.1, x1.2.2.2.1, x1.2.2.2.2.1, x1.2.2.2.2.2.1, ()), 0, 0, x19, ()))
  none))
  none)
  none))
  (br k (x1.1 == 5)
  (br k (x1.1 == 5)
  (jn k (z6.h22 k) ((m__0, m__1, m__2, m__3, m__4, m__5, m__6, m__7, m__8, m__9, m__10, m__11, m__12, m__13, ()), (x1.1, x1.2.1, x1.2.2.1, x1.2.2.2.1, x1.2.2.2.2.1, x1.2.2.2.2.2.1, ()), 0, 0, x19, ()))
  (br k (x1.1 == 13)
  (br k (decide (0 ≤ x1.2.1 ∧ x1.2.1 < (m__8.length : Int)))
  (bd k (m__8[x1.2.1.toNat]?) fun x27 =>
  jn k (z6.h32 k) ((m__0, m__1, m__2, m__3, m__4, m__5, m__6, m__7, m__8, m__9, m__10, m__11, m__12, m__13, ()), (x1.1, x1.2.1, x1.2.2.1, x1.2.2.2.1, x1.2.2.2.2.1, x1.2.2.2.2.2.1, ()), x27, 0, x19, ()))
  none)
  (jn k (z6.h26 k) ((m__0, m__1, m__2, m__3, m__4, m__5, m__6, m__7, m__8, m__9, m__10, m__11, m__12, m__13, ()), (x1.1, x1.2.1, x1.2.2.1, x1.2.2.2.1, x1.2.2.2.2.1, x1.2.2.2.2.2.1, ()), 0, 0, x19, x1.1, ()))))
  (br k (x1.1 == 6)
  (br k (x1.1 == 6)
  (jn k (z6.h22 k) ((m__0, m__1, m__2, m__3, m__4, m__5, m__6, m__7, m__8, m__9, m__10, m__11, m__12, m__13, ()), (x1.1, x1.2.1, x1.2.2.1, x1.2.2.2.1, x1.2.2.2.2.1, x1.2.2.2.2.2.1, ()), 0, 0, x19, ()))
  (br k (x1.1 == 13)
  (br k (decide (0 ≤ x1.2.1 ∧ x1.2.1 < (m__8.length : Int)))
  (bd k (m__8[x1.2.1.toNat]?) fun x28 =>
  jn k (z6.h32 k) ((m__0, m__1, m__2, m__3, m__4, m__5, m__6, m__7, m__8, m__9, m__10, m__11, m__12, m__13, ()), (x1.1, x1.2.1, x1.2.2.1, x1.2.2.2.1, x1.2.2.2.2.1, x1.2.2.2.2.2.1, ()), x28, 0, x19, ()))
  none)
  (jn k (z6.h26 k) ((m__0, m__1, m__2, m__3, m__4, m__5, m__6, m__7, m__8, m__9, m__10, m__11, m__12, m__13, ()), (x1.1, x1.2.1, x1.2.2.1, x1.2.2.2.1, x1.2.2.2.2.1, x1.2.2.2.2.2.1, ()), 0, 0, x19, x1.1, ()))))
  (br k (x1.1 == 9)
  (br k (x1.1 == 9)
  (jn k (z6.h22 k) ((m__0, m__1, m__2, m__3, m__4, m__5, m__6, m__7, m__8, m__9, m__10, m__11, m__12, m__13, ()), (x1.1, x1.2.1, x1.2.2.1, x1.2.2.2.1, x1.2.2.2.2.1, x1.2.2.2.2.2.1, ()), 0, 0, x19, ()))
  (br k (x1.1 == 13)
  (br k (decide (0 ≤ x1.2.1 ∧ x1.2.1 < (m__8.length : Int)))
  (bd k (m__8[x1.2.1.toNat]?) fun x29 =>
  jn k (z6.h32 k) ((m__0, m__1, m__2, m__3, m__4, m__5, m__6, m__7, m__8, m__9, m__10, m__11, m__12, m__13, ()), (x1.1, x1.2.1, x1.2.2.1, x1.2.2.2.1, x1.2.2.2.2.1, x1.2.2.2.2.2.1, ()), x29, 0, x19, ()))
  none)
  (jn k (z6.h26 k) ((m__0, m__1, m__2, m__3, m__4, m__5, m__6, m__7, m__8, m__9, m__10, m__11, m__12, m__13, ()), (x1.1, x1.2.1, x1.2.2.1, x1.2.2.2.1, x1.2.2.2.2.1, x1.2.2.2.2.2.1, ()), 0, 0, x19, x1.1, ()))))
  (br k (x1.1 == 10)
  (jn k (z6.h22 k) ((m__0, m__1, m__2, m__3, m__4, m__5, m__6, m__7, m__8, m__9, m__10, m__11, m__12, m__13, ()), (x1.1, x1.2.1, x1.2.2.1, x1.2.2.2.1, x1.2.2.2.2.1, x1.2.2.2.2.2.1, ()), 0, 0, x19, ()))
  (br k (x1.1 == 13)
  (br k (decide (0 ≤ x1.2.1 ∧ x1.2.1 < (m__8.length : Int)))
  (bd k (m__8[x1.2.1.toNat]?) fun x30 =>
  jn k (z6.h32 k) ((m__0, m__1, m__2, m__3, m__4, m__5, m__6, m__7, m__8, m__9, m__10, m__11, m__12, m__13, ()), (x1.1, x1.2.1, x1.2.2.1, x1.2.2.2.1, x1.2.2.2.2.1, x1.2.2.2.2.2.1, ()), x30, 0, x19, ()))
  none)
  (jn k (z6.h26 k) ((m__0, m__1, m__2, m__3, m__4, m__5, m__6, m__7, m__8, m__9, m__10, m__11, m__12, m__13, ()), (x1.1, x1.2.1, x1.2.2.1, x1.2.2.2.1, x1.2.2.2.2.1, x1.2.2.2.2.2.1, ()), 0, 0, x19, x1.1, ())))))))))))
  none)))
  none
noncomputable def z6.sg (k : Nat) : Sig := ⟨(.cons QS4 .nil), QS5, z6 k, []⟩
theorem z6.ok {L : List (Nat × Obj)} (k : Nat) : SigHolds Tryz.prog L 87 (z6.sg k) :=
  soe (C := ⟨Tryz.prog, [(133, [z82.sg k]), (134, [z18.sg k]), (137, [z126.sg k]), (135, [z127.sg k]), (168, [z33.sg k])], k, [], [(136, [(87, { keys := [], draws := [] })])]⟩) (hc1 (z82.ok k) (hc1 (z18.ok k) (hc1 (z126.ok k) (hc1 (z127.ok k) (hc1 (z33.ok k) holds_nil))))) Tryz.func87 { joins := [(4, [(33, .bool)])], keys := [(1, [([], false), ([0], false), ([0], false), ([0], false), ([0], false), ([], false), ([0], false), ([0], false), ([0], false), ([0], false), ([], false), ([], false), ([3], true), ([3], true)]), (17, [([6], false), ([6], false), ([3], false), ([3], false), ([], false), ([3], false), ([0, 87], true), ([0], false), ([0], true)])], heads := [(7, [(0, QS4), (5, (.pur (.int .i64)))]), (32, [(0, QS4), (3, QS13), (4, (.pur (.int .i64))), (5, (.pur (.int .i64))), (7, (.pur (.int .i64)))]), (15, [(0, QS4), (3, QS13), (4, (.pur (.int .i64))), (7, (.pur (.int .i64)))]), (22, [(0, QS4), (3, QS13), (4, (.pur (.int .i64))), (5, (.pur (.int .i64))), (7, (.pur (.int .i64)))]), (26, [(0, QS4), (3, QS13), (4, (.pur (.int .i64))), (5, (.pur (.int .i64))), (7, (.pur (.int .i64))), (56, (.pur (.int .i64)))])] } fun _ => by kernel_rfl
end Go.Pev.F
