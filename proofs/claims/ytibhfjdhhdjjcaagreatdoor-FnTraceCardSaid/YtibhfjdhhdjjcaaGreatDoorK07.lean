/-
  Printed by gen.py: what functions of the program compute, and that they do.
-/
import Derived.Test.YtibhfjdhhdjjcaaGreatDoorK06
set_option linter.unusedSimpArgs false
set_option linter.unusedVariables false
open Go.Proofs Go.Pev
namespace Go.Pev.F
set_option maxRecDepth 100000
variable {L : List (Nat × Obj)}
noncomputable def z57 (k : Nat) : ((List (List UInt8)) × Unit) → Option QT36 := fun x => match x with
 | (list, ()) =>
  some (((list.length : Int), ()), ((), ()))
noncomputable def z57.sg (k : Nat) : Sig := ⟨(.cons (.pur (.sl false .str)) .nil), QS6, z57 k, []⟩
theorem z57.ok (k : Nat) : SigHolds Tryz.prog L 175 (z57.sg k) :=
  soe (C := ⟨Tryz.prog, [], k, [], []⟩) holds_nil Tryz.func175 {} fun _ => by kernel_rfl
noncomputable def z88 (k : Nat) : ((List QT39) × Unit) → Option QT36 := fun x => match x with
 | (list, ()) =>
  some (((list.length : Int), ()), ((), ()))
noncomputable def z88.sg (k : Nat) : Sig := ⟨(.cons (.pur QK17) .nil), QS6, z88 k, []⟩
theorem z88.ok (k : Nat) : SigHolds Tryz.prog L 176 (z88.sg k) :=
  soe (C := ⟨Tryz.prog, [], k, [], []⟩) holds_nil Tryz.func176 {} fun _ => by kernel_rfl
noncomputable def z158 (k : Nat) : (QT2 × (Int × Int × Unit) × Unit) → Option QT21 := fun x => match x with
 | (d_, t, ()) =>
  br k (t.1 == 1)
  (bd k (z8 k (t.2.1, 0, 999999999999999999, ())) fun y1 =>
  some ((y1.1.1, ()), ((), (), ())))
  (br k (t.1 == 2)
  (bd k (z57 k (d_.1, ())) fun y2 =>
  bd k (z8 k (t.2.1, 0, IntKind.wrap .i64 (y2.1.1 - 1), ())) fun y3 =>
  some ((y3.1.1, ()), ((), (), ())))
  (br k (t.1 == 3)
  (bd k (z57 k (d_.2.1, ())) fun y4 =>
  bd k (z8 k (t.2.1, 0, IntKind.wrap .i64 (y4.1.1 - 1), ())) fun y5 =>
  some ((y5.1.1, ()), ((), (), ())))
  (br k (t.1 == 6)
  (bd k (z88 k (d_.2.2.1, ())) fun y6 =>
  bd k (z8 k (t.2.1, 0, IntKind.wrap .i64 (y6.1.1 - 1), ())) fun y7 =>
  some ((y7.1.1, ()), ((), (), ())))
  ((bd k (z8 k (t.1, 4, 21, ())) fun y8 =>
  br k (y8.1.1)
  (some (t.2.1 == 0, ()))
  (some (false, ())) : Option (Bool × Unit)).bind fun j9 =>
  some ((j9.1, ()), ((), (), ()))))))
noncomputable def z158.sg (k : Nat) : Sig := ⟨(.cons QS4 (.cons (.pur QK0) .nil)), QS19, z158 k, []⟩
theorem z158.ok (k : Nat) : SigHolds Tryz.prog L 217 (z158.sg k) :=
  soe (C := ⟨Tryz.prog, [(83, [z8.sg k]), (175, [z57.sg k]), (176, [z88.sg k])], k, [], []⟩) (hc1 (z8.ok k) (hc1 (z57.ok k) (hc1 (z88.ok k) holds_nil))) Tryz.func217 { joins := [(10, [(4, .bool)])] } fun _ => by kernel_rfl
noncomputable def z192 (k : Nat) : ((Int × Int × Unit) × ((QT2 × Unit) × Unit) × Unit) → Option QT57 := fun x => match x with
 | (x_, ((a1_0_0, ()), ()), ()) =>
  bd k (z158 k (a1_0_0, x_, ())) fun y1 =>
  some ((!y1.1.1, ()), ((), ((a1_0_0, ()), ()), ()))
noncomputable def z192.sg (k : Nat) : Sig := ⟨(.cons (.pur QK0) (.cons (.box (.cons (.fn (.func 217) 1 (.cons QS4 .nil)) .nil)) .nil)), QS19, z192 k, []⟩
theorem z192.ok (k : Nat) : SigHolds Tryz.prog L 245 (z192.sg k) :=
  soe (C := ⟨Tryz.prog, [(217, [z158.sg k])], k, [], []⟩) (hc1 (z158.ok k) holds_nil) Tryz.func245 {} fun _ => by kernel_rfl
noncomputable def z70.l0 (k : Nat) : E2 ((QT7 × QT32 × Int × Int × Unit) → Option QT47) := fun G0 x => match x with
 | (s_, (((f_0_0_0, ()), ()), ()), t7, t8, ()) =>
  br k (decide (t8 < t7))
  (br k (decide (0 ≤ t8))
  (bd k (s_[t8.toNat]?) fun x1 =>
  bd k (z192 k (x1, ((f_0_0_0, ()), ()), ())) fun y2 =>
  br k (y2.1.1)
  (some ((t8, ()), ((), (((y2.2.2.1.1.1, ()), ()), ()), ())))
  (G0 (s_, (((y2.2.2.1.1.1, ()), ()), ()), t7, IntKind.wrap .i64 (t8 + 1), ())))
  none)
  (some (((-1), ()), ((), (((f_0_0_0, ()), ()), ()), ())))
noncomputable def z70 (k : Nat) : (QT7 × QT32 × Unit) → Option QT47 := fun x => match x with
 | (s_, (((f_0_0_0, ()), ()), ()), ()) =>
  iter (z70.l0 k) k (s_, (((f_0_0_0, ()), ()), ()), (s_.length : Int), 0, ())
noncomputable def z70.sg (k : Nat) : Sig := ⟨(.cons (.pur (.sl false QK0)) (.cons (.fn (.func 245) 0 (.cons (.box (.cons (.fn (.func 217) 1 (.cons QS4 .nil)) .nil)) .nil)) .nil)), QS6, z70 k, []⟩
theorem z70.ok (k : Nat) : SigHolds Tryz.prog L 256 (z70.sg k) :=
  soe (C := ⟨Tryz.prog, [(245, [z192.sg k])], k, [], []⟩) (hc1 (z192.ok k) holds_nil) Tryz.func256 { loops := [(0, [(0, (.pur (.sl false QK0))), (1, (.fn (.func 245) 0 (.cons (.box (.cons (.fn (.func 217) 1 (.cons QS4 .nil)) .nil)) .nil))), (7, (.pur (.int .i64))), (8, (.pur (.int .i64)))])] } fun _ => by kernel_rfl
noncomputable def z195 (k : Nat) : (QT7 × QT32 × Unit) → Option QT68 := fun x => match x with
 | (s_, (((f_0_0_0, ()), ()), ()), ()) =>
  bd k (z70 k (s_, (((f_0_0_0, ()), ()), ()), ())) fun y1 =>
  some ((decide (y1.1.1 ≥ 0), ()), ((), (((y1.2.2.1.1.1.1, ()), ()), ()), ()))
noncomputable def z195.sg (k : Nat) : Sig := ⟨(.cons (.pur (.sl false QK0)) (.cons (.fn (.func 245) 0 (.cons (.box (.cons (.fn (.func 217) 1 (.cons QS4 .nil)) .nil)) .nil)) .nil)), QS19, z195 k, []⟩
theorem z195.ok (k : Nat) : SigHolds Tryz.prog L 244 (z195.sg k) :=
  soe (C := ⟨Tryz.prog, [(256, [z70.sg k])], k, [], []⟩) (hc1 (z70.ok k) holds_nil) Tryz.func244 {} fun _ => by kernel_rfl
noncomputable def z159 (k : Nat) : (QT7 × (QT2 × Unit) × Unit) → Option QT54 := fun x => match x with
 | (list, (is_0, ()), ()) =>
  bd k (z195 k (list, (((is_0, ()), ()), ()), ())) fun y1 =>
  some ((!y1.1.1, ()), ((), ((), ()), ()))
noncomputable def z159.sg (k : Nat) : Sig := ⟨(.cons (.pur (.sl false QK0)) (.cons (.fn (.func 217) 1 (.cons QS4 .nil)) .nil)), QS19, z159 k, []⟩
theorem z159.ok (k : Nat) : SigHolds Tryz.prog L 216 (z159.sg k) :=
  soe (C := ⟨Tryz.prog, [(244, [z195.sg k])], k, [], []⟩) (hc1 (z195.ok k) holds_nil) Tryz.func216 {} fun _ => by kernel_rfl
noncomputable def z102 (k : Nat) : (Int × Unit) → Option QT70 := fun x => match x with
 | (op, ()) =>
  (br k (op == 6)
  (some (true, ()))
  (some (op == 7, ())) : Option (Bool × Unit)).bind fun j1 =>
  br k (j1.1)
  (some ((([1] : List Int), ()), ((), ())))
  (bd k (z8 k (op, 8, 18, ())) fun y2 =>
  br k (y2.1.1)
  (some ((([1, 1] : List Int), ()), ((), ())))
  (br k (op == 19)
  (some ((([2] : List Int), ()), ((), ())))
  ((br k (op == 20)
  (some (true, ()))
  (some (op == 21, ())) : Option (Bool × Unit)).bind fun j3 =>
  br k (j3.1)
  (some ((([2, 2] : List Int), ()), ((), ())))
  (some (([], ()), ((), ()))))))
noncomputable def z102.sg (k : Nat) : Sig := ⟨QS6, QS71, z102 k, []⟩
theorem z102.ok (k : Nat) : SigHolds Tryz.prog L 186 (z102.sg k) :=
  soe (C := ⟨Tryz.prog, [(83, [z8.sg k])], k, [], []⟩) (hc1 (z8.ok k) holds_nil) Tryz.func186 { joins := [(1, [(3, .bool)]), (7, [(19, .bool)])] } fun _ => by kernel_rfl
noncomputable def z71.l0 (k : Nat) : E2 (((List Int) × (List Int) × Int × Int × Unit) → Option QT21) := fun G0 x => match x with
 | (s1, s2, t12, t13, ()) =>
  br k (decide (t13 < t12))
  (br k (decide (0 ≤ t13))
  (bd k (s1[t13.toNat]?) fun x1 =>
  br k (decide (0 ≤ t13))
  (bd k (s2[t13.toNat]?) fun x2 =>
  br k (x1 != x2)
  (some ((false, ()), ((), (), ())))
  (G0 (s1, s2, t12, IntKind.wrap .i64 (t13 + 1), ())))
  none)
  none)
  (some ((true, ()), ((), (), ())))
noncomputable def z71 (k : Nat) : ((List Int) × (List Int) × Unit) → Option QT21 := fun x => match x with
 | (s1, s2, ()) =>
  br k ((s1.length : Int) != (s2.length : Int))
  (some ((false, ()), ((), (), ())))
  (iter (z71.l0 k) k (s1, s2, (s1.length : Int), 0, ()))
noncomputable def z71.sg (k : Nat) : Sig := ⟨(.cons QS29 (.cons QS29 .nil)), QS19, z71 k, []⟩
theorem z71.ok (k : Nat) : SigHolds Tryz.prog L 218 (z71.sg k) :=
  soe (C := ⟨Tryz.prog, [], k, [], []⟩) holds_nil Tryz.func218 { loops := [(0, [(0, QS29), (1, QS29), (12, (.pur (.int .i64))), (13, (.pur (.int .i64)))])] } fun _ => by kernel_rfl
noncomputable def z160 (k : Nat) : (Int × Unit) → Option QT36 := fun x => match x with
 | (op, ()) =>
  (bd k (z8 k (op, 3, 5, ())) fun y1 =>
  br k (y1.1.1)
  (some (true, ()))
  (some (decide (op ≥ 13), ())) : Option (Bool × Unit)).bind fun j2 =>
  br k (j2.1)
  (some ((2, ()), ((), ())))
  (some ((1, ()), ((), ())))
noncomputable def z160.sg (k : Nat) : Sig := ⟨QS6, QS6, z160 k, []⟩
theorem z160.ok (k : Nat) : SigHolds Tryz.prog L 219 (z160.sg k) :=
  soe (C := ⟨Tryz.prog, [(83, [z8.sg k])], k, [], []⟩) (hc1 (z8.ok k) holds_nil) Tryz.func219 { joins := [(1, [(8, .bool)])] } fun _ => by kernel_rfl
noncomputable def z43.l0 (k : Nat) : E2 (((List Int) × QT7 × Int × Int × Unit) → Option QT28) := fun G0 x => match x with
 | (pile, t20, t21, t22, ()) =>
  br k (decide (t22 < t21))
  (br k (decide (0 ≤ t22))
  (bd k (t20[t22.toNat]?) fun x2 =>
  bd k (z102 k (x2.1, ())) fun y3 =>
  (br k (decide ((IntKind.wrap .i64 ((pile.length : Int) - (y3.1.1.length : Int))) < 0))
  (some (true, ()))
  (br k (decide (0 ≤ (IntKind.wrap .i64 ((pile.length : Int) - (y3.1.1.length : Int))) ∧ (IntKind.wrap .i64 ((pile.length : Int) - (y3.1.1.length : Int))) ≤ (pile.length : Int)))
  (bd k (z71 k (subL pile ((IntKind.wrap .i64 ((pile.length : Int) - (y3.1.1.length : Int))).toNat) ((pile.length : Int).toNat - (IntKind.wrap .i64 ((pile.length : Int) - (y3.1.1.length : Int))).toNat), y3.1.1, ())) fun y4 =>
  some (!y4.1.1, ()))
  none) : Option (Bool × Unit)).bind fun j5 =>
  br k (j5.1)
  (some ((0, ()), ((), (), ())))
  (br k (decide (0 ≤ (IntKind.wrap .i64 ((pile.length : Int) - (y3.1.1.length : Int))) ∧ (IntKind.wrap .i64 ((pile.length : Int) - (y3.1.1.length : Int))) ≤ (pile.length : Int)))
  (bd k (z160 k (x2.1, ())) fun y6 =>
  br k (decide (((subL pile ((0 : Int).toNat) ((IntKind.wrap .i64 ((pile.length : Int) - (y3.1.1.length : Int))).toNat - (0 : Int).toNat)).length + ([y6.1.1] : List Int).length) * 8 ≤ maxBytes))
  (G0 ((subL pile ((0 : Int).toNat) ((IntKind.wrap .i64 ((pile.length : Int) - (y3.1.1.length : Int))).toNat - (0 : Int).toNat)) ++ ([y6.1.1] : List Int), t20, t21, IntKind.wrap .i64 (t22 + 1), ()))
  none)
  none))
  none)
  (br k ((pile.length : Int) != 1)
  (some ((0, ()), ((), (), ())))
  (br k (decide (0 ≤ (0 : Int) ∧ (0 : Int) < (pile.length : Int)))
  (bd k (pile[(0 : Int).toNat]?) fun x7 =>
  some ((x7, ()), ((), (), ())))
  none))
noncomputable def z43 (k : Nat) : (QT2 × QT7 × Unit) → Option QT28 := fun x => match x with
 | (d_, l_, ()) =>
  br k (decide ((l_.length : Int) > 40))
  (some ((0, ()), ((), (), ())))
  (bd k (z159 k (l_, (d_, ()), ())) fun y1 =>
  br k (!y1.1.1)
  (some ((0, ()), ((), (), ())))
  (iter (z43.l0 k) k ([], l_, (l_.length : Int), 0, ())))
noncomputable def z43.sg (k : Nat) : Sig := ⟨(.cons QS4 QS41), QS6, z43 k, []⟩
theorem z43.ok (k : Nat) : SigHolds Tryz.prog L 174 (z43.sg k) :=
  soe (C := ⟨Tryz.prog, [(216, [z159.sg k]), (186, [z102.sg k]), (218, [z71.sg k]), (219, [z160.sg k])], k, [], []⟩) (hc1 (z159.ok k) (hc1 (z102.ok k) (hc1 (z71.ok k) (hc1 (z160.ok k) holds_nil)))) Tryz.func174 { loops := [(0, [(5, (.own (.int .i64))), (20, (.pur (.sl false QK0))), (21, (.pur (.int .i64))), (22, (.pur (.int .i64)))])], joins := [(9, [(43, .bool)])], keys := [(11, [([], false), ([], false), ([5], false), ([7], false), ([7], false), ([], false), ([50], true), ([5, 50, 51], true), ([], false)])] } fun _ => by kernel_rfl
noncomputable def z72 (k : Nat) : (QT1 × Unit) → Option QT25 := fun x => match x with
 | (n, ()) =>
  (bd k (z8 k (n.2.2.2.2.1, (-999999999999999999), n.2.2.2.2.2.1, ())) fun y1 =>
  br k (y1.1.1)
  (some (decide (n.2.2.2.2.2.1 ≤ 999999999999999999), ()))
  (some (false, ())) : Option (Bool × Unit)).bind fun j2 =>
  some ((j2.1, ()), ((), ()))
noncomputable def z72.sg (k : Nat) : Sig := ⟨(.cons (.pur QK9) .nil), QS19, z72 k, []⟩
theorem z72.ok (k : Nat) : SigHolds Tryz.prog L 177 (z72.sg k) :=
  soe (C := ⟨Tryz.prog, [(83, [z8.sg k])], k, [], []⟩) (hc1 (z8.ok k) holds_nil) Tryz.func177 { joins := [(1, [(2, .bool)])] } fun _ => by kernel_rfl
noncomputable def z37 (k : Nat) : (QT1 × Unit) → Option QT25 := fun x => match x with
 | (n, ()) =>
  (br k (n.2.1 == 0)
  (br k ((n.2.2.1.length : Int) == 0)
  (br k ((n.2.2.2.1.length : Int) == 0)
  (br k (n.2.2.2.2.1 == 0)
  (some (n.2.2.2.2.2.1 == 0, ()))
  (some (false, ())))
  (some (false, ())))
  (some (false, ())))
  (some (false, ())) : Option (Bool × Unit)).bind fun j1 =>
  some ((j1.1, ()), ((), ()))
noncomputable def z37.sg (k : Nat) : Sig := ⟨(.cons (.pur QK9) .nil), QS19, z37 k, []⟩
theorem z37.ok (k : Nat) : SigHolds Tryz.prog L 178 (z37.sg k) :=
  soe (C := ⟨Tryz.prog, [], k, [], []⟩) holds_nil Tryz.func178 { joins := [(1, [(2, .bool)])] } fun _ => by kernel_rfl
noncomputable def z27.h11 (k : Nat)  : (QT2 × QT1 × QT1 × Unit) → Option QT21 := fun x => match x with
 | ((d__0, d__1, d__2, ()), (n_0, n_1, n_2, n_3, n_4, n_5, ()), (rest__0, rest__1, rest__2, rest__3, rest__4, rest__5, ()), ()) =>
  bd k (z57 k (d__0, ())) fun y6 =>
  bd k (z8 k (n_1, 0, IntKind.wrap .i64 (y6.1.1 - 1), ())) fun y7 =>
  (br k (n_0 == 4)
  (some (true, ()))
  (some (n_0 == 13, ())) : Option (Bool × Unit)).bind fun j8 =>
  br k (j8.1)
  ((br k (y7.1.1)
  (bd k (z72 k ((n_0, n_1, n_2, n_3, n_4, n_5, ()), ())) fun y9 =>
  br k (y9.1.1)
  (br k (n_0 == 4)
  (some (true, ()))
  (some (decide ((IntKind.wrap .i64 (n_5 - n_4)) ≤ 3), ())))
  (some (false, ())))
  (some (false, ())) : Option (Bool × Unit)).bind fun j10 =>
  (br k (j10.1)
  (bd k (z8 k (n_0, 1, 14, ())) fun y11 =>
  br k (y11.1.1)
  (bd k (z37 k ((rest__0, 0, rest__2, rest__3, 0, 0, ()), ())) fun y12 =>
  some (y12.1.1, ()))
  (some (false, ())))
  (some (false, ())) : Option (Bool × Unit)).bind fun j13 =>
  some ((j13.1, ()), ((), (), ())))
  ((br k (y7.1.1)
  (bd k (z8 k (n_0, 1, 14, ())) fun y14 =>
  br k (y14.1.1)
  (bd k (z37 k ((rest__0, 0, rest__2, rest__3, rest__4, rest__5, ()), ())) fun y15 =>
  some (y15.1.1, ()))
  (some (false, ())))
  (some (false, ())) : Option (Bool × Unit)).bind fun j16 =>
  some ((j16.1, ()), ((), (), ())))
noncomputable def z27.h12 (k : Nat)  : (QT2 × QT1 × QT1 × Bool × Int × Unit) → Option QT21 := fun x => match x with
 | ((d__0, d__1, d__2, ()), (n_0, n_1, n_2, n_3, n_4, n_5, ()), (rest__0, rest__1, rest__2, rest__3, rest__4, rest__5, ()), isRight, t38, ()) =>
  br k (t38 == 2)
  (bd k (z57 k (d__1, ())) fun y17 =>
  bd k (z8 k (n_1, 0, IntKind.wrap .i64 (y17.1.1 - 1), ())) fun y18 =>
  (br k (n_0 == 4)
  (some (true, ()))
  (some (n_0 == 13, ())) : Option (Bool × Unit)).bind fun j19 =>
  br k (j19.1)
  ((br k (y18.1.1)
  (bd k (z72 k ((n_0, n_1, n_2, n_3, n_4, n_5, ()), ())) fun y20 =>
  br k (y20.1.1)
  (br k (n_0 == 4)
  (some (true, ()))
  (some (decide ((IntKind.wrap .i64 (n_5 - n_4)) ≤ 3), ())))
  (some (false, ())))
  (some (false, ())) : Option (Bool × Unit)).bind fun j21 =>
  (br k (j21.1)
  (bd k (z8 k (n_0, 1, 14, ())) fun y22 =>
  br k (y22.1.1)
  (bd k (z37 k ((rest__0, 0, rest__2, rest__3, 0, 0, ()), ())) fun y23 =>
  some (y23.1.1, ()))
  (some (false, ())))
  (some (false, ())) : Option (Bool × Unit)).bind fun j24 =>
  some ((j24.1, ()), ((), (), ())))
  ((br k (y18.1.1)
  (bd k (z8 k (n_0, 1, 14, ())) fun y25 =>
  br k (y25.1.1)
  (bd k (z37 k ((rest__0, 0, rest__2, rest__3, rest__4, rest__5, ()), ())) fun y26 =>
  some (y26.1.1, ()))
  (some (false, ())))
  (some (false, ())) : Option (Bool × Unit)).bind fun j27 =>
  some ((j27.1, ()), ((), (), ()))))
  (br k (t38 == 3)
  (bd k (z88 k (d__2, ())) fun y28 =>
  bd k (z8 k (n_1, 0, IntKind.wrap .i64 (y28.1.1 - 1), ())) fun y29 =>
  (br k (n_0 == 4)
  (some (true, ()))
  (some (n_0 == 13, ())) : Option (Bool × Unit)).bind fun j30 =>
  br k (j30.1)
  ((br k (y29.1.1)
  (bd k (z72 k ((n_0, n_1, n_2, n_3, n_4, n_5, ()), ())) fun y31 =>
  br k (y31.1.1)
  (br k (n_0 == 4)
  (some (true, ()))
  (some (decide ((IntKind.wrap .i64 (n_5 - n_4)) ≤ 3), ())))
  (some (false, ())))
  (some (false, ())) : Option (Bool × Unit)).bind fun j32 =>
  (br k (j32.1)
  (bd k (z8 k (n_0, 1, 14, ())) fun y33 =>
  br k (y33.1.1)
  (bd k (z37 k ((rest__0, 0, [], rest__3, 0, 0, ()), ())) fun y34 =>
  some (y34.1.1, ()))
  (some (false, ())))
  (some (false, ())) : Option (Bool × Unit)).bind fun j35 =>
  some ((j35.1, ()), ((), (), ())))
  ((br k (y29.1.1)
  (bd k (z8 k (n_0, 1, 14, ())) fun y36 =>
  br k (y36.1.1)
  (bd k (z37 k ((rest__0, 0, [], rest__3, rest__4, rest__5, ()), ())) fun y37 =>
  some (y37.1.1, ()))
  (some (false, ())))
  (some (false, ())) : Option (Bool × Unit)).bind fun j38 =>
  some ((j38.1, ()), ((), (), ()))))
  (br k (t38 == 10)
  (bd k (z8 k (n_4, 1, 3, ())) fun y39 =>
  (br k (n_0 == 4)
  (some (true, ()))
  (some (n_0 == 13, ())) : Option (Bool × Unit)).bind fun j40 =>
  br k (j40.1)
  ((br k (y39.1.1)
  (bd k (z72 k ((n_0, n_1, n_2, n_3, n_4, n_5, ()), ())) fun y41 =>
  br k (y41.1.1)
  (br k (n_0 == 4)
  (some (true, ()))
  (some (decide ((IntKind.wrap .i64 (n_5 - n_4)) ≤ 3), ())))
  (some (false, ())))
  (some (false, ())) : Option (Bool × Unit)).bind fun j42 =>
  (br k (j42.1)
  (bd k (z8 k (n_0, 1, 14, ())) fun y43 =>
  br k (y43.1.1)
  (bd k (z37 k ((rest__0, rest__1, rest__2, rest__3, 0, 0, ()), ())) fun y44 =>
  some (y44.1.1, ()))
  (some (false, ())))
  (some (false, ())) : Option (Bool × Unit)).bind fun j45 =>
  some ((j45.1, ()), ((), (), ())))
  ((br k (y39.1.1)
  (bd k (z8 k (n_0, 1, 14, ())) fun y46 =>
  br k (y46.1.1)
  (bd k (z37 k ((rest__0, rest__1, rest__2, rest__3, 0, rest__5, ()), ())) fun y47 =>
  some (y47.1.1, ()))
  (some (false, ())))
  (some (false, ())) : Option (Bool × Unit)).bind fun j48 =>
  some ((j48.1, ()), ((), (), ()))))
  ((br k (n_0 == 4)
  (some (true, ()))
  (some (n_0 == 13, ())) : Option (Bool × Unit)).bind fun j49 =>
  br k (j49.1)
  ((br k (isRight)
  (bd k (z72 k ((n_0, n_1, n_2, n_3, n_4, n_5, ()), ())) fun y50 =>
  br k (y50.1.1)
  (br k (n_0 == 4)
  (some (true, ()))
  (some (decide ((IntKind.wrap .i64 (n_5 - n_4)) ≤ 3), ())))
  (some (false, ())))
  (some (false, ())) : Option (Bool × Unit)).bind fun j51 =>
  (br k (j51.1)
  (bd k (z8 k (n_0, 1, 14, ())) fun y52 =>
  br k (y52.1.1)
  (bd k (z37 k ((rest__0, rest__1, rest__2, rest__3, 0, 0, ()), ())) fun y53 =>
  some (y53.1.1, ()))
  (some (false, ())))
  (some (false, ())) : Option (Bool × Unit)).bind fun j54 =>
  some ((j54.1, ()), ((), (), ())))
  ((br k (isRight)
  (bd k (z8 k (n_0, 1, 14, ())) fun y55 =>
  br k (y55.1.1)
  (bd k (z37 k ((rest__0, rest__1, rest__2, rest__3, rest__4, rest__5, ()), ())) fun y56 =>
  some (y56.1.1, ()))
  (some (false, ())))
  (some (false, ())) : Option (Bool × Unit)).bind fun j57 =>
  some ((j57.1, ()), ((), (), ()))))))
noncomputable def z27.h7 (k : Nat)  : (QT2 × QT1 × QT1 × Bool × Unit) → Option QT21 := fun x => match x with
 | ((d__0, d__1, d__2, ()), (n_0, n_1, n_2, n_3, n_4, n_5, ()), (rest__0, rest__1, rest__2, rest__3, rest__4, rest__5, ()), isRight, ()) =>
  br k (n_0 == 1)
  (br k (n_0 == 1)
  (jn k (z27.h11 k) ((d__0, d__1, d__2, ()), (n_0, n_1, n_2, n_3, n_4, n_5, ()), (rest__0, rest__1, rest__2, rest__3, rest__4, rest__5, ()), ()))
  (jn k (z27.h12 k) ((d__0, d__1, d__2, ()), (n_0, n_1, n_2, n_3, n_4, n_5, ()), (rest__0, rest__1, rest__2, rest__3, rest__4, rest__5, ()), isRight, n_0, ())))
  (br k (n_0 == 4)
  (br k (n_0 == 4)
  (jn k (z27.h11 k) ((d__0, d__1, d__2, ()), (n_0, n_1, n_2, n_3, n_4, n_5, ()), (rest__0, rest__1, rest__2, rest__3, rest__4, rest__5, ()), ()))
  (jn k (z27.h12 k) ((d__0, d__1, d__2, ()), (n_0, n_1, n_2, n_3, n_4, n_5, ()), (rest__0, rest__1, rest__2, rest__3, rest__4, rest__5, ()), isRight, n_0, ())))
  (br k (n_0 == 13)
  (jn k (z27.h11 k) ((d__0, d__1, d__2, ()), (n_0, n_1, n_2, n_3, n_4, n_5, ()), (rest__0, rest__1, rest__2, rest__3, rest__4, rest__5, ()), ()))
  (jn k (z27.h12 k) ((d__0, d__1, d__2, ()), (n_0, n_1, n_2, n_3, n_4, n_5, ()), (rest__0, rest__1, rest__2, rest__3, rest__4, rest__5, ()), isRight, n_0, ()))))
noncomputable def z27 (k : Nat) : (QT2 × QT1 × Unit) → Option QT21 := fun x => match x with
 | (d_, n, ()) =>
  bd k (z87 k (n.1, ())) fun y1 =>
  (br k (decide (y1.1.1 > 0))
  (bd k (z43 k (d_, n.2.2.2.1, ())) fun y2 =>
  br k (y2.1.1 != y1.1.1)
  (some (true, ()))
  (br k (n.1 == 3)
  (bd k (z43 k (d_, n.2.2.1, ())) fun y3 =>
  some (y3.1.1 != 1, ()))
  (some (false, ()))))
  (br k (n.1 == 3)
  (bd k (z43 k (d_, n.2.2.1, ())) fun y4 =>
  some (y4.1.1 != 1, ()))
  (some (false, ()))) : Option (Bool × Unit)).bind fun j5 =>
  br k (j5.1)
  (some ((false, ()), ((), (), ())))
  (br k (decide (y1.1.1 > 0))
  (jn k (z27.h7 k) ((d_.1, d_.2.1, d_.2.2.1, ()), (n.1, n.2.1, n.2.2.1, n.2.2.2.1, n.2.2.2.2.1, n.2.2.2.2.2.1, ()), (n.1, n.2.1, n.2.2.1, [], n.2.2.2.2.1, n.2.2.2.2.2.1, ()), true, ()))
  (jn k (z27.h7 k) ((d_.1, d_.2.1, d_.2.2.1, ()), (n.1, n.2.1, n.2.2.1, n.2.2.2.1, n.2.2.2.2.1, n.2.2.2.2.2.1, ()), (n.1, n.2.1, n.2.2.1, n.2.2.2.1, n.2.2.2.2.1, n.2.2.2.2.2.1, ()), true, ())))
noncomputable def z27.sg (k : Nat) : Sig := ⟨(.cons QS4 (.cons (.pur QK9) .nil)), QS19, z27 k, []⟩
theorem z27.ok (k : Nat) : SigHolds Tryz.prog L 120 (z27.sg k) :=
  soe (C := ⟨Tryz.prog, [(133, [z87.sg k]), (174, [z43.sg k]), (175, [z57.sg k]), (83, [z8.sg k]), (177, [z72.sg k]), (178, [z37.sg k]), (176, [z88.sg k])], k, [], []⟩) (hc1 (z87.ok k) (hc1 (z43.ok k) (hc1 (z57.ok k) (hc1 (z8.ok k) (hc1 (z72.ok k) (hc1 (z37.ok k) (hc1 (z88.ok k) holds_nil))))))) Tryz.func120 { joins := [(2, [(32, .bool)]), (18, [(85, .bool)]), (19, [(7, .bool)]), (21, [(4, .bool)])], keys := [(11, [([3], false), ([3], false), ([2], false), ([2], false), ([], false), ([], false), ([], false), ([], false), ([6], false), ([6], true)]), (13, [([3], false), ([3], false), ([2], false), ([2], false), ([], false), ([], false), ([], false), ([], false), ([6], false), ([6], true)]), (15, [([3], false), ([3], false), ([2], false), ([2], false), ([], false), ([], false), ([], false), ([], false), ([6], false), ([6], true), ([6], false), ([6], true)])], heads := [(7, [(2, QS26), (3, QS18), (6, QS18), (7, (.pur .bool))]), (11, [(2, QS26), (3, QS18), (6, QS18)]), (12, [(2, QS26), (3, QS18), (6, QS18), (7, (.pur .bool)), (38, (.pur (.int .i64)))])] } fun _ => by kernel_rfl
noncomputable def z197 (k : Nat) : (QT1 × ((QT2 × Unit) × Unit) × Unit) → Option QT57 := fun x => match x with
 | (x_, ((a1_0_0, ()), ()), ()) =>
  bd k (z27 k (a1_0_0, x_, ())) fun y1 =>
  some ((!y1.1.1, ()), ((), ((a1_0_0, ()), ()), ()))
noncomputable def z197.sg (k : Nat) : Sig := ⟨(.cons (.pur QK9) (.cons (.box (.cons (.fn (.func 120) 1 (.cons QS4 .nil)) .nil)) .nil)), QS19, z197 k, []⟩
theorem z197.ok (k : Nat) : SigHolds Tryz.prog L 173 (z197.sg k) :=
  soe (C := ⟨Tryz.prog, [(120, [z27.sg k])], k, [], []⟩) (hc1 (z27.ok k) holds_nil) Tryz.func173 {} fun _ => by kernel_rfl
noncomputable def z73.l0 (k : Nat) : E2 (((List QT1) × QT32 × Int × Int × Unit) → Option QT47) := fun G0 x => match x with
 | (s_, (((f_0_0_0, ()), ()), ()), t7, t8, ()) =>
  br k (decide (t8 < t7))
  (br k (decide (0 ≤ t8))
  (bd k (s_[t8.toNat]?) fun x1 =>
  bd k (z197 k (x1, ((f_0_0_0, ()), ()), ())) fun y2 =>
  br k (y2.1.1)
  (some ((t8, ()), ((), (((y2.2.2.1.1.1, ()), ()), ()), ())))
  (G0 (s_, (((y2.2.2.1.1.1, ()), ()), ()), t7, IntKind.wrap .i64 (t8 + 1), ())))
  none)
  (some (((-1), ()), ((), (((f_0_0_0, ()), ()), ()), ())))
noncomputable def z73 (k : Nat) : ((List QT1) × QT32 × Unit) → Option QT47 := fun x => match x with
 | (s_, (((f_0_0_0, ()), ()), ()), ()) =>
  iter (z73.l0 k) k (s_, (((f_0_0_0, ()), ()), ()), (s_.length : Int), 0, ())
noncomputable def z73.sg (k : Nat) : Sig := ⟨(.cons (.pur (.sl false QK9)) (.cons (.fn (.func 173) 0 (.cons (.box (.cons (.fn (.func 120) 1 (.cons QS4 .nil)) .nil)) .nil)) .nil)), QS6, z73 k, []⟩
theorem z73.ok (k : Nat) : SigHolds Tryz.prog L 215 (z73.sg k) :=
  soe (C := ⟨Tryz.prog, [(173, [z197.sg k])], k, [], []⟩) (hc1 (z197.ok k) holds_nil) Tryz.func215 { loops := [(0, [(0, (.pur (.sl false QK9))), (1, (.fn (.func 173) 0 (.cons (.box (.cons (.fn (.func 120) 1 (.cons QS4 .nil)) .nil)) .nil))), (7, (.pur (.int .i64))), (8, (.pur (.int .i64)))])] } fun _ => by kernel_rfl
noncomputable def z199 (k : Nat) : ((List QT1) × QT32 × Unit) → Option QT68 := fun x => match x with
 | (s_, (((f_0_0_0, ()), ()), ()), ()) =>
  bd k (z73 k (s_, (((f_0_0_0, ()), ()), ()), ())) fun y1 =>
  some ((decide (y1.1.1 ≥ 0), ()), ((), (((y1.2.2.1.1.1.1, ()), ()), ()), ()))
noncomputable def z199.sg (k : Nat) : Sig := ⟨(.cons (.pur (.sl false QK9)) (.cons (.fn (.func 173) 0 (.cons (.box (.cons (.fn (.func 120) 1 (.cons QS4 .nil)) .nil)) .nil)) .nil)), QS19, z199 k, []⟩
theorem z199.ok (k : Nat) : SigHolds Tryz.prog L 172 (z199.sg k) :=
  soe (C := ⟨Tryz.prog, [(215, [z73.sg k])], k, [], []⟩) (hc1 (z73.ok k) holds_nil) Tryz.func172 {} fun _ => by kernel_rfl
noncomputable def z129 (k : Nat) : ((List QT1) × (QT2 × Unit) × Unit) → Option QT54 := fun x => match x with
 | (list, (is_0, ()), ()) =>
  bd k (z199 k (list, (((is_0, ()), ()), ()), ())) fun y1 =>
  some ((!y1.1.1, ()), ((), ((), ()), ()))
noncomputable def z129.sg (k : Nat) : Sig := ⟨(.cons (.pur (.sl false QK9)) (.cons (.fn (.func 120) 1 (.cons QS4 .nil)) .nil)), QS19, z129 k, []⟩
theorem z129.ok (k : Nat) : SigHolds Tryz.prog L 119 (z129.sg k) :=
  soe (C := ⟨Tryz.prog, [(172, [z199.sg k])], k, [], []⟩) (hc1 (z199.ok k) holds_nil) Tryz.func119 {} fun _ => by kernel_rfl
noncomputable def z130 (k : Nat) : (QT1 × Unit) → Option QT25 := fun x => match x with
 | (n, ()) =>
  (br k (n.1 == 5)
  (some (true, ()))
  (some (n.1 == 6, ())) : Option (Bool × Unit)).bind fun j1 =>
  some ((j1.1, ()), ((), ()))
noncomputable def z130.sg (k : Nat) : Sig := ⟨(.cons (.pur QK9) .nil), QS19, z130 k, []⟩
theorem z130.ok (k : Nat) : SigHolds Tryz.prog L 220 (z130.sg k) :=
  soe (C := ⟨Tryz.prog, [], k, [], []⟩) holds_nil Tryz.func220 { joins := [(1, [(2, .bool)])] } fun _ => by kernel_rfl
noncomputable def z103 (k : Nat) : (QT1 × Unit) → Option QT25 := fun x => match x with
 | (n, ()) =>
  (br k (n.1 == 9)
  (some (true, ()))
  (some (n.1 == 10, ())) : Option (Bool × Unit)).bind fun j1 =>
  some ((j1.1, ()), ((), ()))
noncomputable def z103.sg (k : Nat) : Sig := ⟨(.cons (.pur QK9) .nil), QS19, z103 k, []⟩
theorem z103.ok (k : Nat) : SigHolds Tryz.prog L 180 (z103.sg k) :=
  soe (C := ⟨Tryz.prog, [], k, [], []⟩) holds_nil Tryz.func180 { joins := [(1, [(2, .bool)])] } fun _ => by kernel_rfl
end Go.Pev.F
