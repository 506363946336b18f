/-
  Printed by gen.py: what functions of the program compute, and that they do.
-/
import Derived.Test.YtibhfjdhhdjjcaaGreatDoorK06
set_option linter.unusedSimpArgs false
set_option linter.unusedVariables false
open Go.Proofs Go.Pev
namespace Go.Pev.F
set_option maxRecDepth 100000
noncomputable def z45 (k : Nat) : ((List (List UInt8)) × Unit) → Option QT33 := fun x => match x with
 | (list, ()) =>
  some (((list.length : Int), ()), ((), ()))
noncomputable def z45.sg (k : Nat) : Sig := ⟨(.cons (.pur (.sl false .str)) .nil), QS5, z45 k, []⟩
theorem z45.ok {L : List (Nat × Obj)} (k : Nat) : SigHolds Tryz.prog L 175 (z45.sg k) :=
  soe (C := ⟨Tryz.prog, [], k, [], []⟩) holds_nil Tryz.func175 {} fun _ => by kernel_rfl
noncomputable def z83 (k : Nat) : ((List QT24) × Unit) → Option QT33 := fun x => match x with
 | (list, ()) =>
  some (((list.length : Int), ()), ((), ()))
noncomputable def z83.sg (k : Nat) : Sig := ⟨(.cons (.pur QK8) .nil), QS5, z83 k, []⟩
theorem z83.ok {L : List (Nat × Obj)} (k : Nat) : SigHolds Tryz.prog L 176 (z83.sg k) :=
  soe (C := ⟨Tryz.prog, [], k, [], []⟩) holds_nil Tryz.func176 {} fun _ => by kernel_rfl
noncomputable def z148 (k : Nat) : (QT6 × (Int × Int × Unit) × Unit) → Option QT18 := fun x => match x with
 | (d_, t, ()) =>
  br k (t.1 == 1)
  (bd k (z7 k (t.2.1, 0, 999999999999999999, ())) fun y1 =>
  some ((y1.1.1, ()), ((), (), ())))
  (br k (t.1 == 2)
  (bd k (z45 k (d_.1, ())) fun y2 =>
  bd k (z7 k (t.2.1, 0, IntKind.wrap .i64 (y2.1.1 - 1), ())) fun y3 =>
  some ((y3.1.1, ()), ((), (), ())))
  (br k (t.1 == 3)
  (bd k (z45 k (d_.2.1, ())) fun y4 =>
  bd k (z7 k (t.2.1, 0, IntKind.wrap .i64 (y4.1.1 - 1), ())) fun y5 =>
  some ((y5.1.1, ()), ((), (), ())))
  (br k (t.1 == 6)
  (bd k (z83 k (d_.2.2.1, ())) fun y6 =>
  bd k (z7 k (t.2.1, 0, IntKind.wrap .i64 (y6.1.1 - 1), ())) fun y7 =>
  some ((y7.1.1, ()), ((), (), ())))
  ((bd k (z7 k (t.1, 4, 21, ())) fun y8 =>
  br k (y8.1.1)
  (some (t.2.1 == 0, ()))
  (some (false, ())) : Option (Bool × Unit)).bind fun j9 =>
  some ((j9.1, ()), ((), (), ()))))))
noncomputable def z148.sg (k : Nat) : Sig := ⟨(.cons QS14 (.cons (.pur QK0) .nil)), QS17, z148 k, []⟩
theorem z148.ok {L : List (Nat × Obj)} (k : Nat) : SigHolds Tryz.prog L 217 (z148.sg k) :=
  soe (C := ⟨Tryz.prog, [(83, [z7.sg k]), (175, [z45.sg k]), (176, [z83.sg k])], k, [], []⟩) (hc1 (z7.ok k) (hc1 (z45.ok k) (hc1 (z83.ok k) holds_nil))) Tryz.func217 { joins := [(10, [(4, .bool)])] } fun _ => by kernel_rfl
noncomputable def z176 (k : Nat) : ((Int × Int × Unit) × ((QT6 × Unit) × Unit) × Unit) → Option ((Bool × Unit) × (Unit × ((QT6 × Unit) × Unit) × Unit)) := fun x => match x with
 | (x_, ((a1_0_0, ()), ()), ()) =>
  bd k (z148 k (a1_0_0, x_, ())) fun y1 =>
  some ((!y1.1.1, ()), ((), ((a1_0_0, ()), ()), ()))
noncomputable def z176.sg (k : Nat) : Sig := ⟨(.cons (.pur QK0) (.cons (.box (.cons (.fn (.func 217) 1 (.cons QS14 .nil)) .nil)) .nil)), QS17, z176 k, []⟩
theorem z176.ok {L : List (Nat × Obj)} (k : Nat) : SigHolds Tryz.prog L 245 (z176.sg k) :=
  soe (C := ⟨Tryz.prog, [(217, [z148.sg k])], k, [], []⟩) (hc1 (z148.ok k) holds_nil) Tryz.func245 {} fun _ => by kernel_rfl
noncomputable def z65.l0 (k : Nat) : E2 ((QT15 × QT34 × Int × Int × Unit) → Option QT50) := fun G0 x => match x with
 | (s_, (((f_0_0_0, ()), ()), ()), t7, t8, ()) =>
  br k (decide (t8 < t7))
  (br k (decide (0 ≤ t8))
  (bd k (s_[t8.toNat]?) fun x1 =>
  bd k (z176 k (x1, ((f_0_0_0, ()), ()), ())) fun y2 =>
  br k (y2.1.1)
  (some ((t8, ()), ((), (((y2.2.2.1.1.1, ()), ()), ()), ())))
  (G0 (s_, (((y2.2.2.1.1.1, ()), ()), ()), t7, IntKind.wrap .i64 (t8 + 1), ())))
  none)
  (some (((-1), ()), ((), (((f_0_0_0, ()), ()), ()), ())))
noncomputable def z65 (k : Nat) : (QT15 × QT34 × Unit) → Option QT50 := fun x => match x with
 | (s_, (((f_0_0_0, ()), ()), ()), ()) =>
  iter (z65.l0 k) k (s_, (((f_0_0_0, ()), ()), ()), (s_.length : Int), 0, ())
noncomputable def z65.sg (k : Nat) : Sig := ⟨(.cons (.pur (.sl false QK0)) (.cons (.fn (.func 245) 0 (.cons (.box (.cons (.fn (.func 217) 1 (.cons QS14 .nil)) .nil)) .nil)) .nil)), QS5, z65 k, []⟩
theorem z65.ok {L : List (Nat × Obj)} (k : Nat) : SigHolds Tryz.prog L 256 (z65.sg k) :=
  soe (C := ⟨Tryz.prog, [(245, [z176.sg k])], k, [], []⟩) (hc1 (z176.ok k) holds_nil) Tryz.func256 { loops := [(0, [(0, (.pur (.sl false QK0))), (1, (.fn (.func 245) 0 (.cons (.box (.cons (.fn (.func 217) 1 (.cons QS14 .nil)) .nil)) .nil))), (7, (.pur (.int .i64))), (8, (.pur (.int .i64)))])] } fun _ => by kernel_rfl
noncomputable def z177 (k : Nat) : (QT15 × QT34 × Unit) → Option ((Bool × Unit) × (Unit × QT34 × Unit)) := fun x => match x with
 | (s_, (((f_0_0_0, ()), ()), ()), ()) =>
  bd k (z65 k (s_, (((f_0_0_0, ()), ()), ()), ())) fun y1 =>
  some ((decide (y1.1.1 ≥ 0), ()), ((), (((y1.2.2.1.1.1.1, ()), ()), ()), ()))
noncomputable def z177.sg (k : Nat) : Sig := ⟨(.cons (.pur (.sl false QK0)) (.cons (.fn (.func 245) 0 (.cons (.box (.cons (.fn (.func 217) 1 (.cons QS14 .nil)) .nil)) .nil)) .nil)), QS17, z177 k, []⟩
theorem z177.ok {L : List (Nat × Obj)} (k : Nat) : SigHolds Tryz.prog L 244 (z177.sg k) :=
  soe (C := ⟨Tryz.prog, [(256, [z65.sg k])], k, [], []⟩) (hc1 (z65.ok k) holds_nil) Tryz.func244 {} fun _ => by kernel_rfl
noncomputable def z149 (k : Nat) : (QT15 × (QT6 × Unit) × Unit) → Option ((Bool × Unit) × (Unit × (Unit × Unit) × Unit)) := fun x => match x with
 | (list, (is_0, ()), ()) =>
  bd k (z177 k (list, (((is_0, ()), ()), ()), ())) fun y1 =>
  some ((!y1.1.1, ()), ((), ((), ()), ()))
noncomputable def z149.sg (k : Nat) : Sig := ⟨(.cons (.pur (.sl false QK0)) (.cons (.fn (.func 217) 1 (.cons QS14 .nil)) .nil)), QS17, z149 k, []⟩
theorem z149.ok {L : List (Nat × Obj)} (k : Nat) : SigHolds Tryz.prog L 216 (z149.sg k) :=
  soe (C := ⟨Tryz.prog, [(244, [z177.sg k])], k, [], []⟩) (hc1 (z177.ok k) holds_nil) Tryz.func216 {} fun _ => by kernel_rfl
noncomputable def z99 (k : Nat) : (Int × Unit) → Option QT41 := fun x => match x with
 | (op, ()) =>
  (br k (op == 6)
  (some (true, ()))
  (some (op == 7, ())) : Option (Bool × Unit)).bind fun j1 =>
  br k (j1.1)
  (some ((([1] : List Int), ()), ((), ())))
  (bd k (z7 k (op, 8, 18, ())) fun y2 =>
  br k (y2.1.1)
  (some ((([1, 1] : List Int), ()), ((), ())))
  (br k (op == 19)
  (some ((([2] : List Int), ()), ((), ())))
  ((br k (op == 20)
  (some (true, ()))
  (some (op == 21, ())) : Option (Bool × Unit)).bind fun j3 =>
  br k (j3.1)
  (some ((([2, 2] : List Int), ()), ((), ())))
  (some (([], ()), ((), ()))))))
noncomputable def z99.sg (k : Nat) : Sig := ⟨QS5, QS52, z99 k, []⟩
theorem z99.ok {L : List (Nat × Obj)} (k : Nat) : SigHolds Tryz.prog L 186 (z99.sg k) :=
  soe (C := ⟨Tryz.prog, [(83, [z7.sg k])], k, [], []⟩) (hc1 (z7.ok k) holds_nil) Tryz.func186 { joins := [(1, [(3, .bool)]), (7, [(19, .bool)])] } fun _ => by kernel_rfl
noncomputable def z66.l0 (k : Nat) : E2 (((List Int) × (List Int) × Int × Int × Unit) → Option QT18) := fun G0 x => match x with
 | (s1, s2, t12, t13, ()) =>
  br k (decide (t13 < t12))
  (br k (decide (0 ≤ t13))
  (bd k (s1[t13.toNat]?) fun x1 =>
  br k (decide (0 ≤ t13))
  (bd k (s2[t13.toNat]?) fun x2 =>
  br k (x1 != x2)
  (some ((false, ()), ((), (), ())))
  (G0 (s1, s2, t12, IntKind.wrap .i64 (t13 + 1), ())))
  none)
  none)
  (some ((true, ()), ((), (), ())))
noncomputable def z66 (k : Nat) : ((List Int) × (List Int) × Unit) → Option QT18 := fun x => match x with
 | (s1, s2, ()) =>
  br k ((s1.length : Int) != (s2.length : Int))
  (some ((false, ()), ((), (), ())))
  (iter (z66.l0 k) k (s1, s2, (s1.length : Int), 0, ()))
noncomputable def z66.sg (k : Nat) : Sig := ⟨(.cons QS27 (.cons QS27 .nil)), QS17, z66 k, []⟩
theorem z66.ok {L : List (Nat × Obj)} (k : Nat) : SigHolds Tryz.prog L 218 (z66.sg k) :=
  soe (C := ⟨Tryz.prog, [], k, [], []⟩) holds_nil Tryz.func218 { loops := [(0, [(0, QS27), (1, QS27), (12, (.pur (.int .i64))), (13, (.pur (.int .i64)))])] } fun _ => by kernel_rfl
noncomputable def z150 (k : Nat) : (Int × Unit) → Option QT33 := fun x => match x with
 | (op, ()) =>
  (bd k (z7 k (op, 3, 5, ())) fun y1 =>
  br k (y1.1.1)
  (some (true, ()))
  (some (decide (op ≥ 13), ())) : Option (Bool × Unit)).bind fun j2 =>
  br k (j2.1)
  (some ((2, ()), ((), ())))
  (some ((1, ()), ((), ())))
noncomputable def z150.sg (k : Nat) : Sig := ⟨QS5, QS5, z150 k, []⟩
theorem z150.ok {L : List (Nat × Obj)} (k : Nat) : SigHolds Tryz.prog L 219 (z150.sg k) :=
  soe (C := ⟨Tryz.prog, [(83, [z7.sg k])], k, [], []⟩) (hc1 (z7.ok k) holds_nil) Tryz.func219 { joins := [(1, [(8, .bool)])] } fun _ => by kernel_rfl
noncomputable def z28.l0 (k : Nat) : E2 (((List Int) × QT15 × Int × Int × Unit) → Option QT16) := fun G0 x => match x with
 | (pile, t20, t21, t22, ()) =>
  br k (decide (t22 < t21))
  (br k (decide (0 ≤ t22))
  (bd k (t20[t22.toNat]?) fun x2 =>
  bd k (z99 k (x2.1, ())) fun y3 =>
  (br k (decide ((IntKind.wrap .i64 ((pile.length : Int) - (y3.1.1.length : Int))) < 0))
  (some (true, ()))
  (br k (decide (0 ≤ (IntKind.wrap .i64 ((pile.length : Int) - (y3.1.1.length : Int))) ∧ (IntKind.wrap .i64 ((pile.length : Int) - (y3.1.1.length : Int))) ≤ (pile.length : Int)))
  (bd k (z66 k (subL pile ((IntKind.wrap .i64 ((pile.length : Int) - (y3.1.1.length : Int))).toNat) ((pile.length : Int).toNat - (IntKind.wrap .i64 ((pile.length : Int) - (y3.1.1.length : Int))).toNat), y3.1.1, ())) fun y4 =>
  some (!y4.1.1, ()))
  none) : Option (Bool × Unit)).bind fun j5 =>
  br k (j5.1)
  (some ((0, ()), ((), (), ())))
  (br k (decide (0 ≤ (IntKind.wrap .i64 ((pile.length : Int) - (y3.1.1.length : Int))) ∧ (IntKind.wrap .i64 ((pile.length : Int) - (y3.1.1.length : Int))) ≤ (pile.length : Int)))
  (bd k (z150 k (x2.1, ())) fun y6 =>
  br k (decide (((subL pile ((0 : Int).toNat) ((IntKind.wrap .i64 ((pile.length : Int) - (y3.1.1.length : Int))).toNat - (0 : Int).toNat)).length + ([y6.1.1] : List Int).length) * 8 ≤ maxBytes))
  (G0 ((subL pile ((0 : Int).toNat) ((IntKind.wrap .i64 ((pile.length : Int) - (y3.1.1.length : Int))).toNat - (0 : Int).toNat)) ++ ([y6.1.1] : List Int), t20, t21, IntKind.wrap .i64 (t22 + 1), ()))
  none)
  none))
  none)
  (br k ((pile.length : Int) != 1)
  (some ((0, ()), ((), (), ())))
  (br k (decide (0 ≤ (0 : Int) ∧ (0 : Int) < (pile.length : Int)))
  (bd k (pile[(0 : Int).toNat]?) fun x7 =>
  some ((x7, ()), ((), (), ())))
  none))
noncomputable def z28 (k : Nat) : (QT6 × QT15 × Unit) → Option QT16 := fun x => match x with
 | (d_, l_, ()) =>
  br k (decide ((l_.length : Int) > 40))
  (some ((0, ()), ((), (), ())))
  (bd k (z149 k (l_, (d_, ()), ())) fun y1 =>
  br k (!y1.1.1)
  (some ((0, ()), ((), (), ())))
  (iter (z28.l0 k) k ([], l_, (l_.length : Int), 0, ())))
noncomputable def z28.sg (k : Nat) : Sig := ⟨(.cons QS14 QS35), QS5, z28 k, []⟩
theorem z28.ok {L : List (Nat × Obj)} (k : Nat) : SigHolds Tryz.prog L 174 (z28.sg k) :=
  soe (C := ⟨Tryz.prog, [(216, [z149.sg k]), (186, [z99.sg k]), (218, [z66.sg k]), (219, [z150.sg k])], k, [], []⟩) (hc1 (z149.ok k) (hc1 (z99.ok k) (hc1 (z66.ok k) (hc1 (z150.ok k) holds_nil)))) Tryz.func174 { loops := [(0, [(5, (.own (.int .i64))), (20, (.pur (.sl false QK0))), (21, (.pur (.int .i64))), (22, (.pur (.int .i64)))])], joins := [(9, [(43, .bool)])], keys := [(11, [([], false), ([], false), ([5], false), ([7], false), ([7], false), ([], false), ([50], true), ([5, 50, 51], true), ([], false)])] } fun _ => by kernel_rfl
noncomputable def z67 (k : Nat) : (QT1 × Unit) → Option QT22 := fun x => match x with
 | (n, ()) =>
  (bd k (z7 k (n.2.2.2.2.1, (-999999999999999999), n.2.2.2.2.2.1, ())) fun y1 =>
  br k (y1.1.1)
  (some (decide (n.2.2.2.2.2.1 ≤ 999999999999999999), ()))
  (some (false, ())) : Option (Bool × Unit)).bind fun j2 =>
  some ((j2.1, ()), ((), ()))
noncomputable def z67.sg (k : Nat) : Sig := ⟨(.cons (.pur QK2) .nil), QS17, z67 k, []⟩
theorem z67.ok {L : List (Nat × Obj)} (k : Nat) : SigHolds Tryz.prog L 177 (z67.sg k) :=
  soe (C := ⟨Tryz.prog, [(83, [z7.sg k])], k, [], []⟩) (hc1 (z7.ok k) holds_nil) Tryz.func177 { joins := [(1, [(2, .bool)])] } fun _ => by kernel_rfl
noncomputable def z26 (k : Nat) : (QT1 × Unit) → Option QT22 := fun x => match x with
 | (n, ()) =>
  (br k (n.2.1 == 0)
  (br k ((n.2.2.1.length : Int) == 0)
  (br k ((n.2.2.2.1.length : Int) == 0)
  (br k (n.2.2.2.2.1 == 0)
  (some (n.2.2.2.2.2.1 == 0, ()))
  (some (false, ())))
  (some (false, ())))
  (some (false, ())))
  (some (false, ())) : Option (Bool × Unit)).bind fun j1 =>
  some ((j1.1, ()), ((), ()))
noncomputable def z26.sg (k : Nat) : Sig := ⟨(.cons (.pur QK2) .nil), QS17, z26 k, []⟩
theorem z26.ok {L : List (Nat × Obj)} (k : Nat) : SigHolds Tryz.prog L 178 (z26.sg k) :=
  soe (C := ⟨Tryz.prog, [], k, [], []⟩) holds_nil Tryz.func178 { joins := [(1, [(2, .bool)])] } fun _ => by kernel_rfl
noncomputable def z16.h11 (k : Nat)  : (QT6 × QT1 × QT1 × Unit) → Option QT18 := fun x => match x with
 | ((d__0, d__1, d__2, ()), (n_0, n_1, n_2, n_3, n_4, n_5, ()), (rest__0, rest__1, rest__2, rest__3, rest__4, rest__5, ()), ()) =>
  bd k (z45 k (d__0, ())) fun y6 =>
  bd k (z7 k (n_1, 0, IntKind.wrap .i64 (y6.1.1 - 1), ())) fun y7 =>
  (br k (n_0 == 4)
  (some (true, ()))
  (some (n_0 == 13, ())) : Option (Bool × Unit)).bind fun j8 =>
  br k (j8.1)
  ((br k (y7.1.1)
  (bd k (z67 k ((n_0, n_1, n_2, n_3, n_4, n_5, ()), ())) fun y9 =>
  br k (y9.1.1)
  (br k (n_0 == 4)
  (some (true, ()))
  (some (decide ((IntKind.wrap .i64 (n_5 - n_4)) ≤ 3), ())))
  (some (false, ())))
  (some (false, ())) : Option (Bool × Unit)).bind fun j10 =>
  (br k (j10.1)
  (bd k (z7 k (n_0, 1, 14, ())) fun y11 =>
  br k (y11.1.1)
  (bd k (z26 k ((rest__0, 0, rest__2, rest__3, 0, 0, ()), ())) fun y12 =>
  some (y12.1.1, ()))
  (some (false, ())))
  (some (false, ())) : Option (Bool × Unit)).bind fun j13 =>
  some ((j13.1, ()), ((), (), ())))
  ((br k (y7.1.1)
  (bd k (z7 k (n_0, 1, 14, ())) fun y14 =>
  br k (y14.1.1)
  (bd k (z26 k ((rest__0, 0, rest__2, rest__3, rest__4, rest__5, ()), ())) fun y15 =>
  some (y15.1.1, ()))
  (some (false, ())))
  (some (false, ())) : Option (Bool × Unit)).bind fun j16 =>
  some ((j16.1, ()), ((), (), ())))
noncomputable def z16.h12 (k : Nat)  : (QT6 × QT1 × QT1 × Bool × Int × Unit) → Option QT18 := fun x => match x with
 | ((d__0, d__1, d__2, ()), (n_0, n_1, n_2, n_3, n_4, n_5, ()), (rest__0, rest__1, rest__2, rest__3, rest__4, rest__5, ()), isRight, t38, ()) =>
  br k (t38 == 2)
  (bd k (z45 k (d__1, ())) fun y17 =>
  bd k (z7 k (n_1, 0, IntKind.wrap .i64 (y17.1.1 - 1), ())) fun y18 =>
  (br k (n_0 == 4)
  (some (true, ()))
  (some (n_0 == 13, ())) : Option (Bool × Unit)).bind fun j19 =>
  br k (j19.1)
  ((br k (y18.1.1)
  (bd k (z67 k ((n_0, n_1, n_2, n_3, n_4, n_5, ()), ())) fun y20 =>
  br k (y20.1.1)
  (br k (n_0 == 4)
  (some (true, ()))
  (some (decide ((IntKind.wrap .i64 (n_5 - n_4)) ≤ 3), ())))
  (some (false, ())))
  (some (false, ())) : Option (Bool × Unit)).bind fun j21 =>
  (br k (j21.1)
  (bd k (z7 k (n_0, 1, 14, ())) fun y22 =>
  br k (y22.1.1)
  (bd k (z26 k ((rest__0, 0, rest__2, rest__3, 0, 0, ()), ())) fun y23 =>
  some (y23.1.1, ()))
  (some (false, ())))
  (some (false, ())) : Option (Bool × Unit)).bind fun j24 =>
  some ((j24.1, ()), ((), (), ())))
  ((br k (y18.1.1)
  (bd k (z7 k (n_0, 1, 14, ())) fun y25 =>
  br k (y25.1.1)
  (bd k (z26 k ((rest__0, 0, rest__2, rest__3, rest__4, rest__5, ()), ())) fun y26 =>
  some (y26.1.1, ()))
  (some (false, ())))
  (some (false, ())) : Option (Bool × Unit)).bind fun j27 =>
  some ((j27.1, ()), ((), (), ()))))
  (br k (t38 == 3)
  (bd k (z83 k (d__2, ())) fun y28 =>
  bd k (z7 k (n_1, 0, IntKind.wrap .i64 (y28.1.1 - 1), ())) fun y29 =>
  (br k (n_0 == 4)
  (some (true, ()))
  (some (n_0 == 13, ())) : Option (Bool × Unit)).bind fun j30 =>
  br k (j30.1)
  ((br k (y29.1.1)
  (bd k (z67 k ((n_0, n_1, n_2, n_3, n_4, n_5, ()), ())) fun y31 =>
  br k (y31.1.1)
  (br k (n_0 == 4)
  (some (true, ()))
  (some (decide ((IntKind.wrap .i64 (n_5 - n_4)) ≤ 3), ())))
  (some (false, ())))
  (some (false, ())) : Option (Bool × Unit)).bind fun j32 =>
  (br k (j32.1)
  (bd k (z7 k (n_0, 1, 14, ())) fun y33 =>
  br k (y33.1.1)
  (bd k (z26 k ((rest__0, 0, [], rest__3, 0, 0, ()), ())) fun y34 =>
  some (y34.1.1, ()))
  (some (false, ())))
  (some (false, ())) : Option (Bool × Unit)).bind fun j35 =>
  some ((j35.1, ()), ((), (), ())))
  ((br k (y29.1.1)
  (bd k (z7 k (n_0, 1, 14, ())) fun y36 =>
  br k (y36.1.1)
  (bd k (z26 k ((rest__0, 0, [], rest__3, rest__4, rest__5, ()), ())) fun y37 =>
  some (y37.1.1, ()))
  (some (false, ())))
  (some (false, ())) : Option (Bool × Unit)).bind fun j38 =>
  some ((j38.1, ()), ((), (), ()))))
  (br k (t38 == 10)
  (bd k (z7 k (n_4, 1, 3, ())) fun y39 =>
  (br k (n_0 == 4)
  (some (true, ()))
  (some (n_0 == 13, ())) : Option (Bool × Unit)).bind fun j40 =>
  br k (j40.1)
  ((br k (y39.1.1)
  (bd k (z67 k ((n_0, n_1, n_2, n_3, n_4, n_5, ()), ())) fun y41 =>
  br k (y41.1.1)
  (br k (n_0 == 4)
  (some (true, ()))
  (some (decide ((IntKind.wrap .i64 (n_5 - n_4)) ≤ 3), ())))
  (some (false, ())))
  (some (false, ())) : Option (Bool × Unit)).bind fun j42 =>
  (br k (j42.1)
  (bd k (z7 k (n_0, 1, 14, ())) fun y43 =>
  br k (y43.1.1)
  (bd k (z26 k ((rest__0, rest__1, rest__2, rest__3, 0, 0, ()), ())) fun y44 =>
  some (y44.1.1, ()))
  (some (false, ())))
  (some (false, ())) : Option (Bool × Unit)).bind fun j45 =>
  some ((j45.1, ()), ((), (), ())))
  ((br k (y39.1.1)
  (bd k (z7 k (n_0, 1, 14, ())) fun y46 =>
  br k (y46.1.1)
  (bd k (z26 k ((rest__0, rest__1, rest__2, rest__3, 0, rest__5, ()), ())) fun y47 =>
  some (y47.1.1, ()))
  (some (false, ())))
  (some (false, ())) : Option (Bool × Unit)).bind fun j48 =>
  some ((j48.1, ()), ((), (), ()))))
  ((br k (n_0 == 4)
  (some (true, ()))
  (some (n_0 == 13, ())) : Option (Bool × Unit)).bind fun j49 =>
  br k (j49.1)
  ((br k (isRight)
  (bd k (z67 k ((n_0, n_1, n_2, n_3, n_4, n_5, ()), ())) fun y50 =>
  br k (y50.1.1)
  (br k (n_0 == 4)
  (some (true, ()))
  (some (decide ((IntKind.wrap .i64 (n_5 - n_4)) ≤ 3), ())))
  (some (false, ())))
  (some (false, ())) : Option (Bool × Unit)).bind fun j51 =>
  (br k (j51.1)
  (bd k (z7 k (n_0, 1, 14, ())) fun y52 =>
  br k (y52.1.1)
  (bd k (z26 k ((rest__0, rest__1, rest__2, rest__3, 0, 0, ()), ())) fun y53 =>
  some (y53.1.1, ()))
  (some (false, ())))
  (some (false, ())) : Option (Bool × Unit)).bind fun j54 =>
  some ((j54.1, ()), ((), (), ())))
  ((br k (isRight)
  (bd k (z7 k (n_0, 1, 14, ())) fun y55 =>
  br k (y55.1.1)
  (bd k (z26 k ((rest__0, rest__1, rest__2, rest__3, rest__4, rest__5, ()), ())) fun y56 =>
  some (y56.1.1, ()))
  (some (false, ())))
  (some (false, ())) : Option (Bool × Unit)).bind fun j57 =>
  some ((j57.1, ()), ((), (), ()))))))
noncomputable def z16.h7 (k : Nat)  : (QT6 × QT1 × QT1 × Bool × Unit) → Option QT18 := fun x => match x with
 | ((d__0, d__1, d__2, ()), (n_0, n_1, n_2, n_3, n_4, n_5, ()), (rest__0, rest__1, rest__2, rest__3, rest__4, rest__5, ()), isRight, ()) =>
  br k (n_0 == 1)
  (br k (n_0 == 1)
  (jn k (z16.h11 k) ((d__0, d__1, d__2, ()), (n_0, n_1, n_2, n_3, n_4, n_5, ()), (rest__0, rest__1, rest__2, rest__3, rest__4, rest__5, ()), ()))
  (jn k (z16.h12 k) ((d__0, d__1, d__2, ()), (n_0, n_1, n_2, n_3, n_4, n_5, ()), (rest__0, rest__1, rest__2, rest__3, rest__4, rest__5, ()), isRight, n_0, ())))
  (br k (n_0 == 4)
  (br k (n_0 == 4)
  (jn k (z16.h11 k) ((d__0, d__1, d__2, ()), (n_0, n_1, n_2, n_3, n_4, n_5, ()), (rest__0, rest__1, rest__2, rest__3, rest__4, rest__5, ()), ()))
  (jn k (z16.h12 k) ((d__0, d__1, d__2, ()), (n_0, n_1, n_2, n_3, n_4, n_5, ()), (rest__0, rest__1, rest__2, rest__3, rest__4, rest__5, ()), isRight, n_0, ())))
  (br k (n_0 == 13)
  (jn k (z16.h11 k) ((d__0, d__1, d__2, ()), (n_0, n_1, n_2, n_3, n_4, n_5, ()), (rest__0, rest__1, rest__2, rest__3, rest__4, rest__5, ()), ()))
  (jn k (z16.h12 k) ((d__0, d__1, d__2, ()), (n_0, n_1, n_2, n_3, n_4, n_5, ()), (rest__0, rest__1, rest__2, rest__3, rest__4, rest__5, ()), isRight, n_0, ()))))
noncomputable def z16 (k : Nat) : (QT6 × QT1 × Unit) → Option QT18 := fun x => match x with
 | (d_, n, ()) =>
  bd k (z82 k (n.1, ())) fun y1 =>
  (br k (decide (y1.1.1 > 0))
  (bd k (z28 k (d_, n.2.2.2.1, ())) fun y2 =>
  br k (y2.1.1 != y1.1.1)
  (some (true, ()))
  (br k (n.1 == 3)
  (bd k (z28 k (d_, n.2.2.1, ())) fun y3 =>
  some (y3.1.1 != 1, ()))
  (some (false, ()))))
  (br k (n.1 == 3)
  (bd k (z28 k (d_, n.2.2.1, ())) fun y4 =>
  some (y4.1.1 != 1, ()))
  (some (false, ()))) : Option (Bool × Unit)).bind fun j5 =>
  br k (j5.1)
  (some ((false, ()), ((), (), ())))
  (br k (decide (y1.1.1 > 0))
  (jn k (z16.h7 k) ((d_.1, d_.2.1, d_.2.2.1, ()), (n.1, n.2.1, n.2.2.1, n.2.2.2.1, n.2.2.2.2.1, n.2.2.2.2.2.1, ()), (n.1, n.2.1, n.2.2.1, [], n.2.2.2.2.1, n.2.2.2.2.2.1, ()), true, ()))
  (jn k (z16.h7 k) ((d_.1, d_.2.1, d_.2.2.1, ()), (n.1, n.2.1, n.2.2.1, n.2.2.2.1, n.2.2.2.2.1, n.2.2.2.2.2.1, ()), (n.1, n.2.1, n.2.2.1, n.2.2.2.1, n.2.2.2.2.1, n.2.2.2.2.2.1, ()), true, ())))
noncomputable def z16.sg (k : Nat) : Sig := ⟨(.cons QS14 (.cons (.pur QK2) .nil)), QS17, z16 k, []⟩
theorem z16.ok {L : List (Nat × Obj)} (k : Nat) : SigHolds Tryz.prog L 120 (z16.sg k) :=
  soe (C := ⟨Tryz.prog, [(133, [z82.sg k]), (174, [z28.sg k]), (175, [z45.sg k]), (83, [z7.sg k]), (177, [z67.sg k]), (178, [z26.sg k]), (176, [z83.sg k])], k, [], []⟩) (hc1 (z82.ok k) (hc1 (z28.ok k) (hc1 (z45.ok k) (hc1 (z7.ok k) (hc1 (z67.ok k) (hc1 (z26.ok k) (hc1 (z83.ok k) holds_nil))))))) Tryz.func120 { joins := [(2, [(32, .bool)]), (18, [(85, .bool)]), (19, [(7, .bool)]), (21, [(4, .bool)])], keys := [(11, [([3], false), ([3], false), ([2], false), ([2], false), ([], false), ([], false), ([], false), ([], false), ([6], false), ([6], true)]), (13, [([3], false), ([3], false), ([2], false), ([2], false), ([], false), ([], false), ([], false), ([], false), ([6], false), ([6], true)]), (15, [([3], false), ([3], false), ([2], false), ([2], false), ([], false), ([], false), ([], false), ([], false), ([6], false), ([6], true), ([6], false), ([6], true)])], heads := [(7, [(2, QS25), (3, QS13), (6, QS13), (7, (.pur .bool))]), (11, [(2, QS25), (3, QS13), (6, QS13)]), (12, [(2, QS25), (3, QS13), (6, QS13), (7, (.pur .bool)), (38, (.pur (.int .i64)))])] } fun _ => by kernel_rfl
noncomputable def z178 (k : Nat) : (QT1 × ((QT6 × Unit) × Unit) × Unit) → Option ((Bool × Unit) × (Unit × ((QT6 × Unit) × Unit) × Unit)) := fun x => match x with
 | (x_, ((a1_0_0, ()), ()), ()) =>
  bd k (z16 k (a1_0_0, x_, ())) fun y1 =>
  some ((!y1.1.1, ()), ((), ((a1_0_0, ()), ()), ()))
noncomputable def z178.sg (k : Nat) : Sig := ⟨(.cons (.pur QK2) (.cons (.box (.cons (.fn (.func 120) 1 (.cons QS14 .nil)) .nil)) .nil)), QS17, z178 k, []⟩
theorem z178.ok {L : List (Nat × Obj)} (k : Nat) : SigHolds Tryz.prog L 173 (z178.sg k) :=
  soe (C := ⟨Tryz.prog, [(120, [z16.sg k])], k, [], []⟩) (hc1 (z16.ok k) holds_nil) Tryz.func173 {} fun _ => by kernel_rfl
noncomputable def z68.l0 (k : Nat) : E2 (((List QT1) × QT34 × Int × Int × Unit) → Option QT50) := fun G0 x => match x with
 | (s_, (((f_0_0_0, ()), ()), ()), t7, t8, ()) =>
  br k (decide (t8 < t7))
  (br k (decide (0 ≤ t8))
  (bd k (s_[t8.toNat]?) fun x1 =>
  bd k (z178 k (x1, ((f_0_0_0, ()), ()), ())) fun y2 =>
  br k (y2.1.1)
  (some ((t8, ()), ((), (((y2.2.2.1.1.1, ()), ()), ()), ())))
  (G0 (s_, (((y2.2.2.1.1.1, ()), ()), ()), t7, IntKind.wrap .i64 (t8 + 1), ())))
  none)
  (some (((-1), ()), ((), (((f_0_0_0, ()), ()), ()), ())))
noncomputable def z68 (k : Nat) : ((List QT1) × QT34 × Unit) → Option QT50 := fun x => match x with
 | (s_, (((f_0_0_0, ()), ()), ()), ()) =>
  iter (z68.l0 k) k (s_, (((f_0_0_0, ()), ()), ()), (s_.length : Int), 0, ())
noncomputable def z68.sg (k : Nat) : Sig := ⟨(.cons (.pur (.sl false QK2)) (.cons (.fn (.func 173) 0 (.cons (.box (.cons (.fn (.func 120) 1 (.cons QS14 .nil)) .nil)) .nil)) .nil)), QS5, z68 k, []⟩
theorem z68.ok {L : List (Nat × Obj)} (k : Nat) : SigHolds Tryz.prog L 215 (z68.sg k) :=
  soe (C := ⟨Tryz.prog, [(173, [z178.sg k])], k, [], []⟩) (hc1 (z178.ok k) holds_nil) Tryz.func215 { loops := [(0, [(0, (.pur (.sl false QK2))), (1, (.fn (.func 173) 0 (.cons (.box (.cons (.fn (.func 120) 1 (.cons QS14 .nil)) .nil)) .nil))), (7, (.pur (.int .i64))), (8, (.pur (.int .i64)))])] } fun _ => by kernel_rfl
noncomputable def z179 (k : Nat) : ((List QT1) × QT34 × Unit) → Option ((Bool × Unit) × (Unit × QT34 × Unit)) := fun x => match x with
 | (s_, (((f_0_0_0, ()), ()), ()), ()) =>
  bd k (z68 k (s_, (((f_0_0_0, ()), ()), ()), ())) fun y1 =>
  some ((decide (y1.1.1 ≥ 0), ()), ((), (((y1.2.2.1.1.1.1, ()), ()), ()), ()))
noncomputable def z179.sg (k : Nat) : Sig := ⟨(.cons (.pur (.sl false QK2)) (.cons (.fn (.func 173) 0 (.cons (.box (.cons (.fn (.func 120) 1 (.cons QS14 .nil)) .nil)) .nil)) .nil)), QS17, z179 k, []⟩
theorem z179.ok {L : List (Nat × Obj)} (k : Nat) : SigHolds Tryz.prog L 172 (z179.sg k) :=
  soe (C := ⟨Tryz.prog, [(215, [z68.sg k])], k, [], []⟩) (hc1 (z68.ok k) holds_nil) Tryz.func172 {} fun _ => by kernel_rfl
noncomputable def z116 (k : Nat) : ((List QT1) × (QT6 × Unit) × Unit) → Option ((Bool × Unit) × (Unit × (Unit × Unit) × Unit)) := fun x => match x with
 | (list, (is_0, ()), ()) =>
  bd k (z179 k (list, (((is_0, ()), ()), ()), ())) fun y1 =>
  some ((!y1.1.1, ()), ((), ((), ()), ()))
noncomputable def z116.sg (k : Nat) : Sig := ⟨(.cons (.pur (.sl false QK2)) (.cons (.fn (.func 120) 1 (.cons QS14 .nil)) .nil)), QS17, z116 k, []⟩
theorem z116.ok {L : List (Nat × Obj)} (k : Nat) : SigHolds Tryz.prog L 119 (z116.sg k) :=
  soe (C := ⟨Tryz.prog, [(172, [z179.sg k])], k, [], []⟩) (hc1 (z179.ok k) holds_nil) Tryz.func119 {} fun _ => by kernel_rfl
noncomputable def z117 (k : Nat) : (QT1 × Unit) → Option QT22 := fun x => match x with
 | (n, ()) =>
  (br k (n.1 == 5)
  (some (true, ()))
  (some (n.1 == 6, ())) : Option (Bool × Unit)).bind fun j1 =>
  some ((j1.1, ()), ((), ()))
noncomputable def z117.sg (k : Nat) : Sig := ⟨(.cons (.pur QK2) .nil), QS17, z117 k, []⟩
theorem z117.ok {L : List (Nat × Obj)} (k : Nat) : SigHolds Tryz.prog L 220 (z117.sg k) :=
  soe (C := ⟨Tryz.prog, [], k, [], []⟩) holds_nil Tryz.func220 { joins := [(1, [(2, .bool)])] } fun _ => by kernel_rfl
noncomputable def z100 (k : Nat) : (QT1 × Unit) → Option QT22 := fun x => match x with
 | (n, ()) =>
  (br k (n.1 == 9)
  (some (true, ()))
  (some (n.1 == 10, ())) : Option (Bool × Unit)).bind fun j1 =>
  some ((j1.1, ()), ((), ()))
noncomputable def z100.sg (k : Nat) : Sig := ⟨(.cons (.pur QK2) .nil), QS17, z100 k, []⟩
theorem z100.ok {L : List (Nat × Obj)} (k : Nat) : SigHolds Tryz.prog L 180 (z100.sg k) :=
  soe (C := ⟨Tryz.prog, [], k, [], []⟩) holds_nil Tryz.func180 { joins := [(1, [(2, .bool)])] } fun _ => by kernel_rfl
end Go.Pev.F
