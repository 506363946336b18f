/-
  Printed by gen.py: what functions of the program compute, and that they do.
-/
import Derived.Test.YtibhfjdhhdjjcaaGreatDoorK15
set_option linter.unusedSimpArgs false
set_option linter.unusedVariables false
open Go.Proofs Go.Pev
namespace Go.Pev.F
set_option maxRecDepth 100000
noncomputable def z168 (k : Nat) : ((Int × Int × Unit) × (Int × Int × Unit) × Unit) → Option QT18 := fun x => match x with
 | (a, b_, ()) =>
  br k (a.1 != b_.1)
  (some ((false, ()), ((), (), ())))
  (br k (a.2.1 != b_.2.1)
  (some ((false, ()), ((), (), ())))
  (some ((true, ()), ((), (), ()))))
noncomputable def z168.sg (k : Nat) : Sig := ⟨(.cons (.pur QK0) (.cons (.pur QK0) .nil)), QS17, z168 k, []⟩
theorem z168.ok {L : List (Nat × Obj)} (k : Nat) : SigHolds Tryz.prog L 181 (z168.sg k) :=
  soe (C := ⟨Tryz.prog, [], k, [], []⟩) holds_nil Tryz.func181 {} fun _ => by kernel_rfl
noncomputable def z78.l0 (k : Nat) : E2 ((QT15 × QT15 × Int × Unit) → Option QT18) := fun G0 x => match x with
 | (a, b_, i, ()) =>
  br k (decide (i < (a.length : Int)))
  (br k (decide (0 ≤ i))
  (bd k (a[i.toNat]?) fun x1 =>
  br k (decide (0 ≤ i))
  (bd k (b_[i.toNat]?) fun x2 =>
  bd k (z168 k (x1, x2, ())) fun y3 =>
  br k (!y3.1.1)
  (some ((false, ()), ((), (), ())))
  (G0 (a, b_, IntKind.wrap .i64 (i + 1), ())))
  none)
  none)
  (some ((true, ()), ((), (), ())))
noncomputable def z78 (k : Nat) : (QT15 × QT15 × Unit) → Option QT18 := fun x => match x with
 | (a, b_, ()) =>
  br k ((a.length : Int) != (b_.length : Int))
  (some ((false, ()), ((), (), ())))
  (iter (z78.l0 k) k (a, b_, 0, ()))
noncomputable def z78.sg (k : Nat) : Sig := ⟨(.cons (.pur (.sl false QK0)) QS35), QS17, z78 k, []⟩
theorem z78.ok {L : List (Nat × Obj)} (k : Nat) : SigHolds Tryz.prog L 123 (z78.sg k) :=
  soe (C := ⟨Tryz.prog, [(181, [z168.sg k])], k, [], []⟩) (hc1 (z168.ok k) holds_nil) Tryz.func123 { loops := [(0, [(0, (.pur (.sl false QK0))), (1, (.pur (.sl false QK0))), (5, (.pur (.int .i64)))])] } fun _ => by kernel_rfl
noncomputable def z169 (k : Nat) : (QT7 × QT7 × Unit) → Option QT18 := fun x => match x with
 | (a, b_, ()) =>
  br k (a.1 != b_.1)
  (some ((false, ()), ((), (), ())))
  (bd k (z78 k (a.2.1, b_.2.1, ())) fun y1 =>
  br k (!y1.1.1)
  (some ((false, ()), ((), (), ())))
  (bd k (z161 k ((a.2.2.1, a.2.2.2.1, a.2.2.2.2.1, ()), (b_.2.2.1, b_.2.2.2.1, b_.2.2.2.2.1, ()), ())) fun y2 =>
  br k (!y2.1.1)
  (some ((false, ()), ((), (), ())))
  (some ((true, ()), ((), (), ())))))
noncomputable def z169.sg (k : Nat) : Sig := ⟨(.cons (.pur QK31) (.cons (.pur QK31) .nil)), QS17, z169 k, []⟩
theorem z169.ok {L : List (Nat × Obj)} (k : Nat) : SigHolds Tryz.prog L 63 (z169.sg k) :=
  soe (C := ⟨Tryz.prog, [(123, [z78.sg k]), (42, [z161.sg k])], k, [], []⟩) (hc1 (z78.ok k) (hc1 (z161.ok k) holds_nil)) Tryz.func63 {} fun _ => by kernel_rfl
noncomputable def z39.l0 (k : Nat) : E2 (((List QT7) × (List QT7) × Int × Unit) → Option QT18) := fun G0 x => match x with
 | (a, b_, i, ()) =>
  br k (decide (i < (a.length : Int)))
  (br k (decide (0 ≤ i))
  (bd k (a[i.toNat]?) fun x1 =>
  br k (decide (0 ≤ i))
  (bd k (b_[i.toNat]?) fun x2 =>
  bd k (z169 k (x1, x2, ())) fun y3 =>
  br k (!y3.1.1)
  (some ((false, ()), ((), (), ())))
  (G0 (a, b_, IntKind.wrap .i64 (i + 1), ())))
  none)
  none)
  (some ((true, ()), ((), (), ())))
noncomputable def z39 (k : Nat) : ((List QT7) × (List QT7) × Unit) → Option QT18 := fun x => match x with
 | (a, b_, ()) =>
  br k ((a.length : Int) != (b_.length : Int))
  (some ((false, ()), ((), (), ())))
  (iter (z39.l0 k) k (a, b_, 0, ()))
noncomputable def z39.sg (k : Nat) : Sig := ⟨(.cons (.pur (.sl false QK31)) (.cons (.pur (.sl false QK31)) .nil)), QS17, z39 k, []⟩
theorem z39.ok {L : List (Nat × Obj)} (k : Nat) : SigHolds Tryz.prog L 27 (z39.sg k) :=
  soe (C := ⟨Tryz.prog, [(63, [z169.sg k])], k, [], []⟩) (hc1 (z169.ok k) holds_nil) Tryz.func27 { loops := [(0, [(0, (.pur (.sl false QK31))), (1, (.pur (.sl false QK31))), (5, (.pur (.int .i64)))])] } fun _ => by kernel_rfl
noncomputable def z92.l0 (k : Nat) : E2 ((QT15 × Int × Int × Unit) → Option QT51) := fun G0 x => match x with
 | (a, k_, i, ()) =>
  br k (decide (i < (a.length : Int)))
  (br k (decide (0 ≤ i ∧ i < (a.length : Int)))
  (bd k (a[i.toNat]?) fun x1 =>
  br k (decide (0 ≤ i ∧ i < ((a.set i.toNat (k_, x1.2.1, ())).length : Int)))
  (bd k ((a.set i.toNat (k_, x1.2.1, ()))[i.toNat]?) fun x2 =>
  G0 ((a.set i.toNat (k_, x1.2.1, ())).set i.toNat (x2.1, IntKind.wrap .i64 (k_ + 1), ()), IntKind.wrap .i64 ((IntKind.wrap .i64 (k_ + 1)) + 1), IntKind.wrap .i64 (i + 1), ()))
  none)
  none)
  (some ((k_, ()), (a, (), ())))
noncomputable def z92 (k : Nat) : (QT15 × Int × Unit) → Option QT51 := fun x => match x with
 | (a, k_, ()) =>
  iter (z92.l0 k) k (a, k_, 0, ())
noncomputable def z92.sg (k : Nat) : Sig := ⟨(.cons (.row QK0) QS5), QS5, z92 k, []⟩
theorem z92.ok {L : List (Nat × Obj)} (k : Nat) : SigHolds Tryz.prog L 64 (z92.sg k) :=
  soe (C := ⟨Tryz.prog, [], k, [], []⟩) holds_nil Tryz.func64 { loops := [(0, [(0, (.own QK0)), (1, (.pur (.int .i64))), (5, (.pur (.int .i64)))])] } fun _ => by kernel_rfl
noncomputable def z93.l0 (k : Nat) : E2 (((List QT7) × Int × Int × Unit) → Option ((Int × Unit) × ((List QT7) × Unit × Unit))) := fun G0 x => match x with
 | (a, k_, i, ()) =>
  br k (decide (i < (a.length : Int)))
  (br k (decide (0 ≤ i ∧ i < (a.length : Int)))
  (bd k (a[i.toNat]?) fun x1 =>
  br k (decide (0 ≤ i ∧ i < ((a.set i.toNat (k_, x1.2.1, x1.2.2.1, x1.2.2.2.1, x1.2.2.2.2.1, ())).length : Int)))
  (bd k ((a.set i.toNat (k_, x1.2.1, x1.2.2.1, x1.2.2.2.1, x1.2.2.2.2.1, ()))[i.toNat]?) fun x2 =>
  bd k (z92 k (x2.2.1, IntKind.wrap .i64 (k_ + 1), ())) fun y3 =>
  br k (decide (0 ≤ i ∧ i < ((a.set i.toNat (k_, x1.2.1, x1.2.2.1, x1.2.2.2.1, x1.2.2.2.2.1, ())).length : Int)))
  (bd k (((a.set i.toNat (k_, x1.2.1, x1.2.2.1, x1.2.2.2.1, x1.2.2.2.2.1, ())).set i.toNat (x2.1, y3.2.1, x2.2.2.1, x2.2.2.2.1, x2.2.2.2.2.1, ()))[i.toNat]?) fun x4 =>
  bd k (z27 k (x4.2.2.1, y3.1.1, ())) fun y5 =>
  br k (decide (0 ≤ i ∧ i < (((a.set i.toNat (k_, x1.2.1, x1.2.2.1, x1.2.2.2.1, x1.2.2.2.2.1, ())).set i.toNat (x2.1, y3.2.1, x2.2.2.1, x2.2.2.2.1, x2.2.2.2.2.1, ())).length : Int)))
  (bd k ((((a.set i.toNat (k_, x1.2.1, x1.2.2.1, x1.2.2.2.1, x1.2.2.2.2.1, ())).set i.toNat (x2.1, y3.2.1, x2.2.2.1, x2.2.2.2.1, x2.2.2.2.2.1, ())).set i.toNat (x4.1, x4.2.1, y5.2.1, x4.2.2.2.1, x4.2.2.2.2.1, ()))[i.toNat]?) fun x6 =>
  bd k (z87 k (x6.2.2.2.1, y5.1.1, ())) fun y7 =>
  br k (decide (0 ≤ i ∧ i < ((((a.set i.toNat (k_, x1.2.1, x1.2.2.1, x1.2.2.2.1, x1.2.2.2.2.1, ())).set i.toNat (x2.1, y3.2.1, x2.2.2.1, x2.2.2.2.1, x2.2.2.2.2.1, ())).set i.toNat (x4.1, x4.2.1, y5.2.1, x4.2.2.2.1, x4.2.2.2.2.1, ())).length : Int)))
  (bd k (((((a.set i.toNat (k_, x1.2.1, x1.2.2.1, x1.2.2.2.1, x1.2.2.2.2.1, ())).set i.toNat (x2.1, y3.2.1, x2.2.2.1, x2.2.2.2.1, x2.2.2.2.2.1, ())).set i.toNat (x4.1, x4.2.1, y5.2.1, x4.2.2.2.1, x4.2.2.2.2.1, ())).set i.toNat (x6.1, x6.2.1, x6.2.2.1, y7.2.1, x6.2.2.2.2.1, ()))[i.toNat]?) fun x8 =>
  bd k (z88 k (x8.2.2.2.2.1, y7.1.1, ())) fun y9 =>
  G0 (((((a.set i.toNat (k_, x1.2.1, x1.2.2.1, x1.2.2.2.1, x1.2.2.2.2.1, ())).set i.toNat (x2.1, y3.2.1, x2.2.2.1, x2.2.2.2.1, x2.2.2.2.2.1, ())).set i.toNat (x4.1, x4.2.1, y5.2.1, x4.2.2.2.1, x4.2.2.2.2.1, ())).set i.toNat (x6.1, x6.2.1, x6.2.2.1, y7.2.1, x6.2.2.2.2.1, ())).set i.toNat (x8.1, x8.2.1, x8.2.2.1, x8.2.2.2.1, y9.2.1, ()), y9.1.1, IntKind.wrap .i64 (i + 1), ()))
  none)
  none)
  none)
  none)
  none)
  (some ((k_, ()), (a, (), ())))
noncomputable def z93 (k : Nat) : ((List QT7) × Int × Unit) → Option ((Int × Unit) × ((List QT7) × Unit × Unit)) := fun x => match x with
 | (a, k_, ()) =>
  iter (z93.l0 k) k (a, k_, 0, ())
noncomputable def z93.sg (k : Nat) : Sig := ⟨(.cons (.nrw QS32) QS5), QS5, z93 k, []⟩
theorem z93.ok {L : List (Nat × Obj)} (k : Nat) : SigHolds Tryz.prog L 28 (z93.sg k) :=
  soe (C := ⟨Tryz.prog, [(64, [z92.sg k]), (15, [z27.sg k]), (65, [z87.sg k]), (66, [z88.sg k])], k, [], []⟩) (hc1 (z92.ok k) (hc1 (z27.ok k) (hc1 (z87.ok k) (hc1 (z88.ok k) holds_nil)))) Tryz.func28 { loops := [(0, [(0, (.rows QS32)), (1, (.pur (.int .i64))), (5, (.pur (.int .i64)))])] } fun _ => by kernel_rfl
noncomputable def z94.l0 (k : Nat) : E2 ((QT15 × Int × Int × Unit) → Option QT16) := fun G0 x => match x with
 | (a, k_, i, ()) =>
  br k (decide (i < (a.length : Int)))
  (br k (decide (0 ≤ i))
  (bd k (a[i.toNat]?) fun x1 =>
  br k (x1.1 != k_)
  (some (((-1), ()), ((), (), ())))
  (br k (decide (0 ≤ i))
  (bd k (a[i.toNat]?) fun x2 =>
  br k (x2.2.1 != (IntKind.wrap .i64 (k_ + 1)))
  (some (((-1), ()), ((), (), ())))
  (G0 (a, IntKind.wrap .i64 ((IntKind.wrap .i64 (k_ + 1)) + 1), IntKind.wrap .i64 (i + 1), ())))
  none))
  none)
  (some ((k_, ()), ((), (), ())))
noncomputable def z94 (k : Nat) : (QT15 × Int × Unit) → Option QT16 := fun x => match x with
 | (a, k_, ()) =>
  iter (z94.l0 k) k (a, k_, 0, ())
noncomputable def z94.sg (k : Nat) : Sig := ⟨(.cons (.pur (.sl false QK0)) QS5), QS5, z94 k, []⟩
theorem z94.ok {L : List (Nat × Obj)} (k : Nat) : SigHolds Tryz.prog L 67 (z94.sg k) :=
  soe (C := ⟨Tryz.prog, [], k, [], []⟩) holds_nil Tryz.func67 { loops := [(0, [(0, (.pur (.sl false QK0))), (1, (.pur (.int .i64))), (5, (.pur (.int .i64)))])] } fun _ => by kernel_rfl
noncomputable def z79.l0 (k : Nat) : E2 (((List QT7) × Int × Int × Unit) → Option QT16) := fun G0 x => match x with
 | (a, k_, i, ()) =>
  br k (decide (i < (a.length : Int)))
  (br k (decide (0 ≤ i))
  (bd k (a[i.toNat]?) fun x1 =>
  br k (x1.1 != k_)
  (some (((-1), ()), ((), (), ())))
  (br k (decide (0 ≤ i))
  (bd k (a[i.toNat]?) fun x2 =>
  bd k (z94 k (x2.2.1, IntKind.wrap .i64 (k_ + 1), ())) fun y3 =>
  br k (decide (y3.1.1 < 0))
  (some (((-1), ()), ((), (), ())))
  (br k (decide (0 ≤ i))
  (bd k (a[i.toNat]?) fun x4 =>
  bd k (z36 k (x4.2.2.1, y3.1.1, ())) fun y5 =>
  br k (decide (y5.1.1 < 0))
  (some (((-1), ()), ((), (), ())))
  (br k (decide (0 ≤ i))
  (bd k (a[i.toNat]?) fun x6 =>
  bd k (z89 k (x6.2.2.2.1, y5.1.1, ())) fun y7 =>
  br k (decide (y7.1.1 < 0))
  (some (((-1), ()), ((), (), ())))
  (br k (decide (0 ≤ i))
  (bd k (a[i.toNat]?) fun x8 =>
  bd k (z90 k (x8.2.2.2.2.1, y7.1.1, ())) fun y9 =>
  br k (decide (y9.1.1 < 0))
  (some (((-1), ()), ((), (), ())))
  (G0 (a, y9.1.1, IntKind.wrap .i64 (i + 1), ())))
  none))
  none))
  none))
  none))
  none)
  (some ((k_, ()), ((), (), ())))
noncomputable def z79 (k : Nat) : ((List QT7) × Int × Unit) → Option QT16 := fun x => match x with
 | (a, k_, ()) =>
  iter (z79.l0 k) k (a, k_, 0, ())
noncomputable def z79.sg (k : Nat) : Sig := ⟨(.cons (.pur (.sl false QK31)) QS5), QS5, z79 k, []⟩
theorem z79.ok {L : List (Nat × Obj)} (k : Nat) : SigHolds Tryz.prog L 29 (z79.sg k) :=
  soe (C := ⟨Tryz.prog, [(67, [z94.sg k]), (68, [z36.sg k]), (69, [z89.sg k]), (70, [z90.sg k])], k, [], []⟩) (hc1 (z94.ok k) (hc1 (z36.ok k) (hc1 (z89.ok k) (hc1 (z90.ok k) holds_nil)))) Tryz.func29 { loops := [(0, [(0, (.pur (.sl false QK31))), (1, (.pur (.int .i64))), (5, (.pur (.int .i64)))])] } fun _ => by kernel_rfl
noncomputable def z185 (k : Nat) : QT46 → Option ((Bool × Unit) × QT29) := fun x => match x with
 | (aP, aInputs, aFuel, ()) =>
  br k (decide ((aInputs.length : Int) > 1048576))
  (some ((true, ()), ((), (), (), ())))
  (bd k (z135 k (aP, 1048576, ())) fun y1 =>
  br k (decide (y1.1.1 < 0))
  (some ((true, ()), ((), (), (), ())))
  (bd k (z95 k (aP, ())) fun y2 =>
  bd k (z29 k (aInputs, ())) fun y3 =>
  bd k (z38 k ((y2.1.1.1, y2.1.1.2.1, y2.1.1.2.2.1, y2.1.1.2.2.2.1, ()), y3.1.1, aFuel, ())) fun y4 =>
  bd k (z95 k (aP, ())) fun y5 =>
  bd k (z29 k (aInputs, ())) fun y6 =>
  bd k (z106 k ((y5.1.1.1, y5.1.1.2.1, y5.1.1.2.2.1, y5.1.1.2.2.2.1, ()), y6.1.1, aFuel, ())) fun y7 =>
  bd k (z39 k (y7.1.1, y4.1.1, ())) fun y8 =>
  br k (!y8.1.1)
  (some ((false, ()), ((), (), (), ())))
  (bd k (z95 k (aP, ())) fun y9 =>
  bd k (z128 k ((y5.1.1.1, y5.1.1.2.1, y5.1.1.2.2.1, y5.1.1.2.2.2.1, ()), (y9.1.1.1, y9.1.1.2.1, y9.1.1.2.2.1, y9.1.1.2.2.2.1, ()), ())) fun y10 =>
  br k (!y10.1.1)
  (some ((false, ()), ((), (), (), ())))
  (bd k (z29 k (aInputs, ())) fun y11 =>
  bd k (z19 k (y6.1.1, y11.1.1, ())) fun y12 =>
  br k (!y12.1.1)
  (some ((false, ()), ((), (), (), ())))
  (bd k (z129 k ((y5.1.1.1, y5.1.1.2.1, y5.1.1.2.2.1, y5.1.1.2.2.2.1, ()), 1, ())) fun y13 =>
  bd k (z27 k (y6.1.1, y13.1.1, ())) fun y14 =>
  (br k (decide (y14.1.1 < 0))
  (some (true, ()))
  (bd k (z39 k (y7.1.1, y4.1.1, ())) fun y15 =>
  some (!y15.1.1, ())) : Option (Bool × Unit)).bind fun j16 =>
  br k (j16.1)
  (some ((false, ()), ((), (), (), ())))
  (bd k (z93 k (y7.1.1, 1, ())) fun y17 =>
  bd k (z79 k (y17.2.1, 1, ())) fun y18 =>
  br k (decide (y18.1.1 < 0))
  (some ((false, ()), ((), (), (), ())))
  (br k (y18.1.1 != y17.1.1)
  (some ((false, ()), ((), (), (), ())))
  (bd k (z95 k (aP, ())) fun y19 =>
  bd k (z29 k (aInputs, ())) fun y20 =>
  bd k (z106 k ((y19.1.1.1, y19.1.1.2.1, y19.1.1.2.2.1, y19.1.1.2.2.2.1, ()), y20.1.1, aFuel, ())) fun y21 =>
  bd k (z39 k (y21.1.1, y4.1.1, ())) fun y22 =>
  br k (!y22.1.1)
  (some ((false, ()), ((), (), (), ())))
  (bd k (z79 k (y17.2.1, 1, ())) fun y23 =>
  br k (decide (y23.1.1 < 0))
  (some ((false, ()), ((), (), (), ())))
  (br k (y23.1.1 != y17.1.1)
  (some ((false, ()), ((), (), (), ())))
  (some ((true, ()), ((), (), (), ())))))))))))))
noncomputable def z185.sg (k : Nat) : Sig := ⟨QS53, QS17, z185 k, []⟩
theorem z185.ok {L : List (Nat × Obj)} (hSp : Lb.NeedSp L) (k : Nat) : SigHolds Tryz.prog L 5 (z185.sg k) :=
  soe (C := ⟨Tryz.prog, [(6, [z135.sg k]), (8, [z95.sg k]), (9, [z29.sg k]), (22, [z38.sg k]), (20, [z106.sg k]), (27, [z39.sg k]), (12, [z128.sg k]), (13, [z19.sg k]), (14, [z129.sg k]), (15, [z27.sg k]), (28, [z93.sg k]), (29, [z79.sg k])], k, [], []⟩) (hc1 (z135.ok k) (hc1 (z95.ok k) (hc1 (z29.ok k) (hc1 (z38.ok k) (hc1 (z106.ok hSp k) (hc1 (z39.ok k) (hc1 (z128.ok k) (hc1 (z19.ok k) (hc1 (z129.ok k) (hc1 (z27.ok k) (hc1 (z93.ok k) (hc1 (z79.ok k) holds_nil)))))))))))) Tryz.func5 { joins := [(20, [(65, .bool)])], keys := [(13, [([9], false), ([3], false), ([44], false), ([31, 44], false), ([], false)])] } fun _ => by kernel_rfl
end Go.Pev.F
