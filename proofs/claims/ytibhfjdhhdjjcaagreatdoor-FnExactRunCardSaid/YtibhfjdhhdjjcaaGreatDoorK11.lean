/-
  Printed by gen.py: what functions of the program compute, and that they do.
-/
import Derived.Test.YtibhfjdhhdjjcaaGreatDoorK10
set_option linter.unusedSimpArgs false
set_option linter.unusedVariables false
open Go.Proofs Go.Pev
namespace Go.Pev.F
set_option maxRecDepth 100000
noncomputable def z25.l0 (k : Nat) : E2 (((List Int) × Int × Int × Unit) → Option ((Int × Unit) × ((List Int) × Unit × Unit))) := fun G0 x => match x with
 | (a, k_, i, ()) =>
  br k (decide (i < (a.length : Int)))
  (br k (decide (0 ≤ i ∧ i < (a.length : Int)))
  (bd k (a[i.toNat]?) fun x1 =>
  G0 (a.set i.toNat k_, IntKind.wrap .i64 (k_ + 1), IntKind.wrap .i64 (i + 1), ()))
  none)
  (some ((k_, ()), (a, (), ())))
noncomputable def z25 (k : Nat) : ((List Int) × Int × Unit) → Option ((Int × Unit) × ((List Int) × Unit × Unit)) := fun x => match x with
 | (a, k_, ()) =>
  iter (z25.l0 k) k (a, k_, 0, ())
noncomputable def z25.sg (k : Nat) : Sig := ⟨(.cons (.row (.int .i64)) QS4), QS4, z25 k, []⟩
theorem z25.ok {L : List (Nat × Obj)} (k : Nat) : SigHolds Tryz.prog L 15 (z25.sg k) :=
  soe (C := ⟨Tryz.prog, [], k, [], []⟩) holds_nil Tryz.func15 { loops := [(0, [(0, (.own (.int .i64))), (1, (.pur (.int .i64))), (5, (.pur (.int .i64)))])] } fun _ => by kernel_rfl
noncomputable def z81.l0 (k : Nat) : E2 (((List Bool) × Int × Int × Unit) → Option ((Int × Unit) × ((List Bool) × Unit × Unit))) := fun G0 x => match x with
 | (a, k_, i, ()) =>
  br k (decide (i < (a.length : Int)))
  (br k (!decide ((3 : Int) = 0))
  (br k (decide (0 ≤ i ∧ i < (a.length : Int)))
  (bd k (a[i.toNat]?) fun x1 =>
  G0 (a.set i.toNat ((k_.tmod 3) == 0), IntKind.wrap .i64 (k_ + 1), IntKind.wrap .i64 (i + 1), ()))
  none)
  none)
  (some ((k_, ()), (a, (), ())))
noncomputable def z81 (k : Nat) : ((List Bool) × Int × Unit) → Option ((Int × Unit) × ((List Bool) × Unit × Unit)) := fun x => match x with
 | (a, k_, ()) =>
  iter (z81.l0 k) k (a, k_, 0, ())
noncomputable def z81.sg (k : Nat) : Sig := ⟨(.cons (.row .bool) QS4), QS4, z81 k, []⟩
theorem z81.ok {L : List (Nat × Obj)} (k : Nat) : SigHolds Tryz.prog L 65 (z81.sg k) :=
  soe (C := ⟨Tryz.prog, [], k, [], []⟩) holds_nil Tryz.func65 { loops := [(0, [(0, (.own .bool)), (1, (.pur (.int .i64))), (5, (.pur (.int .i64)))])] } fun _ => by kernel_rfl
noncomputable def z82.l0 (k : Nat) : E2 (((List (List Int)) × Int × Int × Unit) → Option ((Int × Unit) × ((List (List Int)) × Unit × Unit))) := fun G0 x => match x with
 | (a, k_, i, ()) =>
  br k (decide (i < (a.length : Int)))
  (br k (decide (0 ≤ i ∧ i < (a.length : Int)))
  (bd k (a[i.toNat]?) fun x1 =>
  bd k (z25 k (x1, k_, ())) fun y2 =>
  G0 (a.set i.toNat y2.2.1, y2.1.1, IntKind.wrap .i64 (i + 1), ()))
  none)
  (some ((k_, ()), (a, (), ())))
noncomputable def z82 (k : Nat) : ((List (List Int)) × Int × Unit) → Option ((Int × Unit) × ((List (List Int)) × Unit × Unit)) := fun x => match x with
 | (a, k_, ()) =>
  iter (z82.l0 k) k (a, k_, 0, ())
noncomputable def z82.sg (k : Nat) : Sig := ⟨(.cons (.nrw (.own (.int .i64))) QS4), QS4, z82 k, []⟩
theorem z82.ok {L : List (Nat × Obj)} (k : Nat) : SigHolds Tryz.prog L 66 (z82.sg k) :=
  soe (C := ⟨Tryz.prog, [(15, [z25.sg k])], k, [], []⟩) (hc1 (z25.ok k) holds_nil) Tryz.func66 { loops := [(0, [(0, (.rows (.own (.int .i64)))), (1, (.pur (.int .i64))), (5, (.pur (.int .i64)))])] } fun _ => by kernel_rfl
noncomputable def z158 (k : Nat) : (QT8 × Int × Unit) → Option ((Int × Unit) × (QT8 × Unit × Unit)) := fun x => match x with
 | ((a_0, a_1, a_2, ()), k_, ()) =>
  bd k (z25 k (a_0, k_, ())) fun y1 =>
  bd k (z81 k (a_1, y1.1.1, ())) fun y2 =>
  bd k (z82 k (a_2, y2.1.1, ())) fun y3 =>
  some ((y3.1.1, ()), ((y1.2.1, y2.2.1, y3.2.1, ()), (), ()))
noncomputable def z158.sg (k : Nat) : Sig := ⟨(.cons (.agg (.cons (.row (.int .i64)) (.cons (.row .bool) (.cons (.nrw (.own (.int .i64))) .nil)))) QS4), QS4, z158 k, []⟩
theorem z158.ok {L : List (Nat × Obj)} (k : Nat) : SigHolds Tryz.prog L 47 (z158.sg k) :=
  soe (C := ⟨Tryz.prog, [(15, [z25.sg k]), (65, [z81.sg k]), (66, [z82.sg k])], k, [], []⟩) (hc1 (z25.ok k) (hc1 (z81.ok k) (hc1 (z82.ok k) holds_nil))) Tryz.func47 {} fun _ => by kernel_rfl
noncomputable def z120 (k : Nat) : (QT24 × Int × Unit) → Option ((Int × Unit) × ((Unit × Unit × (List Int) × (List Bool) × (List (List Int)) × Unit × Unit × Unit) × Unit × Unit)) := fun x => match x with
 | ((a_0, a_1, a_2, a_3, a_4, a_5, a_6, ()), k_, ()) =>
  bd k (z158 k ((a_2, a_3, a_4, ()), k_, ())) fun y1 =>
  some ((y1.1.1, ()), (((), (), y1.2.1.1, y1.2.1.2.1, y1.2.1.2.2.1, (), (), ()), (), ()))
noncomputable def z120.sg (k : Nat) : Sig := ⟨(.cons (.agg (.cons (.pur (.int .i64)) (.cons (.pur (.int .i64)) (.cons (.row (.int .i64)) (.cons (.row .bool) (.cons (.nrw (.own (.int .i64))) QS15)))))) QS4), QS4, z120 k, []⟩
theorem z120.ok {L : List (Nat × Obj)} (k : Nat) : SigHolds Tryz.prog L 16 (z120.sg k) :=
  soe (C := ⟨Tryz.prog, [(47, [z158.sg k])], k, [], []⟩) (hc1 (z158.ok k) holds_nil) Tryz.func16 {} fun _ => by kernel_rfl
noncomputable def z34.l0 (k : Nat) : E2 (((List Int) × Int × Int × Unit) → Option QT14) := fun G0 x => match x with
 | (a, k_, i, ()) =>
  br k (decide (i < (a.length : Int)))
  (br k (decide (0 ≤ i))
  (bd k (a[i.toNat]?) fun x1 =>
  br k (x1 != k_)
  (some (((-1), ()), ((), (), ())))
  (G0 (a, IntKind.wrap .i64 (k_ + 1), IntKind.wrap .i64 (i + 1), ())))
  none)
  (some ((k_, ()), ((), (), ())))
noncomputable def z34 (k : Nat) : ((List Int) × Int × Unit) → Option QT14 := fun x => match x with
 | (a, k_, ()) =>
  iter (z34.l0 k) k (a, k_, 0, ())
noncomputable def z34.sg (k : Nat) : Sig := ⟨(.cons QS20 QS4), QS4, z34 k, []⟩
theorem z34.ok {L : List (Nat × Obj)} (k : Nat) : SigHolds Tryz.prog L 68 (z34.sg k) :=
  soe (C := ⟨Tryz.prog, [], k, [], []⟩) holds_nil Tryz.func68 { loops := [(0, [(0, QS20), (1, (.pur (.int .i64))), (5, (.pur (.int .i64)))])] } fun _ => by kernel_rfl
noncomputable def z83.l0 (k : Nat) : E2 (((List Bool) × Int × Int × Unit) → Option QT14) := fun G0 x => match x with
 | (a, k_, i, ()) =>
  br k (decide (i < (a.length : Int)))
  (br k (decide (0 ≤ i))
  (bd k (a[i.toNat]?) fun x1 =>
  br k (!decide ((3 : Int) = 0))
  (br k (!(x1 == ((k_.tmod 3) == 0)))
  (some (((-1), ()), ((), (), ())))
  (G0 (a, IntKind.wrap .i64 (k_ + 1), IntKind.wrap .i64 (i + 1), ())))
  none)
  none)
  (some ((k_, ()), ((), (), ())))
noncomputable def z83 (k : Nat) : ((List Bool) × Int × Unit) → Option QT14 := fun x => match x with
 | (a, k_, ()) =>
  iter (z83.l0 k) k (a, k_, 0, ())
noncomputable def z83.sg (k : Nat) : Sig := ⟨(.cons QS45 QS4), QS4, z83 k, []⟩
theorem z83.ok {L : List (Nat × Obj)} (k : Nat) : SigHolds Tryz.prog L 69 (z83.sg k) :=
  soe (C := ⟨Tryz.prog, [], k, [], []⟩) holds_nil Tryz.func69 { loops := [(0, [(0, QS45), (1, (.pur (.int .i64))), (5, (.pur (.int .i64)))])] } fun _ => by kernel_rfl
noncomputable def z84.l0 (k : Nat) : E2 (((List (List Int)) × Int × Int × Unit) → Option QT14) := fun G0 x => match x with
 | (a, k_, i, ()) =>
  br k (decide (i < (a.length : Int)))
  (br k (decide (0 ≤ i))
  (bd k (a[i.toNat]?) fun x1 =>
  bd k (z34 k (x1, k_, ())) fun y2 =>
  br k (decide (y2.1.1 < 0))
  (some (((-1), ()), ((), (), ())))
  (G0 (a, y2.1.1, IntKind.wrap .i64 (i + 1), ())))
  none)
  (some ((k_, ()), ((), (), ())))
noncomputable def z84 (k : Nat) : ((List (List Int)) × Int × Unit) → Option QT14 := fun x => match x with
 | (a, k_, ()) =>
  iter (z84.l0 k) k (a, k_, 0, ())
noncomputable def z84.sg (k : Nat) : Sig := ⟨(.cons QS36 QS4), QS4, z84 k, []⟩
theorem z84.ok {L : List (Nat × Obj)} (k : Nat) : SigHolds Tryz.prog L 70 (z84.sg k) :=
  soe (C := ⟨Tryz.prog, [(68, [z34.sg k])], k, [], []⟩) (hc1 (z34.ok k) holds_nil) Tryz.func70 { loops := [(0, [(0, QS36), (1, (.pur (.int .i64))), (5, (.pur (.int .i64)))])] } fun _ => by kernel_rfl
noncomputable def z159 (k : Nat) : (QT8 × Int × Unit) → Option QT14 := fun x => match x with
 | (a, k_, ()) =>
  bd k (z34 k (a.1, k_, ())) fun y1 =>
  br k (decide (y1.1.1 < 0))
  (some (((-1), ()), ((), (), ())))
  (bd k (z83 k (a.2.1, y1.1.1, ())) fun y2 =>
  br k (decide (y2.1.1 < 0))
  (some (((-1), ()), ((), (), ())))
  (bd k (z84 k (a.2.2.1, y2.1.1, ())) fun y3 =>
  br k (decide (y3.1.1 < 0))
  (some (((-1), ()), ((), (), ())))
  (some ((y3.1.1, ()), ((), (), ())))))
noncomputable def z159.sg (k : Nat) : Sig := ⟨(.cons QS18 QS4), QS4, z159 k, []⟩
theorem z159.ok {L : List (Nat × Obj)} (k : Nat) : SigHolds Tryz.prog L 48 (z159.sg k) :=
  soe (C := ⟨Tryz.prog, [(68, [z34.sg k]), (69, [z83.sg k]), (70, [z84.sg k])], k, [], []⟩) (hc1 (z34.ok k) (hc1 (z83.ok k) (hc1 (z84.ok k) holds_nil))) Tryz.func48 {} fun _ => by kernel_rfl
noncomputable def z121 (k : Nat) : (QT24 × Int × Unit) → Option QT14 := fun x => match x with
 | (a, k_, ()) =>
  bd k (z159 k ((a.2.2.1, a.2.2.2.1, a.2.2.2.2.1, ()), k_, ())) fun y1 =>
  br k (decide (y1.1.1 < 0))
  (some (((-1), ()), ((), (), ())))
  (some ((y1.1.1, ()), ((), (), ())))
noncomputable def z121.sg (k : Nat) : Sig := ⟨(.cons QS29 QS4), QS4, z121 k, []⟩
theorem z121.ok {L : List (Nat × Obj)} (k : Nat) : SigHolds Tryz.prog L 17 (z121.sg k) :=
  soe (C := ⟨Tryz.prog, [(48, [z159.sg k])], k, [], []⟩) (hc1 (z159.ok k) holds_nil) Tryz.func17 {} fun _ => by kernel_rfl
noncomputable def z175 (k : Nat) : QT44 → Option ((Bool × Unit) × QT31) := fun x => match x with
 | (aP, aInputs, aFuel, ()) =>
  br k (decide ((aInputs.length : Int) > 1048576))
  (some ((true, ()), ((), (), (), ())))
  (bd k (z125 k (aP, 1048576, ())) fun y1 =>
  br k (decide (y1.1.1 < 0))
  (some ((true, ()), ((), (), (), ())))
  (bd k (z85 k (aP, ())) fun y2 =>
  bd k (z27 k (aInputs, ())) fun y3 =>
  bd k (z39 k ((y2.1.1.1, y2.1.1.2.1, y2.1.1.2.2.1, y2.1.1.2.2.2.1, ()), y3.1.1, aFuel, ())) fun y4 =>
  bd k (z85 k (aP, ())) fun y5 =>
  bd k (z27 k (aInputs, ())) fun y6 =>
  bd k (z95 k ((y5.1.1.1, y5.1.1.2.1, y5.1.1.2.2.1, y5.1.1.2.2.2.1, ()), y6.1.1, aFuel, ())) fun y7 =>
  bd k (z92 k ((y7.1.1.1, y7.1.1.2.1, y7.1.1.2.2.1, y7.1.1.2.2.2.1, y7.1.1.2.2.2.2.1, y7.1.1.2.2.2.2.2.1, y7.1.1.2.2.2.2.2.2.1, ()), y4.1.1, ())) fun y8 =>
  br k (!y8.1.1)
  (some ((false, ()), ((), (), (), ())))
  (bd k (z85 k (aP, ())) fun y9 =>
  bd k (z117 k ((y5.1.1.1, y5.1.1.2.1, y5.1.1.2.2.1, y5.1.1.2.2.2.1, ()), (y9.1.1.1, y9.1.1.2.1, y9.1.1.2.2.1, y9.1.1.2.2.2.1, ()), ())) fun y10 =>
  br k (!y10.1.1)
  (some ((false, ()), ((), (), (), ())))
  (bd k (z27 k (aInputs, ())) fun y11 =>
  bd k (z19 k (y6.1.1, y11.1.1, ())) fun y12 =>
  br k (!y12.1.1)
  (some ((false, ()), ((), (), (), ())))
  (bd k (z118 k ((y5.1.1.1, y5.1.1.2.1, y5.1.1.2.2.1, y5.1.1.2.2.2.1, ()), 1, ())) fun y13 =>
  bd k (z25 k (y6.1.1, y13.1.1, ())) fun y14 =>
  (br k (decide (y14.1.1 < 0))
  (some (true, ()))
  (bd k (z92 k ((y7.1.1.1, y7.1.1.2.1, y7.1.1.2.2.1, y7.1.1.2.2.2.1, y7.1.1.2.2.2.2.1, y7.1.1.2.2.2.2.2.1, y7.1.1.2.2.2.2.2.2.1, ()), y4.1.1, ())) fun y15 =>
  some (!y15.1.1, ())) : Option (Bool × Unit)).bind fun j16 =>
  br k (j16.1)
  (some ((false, ()), ((), (), (), ())))
  (bd k (z120 k ((y7.1.1.1, y7.1.1.2.1, y7.1.1.2.2.1, y7.1.1.2.2.2.1, y7.1.1.2.2.2.2.1, y7.1.1.2.2.2.2.2.1, y7.1.1.2.2.2.2.2.2.1, ()), 1, ())) fun y17 =>
  bd k (z121 k ((y7.1.1.1, y7.1.1.2.1, y17.2.1.2.2.1, y17.2.1.2.2.2.1, y17.2.1.2.2.2.2.1, y7.1.1.2.2.2.2.2.1, y7.1.1.2.2.2.2.2.2.1, ()), 1, ())) fun y18 =>
  br k (decide (y18.1.1 < 0))
  (some ((false, ()), ((), (), (), ())))
  (br k (y18.1.1 != y17.1.1)
  (some ((false, ()), ((), (), (), ())))
  (bd k (z85 k (aP, ())) fun y19 =>
  bd k (z27 k (aInputs, ())) fun y20 =>
  bd k (z95 k ((y19.1.1.1, y19.1.1.2.1, y19.1.1.2.2.1, y19.1.1.2.2.2.1, ()), y20.1.1, aFuel, ())) fun y21 =>
  bd k (z92 k ((y21.1.1.1, y21.1.1.2.1, y21.1.1.2.2.1, y21.1.1.2.2.2.1, y21.1.1.2.2.2.2.1, y21.1.1.2.2.2.2.2.1, y21.1.1.2.2.2.2.2.2.1, ()), y4.1.1, ())) fun y22 =>
  br k (!y22.1.1)
  (some ((false, ()), ((), (), (), ())))
  (bd k (z121 k ((y7.1.1.1, y7.1.1.2.1, y17.2.1.2.2.1, y17.2.1.2.2.2.1, y17.2.1.2.2.2.2.1, y7.1.1.2.2.2.2.2.1, y7.1.1.2.2.2.2.2.2.1, ()), 1, ())) fun y23 =>
  br k (decide (y23.1.1 < 0))
  (some ((false, ()), ((), (), (), ())))
  (br k (y23.1.1 != y17.1.1)
  (some ((false, ()), ((), (), (), ())))
  (some ((true, ()), ((), (), (), ())))))))))))))
noncomputable def z175.sg (k : Nat) : Sig := ⟨QS49, QS13, z175 k, []⟩
theorem z175.ok {L : List (Nat × Obj)} (hSp : Lb.NeedSp L) (k : Nat) : SigHolds Tryz.prog L 3 (z175.sg k) :=
  soe (C := ⟨Tryz.prog, [(6, [z125.sg k]), (8, [z85.sg k]), (9, [z27.sg k]), (7, [z39.sg k]), (10, [z95.sg k]), (11, [z92.sg k]), (12, [z117.sg k]), (13, [z19.sg k]), (14, [z118.sg k]), (15, [z25.sg k]), (16, [z120.sg k]), (17, [z121.sg k])], k, [], []⟩) (hc1 (z125.ok k) (hc1 (z85.ok k) (hc1 (z27.ok k) (hc1 (z39.ok k) (hc1 (z95.ok hSp k) (hc1 (z92.ok k) (hc1 (z117.ok k) (hc1 (z19.ok k) (hc1 (z118.ok k) (hc1 (z25.ok k) (hc1 (z120.ok k) (hc1 (z121.ok k) holds_nil)))))))))))) Tryz.func3 { joins := [(20, [(65, .bool)])], keys := [(13, [([9], false), ([3], false), ([44], false), ([31, 44], false), ([], false)])] } fun _ => by kernel_rfl
end Go.Pev.F
