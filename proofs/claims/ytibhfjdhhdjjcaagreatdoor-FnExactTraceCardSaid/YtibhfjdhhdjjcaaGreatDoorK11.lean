/-
  Printed by gen.py: what functions of the program compute, and that they do.
-/
import Derived.Test.YtibhfjdhhdjjcaaGreatDoorK10
set_option linter.unusedSimpArgs false
set_option linter.unusedVariables false
open Go.Proofs Go.Pev
namespace Go.Pev.F
set_option maxRecDepth 100000
noncomputable def z27.l0 (k : Nat) : E2 (((List Int) × Int × Int × Unit) → Option ((Int × Unit) × ((List Int) × Unit × Unit))) := fun G0 x => match x with
 | (a, k_, i, ()) =>
  br k (decide (i < (a.length : Int)))
  (br k (decide (0 ≤ i ∧ i < (a.length : Int)))
  (bd k (a[i.toNat]?) fun x1 =>
  G0 (a.set i.toNat k_, IntKind.wrap .i64 (k_ + 1), IntKind.wrap .i64 (i + 1), ()))
  none)
  (some ((k_, ()), (a, (), ())))
noncomputable def z27 (k : Nat) : ((List Int) × Int × Unit) → Option ((Int × Unit) × ((List Int) × Unit × Unit)) := fun x => match x with
 | (a, k_, ()) =>
  iter (z27.l0 k) k (a, k_, 0, ())
noncomputable def z27.sg (k : Nat) : Sig := ⟨(.cons (.row (.int .i64)) QS5), QS5, z27 k, []⟩
theorem z27.ok {L : List (Nat × Obj)} (k : Nat) : SigHolds Tryz.prog L 15 (z27.sg k) :=
  soe (C := ⟨Tryz.prog, [], k, [], []⟩) holds_nil Tryz.func15 { loops := [(0, [(0, (.own (.int .i64))), (1, (.pur (.int .i64))), (5, (.pur (.int .i64)))])] } fun _ => by kernel_rfl
noncomputable def z87.l0 (k : Nat) : E2 (((List Bool) × Int × Int × Unit) → Option ((Int × Unit) × ((List Bool) × Unit × Unit))) := fun G0 x => match x with
 | (a, k_, i, ()) =>
  br k (decide (i < (a.length : Int)))
  (br k (!decide ((3 : Int) = 0))
  (br k (decide (0 ≤ i ∧ i < (a.length : Int)))
  (bd k (a[i.toNat]?) fun x1 =>
  G0 (a.set i.toNat ((k_.tmod 3) == 0), IntKind.wrap .i64 (k_ + 1), IntKind.wrap .i64 (i + 1), ()))
  none)
  none)
  (some ((k_, ()), (a, (), ())))
noncomputable def z87 (k : Nat) : ((List Bool) × Int × Unit) → Option ((Int × Unit) × ((List Bool) × Unit × Unit)) := fun x => match x with
 | (a, k_, ()) =>
  iter (z87.l0 k) k (a, k_, 0, ())
noncomputable def z87.sg (k : Nat) : Sig := ⟨(.cons (.row .bool) QS5), QS5, z87 k, []⟩
theorem z87.ok {L : List (Nat × Obj)} (k : Nat) : SigHolds Tryz.prog L 65 (z87.sg k) :=
  soe (C := ⟨Tryz.prog, [], k, [], []⟩) holds_nil Tryz.func65 { loops := [(0, [(0, (.own .bool)), (1, (.pur (.int .i64))), (5, (.pur (.int .i64)))])] } fun _ => by kernel_rfl
noncomputable def z88.l0 (k : Nat) : E2 (((List (List Int)) × Int × Int × Unit) → Option ((Int × Unit) × ((List (List Int)) × Unit × Unit))) := fun G0 x => match x with
 | (a, k_, i, ()) =>
  br k (decide (i < (a.length : Int)))
  (br k (decide (0 ≤ i ∧ i < (a.length : Int)))
  (bd k (a[i.toNat]?) fun x1 =>
  bd k (z27 k (x1, k_, ())) fun y2 =>
  G0 (a.set i.toNat y2.2.1, y2.1.1, IntKind.wrap .i64 (i + 1), ()))
  none)
  (some ((k_, ()), (a, (), ())))
noncomputable def z88 (k : Nat) : ((List (List Int)) × Int × Unit) → Option ((Int × Unit) × ((List (List Int)) × Unit × Unit)) := fun x => match x with
 | (a, k_, ()) =>
  iter (z88.l0 k) k (a, k_, 0, ())
noncomputable def z88.sg (k : Nat) : Sig := ⟨(.cons (.nrw (.own (.int .i64))) QS5), QS5, z88 k, []⟩
theorem z88.ok {L : List (Nat × Obj)} (k : Nat) : SigHolds Tryz.prog L 66 (z88.sg k) :=
  soe (C := ⟨Tryz.prog, [(15, [z27.sg k])], k, [], []⟩) (hc1 (z27.ok k) holds_nil) Tryz.func66 { loops := [(0, [(0, (.rows (.own (.int .i64)))), (1, (.pur (.int .i64))), (5, (.pur (.int .i64)))])] } fun _ => by kernel_rfl
noncomputable def z36.l0 (k : Nat) : E2 (((List Int) × Int × Int × Unit) → Option QT16) := fun G0 x => match x with
 | (a, k_, i, ()) =>
  br k (decide (i < (a.length : Int)))
  (br k (decide (0 ≤ i))
  (bd k (a[i.toNat]?) fun x1 =>
  br k (x1 != k_)
  (some (((-1), ()), ((), (), ())))
  (G0 (a, IntKind.wrap .i64 (k_ + 1), IntKind.wrap .i64 (i + 1), ())))
  none)
  (some ((k_, ()), ((), (), ())))
noncomputable def z36 (k : Nat) : ((List Int) × Int × Unit) → Option QT16 := fun x => match x with
 | (a, k_, ()) =>
  iter (z36.l0 k) k (a, k_, 0, ())
noncomputable def z36.sg (k : Nat) : Sig := ⟨(.cons QS27 QS5), QS5, z36 k, []⟩
theorem z36.ok {L : List (Nat × Obj)} (k : Nat) : SigHolds Tryz.prog L 68 (z36.sg k) :=
  soe (C := ⟨Tryz.prog, [], k, [], []⟩) holds_nil Tryz.func68 { loops := [(0, [(0, QS27), (1, (.pur (.int .i64))), (5, (.pur (.int .i64)))])] } fun _ => by kernel_rfl
noncomputable def z89.l0 (k : Nat) : E2 (((List Bool) × Int × Int × Unit) → Option QT16) := fun G0 x => match x with
 | (a, k_, i, ()) =>
  br k (decide (i < (a.length : Int)))
  (br k (decide (0 ≤ i))
  (bd k (a[i.toNat]?) fun x1 =>
  br k (!decide ((3 : Int) = 0))
  (br k (!(x1 == ((k_.tmod 3) == 0)))
  (some (((-1), ()), ((), (), ())))
  (G0 (a, IntKind.wrap .i64 (k_ + 1), IntKind.wrap .i64 (i + 1), ())))
  none)
  none)
  (some ((k_, ()), ((), (), ())))
noncomputable def z89 (k : Nat) : ((List Bool) × Int × Unit) → Option QT16 := fun x => match x with
 | (a, k_, ()) =>
  iter (z89.l0 k) k (a, k_, 0, ())
noncomputable def z89.sg (k : Nat) : Sig := ⟨(.cons QS47 QS5), QS5, z89 k, []⟩
theorem z89.ok {L : List (Nat × Obj)} (k : Nat) : SigHolds Tryz.prog L 69 (z89.sg k) :=
  soe (C := ⟨Tryz.prog, [], k, [], []⟩) holds_nil Tryz.func69 { loops := [(0, [(0, QS47), (1, (.pur (.int .i64))), (5, (.pur (.int .i64)))])] } fun _ => by kernel_rfl
noncomputable def z90.l0 (k : Nat) : E2 (((List (List Int)) × Int × Int × Unit) → Option QT16) := fun G0 x => match x with
 | (a, k_, i, ()) =>
  br k (decide (i < (a.length : Int)))
  (br k (decide (0 ≤ i))
  (bd k (a[i.toNat]?) fun x1 =>
  bd k (z36 k (x1, k_, ())) fun y2 =>
  br k (decide (y2.1.1 < 0))
  (some (((-1), ()), ((), (), ())))
  (G0 (a, y2.1.1, IntKind.wrap .i64 (i + 1), ())))
  none)
  (some ((k_, ()), ((), (), ())))
noncomputable def z90 (k : Nat) : ((List (List Int)) × Int × Unit) → Option QT16 := fun x => match x with
 | (a, k_, ()) =>
  iter (z90.l0 k) k (a, k_, 0, ())
noncomputable def z90.sg (k : Nat) : Sig := ⟨(.cons QS38 QS5), QS5, z90 k, []⟩
theorem z90.ok {L : List (Nat × Obj)} (k : Nat) : SigHolds Tryz.prog L 70 (z90.sg k) :=
  soe (C := ⟨Tryz.prog, [(68, [z36.sg k])], k, [], []⟩) (hc1 (z36.ok k) holds_nil) Tryz.func70 { loops := [(0, [(0, QS38), (1, (.pur (.int .i64))), (5, (.pur (.int .i64)))])] } fun _ => by kernel_rfl
end Go.Pev.F
