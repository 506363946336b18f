/-
  Printed by gen.py: what functions of the program compute, and that they do.
-/
import Derived.Test.YtibhfjdhhdjjcaaGreatDoorK09
set_option linter.unusedSimpArgs false
set_option linter.unusedVariables false
open Go.Proofs Go.Pev
namespace Go.Pev.F
set_option maxRecDepth 100000
noncomputable def z19.l0 (k : Nat) : E2 (((List Int) × (List Int) × Int × Unit) → Option QT18) := fun G0 x => match x with
 | (a, b_, i, ()) =>
  br k (decide (i < (a.length : Int)))
  (br k (decide (0 ≤ i))
  (bd k (a[i.toNat]?) fun x1 =>
  br k (decide (0 ≤ i))
  (bd k (b_[i.toNat]?) fun x2 =>
  br k (x1 != x2)
  (some ((false, ()), ((), (), ())))
  (G0 (a, b_, IntKind.wrap .i64 (i + 1), ())))
  none)
  none)
  (some ((true, ()), ((), (), ())))
noncomputable def z19 (k : Nat) : ((List Int) × (List Int) × Unit) → Option QT18 := fun x => match x with
 | (a, b_, ()) =>
  br k ((a.length : Int) != (b_.length : Int))
  (some ((false, ()), ((), (), ())))
  (iter (z19.l0 k) k (a, b_, 0, ()))
noncomputable def z19.sg (k : Nat) : Sig := ⟨(.cons QS27 (.cons QS27 .nil)), QS17, z19 k, []⟩
theorem z19.ok {L : List (Nat × Obj)} (k : Nat) : SigHolds Tryz.prog L 13 (z19.sg k) :=
  soe (C := ⟨Tryz.prog, [], k, [], []⟩) holds_nil Tryz.func13 { loops := [(0, [(0, QS27), (1, QS27), (5, (.pur (.int .i64)))])] } fun _ => by kernel_rfl
noncomputable def z72.l0 (k : Nat) : E2 (((List Bool) × (List Bool) × Int × Unit) → Option QT18) := fun G0 x => match x with
 | (a, b_, i, ()) =>
  br k (decide (i < (a.length : Int)))
  (br k (decide (0 ≤ i))
  (bd k (a[i.toNat]?) fun x1 =>
  br k (decide (0 ≤ i))
  (bd k (b_[i.toNat]?) fun x2 =>
  br k (!(x1 == x2))
  (some ((false, ()), ((), (), ())))
  (G0 (a, b_, IntKind.wrap .i64 (i + 1), ())))
  none)
  none)
  (some ((true, ()), ((), (), ())))
noncomputable def z72 (k : Nat) : ((List Bool) × (List Bool) × Unit) → Option QT18 := fun x => match x with
 | (a, b_, ()) =>
  br k ((a.length : Int) != (b_.length : Int))
  (some ((false, ()), ((), (), ())))
  (iter (z72.l0 k) k (a, b_, 0, ()))
noncomputable def z72.sg (k : Nat) : Sig := ⟨(.cons QS47 (.cons QS47 .nil)), QS17, z72 k, []⟩
theorem z72.ok {L : List (Nat × Obj)} (k : Nat) : SigHolds Tryz.prog L 88 (z72.sg k) :=
  soe (C := ⟨Tryz.prog, [], k, [], []⟩) holds_nil Tryz.func88 { loops := [(0, [(0, QS47), (1, QS47), (5, (.pur (.int .i64)))])] } fun _ => by kernel_rfl
noncomputable def z73.l0 (k : Nat) : E2 (((List (List Int)) × (List (List Int)) × Int × Unit) → Option QT18) := fun G0 x => match x with
 | (a, b_, i, ()) =>
  br k (decide (i < (a.length : Int)))
  (br k (decide (0 ≤ i))
  (bd k (a[i.toNat]?) fun x1 =>
  br k (decide (0 ≤ i))
  (bd k (b_[i.toNat]?) fun x2 =>
  bd k (z19 k (x1, x2, ())) fun y3 =>
  br k (!y3.1.1)
  (some ((false, ()), ((), (), ())))
  (G0 (a, b_, IntKind.wrap .i64 (i + 1), ())))
  none)
  none)
  (some ((true, ()), ((), (), ())))
noncomputable def z73 (k : Nat) : ((List (List Int)) × (List (List Int)) × Unit) → Option QT18 := fun x => match x with
 | (a, b_, ()) =>
  br k ((a.length : Int) != (b_.length : Int))
  (some ((false, ()), ((), (), ())))
  (iter (z73.l0 k) k (a, b_, 0, ()))
noncomputable def z73.sg (k : Nat) : Sig := ⟨(.cons QS38 (.cons QS38 .nil)), QS17, z73 k, []⟩
theorem z73.ok {L : List (Nat × Obj)} (k : Nat) : SigHolds Tryz.prog L 89 (z73.sg k) :=
  soe (C := ⟨Tryz.prog, [(13, [z19.sg k])], k, [], []⟩) (hc1 (z19.ok k) holds_nil) Tryz.func89 { loops := [(0, [(0, QS38), (1, QS38), (5, (.pur (.int .i64)))])] } fun _ => by kernel_rfl
noncomputable def z161 (k : Nat) : (QT9 × QT9 × Unit) → Option QT18 := fun x => match x with
 | (a, b_, ()) =>
  bd k (z19 k (a.1, b_.1, ())) fun y1 =>
  br k (!y1.1.1)
  (some ((false, ()), ((), (), ())))
  (bd k (z72 k (a.2.1, b_.2.1, ())) fun y2 =>
  br k (!y2.1.1)
  (some ((false, ()), ((), (), ())))
  (bd k (z73 k (a.2.2.1, b_.2.2.1, ())) fun y3 =>
  br k (!y3.1.1)
  (some ((false, ()), ((), (), ())))
  (some ((true, ()), ((), (), ())))))
noncomputable def z161.sg (k : Nat) : Sig := ⟨(.cons (.pur QK11) (.cons (.pur QK11) .nil)), QS17, z161 k, []⟩
theorem z161.ok {L : List (Nat × Obj)} (k : Nat) : SigHolds Tryz.prog L 42 (z161.sg k) :=
  soe (C := ⟨Tryz.prog, [(13, [z19.sg k]), (88, [z72.sg k]), (89, [z73.sg k])], k, [], []⟩) (hc1 (z19.ok k) (hc1 (z72.ok k) (hc1 (z73.ok k) holds_nil))) Tryz.func42 {} fun _ => by kernel_rfl
noncomputable def z47.l0 (k : Nat) : E2 (((List (List UInt8)) × (List (List UInt8)) × Int × Unit) → Option QT18) := fun G0 x => match x with
 | (a, b_, i, ()) =>
  br k (decide (i < (a.length : Int)))
  (br k (decide (0 ≤ i))
  (bd k (a[i.toNat]?) fun x1 =>
  br k (decide (0 ≤ i))
  (bd k (b_[i.toNat]?) fun x2 =>
  br k (!(x1 == x2))
  (some ((false, ()), ((), (), ())))
  (G0 (a, b_, IntKind.wrap .i64 (i + 1), ())))
  none)
  none)
  (some ((true, ()), ((), (), ())))
noncomputable def z47 (k : Nat) : ((List (List UInt8)) × (List (List UInt8)) × Unit) → Option QT18 := fun x => match x with
 | (a, b_, ()) =>
  br k ((a.length : Int) != (b_.length : Int))
  (some ((false, ()), ((), (), ())))
  (iter (z47.l0 k) k (a, b_, 0, ()))
noncomputable def z47.sg (k : Nat) : Sig := ⟨(.cons (.pur (.sl false .str)) (.cons (.pur (.sl false .str)) .nil)), QS17, z47 k, []⟩
theorem z47.ok {L : List (Nat × Obj)} (k : Nat) : SigHolds Tryz.prog L 90 (z47.sg k) :=
  soe (C := ⟨Tryz.prog, [], k, [], []⟩) holds_nil Tryz.func90 { loops := [(0, [(0, (.pur (.sl false .str))), (1, (.pur (.sl false .str))), (5, (.pur (.int .i64)))])] } fun _ => by kernel_rfl
noncomputable def z162 (k : Nat) : (QT24 × QT24 × Unit) → Option QT18 := fun x => match x with
 | (a, b_, ()) =>
  br k (!(a.1 == b_.1))
  (some ((false, ()), ((), (), ())))
  (br k (a.2.1 != b_.2.1)
  (some ((false, ()), ((), (), ())))
  (some ((true, ()), ((), (), ()))))
noncomputable def z162.sg (k : Nat) : Sig := ⟨(.cons (.pur QK28) (.cons (.pur QK28) .nil)), QS17, z162 k, []⟩
theorem z162.ok {L : List (Nat × Obj)} (k : Nat) : SigHolds Tryz.prog L 138 (z162.sg k) :=
  soe (C := ⟨Tryz.prog, [], k, [], []⟩) holds_nil Tryz.func138 {} fun _ => by kernel_rfl
noncomputable def z74.l0 (k : Nat) : E2 (((List QT24) × (List QT24) × Int × Unit) → Option QT18) := fun G0 x => match x with
 | (a, b_, i, ()) =>
  br k (decide (i < (a.length : Int)))
  (br k (decide (0 ≤ i))
  (bd k (a[i.toNat]?) fun x1 =>
  br k (decide (0 ≤ i))
  (bd k (b_[i.toNat]?) fun x2 =>
  bd k (z162 k (x1, x2, ())) fun y3 =>
  br k (!y3.1.1)
  (some ((false, ()), ((), (), ())))
  (G0 (a, b_, IntKind.wrap .i64 (i + 1), ())))
  none)
  none)
  (some ((true, ()), ((), (), ())))
noncomputable def z74 (k : Nat) : ((List QT24) × (List QT24) × Unit) → Option QT18 := fun x => match x with
 | (a, b_, ()) =>
  br k ((a.length : Int) != (b_.length : Int))
  (some ((false, ()), ((), (), ())))
  (iter (z74.l0 k) k (a, b_, 0, ()))
noncomputable def z74.sg (k : Nat) : Sig := ⟨(.cons (.pur QK8) (.cons (.pur QK8) .nil)), QS17, z74 k, []⟩
theorem z74.ok {L : List (Nat × Obj)} (k : Nat) : SigHolds Tryz.prog L 91 (z74.sg k) :=
  soe (C := ⟨Tryz.prog, [(138, [z162.sg k])], k, [], []⟩) (hc1 (z162.ok k) holds_nil) Tryz.func91 { loops := [(0, [(0, (.pur QK8)), (1, (.pur QK8)), (5, (.pur (.int .i64)))])] } fun _ => by kernel_rfl
noncomputable def z163 (k : Nat) : (QT6 × QT6 × Unit) → Option QT18 := fun x => match x with
 | (a, b_, ()) =>
  bd k (z47 k (a.1, b_.1, ())) fun y1 =>
  br k (!y1.1.1)
  (some ((false, ()), ((), (), ())))
  (bd k (z47 k (a.2.1, b_.2.1, ())) fun y2 =>
  br k (!y2.1.1)
  (some ((false, ()), ((), (), ())))
  (bd k (z74 k (a.2.2.1, b_.2.2.1, ())) fun y3 =>
  br k (!y3.1.1)
  (some ((false, ()), ((), (), ())))
  (some ((true, ()), ((), (), ())))))
noncomputable def z163.sg (k : Nat) : Sig := ⟨(.cons QS14 (.cons QS14 .nil)), QS17, z163 k, []⟩
theorem z163.ok {L : List (Nat × Obj)} (k : Nat) : SigHolds Tryz.prog L 43 (z163.sg k) :=
  soe (C := ⟨Tryz.prog, [(90, [z47.sg k]), (91, [z74.sg k])], k, [], []⟩) (hc1 (z47.ok k) (hc1 (z74.ok k) holds_nil)) Tryz.func43 {} fun _ => by kernel_rfl
noncomputable def z164 (k : Nat) : ((Int × Int × Unit) × (Int × Int × Unit) × Unit) → Option QT18 := fun x => match x with
 | (a, b_, ()) =>
  br k (a.1 != b_.1)
  (some ((false, ()), ((), (), ())))
  (br k (a.2.1 != b_.2.1)
  (some ((false, ()), ((), (), ())))
  (some ((true, ()), ((), (), ()))))
noncomputable def z164.sg (k : Nat) : Sig := ⟨(.cons (.pur QK0) (.cons (.pur QK0) .nil)), QS17, z164 k, []⟩
theorem z164.ok {L : List (Nat × Obj)} (k : Nat) : SigHolds Tryz.prog L 193 (z164.sg k) :=
  soe (C := ⟨Tryz.prog, [], k, [], []⟩) holds_nil Tryz.func193 {} fun _ => by kernel_rfl
noncomputable def z48.l0 (k : Nat) : E2 ((QT15 × QT15 × Int × Unit) → Option QT18) := fun G0 x => match x with
 | (a, b_, i, ()) =>
  br k (decide (i < (a.length : Int)))
  (br k (decide (0 ≤ i))
  (bd k (a[i.toNat]?) fun x1 =>
  br k (decide (0 ≤ i))
  (bd k (b_[i.toNat]?) fun x2 =>
  bd k (z164 k (x1, x2, ())) fun y3 =>
  br k (!y3.1.1)
  (some ((false, ()), ((), (), ())))
  (G0 (a, b_, IntKind.wrap .i64 (i + 1), ())))
  none)
  none)
  (some ((true, ()), ((), (), ())))
noncomputable def z48 (k : Nat) : (QT15 × QT15 × Unit) → Option QT18 := fun x => match x with
 | (a, b_, ()) =>
  br k ((a.length : Int) != (b_.length : Int))
  (some ((false, ()), ((), (), ())))
  (iter (z48.l0 k) k (a, b_, 0, ()))
noncomputable def z48.sg (k : Nat) : Sig := ⟨(.cons (.pur (.sl false QK0)) QS35), QS17, z48 k, []⟩
theorem z48.ok {L : List (Nat × Obj)} (k : Nat) : SigHolds Tryz.prog L 139 (z48.sg k) :=
  soe (C := ⟨Tryz.prog, [(193, [z164.sg k])], k, [], []⟩) (hc1 (z164.ok k) holds_nil) Tryz.func139 { loops := [(0, [(0, (.pur (.sl false QK0))), (1, (.pur (.sl false QK0))), (5, (.pur (.int .i64)))])] } fun _ => by kernel_rfl
noncomputable def z165 (k : Nat) : (QT1 × QT1 × Unit) → Option QT18 := fun x => match x with
 | (a, b_, ()) =>
  br k (a.1 != b_.1)
  (some ((false, ()), ((), (), ())))
  (br k (a.2.1 != b_.2.1)
  (some ((false, ()), ((), (), ())))
  (bd k (z48 k (a.2.2.1, b_.2.2.1, ())) fun y1 =>
  br k (!y1.1.1)
  (some ((false, ()), ((), (), ())))
  (bd k (z48 k (a.2.2.2.1, b_.2.2.2.1, ())) fun y2 =>
  br k (!y2.1.1)
  (some ((false, ()), ((), (), ())))
  (br k (a.2.2.2.2.1 != b_.2.2.2.2.1)
  (some ((false, ()), ((), (), ())))
  (br k (a.2.2.2.2.2.1 != b_.2.2.2.2.2.1)
  (some ((false, ()), ((), (), ())))
  (some ((true, ()), ((), (), ()))))))))
noncomputable def z165.sg (k : Nat) : Sig := ⟨(.cons (.pur QK2) (.cons (.pur QK2) .nil)), QS17, z165 k, []⟩
theorem z165.ok {L : List (Nat × Obj)} (k : Nat) : SigHolds Tryz.prog L 92 (z165.sg k) :=
  soe (C := ⟨Tryz.prog, [(139, [z48.sg k])], k, [], []⟩) (hc1 (z48.ok k) holds_nil) Tryz.func92 {} fun _ => by kernel_rfl
noncomputable def z75.l0 (k : Nat) : E2 (((List QT1) × (List QT1) × Int × Unit) → Option QT18) := fun G0 x => match x with
 | (a, b_, i, ()) =>
  br k (decide (i < (a.length : Int)))
  (br k (decide (0 ≤ i))
  (bd k (a[i.toNat]?) fun x1 =>
  br k (decide (0 ≤ i))
  (bd k (b_[i.toNat]?) fun x2 =>
  bd k (z165 k (x1, x2, ())) fun y3 =>
  br k (!y3.1.1)
  (some ((false, ()), ((), (), ())))
  (G0 (a, b_, IntKind.wrap .i64 (i + 1), ())))
  none)
  none)
  (some ((true, ()), ((), (), ())))
noncomputable def z75 (k : Nat) : ((List QT1) × (List QT1) × Unit) → Option QT18 := fun x => match x with
 | (a, b_, ()) =>
  br k ((a.length : Int) != (b_.length : Int))
  (some ((false, ()), ((), (), ())))
  (iter (z75.l0 k) k (a, b_, 0, ()))
noncomputable def z75.sg (k : Nat) : Sig := ⟨(.cons (.pur (.sl false QK2)) QS40), QS17, z75 k, []⟩
theorem z75.ok {L : List (Nat × Obj)} (k : Nat) : SigHolds Tryz.prog L 44 (z75.sg k) :=
  soe (C := ⟨Tryz.prog, [(92, [z165.sg k])], k, [], []⟩) (hc1 (z165.ok k) holds_nil) Tryz.func44 { loops := [(0, [(0, (.pur (.sl false QK2))), (1, (.pur (.sl false QK2))), (5, (.pur (.int .i64)))])] } fun _ => by kernel_rfl
noncomputable def z128 (k : Nat) : (QT12 × QT12 × Unit) → Option QT18 := fun x => match x with
 | (a, b_, ()) =>
  bd k (z163 k ((a.1, a.2.1, a.2.2.1, ()), (b_.1, b_.2.1, b_.2.2.1, ()), ())) fun y1 =>
  br k (!y1.1.1)
  (some ((false, ()), ((), (), ())))
  (bd k (z75 k (a.2.2.2.1, b_.2.2.2.1, ())) fun y2 =>
  br k (!y2.1.1)
  (some ((false, ()), ((), (), ())))
  (some ((true, ()), ((), (), ()))))
noncomputable def z128.sg (k : Nat) : Sig := ⟨(.cons QS19 (.cons QS19 .nil)), QS17, z128 k, []⟩
theorem z128.ok {L : List (Nat × Obj)} (k : Nat) : SigHolds Tryz.prog L 12 (z128.sg k) :=
  soe (C := ⟨Tryz.prog, [(43, [z163.sg k]), (44, [z75.sg k])], k, [], []⟩) (hc1 (z163.ok k) (hc1 (z75.ok k) holds_nil)) Tryz.func12 {} fun _ => by kernel_rfl
noncomputable def z23.l0 (k : Nat) : E2 ((Int × (List UInt8) × Unit) → Option (((List UInt8) × Unit) × (Unit × Unit))) := fun G0 x => match x with
 | (k_, out_, ()) =>
  br k (decide (k_ > 0))
  (br k (!decide ((10 : Int) = 0))
  (br k (decide ((((([IntKind.wrap .u8 (IntKind.wrap .i64 (48 + (k_.tmod 10)))] : List Int).map (fun n : Int => UInt8.ofNat n.toNat)).length + out_.length : Nat) : Int) ≤ maxInt64))
  (br k (!decide ((10 : Int) = 0))
  (G0 (IntKind.wrap .i64 (k_.tdiv 10), (([IntKind.wrap .u8 (IntKind.wrap .i64 (48 + (k_.tmod 10)))] : List Int).map (fun n : Int => UInt8.ofNat n.toNat)) ++ out_, ()))
  none)
  none)
  none)
  (br k (decide (((([109] : List UInt8).length + out_.length : Nat) : Int) ≤ maxInt64))
  (some ((([109] : List UInt8) ++ out_, ()), ((), ())))
  none)
noncomputable def z23 (k : Nat) : (Int × Unit) → Option (((List UInt8) × Unit) × (Unit × Unit)) := fun x => match x with
 | (k_, ()) =>
  br k (decide (k_ ≤ 0))
  (some (([109, 48], ()), ((), ())))
  (iter (z23.l0 k) k (k_, [], ()))
noncomputable def z23.sg (k : Nat) : Sig := ⟨QS5, QS43, z23 k, []⟩
theorem z23.ok {L : List (Nat × Obj)} (k : Nat) : SigHolds Tryz.prog L 140 (z23.sg k) :=
  soe (C := ⟨Tryz.prog, [], k, [], []⟩) holds_nil Tryz.func140 { loops := [(0, [(0, (.pur (.int .i64))), (3, (.pur .str))])] } fun _ => by kernel_rfl
noncomputable def z76.l0 (k : Nat) : E2 (((List (List UInt8)) × Int × Int × Unit) → Option ((Int × Unit) × ((List (List UInt8)) × Unit × Unit))) := fun G0 x => match x with
 | (a, k_, i, ()) =>
  br k (decide (i < (a.length : Int)))
  (bd k (z23 k (k_, ())) fun y1 =>
  br k (decide (0 ≤ i ∧ i < (a.length : Int)))
  (bd k (a[i.toNat]?) fun x2 =>
  G0 (a.set i.toNat y1.1.1, IntKind.wrap .i64 (k_ + 1), IntKind.wrap .i64 (i + 1), ()))
  none)
  (some ((k_, ()), (a, (), ())))
noncomputable def z76 (k : Nat) : ((List (List UInt8)) × Int × Unit) → Option ((Int × Unit) × ((List (List UInt8)) × Unit × Unit)) := fun x => match x with
 | (a, k_, ()) =>
  iter (z76.l0 k) k (a, k_, 0, ())
noncomputable def z76.sg (k : Nat) : Sig := ⟨(.cons (.row .str) QS5), QS5, z76 k, []⟩
theorem z76.ok {L : List (Nat × Obj)} (k : Nat) : SigHolds Tryz.prog L 93 (z76.sg k) :=
  soe (C := ⟨Tryz.prog, [(140, [z23.sg k])], k, [], []⟩) (hc1 (z23.ok k) holds_nil) Tryz.func93 { loops := [(0, [(0, (.own .str)), (1, (.pur (.int .i64))), (5, (.pur (.int .i64)))])] } fun _ => by kernel_rfl
noncomputable def z85.l0 (k : Nat) : E2 (((List QT24) × Int × Int × Unit) → Option ((Int × Unit) × ((List QT24) × Unit × Unit))) := fun G0 x => match x with
 | (a, k_, i, ()) =>
  br k (decide (i < (a.length : Int)))
  (bd k (z23 k (k_, ())) fun y1 =>
  br k (decide (0 ≤ i ∧ i < (a.length : Int)))
  (bd k (a[i.toNat]?) fun x2 =>
  br k (decide (0 ≤ i ∧ i < ((a.set i.toNat (y1.1.1, x2.2.1, ())).length : Int)))
  (bd k ((a.set i.toNat (y1.1.1, x2.2.1, ()))[i.toNat]?) fun x3 =>
  G0 ((a.set i.toNat (y1.1.1, x2.2.1, ())).set i.toNat (x3.1, IntKind.wrap .i64 (k_ + 1), ()), IntKind.wrap .i64 ((IntKind.wrap .i64 (k_ + 1)) + 1), IntKind.wrap .i64 (i + 1), ()))
  none)
  none)
  (some ((k_, ()), (a, (), ())))
noncomputable def z85 (k : Nat) : ((List QT24) × Int × Unit) → Option ((Int × Unit) × ((List QT24) × Unit × Unit)) := fun x => match x with
 | (a, k_, ()) =>
  iter (z85.l0 k) k (a, k_, 0, ())
noncomputable def z85.sg (k : Nat) : Sig := ⟨(.cons (.row QK28) QS5), QS5, z85 k, []⟩
theorem z85.ok {L : List (Nat × Obj)} (k : Nat) : SigHolds Tryz.prog L 94 (z85.sg k) :=
  soe (C := ⟨Tryz.prog, [(140, [z23.sg k])], k, [], []⟩) (hc1 (z23.ok k) holds_nil) Tryz.func94 { loops := [(0, [(0, (.own QK28)), (1, (.pur (.int .i64))), (5, (.pur (.int .i64)))])] } fun _ => by kernel_rfl
noncomputable def z166 (k : Nat) : (QT6 × Int × Unit) → Option ((Int × Unit) × (QT6 × Unit × Unit)) := fun x => match x with
 | ((a_0, a_1, a_2, ()), k_, ()) =>
  bd k (z76 k (a_0, k_, ())) fun y1 =>
  bd k (z76 k (a_1, y1.1.1, ())) fun y2 =>
  bd k (z85 k (a_2, y2.1.1, ())) fun y3 =>
  some ((y3.1.1, ()), ((y1.2.1, y2.2.1, y3.2.1, ()), (), ()))
noncomputable def z166.sg (k : Nat) : Sig := ⟨(.cons (.agg (.cons (.row .str) (.cons (.row .str) (.cons (.row QK28) .nil)))) QS5), QS5, z166 k, []⟩
theorem z166.ok {L : List (Nat × Obj)} (k : Nat) : SigHolds Tryz.prog L 45 (z166.sg k) :=
  soe (C := ⟨Tryz.prog, [(93, [z76.sg k]), (94, [z85.sg k])], k, [], []⟩) (hc1 (z76.ok k) (hc1 (z85.ok k) holds_nil)) Tryz.func45 {} fun _ => by kernel_rfl
noncomputable def z77.l0 (k : Nat) : E2 ((QT15 × Int × Int × Unit) → Option QT51) := fun G0 x => match x with
 | (a, k_, i, ()) =>
  br k (decide (i < (a.length : Int)))
  (br k (decide (0 ≤ i ∧ i < (a.length : Int)))
  (bd k (a[i.toNat]?) fun x1 =>
  br k (decide (0 ≤ i ∧ i < ((a.set i.toNat (k_, x1.2.1, ())).length : Int)))
  (bd k ((a.set i.toNat (k_, x1.2.1, ()))[i.toNat]?) fun x2 =>
  G0 ((a.set i.toNat (k_, x1.2.1, ())).set i.toNat (x2.1, IntKind.wrap .i64 (k_ + 1), ()), IntKind.wrap .i64 ((IntKind.wrap .i64 (k_ + 1)) + 1), IntKind.wrap .i64 (i + 1), ()))
  none)
  none)
  (some ((k_, ()), (a, (), ())))
noncomputable def z77 (k : Nat) : (QT15 × Int × Unit) → Option QT51 := fun x => match x with
 | (a, k_, ()) =>
  iter (z77.l0 k) k (a, k_, 0, ())
noncomputable def z77.sg (k : Nat) : Sig := ⟨(.cons (.row QK0) QS5), QS5, z77 k, []⟩
theorem z77.ok {L : List (Nat × Obj)} (k : Nat) : SigHolds Tryz.prog L 95 (z77.sg k) :=
  soe (C := ⟨Tryz.prog, [], k, [], []⟩) holds_nil Tryz.func95 { loops := [(0, [(0, (.own QK0)), (1, (.pur (.int .i64))), (5, (.pur (.int .i64)))])] } fun _ => by kernel_rfl
noncomputable def z86.l0 (k : Nat) : E2 (((List QT1) × Int × Int × Unit) → Option ((Int × Unit) × ((List QT1) × Unit × Unit))) := fun G0 x => match x with
 | (a, k_, i, ()) =>
  br k (decide (i < (a.length : Int)))
  (br k (decide (0 ≤ i ∧ i < (a.length : Int)))
  (bd k (a[i.toNat]?) fun x1 =>
  br k (decide (0 ≤ i ∧ i < ((a.set i.toNat (k_, x1.2.1, x1.2.2.1, x1.2.2.2.1, x1.2.2.2.2.1, x1.2.2.2.2.2.1, ())).length : Int)))
  (bd k ((a.set i.toNat (k_, x1.2.1, x1.2.2.1, x1.2.2.2.1, x1.2.2.2.2.1, x1.2.2.2.2.2.1, ()))[i.toNat]?) fun x2 =>
  br k (decide (0 ≤ i ∧ i < (((a.set i.toNat (k_, x1.2.1, x1.2.2.1, x1.2.2.2.1, x1.2.2.2.2.1, x1.2.2.2.2.2.1, ())).set i.toNat (x2.1, IntKind.wrap .i64 (k_ + 1), x2.2.2.1, x2.2.2.2.1, x2.2.2.2.2.1, x2.2.2.2.2.2.1, ())).length : Int)))
  (bd k (((a.set i.toNat (k_, x1.2.1, x1.2.2.1, x1.2.2.2.1, x1.2.2.2.2.1, x1.2.2.2.2.2.1, ())).set i.toNat (x2.1, IntKind.wrap .i64 (k_ + 1), x2.2.2.1, x2.2.2.2.1, x2.2.2.2.2.1, x2.2.2.2.2.2.1, ()))[i.toNat]?) fun x3 =>
  bd k (z77 k (x3.2.2.1, IntKind.wrap .i64 ((IntKind.wrap .i64 (k_ + 1)) + 1), ())) fun y4 =>
  br k (decide (0 ≤ i ∧ i < (((a.set i.toNat (k_, x1.2.1, x1.2.2.1, x1.2.2.2.1, x1.2.2.2.2.1, x1.2.2.2.2.2.1, ())).set i.toNat (x2.1, IntKind.wrap .i64 (k_ + 1), x2.2.2.1, x2.2.2.2.1, x2.2.2.2.2.1, x2.2.2.2.2.2.1, ())).length : Int)))
  (bd k ((((a.set i.toNat (k_, x1.2.1, x1.2.2.1, x1.2.2.2.1, x1.2.2.2.2.1, x1.2.2.2.2.2.1, ())).set i.toNat (x2.1, IntKind.wrap .i64 (k_ + 1), x2.2.2.1, x2.2.2.2.1, x2.2.2.2.2.1, x2.2.2.2.2.2.1, ())).set i.toNat (x3.1, x3.2.1, y4.2.1, x3.2.2.2.1, x3.2.2.2.2.1, x3.2.2.2.2.2.1, ()))[i.toNat]?) fun x5 =>
  bd k (z77 k (x5.2.2.2.1, y4.1.1, ())) fun y6 =>
  br k (decide (0 ≤ i ∧ i < ((((a.set i.toNat (k_, x1.2.1, x1.2.2.1, x1.2.2.2.1, x1.2.2.2.2.1, x1.2.2.2.2.2.1, ())).set i.toNat (x2.1, IntKind.wrap .i64 (k_ + 1), x2.2.2.1, x2.2.2.2.1, x2.2.2.2.2.1, x2.2.2.2.2.2.1, ())).set i.toNat (x3.1, x3.2.1, y4.2.1, x3.2.2.2.1, x3.2.2.2.2.1, x3.2.2.2.2.2.1, ())).length : Int)))
  (bd k (((((a.set i.toNat (k_, x1.2.1, x1.2.2.1, x1.2.2.2.1, x1.2.2.2.2.1, x1.2.2.2.2.2.1, ())).set i.toNat (x2.1, IntKind.wrap .i64 (k_ + 1), x2.2.2.1, x2.2.2.2.1, x2.2.2.2.2.1, x2.2.2.2.2.2.1, ())).set i.toNat (x3.1, x3.2.1, y4.2.1, x3.2.2.2.1, x3.2.2.2.2.1, x3.2.2.2.2.2.1, ())).set i.toNat (x5.1, x5.2.1, x5.2.2.1, y6.2.1, x5.2.2.2.2.1, x5.2.2.2.2.2.1, ()))[i.toNat]?) fun x7 =>
  br k (decide (0 ≤ i ∧ i < ((((((a.set i.toNat (k_, x1.2.1, x1.2.2.1, x1.2.2.2.1, x1.2.2.2.2.1, x1.2.2.2.2.2.1, ())).set i.toNat (x2.1, IntKind.wrap .i64 (k_ + 1), x2.2.2.1, x2.2.2.2.1, x2.2.2.2.2.1, x2.2.2.2.2.2.1, ())).set i.toNat (x3.1, x3.2.1, y4.2.1, x3.2.2.2.1, x3.2.2.2.2.1, x3.2.2.2.2.2.1, ())).set i.toNat (x5.1, x5.2.1, x5.2.2.1, y6.2.1, x5.2.2.2.2.1, x5.2.2.2.2.2.1, ())).set i.toNat (x7.1, x7.2.1, x7.2.2.1, x7.2.2.2.1, y6.1.1, x7.2.2.2.2.2.1, ())).length : Int)))
  (bd k ((((((a.set i.toNat (k_, x1.2.1, x1.2.2.1, x1.2.2.2.1, x1.2.2.2.2.1, x1.2.2.2.2.2.1, ())).set i.toNat (x2.1, IntKind.wrap .i64 (k_ + 1), x2.2.2.1, x2.2.2.2.1, x2.2.2.2.2.1, x2.2.2.2.2.2.1, ())).set i.toNat (x3.1, x3.2.1, y4.2.1, x3.2.2.2.1, x3.2.2.2.2.1, x3.2.2.2.2.2.1, ())).set i.toNat (x5.1, x5.2.1, x5.2.2.1, y6.2.1, x5.2.2.2.2.1, x5.2.2.2.2.2.1, ())).set i.toNat (x7.1, x7.2.1, x7.2.2.1, x7.2.2.2.1, y6.1.1, x7.2.2.2.2.2.1, ()))[i.toNat]?) fun x8 =>
  G0 ((((((a.set i.toNat (k_, x1.2.1, x1.2.2.1, x1.2.2.2.1, x1.2.2.2.2.1, x1.2.2.2.2.2.1, ())).set i.toNat (x2.1, IntKind.wrap .i64 (k_ + 1), x2.2.2.1, x2.2.2.2.1, x2.2.2.2.2.1, x2.2.2.2.2.2.1, ())).set i.toNat (x3.1, x3.2.1, y4.2.1, x3.2.2.2.1, x3.2.2.2.2.1, x3.2.2.2.2.2.1, ())).set i.toNat (x5.1, x5.2.1, x5.2.2.1, y6.2.1, x5.2.2.2.2.1, x5.2.2.2.2.2.1, ())).set i.toNat (x7.1, x7.2.1, x7.2.2.1, x7.2.2.2.1, y6.1.1, x7.2.2.2.2.2.1, ())).set i.toNat (x8.1, x8.2.1, x8.2.2.1, x8.2.2.2.1, x8.2.2.2.2.1, IntKind.wrap .i64 (y6.1.1 + 1), ()), IntKind.wrap .i64 ((IntKind.wrap .i64 (y6.1.1 + 1)) + 1), IntKind.wrap .i64 (i + 1), ()))
  none)
  none)
  none)
  none)
  none)
  none)
  (some ((k_, ()), (a, (), ())))
noncomputable def z86 (k : Nat) : ((List QT1) × Int × Unit) → Option ((Int × Unit) × ((List QT1) × Unit × Unit)) := fun x => match x with
 | (a, k_, ()) =>
  iter (z86.l0 k) k (a, k_, 0, ())
noncomputable def z86.sg (k : Nat) : Sig := ⟨(.cons (.nrw QS23) QS5), QS5, z86 k, []⟩
theorem z86.ok {L : List (Nat × Obj)} (k : Nat) : SigHolds Tryz.prog L 46 (z86.sg k) :=
  soe (C := ⟨Tryz.prog, [(95, [z77.sg k])], k, [], []⟩) (hc1 (z77.ok k) holds_nil) Tryz.func46 { loops := [(0, [(0, (.rows QS23)), (1, (.pur (.int .i64))), (5, (.pur (.int .i64)))])] } fun _ => by kernel_rfl
noncomputable def z129 (k : Nat) : (QT12 × Int × Unit) → Option ((Int × Unit) × (QT12 × Unit × Unit)) := fun x => match x with
 | ((a_0, a_1, a_2, a_3, ()), k_, ()) =>
  bd k (z166 k ((a_0, a_1, a_2, ()), k_, ())) fun y1 =>
  bd k (z86 k (a_3, y1.1.1, ())) fun y2 =>
  some ((y2.1.1, ()), ((y1.2.1.1, y1.2.1.2.1, y1.2.1.2.2.1, y2.2.1, ()), (), ()))
noncomputable def z129.sg (k : Nat) : Sig := ⟨(.cons (.agg (.cons (.row .str) (.cons (.row .str) (.cons (.row QK28) (.cons (.nrw QS23) .nil))))) QS5), QS5, z129 k, []⟩
theorem z129.ok {L : List (Nat × Obj)} (k : Nat) : SigHolds Tryz.prog L 14 (z129.sg k) :=
  soe (C := ⟨Tryz.prog, [(45, [z166.sg k]), (46, [z86.sg k])], k, [], []⟩) (hc1 (z166.ok k) (hc1 (z86.ok k) holds_nil)) Tryz.func14 {} fun _ => by kernel_rfl
end Go.Pev.F
