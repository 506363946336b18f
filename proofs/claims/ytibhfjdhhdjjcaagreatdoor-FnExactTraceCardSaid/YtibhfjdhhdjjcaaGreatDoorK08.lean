/-
  Printed by gen.py: what functions of the program compute, and that they do.
-/
import Derived.Test.YtibhfjdhhdjjcaaGreatDoorK07
set_option linter.unusedSimpArgs false
set_option linter.unusedVariables false
open Go.Proofs Go.Pev
namespace Go.Pev.F
set_option maxRecDepth 100000
noncomputable def z151 (k : Nat) : ((QT15 × Unit) × (List QT1) × Int × Unit) → Option (((Int × Int × Unit) × Bool × Unit) × ((QT15 × Unit) × Unit × Unit × Unit)) := fun x => match x with
 | ((f_0, ()), list, at_, ()) =>
  br k (decide (0 ≤ at_))
  (bd k (list[at_.toNat]?) fun x1 =>
  (bd k (z117 k (x1, ())) fun y2 =>
  br k (y2.1.1)
  (some (true, ()))
  (bd k (z100 k (x1, ())) fun y3 =>
  some (y3.1.1, ())) : Option (Bool × Unit)).bind fun j4 =>
  br k (j4.1)
  (br k (decide ((f_0.length + ([(at_, (-1), ())] : List (Int × Int × Unit)).length) * 16 ≤ maxBytes))
  (some ((((-1), (-1), ()), true, ()), ((f_0 ++ ([(at_, (-1), ())] : List (Int × Int × Unit)), ()), (), (), ())))
  none)
  (br k (x1.1 == 7)
  ((br k (decide ((IntKind.wrap .i64 ((f_0.length : Int) - 1)) < 0))
  (some (true, ()))
  (br k (decide (0 ≤ (IntKind.wrap .i64 ((f_0.length : Int) - 1)) ∧ (IntKind.wrap .i64 ((f_0.length : Int) - 1)) < (f_0.length : Int)))
  (bd k (f_0[(IntKind.wrap .i64 ((f_0.length : Int) - 1)).toNat]?) fun x5 =>
  br k (decide (0 ≤ x5.1))
  (bd k (list[x5.1.toNat]?) fun x6 =>
  bd k (z117 k (x6, ())) fun y7 =>
  br k (!y7.1.1)
  (some (true, ()))
  (br k (decide (0 ≤ (IntKind.wrap .i64 ((f_0.length : Int) - 1)) ∧ (IntKind.wrap .i64 ((f_0.length : Int) - 1)) < (f_0.length : Int)))
  (bd k (f_0[(IntKind.wrap .i64 ((f_0.length : Int) - 1)).toNat]?) fun x8 =>
  some (decide (x8.2.1 ≥ 0), ()))
  none))
  none)
  none) : Option (Bool × Unit)).bind fun j9 =>
  br k (j9.1)
  (some (((0, 0, ()), false, ()), ((f_0, ()), (), (), ())))
  (br k (decide (0 ≤ (IntKind.wrap .i64 ((f_0.length : Int) - 1)) ∧ (IntKind.wrap .i64 ((f_0.length : Int) - 1)) < (f_0.length : Int)))
  (bd k (f_0[(IntKind.wrap .i64 ((f_0.length : Int) - 1)).toNat]?) fun x10 =>
  some ((((-1), (-1), ()), true, ()), ((f_0.set ((IntKind.wrap .i64 ((f_0.length : Int) - 1)).toNat) (x10.1, at_, ()), ()), (), (), ())))
  none))
  (br k (x1.1 == 8)
  (br k (decide ((IntKind.wrap .i64 ((f_0.length : Int) - 1)) < 0))
  (some (((0, 0, ()), false, ()), ((f_0, ()), (), (), ())))
  (br k (decide (0 ≤ (IntKind.wrap .i64 ((f_0.length : Int) - 1)) ∧ (IntKind.wrap .i64 ((f_0.length : Int) - 1)) < (f_0.length : Int)))
  (bd k (f_0[(IntKind.wrap .i64 ((f_0.length : Int) - 1)).toNat]?) fun x11 =>
  br k (decide (0 ≤ (IntKind.wrap .i64 ((f_0.length : Int) - 1)) ∧ (IntKind.wrap .i64 ((f_0.length : Int) - 1)) ≤ (f_0.length : Int)))
  (some ((x11, true, ()), ((subL f_0 ((0 : Int).toNat) ((IntKind.wrap .i64 ((f_0.length : Int) - 1)).toNat - (0 : Int).toNat), ()), (), (), ())))
  none)
  none))
  (some ((((-1), (-1), ()), true, ()), ((f_0, ()), (), (), ()))))))
  none
noncomputable def z151.sg (k : Nat) : Sig := ⟨(.cons (.box (.cons (.own QK0) .nil)) (.cons (.pur (.sl false QK2)) QS5)), (.cons (.pur QK0) QS17), z151 k, []⟩
theorem z151.ok {L : List (Nat × Obj)} (k : Nat) : SigHolds Tryz.prog L 179 (z151.sg k) :=
  soe (C := ⟨Tryz.prog, [(220, [z117.sg k]), (180, [z100.sg k])], k, [], []⟩) (hc1 (z117.ok k) (hc1 (z100.ok k) holds_nil)) Tryz.func179 { joins := [(3, [(21, .bool)]), (6, [(70, .bool)])] } fun _ => by kernel_rfl
noncomputable def z14.l0 (k : Nat) : E2 (((List QT1) × (List Int) × (QT15 × Unit) × Int × Int × Unit) → Option (((List Int) × Bool × Unit) × (Unit × Unit))) := fun G0 x => match x with
 | (list, out_, (f_0, ()), t15, t16, ()) =>
  br k (decide (t16 < t15))
  (br k (decide (0 ≤ t16 ∧ t16 < (out_.length : Int)))
  (bd k (out_[t16.toNat]?) fun x1 =>
  bd k (z151 k ((f_0, ()), list, t16, ())) fun y2 =>
  br k (!y2.1.2.1)
  (some (([], false, ()), ((), ())))
  (br k (decide (0 ≤ t16))
  (bd k (list[t16.toNat]?) fun x3 =>
  br k (x3.1 != 8)
  (G0 (list, out_.set t16.toNat (IntKind.wrap .i64 (t16 + 1)), (y2.2.1.1, ()), t15, IntKind.wrap .i64 (t16 + 1), ()))
  (br k (decide (0 ≤ y2.1.1.1 ∧ y2.1.1.1 < ((out_.set t16.toNat (IntKind.wrap .i64 (t16 + 1))).length : Int)))
  (bd k ((out_.set t16.toNat (IntKind.wrap .i64 (t16 + 1)))[y2.1.1.1.toNat]?) fun x4 =>
  br k (decide (0 ≤ y2.1.1.1))
  (bd k (list[y2.1.1.1.toNat]?) fun x5 =>
  bd k (z100 k (x5, ())) fun y6 =>
  br k (y6.1.1)
  (br k (decide (0 ≤ y2.1.1.1 ∧ y2.1.1.1 < (((out_.set t16.toNat (IntKind.wrap .i64 (t16 + 1))).set y2.1.1.1.toNat t16).length : Int)))
  (bd k (((out_.set t16.toNat (IntKind.wrap .i64 (t16 + 1))).set y2.1.1.1.toNat t16)[y2.1.1.1.toNat]?) fun x7 =>
  br k (decide (0 ≤ t16 ∧ t16 < ((((out_.set t16.toNat (IntKind.wrap .i64 (t16 + 1))).set y2.1.1.1.toNat t16).set y2.1.1.1.toNat (IntKind.wrap .i64 (t16 + 1))).length : Int)))
  (bd k ((((out_.set t16.toNat (IntKind.wrap .i64 (t16 + 1))).set y2.1.1.1.toNat t16).set y2.1.1.1.toNat (IntKind.wrap .i64 (t16 + 1)))[t16.toNat]?) fun x8 =>
  G0 (list, (((out_.set t16.toNat (IntKind.wrap .i64 (t16 + 1))).set y2.1.1.1.toNat t16).set y2.1.1.1.toNat (IntKind.wrap .i64 (t16 + 1))).set t16.toNat y2.1.1.1, (y2.2.1.1, ()), t15, IntKind.wrap .i64 (t16 + 1), ()))
  none)
  none)
  (br k (decide (y2.1.1.2.1 ≥ 0))
  (br k (decide (0 ≤ y2.1.1.1 ∧ y2.1.1.1 < (((out_.set t16.toNat (IntKind.wrap .i64 (t16 + 1))).set y2.1.1.1.toNat t16).length : Int)))
  (bd k (((out_.set t16.toNat (IntKind.wrap .i64 (t16 + 1))).set y2.1.1.1.toNat t16)[y2.1.1.1.toNat]?) fun x9 =>
  br k (decide (0 ≤ y2.1.1.2.1 ∧ y2.1.1.2.1 < ((((out_.set t16.toNat (IntKind.wrap .i64 (t16 + 1))).set y2.1.1.1.toNat t16).set y2.1.1.1.toNat (IntKind.wrap .i64 (y2.1.1.2.1 + 1))).length : Int)))
  (bd k ((((out_.set t16.toNat (IntKind.wrap .i64 (t16 + 1))).set y2.1.1.1.toNat t16).set y2.1.1.1.toNat (IntKind.wrap .i64 (y2.1.1.2.1 + 1)))[y2.1.1.2.1.toNat]?) fun x10 =>
  G0 (list, (((out_.set t16.toNat (IntKind.wrap .i64 (t16 + 1))).set y2.1.1.1.toNat t16).set y2.1.1.1.toNat (IntKind.wrap .i64 (y2.1.1.2.1 + 1))).set y2.1.1.2.1.toNat t16, (y2.2.1.1, ()), t15, IntKind.wrap .i64 (t16 + 1), ()))
  none)
  none)
  (G0 (list, (out_.set t16.toNat (IntKind.wrap .i64 (t16 + 1))).set y2.1.1.1.toNat t16, (y2.2.1.1, ()), t15, IntKind.wrap .i64 (t16 + 1), ()))))
  none)
  none))
  none))
  none)
  (some ((out_, (f_0.length : Int) == 0, ()), ((), ())))
noncomputable def z14 (k : Nat) : ((List QT1) × Unit) → Option (((List Int) × Bool × Unit) × (Unit × Unit)) := fun x => match x with
 | (list, ()) =>
  br k (decide (0 ≤ (list.length : Int) ∧ (list.length : Int) ≤ (list.length : Int) ∧ (list.length : Int) * 8 ≤ maxBytes))
  (iter (z14.l0 k) k (list, List.replicate (list.length : Int).toNat (Kd.z (.int .i64)), ([], ()), (list.length : Int), 0, ()))
  none
noncomputable def z14.sg (k : Nat) : Sig := ⟨QS40, (.cons (.own (.int .i64)) QS17), z14 k, []⟩
theorem z14.ok {L : List (Nat × Obj)} (k : Nat) : SigHolds Tryz.prog L 121 (z14.sg k) :=
  soe (C := ⟨Tryz.prog, [(179, [z151.sg k]), (180, [z100.sg k])], k, [], []⟩) (hc1 (z151.ok k) (hc1 (z100.ok k) holds_nil)) Tryz.func121 { loops := [(0, [(0, (.pur (.sl false QK2))), (4, (.own (.int .i64))), (5, (.box (.cons (.own QK0) .nil))), (15, (.pur (.int .i64))), (16, (.pur (.int .i64)))])], keys := [(13, [([], false), ([7], false), ([7], false), ([], false), ([], false), ([], false), ([], false), ([7], false), ([7], false), ([4], false), ([4], true), ([4], false), ([4], true)]), (15, [([], false), ([7], false), ([7], false), ([], false), ([7], false), ([7], false), ([7], false), ([7], false), ([], false), ([], false), ([4], false), ([4], true), ([4], false), ([4], true)])] } fun _ => by kernel_rfl
noncomputable def z153 (k : Nat) : (QT12 × Unit) → Option QT22 := fun x => match x with
 | (p, ()) =>
  bd k (z44 k ((p.1, p.2.1, p.2.2.1, ()), ())) fun y1 =>
  br k (!y1.1.1)
  (some ((false, ()), ((), ())))
  (br k (decide ((p.2.2.2.1.length : Int) > 30))
  (some ((false, ()), ((), ())))
  (bd k (z116 k (p.2.2.2.1, ((p.1, p.2.1, p.2.2.1, ()), ()), ())) fun y2 =>
  br k (!y2.1.1)
  (some ((false, ()), ((), ())))
  (bd k (z14 k (p.2.2.2.1, ())) fun y3 =>
  some ((y3.1.2.1, ()), ((), ())))))
noncomputable def z153.sg (k : Nat) : Sig := ⟨(.cons QS19 .nil), QS17, z153 k, []⟩
theorem z153.ok {L : List (Nat × Obj)} (hSp : Lb.NeedSp L) (k : Nat) : SigHolds Tryz.prog L 61 (z153.sg k) :=
  soe (C := ⟨Tryz.prog, [(110, [z44.sg k]), (119, [z116.sg k]), (121, [z14.sg k])], k, [], []⟩) (hc1 (z44.ok hSp k) (hc1 (z116.ok k) (hc1 (z14.ok k) holds_nil))) Tryz.func61 {} fun _ => by kernel_rfl
noncomputable def z155 (k : Nat) : QT46 → Option ((Bool × Unit) × QT29) := fun x => match x with
 | (p, inputs, fuel, ()) =>
  (bd k (z153 k (p, ())) fun y1 =>
  br k (y1.1.1)
  (bd k (z7 k (fuel, 0, 2000, ())) fun y2 =>
  br k (y2.1.1)
  (some (decide ((inputs.length : Int) ≤ 1000), ()))
  (some (false, ())))
  (some (false, ())) : Option (Bool × Unit)).bind fun j3 =>
  some ((j3.1, ()), ((), (), (), ()))
noncomputable def z155.sg (k : Nat) : Sig := ⟨QS53, QS17, z155 k, []⟩
theorem z155.ok {L : List (Nat × Obj)} (hSp : Lb.NeedSp L) (k : Nat) : SigHolds Tryz.prog L 38 (z155.sg k) :=
  soe (C := ⟨Tryz.prog, [(61, [z153.sg k]), (83, [z7.sg k])], k, [], []⟩) (hc1 (z153.ok hSp k) (hc1 (z7.ok k) holds_nil)) Tryz.func38 { joins := [(1, [(6, .bool)])] } fun _ => by kernel_rfl
noncomputable def z156 (k : Nat) : (QT12 × Unit) → Option QT41 := fun x => match x with
 | (p, ()) =>
  bd k (z14 k (p.2.2.2.1, ())) fun y1 =>
  some ((y1.1.1, ()), ((), ()))
noncomputable def z156.sg (k : Nat) : Sig := ⟨(.cons QS19 .nil), QS52, z156 k, []⟩
theorem z156.ok {L : List (Nat × Obj)} (k : Nat) : SigHolds Tryz.prog L 84 (z156.sg k) :=
  soe (C := ⟨Tryz.prog, [(121, [z14.sg k])], k, [], []⟩) (hc1 (z14.ok k) holds_nil) Tryz.func84 {} fun _ => by kernel_rfl
noncomputable def z69.l0 (k : Nat) : E2 ((QT9 × QT9 × (List QT24) × Int × Int × Unit) → Option QT39) := fun G0 x => match x with
 | ((t2_0, t2_1, t2_2, ()), (s__0, s__1, s__2, ()), t16, t17, t18, ()) =>
  br k (decide (t18 < t17))
  (br k (decide (0 ≤ t18))
  (bd k (t16[t18.toNat]?) fun x1 =>
  br k (decide (0 ≤ x1.2.1 ∧ x1.2.1 ≤ x1.2.1 ∧ x1.2.1 * 8 ≤ maxBytes))
  (br k (decide ((s__2.length + ([List.replicate x1.2.1.toNat (Kd.z (.int .i64))] : List (List Int)).length) * 24 ≤ maxBytes))
  (G0 ((t2_0, t2_1, t2_2, ()), (s__0, s__1, s__2 ++ ([List.replicate x1.2.1.toNat (Kd.z (.int .i64))] : List (List Int)), ()), t16, t17, IntKind.wrap .i64 (t18 + 1), ()))
  none)
  none)
  none)
  (some (((s__0, s__1, s__2, ()), ()), ((), ())))
noncomputable def z69 (k : Nat) : (QT6 × Unit) → Option QT39 := fun x => match x with
 | (d_, ()) =>
  br k (decide (0 ≤ (d_.1.length : Int) ∧ (d_.1.length : Int) ≤ (d_.1.length : Int) ∧ (d_.1.length : Int) * 8 ≤ maxBytes))
  (br k (decide (0 ≤ (d_.2.1.length : Int) ∧ (d_.2.1.length : Int) ≤ (d_.2.1.length : Int) ∧ (d_.2.1.length : Int) * 1 ≤ maxBytes))
  (iter (z69.l0 k) k (([], [], ([] : List (List Int)), ()), (List.replicate (d_.1.length : Int).toNat (Kd.z (.int .i64)), List.replicate (d_.2.1.length : Int).toNat (Kd.z .bool), ([] : List (List Int)), ()), d_.2.2.1, (d_.2.2.1.length : Int), 0, ()))
  none)
  none
noncomputable def z69.sg (k : Nat) : Sig := ⟨(.cons QS14 .nil), (.cons (.agg QS10) .nil), z69 k, []⟩
theorem z69.ok {L : List (Nat × Obj)} (k : Nat) : SigHolds Tryz.prog L 85 (z69.sg k) :=
  soe (C := ⟨Tryz.prog, [], k, [(27, (.own (.int .i64)))], []⟩) holds_nil Tryz.func85 { loops := [(0, [(2, (.box QS10)), (3, (.box QS10)), (16, (.pur QK8)), (17, (.pur (.int .i64))), (18, (.pur (.int .i64)))])], keys := [(1, [([1], false), ([1], false), ([], false), ([9], true), ([1], false), ([1], false), ([], false), ([13], true), ([9, 13], false), ([3], true), ([3, 9, 13], true)]), (5, [([3], false), ([3], false), ([5], false), ([5], false), ([26], true), ([26, 27], true), ([3, 27, 28], true), ([3], false), ([3, 28], true)])] } fun _ => by kernel_rfl
noncomputable def z180 (k : Nat) : (QT12 × (List Int) × Unit) → Option ((QT3 × Unit) × (Unit × Unit × Unit)) := fun x => match x with
 | (p, inputs, ()) =>
  bd k (z156 k (p, ())) fun y1 =>
  bd k (z69 k ((p.1, p.2.1, p.2.2.1, ()), ())) fun y2 =>
  some (((p.1, p.2.1, p.2.2.1, p.2.2.2.1, y1.1.1, inputs, 0, 0, y2.1.1.1, y2.1.1.2.1, y2.1.1.2.2.1, 0, 0, [], ()), ()), ((), (), ()))
noncomputable def z180.sg (k : Nat) : Sig := ⟨(.cons QS19 (.cons QS27 .nil)), (.cons QS4 .nil), z180 k, []⟩
theorem z180.ok {L : List (Nat × Obj)} (k : Nat) : SigHolds Tryz.prog L 39 (z180.sg k) :=
  soe (C := ⟨Tryz.prog, [(84, [z156.sg k]), (85, [z69.sg k])], k, [], []⟩) (hc1 (z156.ok k) (hc1 (z69.ok k) holds_nil)) Tryz.func39 { keys := [(1, [([2], false), ([2], false), ([7], false), ([], false), ([2], false), ([2], false), ([11], false), ([11], false), ([7, 11], false), ([7, 11, 14], true), ([], false)])] } fun _ => by kernel_rfl
noncomputable def z104 (k : Nat) : ((List QT1) × Unit) → Option QT33 := fun x => match x with
 | (list, ()) =>
  some (((list.length : Int), ()), ((), ()))
noncomputable def z104.sg (k : Nat) : Sig := ⟨QS40, QS5, z104 k, []⟩
theorem z104.ok {L : List (Nat × Obj)} (k : Nat) : SigHolds Tryz.prog L 86 (z104.sg k) :=
  soe (C := ⟨Tryz.prog, [], k, [], []⟩) holds_nil Tryz.func86 {} fun _ => by kernel_rfl
noncomputable def z32 (k : Nat) : (Bool × Unit) → Option QT33 := fun x => match x with
 | (is, ()) =>
  br k (is)
  (some ((1, ()), ((), ())))
  (some ((0, ()), ((), ())))
noncomputable def z32.sg (k : Nat) : Sig := ⟨QS17, QS5, z32 k, []⟩
theorem z32.ok {L : List (Nat × Obj)} (k : Nat) : SigHolds Tryz.prog L 169 (z32.sg k) :=
  soe (C := ⟨Tryz.prog, [], k, [], []⟩) holds_nil Tryz.func169 {} fun _ => by kernel_rfl
noncomputable def z118 (k : Nat) : (QT9 × (Int × Int × Unit) × Unit) → Option QT16 := fun x => match x with
 | (s_, t, ()) =>
  br k (t.1 == 1)
  (some ((t.2.1, ()), ((), (), ())))
  (br k (t.1 == 2)
  (br k (decide (0 ≤ t.2.1))
  (bd k (s_.1[t.2.1.toNat]?) fun x1 =>
  some ((x1, ()), ((), (), ())))
  none)
  (br k (t.1 == 3)
  (br k (decide (0 ≤ t.2.1))
  (bd k (s_.2.1[t.2.1.toNat]?) fun x2 =>
  bd k (z32 k (x2, ())) fun y3 =>
  some ((y3.1.1, ()), ((), (), ())))
  none)
  (bd k (z32 k (t.1 == 4, ())) fun y4 =>
  some ((y4.1.1, ()), ((), (), ())))))
noncomputable def z118.sg (k : Nat) : Sig := ⟨(.cons (.pur QK11) (.cons (.pur QK0) .nil)), QS5, z118 k, []⟩
theorem z118.ok {L : List (Nat × Obj)} (k : Nat) : SigHolds Tryz.prog L 187 (z118.sg k) :=
  soe (C := ⟨Tryz.prog, [(169, [z32.sg k])], k, [], []⟩) (hc1 (z32.ok k) holds_nil) Tryz.func187 {} fun _ => by kernel_rfl
noncomputable def z33 (k : Nat) : ((List Int) × Unit) → Option QT33 := fun x => match x with
 | (list, ()) =>
  some (((list.length : Int), ()), ((), ()))
noncomputable def z33.sg (k : Nat) : Sig := ⟨(.cons QS27 .nil), QS5, z33 k, []⟩
theorem z33.ok {L : List (Nat × Obj)} (k : Nat) : SigHolds Tryz.prog L 168 (z33.sg k) :=
  soe (C := ⟨Tryz.prog, [], k, [], []⟩) holds_nil Tryz.func168 {} fun _ => by kernel_rfl
noncomputable def z34 (k : Nat) : (Bool × Unit) → Option QT33 := fun x => match x with
 | (isBelow, ()) =>
  br k (isBelow)
  (some (((-1), ()), ((), ())))
  (some ((1, ()), ((), ())))
noncomputable def z34.sg (k : Nat) : Sig := ⟨QS17, QS5, z34 k, []⟩
theorem z34.ok {L : List (Nat × Obj)} (k : Nat) : SigHolds Tryz.prog L 246 (z34.sg k) :=
  soe (C := ⟨Tryz.prog, [], k, [], []⟩) holds_nil Tryz.func246 {} fun _ => by kernel_rfl
noncomputable def z101 (k : Nat) : (Int × Int × Unit) → Option QT26 := fun x => match x with
 | (a, b_, ()) =>
  (br k (decide (b_ < 0))
  (br k (decide (a > (IntKind.wrap .i64 (9223372036854775807 + b_))))
  (some (true, ()))
  (br k (decide (b_ > 0))
  (some (decide (a < (IntKind.wrap .i64 ((-9223372036854775808) + b_))), ()))
  (some (false, ()))))
  (br k (decide (b_ > 0))
  (some (decide (a < (IntKind.wrap .i64 ((-9223372036854775808) + b_))), ()))
  (some (false, ()))) : Option (Bool × Unit)).bind fun j1 =>
  br k (j1.1)
  (bd k (z34 k (decide (b_ > 0), ())) fun y2 =>
  some ((0, y2.1.1, ()), ((), (), ())))
  (some ((IntKind.wrap .i64 (a - b_), 0, ()), ((), (), ())))
noncomputable def z101.sg (k : Nat) : Sig := ⟨QS20, QS20, z101 k, []⟩
theorem z101.ok {L : List (Nat × Obj)} (k : Nat) : SigHolds Tryz.prog L 224 (z101.sg k) :=
  soe (C := ⟨Tryz.prog, [(246, [z34.sg k])], k, [], []⟩) (hc1 (z34.ok k) holds_nil) Tryz.func224 { joins := [(1, [(23, .bool)])] } fun _ => by kernel_rfl
noncomputable def z35 (k : Nat) : (Int × Int × Unit) → Option QT26 := fun x => match x with
 | (n, where_, ()) =>
  br k (where_ != 0)
  (some ((0, 6, ()), ((), (), ())))
  (some ((n, 0, ()), ((), (), ())))
noncomputable def z35.sg (k : Nat) : Sig := ⟨QS20, QS20, z35 k, []⟩
theorem z35.ok {L : List (Nat × Obj)} (k : Nat) : SigHolds Tryz.prog L 223 (z35.sg k) :=
  soe (C := ⟨Tryz.prog, [], k, [], []⟩) holds_nil Tryz.func223 {} fun _ => by kernel_rfl
noncomputable def z120 (k : Nat) : (QT9 × (Int × Int × Unit) × Int × Unit) → Option ((Int × Int × Unit) × QT29) := fun x => match x with
 | (s_, t, a, ()) =>
  br k (t.1 == 6)
  (br k (decide (0 ≤ t.2.1))
  (bd k (s_.2.2.1[t.2.1.toNat]?) fun x1 =>
  bd k (z33 k (x1, ())) fun y2 =>
  bd k (z7 k (a, 0, IntKind.wrap .i64 (y2.1.1 - 1), ())) fun y3 =>
  br k (!y3.1.1)
  (some ((0, 5, ()), ((), (), (), ())))
  (br k (decide (0 ≤ a))
  (bd k (x1[a.toNat]?) fun x4 =>
  some ((x4, 0, ()), ((), (), (), ())))
  none))
  none)
  (br k (t.1 == 7)
  (bd k (z101 k (0, a, ())) fun y5 =>
  bd k (z35 k (y5.1.1, y5.1.2.1, ())) fun y6 =>
  some ((y6.1.1, y6.1.2.1, ()), ((), (), (), ())))
  (some ((IntKind.wrap .i64 (1 - a), 0, ()), ((), (), (), ()))))
noncomputable def z120.sg (k : Nat) : Sig := ⟨(.cons (.pur QK11) (.cons (.pur QK0) QS5)), QS20, z120 k, []⟩
theorem z120.ok {L : List (Nat × Obj)} (k : Nat) : SigHolds Tryz.prog L 188 (z120.sg k) :=
  soe (C := ⟨Tryz.prog, [(168, [z33.sg k]), (83, [z7.sg k]), (224, [z101.sg k]), (223, [z35.sg k])], k, [], []⟩) (hc1 (z33.ok k) (hc1 (z7.ok k) (hc1 (z101.ok k) (hc1 (z35.ok k) holds_nil)))) Tryz.func188 {} fun _ => by kernel_rfl
noncomputable def z157 (k : Nat) : (Int × Int × Unit) → Option QT26 := fun x => match x with
 | (a, b_, ()) =>
  (br k (decide (b_ > 0))
  (br k (decide (a > (IntKind.wrap .i64 (9223372036854775807 - b_))))
  (some (true, ()))
  (br k (decide (b_ < 0))
  (some (decide (a < (IntKind.wrap .i64 ((-9223372036854775808) - b_))), ()))
  (some (false, ()))))
  (br k (decide (b_ < 0))
  (some (decide (a < (IntKind.wrap .i64 ((-9223372036854775808) - b_))), ()))
  (some (false, ()))) : Option (Bool × Unit)).bind fun j1 =>
  br k (j1.1)
  (bd k (z34 k (decide (b_ < 0), ())) fun y2 =>
  some ((0, y2.1.1, ()), ((), (), ())))
  (some ((IntKind.wrap .i64 (a + b_), 0, ()), ((), (), ())))
noncomputable def z157.sg (k : Nat) : Sig := ⟨QS20, QS20, z157 k, []⟩
theorem z157.ok {L : List (Nat × Obj)} (k : Nat) : SigHolds Tryz.prog L 225 (z157.sg k) :=
  soe (C := ⟨Tryz.prog, [(246, [z34.sg k])], k, [], []⟩) (hc1 (z34.ok k) holds_nil) Tryz.func225 { joins := [(1, [(23, .bool)])] } fun _ => by kernel_rfl
noncomputable def z121 (k : Nat) : (Int × Unit) → Option QT33 := fun x => match x with
 | (a, ()) =>
  br k (decide (a < 0))
  (some ((IntKind.wrap .u64 (0 - (IntKind.wrap .u64 a)), ()), ((), ())))
  (some ((IntKind.wrap .u64 a, ()), ((), ())))
noncomputable def z121.sg (k : Nat) : Sig := ⟨QS5, (.cons (.pur (.int .u64)) .nil), z121 k, []⟩
theorem z121.ok {L : List (Nat × Obj)} (k : Nat) : SigHolds Tryz.prog L 248 (z121.sg k) :=
  soe (C := ⟨Tryz.prog, [], k, [], []⟩) holds_nil Tryz.func248 {} fun _ => by kernel_rfl
noncomputable def z158 (k : Nat) : (Int × Int × Unit) → Option QT26 := fun x => match x with
 | (a, b_, ()) =>
  bd k (z121 k (a, ())) fun y1 =>
  bd k (z121 k (b_, ())) fun y2 =>
  bd k (Lb.Mul64 k (y1.1.1, y2.1.1, ())) fun y3 =>
  br k (!((decide (a < 0)) == (decide (b_ < 0))))
  ((br k (decide (y3.1.1 > 0))
  (some (true, ()))
  (some (decide (y3.1.2.1 > (IntKind.wrap .u64 ((9223372036854775807 : Int) + 1))), ())) : Option (Bool × Unit)).bind fun j4 =>
  br k (j4.1)
  (bd k (z34 k (!((decide (a < 0)) == (decide (b_ < 0))), ())) fun y5 =>
  some ((0, y5.1.1, ()), ((), (), ())))
  (br k (!((decide (a < 0)) == (decide (b_ < 0))))
  (some ((IntKind.wrap .i64 (IntKind.wrap .u64 (0 - y3.1.2.1)), 0, ()), ((), (), ())))
  (some ((IntKind.wrap .i64 y3.1.2.1, 0, ()), ((), (), ())))))
  ((br k (decide (y3.1.1 > 0))
  (some (true, ()))
  (some (decide (y3.1.2.1 > 9223372036854775807), ())) : Option (Bool × Unit)).bind fun j6 =>
  br k (j6.1)
  (bd k (z34 k (!((decide (a < 0)) == (decide (b_ < 0))), ())) fun y7 =>
  some ((0, y7.1.1, ()), ((), (), ())))
  (br k (!((decide (a < 0)) == (decide (b_ < 0))))
  (some ((IntKind.wrap .i64 (IntKind.wrap .u64 (0 - y3.1.2.1)), 0, ()), ((), (), ())))
  (some ((IntKind.wrap .i64 y3.1.2.1, 0, ()), ((), (), ())))))
noncomputable def z158.sg (k : Nat) : Sig := ⟨QS20, QS20, z158 k, []⟩
theorem z158.ok {L : List (Nat × Obj)} (k : Nat) : SigHolds Tryz.prog L 226 (z158.sg k) :=
  soe (C := ⟨Tryz.prog, [(248, [z121.sg k]), (247, [Lb.Mul64.sg k]), (246, [z34.sg k])], k, [], []⟩) (hc1 (z121.ok k) (hc1 (Lb.Mul64.ok k) (hc1 (z34.ok k) holds_nil))) Tryz.func226 { joins := [(6, [(26, .bool)])] } fun _ => by kernel_rfl
noncomputable def z122 (k : Nat) : (Int × Int × Unit) → Option QT16 := fun x => match x with
 | (a, b_, ()) =>
  (br k (b_ == 0)
  (some (true, ()))
  (some (b_ == (-1), ())) : Option (Bool × Unit)).bind fun j1 =>
  br k (j1.1)
  (some ((0, ()), ((), (), ())))
  (br k (!decide (b_ = 0))
  (some ((a.tmod b_, ()), ((), (), ())))
  none)
noncomputable def z122.sg (k : Nat) : Sig := ⟨QS20, QS5, z122 k, []⟩
theorem z122.ok {L : List (Nat × Obj)} (k : Nat) : SigHolds Tryz.prog L 227 (z122.sg k) :=
  soe (C := ⟨Tryz.prog, [], k, [], []⟩) holds_nil Tryz.func227 { joins := [(1, [(10, .bool)])] } fun _ => by kernel_rfl
noncomputable def z123 (k : Nat) : (Int × Int × Unit) → Option QT26 := fun x => match x with
 | (a, b_, ()) =>
  br k (b_ == 0)
  (some ((0, 0, ()), ((), (), ())))
  ((br k (a == (-9223372036854775808))
  (some (b_ == (-1), ()))
  (some (false, ())) : Option (Bool × Unit)).bind fun j1 =>
  br k (j1.1)
  (some ((0, 1, ()), ((), (), ())))
  (br k (!decide (b_ = 0))
  (some ((IntKind.wrap .i64 (a.tdiv b_), 0, ()), ((), (), ())))
  none))
noncomputable def z123.sg (k : Nat) : Sig := ⟨QS20, QS20, z123 k, []⟩
theorem z123.ok {L : List (Nat × Obj)} (k : Nat) : SigHolds Tryz.prog L 228 (z123.sg k) :=
  soe (C := ⟨Tryz.prog, [], k, [], []⟩) holds_nil Tryz.func228 { joins := [(3, [(9, .bool)])] } fun _ => by kernel_rfl
noncomputable def z124 (k : Nat) : QT48 → Option ((Bool × Unit) × QT29) := fun x => match x with
 | (op, a, b_, ()) =>
  br k (op == 13)
  (some ((decide (a < b_), ()), ((), (), (), ())))
  (br k (op == 14)
  (some ((decide (a ≤ b_), ()), ((), (), (), ())))
  (br k (op == 15)
  (some ((a == b_, ()), ((), (), (), ())))
  (br k (op == 16)
  (some ((a != b_, ()), ((), (), (), ())))
  (br k (op == 17)
  (some ((decide (a > b_), ()), ((), (), (), ())))
  (some ((decide (a ≥ b_), ()), ((), (), (), ())))))))
noncomputable def z124.sg (k : Nat) : Sig := ⟨QS44, QS17, z124 k, []⟩
theorem z124.ok {L : List (Nat × Obj)} (k : Nat) : SigHolds Tryz.prog L 229 (z124.sg k) :=
  soe (C := ⟨Tryz.prog, [], k, [], []⟩) holds_nil Tryz.func229 {} fun _ => by kernel_rfl
noncomputable def z159 (k : Nat) : QT48 → Option ((Int × Int × Unit) × QT29) := fun x => match x with
 | (op, a, b_, ()) =>
  br k (op == 8)
  (bd k (z157 k (a, b_, ())) fun y1 =>
  bd k (z35 k (y1.1.1, y1.1.2.1, ())) fun y2 =>
  some ((y2.1.1, y2.1.2.1, ()), ((), (), (), ())))
  (br k (op == 9)
  (bd k (z101 k (a, b_, ())) fun y3 =>
  bd k (z35 k (y3.1.1, y3.1.2.1, ())) fun y4 =>
  some ((y4.1.1, y4.1.2.1, ()), ((), (), (), ())))
  (br k (op == 10)
  (bd k (z158 k (a, b_, ())) fun y5 =>
  bd k (z35 k (y5.1.1, y5.1.2.1, ())) fun y6 =>
  some ((y6.1.1, y6.1.2.1, ()), ((), (), (), ())))
  (br k (op == 20)
  (some ((if b_ < a then b_ else a, 0, ()), ((), (), (), ())))
  (br k (op == 21)
  (some ((if b_ > a then b_ else a, 0, ()), ((), (), (), ())))
  (br k (op == 11)
  (br k (op == 11)
  (br k (b_ == 0)
  (some ((0, 4, ()), ((), (), (), ())))
  (br k (op == 12)
  (bd k (z122 k (a, b_, ())) fun y7 =>
  some ((y7.1.1, 0, ()), ((), (), (), ())))
  (bd k (z123 k (a, b_, ())) fun y8 =>
  bd k (z35 k (y8.1.1, y8.1.2.1, ())) fun y9 =>
  some ((y9.1.1, y9.1.2.1, ()), ((), (), (), ())))))
  (bd k (z124 k (op, a, b_, ())) fun y10 =>
  bd k (z32 k (y10.1.1, ())) fun y11 =>
  some ((y11.1.1, 0, ()), ((), (), (), ()))))
  (br k (op == 12)
  (br k (b_ == 0)
  (some ((0, 4, ()), ((), (), (), ())))
  (br k (op == 12)
  (bd k (z122 k (a, b_, ())) fun y12 =>
  some ((y12.1.1, 0, ()), ((), (), (), ())))
  (bd k (z123 k (a, b_, ())) fun y13 =>
  bd k (z35 k (y13.1.1, y13.1.2.1, ())) fun y14 =>
  some ((y14.1.1, y14.1.2.1, ()), ((), (), (), ())))))
  (bd k (z124 k (op, a, b_, ())) fun y15 =>
  bd k (z32 k (y15.1.1, ())) fun y16 =>
  some ((y16.1.1, 0, ()), ((), (), (), ())))))))))
noncomputable def z159.sg (k : Nat) : Sig := ⟨QS44, QS20, z159 k, []⟩
theorem z159.ok {L : List (Nat × Obj)} (k : Nat) : SigHolds Tryz.prog L 189 (z159.sg k) :=
  soe (C := ⟨Tryz.prog, [(225, [z157.sg k]), (223, [z35.sg k]), (224, [z101.sg k]), (226, [z158.sg k]), (227, [z122.sg k]), (228, [z123.sg k]), (229, [z124.sg k]), (169, [z32.sg k])], k, [], []⟩) (hc1 (z157.ok k) (hc1 (z35.ok k) (hc1 (z101.ok k) (hc1 (z158.ok k) (hc1 (z122.ok k) (hc1 (z123.ok k) (hc1 (z124.ok k) (hc1 (z32.ok k) holds_nil)))))))) Tryz.func189 {} fun _ => by kernel_rfl
noncomputable def z18.l0 (k : Nat) : E2 ((QT9 × (List Int) × QT15 × Int × Int × Unit) → Option QT26) := fun G0 x => match x with
 | ((s__0, s__1, s__2, ()), pile, t13, t14, t15, ()) =>
  br k (decide (t15 < t14))
  (br k (decide (0 ≤ t15))
  (bd k (t13[t15.toNat]?) fun x1 =>
  bd k (z99 k (x1.1, ())) fun y2 =>
  br k ((y2.1.1.length : Int) == 0)
  (bd k (z118 k ((s__0, s__1, s__2, ()), x1, ())) fun y3 =>
  br k ((0 : Int) != 0)
  (some ((0, 0, ()), ((), (), ())))
  (br k (decide (0 ≤ (IntKind.wrap .i64 ((pile.length : Int) - (y2.1.1.length : Int))) ∧ (IntKind.wrap .i64 ((pile.length : Int) - (y2.1.1.length : Int))) ≤ (pile.length : Int)))
  (br k (decide (((subL pile ((0 : Int).toNat) ((IntKind.wrap .i64 ((pile.length : Int) - (y2.1.1.length : Int))).toNat - (0 : Int).toNat)).length + ([y3.1.1] : List Int).length) * 8 ≤ maxBytes))
  (G0 ((s__0, s__1, s__2, ()), (subL pile ((0 : Int).toNat) ((IntKind.wrap .i64 ((pile.length : Int) - (y2.1.1.length : Int))).toNat - (0 : Int).toNat)) ++ ([y3.1.1] : List Int), t13, t14, IntKind.wrap .i64 (t15 + 1), ()))
  none)
  none))
  (br k ((y2.1.1.length : Int) == 1)
  (br k (decide (0 ≤ (IntKind.wrap .i64 ((pile.length : Int) - (y2.1.1.length : Int))) ∧ (IntKind.wrap .i64 ((pile.length : Int) - (y2.1.1.length : Int))) < (pile.length : Int)))
  (bd k (pile[(IntKind.wrap .i64 ((pile.length : Int) - (y2.1.1.length : Int))).toNat]?) fun x4 =>
  bd k (z120 k ((s__0, s__1, s__2, ()), x1, x4, ())) fun y5 =>
  br k (y5.1.2.1 != 0)
  (some ((0, y5.1.2.1, ()), ((), (), ())))
  (br k (decide (0 ≤ (IntKind.wrap .i64 ((pile.length : Int) - (y2.1.1.length : Int))) ∧ (IntKind.wrap .i64 ((pile.length : Int) - (y2.1.1.length : Int))) ≤ (pile.length : Int)))
  (br k (decide (((subL pile ((0 : Int).toNat) ((IntKind.wrap .i64 ((pile.length : Int) - (y2.1.1.length : Int))).toNat - (0 : Int).toNat)).length + ([y5.1.1] : List Int).length) * 8 ≤ maxBytes))
  (G0 ((s__0, s__1, s__2, ()), (subL pile ((0 : Int).toNat) ((IntKind.wrap .i64 ((pile.length : Int) - (y2.1.1.length : Int))).toNat - (0 : Int).toNat)) ++ ([y5.1.1] : List Int), t13, t14, IntKind.wrap .i64 (t15 + 1), ()))
  none)
  none))
  none)
  (br k (decide (0 ≤ (IntKind.wrap .i64 ((pile.length : Int) - (y2.1.1.length : Int))) ∧ (IntKind.wrap .i64 ((pile.length : Int) - (y2.1.1.length : Int))) < (pile.length : Int)))
  (bd k (pile[(IntKind.wrap .i64 ((pile.length : Int) - (y2.1.1.length : Int))).toNat]?) fun x6 =>
  br k (decide (0 ≤ (IntKind.wrap .i64 ((IntKind.wrap .i64 ((pile.length : Int) - (y2.1.1.length : Int))) + 1)) ∧ (IntKind.wrap .i64 ((IntKind.wrap .i64 ((pile.length : Int) - (y2.1.1.length : Int))) + 1)) < (pile.length : Int)))
  (bd k (pile[(IntKind.wrap .i64 ((IntKind.wrap .i64 ((pile.length : Int) - (y2.1.1.length : Int))) + 1)).toNat]?) fun x7 =>
  bd k (z159 k (x1.1, x6, x7, ())) fun y8 =>
  br k (y8.1.2.1 != 0)
  (some ((0, y8.1.2.1, ()), ((), (), ())))
  (br k (decide (0 ≤ (IntKind.wrap .i64 ((pile.length : Int) - (y2.1.1.length : Int))) ∧ (IntKind.wrap .i64 ((pile.length : Int) - (y2.1.1.length : Int))) ≤ (pile.length : Int)))
  (br k (decide (((subL pile ((0 : Int).toNat) ((IntKind.wrap .i64 ((pile.length : Int) - (y2.1.1.length : Int))).toNat - (0 : Int).toNat)).length + ([y8.1.1] : List Int).length) * 8 ≤ maxBytes))
  (G0 ((s__0, s__1, s__2, ()), (subL pile ((0 : Int).toNat) ((IntKind.wrap .i64 ((pile.length : Int) - (y2.1.1.length : Int))).toNat - (0 : Int).toNat)) ++ ([y8.1.1] : List Int), t13, t14, IntKind.wrap .i64 (t15 + 1), ()))
  none)
  none))
  none)
  none)))
  none)
  (br k (decide (0 ≤ (0 : Int) ∧ (0 : Int) < (pile.length : Int)))
  (bd k (pile[(0 : Int).toNat]?) fun x9 =>
  some ((x9, 0, ()), ((), (), ())))
  none)
noncomputable def z18 (k : Nat) : (QT9 × QT15 × Unit) → Option QT26 := fun x => match x with
 | (s_, l_, ()) =>
  iter (z18.l0 k) k ((s_.1, s_.2.1, s_.2.2.1, ()), [], l_, (l_.length : Int), 0, ())
noncomputable def z18.sg (k : Nat) : Sig := ⟨(.cons (.pur QK11) QS35), QS20, z18 k, []⟩
theorem z18.ok {L : List (Nat × Obj)} (k : Nat) : SigHolds Tryz.prog L 134 (z18.sg k) :=
  soe (C := ⟨Tryz.prog, [(186, [z99.sg k]), (187, [z118.sg k]), (188, [z120.sg k]), (189, [z159.sg k])], k, [], []⟩) (hc1 (z99.ok k) (hc1 (z118.ok k) (hc1 (z120.ok k) (hc1 (z159.ok k) holds_nil)))) Tryz.func134 { loops := [(0, [(2, QS21), (6, (.own (.int .i64))), (13, (.pur (.sl false QK0))), (14, (.pur (.int .i64))), (15, (.pur (.int .i64)))])] } fun _ => by kernel_rfl
noncomputable def z181 (k : Nat) : ((Int × Int × Unit) × Unit) → Option QT22 := fun x => match x with
 | (e_, ()) =>
  (bd k (z7 k (e_.1, 0, 29, ())) fun y1 =>
  br k (y1.1.1)
  (bd k (z7 k (e_.2.1, 0, 4, ())) fun y2 =>
  some (y2.1.1, ()))
  (some (false, ())) : Option (Bool × Unit)).bind fun j3 =>
  some ((j3.1, ()), ((), ()))
noncomputable def z181.sg (k : Nat) : Sig := ⟨(.cons (.pur QK0) .nil), QS17, z181 k, []⟩
theorem z181.ok {L : List (Nat × Obj)} (k : Nat) : SigHolds Tryz.prog L 238 (z181.sg k) :=
  soe (C := ⟨Tryz.prog, [(83, [z7.sg k])], k, [], []⟩) (hc1 (z7.ok k) holds_nil) Tryz.func238 { joins := [(1, [(2, .bool)])] } fun _ => by kernel_rfl
end Go.Pev.F
