/-
  Printed by gen.py: what functions of the program compute, and that they do.
-/
import Derived.Test.YtibhfjdhhdjjcaaGreatDoorK07
set_option linter.unusedSimpArgs false
set_option linter.unusedVariables false
open Go.Proofs Go.Pev
namespace Go.Pev.F
set_option maxRecDepth 100000
variable {L : List (Nat × Obj)}
noncomputable def z161 (k : Nat) : ((QT7 × Unit) × (List QT1) × Int × Unit) → Option (((Int × Int × Unit) × Bool × Unit) × ((QT7 × Unit) × Unit × Unit × Unit)) := fun x => match x with
 | ((f_0, ()), list, at_, ()) =>
  br k (decide (0 ≤ at_))
  (bd k (list[at_.toNat]?) fun x1 =>
  (bd k (z130 k (x1, ())) fun y2 =>
  br k (y2.1.1)
  (some (true, ()))
  (bd k (z103 k (x1, ())) fun y3 =>
  some (y3.1.1, ())) : Option (Bool × Unit)).bind fun j4 =>
  br k (j4.1)
  (br k (decide ((f_0.length + ([(at_, (-1), ())] : List (Int × Int × Unit)).length) * 16 ≤ maxBytes))
  (some ((((-1), (-1), ()), true, ()), ((f_0 ++ ([(at_, (-1), ())] : List (Int × Int × Unit)), ()), (), (), ())))
  none)
  (br k (x1.1 == 7)
  ((br k (decide ((IntKind.wrap .i64 ((f_0.length : Int) - 1)) < 0))
  (some (true, ()))
  (br k (decide (0 ≤ (IntKind.wrap .i64 ((f_0.length : Int) - 1)) ∧ (IntKind.wrap .i64 ((f_0.length : Int) - 1)) < (f_0.length : Int)))
  (bd k (f_0[(IntKind.wrap .i64 ((f_0.length : Int) - 1)).toNat]?) fun x5 =>
  br k (decide (0 ≤ x5.1))
  (bd k (list[x5.1.toNat]?) fun x6 =>
  bd k (z130 k (x6, ())) fun y7 =>
  br k (!y7.1.1)
  (some (true, ()))
  (br k (decide (0 ≤ (IntKind.wrap .i64 ((f_0.length : Int) - 1)) ∧ (IntKind.wrap .i64 ((f_0.length : Int) - 1)) < (f_0.length : Int)))
  (bd k (f_0[(IntKind.wrap .i64 ((f_0.length : Int) - 1)).toNat]?) fun x8 =>
  some (decide (x8.2.1 ≥ 0), ()))
  none))
  none)
  none) : Option (Bool × Unit)).bind fun j9 =>
  br k (j9.1)
  (some (((0, 0, ()), false, ()), ((f_0, ()), (), (), ())))
  (br k (decide (0 ≤ (IntKind.wrap .i64 ((f_0.length : Int) - 1)) ∧ (IntKind.wrap .i64 ((f_0.length : Int) - 1)) < (f_0.length : Int)))
  (bd k (f_0[(IntKind.wrap .i64 ((f_0.length : Int) - 1)).toNat]?) fun x10 =>
  some ((((-1), (-1), ()), true, ()), ((f_0.set ((IntKind.wrap .i64 ((f_0.length : Int) - 1)).toNat) (x10.1, at_, ()), ()), (), (), ())))
  none))
  (br k (x1.1 == 8)
  (br k (decide ((IntKind.wrap .i64 ((f_0.length : Int) - 1)) < 0))
  (some (((0, 0, ()), false, ()), ((f_0, ()), (), (), ())))
  (br k (decide (0 ≤ (IntKind.wrap .i64 ((f_0.length : Int) - 1)) ∧ (IntKind.wrap .i64 ((f_0.length : Int) - 1)) < (f_0.length : Int)))
  (bd k (f_0[(IntKind.wrap .i64 ((f_0.length : Int) - 1)).toNat]?) fun x11 =>
  br k (decide (0 ≤ (IntKind.wrap .i64 ((f_0.length : Int) - 1)) ∧ (IntKind.wrap .i64 ((f_0.length : Int) - 1)) ≤ (f_0.length : Int)))
  (some ((x11, true, ()), ((subL f_0 ((0 : Int).toNat) ((IntKind.wrap .i64 ((f_0.length : Int) - 1)).toNat - (0 : Int).toNat), ()), (), (), ())))
  none)
  none))
  (some ((((-1), (-1), ()), true, ()), ((f_0, ()), (), (), ()))))))
  none
noncomputable def z161.sg (k : Nat) : Sig := ⟨(.cons (.box (.cons (.own QK0) .nil)) (.cons (.pur (.sl false QK9)) QS6)), (.cons (.pur QK0) QS19), z161 k, []⟩
theorem z161.ok (k : Nat) : SigHolds Tryz.prog L 179 (z161.sg k) :=
  soe (C := ⟨Tryz.prog, [(220, [z130.sg k]), (180, [z103.sg k])], k, [], []⟩) (hc1 (z130.ok k) (hc1 (z103.ok k) holds_nil)) Tryz.func179 { joins := [(3, [(21, .bool)]), (6, [(70, .bool)])] } fun _ => by kernel_rfl
noncomputable def z25.l0 (k : Nat) : E2 (((List QT1) × (List Int) × (QT7 × Unit) × Int × Int × Unit) → Option (((List Int) × Bool × Unit) × (Unit × Unit))) := fun G0 x => match x with
 | (list, out_, (f_0, ()), t15, t16, ()) =>
  br k (decide (t16 < t15))
  (br k (decide (0 ≤ t16 ∧ t16 < (out_.length : Int)))
  (bd k (out_[t16.toNat]?) fun x1 =>
  bd k (z161 k ((f_0, ()), list, t16, ())) fun y2 =>
  br k (!y2.1.2.1)
  (some (([], false, ()), ((), ())))
  (br k (decide (0 ≤ t16))
  (bd k (list[t16.toNat]?) fun x3 =>
  br k (x3.1 != 8)
  (G0 (list, out_.set t16.toNat (IntKind.wrap .i64 (t16 + 1)), (y2.2.1.1, ()), t15, IntKind.wrap .i64 (t16 + 1), ()))
  (br k (decide (0 ≤ y2.1.1.1 ∧ y2.1.1.1 < ((out_.set t16.toNat (IntKind.wrap .i64 (t16 + 1))).length : Int)))
  (bd k ((out_.set t16.toNat (IntKind.wrap .i64 (t16 + 1)))[y2.1.1.1.toNat]?) fun x4 =>
  br k (decide (0 ≤ y2.1.1.1))
  (bd k (list[y2.1.1.1.toNat]?) fun x5 =>
  bd k (z103 k (x5, ())) fun y6 =>
  br k (y6.1.1)
  (br k (decide (0 ≤ y2.1.1.1 ∧ y2.1.1.1 < (((out_.set t16.toNat (IntKind.wrap .i64 (t16 + 1))).set y2.1.1.1.toNat t16).length : Int)))
  (bd k (((out_.set t16.toNat (IntKind.wrap .i64 (t16 + 1))).set y2.1.1.1.toNat t16)[y2.1.1.1.toNat]?) fun x7 =>
  br k (decide (0 ≤ t16 ∧ t16 < ((((out_.set t16.toNat (IntKind.wrap .i64 (t16 + 1))).set y2.1.1.1.toNat t16).set y2.1.1.1.toNat (IntKind.wrap .i64 (t16 + 1))).length : Int)))
  (bd k ((((out_.set t16.toNat (IntKind.wrap .i64 (t16 + 1))).set y2.1.1.1.toNat t16).set y2.1.1.1.toNat (IntKind.wrap .i64 (t16 + 1)))[t16.toNat]?) fun x8 =>
  G0 (list, (((out_.set t16.toNat (IntKind.wrap .i64 (t16 + 1))).set y2.1.1.1.toNat t16).set y2.1.1.1.toNat (IntKind.wrap .i64 (t16 + 1))).set t16.toNat y2.1.1.1, (y2.2.1.1, ()), t15, IntKind.wrap .i64 (t16 + 1), ()))
  none)
  none)
  (br k (decide (y2.1.1.2.1 ≥ 0))
  (br k (decide (0 ≤ y2.1.1.1 ∧ y2.1.1.1 < (((out_.set t16.toNat (IntKind.wrap .i64 (t16 + 1))).set y2.1.1.1.toNat t16).length : Int)))
  (bd k (((out_.set t16.toNat (IntKind.wrap .i64 (t16 + 1))).set y2.1.1.1.toNat t16)[y2.1.1.1.toNat]?) fun x9 =>
  br k (decide (0 ≤ y2.1.1.2.1 ∧ y2.1.1.2.1 < ((((out_.set t16.toNat (IntKind.wrap .i64 (t16 + 1))).set y2.1.1.1.toNat t16).set y2.1.1.1.toNat (IntKind.wrap .i64 (y2.1.1.2.1 + 1))).length : Int)))
  (bd k ((((out_.set t16.toNat (IntKind.wrap .i64 (t16 + 1))).set y2.1.1.1.toNat t16).set y2.1.1.1.toNat (IntKind.wrap .i64 (y2.1.1.2.1 + 1)))[y2.1.1.2.1.toNat]?) fun x10 =>
  G0 (list, (((out_.set t16.toNat (IntKind.wrap .i64 (t16 + 1))).set y2.1.1.1.toNat t16).set y2.1.1.1.toNat (IntKind.wrap .i64 (y2.1.1.2.1 + 1))).set y2.1.1.2.1.toNat t16, (y2.2.1.1, ()), t15, IntKind.wrap .i64 (t16 + 1), ()))
  none)
  none)
  (G0 (list, (out_.set t16.toNat (IntKind.wrap .i64 (t16 + 1))).set y2.1.1.1.toNat t16, (y2.2.1.1, ()), t15, IntKind.wrap .i64 (t16 + 1), ()))))
  none)
  none))
  none))
  none)
  (some ((out_, (f_0.length : Int) == 0, ()), ((), ())))
noncomputable def z25 (k : Nat) : ((List QT1) × Unit) → Option (((List Int) × Bool × Unit) × (Unit × Unit)) := fun x => match x with
 | (list, ()) =>
  br k (decide (0 ≤ (list.length : Int) ∧ (list.length : Int) ≤ (list.length : Int) ∧ (list.length : Int) * 8 ≤ maxBytes))
  (iter (z25.l0 k) k (list, List.replicate (list.length : Int).toNat (Kd.z (.int .i64)), ([], ()), (list.length : Int), 0, ()))
  none
noncomputable def z25.sg (k : Nat) : Sig := ⟨(.cons (.pur (.sl false QK9)) .nil), (.cons (.own (.int .i64)) QS19), z25 k, []⟩
theorem z25.ok (k : Nat) : SigHolds Tryz.prog L 121 (z25.sg k) :=
  soe (C := ⟨Tryz.prog, [(179, [z161.sg k]), (180, [z103.sg k])], k, [], []⟩) (hc1 (z161.ok k) (hc1 (z103.ok k) holds_nil)) Tryz.func121 { loops := [(0, [(0, (.pur (.sl false QK9))), (4, (.own (.int .i64))), (5, (.box (.cons (.own QK0) .nil))), (15, (.pur (.int .i64))), (16, (.pur (.int .i64)))])], keys := [(13, [([], false), ([7], false), ([7], false), ([], false), ([], false), ([], false), ([], false), ([7], false), ([7], false), ([4], false), ([4], true), ([4], false), ([4], true)]), (15, [([], false), ([7], false), ([7], false), ([], false), ([7], false), ([7], false), ([7], false), ([7], false), ([], false), ([], false), ([4], false), ([4], true), ([4], false), ([4], true)])] } fun _ => by kernel_rfl
noncomputable def z89 (k : Nat) : (QT11 × Unit) → Option QT25 := fun x => match x with
 | (p, ()) =>
  bd k (z30 k ((p.1, p.2.1, p.2.2.1, ()), ())) fun y1 =>
  br k (!y1.1.1)
  (some ((false, ()), ((), ())))
  (br k (decide ((p.2.2.2.1.length : Int) > 30))
  (some ((false, ()), ((), ())))
  (bd k (z129 k (p.2.2.2.1, ((p.1, p.2.1, p.2.2.1, ()), ()), ())) fun y2 =>
  br k (!y2.1.1)
  (some ((false, ()), ((), ())))
  (bd k (z25 k (p.2.2.2.1, ())) fun y3 =>
  some ((y3.1.2.1, ()), ((), ())))))
noncomputable def z89.sg (k : Nat) : Sig := ⟨(.cons QS24 .nil), QS19, z89 k, []⟩
theorem z89.ok (hSp : Lb.NeedSp L) (k : Nat) : SigHolds Tryz.prog L 61 (z89.sg k) :=
  soe (C := ⟨Tryz.prog, [(110, [z30.sg k]), (119, [z129.sg k]), (121, [z25.sg k])], k, [], []⟩) (hc1 (z30.ok hSp k) (hc1 (z129.ok k) (hc1 (z25.ok k) holds_nil))) Tryz.func61 {} fun _ => by kernel_rfl
noncomputable def z104 (k : Nat) : QT51 → Option ((Bool × Unit) × QT37) := fun x => match x with
 | (p, inputs, fuel, ()) =>
  (bd k (z89 k (p, ())) fun y1 =>
  br k (y1.1.1)
  (bd k (z8 k (fuel, 0, 2000, ())) fun y2 =>
  br k (y2.1.1)
  (some (decide ((inputs.length : Int) ≤ 1000), ()))
  (some (false, ())))
  (some (false, ())) : Option (Bool × Unit)).bind fun j3 =>
  some ((j3.1, ()), ((), (), (), ()))
noncomputable def z104.sg (k : Nat) : Sig := ⟨QS64, QS19, z104 k, []⟩
theorem z104.ok (hSp : Lb.NeedSp L) (k : Nat) : SigHolds Tryz.prog L 38 (z104.sg k) :=
  soe (C := ⟨Tryz.prog, [(61, [z89.sg k]), (83, [z8.sg k])], k, [], []⟩) (hc1 (z89.ok hSp k) (hc1 (z8.ok k) holds_nil)) Tryz.func38 { joins := [(1, [(6, .bool)])] } fun _ => by kernel_rfl
noncomputable def z162 (k : Nat) : (QT11 × Unit) → Option QT70 := fun x => match x with
 | (p, ()) =>
  bd k (z25 k (p.2.2.2.1, ())) fun y1 =>
  some ((y1.1.1, ()), ((), ()))
noncomputable def z162.sg (k : Nat) : Sig := ⟨(.cons QS24 .nil), QS71, z162 k, []⟩
theorem z162.ok (k : Nat) : SigHolds Tryz.prog L 84 (z162.sg k) :=
  soe (C := ⟨Tryz.prog, [(121, [z25.sg k])], k, [], []⟩) (hc1 (z25.ok k) holds_nil) Tryz.func84 {} fun _ => by kernel_rfl
noncomputable def z58.l0 (k : Nat) : E2 ((QT10 × QT10 × (List QT39) × Int × Int × Unit) → Option QT53) := fun G0 x => match x with
 | ((t2_0, t2_1, t2_2, ()), (s__0, s__1, s__2, ()), t16, t17, t18, ()) =>
  br k (decide (t18 < t17))
  (br k (decide (0 ≤ t18))
  (bd k (t16[t18.toNat]?) fun x1 =>
  br k (decide (0 ≤ x1.2.1 ∧ x1.2.1 ≤ x1.2.1 ∧ x1.2.1 * 8 ≤ maxBytes))
  (br k (decide ((s__2.length + ([List.replicate x1.2.1.toNat (Kd.z (.int .i64))] : List (List Int)).length) * 24 ≤ maxBytes))
  (G0 ((t2_0, t2_1, t2_2, ()), (s__0, s__1, s__2 ++ ([List.replicate x1.2.1.toNat (Kd.z (.int .i64))] : List (List Int)), ()), t16, t17, IntKind.wrap .i64 (t18 + 1), ()))
  none)
  none)
  none)
  (some (((s__0, s__1, s__2, ()), ()), ((), ())))
noncomputable def z58 (k : Nat) : (QT2 × Unit) → Option QT53 := fun x => match x with
 | (d_, ()) =>
  br k (decide (0 ≤ (d_.1.length : Int) ∧ (d_.1.length : Int) ≤ (d_.1.length : Int) ∧ (d_.1.length : Int) * 8 ≤ maxBytes))
  (br k (decide (0 ≤ (d_.2.1.length : Int) ∧ (d_.2.1.length : Int) ≤ (d_.2.1.length : Int) ∧ (d_.2.1.length : Int) * 1 ≤ maxBytes))
  (iter (z58.l0 k) k (([], [], ([] : List (List Int)), ()), (List.replicate (d_.1.length : Int).toNat (Kd.z (.int .i64)), List.replicate (d_.2.1.length : Int).toNat (Kd.z .bool), ([] : List (List Int)), ()), d_.2.2.1, (d_.2.2.1.length : Int), 0, ()))
  none)
  none
noncomputable def z58.sg (k : Nat) : Sig := ⟨(.cons QS4 .nil), (.cons (.agg QS15) .nil), z58 k, []⟩
theorem z58.ok (k : Nat) : SigHolds Tryz.prog L 85 (z58.sg k) :=
  soe (C := ⟨Tryz.prog, [], k, [(27, (.own (.int .i64)))], []⟩) holds_nil Tryz.func85 { loops := [(0, [(2, (.box QS15)), (3, (.box QS15)), (16, (.pur QK17)), (17, (.pur (.int .i64))), (18, (.pur (.int .i64)))])], keys := [(1, [([1], false), ([1], false), ([], false), ([9], true), ([1], false), ([1], false), ([], false), ([13], true), ([9, 13], false), ([3], true), ([3, 9, 13], true)]), (5, [([3], false), ([3], false), ([5], false), ([5], false), ([26], true), ([26, 27], true), ([3, 27, 28], true), ([3], false), ([3, 28], true)])] } fun _ => by kernel_rfl
noncomputable def z105 (k : Nat) : (QT11 × (List Int) × Unit) → Option ((QT5 × Unit) × (Unit × Unit × Unit)) := fun x => match x with
 | (p, inputs, ()) =>
  bd k (z162 k (p, ())) fun y1 =>
  bd k (z58 k ((p.1, p.2.1, p.2.2.1, ()), ())) fun y2 =>
  some (((p.1, p.2.1, p.2.2.1, p.2.2.2.1, y1.1.1, inputs, 0, 0, y2.1.1.1, y2.1.1.2.1, y2.1.1.2.2.1, 0, 0, [], ()), ()), ((), (), ()))
noncomputable def z105.sg (k : Nat) : Sig := ⟨(.cons QS24 (.cons QS29 .nil)), (.cons QS3 .nil), z105 k, []⟩
theorem z105.ok (k : Nat) : SigHolds Tryz.prog L 39 (z105.sg k) :=
  soe (C := ⟨Tryz.prog, [(84, [z162.sg k]), (85, [z58.sg k])], k, [], []⟩) (hc1 (z162.ok k) (hc1 (z58.ok k) holds_nil)) Tryz.func39 { keys := [(1, [([2], false), ([2], false), ([7], false), ([], false), ([2], false), ([2], false), ([11], false), ([11], false), ([7, 11], false), ([7, 11, 14], true), ([], false)])] } fun _ => by kernel_rfl
noncomputable def z48 (k : Nat) : ((List QT1) × Unit) → Option QT36 := fun x => match x with
 | (list, ()) =>
  some (((list.length : Int), ()), ((), ()))
noncomputable def z48.sg (k : Nat) : Sig := ⟨(.cons (.pur (.sl false QK9)) .nil), QS6, z48 k, []⟩
theorem z48.ok (k : Nat) : SigHolds Tryz.prog L 86 (z48.sg k) :=
  soe (C := ⟨Tryz.prog, [], k, [], []⟩) holds_nil Tryz.func86 {} fun _ => by kernel_rfl
noncomputable def z117 (k : Nat) : (Unit) → Option ((Unit) × (Unit)) := fun x => match x with
 | (()) =>
  some ((()), (()))
noncomputable def z117.sg (k : Nat) : Sig := ⟨.nil, .nil, z117 k, []⟩
theorem z117.ok (k : Nat) : SigHolds Tryz.prog L 41 (z117.sg k) :=
  soe (C := ⟨Tryz.prog, [], k, [], []⟩) holds_nil Tryz.func41 {} fun _ => by kernel_rfl
noncomputable def z29 (k : Nat) : (Bool × Unit) → Option QT36 := fun x => match x with
 | (is, ()) =>
  br k (is)
  (some ((1, ()), ((), ())))
  (some ((0, ()), ((), ())))
noncomputable def z29.sg (k : Nat) : Sig := ⟨QS19, QS6, z29 k, []⟩
theorem z29.ok (k : Nat) : SigHolds Tryz.prog L 169 (z29.sg k) :=
  soe (C := ⟨Tryz.prog, [], k, [], []⟩) holds_nil Tryz.func169 {} fun _ => by kernel_rfl
noncomputable def z131 (k : Nat) : (QT10 × (Int × Int × Unit) × Unit) → Option QT28 := fun x => match x with
 | (s_, t, ()) =>
  br k (t.1 == 1)
  (some ((t.2.1, ()), ((), (), ())))
  (br k (t.1 == 2)
  (br k (decide (0 ≤ t.2.1))
  (bd k (s_.1[t.2.1.toNat]?) fun x1 =>
  some ((x1, ()), ((), (), ())))
  none)
  (br k (t.1 == 3)
  (br k (decide (0 ≤ t.2.1))
  (bd k (s_.2.1[t.2.1.toNat]?) fun x2 =>
  bd k (z29 k (x2, ())) fun y3 =>
  some ((y3.1.1, ()), ((), (), ())))
  none)
  (bd k (z29 k (t.1 == 4, ())) fun y4 =>
  some ((y4.1.1, ()), ((), (), ())))))
noncomputable def z131.sg (k : Nat) : Sig := ⟨(.cons (.pur QK12) (.cons (.pur QK0) .nil)), QS6, z131 k, []⟩
theorem z131.ok (k : Nat) : SigHolds Tryz.prog L 187 (z131.sg k) :=
  soe (C := ⟨Tryz.prog, [(169, [z29.sg k])], k, [], []⟩) (hc1 (z29.ok k) holds_nil) Tryz.func187 {} fun _ => by kernel_rfl
noncomputable def z32 (k : Nat) : ((List Int) × Unit) → Option QT36 := fun x => match x with
 | (list, ()) =>
  some (((list.length : Int), ()), ((), ()))
noncomputable def z32.sg (k : Nat) : Sig := ⟨(.cons QS29 .nil), QS6, z32 k, []⟩
theorem z32.ok (k : Nat) : SigHolds Tryz.prog L 168 (z32.sg k) :=
  soe (C := ⟨Tryz.prog, [], k, [], []⟩) holds_nil Tryz.func168 {} fun _ => by kernel_rfl
noncomputable def z54 (k : Nat) : (Bool × Unit) → Option QT36 := fun x => match x with
 | (isBelow, ()) =>
  br k (isBelow)
  (some (((-1), ()), ((), ())))
  (some ((1, ()), ((), ())))
noncomputable def z54.sg (k : Nat) : Sig := ⟨QS19, QS6, z54 k, []⟩
theorem z54.ok (k : Nat) : SigHolds Tryz.prog L 246 (z54.sg k) :=
  soe (C := ⟨Tryz.prog, [], k, [], []⟩) holds_nil Tryz.func246 {} fun _ => by kernel_rfl
noncomputable def z106 (k : Nat) : (Int × Int × Unit) → Option QT34 := fun x => match x with
 | (a, b_, ()) =>
  (br k (decide (b_ < 0))
  (br k (decide (a > (IntKind.wrap .i64 (9223372036854775807 + b_))))
  (some (true, ()))
  (br k (decide (b_ > 0))
  (some (decide (a < (IntKind.wrap .i64 ((-9223372036854775808) + b_))), ()))
  (some (false, ()))))
  (br k (decide (b_ > 0))
  (some (decide (a < (IntKind.wrap .i64 ((-9223372036854775808) + b_))), ()))
  (some (false, ()))) : Option (Bool × Unit)).bind fun j1 =>
  br k (j1.1)
  (bd k (z54 k (decide (b_ > 0), ())) fun y2 =>
  some ((0, y2.1.1, ()), ((), (), ())))
  (some ((IntKind.wrap .i64 (a - b_), 0, ()), ((), (), ())))
noncomputable def z106.sg (k : Nat) : Sig := ⟨QS22, QS22, z106 k, []⟩
theorem z106.ok (k : Nat) : SigHolds Tryz.prog L 224 (z106.sg k) :=
  soe (C := ⟨Tryz.prog, [(246, [z54.sg k])], k, [], []⟩) (hc1 (z54.ok k) holds_nil) Tryz.func224 { joins := [(1, [(23, .bool)])] } fun _ => by kernel_rfl
noncomputable def z55 (k : Nat) : (Int × Int × Unit) → Option QT34 := fun x => match x with
 | (n, where_, ()) =>
  br k (where_ != 0)
  (some ((0, 6, ()), ((), (), ())))
  (some ((n, 0, ()), ((), (), ())))
noncomputable def z55.sg (k : Nat) : Sig := ⟨QS22, QS22, z55 k, []⟩
theorem z55.ok (k : Nat) : SigHolds Tryz.prog L 223 (z55.sg k) :=
  soe (C := ⟨Tryz.prog, [], k, [], []⟩) holds_nil Tryz.func223 {} fun _ => by kernel_rfl
noncomputable def z132 (k : Nat) : (QT10 × (Int × Int × Unit) × Int × Unit) → Option ((Int × Int × Unit) × QT37) := fun x => match x with
 | (s_, t, a, ()) =>
  br k (t.1 == 6)
  (br k (decide (0 ≤ t.2.1))
  (bd k (s_.2.2.1[t.2.1.toNat]?) fun x1 =>
  bd k (z32 k (x1, ())) fun y2 =>
  bd k (z8 k (a, 0, IntKind.wrap .i64 (y2.1.1 - 1), ())) fun y3 =>
  br k (!y3.1.1)
  (some ((0, 5, ()), ((), (), (), ())))
  (br k (decide (0 ≤ a))
  (bd k (x1[a.toNat]?) fun x4 =>
  some ((x4, 0, ()), ((), (), (), ())))
  none))
  none)
  (br k (t.1 == 7)
  (bd k (z106 k (0, a, ())) fun y5 =>
  bd k (z55 k (y5.1.1, y5.1.2.1, ())) fun y6 =>
  some ((y6.1.1, y6.1.2.1, ()), ((), (), (), ())))
  (some ((IntKind.wrap .i64 (1 - a), 0, ()), ((), (), (), ()))))
noncomputable def z132.sg (k : Nat) : Sig := ⟨(.cons (.pur QK12) (.cons (.pur QK0) QS6)), QS22, z132 k, []⟩
theorem z132.ok (k : Nat) : SigHolds Tryz.prog L 188 (z132.sg k) :=
  soe (C := ⟨Tryz.prog, [(168, [z32.sg k]), (83, [z8.sg k]), (224, [z106.sg k]), (223, [z55.sg k])], k, [], []⟩) (hc1 (z32.ok k) (hc1 (z8.ok k) (hc1 (z106.ok k) (hc1 (z55.ok k) holds_nil)))) Tryz.func188 {} fun _ => by kernel_rfl
noncomputable def z163 (k : Nat) : (Int × Int × Unit) → Option QT34 := fun x => match x with
 | (a, b_, ()) =>
  (br k (decide (b_ > 0))
  (br k (decide (a > (IntKind.wrap .i64 (9223372036854775807 - b_))))
  (some (true, ()))
  (br k (decide (b_ < 0))
  (some (decide (a < (IntKind.wrap .i64 ((-9223372036854775808) - b_))), ()))
  (some (false, ()))))
  (br k (decide (b_ < 0))
  (some (decide (a < (IntKind.wrap .i64 ((-9223372036854775808) - b_))), ()))
  (some (false, ()))) : Option (Bool × Unit)).bind fun j1 =>
  br k (j1.1)
  (bd k (z54 k (decide (b_ < 0), ())) fun y2 =>
  some ((0, y2.1.1, ()), ((), (), ())))
  (some ((IntKind.wrap .i64 (a + b_), 0, ()), ((), (), ())))
noncomputable def z163.sg (k : Nat) : Sig := ⟨QS22, QS22, z163 k, []⟩
theorem z163.ok (k : Nat) : SigHolds Tryz.prog L 225 (z163.sg k) :=
  soe (C := ⟨Tryz.prog, [(246, [z54.sg k])], k, [], []⟩) (hc1 (z54.ok k) holds_nil) Tryz.func225 { joins := [(1, [(23, .bool)])] } fun _ => by kernel_rfl
noncomputable def z133 (k : Nat) : (Int × Unit) → Option QT36 := fun x => match x with
 | (a, ()) =>
  br k (decide (a < 0))
  (some ((IntKind.wrap .u64 (0 - (IntKind.wrap .u64 a)), ()), ((), ())))
  (some ((IntKind.wrap .u64 a, ()), ((), ())))
noncomputable def z133.sg (k : Nat) : Sig := ⟨QS6, (.cons (.pur (.int .u64)) .nil), z133 k, []⟩
theorem z133.ok (k : Nat) : SigHolds Tryz.prog L 248 (z133.sg k) :=
  soe (C := ⟨Tryz.prog, [], k, [], []⟩) holds_nil Tryz.func248 {} fun _ => by kernel_rfl
noncomputable def z164 (k : Nat) : (Int × Int × Unit) → Option QT34 := fun x => match x with
 | (a, b_, ()) =>
  bd k (z133 k (a, ())) fun y1 =>
  bd k (z133 k (b_, ())) fun y2 =>
  bd k (Lb.Mul64 k (y1.1.1, y2.1.1, ())) fun y3 =>
  br k (!((decide (a < 0)) == (decide (b_ < 0))))
  ((br k (decide (y3.1.1 > 0))
  (some (true, ()))
  (some (decide (y3.1.2.1 > (IntKind.wrap .u64 ((9223372036854775807 : Int) + 1))), ())) : Option (Bool × Unit)).bind fun j4 =>
  br k (j4.1)
  (bd k (z54 k (!((decide (a < 0)) == (decide (b_ < 0))), ())) fun y5 =>
  some ((0, y5.1.1, ()), ((), (), ())))
  (br k (!((decide (a < 0)) == (decide (b_ < 0))))
  (some ((IntKind.wrap .i64 (IntKind.wrap .u64 (0 - y3.1.2.1)), 0, ()), ((), (), ())))
  (some ((IntKind.wrap .i64 y3.1.2.1, 0, ()), ((), (), ())))))
  ((br k (decide (y3.1.1 > 0))
  (some (true, ()))
  (some (decide (y3.1.2.1 > 9223372036854775807), ())) : Option (Bool × Unit)).bind fun j6 =>
  br k (j6.1)
  (bd k (z54 k (!((decide (a < 0)) == (decide (b_ < 0))), ())) fun y7 =>
  some ((0, y7.1.1, ()), ((), (), ())))
  (br k (!((decide (a < 0)) == (decide (b_ < 0))))
  (some ((IntKind.wrap .i64 (IntKind.wrap .u64 (0 - y3.1.2.1)), 0, ()), ((), (), ())))
  (some ((IntKind.wrap .i64 y3.1.2.1, 0, ()), ((), (), ())))))
noncomputable def z164.sg (k : Nat) : Sig := ⟨QS22, QS22, z164 k, []⟩
theorem z164.ok (k : Nat) : SigHolds Tryz.prog L 226 (z164.sg k) :=
  soe (C := ⟨Tryz.prog, [(248, [z133.sg k]), (247, [Lb.Mul64.sg k]), (246, [z54.sg k])], k, [], []⟩) (hc1 (z133.ok k) (hc1 (Lb.Mul64.ok k) (hc1 (z54.ok k) holds_nil))) Tryz.func226 { joins := [(6, [(26, .bool)])] } fun _ => by kernel_rfl
noncomputable def z134 (k : Nat) : (Int × Int × Unit) → Option QT28 := fun x => match x with
 | (a, b_, ()) =>
  (br k (b_ == 0)
  (some (true, ()))
  (some (b_ == (-1), ())) : Option (Bool × Unit)).bind fun j1 =>
  br k (j1.1)
  (some ((0, ()), ((), (), ())))
  (br k (!decide (b_ = 0))
  (some ((a.tmod b_, ()), ((), (), ())))
  none)
noncomputable def z134.sg (k : Nat) : Sig := ⟨QS22, QS6, z134 k, []⟩
theorem z134.ok (k : Nat) : SigHolds Tryz.prog L 227 (z134.sg k) :=
  soe (C := ⟨Tryz.prog, [], k, [], []⟩) holds_nil Tryz.func227 { joins := [(1, [(10, .bool)])] } fun _ => by kernel_rfl
noncomputable def z135 (k : Nat) : (Int × Int × Unit) → Option QT34 := fun x => match x with
 | (a, b_, ()) =>
  br k (b_ == 0)
  (some ((0, 0, ()), ((), (), ())))
  ((br k (a == (-9223372036854775808))
  (some (b_ == (-1), ()))
  (some (false, ())) : Option (Bool × Unit)).bind fun j1 =>
  br k (j1.1)
  (some ((0, 1, ()), ((), (), ())))
  (br k (!decide (b_ = 0))
  (some ((IntKind.wrap .i64 (a.tdiv b_), 0, ()), ((), (), ())))
  none))
noncomputable def z135.sg (k : Nat) : Sig := ⟨QS22, QS22, z135 k, []⟩
theorem z135.ok (k : Nat) : SigHolds Tryz.prog L 228 (z135.sg k) :=
  soe (C := ⟨Tryz.prog, [], k, [], []⟩) holds_nil Tryz.func228 { joins := [(3, [(9, .bool)])] } fun _ => by kernel_rfl
noncomputable def z136 (k : Nat) : QT69 → Option ((Bool × Unit) × QT37) := fun x => match x with
 | (op, a, b_, ()) =>
  br k (op == 13)
  (some ((decide (a < b_), ()), ((), (), (), ())))
  (br k (op == 14)
  (some ((decide (a ≤ b_), ()), ((), (), (), ())))
  (br k (op == 15)
  (some ((a == b_, ()), ((), (), (), ())))
  (br k (op == 16)
  (some ((a != b_, ()), ((), (), (), ())))
  (br k (op == 17)
  (some ((decide (a > b_), ()), ((), (), (), ())))
  (some ((decide (a ≥ b_), ()), ((), (), (), ())))))))
noncomputable def z136.sg (k : Nat) : Sig := ⟨QS62, QS19, z136 k, []⟩
theorem z136.ok (k : Nat) : SigHolds Tryz.prog L 229 (z136.sg k) :=
  soe (C := ⟨Tryz.prog, [], k, [], []⟩) holds_nil Tryz.func229 {} fun _ => by kernel_rfl
noncomputable def z165 (k : Nat) : QT69 → Option ((Int × Int × Unit) × QT37) := fun x => match x with
 | (op, a, b_, ()) =>
  br k (op == 8)
  (bd k (z163 k (a, b_, ())) fun y1 =>
  bd k (z55 k (y1.1.1, y1.1.2.1, ())) fun y2 =>
  some ((y2.1.1, y2.1.2.1, ()), ((), (), (), ())))
  (br k (op == 9)
  (bd k (z106 k (a, b_, ())) fun y3 =>
  bd k (z55 k (y3.1.1, y3.1.2.1, ())) fun y4 =>
  some ((y4.1.1, y4.1.2.1, ()), ((), (), (), ())))
  (br k (op == 10)
  (bd k (z164 k (a, b_, ())) fun y5 =>
  bd k (z55 k (y5.1.1, y5.1.2.1, ())) fun y6 =>
  some ((y6.1.1, y6.1.2.1, ()), ((), (), (), ())))
  (br k (op == 20)
  (some ((if b_ < a then b_ else a, 0, ()), ((), (), (), ())))
  (br k (op == 21)
  (some ((if b_ > a then b_ else a, 0, ()), ((), (), (), ())))
  (br k (op == 11)
  (br k (op == 11)
  (br k (b_ == 0)
  (some ((0, 4, ()), ((), (), (), ())))
  (br k (op == 12)
  (bd k (z134 k (a, b_, ())) fun y7 =>
  some ((y7.1.1, 0, ()), ((), (), (), ())))
  (bd k (z135 k (a, b_, ())) fun y8 =>
  bd k (z55 k (y8.1.1, y8.1.2.1, ())) fun y9 =>
  some ((y9.1.1, y9.1.2.1, ()), ((), (), (), ())))))
  (bd k (z136 k (op, a, b_, ())) fun y10 =>
  bd k (z29 k (y10.1.1, ())) fun y11 =>
  some ((y11.1.1, 0, ()), ((), (), (), ()))))
  (br k (op == 12)
  (br k (b_ == 0)
  (some ((0, 4, ()), ((), (), (), ())))
  (br k (op == 12)
  (bd k (z134 k (a, b_, ())) fun y12 =>
  some ((y12.1.1, 0, ()), ((), (), (), ())))
  (bd k (z135 k (a, b_, ())) fun y13 =>
  bd k (z55 k (y13.1.1, y13.1.2.1, ())) fun y14 =>
  some ((y14.1.1, y14.1.2.1, ()), ((), (), (), ())))))
  (bd k (z136 k (op, a, b_, ())) fun y15 =>
  bd k (z29 k (y15.1.1, ())) fun y16 =>
  some ((y16.1.1, 0, ()), ((), (), (), ())))))))))
noncomputable def z165.sg (k : Nat) : Sig := ⟨QS62, QS22, z165 k, []⟩
theorem z165.ok (k : Nat) : SigHolds Tryz.prog L 189 (z165.sg k) :=
  soe (C := ⟨Tryz.prog, [(225, [z163.sg k]), (223, [z55.sg k]), (224, [z106.sg k]), (226, [z164.sg k]), (227, [z134.sg k]), (228, [z135.sg k]), (229, [z136.sg k]), (169, [z29.sg k])], k, [], []⟩) (hc1 (z163.ok k) (hc1 (z55.ok k) (hc1 (z106.ok k) (hc1 (z164.ok k) (hc1 (z134.ok k) (hc1 (z135.ok k) (hc1 (z136.ok k) (hc1 (z29.ok k) holds_nil)))))))) Tryz.func189 {} fun _ => by kernel_rfl
noncomputable def z34.l0 (k : Nat) : E2 ((QT10 × (List Int) × QT7 × Int × Int × Unit) → Option QT34) := fun G0 x => match x with
 | ((s__0, s__1, s__2, ()), pile, t13, t14, t15, ()) =>
  br k (decide (t15 < t14))
  (br k (decide (0 ≤ t15))
  (bd k (t13[t15.toNat]?) fun x1 =>
  bd k (z102 k (x1.1, ())) fun y2 =>
  br k ((y2.1.1.length : Int) == 0)
  (bd k (z131 k ((s__0, s__1, s__2, ()), x1, ())) fun y3 =>
  br k ((0 : Int) != 0)
  (some ((0, 0, ()), ((), (), ())))
  (br k (decide (0 ≤ (IntKind.wrap .i64 ((pile.length : Int) - (y2.1.1.length : Int))) ∧ (IntKind.wrap .i64 ((pile.length : Int) - (y2.1.1.length : Int))) ≤ (pile.length : Int)))
  (br k (decide (((subL pile ((0 : Int).toNat) ((IntKind.wrap .i64 ((pile.length : Int) - (y2.1.1.length : Int))).toNat - (0 : Int).toNat)).length + ([y3.1.1] : List Int).length) * 8 ≤ maxBytes))
  (G0 ((s__0, s__1, s__2, ()), (subL pile ((0 : Int).toNat) ((IntKind.wrap .i64 ((pile.length : Int) - (y2.1.1.length : Int))).toNat - (0 : Int).toNat)) ++ ([y3.1.1] : List Int), t13, t14, IntKind.wrap .i64 (t15 + 1), ()))
  none)
  none))
  (br k ((y2.1.1.length : Int) == 1)
  (br k (decide (0 ≤ (IntKind.wrap .i64 ((pile.length : Int) - (y2.1.1.length : Int))) ∧ (IntKind.wrap .i64 ((pile.length : Int) - (y2.1.1.length : Int))) < (pile.length : Int)))
  (bd k (pile[(IntKind.wrap .i64 ((pile.length : Int) - (y2.1.1.length : Int))).toNat]?) fun x4 =>
  bd k (z132 k ((s__0, s__1, s__2, ()), x1, x4, ())) fun y5 =>
  br k (y5.1.2.1 != 0)
  (some ((0, y5.1.2.1, ()), ((), (), ())))
  (br k (decide (0 ≤ (IntKind.wrap .i64 ((pile.length : Int) - (y2.1.1.length : Int))) ∧ (IntKind.wrap .i64 ((pile.length : Int) - (y2.1.1.length : Int))) ≤ (pile.length : Int)))
  (br k (decide (((subL pile ((0 : Int).toNat) ((IntKind.wrap .i64 ((pile.length : Int) - (y2.1.1.length : Int))).toNat - (0 : Int).toNat)).length + ([y5.1.1] : List Int).length) * 8 ≤ maxBytes))
  (G0 ((s__0, s__1, s__2, ()), (subL pile ((0 : Int).toNat) ((IntKind.wrap .i64 ((pile.length : Int) - (y2.1.1.length : Int))).toNat - (0 : Int).toNat)) ++ ([y5.1.1] : List Int), t13, t14, IntKind.wrap .i64 (t15 + 1), ()))
  none)
  none))
  none)
  (br k (decide (0 ≤ (IntKind.wrap .i64 ((pile.length : Int) - (y2.1.1.length : Int))) ∧ (IntKind.wrap .i64 ((pile.length : Int) - (y2.1.1.length : Int))) < (pile.length : Int)))
  (bd k (pile[(IntKind.wrap .i64 ((pile.length : Int) - (y2.1.1.length : Int))).toNat]?) fun x6 =>
  br k (decide (0 ≤ (IntKind.wrap .i64 ((IntKind.wrap .i64 ((pile.length : Int) - (y2.1.1.length : Int))) + 1)) ∧ (IntKind.wrap .i64 ((IntKind.wrap .i64 ((pile.length : Int) - (y2.1.1.length : Int))) + 1)) < (pile.length : Int)))
  (bd k (pile[(IntKind.wrap .i64 ((IntKind.wrap .i64 ((pile.length : Int) - (y2.1.1.length : Int))) + 1)).toNat]?) fun x7 =>
  bd k (z165 k (x1.1, x6, x7, ())) fun y8 =>
  br k (y8.1.2.1 != 0)
  (some ((0, y8.1.2.1, ()), ((), (), ())))
  (br k (decide (0 ≤ (IntKind.wrap .i64 ((pile.length : Int) - (y2.1.1.length : Int))) ∧ (IntKind.wrap .i64 ((pile.length : Int) - (y2.1.1.length : Int))) ≤ (pile.length : Int)))
  (br k (decide (((subL pile ((0 : Int).toNat) ((IntKind.wrap .i64 ((pile.length : Int) - (y2.1.1.length : Int))).toNat - (0 : Int).toNat)).length + ([y8.1.1] : List Int).length) * 8 ≤ maxBytes))
  (G0 ((s__0, s__1, s__2, ()), (subL pile ((0 : Int).toNat) ((IntKind.wrap .i64 ((pile.length : Int) - (y2.1.1.length : Int))).toNat - (0 : Int).toNat)) ++ ([y8.1.1] : List Int), t13, t14, IntKind.wrap .i64 (t15 + 1), ()))
  none)
  none))
  none)
  none)))
  none)
  (br k (decide (0 ≤ (0 : Int) ∧ (0 : Int) < (pile.length : Int)))
  (bd k (pile[(0 : Int).toNat]?) fun x9 =>
  some ((x9, 0, ()), ((), (), ())))
  none)
noncomputable def z34 (k : Nat) : (QT10 × QT7 × Unit) → Option QT34 := fun x => match x with
 | (s_, l_, ()) =>
  iter (z34.l0 k) k ((s_.1, s_.2.1, s_.2.2.1, ()), [], l_, (l_.length : Int), 0, ())
noncomputable def z34.sg (k : Nat) : Sig := ⟨(.cons (.pur QK12) QS41), QS22, z34 k, []⟩
theorem z34.ok (k : Nat) : SigHolds Tryz.prog L 134 (z34.sg k) :=
  soe (C := ⟨Tryz.prog, [(186, [z102.sg k]), (187, [z131.sg k]), (188, [z132.sg k]), (189, [z165.sg k])], k, [], []⟩) (hc1 (z102.ok k) (hc1 (z131.ok k) (hc1 (z132.ok k) (hc1 (z165.ok k) holds_nil)))) Tryz.func134 { loops := [(0, [(2, QS20), (6, (.own (.int .i64))), (13, (.pur (.sl false QK0))), (14, (.pur (.int .i64))), (15, (.pur (.int .i64)))])] } fun _ => by kernel_rfl
noncomputable def z200 (k : Nat) : QT48 → Option QT25 := fun x => match x with
 | (e_, ()) =>
  (bd k (z8 k (e_.1, 0, 29, ())) fun y1 =>
  br k (y1.1.1)
  (bd k (z8 k (e_.2.1, 0, 4, ())) fun y2 =>
  some (y2.1.1, ()))
  (some (false, ())) : Option (Bool × Unit)).bind fun j3 =>
  some ((j3.1, ()), ((), ()))
noncomputable def z200.sg (k : Nat) : Sig := ⟨(.cons (.pur QK0) .nil), QS19, z200 k, []⟩
theorem z200.ok (k : Nat) : SigHolds Tryz.prog L 238 (z200.sg k) :=
  soe (C := ⟨Tryz.prog, [(83, [z8.sg k])], k, [], []⟩) (hc1 (z8.ok k) holds_nil) Tryz.func238 { joins := [(1, [(2, .bool)])] } fun _ => by kernel_rfl
end Go.Pev.F
