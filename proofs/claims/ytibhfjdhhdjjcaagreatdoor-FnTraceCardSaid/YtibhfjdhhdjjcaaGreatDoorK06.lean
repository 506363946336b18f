/-
  Printed by gen.py: what functions of the program compute, and that they do.
-/
import Derived.Test.YtibhfjdhhdjjcaaGreatDoorK05
set_option linter.unusedSimpArgs false
set_option linter.unusedVariables false
open Go.Proofs Go.Pev
namespace Go.Pev.F
set_option maxRecDepth 100000
variable {L : List (Nat × Obj)}
noncomputable def z36.l0 (k : Nat) : E2 ((QT10 × QT10 × QT10 × Int × Unit) → Option QT53) := fun G0 x => match x with
 | ((s__0, s__1, s__2, ()), (t2_0, t2_1, t2_2, ()), (out__0, out__1, out__2, ()), i, ()) =>
  br k (decide (i < (s__2.length : Int)))
  (br k (decide (0 ≤ i))
  (bd k (s__2[i.toNat]?) fun x1 =>
  br k (decide ((([] : List Int).length + x1.length) * 8 ≤ maxBytes))
  (br k (decide ((out__2.length + ([([] : List Int) ++ x1] : List (List Int)).length) * 24 ≤ maxBytes))
  (G0 ((s__0, s__1, s__2, ()), (t2_0, t2_1, t2_2, ()), (out__0, out__1, out__2 ++ ([([] : List Int) ++ x1] : List (List Int)), ()), IntKind.wrap .i64 (i + 1), ()))
  none)
  none)
  none)
  (some (((out__0, out__1, out__2, ()), ()), ((), ())))
noncomputable def z36 (k : Nat) : (QT10 × Unit) → Option QT53 := fun x => match x with
 | (s_, ()) =>
  br k (decide ((([] : List Int).length + s_.1.length) * 8 ≤ maxBytes))
  (br k (decide ((([] : List Bool).length + s_.2.1.length) * 1 ≤ maxBytes))
  (iter (z36.l0 k) k ((s_.1, s_.2.1, s_.2.2.1, ()), ([], [], ([] : List (List Int)), ()), (([] : List Int) ++ s_.1, ([] : List Bool) ++ s_.2.1, ([] : List (List Int)), ()), 0, ()))
  none)
  none
noncomputable def z36.sg (k : Nat) : Sig := ⟨QS58, (.cons (.agg QS15) .nil), z36 k, []⟩
theorem z36.ok (k : Nat) : SigHolds Tryz.prog L 78 (z36.sg k) :=
  soe (C := ⟨Tryz.prog, [], k, [(30, (.own (.int .i64)))], []⟩) holds_nil Tryz.func78 { loops := [(0, [(1, QS20), (2, (.box QS15)), (3, (.box QS15)), (4, (.pur (.int .i64)))])], keys := [(1, [([5], true), ([1], false), ([1], false), ([5, 8], true), ([9], true), ([1], false), ([1], false), ([9, 12], true), ([8, 12], false), ([3], true), ([3, 8, 12], true)]), (5, [([3], false), ([3], false), ([23], true), ([1], false), ([1], false), ([], false), ([], false), ([], false), ([23, 29], true), ([29, 30], true), ([3, 30, 31], true), ([3], false), ([3, 31], true)])] } fun _ => by kernel_rfl
noncomputable def z155 (k : Nat) : (QT1 × (List Int) × Int × Unit) → Option ((Int × Int × Unit) × QT37) := fun x => match x with
 | (l_, inputs, used, ()) =>
  br k (decide (used ≥ (inputs.length : Int)))
  (some ((l_.2.2.2.2.1, used, ()), ((), (), (), ())))
  (br k (decide (0 ≤ used))
  (bd k (inputs[used.toNat]?) fun x1 =>
  br k (!decide ((IntKind.wrap .i64 ((IntKind.wrap .i64 (l_.2.2.2.2.2.1 - l_.2.2.2.2.1)) + 1)) = 0))
  (br k (!decide ((IntKind.wrap .i64 ((IntKind.wrap .i64 (l_.2.2.2.2.2.1 - l_.2.2.2.2.1)) + 1)) = 0))
  (some ((IntKind.wrap .i64 (l_.2.2.2.2.1 + ((IntKind.wrap .i64 ((x1.tmod (IntKind.wrap .i64 ((IntKind.wrap .i64 (l_.2.2.2.2.2.1 - l_.2.2.2.2.1)) + 1))) + (IntKind.wrap .i64 ((IntKind.wrap .i64 (l_.2.2.2.2.2.1 - l_.2.2.2.2.1)) + 1)))).tmod (IntKind.wrap .i64 ((IntKind.wrap .i64 (l_.2.2.2.2.2.1 - l_.2.2.2.2.1)) + 1)))), IntKind.wrap .i64 (used + 1), ()), ((), (), (), ())))
  none)
  none)
  none)
noncomputable def z155.sg (k : Nat) : Sig := ⟨(.cons (.pur QK9) (.cons QS29 QS6)), QS22, z155 k, []⟩
theorem z155.ok (k : Nat) : SigHolds Tryz.prog L 79 (z155.sg k) :=
  soe (C := ⟨Tryz.prog, [], k, [], []⟩) holds_nil Tryz.func79 {} fun _ => by kernel_rfl
noncomputable def z15.h28 (k : Nat)  : (Int × Int × Int × QT10 × Int × QT10 × Unit) → Option QT40 := fun x => match x with
 | (to_, at_, used, (t15_0, t15_1, t15_2, ()), e_, (out__0, out__1, out__2, ()), ()) =>
  br k (e_ == 1)
  (some ((IntKind.wrap .i64 (at_ + 1), (out__0, out__1, out__2, ()), used, 0, ()), ((), (), (), (), (), (), (), ())))
  (some ((to_, (out__0, out__1, out__2, ()), used, 0, ()), ((), (), (), (), (), (), (), ())))
noncomputable def z15.h30 (k : Nat)  : (Int × Int × Int × QT1 × QT10 × QT10 × Int × QT10 × Int × Unit) → Option QT40 := fun x => match x with
 | (to_, at_, used, (l__0, l__1, l__2, l__3, l__4, l__5, ()), (s__0, s__1, s__2, ()), (t15_0, t15_1, t15_2, ()), e_, (out__0, out__1, out__2, ()), t59, ()) =>
  br k (t59 == 11)
  (br k (t59 == 11)
  ((br k (e_ == 0)
  (some (l__0 == 11, ()))
  (some (false, ())) : Option (Bool × Unit)).bind fun j13 =>
  br k (j13.1)
  (some ((at_, (s__0, s__1, s__2, ()), used, 7, ()), ((), (), (), (), (), (), (), ())))
  (br k (e_ == 0)
  (some ((at_, (s__0, s__1, s__2, ()), used, 3, ()), ((), (), (), (), (), (), (), ())))
  (some ((to_, (out__0, out__1, out__2, ()), used, 0, ()), ((), (), (), (), (), (), (), ())))))
  (some ((to_, (out__0, out__1, out__2, ()), used, 0, ()), ((), (), (), (), (), (), (), ()))))
  (br k (t59 == 12)
  ((br k (e_ == 0)
  (some (l__0 == 11, ()))
  (some (false, ())) : Option (Bool × Unit)).bind fun j14 =>
  br k (j14.1)
  (some ((at_, (s__0, s__1, s__2, ()), used, 7, ()), ((), (), (), (), (), (), (), ())))
  (br k (e_ == 0)
  (some ((at_, (s__0, s__1, s__2, ()), used, 3, ()), ((), (), (), (), (), (), (), ())))
  (some ((to_, (out__0, out__1, out__2, ()), used, 0, ()), ((), (), (), (), (), (), (), ())))))
  (some ((to_, (out__0, out__1, out__2, ()), used, 0, ()), ((), (), (), (), (), (), (), ()))))
noncomputable def z15.h8 (k : Nat)  : (Int × Int × (List Int) × Int × QT1 × QT10 × QT10 × Int × Int × Int × Unit) → Option QT40 := fun x => match x with
 | (to_, at_, inputs, used, (l__0, l__1, l__2, l__3, l__4, l__5, ()), (s__0, s__1, s__2, ()), (t15_0, t15_1, t15_2, ()), i, e_, code, ()) =>
  br k (code != 0)
  (some ((at_, (s__0, s__1, s__2, ()), used, code, ()), ((), (), (), (), (), (), (), ())))
  (bd k (z36 k ((s__0, s__1, s__2, ()), ())) fun y4 =>
  br k (l__0 == 1)
  (br k (decide (0 ≤ l__1 ∧ l__1 < (y4.1.1.1.length : Int)))
  (bd k (y4.1.1.1[l__1.toNat]?) fun x5 =>
  some ((to_, (y4.1.1.1.set l__1.toNat e_, y4.1.1.2.1, y4.1.1.2.2.1, ()), used, 0, ()), ((), (), (), (), (), (), (), ())))
  none)
  (br k (l__0 == 2)
  (br k (decide (0 ≤ l__1 ∧ l__1 < (y4.1.1.2.1.length : Int)))
  (bd k (y4.1.1.2.1[l__1.toNat]?) fun x6 =>
  some ((to_, (y4.1.1.1, y4.1.1.2.1.set l__1.toNat (e_ == 1), y4.1.1.2.2.1, ()), used, 0, ()), ((), (), (), (), (), (), (), ())))
  none)
  (br k (l__0 == 3)
  (br k (decide (0 ≤ l__1))
  (bd k (s__2[l__1.toNat]?) fun x7 =>
  bd k (z11 k (i, 0, IntKind.wrap .i64 ((x7.length : Int) - 1), ())) fun y8 =>
  br k (!y8.1.1)
  (some ((at_, (s__0, s__1, s__2, ()), used, 5, ()), ((), (), (), (), (), (), (), ())))
  (br k (decide (0 ≤ l__1 ∧ l__1 < (y4.1.1.2.2.1.length : Int)))
  (bd k (y4.1.1.2.2.1[l__1.toNat]?) fun x9 =>
  br k (decide (0 ≤ i ∧ i < (x9.length : Int)))
  (bd k (x9[i.toNat]?) fun x10 =>
  some ((to_, (y4.1.1.1, y4.1.1.2.1, y4.1.1.2.2.1.set l__1.toNat (x9.set i.toNat e_), ()), used, 0, ()), ((), (), (), (), (), (), (), ())))
  none)
  none))
  none)
  (br k (l__0 == 4)
  (bd k (z155 k ((l__0, l__1, l__2, l__3, l__4, l__5, ()), inputs, used, ())) fun y11 =>
  br k (decide (0 ≤ l__1 ∧ l__1 < (y4.1.1.1.length : Int)))
  (bd k (y4.1.1.1[l__1.toNat]?) fun x12 =>
  some ((to_, (y4.1.1.1.set l__1.toNat y11.1.1, y4.1.1.2.1, y4.1.1.2.2.1, ()), y11.1.2.1, 0, ()), ((), (), (), (), (), (), (), ())))
  none)
  (br k (l__0 == 5)
  (br k (l__0 == 5)
  (jn k (z15.h28 k) (to_, at_, used, (t15_0, t15_1, t15_2, ()), e_, (y4.1.1.1, y4.1.1.2.1, y4.1.1.2.2.1, ()), ()))
  (jn k (z15.h30 k) (to_, at_, used, (l__0, l__1, l__2, l__3, l__4, l__5, ()), (s__0, s__1, s__2, ()), (t15_0, t15_1, t15_2, ()), e_, (y4.1.1.1, y4.1.1.2.1, y4.1.1.2.2.1, ()), l__0, ())))
  (br k (l__0 == 6)
  (br k (l__0 == 6)
  (jn k (z15.h28 k) (to_, at_, used, (t15_0, t15_1, t15_2, ()), e_, (y4.1.1.1, y4.1.1.2.1, y4.1.1.2.2.1, ()), ()))
  (jn k (z15.h30 k) (to_, at_, used, (l__0, l__1, l__2, l__3, l__4, l__5, ()), (s__0, s__1, s__2, ()), (t15_0, t15_1, t15_2, ()), e_, (y4.1.1.1, y4.1.1.2.1, y4.1.1.2.2.1, ()), l__0, ())))
  (br k (l__0 == 9)
  (br k (l__0 == 9)
  (jn k (z15.h28 k) (to_, at_, used, (t15_0, t15_1, t15_2, ()), e_, (y4.1.1.1, y4.1.1.2.1, y4.1.1.2.2.1, ()), ()))
  (jn k (z15.h30 k) (to_, at_, used, (l__0, l__1, l__2, l__3, l__4, l__5, ()), (s__0, s__1, s__2, ()), (t15_0, t15_1, t15_2, ()), e_, (y4.1.1.1, y4.1.1.2.1, y4.1.1.2.2.1, ()), l__0, ())))
  (br k (l__0 == 10)
  (jn k (z15.h28 k) (to_, at_, used, (t15_0, t15_1, t15_2, ()), e_, (y4.1.1.1, y4.1.1.2.1, y4.1.1.2.2.1, ()), ()))
  (jn k (z15.h30 k) (to_, at_, used, (l__0, l__1, l__2, l__3, l__4, l__5, ()), (s__0, s__1, s__2, ()), (t15_0, t15_1, t15_2, ()), e_, (y4.1.1.1, y4.1.1.2.1, y4.1.1.2.2.1, ()), l__0, ()))))))))))
noncomputable def z15.h6 (k : Nat)  : (Int × Int × (List Int) × Int × QT1 × QT10 × QT10 × Int × Int × Int × Unit) → Option QT40 := fun x => match x with
 | (to_, at_, inputs, used, (l__0, l__1, l__2, l__3, l__4, l__5, ()), (s__0, s__1, s__2, ()), (t15_0, t15_1, t15_2, ()), i, e_, code, ()) =>
  (br k (decide ((l__3.length : Int) > 0))
  (some (code == 0, ()))
  (some (false, ())) : Option (Bool × Unit)).bind fun j2 =>
  br k (j2.1)
  (bd k (z16 k (l__3, (s__0, s__1, s__2, ()), ())) fun y3 =>
  jn k (z15.h8 k) (to_, at_, inputs, used, (l__0, l__1, l__2, l__3, l__4, l__5, ()), (s__0, s__1, s__2, ()), (t15_0, t15_1, t15_2, ()), i, y3.1.1, y3.1.2.1, ()))
  (jn k (z15.h8 k) (to_, at_, inputs, used, (l__0, l__1, l__2, l__3, l__4, l__5, ()), (s__0, s__1, s__2, ()), (t15_0, t15_1, t15_2, ()), i, e_, code, ()))
noncomputable def z15 (k : Nat) : (QT11 × Int × QT1 × Int × QT10 × (List Int) × Int × Unit) → Option QT40 := fun x => match x with
 | (p, to_, l_, at_, s_, inputs, used, ()) =>
  br k (decide ((l_.2.2.1.length : Int) > 0))
  (bd k (z16 k (l_.2.2.1, s_, ())) fun y1 =>
  jn k (z15.h6 k) (to_, at_, inputs, used, (l_.1, l_.2.1, l_.2.2.1, l_.2.2.2.1, l_.2.2.2.2.1, l_.2.2.2.2.2.1, ()), (s_.1, s_.2.1, s_.2.2.1, ()), ([], [], ([] : List (List Int)), ()), y1.1.1, 0, y1.1.2.1, ()))
  (jn k (z15.h6 k) (to_, at_, inputs, used, (l_.1, l_.2.1, l_.2.2.1, l_.2.2.2.1, l_.2.2.2.2.1, l_.2.2.2.2.2.1, ()), (s_.1, s_.2.1, s_.2.2.1, ()), ([], [], ([] : List (List Int)), ()), 0, 0, 0, ()))
noncomputable def z15.sg (k : Nat) : Sig := ⟨(.cons QS24 (.cons (.pur (.int .i64)) (.cons (.pur QK9) (.cons (.pur (.int .i64)) (.cons (.pur QK12) (.cons QS29 QS6)))))), (.cons (.pur (.int .i64)) (.cons (.pur QK12) QS22)), z15 k, []⟩
theorem z15.ok (k : Nat) : SigHolds Tryz.prog L 35 (z15.sg k) :=
  soe (C := ⟨Tryz.prog, [(55, [z16.sg k]), (78, [z36.sg k]), (75, [z11.sg k]), (79, [z155.sg k])], k, [], []⟩) (hc1 (z16.ok k) (hc1 (z36.ok k) (hc1 (z11.ok k) (hc1 (z155.ok k) holds_nil)))) Tryz.func35 { joins := [(6, [(42, .bool)]), (32, [(136, .bool)])], keys := [(9, [([], false), ([11], false), ([], false), ([], false), ([], false), ([15], true), ([], false), ([], false)]), (36, [([], false), ([21], false), ([], false), ([], false), ([15, 21, 57, 98], true), ([], false), ([], false)]), (18, [([], false), ([11], false), ([], false), ([], false), ([15], true), ([], false), ([], false)]), (33, [([], false), ([11], false), ([], false), ([], false), ([15], true), ([], false), ([], false)]), (35, [([], false), ([11], false), ([], false), ([], false), ([15], true), ([], false), ([], false)])], heads := [(6, [(1, (.pur (.int .i64))), (3, (.pur (.int .i64))), (5, QS29), (6, (.pur (.int .i64))), (9, QS18), (11, QS20), (15, (.box QS15)), (18, (.pur (.int .i64))), (19, (.pur (.int .i64))), (20, (.pur (.int .i64)))]), (8, [(1, (.pur (.int .i64))), (3, (.pur (.int .i64))), (5, QS29), (6, (.pur (.int .i64))), (9, QS18), (11, QS20), (15, (.box QS15)), (18, (.pur (.int .i64))), (19, (.pur (.int .i64))), (20, (.pur (.int .i64)))]), (28, [(1, (.pur (.int .i64))), (3, (.pur (.int .i64))), (6, (.pur (.int .i64))), (15, (.box QS15)), (19, (.pur (.int .i64))), (21, (.box QS15))]), (30, [(1, (.pur (.int .i64))), (3, (.pur (.int .i64))), (6, (.pur (.int .i64))), (9, QS18), (11, QS20), (15, (.box QS15)), (19, (.pur (.int .i64))), (21, (.box QS15)), (59, (.pur (.int .i64)))])] } fun _ => by kernel_rfl
noncomputable def z42.l0 (k : Nat) : E2 (((List Int) × Int × QT11 × QT38 × (List Int) × QT38 × Unit) → Option ((QT38 × Unit) × QT37)) := fun G0 x => match x with
 | (inputs, fuel, (p_0, p_1, p_2, p_3, ()), (t6_0, t6_1, t6_2, t6_3, t6_4, t6_5, t6_6, ()), to_, (out__0, out__1, out__2, out__3, out__4, out__5, out__6, ()), ()) =>
  br k (decide (out__1 < (p_3.length : Int)))
  (br k (out__5 == fuel)
  (some (((2, out__1, out__2, out__3, out__4, out__5, out__6, ()), ()), ((), (), (), ())))
  (br k (decide (0 ≤ out__1 ∧ out__1 < (to_.length : Int)))
  (bd k (to_[out__1.toNat]?) fun x4 =>
  br k (decide (0 ≤ out__1))
  (bd k (p_3[out__1.toNat]?) fun x5 =>
  bd k (z15 k ((p_0, p_1, p_2, p_3, ()), x4, x5, out__1, (out__2, out__3, out__4, ()), inputs, out__6, ())) fun y6 =>
  br k (y6.1.2.2.2.1 != 0)
  (some (((y6.1.2.2.2.1, y6.1.1, y6.1.2.1.1, y6.1.2.1.2.1, y6.1.2.1.2.2.1, IntKind.wrap .i64 (out__5 + 1), y6.1.2.2.1, ()), ()), ((), (), (), ())))
  (G0 (inputs, fuel, (p_0, p_1, p_2, p_3, ()), (t6_0, t6_1, t6_2, t6_3, t6_4, t6_5, t6_6, ()), to_, (y6.1.2.2.2.1, y6.1.1, y6.1.2.1.1, y6.1.2.1.2.1, y6.1.2.1.2.2.1, IntKind.wrap .i64 (out__5 + 1), y6.1.2.2.1, ()), ())))
  none)
  none))
  (some (((out__0, out__1, out__2, out__3, out__4, out__5, out__6, ()), ()), ((), (), (), ())))
noncomputable def z42 (k : Nat) : QT51 → Option ((QT38 × Unit) × QT37) := fun x => match x with
 | (p, inputs, fuel, ()) =>
  bd k (z98 k (p, inputs, fuel, ())) fun y1 =>
  br k (!y1.1.1)
  (some (((1, 0, [], [], [], 0, 0, ()), ()), ((), (), (), ())))
  (bd k (z99 k (p, ())) fun y2 =>
  bd k (z41 k ((p.1, p.2.1, p.2.2.1, ()), ())) fun y3 =>
  iter (z42.l0 k) k (inputs, fuel, (p.1, p.2.1, p.2.2.1, p.2.2.2.1, ()), (0, 0, [], [], [], 0, 0, ()), y2.1.1, (0, 0, y3.1.1.1, y3.1.1.2.1, y3.1.1.2.2.1, 0, 0, ()), ()))
noncomputable def z42.sg (k : Nat) : Sig := ⟨QS64, (.cons QS43 .nil), z42 k, []⟩
theorem z42.ok (k : Nat) : SigHolds Tryz.prog L 7 (z42.sg k) :=
  soe (C := ⟨Tryz.prog, [(32, [z98.sg k]), (33, [z99.sg k]), (34, [z41.sg k]), (35, [z15.sg k])], k, [], []⟩) (hc1 (z98.ok k) (hc1 (z99.ok k) (hc1 (z41.ok k) (hc1 (z15.ok k) holds_nil)))) Tryz.func7 { loops := [(0, [(1, QS29), (2, (.pur (.int .i64))), (3, QS49), (6, (.box (.cons (.pur (.int .i64)) (.cons (.pur (.int .i64)) (.cons (.own (.int .i64)) (.cons (.own .bool) (.cons (.own (.sl false (.int .i64))) QS22))))))), (7, (.own (.int .i64))), (8, (.box (.cons (.pur (.int .i64)) (.cons (.pur (.int .i64)) (.cons QS29 (.cons (.pur (.sl false .bool)) (.cons (.pur (.sl false (.sl false (.int .i64)))) QS22)))))))])], keys := [(10, [([3], false), ([], false), ([8], false), ([8], false), ([7], false), ([7], false), ([3], false), ([3], false), ([8], false), ([8], false), ([], false), ([], false), ([8], false), ([8], false), ([8], false), ([8], false), ([], false), ([8], false), ([8], false), ([8, 61], true), ([], false), ([], false), ([], false), ([], false), ([], false), ([10], true), ([], false), ([10], true), ([], false), ([], false)])] } fun _ => by kernel_rfl
noncomputable def z33.l2 (k : Nat) : E2 (((List (List UInt8)) × (List (List (List UInt8))) × Int × Int × Unit) → Option QT56) := fun G2 x => match x with
 | (newslice, t25, t26, t27, ()) =>
  br k (decide (t27 < t26))
  (br k (decide (0 ≤ t27))
  (bd k (t25[t27.toNat]?) fun x3 =>
  br k (decide ((newslice.length + x3.length) * 16 ≤ maxBytes))
  (G2 (newslice ++ x3, t25, t26, IntKind.wrap .i64 (t27 + 1), ()))
  none)
  none)
  (some ((newslice, ()), ((), ())))
noncomputable def z33.l0 (k : Nat) : E2 (((List (List (List UInt8))) × Int × (List (List (List UInt8))) × Int × Int × Unit) → Option QT56) := fun G0 x => match x with
 | (slices, size, t9, t10, t11, ()) =>
  br k (decide (t11 < t10))
  (br k (decide (0 ≤ t11))
  (bd k (t9[t11.toNat]?) fun x1 =>
  br k (decide ((IntKind.wrap .i64 (size + (x1.length : Int))) < 0))
  (none)
  (G0 (slices, IntKind.wrap .i64 (size + (x1.length : Int)), t9, t10, IntKind.wrap .i64 (t11 + 1), ())))
  none)
  (bd k (Lb.slices_Grow_string_string k ((), size, ())) fun y2 =>
  iter (z33.l2 k) k (y2.1.1, slices, (slices.length : Int), 0, ()))
noncomputable def z33 (k : Nat) : ((List (List (List UInt8))) × Unit) → Option QT56 := fun x => match x with
 | (slices, ()) =>
  iter (z33.l0 k) k (slices, 0, slices, (slices.length : Int), 0, ())
noncomputable def z33.sg (k : Nat) : Sig := ⟨(.cons (.pur (.sl false (.sl false .str))) .nil), (.cons (.own .str) .nil), z33 k, []⟩
theorem z33.ok (k : Nat) : SigHolds Tryz.prog L 197 (z33.sg k) :=
  soe (C := ⟨Tryz.prog, [(233, [Lb.slices_Grow_string_string.sg k])], k, [], []⟩) (hc1 (Lb.slices_Grow_string_string.ok k) holds_nil) Tryz.func197 { loops := [(0, [(0, (.pur (.sl false (.sl false .str)))), (3, (.pur (.int .i64))), (9, (.pur (.sl false (.sl false .str)))), (10, (.pur (.int .i64))), (11, (.pur (.int .i64)))]), (2, [(6, (.own .str)), (25, (.pur (.sl false (.sl false .str)))), (26, (.pur (.int .i64))), (27, (.pur (.int .i64)))])] } fun _ => by kernel_rfl
noncomputable def z66.l0 (k : Nat) : E2 (((List (List UInt8)) × (List QT39) × Int × Int × Unit) → Option QT56) := fun G0 x => match x with
 | (out_, t13, t14, t15, ()) =>
  br k (decide (t15 < t14))
  (br k (decide (0 ≤ t15))
  (bd k (t13[t15.toNat]?) fun x2 =>
  br k (decide ((out_.length + ([x2.1] : List (List UInt8)).length) * 16 ≤ maxBytes))
  (G0 (out_ ++ ([x2.1] : List (List UInt8)), t13, t14, IntKind.wrap .i64 (t15 + 1), ()))
  none)
  none)
  (some ((out_, ()), ((), ())))
noncomputable def z66 (k : Nat) : (QT2 × Unit) → Option QT56 := fun x => match x with
 | (d_, ()) =>
  bd k (z33 k (([d_.1, d_.2.1] : List (List (List UInt8))), ())) fun y1 =>
  iter (z66.l0 k) k (y1.1.1, d_.2.2.1, (d_.2.2.1.length : Int), 0, ())
noncomputable def z66.sg (k : Nat) : Sig := ⟨(.cons QS4 .nil), (.cons (.own .str) .nil), z66 k, []⟩
theorem z66.ok (k : Nat) : SigHolds Tryz.prog L 155 (z66.sg k) :=
  soe (C := ⟨Tryz.prog, [(197, [z33.sg k])], k, [], []⟩) (hc1 (z33.ok k) holds_nil) Tryz.func155 { loops := [(0, [(3, (.own .str)), (13, (.pur QK17)), (14, (.pur (.int .i64))), (15, (.pur (.int .i64)))])] } fun _ => by kernel_rfl
noncomputable def z188 (k : Nat) : (Int × Unit) → Option QT25 := fun x => match x with
 | (c, ()) =>
  (br k (decide (c ≥ 97))
  (some (decide (c ≤ 122), ()))
  (some (false, ())) : Option (Bool × Unit)).bind fun j1 =>
  some ((j1.1, ()), ((), ()))
noncomputable def z188.sg (k : Nat) : Sig := ⟨(.cons (.pur (.int .u8)) .nil), QS19, z188 k, []⟩
theorem z188.ok (k : Nat) : SigHolds Tryz.prog L 198 (z188.sg k) :=
  soe (C := ⟨Tryz.prog, [], k, [], []⟩) holds_nil Tryz.func198 { joins := [(1, [(2, .bool)])] } fun _ => by kernel_rfl
noncomputable def z8 (k : Nat) : QT69 → Option ((Bool × Unit) × QT37) := fun x => match x with
 | (n, low, high, ()) =>
  (br k (decide (low ≤ n))
  (some (decide (n ≤ high), ()))
  (some (false, ())) : Option (Bool × Unit)).bind fun j1 =>
  some ((j1.1, ()), ((), (), (), ()))
noncomputable def z8.sg (k : Nat) : Sig := ⟨QS62, QS19, z8 k, []⟩
theorem z8.ok (k : Nat) : SigHolds Tryz.prog L 83 (z8.sg k) :=
  soe (C := ⟨Tryz.prog, [], k, [], []⟩) holds_nil Tryz.func83 { joins := [(1, [(6, .bool)])] } fun _ => by kernel_rfl
noncomputable def z67.l0 (k : Nat) : E2 (((List (List UInt8)) × (List UInt8) × Int × Int × Unit) → Option QT28) := fun G0 x => match x with
 | (s_, v, t7, t8, ()) =>
  br k (decide (t8 < t7))
  (br k (decide (0 ≤ t8))
  (bd k (s_[t8.toNat]?) fun x1 =>
  br k (v == x1)
  (some ((t8, ()), ((), (), ())))
  (G0 (s_, v, t7, IntKind.wrap .i64 (t8 + 1), ())))
  none)
  (some (((-1), ()), ((), (), ())))
noncomputable def z67 (k : Nat) : ((List (List UInt8)) × (List UInt8) × Unit) → Option QT28 := fun x => match x with
 | (s_, v, ()) =>
  iter (z67.l0 k) k (s_, v, (s_.length : Int), 0, ())
noncomputable def z67.sg (k : Nat) : Sig := ⟨(.cons (.pur (.sl false .str)) QS67), QS6, z67 k, []⟩
theorem z67.ok (k : Nat) : SigHolds Tryz.prog L 200 (z67.sg k) :=
  soe (C := ⟨Tryz.prog, [], k, [], []⟩) holds_nil Tryz.func200 { loops := [(0, [(0, (.pur (.sl false .str))), (1, (.pur .str)), (7, (.pur (.int .i64))), (8, (.pur (.int .i64)))])] } fun _ => by kernel_rfl
noncomputable def z101 (k : Nat) : ((List (List UInt8)) × (List UInt8) × Unit) → Option QT21 := fun x => match x with
 | (s_, v, ()) =>
  bd k (z67 k (s_, v, ())) fun y1 =>
  some ((decide (y1.1.1 ≥ 0), ()), ((), (), ()))
noncomputable def z101.sg (k : Nat) : Sig := ⟨(.cons (.pur (.sl false .str)) QS67), QS19, z101 k, []⟩
theorem z101.ok (k : Nat) : SigHolds Tryz.prog L 157 (z101.sg k) :=
  soe (C := ⟨Tryz.prog, [(200, [z67.sg k])], k, [], []⟩) (hc1 (z67.ok k) holds_nil) Tryz.func157 {} fun _ => by kernel_rfl
noncomputable def z156 (k : Nat) : ((List UInt8) × Unit) → Option QT25 := fun x => match x with
 | (s_, ()) =>
  bd k (Lb.Fields k ([118, 97, 114, 32, 102, 108, 97, 103, 32, 97, 114, 114, 97, 121, 32, 105, 102, 32, 102, 111, 114, 107, 32, 101, 108, 115, 101, 32, 101, 110, 100, 32, 119, 104, 105, 108, 101, 32, 117, 110, 114, 111, 108, 108, 32, 97, 115, 115, 101, 114, 116, 32, 97, 115, 115, 117, 109, 101, 32, 105, 110, 112, 117, 116, 32, 115, 112, 108, 105, 116, 32, 109, 101, 114, 103, 101, 32, 116, 114, 117, 101, 32, 102, 97, 108, 115, 101], ())) fun y1 =>
  bd k (z101 k (y1.1.1, s_, ())) fun y2 =>
  some ((y2.1.1, ()), ((), ()))
noncomputable def z156.sg (k : Nat) : Sig := ⟨QS67, QS19, z156 k, []⟩
theorem z156.ok (hSp : Lb.NeedSp L) (k : Nat) : SigHolds Tryz.prog L 199 (z156.sg k) :=
  soe (C := ⟨Tryz.prog, [(234, [Lb.Fields.sg k]), (157, [z101.sg k])], k, [], []⟩) (hc1 (Lb.Fields.ok hSp k) (hc1 (z101.ok k) holds_nil)) Tryz.func199 {} fun _ => by kernel_rfl
noncomputable def z68.l0 (k : Nat) : E2 (((List UInt8) × Int × Int × Unit) → Option QT25) := fun G0 x => match x with
 | (s_, t5, t6, ()) =>
  br k (decide (t6 < t5))
  (br k (decide (0 ≤ t6))
  (bd k (s_[t6.toNat]?) fun b1 =>
  bd k (z188 k ((b1.toNat : Int), ())) fun y2 =>
  br k (!y2.1.1)
  (some ((false, ()), ((), ())))
  (G0 (s_, t5, IntKind.wrap .i64 (t6 + 1), ())))
  none)
  ((bd k (z8 k ((s_.length : Int), 1, 8, ())) fun y3 =>
  br k (y3.1.1)
  (bd k (z156 k (s_, ())) fun y4 =>
  some (!y4.1.1, ()))
  (some (false, ())) : Option (Bool × Unit)).bind fun j5 =>
  some ((j5.1, ()), ((), ())))
noncomputable def z68 (k : Nat) : ((List UInt8) × Unit) → Option QT25 := fun x => match x with
 | (s_, ()) =>
  iter (z68.l0 k) k (s_, (s_.length : Int), 0, ())
noncomputable def z68.sg (k : Nat) : Sig := ⟨QS67, QS19, z68 k, []⟩
theorem z68.ok (hSp : Lb.NeedSp L) (k : Nat) : SigHolds Tryz.prog L 156 (z68.sg k) :=
  soe (C := ⟨Tryz.prog, [(198, [z188.sg k]), (83, [z8.sg k]), (199, [z156.sg k])], k, [], []⟩) (hc1 (z188.ok k) (hc1 (z8.ok k) (hc1 (z156.ok hSp k) holds_nil))) Tryz.func156 { loops := [(0, [(0, (.pur .str)), (5, (.pur (.int .i64))), (6, (.pur (.int .i64)))])], joins := [(7, [(2, .bool)])] } fun _ => by kernel_rfl
noncomputable def z189 (k : Nat) : (QT39 × Unit) → Option QT25 := fun x => match x with
 | (a, ()) =>
  bd k (z8 k (a.2.1, 1, 16, ())) fun y1 =>
  some ((y1.1.1, ()), ((), ()))
noncomputable def z189.sg (k : Nat) : Sig := ⟨(.cons (.pur QK73) .nil), QS19, z189 k, []⟩
theorem z189.ok (k : Nat) : SigHolds Tryz.prog L 158 (z189.sg k) :=
  soe (C := ⟨Tryz.prog, [(83, [z8.sg k])], k, [], []⟩) (hc1 (z8.ok k) holds_nil) Tryz.func158 {} fun _ => by kernel_rfl
noncomputable def z190 (k : Nat) : (QT39 × ((Unit) × Unit) × Unit) → Option QT72 := fun x => match x with
 | (x_, ((()), ()), ()) =>
  bd k (z189 k (x_, ())) fun y1 =>
  some ((!y1.1.1, ()), ((), ((()), ()), ()))
noncomputable def z190.sg (k : Nat) : Sig := ⟨(.cons (.pur QK73) (.cons (.box (.cons (.fn (.func 158) 0 .nil) .nil)) .nil)), QS19, z190 k, []⟩
theorem z190.ok (k : Nat) : SigHolds Tryz.prog L 202 (z190.sg k) :=
  soe (C := ⟨Tryz.prog, [(158, [z189.sg k])], k, [], []⟩) (hc1 (z189.ok k) holds_nil) Tryz.func202 {} fun _ => by kernel_rfl
noncomputable def z69.l0 (k : Nat) : E2 (((List QT39) × QT42 × Int × Int × Unit) → Option QT55) := fun G0 x => match x with
 | (s_, (((()), ()), ()), t7, t8, ()) =>
  br k (decide (t8 < t7))
  (br k (decide (0 ≤ t8))
  (bd k (s_[t8.toNat]?) fun x1 =>
  bd k (z190 k (x1, ((()), ()), ())) fun y2 =>
  br k (y2.1.1)
  (some ((t8, ()), ((), (((()), ()), ()), ())))
  (G0 (s_, (((()), ()), ()), t7, IntKind.wrap .i64 (t8 + 1), ())))
  none)
  (some (((-1), ()), ((), (((()), ()), ()), ())))
noncomputable def z69 (k : Nat) : ((List QT39) × QT42 × Unit) → Option QT55 := fun x => match x with
 | (s_, (((()), ()), ()), ()) =>
  iter (z69.l0 k) k (s_, (((()), ()), ()), (s_.length : Int), 0, ())
noncomputable def z69.sg (k : Nat) : Sig := ⟨(.cons (.pur QK17) (.cons (.fn (.func 202) 0 (.cons (.box (.cons (.fn (.func 158) 0 .nil) .nil)) .nil)) .nil)), QS6, z69 k, []⟩
theorem z69.ok (k : Nat) : SigHolds Tryz.prog L 235 (z69.sg k) :=
  soe (C := ⟨Tryz.prog, [(202, [z190.sg k])], k, [], []⟩) (hc1 (z190.ok k) holds_nil) Tryz.func235 { loops := [(0, [(0, (.pur QK17)), (1, (.fn (.func 202) 0 (.cons (.box (.cons (.fn (.func 158) 0 .nil) .nil)) .nil))), (7, (.pur (.int .i64))), (8, (.pur (.int .i64)))])] } fun _ => by kernel_rfl
noncomputable def z191 (k : Nat) : ((List QT39) × QT42 × Unit) → Option ((Bool × Unit) × (Unit × QT42 × Unit)) := fun x => match x with
 | (s_, (((()), ()), ()), ()) =>
  bd k (z69 k (s_, (((()), ()), ()), ())) fun y1 =>
  some ((decide (y1.1.1 ≥ 0), ()), ((), (((()), ()), ()), ()))
noncomputable def z191.sg (k : Nat) : Sig := ⟨(.cons (.pur QK17) (.cons (.fn (.func 202) 0 (.cons (.box (.cons (.fn (.func 158) 0 .nil) .nil)) .nil)) .nil)), QS19, z191 k, []⟩
theorem z191.ok (k : Nat) : SigHolds Tryz.prog L 201 (z191.sg k) :=
  soe (C := ⟨Tryz.prog, [(235, [z69.sg k])], k, [], []⟩) (hc1 (z69.ok k) holds_nil) Tryz.func201 {} fun _ => by kernel_rfl
noncomputable def z157 (k : Nat) : ((List QT39) × (Unit) × Unit) → Option QT65 := fun x => match x with
 | (list, (()), ()) =>
  bd k (z191 k (list, (((()), ()), ()), ())) fun y1 =>
  some ((!y1.1.1, ()), ((), (()), ()))
noncomputable def z157.sg (k : Nat) : Sig := ⟨(.cons (.pur QK17) (.cons (.fn (.func 158) 0 .nil) .nil)), QS19, z157 k, []⟩
theorem z157.ok (k : Nat) : SigHolds Tryz.prog L 159 (z157.sg k) :=
  soe (C := ⟨Tryz.prog, [(201, [z191.sg k])], k, [], []⟩) (hc1 (z191.ok k) holds_nil) Tryz.func159 {} fun _ => by kernel_rfl
noncomputable def z30.l0 (k : Nat) : E2 ((QT2 × (List (List UInt8)) × (List (List UInt8)) × Int × Int × Unit) → Option QT25) := fun G0 x => match x with
 | ((d__0, d__1, d__2, ()), list, t9, t10, t11, ()) =>
  br k (decide (t11 < t10))
  (br k (decide (0 ≤ t11))
  (bd k (t9[t11.toNat]?) fun x2 =>
  (bd k (z68 k (x2, ())) fun y3 =>
  br k (!y3.1.1)
  (some (true, ()))
  (br k (decide (0 ≤ t11 ∧ t11 ≤ (list.length : Int)))
  (bd k (z101 k (list.take t11.toNat, x2, ())) fun y4 =>
  some (y4.1.1, ()))
  none) : Option (Bool × Unit)).bind fun j5 =>
  br k (j5.1)
  (some ((false, ()), ((), ())))
  (G0 ((d__0, d__1, d__2, ()), list, t9, t10, IntKind.wrap .i64 (t11 + 1), ())))
  none)
  (br k (decide ((d__0.length : Int) ≤ 5))
  (br k (decide ((d__1.length : Int) ≤ 3))
  (br k (decide ((d__2.length : Int) ≤ 2))
  (bd k (z157 k (d__2, (()), ())) fun y6 =>
  some ((y6.1.1, ()), ((), ())))
  (some ((false, ()), ((), ()))))
  (some ((false, ()), ((), ()))))
  (some ((false, ()), ((), ()))))
noncomputable def z30 (k : Nat) : (QT2 × Unit) → Option QT25 := fun x => match x with
 | (d_, ()) =>
  bd k (z66 k (d_, ())) fun y1 =>
  iter (z30.l0 k) k ((d_.1, d_.2.1, d_.2.2.1, ()), y1.1.1, y1.1.1, (y1.1.1.length : Int), 0, ())
noncomputable def z30.sg (k : Nat) : Sig := ⟨(.cons QS4 .nil), QS19, z30 k, []⟩
theorem z30.ok (hSp : Lb.NeedSp L) (k : Nat) : SigHolds Tryz.prog L 110 (z30.sg k) :=
  soe (C := ⟨Tryz.prog, [(155, [z66.sg k]), (156, [z68.sg k]), (157, [z101.sg k]), (159, [z157.sg k])], k, [], []⟩) (hc1 (z66.ok k) (hc1 (z68.ok hSp k) (hc1 (z101.ok k) (hc1 (z157.ok k) holds_nil)))) Tryz.func110 { loops := [(0, [(1, QS26), (3, (.pur (.sl false .str))), (9, (.pur (.sl false .str))), (10, (.pur (.int .i64))), (11, (.pur (.int .i64)))])], joins := [(5, [(25, .bool)])] } fun _ => by kernel_rfl
noncomputable def z87 (k : Nat) : (Int × Unit) → Option QT36 := fun x => match x with
 | (kind, ()) =>
  br k (kind == 1)
  (br k (kind == 1)
  (some ((1, ()), ((), ())))
  (br k (kind == 2)
  (br k (kind == 2)
  (some ((2, ()), ((), ())))
  (some ((0, ()), ((), ()))))
  (br k (kind == 5)
  (br k (kind == 5)
  (some ((2, ()), ((), ())))
  (some ((0, ()), ((), ()))))
  (br k (kind == 6)
  (br k (kind == 6)
  (some ((2, ()), ((), ())))
  (some ((0, ()), ((), ()))))
  (br k (kind == 9)
  (br k (kind == 9)
  (some ((2, ()), ((), ())))
  (some ((0, ()), ((), ()))))
  (br k (kind == 10)
  (br k (kind == 10)
  (some ((2, ()), ((), ())))
  (some ((0, ()), ((), ()))))
  (br k (kind == 11)
  (br k (kind == 11)
  (some ((2, ()), ((), ())))
  (some ((0, ()), ((), ()))))
  (br k (kind == 12)
  (some ((2, ()), ((), ())))
  (some ((0, ()), ((), ())))))))))))
  (br k (kind == 3)
  (some ((1, ()), ((), ())))
  (br k (kind == 2)
  (br k (kind == 2)
  (some ((2, ()), ((), ())))
  (some ((0, ()), ((), ()))))
  (br k (kind == 5)
  (br k (kind == 5)
  (some ((2, ()), ((), ())))
  (some ((0, ()), ((), ()))))
  (br k (kind == 6)
  (br k (kind == 6)
  (some ((2, ()), ((), ())))
  (some ((0, ()), ((), ()))))
  (br k (kind == 9)
  (br k (kind == 9)
  (some ((2, ()), ((), ())))
  (some ((0, ()), ((), ()))))
  (br k (kind == 10)
  (br k (kind == 10)
  (some ((2, ()), ((), ())))
  (some ((0, ()), ((), ()))))
  (br k (kind == 11)
  (br k (kind == 11)
  (some ((2, ()), ((), ())))
  (some ((0, ()), ((), ()))))
  (br k (kind == 12)
  (some ((2, ()), ((), ())))
  (some ((0, ()), ((), ())))))))))))
noncomputable def z87.sg (k : Nat) : Sig := ⟨QS6, QS6, z87 k, []⟩
theorem z87.ok (k : Nat) : SigHolds Tryz.prog L 133 (z87.sg k) :=
  soe (C := ⟨Tryz.prog, [], k, [], []⟩) holds_nil Tryz.func133 {} fun _ => by kernel_rfl
end Go.Pev.F
