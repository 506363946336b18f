/-
  Printed by gen.py: what functions of the program compute, and that they do.
-/
import Derived.Test.YtcpeneclncpgaaaGreatDoorK10
set_option linter.unusedSimpArgs false
set_option linter.unusedVariables false
open Go.Proofs Go.Pev
namespace Go.Pev.F
set_option maxRecDepth 100000
set_option linter.unusedVariables false
def spec_l5Copy.A : Sh := (.cons QS20 .nil)
def spec_l5Copy.R : Sh := (.cons (.agg QS17) .nil)
def spec_l5Copy.ann : Ann := { loops := [(0, [(1, QS15), (2, (.box QS17)), (3, (.box QS17)), (4, (.pur (.int .i64)))])], joins := [], keys := [(1, [([5], true), ([1], false), ([1], false), ([5, 8], true), ([9], true), ([1], false), ([1], false), ([9, 12], true), ([8, 12], false), ([3], true), ([3, 8, 12], true)]), (5, [([3], false), ([3], false), ([23], true), ([1], false), ([1], false), ([], false), ([], false), ([], false), ([23, 29], true), ([29, 30], true), ([3, 30, 31], true), ([3], false), ([3, 31], true)])] }
noncomputable def spec_l5Copy.l0 (k : Nat)  (G0 : (QT7 × QT7 × QT7 × Int × Unit) → Option QT41) : (QT7 × QT7 × QT7 × Int × Unit) → Option QT41 := fun x => match x with
 | ((s__0, s__1, s__2, ()), (t2_0, t2_1, t2_2, ()), (out__0, out__1, out__2, ()), i, ()) =>
  br k (decide (i < (s__2.length : Int)))
  (br k (decide (0 ≤ i))
  (bd k (s__2[i.toNat]?) fun x1 =>
  br k (decide ((([] : List Int).length + x1.length) * 8 ≤ maxBytes))
  (br k (decide ((out__2.length + ([([] : List Int) ++ x1] : List (List Int)).length) * 24 ≤ maxBytes))
  (G0 ((s__0, s__1, s__2, ()), (t2_0, t2_1, t2_2, ()), (out__0, out__1, out__2 ++ ([([] : List Int) ++ x1] : List (List Int)), ()), IntKind.wrap .i64 (i + 1), ()))
  none)
  none)
  none)
  (some (((out__0, out__1, out__2, ()), ()), ((), ())))
noncomputable def spec_l5Copy (k : Nat) : (QT7 × Unit) → Option QT41 := fun x => match x with
 | (s_, ()) =>
  br k (decide ((([] : List Int).length + s_.1.length) * 8 ≤ maxBytes))
  (br k (decide ((([] : List Bool).length + s_.2.1.length) * 1 ≤ maxBytes))
  (iter (spec_l5Copy.l0 k) k ((s_.1, s_.2.1, s_.2.2.1, ()), ([], [], ([] : List (List Int)), ()), (([] : List Int) ++ s_.1, ([] : List Bool) ++ s_.2.1, ([] : List (List Int)), ()), 0, ()))
  none)
  none
noncomputable def spec_l5Copy.sg (k : Nat) : Sig := ⟨spec_l5Copy.A, spec_l5Copy.R, spec_l5Copy k⟩
noncomputable def spec_l5Copy.C (k : Nat) : Ctx := ⟨Tryz.prog, [], k, [(30, (.own (.int .i64)))], []⟩
theorem spec_l5Copy.ev (k : Nat) (x : spec_l5Copy.A.T) : evFunc (spec_l5Copy.C k) spec_l5Copy.ann Tryz.f49 spec_l5Copy.A spec_l5Copy.R x = spec_l5Copy k x := by kernel_rfl
theorem spec_l5Copy.ok {L : List (Nat × Obj)}  (k : Nat) : SigHolds Tryz.prog L 49 (spec_l5Copy.sg k) :=
  sig_of_ev (C := spec_l5Copy.C k) holds_nil (by kernel_rfl) Tryz.func49 (by kernel_rfl) _ _ _ (fun x y h => (spec_l5Copy.ev k x).trans h) (by kernel_rfl)
def spec_l5Input.A : Sh := (.cons (.pur QK9) (.cons QS32 QS12))
def spec_l5Input.R : Sh := QS5
def spec_l5Input.ann : Ann := { loops := [], joins := [], keys := [] }
noncomputable def spec_l5Input (k : Nat) : (QT0 × (List Int) × Int × Unit) → Option ((Int × Int × Unit) × QT35) := fun x => match x with
 | (l_, inputs, used, ()) =>
  br k (decide (used ≥ (inputs.length : Int)))
  (some ((l_.2.2.2.2.1, used, ()), ((), (), (), ())))
  (br k (decide (0 ≤ used))
  (bd k (inputs[used.toNat]?) fun x1 =>
  br k (!decide ((IntKind.wrap .i64 ((IntKind.wrap .i64 (l_.2.2.2.2.2.1 - l_.2.2.2.2.1)) + 1)) = 0))
  (br k (!decide ((IntKind.wrap .i64 ((IntKind.wrap .i64 (l_.2.2.2.2.2.1 - l_.2.2.2.2.1)) + 1)) = 0))
  (some ((IntKind.wrap .i64 (l_.2.2.2.2.1 + ((IntKind.wrap .i64 ((x1.tmod (IntKind.wrap .i64 ((IntKind.wrap .i64 (l_.2.2.2.2.2.1 - l_.2.2.2.2.1)) + 1))) + (IntKind.wrap .i64 ((IntKind.wrap .i64 (l_.2.2.2.2.2.1 - l_.2.2.2.2.1)) + 1)))).tmod (IntKind.wrap .i64 ((IntKind.wrap .i64 (l_.2.2.2.2.2.1 - l_.2.2.2.2.1)) + 1)))), IntKind.wrap .i64 (used + 1), ()), ((), (), (), ())))
  none)
  none)
  none)
noncomputable def spec_l5Input.sg (k : Nat) : Sig := ⟨spec_l5Input.A, spec_l5Input.R, spec_l5Input k⟩
noncomputable def spec_l5Input.C (k : Nat) : Ctx := ⟨Tryz.prog, [], k, [], []⟩
theorem spec_l5Input.ev (k : Nat) (x : spec_l5Input.A.T) : evFunc (spec_l5Input.C k) spec_l5Input.ann Tryz.f50 spec_l5Input.A spec_l5Input.R x = spec_l5Input k x := by kernel_rfl
theorem spec_l5Input.ok {L : List (Nat × Obj)}  (k : Nat) : SigHolds Tryz.prog L 50 (spec_l5Input.sg k) :=
  sig_of_ev (C := spec_l5Input.C k) holds_nil (by kernel_rfl) Tryz.func50 (by kernel_rfl) _ _ _ (fun x y h => (spec_l5Input.ev k x).trans h) (by kernel_rfl)
def spec_l5Step.A : Sh := (.cons QS23 (.cons (.pur (.int .i64)) (.cons (.pur QK9) (.cons (.pur (.int .i64)) (.cons QS20 (.cons QS32 QS12))))))
def spec_l5Step.R : Sh := (.cons (.pur (.int .i64)) (.cons QS20 QS5))
def spec_l5Step.ann : Ann := { loops := [], joins := [(6, [(42, .bool)]), (32, [(136, .bool)])], keys := [(9, [([], false), ([11], false), ([], false), ([], false), ([], false), ([15], true), ([], false), ([], false)]), (36, [([], false), ([21], false), ([], false), ([], false), ([15, 21, 57, 98], true), ([], false), ([], false)]), (18, [([], false), ([11], false), ([], false), ([], false), ([15], true), ([], false), ([], false)]), (33, [([], false), ([11], false), ([], false), ([], false), ([15], true), ([], false), ([], false)]), (35, [([], false), ([11], false), ([], false), ([], false), ([15], true), ([], false), ([], false)])], heads := [(6, [(1, (.pur (.int .i64))), (3, (.pur (.int .i64))), (5, QS32), (6, (.pur (.int .i64))), (9, QS14), (11, QS15), (15, (.box QS17)), (18, (.pur (.int .i64))), (19, (.pur (.int .i64))), (20, (.pur (.int .i64)))]), (8, [(1, (.pur (.int .i64))), (3, (.pur (.int .i64))), (5, QS32), (6, (.pur (.int .i64))), (9, QS14), (11, QS15), (15, (.box QS17)), (18, (.pur (.int .i64))), (19, (.pur (.int .i64))), (20, (.pur (.int .i64)))]), (28, [(1, (.pur (.int .i64))), (3, (.pur (.int .i64))), (6, (.pur (.int .i64))), (15, (.box QS17)), (19, (.pur (.int .i64))), (21, (.box QS17))]), (30, [(1, (.pur (.int .i64))), (3, (.pur (.int .i64))), (6, (.pur (.int .i64))), (9, QS14), (11, QS15), (15, (.box QS17)), (19, (.pur (.int .i64))), (21, (.box QS17)), (59, (.pur (.int .i64)))])] }
noncomputable def spec_l5Step.h28 (k : Nat)  : (Int × Int × Int × QT7 × Int × QT7 × Unit) → Option QT34 := fun x => match x with
 | (to_, at_, used, (t15_0, t15_1, t15_2, ()), e_, (out__0, out__1, out__2, ()), ()) =>
  br k (e_ == 1)
  (some ((IntKind.wrap .i64 (at_ + 1), (out__0, out__1, out__2, ()), used, 0, ()), ((), (), (), (), (), (), (), ())))
  (some ((to_, (out__0, out__1, out__2, ()), used, 0, ()), ((), (), (), (), (), (), (), ())))
noncomputable def spec_l5Step.h30 (k : Nat)  : (Int × Int × Int × QT0 × QT7 × QT7 × Int × QT7 × Int × Unit) → Option QT34 := fun x => match x with
 | (to_, at_, used, (l__0, l__1, l__2, l__3, l__4, l__5, ()), (s__0, s__1, s__2, ()), (t15_0, t15_1, t15_2, ()), e_, (out__0, out__1, out__2, ()), t59, ()) =>
  br k (t59 == 11)
  (br k (t59 == 11)
  ((br k (e_ == 0)
  (some (l__0 == 11, ()))
  (some (false, ())) : Option (Bool × Unit)).bind fun j13 =>
  br k (j13.1)
  (some ((at_, (s__0, s__1, s__2, ()), used, 7, ()), ((), (), (), (), (), (), (), ())))
  (br k (e_ == 0)
  (some ((at_, (s__0, s__1, s__2, ()), used, 3, ()), ((), (), (), (), (), (), (), ())))
  (some ((to_, (out__0, out__1, out__2, ()), used, 0, ()), ((), (), (), (), (), (), (), ())))))
  (some ((to_, (out__0, out__1, out__2, ()), used, 0, ()), ((), (), (), (), (), (), (), ()))))
  (br k (t59 == 12)
  ((br k (e_ == 0)
  (some (l__0 == 11, ()))
  (some (false, ())) : Option (Bool × Unit)).bind fun j14 =>
  br k (j14.1)
  (some ((at_, (s__0, s__1, s__2, ()), used, 7, ()), ((), (), (), (), (), (), (), ())))
  (br k (e_ == 0)
  (some ((at_, (s__0, s__1, s__2, ()), used, 3, ()), ((), (), (), (), (), (), (), ())))
  (some ((to_, (out__0, out__1, out__2, ()), used, 0, ()), ((), (), (), (), (), (), (), ())))))
  (some ((to_, (out__0, out__1, out__2, ()), used, 0, ()), ((), (), (), (), (), (), (), ()))))
noncomputable def spec_l5Step.h8 (k : Nat)  : (Int × Int × (List Int) × Int × QT0 × QT7 × QT7 × Int × Int × Int × Unit) → Option QT34 := fun x => match x with
 | (to_, at_, inputs, used, (l__0, l__1, l__2, l__3, l__4, l__5, ()), (s__0, s__1, s__2, ()), (t15_0, t15_1, t15_2, ()), i, e_, code, ()) =>
  br k (code != 0)
  (some ((at_, (s__0, s__1, s__2, ()), used, code, ()), ((), (), (), (), (), (), (), ())))
  (bd k (spec_l5Copy k ((s__0, s__1, s__2, ()), ())) fun y4 =>
  br k (l__0 == 1)
  (br k (decide (0 ≤ l__1 ∧ l__1 < (y4.1.1.1.length : Int)))
  (bd k (y4.1.1.1[l__1.toNat]?) fun x5 =>
  some ((to_, (y4.1.1.1.set l__1.toNat e_, y4.1.1.2.1, y4.1.1.2.2.1, ()), used, 0, ()), ((), (), (), (), (), (), (), ())))
  none)
  (br k (l__0 == 2)
  (br k (decide (0 ≤ l__1 ∧ l__1 < (y4.1.1.2.1.length : Int)))
  (bd k (y4.1.1.2.1[l__1.toNat]?) fun x6 =>
  some ((to_, (y4.1.1.1, y4.1.1.2.1.set l__1.toNat (e_ == 1), y4.1.1.2.2.1, ()), used, 0, ()), ((), (), (), (), (), (), (), ())))
  none)
  (br k (l__0 == 3)
  (br k (decide (0 ≤ l__1))
  (bd k (s__2[l__1.toNat]?) fun x7 =>
  bd k (spec_l1In k (i, 0, IntKind.wrap .i64 ((x7.length : Int) - 1), ())) fun y8 =>
  br k (!y8.1.1)
  (some ((at_, (s__0, s__1, s__2, ()), used, 5, ()), ((), (), (), (), (), (), (), ())))
  (br k (decide (0 ≤ l__1 ∧ l__1 < (y4.1.1.2.2.1.length : Int)))
  (bd k (y4.1.1.2.2.1[l__1.toNat]?) fun x9 =>
  br k (decide (0 ≤ i ∧ i < (x9.length : Int)))
  (bd k (x9[i.toNat]?) fun x10 =>
  some ((to_, (y4.1.1.1, y4.1.1.2.1, y4.1.1.2.2.1.set l__1.toNat (x9.set i.toNat e_), ()), used, 0, ()), ((), (), (), (), (), (), (), ())))
  none)
  none))
  none)
  (br k (l__0 == 4)
  (bd k (spec_l5Input k ((l__0, l__1, l__2, l__3, l__4, l__5, ()), inputs, used, ())) fun y11 =>
  br k (decide (0 ≤ l__1 ∧ l__1 < (y4.1.1.1.length : Int)))
  (bd k (y4.1.1.1[l__1.toNat]?) fun x12 =>
  some ((to_, (y4.1.1.1.set l__1.toNat y11.1.1, y4.1.1.2.1, y4.1.1.2.2.1, ()), y11.1.2.1, 0, ()), ((), (), (), (), (), (), (), ())))
  none)
  (br k (l__0 == 5)
  (br k (l__0 == 5)
  (jn k (spec_l5Step.h28 k) (to_, at_, used, (t15_0, t15_1, t15_2, ()), e_, (y4.1.1.1, y4.1.1.2.1, y4.1.1.2.2.1, ()), ()))
  (jn k (spec_l5Step.h30 k) (to_, at_, used, (l__0, l__1, l__2, l__3, l__4, l__5, ()), (s__0, s__1, s__2, ()), (t15_0, t15_1, t15_2, ()), e_, (y4.1.1.1, y4.1.1.2.1, y4.1.1.2.2.1, ()), l__0, ())))
  (br k (l__0 == 6)
  (br k (l__0 == 6)
  (jn k (spec_l5Step.h28 k) (to_, at_, used, (t15_0, t15_1, t15_2, ()), e_, (y4.1.1.1, y4.1.1.2.1, y4.1.1.2.2.1, ()), ()))
  (jn k (spec_l5Step.h30 k) (to_, at_, used, (l__0, l__1, l__2, l__3, l__4, l__5, ()), (s__0, s__1, s__2, ()), (t15_0, t15_1, t15_2, ()), e_, (y4.1.1.1, y4.1.1.2.1, y4.1.1.2.2.1, ()), l__0, ())))
  (br k (l__0 == 9)
  (br k (l__0 == 9)
  (jn k (spec_l5Step.h28 k) (to_, at_, used, (t15_0, t15_1, t15_2, ()), e_, (y4.1.1.1, y4.1.1.2.1, y4.1.1.2.2.1, ()), ()))
  (jn k (spec_l5Step.h30 k) (to_, at_, used, (l__0, l__1, l__2, l__3, l__4, l__5, ()), (s__0, s__1, s__2, ()), (t15_0, t15_1, t15_2, ()), e_, (y4.1.1.1, y4.1.1.2.1, y4.1.1.2.2.1, ()), l__0, ())))
  (br k (l__0 == 10)
  (jn k (spec_l5Step.h28 k) (to_, at_, used, (t15_0, t15_1, t15_2, ()), e_, (y4.1.1.1, y4.1.1.2.1, y4.1.1.2.2.1, ()), ()))
  (jn k (spec_l5Step.h30 k) (to_, at_, used, (l__0, l__1, l__2, l__3, l__4, l__5, ()), (s__0, s__1, s__2, ()), (t15_0, t15_1, t15_2, ()), e_, (y4.1.1.1, y4.1.1.2.1, y4.1.1.2.2.1, ()), l__0, ()))))))))))
noncomputable def spec_l5Step.h6 (k : Nat)  : (Int × Int × (List Int) × Int × QT0 × QT7 × QT7 × Int × Int × Int × Unit) → Option QT34 := fun x => match x with
 | (to_, at_, inputs, used, (l__0, l__1, l__2, l__3, l__4, l__5, ()), (s__0, s__1, s__2, ()), (t15_0, t15_1, t15_2, ()), i, e_, code, ()) =>
  (br k (decide ((l__3.length : Int) > 0))
  (some (code == 0, ()))
  (some (false, ())) : Option (Bool × Unit)).bind fun j2 =>
  br k (j2.1)
  (bd k (spec_l5Eval k (l__3, (s__0, s__1, s__2, ()), ())) fun y3 =>
  jn k (spec_l5Step.h8 k) (to_, at_, inputs, used, (l__0, l__1, l__2, l__3, l__4, l__5, ()), (s__0, s__1, s__2, ()), (t15_0, t15_1, t15_2, ()), i, y3.1.1, y3.1.2.1, ()))
  (jn k (spec_l5Step.h8 k) (to_, at_, inputs, used, (l__0, l__1, l__2, l__3, l__4, l__5, ()), (s__0, s__1, s__2, ()), (t15_0, t15_1, t15_2, ()), i, e_, code, ()))
noncomputable def spec_l5Step (k : Nat) : (QT8 × Int × QT0 × Int × QT7 × (List Int) × Int × Unit) → Option QT34 := fun x => match x with
 | (p, to_, l_, at_, s_, inputs, used, ()) =>
  br k (decide ((l_.2.2.1.length : Int) > 0))
  (bd k (spec_l5Eval k (l_.2.2.1, s_, ())) fun y1 =>
  jn k (spec_l5Step.h6 k) (to_, at_, inputs, used, (l_.1, l_.2.1, l_.2.2.1, l_.2.2.2.1, l_.2.2.2.2.1, l_.2.2.2.2.2.1, ()), (s_.1, s_.2.1, s_.2.2.1, ()), ([], [], ([] : List (List Int)), ()), y1.1.1, 0, y1.1.2.1, ()))
  (jn k (spec_l5Step.h6 k) (to_, at_, inputs, used, (l_.1, l_.2.1, l_.2.2.1, l_.2.2.2.1, l_.2.2.2.2.1, l_.2.2.2.2.2.1, ()), (s_.1, s_.2.1, s_.2.2.1, ()), ([], [], ([] : List (List Int)), ()), 0, 0, 0, ()))
noncomputable def spec_l5Step.sg (k : Nat) : Sig := ⟨spec_l5Step.A, spec_l5Step.R, spec_l5Step k⟩
noncomputable def spec_l5Step.C (k : Nat) : Ctx := ⟨Tryz.prog, [(48, [spec_l5Eval.sg k]), (49, [spec_l5Copy.sg k]), (45, [spec_l1In.sg k]), (50, [spec_l5Input.sg k])], k, [], []⟩
theorem spec_l5Step.ev (k : Nat) (x : spec_l5Step.A.T) : evFunc (spec_l5Step.C k) spec_l5Step.ann Tryz.f27 spec_l5Step.A spec_l5Step.R x = spec_l5Step k x := by kernel_rfl
theorem spec_l5Step.ok {L : List (Nat × Obj)}  (k : Nat) : SigHolds Tryz.prog L 27 (spec_l5Step.sg k) :=
  sig_of_ev (C := spec_l5Step.C k) (holds_cons (allok_cons (spec_l5Eval.ok k) allok_nil) (holds_cons (allok_cons (spec_l5Copy.ok k) allok_nil) (holds_cons (allok_cons (spec_l1In.ok k) allok_nil) (holds_cons (allok_cons (spec_l5Input.ok k) allok_nil) holds_nil)))) (by kernel_rfl) Tryz.func27 (by kernel_rfl) _ _ _ (fun x y h => (spec_l5Step.ev k x).trans h) (by kernel_rfl)
def spec_Run.A : Sh := (.cons QS23 (.cons QS32 QS12))
def spec_Run.R : Sh := (.cons QS39 .nil)
def spec_Run.ann : Ann := { loops := [(0, [(1, QS32), (2, (.pur (.int .i64))), (3, (.box (.cons (.pur (.sl false .str)) (.cons (.pur (.sl false .str)) (.cons (.pur QK13) QS51))))), (6, (.box (.cons (.pur (.int .i64)) (.cons (.pur (.int .i64)) (.cons (.own (.int .i64)) (.cons (.own .bool) (.cons (.own (.sl false (.int .i64))) QS5))))))), (7, (.own (.int .i64))), (8, (.box (.cons (.pur (.int .i64)) (.cons (.pur (.int .i64)) (.cons QS32 (.cons (.pur (.sl false .bool)) (.cons (.pur (.sl false (.sl false (.int .i64)))) QS5)))))))])], joins := [], keys := [(10, [([3], false), ([], false), ([8], false), ([8], false), ([7], false), ([7], false), ([3], false), ([3], false), ([8], false), ([8], false), ([], false), ([], false), ([8], false), ([8], false), ([8], false), ([8], false), ([], false), ([8], false), ([8], false), ([8, 61], true), ([], false), ([], false), ([], false), ([], false), ([], false), ([10], true), ([], false), ([10], true), ([], false), ([], false)])] }
noncomputable def spec_Run.l0 (k : Nat)  (G0 : ((List Int) × Int × QT8 × QT27 × (List Int) × QT27 × Unit) → Option ((QT27 × Unit) × QT35)) : ((List Int) × Int × QT8 × QT27 × (List Int) × QT27 × Unit) → Option ((QT27 × Unit) × QT35) := fun x => match x with
 | (inputs, fuel, (p_0, p_1, p_2, p_3, ()), (t6_0, t6_1, t6_2, t6_3, t6_4, t6_5, t6_6, ()), to_, (out__0, out__1, out__2, out__3, out__4, out__5, out__6, ()), ()) =>
  br k (decide (out__1 < (p_3.length : Int)))
  (br k (out__5 == fuel)
  (some (((2, out__1, out__2, out__3, out__4, out__5, out__6, ()), ()), ((), (), (), ())))
  (br k (decide (0 ≤ out__1 ∧ out__1 < (to_.length : Int)))
  (bd k (to_[out__1.toNat]?) fun x4 =>
  br k (decide (0 ≤ out__1))
  (bd k (p_3[out__1.toNat]?) fun x5 =>
  bd k (spec_l5Step k ((p_0, p_1, p_2, p_3, ()), x4, x5, out__1, (out__2, out__3, out__4, ()), inputs, out__6, ())) fun y6 =>
  br k (y6.1.2.2.2.1 != 0)
  (some (((y6.1.2.2.2.1, y6.1.1, y6.1.2.1.1, y6.1.2.1.2.1, y6.1.2.1.2.2.1, IntKind.wrap .i64 (out__5 + 1), y6.1.2.2.1, ()), ()), ((), (), (), ())))
  (G0 (inputs, fuel, (p_0, p_1, p_2, p_3, ()), (t6_0, t6_1, t6_2, t6_3, t6_4, t6_5, t6_6, ()), to_, (y6.1.2.2.2.1, y6.1.1, y6.1.2.1.1, y6.1.2.1.2.1, y6.1.2.1.2.2.1, IntKind.wrap .i64 (out__5 + 1), y6.1.2.2.1, ()), ())))
  none)
  none))
  (some (((out__0, out__1, out__2, out__3, out__4, out__5, out__6, ()), ()), ((), (), (), ())))
noncomputable def spec_Run (k : Nat) : QT52 → Option ((QT27 × Unit) × QT35) := fun x => match x with
 | (p, inputs, fuel, ()) =>
  bd k (spec_l5Form k (p, inputs, fuel, ())) fun y1 =>
  br k (!y1.1.1)
  (some (((1, 0, [], [], [], 0, 0, ()), ()), ((), (), (), ())))
  (bd k (spec_Targets k (p, ())) fun y2 =>
  bd k (spec_StoreNew k ((p.1, p.2.1, p.2.2.1, ()), ())) fun y3 =>
  iter (spec_Run.l0 k) k (inputs, fuel, (p.1, p.2.1, p.2.2.1, p.2.2.2.1, ()), (0, 0, [], [], [], 0, 0, ()), y2.1.1, (0, 0, y3.1.1.1, y3.1.1.2.1, y3.1.1.2.2.1, 0, 0, ()), ()))
noncomputable def spec_Run.sg (k : Nat) : Sig := ⟨spec_Run.A, spec_Run.R, spec_Run k⟩
noncomputable def spec_Run.C (k : Nat) : Ctx := ⟨Tryz.prog, [(24, [spec_l5Form.sg k]), (25, [spec_Targets.sg k]), (26, [spec_StoreNew.sg k]), (27, [spec_l5Step.sg k])], k, [], []⟩
theorem spec_Run.ev (k : Nat) (x : spec_Run.A.T) : evFunc (spec_Run.C k) spec_Run.ann Tryz.f9 spec_Run.A spec_Run.R x = spec_Run k x := by kernel_rfl
theorem spec_Run.ok {L : List (Nat × Obj)}  (k : Nat) : SigHolds Tryz.prog L 9 (spec_Run.sg k) :=
  sig_of_ev (C := spec_Run.C k) (holds_cons (allok_cons (spec_l5Form.ok k) allok_nil) (holds_cons (allok_cons (spec_Targets.ok k) allok_nil) (holds_cons (allok_cons (spec_StoreNew.ok k) allok_nil) (holds_cons (allok_cons (spec_l5Step.ok k) allok_nil) holds_nil)))) (by kernel_rfl) Tryz.func9 (by kernel_rfl) _ _ _ (fun x y h => (spec_Run.ev k x).trans h) (by kernel_rfl)
def laws_sameInts.A : Sh := (.cons QS32 (.cons QS32 .nil))
def laws_sameInts.R : Sh := QS19
def laws_sameInts.ann : Ann := { loops := [(0, [(0, QS32), (1, QS32), (5, (.pur (.int .i64)))])], joins := [], keys := [] }
noncomputable def laws_sameInts.l0 (k : Nat)  (G0 : ((List Int) × (List Int) × Int × Unit) → Option QT22) : ((List Int) × (List Int) × Int × Unit) → Option QT22 := fun x => match x with
 | (a, b_, i, ()) =>
  br k (decide (i < (a.length : Int)))
  (br k (decide (0 ≤ i))
  (bd k (a[i.toNat]?) fun x1 =>
  br k (decide (0 ≤ i))
  (bd k (b_[i.toNat]?) fun x2 =>
  br k (x1 != x2)
  (some ((false, ()), ((), (), ())))
  (G0 (a, b_, IntKind.wrap .i64 (i + 1), ())))
  none)
  none)
  (some ((true, ()), ((), (), ())))
noncomputable def laws_sameInts (k : Nat) : ((List Int) × (List Int) × Unit) → Option QT22 := fun x => match x with
 | (a, b_, ()) =>
  br k ((a.length : Int) != (b_.length : Int))
  (some ((false, ()), ((), (), ())))
  (iter (laws_sameInts.l0 k) k (a, b_, 0, ()))
noncomputable def laws_sameInts.sg (k : Nat) : Sig := ⟨laws_sameInts.A, laws_sameInts.R, laws_sameInts k⟩
noncomputable def laws_sameInts.C (k : Nat) : Ctx := ⟨Tryz.prog, [], k, [], []⟩
theorem laws_sameInts.ev (k : Nat) (x : laws_sameInts.A.T) : evFunc (laws_sameInts.C k) laws_sameInts.ann Tryz.f51 laws_sameInts.A laws_sameInts.R x = laws_sameInts k x := by kernel_rfl
theorem laws_sameInts.ok {L : List (Nat × Obj)}  (k : Nat) : SigHolds Tryz.prog L 51 (laws_sameInts.sg k) :=
  sig_of_ev (C := laws_sameInts.C k) holds_nil (by kernel_rfl) Tryz.func51 (by kernel_rfl) _ _ _ (fun x y h => (laws_sameInts.ev k x).trans h) (by kernel_rfl)
def laws_sameStore.A : Sh := (.cons QS20 (.cons QS20 .nil))
def laws_sameStore.R : Sh := QS19
def laws_sameStore.ann : Ann := { loops := [(0, [(2, QS15), (3, QS15), (5, (.pur (.int .i64)))]), (2, [(2, QS15), (3, QS15), (6, (.pur (.int .i64)))])], joins := [(1, [(30, .bool)])], keys := [] }
noncomputable def laws_sameStore.l2 (k : Nat)  (G2 : (QT7 × QT7 × Int × Unit) → Option QT22) : (QT7 × QT7 × Int × Unit) → Option QT22 := fun x => match x with
 | ((a_0, a_1, a_2, ()), (b__0, b__1, b__2, ()), i, ()) =>
  br k (decide (i < (a_2.length : Int)))
  (br k (decide (0 ≤ i))
  (bd k (a_2[i.toNat]?) fun x5 =>
  br k (decide (0 ≤ i))
  (bd k (b__2[i.toNat]?) fun x6 =>
  bd k (laws_sameInts k (x5, x6, ())) fun y7 =>
  br k (!y7.1.1)
  (some ((false, ()), ((), (), ())))
  (G2 ((a_0, a_1, a_2, ()), (b__0, b__1, b__2, ()), IntKind.wrap .i64 (i + 1), ())))
  none)
  none)
  (some ((true, ()), ((), (), ())))
noncomputable def laws_sameStore.l0 (k : Nat)  (G0 : (QT7 × QT7 × Int × Unit) → Option QT22) : (QT7 × QT7 × Int × Unit) → Option QT22 := fun x => match x with
 | ((a_0, a_1, a_2, ()), (b__0, b__1, b__2, ()), i, ()) =>
  br k (decide (i < (a_1.length : Int)))
  (br k (decide (0 ≤ i))
  (bd k (a_1[i.toNat]?) fun x3 =>
  br k (decide (0 ≤ i))
  (bd k (b__1[i.toNat]?) fun x4 =>
  br k (!(x3 == x4))
  (some ((false, ()), ((), (), ())))
  (G0 ((a_0, a_1, a_2, ()), (b__0, b__1, b__2, ()), IntKind.wrap .i64 (i + 1), ())))
  none)
  none)
  (iter (laws_sameStore.l2 k) k ((a_0, a_1, a_2, ()), (b__0, b__1, b__2, ()), 0, ()))
noncomputable def laws_sameStore (k : Nat) : (QT7 × QT7 × Unit) → Option QT22 := fun x => match x with
 | (a, b_, ()) =>
  (bd k (laws_sameInts k (a.1, b_.1, ())) fun y1 =>
  br k (!y1.1.1)
  (some (true, ()))
  (br k ((a.2.1.length : Int) != (b_.2.1.length : Int))
  (some (true, ()))
  (some ((a.2.2.1.length : Int) != (b_.2.2.1.length : Int), ()))) : Option (Bool × Unit)).bind fun j2 =>
  br k (j2.1)
  (some ((false, ()), ((), (), ())))
  (iter (laws_sameStore.l0 k) k ((a.1, a.2.1, a.2.2.1, ()), (b_.1, b_.2.1, b_.2.2.1, ()), 0, ()))
noncomputable def laws_sameStore.sg (k : Nat) : Sig := ⟨laws_sameStore.A, laws_sameStore.R, laws_sameStore k⟩
noncomputable def laws_sameStore.C (k : Nat) : Ctx := ⟨Tryz.prog, [(51, [laws_sameInts.sg k])], k, [], []⟩
theorem laws_sameStore.ev (k : Nat) (x : laws_sameStore.A.T) : evFunc (laws_sameStore.C k) laws_sameStore.ann Tryz.f28 laws_sameStore.A laws_sameStore.R x = laws_sameStore k x := by kernel_rfl
theorem laws_sameStore.ok {L : List (Nat × Obj)}  (k : Nat) : SigHolds Tryz.prog L 28 (laws_sameStore.sg k) :=
  sig_of_ev (C := laws_sameStore.C k) (holds_cons (allok_cons (laws_sameInts.ok k) allok_nil) holds_nil) (by kernel_rfl) Tryz.func28 (by kernel_rfl) _ _ _ (fun x y h => (laws_sameStore.ev k x).trans h) (by kernel_rfl)
def laws_sameOut.A : Sh := (.cons QS39 (.cons QS39 .nil))
def laws_sameOut.R : Sh := QS19
def laws_sameOut.ann : Ann := { loops := [], joins := [(1, [(4, .bool)])], keys := [] }
noncomputable def laws_sameOut (k : Nat) : (QT27 × QT27 × Unit) → Option QT22 := fun x => match x with
 | (a, b_, ()) =>
  (br k (a.1 == b_.1)
  (br k (a.2.1 == b_.2.1)
  (br k (a.2.2.2.2.2.1 == b_.2.2.2.2.2.1)
  (br k (a.2.2.2.2.2.2.1 == b_.2.2.2.2.2.2.1)
  (bd k (laws_sameStore k ((a.2.2.1, a.2.2.2.1, a.2.2.2.2.1, ()), (b_.2.2.1, b_.2.2.2.1, b_.2.2.2.2.1, ()), ())) fun y1 =>
  some (y1.1.1, ()))
  (some (false, ())))
  (some (false, ())))
  (some (false, ())))
  (some (false, ())) : Option (Bool × Unit)).bind fun j2 =>
  some ((j2.1, ()), ((), (), ()))
noncomputable def laws_sameOut.sg (k : Nat) : Sig := ⟨laws_sameOut.A, laws_sameOut.R, laws_sameOut k⟩
noncomputable def laws_sameOut.C (k : Nat) : Ctx := ⟨Tryz.prog, [(28, [laws_sameStore.sg k])], k, [], []⟩
theorem laws_sameOut.ev (k : Nat) (x : laws_sameOut.A.T) : evFunc (laws_sameOut.C k) laws_sameOut.ann Tryz.f10 laws_sameOut.A laws_sameOut.R x = laws_sameOut k x := by kernel_rfl
theorem laws_sameOut.ok {L : List (Nat × Obj)}  (k : Nat) : SigHolds Tryz.prog L 10 (laws_sameOut.sg k) :=
  sig_of_ev (C := laws_sameOut.C k) (holds_cons (allok_cons (laws_sameStore.ok k) allok_nil) holds_nil) (by kernel_rfl) Tryz.func10 (by kernel_rfl) _ _ _ (fun x y h => (laws_sameOut.ev k x).trans h) (by kernel_rfl)
def impl_Decl_isStore.A : Sh := (.cons QS6 (.cons QS20 .nil))
def impl_Decl_isStore.R : Sh := QS19
def impl_Decl_isStore.ann : Ann := { loops := [(0, [(3, QS15), (33, (.pur QK13)), (34, (.pur (.int .i64))), (35, (.pur (.int .i64)))])], joins := [(1, [(31, .bool)])], keys := [] }
noncomputable def impl_Decl_isStore.l0 (k : Nat)  (G0 : (QT7 × (List QT29) × Int × Int × Unit) → Option QT22) : (QT7 × (List QT29) × Int × Int × Unit) → Option QT22 := fun x => match x with
 | ((s__0, s__1, s__2, ()), t33, t34, t35, ()) =>
  br k (decide (t35 < t34))
  (br k (decide (0 ≤ t35))
  (bd k (t33[t35.toNat]?) fun x2 =>
  br k (decide (0 ≤ t35))
  (bd k (s__2[t35.toNat]?) fun x3 =>
  bd k (impl_size_int64 k (x3, ())) fun y4 =>
  br k (y4.1.1 != x2.2.1)
  (some ((false, ()), ((), (), ())))
  (G0 ((s__0, s__1, s__2, ()), t33, t34, IntKind.wrap .i64 (t35 + 1), ())))
  none)
  none)
  (some ((true, ()), ((), (), ())))
noncomputable def impl_Decl_isStore (k : Nat) : (QT2 × QT7 × Unit) → Option QT22 := fun x => match x with
 | (d_, s_, ()) =>
  (br k ((s_.1.length : Int) != (d_.1.length : Int))
  (some (true, ()))
  (br k ((s_.2.1.length : Int) != (d_.2.1.length : Int))
  (some (true, ()))
  (some ((s_.2.2.1.length : Int) != (d_.2.2.1.length : Int), ()))) : Option (Bool × Unit)).bind fun j1 =>
  br k (j1.1)
  (some ((false, ()), ((), (), ())))
  (iter (impl_Decl_isStore.l0 k) k ((s_.1, s_.2.1, s_.2.2.1, ()), d_.2.2.1, (d_.2.2.1.length : Int), 0, ()))
noncomputable def impl_Decl_isStore.sg (k : Nat) : Sig := ⟨impl_Decl_isStore.A, impl_Decl_isStore.R, impl_Decl_isStore k⟩
noncomputable def impl_Decl_isStore.C (k : Nat) : Ctx := ⟨Tryz.prog, [(57, [impl_size_int64.sg k])], k, [], []⟩
theorem impl_Decl_isStore.ev (k : Nat) (x : impl_Decl_isStore.A.T) : evFunc (impl_Decl_isStore.C k) impl_Decl_isStore.ann Tryz.f30 impl_Decl_isStore.A impl_Decl_isStore.R x = impl_Decl_isStore k x := by kernel_rfl
theorem impl_Decl_isStore.ok {L : List (Nat × Obj)}  (k : Nat) : SigHolds Tryz.prog L 30 (impl_Decl_isStore.sg k) :=
  sig_of_ev (C := impl_Decl_isStore.C k) (holds_cons (allok_cons (impl_size_int64.ok k) allok_nil) holds_nil) (by kernel_rfl) Tryz.func30 (by kernel_rfl) _ _ _ (fun x y h => (impl_Decl_isStore.ev k x).trans h) (by kernel_rfl)
def impl_StoreOk.A : Sh := (.cons QS6 (.cons QS20 .nil))
def impl_StoreOk.R : Sh := QS19
def impl_StoreOk.ann : Ann := { loops := [], joins := [(1, [(4, .bool)])], keys := [] }
noncomputable def impl_StoreOk (k : Nat) : (QT2 × QT7 × Unit) → Option QT22 := fun x => match x with
 | (d_, s_, ()) =>
  (bd k (impl_Decl_isRight k (d_, ())) fun y1 =>
  br k (y1.1.1)
  (bd k (impl_Decl_isStore k (d_, s_, ())) fun y2 =>
  some (y2.1.1, ()))
  (some (false, ())) : Option (Bool × Unit)).bind fun j3 =>
  some ((j3.1, ()), ((), (), ()))
noncomputable def impl_StoreOk.sg (k : Nat) : Sig := ⟨impl_StoreOk.A, impl_StoreOk.R, impl_StoreOk k⟩
noncomputable def impl_StoreOk.C (k : Nat) : Ctx := ⟨Tryz.prog, [(29, [impl_Decl_isRight.sg k]), (30, [impl_Decl_isStore.sg k])], k, [], []⟩
theorem impl_StoreOk.ev (k : Nat) (x : impl_StoreOk.A.T) : evFunc (impl_StoreOk.C k) impl_StoreOk.ann Tryz.f11 impl_StoreOk.A impl_StoreOk.R x = impl_StoreOk k x := by kernel_rfl
theorem impl_StoreOk.ok {L : List (Nat × Obj)} (hSp : Lb.NeedSp L) (k : Nat) : SigHolds Tryz.prog L 11 (impl_StoreOk.sg k) :=
  sig_of_ev (C := impl_StoreOk.C k) (holds_cons (allok_cons (impl_Decl_isRight.ok hSp k) allok_nil) (holds_cons (allok_cons (impl_Decl_isStore.ok k) allok_nil) holds_nil)) (by kernel_rfl) Tryz.func11 (by kernel_rfl) _ _ _ (fun x y h => (impl_StoreOk.ev k x).trans h) (by kernel_rfl)
def laws_FnRunRight.A : Sh := QS55
def laws_FnRunRight.R : Sh := QS19
def laws_FnRunRight.ann : Ann := { loops := [], joins := [(9, [(76, .bool)]), (14, [(2, .bool)])], keys := [(5, [([6], false), ([3], false), ([], false), ([], false), ([14, 26], true), ([21], false), ([], false), ([], false), ([6], false), ([6], false), ([], false), ([], false)]), (6, [([6], false), ([3], false), ([], false), ([], false), ([14, 38], true), ([21], false), ([], false)])] }
noncomputable def laws_FnRunRight (k : Nat) : ((List Int) × Unit) → Option QT21 := fun x => match x with
 | (code, ()) =>
  bd k (laws_big k (code, ())) fun y1 =>
  br k (y1.1.1)
  (some ((true, ()), ((), ())))
  (bd k (spec_DrawRun k (code, ())) fun y2 =>
  bd k (impl_Run k ((y2.1.1.1, y2.1.1.2.1, y2.1.1.2.2.1, y2.1.1.2.2.2.1, ()), y2.1.2.1, y2.1.2.2.1, ())) fun y3 =>
  bd k (spec_Run k ((y2.1.1.1, y2.1.1.2.1, y2.1.1.2.2.1, y2.1.1.2.2.2.1, ()), y2.1.2.1, y2.1.2.2.1, ())) fun y4 =>
  bd k (laws_sameOut k ((y3.1.1.1, y3.1.1.2.1, y3.1.1.2.2.1, y3.1.1.2.2.2.1, y3.1.1.2.2.2.2.1, y3.1.1.2.2.2.2.2.1, y3.1.1.2.2.2.2.2.2.1, ()), y4.1.1, ())) fun y5 =>
  br k (!y5.1.1)
  (bd k (spec_Run k ((y2.1.1.1, y2.1.1.2.1, y2.1.1.2.2.1, y2.1.1.2.2.2.1, ()), y2.1.2.1, y2.1.2.2.1, ())) fun y6 =>
  bd k (laws_sameOut k ((y3.1.1.1, y3.1.1.2.1, y3.1.1.2.2.1, y3.1.1.2.2.2.1, y3.1.1.2.2.2.2.1, y3.1.1.2.2.2.2.2.1, y3.1.1.2.2.2.2.2.2.1, ()), y6.1.1, ())) fun y7 =>
  some ((y7.1.1, ()), ((), ())))
  (br k (y3.1.1.1 == 1)
  (bd k (spec_Run k ((y2.1.1.1, y2.1.1.2.1, y2.1.1.2.2.1, y2.1.1.2.2.2.1, ()), y2.1.2.1, y2.1.2.2.1, ())) fun y8 =>
  bd k (laws_sameOut k ((y3.1.1.1, y3.1.1.2.1, y3.1.1.2.2.1, y3.1.1.2.2.2.1, y3.1.1.2.2.2.2.1, y3.1.1.2.2.2.2.2.1, y3.1.1.2.2.2.2.2.2.1, ()), y8.1.1, ())) fun y9 =>
  some ((y9.1.1, ()), ((), ())))
  ((bd k (impl_StoreOk k ((y2.1.1.1, y2.1.1.2.1, y2.1.1.2.2.1, ()), (y3.1.1.2.2.1, y3.1.1.2.2.2.1, y3.1.1.2.2.2.2.1, ()), ())) fun y10 =>
  br k (!y10.1.1)
  (some (true, ()))
  (br k (decide (y3.1.1.2.2.2.2.2.1 > y2.1.2.2.1))
  (some (true, ()))
  (br k (!((y3.1.1.2.1 == (y2.1.1.2.2.2.1.length : Int)) == (y3.1.1.1 == 0)))
  (some (true, ()))
  (br k (decide (y3.1.1.2.1 < 0))
  (some (true, ()))
  (some (decide (y3.1.1.2.1 > (y2.1.1.2.2.2.1.length : Int)), ()))))) : Option (Bool × Unit)).bind fun j11 =>
  br k (j11.1)
  (some ((false, ()), ((), ())))
  (br k (!(y3.1.1.2.1 == (y2.1.1.2.2.2.1.length : Int)))
  (br k (decide (0 ≤ y3.1.1.2.1 ∧ y3.1.1.2.1 < (y2.1.1.2.2.2.1.length : Int)))
  (bd k (y2.1.1.2.2.2.1[y3.1.1.2.1.toNat]?) fun x12 =>
  (br k (y3.1.1.1 != 7)
  (br k (y3.1.1.1 != 3)
  (br k (y3.1.1.1 != 2)
  (some (true, ()))
  (some (y3.1.1.2.2.2.2.2.1 == y2.1.2.2.1, ())))
  (br k (x12.1 == 12)
  (br k (y3.1.1.1 != 2)
  (some (true, ()))
  (some (y3.1.1.2.2.2.2.2.1 == y2.1.2.2.1, ())))
  (some (false, ()))))
  (br k (x12.1 == 11)
  (br k (y3.1.1.1 != 3)
  (br k (y3.1.1.1 != 2)
  (some (true, ()))
  (some (y3.1.1.2.2.2.2.2.1 == y2.1.2.2.1, ())))
  (br k (x12.1 == 12)
  (br k (y3.1.1.1 != 2)
  (some (true, ()))
  (some (y3.1.1.2.2.2.2.2.1 == y2.1.2.2.1, ())))
  (some (false, ()))))
  (some (false, ()))) : Option (Bool × Unit)).bind fun j13 =>
  some ((j13.1, ()), ((), ())))
  none)
  ((br k (y3.1.1.1 != 7)
  (br k (y3.1.1.1 != 3)
  (br k (y3.1.1.1 != 2)
  (some (true, ()))
  (some (y3.1.1.2.2.2.2.2.1 == y2.1.2.2.1, ())))
  (br k ((0 : Int) == 12)
  (br k (y3.1.1.1 != 2)
  (some (true, ()))
  (some (y3.1.1.2.2.2.2.2.1 == y2.1.2.2.1, ())))
  (some (false, ()))))
  (br k ((0 : Int) == 11)
  (br k (y3.1.1.1 != 3)
  (br k (y3.1.1.1 != 2)
  (some (true, ()))
  (some (y3.1.1.2.2.2.2.2.1 == y2.1.2.2.1, ())))
  (br k ((0 : Int) == 12)
  (br k (y3.1.1.1 != 2)
  (some (true, ()))
  (some (y3.1.1.2.2.2.2.2.1 == y2.1.2.2.1, ())))
  (some (false, ()))))
  (some (false, ()))) : Option (Bool × Unit)).bind fun j14 =>
  some ((j14.1, ()), ((), ())))))))
noncomputable def laws_FnRunRight.sg (k : Nat) : Sig := ⟨laws_FnRunRight.A, laws_FnRunRight.R, laws_FnRunRight k⟩
noncomputable def laws_FnRunRight.C (k : Nat) : Ctx := ⟨Tryz.prog, [(6, [laws_big.sg k]), (7, [spec_DrawRun.sg k]), (8, [impl_Run.sg k]), (9, [spec_Run.sg k]), (10, [laws_sameOut.sg k]), (11, [impl_StoreOk.sg k])], k, [], []⟩
theorem laws_FnRunRight.ev (k : Nat) (x : laws_FnRunRight.A.T) : evFunc (laws_FnRunRight.C k) laws_FnRunRight.ann Tryz.f4 laws_FnRunRight.A laws_FnRunRight.R x = laws_FnRunRight k x := by kernel_rfl
theorem laws_FnRunRight.ok {L : List (Nat × Obj)} (hSp : Lb.NeedSp L) (k : Nat) : SigHolds Tryz.prog L 4 (laws_FnRunRight.sg k) :=
  sig_of_ev (C := laws_FnRunRight.C k) (holds_cons (allok_cons (laws_big.ok k) allok_nil) (holds_cons (allok_cons (spec_DrawRun.ok k) allok_nil) (holds_cons (allok_cons (impl_Run.ok hSp k) allok_nil) (holds_cons (allok_cons (spec_Run.ok k) allok_nil) (holds_cons (allok_cons (laws_sameOut.ok k) allok_nil) (holds_cons (allok_cons (impl_StoreOk.ok hSp k) allok_nil) holds_nil)))))) (by kernel_rfl) Tryz.func4 (by kernel_rfl) _ _ _ (fun x y h => (laws_FnRunRight.ev k x).trans h) (by kernel_rfl)
end Go.Pev.F
