/-
  Printed by gen.py: what functions of the program compute, and that they do.
-/
import Derived.Test.YtcpeneclncpgaaaGreatDoorK07
set_option linter.unusedSimpArgs false
set_option linter.unusedVariables false
open Go.Proofs Go.Pev
namespace Go.Pev.F
set_option maxRecDepth 100000
set_option linter.unusedVariables false
def impl_size_int64.A : Sh := (.cons QS32 .nil)
def impl_size_int64.R : Sh := QS12
def impl_size_int64.ann : Ann := { loops := [], joins := [], keys := [] }
noncomputable def impl_size_int64 (k : Nat) : ((List Int) × Unit) → Option QT38 := fun x => match x with
 | (list, ()) =>
  some (((list.length : Int), ()), ((), ()))
noncomputable def impl_size_int64.sg (k : Nat) : Sig := ⟨impl_size_int64.A, impl_size_int64.R, impl_size_int64 k⟩
noncomputable def impl_size_int64.C (k : Nat) : Ctx := ⟨Tryz.prog, [], k, [], []⟩
theorem impl_size_int64.ev (k : Nat) (x : impl_size_int64.A.T) : evFunc (impl_size_int64.C k) impl_size_int64.ann Tryz.f57 impl_size_int64.A impl_size_int64.R x = impl_size_int64 k x := by kernel_rfl
theorem impl_size_int64.ok {L : List (Nat × Obj)}  (k : Nat) : SigHolds Tryz.prog L 57 (impl_size_int64.sg k) :=
  sig_of_ev (C := impl_size_int64.C k) holds_nil (by kernel_rfl) Tryz.func57 (by kernel_rfl) _ _ _ (fun x y h => (impl_size_int64.ev k x).trans h) (by kernel_rfl)
def impl_side.A : Sh := QS19
def impl_side.R : Sh := QS12
def impl_side.ann : Ann := { loops := [], joins := [], keys := [] }
noncomputable def impl_side (k : Nat) : (Bool × Unit) → Option QT38 := fun x => match x with
 | (isBelow, ()) =>
  br k (isBelow)
  (some (((-1), ()), ((), ())))
  (some ((1, ()), ((), ())))
noncomputable def impl_side.sg (k : Nat) : Sig := ⟨impl_side.A, impl_side.R, impl_side k⟩
noncomputable def impl_side.C (k : Nat) : Ctx := ⟨Tryz.prog, [], k, [], []⟩
theorem impl_side.ev (k : Nat) (x : impl_side.A.T) : evFunc (impl_side.C k) impl_side.ann Tryz.f138 impl_side.A impl_side.R x = impl_side k x := by kernel_rfl
theorem impl_side.ok {L : List (Nat × Obj)}  (k : Nat) : SigHolds Tryz.prog L 138 (impl_side.sg k) :=
  sig_of_ev (C := impl_side.C k) holds_nil (by kernel_rfl) Tryz.func138 (by kernel_rfl) _ _ _ (fun x y h => (impl_side.ev k x).trans h) (by kernel_rfl)
def impl_NumSub.A : Sh := QS5
def impl_NumSub.R : Sh := QS5
def impl_NumSub.ann : Ann := { loops := [], joins := [(1, [(23, .bool)])], keys := [] }
noncomputable def impl_NumSub (k : Nat) : (Int × Int × Unit) → Option QT28 := fun x => match x with
 | (a, b_, ()) =>
  (br k (decide (b_ < 0))
  (br k (decide (a > (IntKind.wrap .i64 (9223372036854775807 + b_))))
  (some (true, ()))
  (br k (decide (b_ > 0))
  (some (decide (a < (IntKind.wrap .i64 ((-9223372036854775808) + b_))), ()))
  (some (false, ()))))
  (br k (decide (b_ > 0))
  (some (decide (a < (IntKind.wrap .i64 ((-9223372036854775808) + b_))), ()))
  (some (false, ()))) : Option (Bool × Unit)).bind fun j1 =>
  br k (j1.1)
  (bd k (impl_side k (decide (b_ > 0), ())) fun y2 =>
  some ((0, y2.1.1, ()), ((), (), ())))
  (some ((IntKind.wrap .i64 (a - b_), 0, ()), ((), (), ())))
noncomputable def impl_NumSub.sg (k : Nat) : Sig := ⟨impl_NumSub.A, impl_NumSub.R, impl_NumSub k⟩
noncomputable def impl_NumSub.C (k : Nat) : Ctx := ⟨Tryz.prog, [(138, [impl_side.sg k])], k, [], []⟩
theorem impl_NumSub.ev (k : Nat) (x : impl_NumSub.A.T) : evFunc (impl_NumSub.C k) impl_NumSub.ann Tryz.f122 impl_NumSub.A impl_NumSub.R x = impl_NumSub k x := by kernel_rfl
theorem impl_NumSub.ok {L : List (Nat × Obj)}  (k : Nat) : SigHolds Tryz.prog L 122 (impl_NumSub.sg k) :=
  sig_of_ev (C := impl_NumSub.C k) (holds_cons (allok_cons (impl_side.ok k) allok_nil) holds_nil) (by kernel_rfl) Tryz.func122 (by kernel_rfl) _ _ _ (fun x y h => (impl_NumSub.ev k x).trans h) (by kernel_rfl)
def impl_fitting.A : Sh := QS5
def impl_fitting.R : Sh := QS5
def impl_fitting.ann : Ann := { loops := [], joins := [], keys := [] }
noncomputable def impl_fitting (k : Nat) : (Int × Int × Unit) → Option QT28 := fun x => match x with
 | (n, where_, ()) =>
  br k (where_ != 0)
  (some ((0, 6, ()), ((), (), ())))
  (some ((n, 0, ()), ((), (), ())))
noncomputable def impl_fitting.sg (k : Nat) : Sig := ⟨impl_fitting.A, impl_fitting.R, impl_fitting k⟩
noncomputable def impl_fitting.C (k : Nat) : Ctx := ⟨Tryz.prog, [], k, [], []⟩
theorem impl_fitting.ev (k : Nat) (x : impl_fitting.A.T) : evFunc (impl_fitting.C k) impl_fitting.ann Tryz.f121 impl_fitting.A impl_fitting.R x = impl_fitting k x := by kernel_rfl
theorem impl_fitting.ok {L : List (Nat × Obj)}  (k : Nat) : SigHolds Tryz.prog L 121 (impl_fitting.sg k) :=
  sig_of_ev (C := impl_fitting.C k) holds_nil (by kernel_rfl) Tryz.func121 (by kernel_rfl) _ _ _ (fun x y h => (impl_fitting.ev k x).trans h) (by kernel_rfl)
def impl_Store_of.A : Sh := (.cons QS20 (.cons (.pur QK1) QS12))
def impl_Store_of.R : Sh := QS5
def impl_Store_of.ann : Ann := { loops := [], joins := [], keys := [] }
noncomputable def impl_Store_of (k : Nat) : (QT7 × (Int × Int × Unit) × Int × Unit) → Option ((Int × Int × Unit) × QT35) := fun x => match x with
 | (s_, t, a, ()) =>
  br k (t.1 == 6)
  (br k (decide (0 ≤ t.2.1))
  (bd k (s_.2.2.1[t.2.1.toNat]?) fun x1 =>
  bd k (impl_size_int64 k (x1, ())) fun y2 =>
  bd k (impl_within k (a, 0, IntKind.wrap .i64 (y2.1.1 - 1), ())) fun y3 =>
  br k (!y3.1.1)
  (some ((0, 5, ()), ((), (), (), ())))
  (br k (decide (0 ≤ a))
  (bd k (x1[a.toNat]?) fun x4 =>
  some ((x4, 0, ()), ((), (), (), ())))
  none))
  none)
  (br k (t.1 == 7)
  (bd k (impl_NumSub k (0, a, ())) fun y5 =>
  bd k (impl_fitting k (y5.1.1, y5.1.2.1, ())) fun y6 =>
  some ((y6.1.1, y6.1.2.1, ()), ((), (), (), ())))
  (some ((IntKind.wrap .i64 (1 - a), 0, ()), ((), (), (), ()))))
noncomputable def impl_Store_of.sg (k : Nat) : Sig := ⟨impl_Store_of.A, impl_Store_of.R, impl_Store_of k⟩
noncomputable def impl_Store_of.C (k : Nat) : Ctx := ⟨Tryz.prog, [(57, [impl_size_int64.sg k]), (39, [impl_within.sg k]), (122, [impl_NumSub.sg k]), (121, [impl_fitting.sg k])], k, [], []⟩
theorem impl_Store_of.ev (k : Nat) (x : impl_Store_of.A.T) : evFunc (impl_Store_of.C k) impl_Store_of.ann Tryz.f96 impl_Store_of.A impl_Store_of.R x = impl_Store_of k x := by kernel_rfl
theorem impl_Store_of.ok {L : List (Nat × Obj)}  (k : Nat) : SigHolds Tryz.prog L 96 (impl_Store_of.sg k) :=
  sig_of_ev (C := impl_Store_of.C k) (holds_cons (allok_cons (impl_size_int64.ok k) allok_nil) (holds_cons (allok_cons (impl_within.ok k) allok_nil) (holds_cons (allok_cons (impl_NumSub.ok k) allok_nil) (holds_cons (allok_cons (impl_fitting.ok k) allok_nil) holds_nil)))) (by kernel_rfl) Tryz.func96 (by kernel_rfl) _ _ _ (fun x y h => (impl_Store_of.ev k x).trans h) (by kernel_rfl)
def impl_NumAdd.A : Sh := QS5
def impl_NumAdd.R : Sh := QS5
def impl_NumAdd.ann : Ann := { loops := [], joins := [(1, [(23, .bool)])], keys := [] }
noncomputable def impl_NumAdd (k : Nat) : (Int × Int × Unit) → Option QT28 := fun x => match x with
 | (a, b_, ()) =>
  (br k (decide (b_ > 0))
  (br k (decide (a > (IntKind.wrap .i64 (9223372036854775807 - b_))))
  (some (true, ()))
  (br k (decide (b_ < 0))
  (some (decide (a < (IntKind.wrap .i64 ((-9223372036854775808) - b_))), ()))
  (some (false, ()))))
  (br k (decide (b_ < 0))
  (some (decide (a < (IntKind.wrap .i64 ((-9223372036854775808) - b_))), ()))
  (some (false, ()))) : Option (Bool × Unit)).bind fun j1 =>
  br k (j1.1)
  (bd k (impl_side k (decide (b_ < 0), ())) fun y2 =>
  some ((0, y2.1.1, ()), ((), (), ())))
  (some ((IntKind.wrap .i64 (a + b_), 0, ()), ((), (), ())))
noncomputable def impl_NumAdd.sg (k : Nat) : Sig := ⟨impl_NumAdd.A, impl_NumAdd.R, impl_NumAdd k⟩
noncomputable def impl_NumAdd.C (k : Nat) : Ctx := ⟨Tryz.prog, [(138, [impl_side.sg k])], k, [], []⟩
theorem impl_NumAdd.ev (k : Nat) (x : impl_NumAdd.A.T) : evFunc (impl_NumAdd.C k) impl_NumAdd.ann Tryz.f123 impl_NumAdd.A impl_NumAdd.R x = impl_NumAdd k x := by kernel_rfl
theorem impl_NumAdd.ok {L : List (Nat × Obj)}  (k : Nat) : SigHolds Tryz.prog L 123 (impl_NumAdd.sg k) :=
  sig_of_ev (C := impl_NumAdd.C k) (holds_cons (allok_cons (impl_side.ok k) allok_nil) holds_nil) (by kernel_rfl) Tryz.func123 (by kernel_rfl) _ _ _ (fun x y h => (impl_NumAdd.ev k x).trans h) (by kernel_rfl)
def impl_distance.A : Sh := QS12
def impl_distance.R : Sh := (.cons (.pur (.int .u64)) .nil)
def impl_distance.ann : Ann := { loops := [], joins := [], keys := [] }
noncomputable def impl_distance (k : Nat) : (Int × Unit) → Option QT38 := fun x => match x with
 | (a, ()) =>
  br k (decide (a < 0))
  (some ((IntKind.wrap .u64 (0 - (IntKind.wrap .u64 a)), ()), ((), ())))
  (some ((IntKind.wrap .u64 a, ()), ((), ())))
noncomputable def impl_distance.sg (k : Nat) : Sig := ⟨impl_distance.A, impl_distance.R, impl_distance k⟩
noncomputable def impl_distance.C (k : Nat) : Ctx := ⟨Tryz.prog, [], k, [], []⟩
theorem impl_distance.ev (k : Nat) (x : impl_distance.A.T) : evFunc (impl_distance.C k) impl_distance.ann Tryz.f140 impl_distance.A impl_distance.R x = impl_distance k x := by kernel_rfl
theorem impl_distance.ok {L : List (Nat × Obj)}  (k : Nat) : SigHolds Tryz.prog L 140 (impl_distance.sg k) :=
  sig_of_ev (C := impl_distance.C k) holds_nil (by kernel_rfl) Tryz.func140 (by kernel_rfl) _ _ _ (fun x y h => (impl_distance.ev k x).trans h) (by kernel_rfl)
def impl_NumMul.A : Sh := QS5
def impl_NumMul.R : Sh := QS5
def impl_NumMul.ann : Ann := { loops := [], joins := [(6, [(26, .bool)])], keys := [] }
noncomputable def impl_NumMul (k : Nat) : (Int × Int × Unit) → Option QT28 := fun x => match x with
 | (a, b_, ()) =>
  bd k (impl_distance k (a, ())) fun y1 =>
  bd k (impl_distance k (b_, ())) fun y2 =>
  bd k (Lb.Mul64 k (y1.1.1, y2.1.1, ())) fun y3 =>
  br k (!((decide (a < 0)) == (decide (b_ < 0))))
  ((br k (decide (y3.1.1 > 0))
  (some (true, ()))
  (some (decide (y3.1.2.1 > (IntKind.wrap .u64 ((9223372036854775807 : Int) + 1))), ())) : Option (Bool × Unit)).bind fun j4 =>
  br k (j4.1)
  (bd k (impl_side k (!((decide (a < 0)) == (decide (b_ < 0))), ())) fun y5 =>
  some ((0, y5.1.1, ()), ((), (), ())))
  (br k (!((decide (a < 0)) == (decide (b_ < 0))))
  (some ((IntKind.wrap .i64 (IntKind.wrap .u64 (0 - y3.1.2.1)), 0, ()), ((), (), ())))
  (some ((IntKind.wrap .i64 y3.1.2.1, 0, ()), ((), (), ())))))
  ((br k (decide (y3.1.1 > 0))
  (some (true, ()))
  (some (decide (y3.1.2.1 > 9223372036854775807), ())) : Option (Bool × Unit)).bind fun j6 =>
  br k (j6.1)
  (bd k (impl_side k (!((decide (a < 0)) == (decide (b_ < 0))), ())) fun y7 =>
  some ((0, y7.1.1, ()), ((), (), ())))
  (br k (!((decide (a < 0)) == (decide (b_ < 0))))
  (some ((IntKind.wrap .i64 (IntKind.wrap .u64 (0 - y3.1.2.1)), 0, ()), ((), (), ())))
  (some ((IntKind.wrap .i64 y3.1.2.1, 0, ()), ((), (), ())))))
noncomputable def impl_NumMul.sg (k : Nat) : Sig := ⟨impl_NumMul.A, impl_NumMul.R, impl_NumMul k⟩
noncomputable def impl_NumMul.C (k : Nat) : Ctx := ⟨Tryz.prog, [(140, [impl_distance.sg k]), (139, [Lb.Mul64.sg k]), (138, [impl_side.sg k])], k, [], []⟩
theorem impl_NumMul.ev (k : Nat) (x : impl_NumMul.A.T) : evFunc (impl_NumMul.C k) impl_NumMul.ann Tryz.f124 impl_NumMul.A impl_NumMul.R x = impl_NumMul k x := by kernel_rfl
theorem impl_NumMul.ok {L : List (Nat × Obj)}  (k : Nat) : SigHolds Tryz.prog L 124 (impl_NumMul.sg k) :=
  sig_of_ev (C := impl_NumMul.C k) (holds_cons (allok_cons (impl_distance.ok k) allok_nil) (holds_cons (allok_cons (Lb.Mul64.ok k) allok_nil) (holds_cons (allok_cons (impl_side.ok k) allok_nil) holds_nil))) (by kernel_rfl) Tryz.func124 (by kernel_rfl) _ _ _ (fun x y h => (impl_NumMul.ev k x).trans h) (by kernel_rfl)
def impl_NumRem.A : Sh := QS5
def impl_NumRem.R : Sh := QS12
def impl_NumRem.ann : Ann := { loops := [], joins := [(1, [(10, .bool)])], keys := [] }
noncomputable def impl_NumRem (k : Nat) : (Int × Int × Unit) → Option QT26 := fun x => match x with
 | (a, b_, ()) =>
  (br k (b_ == 0)
  (some (true, ()))
  (some (b_ == (-1), ())) : Option (Bool × Unit)).bind fun j1 =>
  br k (j1.1)
  (some ((0, ()), ((), (), ())))
  (br k (!decide (b_ = 0))
  (some ((a.tmod b_, ()), ((), (), ())))
  none)
noncomputable def impl_NumRem.sg (k : Nat) : Sig := ⟨impl_NumRem.A, impl_NumRem.R, impl_NumRem k⟩
noncomputable def impl_NumRem.C (k : Nat) : Ctx := ⟨Tryz.prog, [], k, [], []⟩
theorem impl_NumRem.ev (k : Nat) (x : impl_NumRem.A.T) : evFunc (impl_NumRem.C k) impl_NumRem.ann Tryz.f125 impl_NumRem.A impl_NumRem.R x = impl_NumRem k x := by kernel_rfl
theorem impl_NumRem.ok {L : List (Nat × Obj)}  (k : Nat) : SigHolds Tryz.prog L 125 (impl_NumRem.sg k) :=
  sig_of_ev (C := impl_NumRem.C k) holds_nil (by kernel_rfl) Tryz.func125 (by kernel_rfl) _ _ _ (fun x y h => (impl_NumRem.ev k x).trans h) (by kernel_rfl)
def impl_NumQuo.A : Sh := QS5
def impl_NumQuo.R : Sh := QS5
def impl_NumQuo.ann : Ann := { loops := [], joins := [(3, [(9, .bool)])], keys := [] }
noncomputable def impl_NumQuo (k : Nat) : (Int × Int × Unit) → Option QT28 := fun x => match x with
 | (a, b_, ()) =>
  br k (b_ == 0)
  (some ((0, 0, ()), ((), (), ())))
  ((br k (a == (-9223372036854775808))
  (some (b_ == (-1), ()))
  (some (false, ())) : Option (Bool × Unit)).bind fun j1 =>
  br k (j1.1)
  (some ((0, 1, ()), ((), (), ())))
  (br k (!decide (b_ = 0))
  (some ((IntKind.wrap .i64 (a.tdiv b_), 0, ()), ((), (), ())))
  none))
noncomputable def impl_NumQuo.sg (k : Nat) : Sig := ⟨impl_NumQuo.A, impl_NumQuo.R, impl_NumQuo k⟩
noncomputable def impl_NumQuo.C (k : Nat) : Ctx := ⟨Tryz.prog, [], k, [], []⟩
theorem impl_NumQuo.ev (k : Nat) (x : impl_NumQuo.A.T) : evFunc (impl_NumQuo.C k) impl_NumQuo.ann Tryz.f126 impl_NumQuo.A impl_NumQuo.R x = impl_NumQuo k x := by kernel_rfl
theorem impl_NumQuo.ok {L : List (Nat × Obj)}  (k : Nat) : SigHolds Tryz.prog L 126 (impl_NumQuo.sg k) :=
  sig_of_ev (C := impl_NumQuo.C k) holds_nil (by kernel_rfl) Tryz.func126 (by kernel_rfl) _ _ _ (fun x y h => (impl_NumQuo.ev k x).trans h) (by kernel_rfl)
def impl_compares.A : Sh := QS49
def impl_compares.R : Sh := QS19
def impl_compares.ann : Ann := { loops := [], joins := [], keys := [] }
noncomputable def impl_compares (k : Nat) : QT56 → Option ((Bool × Unit) × QT35) := fun x => match x with
 | (op, a, b_, ()) =>
  br k (op == 13)
  (some ((decide (a < b_), ()), ((), (), (), ())))
  (br k (op == 14)
  (some ((decide (a ≤ b_), ()), ((), (), (), ())))
  (br k (op == 15)
  (some ((a == b_, ()), ((), (), (), ())))
  (br k (op == 16)
  (some ((a != b_, ()), ((), (), (), ())))
  (br k (op == 17)
  (some ((decide (a > b_), ()), ((), (), (), ())))
  (some ((decide (a ≥ b_), ()), ((), (), (), ())))))))
noncomputable def impl_compares.sg (k : Nat) : Sig := ⟨impl_compares.A, impl_compares.R, impl_compares k⟩
noncomputable def impl_compares.C (k : Nat) : Ctx := ⟨Tryz.prog, [], k, [], []⟩
theorem impl_compares.ev (k : Nat) (x : impl_compares.A.T) : evFunc (impl_compares.C k) impl_compares.ann Tryz.f127 impl_compares.A impl_compares.R x = impl_compares k x := by kernel_rfl
theorem impl_compares.ok {L : List (Nat × Obj)}  (k : Nat) : SigHolds Tryz.prog L 127 (impl_compares.sg k) :=
  sig_of_ev (C := impl_compares.C k) holds_nil (by kernel_rfl) Tryz.func127 (by kernel_rfl) _ _ _ (fun x y h => (impl_compares.ev k x).trans h) (by kernel_rfl)
def impl_apply.A : Sh := QS49
def impl_apply.R : Sh := QS5
def impl_apply.ann : Ann := { loops := [], joins := [], keys := [] }
noncomputable def impl_apply (k : Nat) : QT56 → Option ((Int × Int × Unit) × QT35) := fun x => match x with
 | (op, a, b_, ()) =>
  br k (op == 8)
  (bd k (impl_NumAdd k (a, b_, ())) fun y1 =>
  bd k (impl_fitting k (y1.1.1, y1.1.2.1, ())) fun y2 =>
  some ((y2.1.1, y2.1.2.1, ()), ((), (), (), ())))
  (br k (op == 9)
  (bd k (impl_NumSub k (a, b_, ())) fun y3 =>
  bd k (impl_fitting k (y3.1.1, y3.1.2.1, ())) fun y4 =>
  some ((y4.1.1, y4.1.2.1, ()), ((), (), (), ())))
  (br k (op == 10)
  (bd k (impl_NumMul k (a, b_, ())) fun y5 =>
  bd k (impl_fitting k (y5.1.1, y5.1.2.1, ())) fun y6 =>
  some ((y6.1.1, y6.1.2.1, ()), ((), (), (), ())))
  (br k (op == 20)
  (some ((if b_ < a then b_ else a, 0, ()), ((), (), (), ())))
  (br k (op == 21)
  (some ((if b_ > a then b_ else a, 0, ()), ((), (), (), ())))
  (br k (op == 11)
  (br k (op == 11)
  (br k (b_ == 0)
  (some ((0, 4, ()), ((), (), (), ())))
  (br k (op == 12)
  (bd k (impl_NumRem k (a, b_, ())) fun y7 =>
  some ((y7.1.1, 0, ()), ((), (), (), ())))
  (bd k (impl_NumQuo k (a, b_, ())) fun y8 =>
  bd k (impl_fitting k (y8.1.1, y8.1.2.1, ())) fun y9 =>
  some ((y9.1.1, y9.1.2.1, ()), ((), (), (), ())))))
  (bd k (impl_compares k (op, a, b_, ())) fun y10 =>
  bd k (impl_truth k (y10.1.1, ())) fun y11 =>
  some ((y11.1.1, 0, ()), ((), (), (), ()))))
  (br k (op == 12)
  (br k (b_ == 0)
  (some ((0, 4, ()), ((), (), (), ())))
  (br k (op == 12)
  (bd k (impl_NumRem k (a, b_, ())) fun y12 =>
  some ((y12.1.1, 0, ()), ((), (), (), ())))
  (bd k (impl_NumQuo k (a, b_, ())) fun y13 =>
  bd k (impl_fitting k (y13.1.1, y13.1.2.1, ())) fun y14 =>
  some ((y14.1.1, y14.1.2.1, ()), ((), (), (), ())))))
  (bd k (impl_compares k (op, a, b_, ())) fun y15 =>
  bd k (impl_truth k (y15.1.1, ())) fun y16 =>
  some ((y16.1.1, 0, ()), ((), (), (), ())))))))))
noncomputable def impl_apply.sg (k : Nat) : Sig := ⟨impl_apply.A, impl_apply.R, impl_apply k⟩
noncomputable def impl_apply.C (k : Nat) : Ctx := ⟨Tryz.prog, [(123, [impl_NumAdd.sg k]), (121, [impl_fitting.sg k]), (122, [impl_NumSub.sg k]), (124, [impl_NumMul.sg k]), (125, [impl_NumRem.sg k]), (126, [impl_NumQuo.sg k]), (127, [impl_compares.sg k]), (120, [impl_truth.sg k])], k, [], []⟩
theorem impl_apply.ev (k : Nat) (x : impl_apply.A.T) : evFunc (impl_apply.C k) impl_apply.ann Tryz.f97 impl_apply.A impl_apply.R x = impl_apply k x := by kernel_rfl
theorem impl_apply.ok {L : List (Nat × Obj)}  (k : Nat) : SigHolds Tryz.prog L 97 (impl_apply.sg k) :=
  sig_of_ev (C := impl_apply.C k) (holds_cons (allok_cons (impl_NumAdd.ok k) allok_nil) (holds_cons (allok_cons (impl_fitting.ok k) allok_nil) (holds_cons (allok_cons (impl_NumSub.ok k) allok_nil) (holds_cons (allok_cons (impl_NumMul.ok k) allok_nil) (holds_cons (allok_cons (impl_NumRem.ok k) allok_nil) (holds_cons (allok_cons (impl_NumQuo.ok k) allok_nil) (holds_cons (allok_cons (impl_compares.ok k) allok_nil) (holds_cons (allok_cons (impl_truth.ok k) allok_nil) holds_nil)))))))) (by kernel_rfl) Tryz.func97 (by kernel_rfl) _ _ _ (fun x y h => (impl_apply.ev k x).trans h) (by kernel_rfl)
def impl_Store_eval.A : Sh := (.cons QS20 QS50)
def impl_Store_eval.R : Sh := QS5
def impl_Store_eval.ann : Ann := { loops := [(0, [(2, QS15), (6, (.own (.int .i64))), (13, (.pur (.sl false QK1))), (14, (.pur (.int .i64))), (15, (.pur (.int .i64)))])], joins := [], keys := [] }
noncomputable def impl_Store_eval.l0 (k : Nat)  (G0 : (QT7 × (List Int) × QT16 × Int × Int × Unit) → Option QT28) : (QT7 × (List Int) × QT16 × Int × Int × Unit) → Option QT28 := fun x => match x with
 | ((s__0, s__1, s__2, ()), pile, t13, t14, t15, ()) =>
  br k (decide (t15 < t14))
  (br k (decide (0 ≤ t15))
  (bd k (t13[t15.toNat]?) fun x1 =>
  bd k (impl_takes k (x1.1, ())) fun y2 =>
  br k ((y2.1.1.length : Int) == 0)
  (bd k (impl_Store_thing k ((s__0, s__1, s__2, ()), x1, ())) fun y3 =>
  br k ((0 : Int) != 0)
  (some ((0, 0, ()), ((), (), ())))
  (br k (decide (0 ≤ (IntKind.wrap .i64 ((pile.length : Int) - (y2.1.1.length : Int))) ∧ (IntKind.wrap .i64 ((pile.length : Int) - (y2.1.1.length : Int))) ≤ (pile.length : Int)))
  (br k (decide (((subL pile ((0 : Int).toNat) ((IntKind.wrap .i64 ((pile.length : Int) - (y2.1.1.length : Int))).toNat - (0 : Int).toNat)).length + ([y3.1.1] : List Int).length) * 8 ≤ maxBytes))
  (G0 ((s__0, s__1, s__2, ()), (subL pile ((0 : Int).toNat) ((IntKind.wrap .i64 ((pile.length : Int) - (y2.1.1.length : Int))).toNat - (0 : Int).toNat)) ++ ([y3.1.1] : List Int), t13, t14, IntKind.wrap .i64 (t15 + 1), ()))
  none)
  none))
  (br k ((y2.1.1.length : Int) == 1)
  (br k (decide (0 ≤ (IntKind.wrap .i64 ((pile.length : Int) - (y2.1.1.length : Int))) ∧ (IntKind.wrap .i64 ((pile.length : Int) - (y2.1.1.length : Int))) < (pile.length : Int)))
  (bd k (pile[(IntKind.wrap .i64 ((pile.length : Int) - (y2.1.1.length : Int))).toNat]?) fun x4 =>
  bd k (impl_Store_of k ((s__0, s__1, s__2, ()), x1, x4, ())) fun y5 =>
  br k (y5.1.2.1 != 0)
  (some ((0, y5.1.2.1, ()), ((), (), ())))
  (br k (decide (0 ≤ (IntKind.wrap .i64 ((pile.length : Int) - (y2.1.1.length : Int))) ∧ (IntKind.wrap .i64 ((pile.length : Int) - (y2.1.1.length : Int))) ≤ (pile.length : Int)))
  (br k (decide (((subL pile ((0 : Int).toNat) ((IntKind.wrap .i64 ((pile.length : Int) - (y2.1.1.length : Int))).toNat - (0 : Int).toNat)).length + ([y5.1.1] : List Int).length) * 8 ≤ maxBytes))
  (G0 ((s__0, s__1, s__2, ()), (subL pile ((0 : Int).toNat) ((IntKind.wrap .i64 ((pile.length : Int) - (y2.1.1.length : Int))).toNat - (0 : Int).toNat)) ++ ([y5.1.1] : List Int), t13, t14, IntKind.wrap .i64 (t15 + 1), ()))
  none)
  none))
  none)
  (br k (decide (0 ≤ (IntKind.wrap .i64 ((pile.length : Int) - (y2.1.1.length : Int))) ∧ (IntKind.wrap .i64 ((pile.length : Int) - (y2.1.1.length : Int))) < (pile.length : Int)))
  (bd k (pile[(IntKind.wrap .i64 ((pile.length : Int) - (y2.1.1.length : Int))).toNat]?) fun x6 =>
  br k (decide (0 ≤ (IntKind.wrap .i64 ((IntKind.wrap .i64 ((pile.length : Int) - (y2.1.1.length : Int))) + 1)) ∧ (IntKind.wrap .i64 ((IntKind.wrap .i64 ((pile.length : Int) - (y2.1.1.length : Int))) + 1)) < (pile.length : Int)))
  (bd k (pile[(IntKind.wrap .i64 ((IntKind.wrap .i64 ((pile.length : Int) - (y2.1.1.length : Int))) + 1)).toNat]?) fun x7 =>
  bd k (impl_apply k (x1.1, x6, x7, ())) fun y8 =>
  br k (y8.1.2.1 != 0)
  (some ((0, y8.1.2.1, ()), ((), (), ())))
  (br k (decide (0 ≤ (IntKind.wrap .i64 ((pile.length : Int) - (y2.1.1.length : Int))) ∧ (IntKind.wrap .i64 ((pile.length : Int) - (y2.1.1.length : Int))) ≤ (pile.length : Int)))
  (br k (decide (((subL pile ((0 : Int).toNat) ((IntKind.wrap .i64 ((pile.length : Int) - (y2.1.1.length : Int))).toNat - (0 : Int).toNat)).length + ([y8.1.1] : List Int).length) * 8 ≤ maxBytes))
  (G0 ((s__0, s__1, s__2, ()), (subL pile ((0 : Int).toNat) ((IntKind.wrap .i64 ((pile.length : Int) - (y2.1.1.length : Int))).toNat - (0 : Int).toNat)) ++ ([y8.1.1] : List Int), t13, t14, IntKind.wrap .i64 (t15 + 1), ()))
  none)
  none))
  none)
  none)))
  none)
  (br k (decide (0 ≤ (0 : Int) ∧ (0 : Int) < (pile.length : Int)))
  (bd k (pile[(0 : Int).toNat]?) fun x9 =>
  some ((x9, 0, ()), ((), (), ())))
  none)
noncomputable def impl_Store_eval (k : Nat) : (QT7 × QT16 × Unit) → Option QT28 := fun x => match x with
 | (s_, l_, ()) =>
  iter (impl_Store_eval.l0 k) k ((s_.1, s_.2.1, s_.2.2.1, ()), [], l_, (l_.length : Int), 0, ())
noncomputable def impl_Store_eval.sg (k : Nat) : Sig := ⟨impl_Store_eval.A, impl_Store_eval.R, impl_Store_eval k⟩
noncomputable def impl_Store_eval.C (k : Nat) : Ctx := ⟨Tryz.prog, [(94, [impl_takes.sg k]), (95, [impl_Store_thing.sg k]), (96, [impl_Store_of.sg k]), (97, [impl_apply.sg k])], k, [], []⟩
theorem impl_Store_eval.ev (k : Nat) (x : impl_Store_eval.A.T) : evFunc (impl_Store_eval.C k) impl_Store_eval.ann Tryz.f64 impl_Store_eval.A impl_Store_eval.R x = impl_Store_eval k x := by kernel_rfl
theorem impl_Store_eval.ok {L : List (Nat × Obj)}  (k : Nat) : SigHolds Tryz.prog L 64 (impl_Store_eval.sg k) :=
  sig_of_ev (C := impl_Store_eval.C k) (holds_cons (allok_cons (impl_takes.ok k) allok_nil) (holds_cons (allok_cons (impl_Store_thing.ok k) allok_nil) (holds_cons (allok_cons (impl_Store_of.ok k) allok_nil) (holds_cons (allok_cons (impl_apply.ok k) allok_nil) holds_nil)))) (by kernel_rfl) Tryz.func64 (by kernel_rfl) _ _ _ (fun x y h => (impl_Store_eval.ev k x).trans h) (by kernel_rfl)
def impl_entryOk.A : Sh := (.cons (.pur QK1) .nil)
def impl_entryOk.R : Sh := QS19
def impl_entryOk.ann : Ann := { loops := [], joins := [(1, [(2, .bool)])], keys := [] }
noncomputable def impl_entryOk (k : Nat) : ((Int × Int × Unit) × Unit) → Option QT21 := fun x => match x with
 | (e_, ()) =>
  (bd k (impl_within k (e_.1, 0, 29, ())) fun y1 =>
  br k (y1.1.1)
  (bd k (impl_within k (e_.2.1, 0, 4, ())) fun y2 =>
  some (y2.1.1, ()))
  (some (false, ())) : Option (Bool × Unit)).bind fun j3 =>
  some ((j3.1, ()), ((), ()))
noncomputable def impl_entryOk.sg (k : Nat) : Sig := ⟨impl_entryOk.A, impl_entryOk.R, impl_entryOk k⟩
noncomputable def impl_entryOk.C (k : Nat) : Ctx := ⟨Tryz.prog, [(39, [impl_within.sg k])], k, [], []⟩
theorem impl_entryOk.ev (k : Nat) (x : impl_entryOk.A.T) : evFunc (impl_entryOk.C k) impl_entryOk.ann Tryz.f142 impl_entryOk.A impl_entryOk.R x = impl_entryOk k x := by kernel_rfl
theorem impl_entryOk.ok {L : List (Nat × Obj)}  (k : Nat) : SigHolds Tryz.prog L 142 (impl_entryOk.sg k) :=
  sig_of_ev (C := impl_entryOk.C k) (holds_cons (allok_cons (impl_within.ok k) allok_nil) holds_nil) (by kernel_rfl) Tryz.func142 (by kernel_rfl) _ _ _ (fun x y h => (impl_entryOk.ev k x).trans h) (by kernel_rfl)
def impl_areAll_impl_Entry_1.A : Sh := (.cons (.pur QK1) (.cons (.box (.cons (.fn (.func 142) 0 .nil) .nil)) .nil))
def impl_areAll_impl_Entry_1.R : Sh := QS19
def impl_areAll_impl_Entry_1.ann : Ann := { loops := [], joins := [], keys := [] }
noncomputable def impl_areAll_impl_Entry_1 (k : Nat) : ((Int × Int × Unit) × ((Unit) × Unit) × Unit) → Option ((Bool × Unit) × (Unit × ((Unit) × Unit) × Unit)) := fun x => match x with
 | (x_, ((()), ()), ()) =>
  bd k (impl_entryOk k (x_, ())) fun y1 =>
  some ((!y1.1.1, ()), ((), ((()), ()), ()))
noncomputable def impl_areAll_impl_Entry_1.sg (k : Nat) : Sig := ⟨impl_areAll_impl_Entry_1.A, impl_areAll_impl_Entry_1.R, impl_areAll_impl_Entry_1 k⟩
noncomputable def impl_areAll_impl_Entry_1.C (k : Nat) : Ctx := ⟨Tryz.prog, [(142, [impl_entryOk.sg k])], k, [], []⟩
theorem impl_areAll_impl_Entry_1.ev (k : Nat) (x : impl_areAll_impl_Entry_1.A.T) : evFunc (impl_areAll_impl_Entry_1.C k) impl_areAll_impl_Entry_1.ann Tryz.f146 impl_areAll_impl_Entry_1.A impl_areAll_impl_Entry_1.R x = impl_areAll_impl_Entry_1 k x := by kernel_rfl
theorem impl_areAll_impl_Entry_1.ok {L : List (Nat × Obj)}  (k : Nat) : SigHolds Tryz.prog L 146 (impl_areAll_impl_Entry_1.sg k) :=
  sig_of_ev (C := impl_areAll_impl_Entry_1.C k) (holds_cons (allok_cons (impl_entryOk.ok k) allok_nil) holds_nil) (by kernel_rfl) Tryz.func146 (by kernel_rfl) _ _ _ (fun x y h => (impl_areAll_impl_Entry_1.ev k x).trans h) (by kernel_rfl)
def slices_IndexFunc_impl_Entry_impl_Entry.A : Sh := (.cons (.pur (.sl false QK1)) (.cons (.fn (.func 146) 0 (.cons (.box (.cons (.fn (.func 142) 0 .nil) .nil)) .nil)) .nil))
def slices_IndexFunc_impl_Entry_impl_Entry.R : Sh := QS12
def slices_IndexFunc_impl_Entry_impl_Entry.ann : Ann := { loops := [(0, [(0, (.pur (.sl false QK1))), (1, (.fn (.func 146) 0 (.cons (.box (.cons (.fn (.func 142) 0 .nil) .nil)) .nil))), (7, (.pur (.int .i64))), (8, (.pur (.int .i64)))])], joins := [], keys := [] }
noncomputable def slices_IndexFunc_impl_Entry_impl_Entry.l0 (k : Nat)  (G0 : (QT16 × QT36 × Int × Int × Unit) → Option QT43) : (QT16 × QT36 × Int × Int × Unit) → Option QT43 := fun x => match x with
 | (s_, (((()), ()), ()), t7, t8, ()) =>
  br k (decide (t8 < t7))
  (br k (decide (0 ≤ t8))
  (bd k (s_[t8.toNat]?) fun x1 =>
  bd k (impl_areAll_impl_Entry_1 k (x1, ((()), ()), ())) fun y2 =>
  br k (y2.1.1)
  (some ((t8, ()), ((), (((()), ()), ()), ())))
  (G0 (s_, (((()), ()), ()), t7, IntKind.wrap .i64 (t8 + 1), ())))
  none)
  (some (((-1), ()), ((), (((()), ()), ()), ())))
noncomputable def slices_IndexFunc_impl_Entry_impl_Entry (k : Nat) : (QT16 × QT36 × Unit) → Option QT43 := fun x => match x with
 | (s_, (((()), ()), ()), ()) =>
  iter (slices_IndexFunc_impl_Entry_impl_Entry.l0 k) k (s_, (((()), ()), ()), (s_.length : Int), 0, ())
noncomputable def slices_IndexFunc_impl_Entry_impl_Entry.sg (k : Nat) : Sig := ⟨slices_IndexFunc_impl_Entry_impl_Entry.A, slices_IndexFunc_impl_Entry_impl_Entry.R, slices_IndexFunc_impl_Entry_impl_Entry k⟩
noncomputable def slices_IndexFunc_impl_Entry_impl_Entry.C (k : Nat) : Ctx := ⟨Tryz.prog, [(146, [impl_areAll_impl_Entry_1.sg k])], k, [], []⟩
theorem slices_IndexFunc_impl_Entry_impl_Entry.ev (k : Nat) (x : slices_IndexFunc_impl_Entry_impl_Entry.A.T) : evFunc (slices_IndexFunc_impl_Entry_impl_Entry.C k) slices_IndexFunc_impl_Entry_impl_Entry.ann Tryz.f149 slices_IndexFunc_impl_Entry_impl_Entry.A slices_IndexFunc_impl_Entry_impl_Entry.R x = slices_IndexFunc_impl_Entry_impl_Entry k x := by kernel_rfl
theorem slices_IndexFunc_impl_Entry_impl_Entry.ok {L : List (Nat × Obj)}  (k : Nat) : SigHolds Tryz.prog L 149 (slices_IndexFunc_impl_Entry_impl_Entry.sg k) :=
  sig_of_ev (C := slices_IndexFunc_impl_Entry_impl_Entry.C k) (holds_cons (allok_cons (impl_areAll_impl_Entry_1.ok k) allok_nil) holds_nil) (by kernel_rfl) Tryz.func149 (by kernel_rfl) _ _ _ (fun x y h => (slices_IndexFunc_impl_Entry_impl_Entry.ev k x).trans h) (by kernel_rfl)
def slices_ContainsFunc_impl_Entry_impl_Entry.A : Sh := (.cons (.pur (.sl false QK1)) (.cons (.fn (.func 146) 0 (.cons (.box (.cons (.fn (.func 142) 0 .nil) .nil)) .nil)) .nil))
def slices_ContainsFunc_impl_Entry_impl_Entry.R : Sh := QS19
def slices_ContainsFunc_impl_Entry_impl_Entry.ann : Ann := { loops := [], joins := [], keys := [] }
noncomputable def slices_ContainsFunc_impl_Entry_impl_Entry (k : Nat) : (QT16 × QT36 × Unit) → Option ((Bool × Unit) × (Unit × QT36 × Unit)) := fun x => match x with
 | (s_, (((()), ()), ()), ()) =>
  bd k (slices_IndexFunc_impl_Entry_impl_Entry k (s_, (((()), ()), ()), ())) fun y1 =>
  some ((decide (y1.1.1 ≥ 0), ()), ((), (((()), ()), ()), ()))
noncomputable def slices_ContainsFunc_impl_Entry_impl_Entry.sg (k : Nat) : Sig := ⟨slices_ContainsFunc_impl_Entry_impl_Entry.A, slices_ContainsFunc_impl_Entry_impl_Entry.R, slices_ContainsFunc_impl_Entry_impl_Entry k⟩
noncomputable def slices_ContainsFunc_impl_Entry_impl_Entry.C (k : Nat) : Ctx := ⟨Tryz.prog, [(149, [slices_IndexFunc_impl_Entry_impl_Entry.sg k])], k, [], []⟩
theorem slices_ContainsFunc_impl_Entry_impl_Entry.ev (k : Nat) (x : slices_ContainsFunc_impl_Entry_impl_Entry.A.T) : evFunc (slices_ContainsFunc_impl_Entry_impl_Entry.C k) slices_ContainsFunc_impl_Entry_impl_Entry.ann Tryz.f145 slices_ContainsFunc_impl_Entry_impl_Entry.A slices_ContainsFunc_impl_Entry_impl_Entry.R x = slices_ContainsFunc_impl_Entry_impl_Entry k x := by kernel_rfl
theorem slices_ContainsFunc_impl_Entry_impl_Entry.ok {L : List (Nat × Obj)}  (k : Nat) : SigHolds Tryz.prog L 145 (slices_ContainsFunc_impl_Entry_impl_Entry.sg k) :=
  sig_of_ev (C := slices_ContainsFunc_impl_Entry_impl_Entry.C k) (holds_cons (allok_cons (slices_IndexFunc_impl_Entry_impl_Entry.ok k) allok_nil) holds_nil) (by kernel_rfl) Tryz.func145 (by kernel_rfl) _ _ _ (fun x y h => (slices_ContainsFunc_impl_Entry_impl_Entry.ev k x).trans h) (by kernel_rfl)
def impl_areAll_impl_Entry.A : Sh := (.cons (.pur (.sl false QK1)) (.cons (.fn (.func 142) 0 .nil) .nil))
def impl_areAll_impl_Entry.R : Sh := QS19
def impl_areAll_impl_Entry.ann : Ann := { loops := [], joins := [], keys := [] }
noncomputable def impl_areAll_impl_Entry (k : Nat) : (QT16 × (Unit) × Unit) → Option ((Bool × Unit) × (Unit × (Unit) × Unit)) := fun x => match x with
 | (list, (()), ()) =>
  bd k (slices_ContainsFunc_impl_Entry_impl_Entry k (list, (((()), ()), ()), ())) fun y1 =>
  some ((!y1.1.1, ()), ((), (()), ()))
noncomputable def impl_areAll_impl_Entry.sg (k : Nat) : Sig := ⟨impl_areAll_impl_Entry.A, impl_areAll_impl_Entry.R, impl_areAll_impl_Entry k⟩
noncomputable def impl_areAll_impl_Entry.C (k : Nat) : Ctx := ⟨Tryz.prog, [(145, [slices_ContainsFunc_impl_Entry_impl_Entry.sg k])], k, [], []⟩
theorem impl_areAll_impl_Entry.ev (k : Nat) (x : impl_areAll_impl_Entry.A.T) : evFunc (impl_areAll_impl_Entry.C k) impl_areAll_impl_Entry.ann Tryz.f141 impl_areAll_impl_Entry.A impl_areAll_impl_Entry.R x = impl_areAll_impl_Entry k x := by kernel_rfl
theorem impl_areAll_impl_Entry.ok {L : List (Nat × Obj)}  (k : Nat) : SigHolds Tryz.prog L 141 (impl_areAll_impl_Entry.sg k) :=
  sig_of_ev (C := impl_areAll_impl_Entry.C k) (holds_cons (allok_cons (slices_ContainsFunc_impl_Entry_impl_Entry.ok k) allok_nil) holds_nil) (by kernel_rfl) Tryz.func141 (by kernel_rfl) _ _ _ (fun x y h => (impl_areAll_impl_Entry.ev k x).trans h) (by kernel_rfl)
def impl_TokenOk.A : Sh := QS50
def impl_TokenOk.R : Sh := QS19
def impl_TokenOk.ann : Ann := { loops := [], joins := [], keys := [] }
noncomputable def impl_TokenOk (k : Nat) : (QT16 × Unit) → Option QT21 := fun x => match x with
 | (t, ()) =>
  br k (decide ((t.length : Int) ≤ 3))
  (bd k (impl_areAll_impl_Entry k (t, (()), ())) fun y1 =>
  some ((y1.1.1, ()), ((), ())))
  (some ((false, ()), ((), ())))
noncomputable def impl_TokenOk.sg (k : Nat) : Sig := ⟨impl_TokenOk.A, impl_TokenOk.R, impl_TokenOk k⟩
noncomputable def impl_TokenOk.C (k : Nat) : Ctx := ⟨Tryz.prog, [(141, [impl_areAll_impl_Entry.sg k])], k, [], []⟩
theorem impl_TokenOk.ev (k : Nat) (x : impl_TokenOk.A.T) : evFunc (impl_TokenOk.C k) impl_TokenOk.ann Tryz.f128 impl_TokenOk.A impl_TokenOk.R x = impl_TokenOk k x := by kernel_rfl
theorem impl_TokenOk.ok {L : List (Nat × Obj)}  (k : Nat) : SigHolds Tryz.prog L 128 (impl_TokenOk.sg k) :=
  sig_of_ev (C := impl_TokenOk.C k) (holds_cons (allok_cons (impl_areAll_impl_Entry.ok k) allok_nil) holds_nil) (by kernel_rfl) Tryz.func128 (by kernel_rfl) _ _ _ (fun x y h => (impl_TokenOk.ev k x).trans h) (by kernel_rfl)
def slices_Clone_impl_Entry_impl_Entry.A : Sh := QS50
def slices_Clone_impl_Entry_impl_Entry.R : Sh := (.cons (.own QK1) .nil)
def slices_Clone_impl_Entry_impl_Entry.ann : Ann := { loops := [], joins := [], keys := [] }
noncomputable def slices_Clone_impl_Entry_impl_Entry (k : Nat) : (QT16 × Unit) → Option ((QT16 × Unit) × (Unit × Unit)) := fun x => match x with
 | (s_, ()) =>
  br k (s_.isEmpty) (agree
  (some (([], ()), ((), ())))
  (br k (decide ((([] : List (Int × Int × Unit)).length + s_.length) * 16 ≤ maxBytes))
  (some ((([] : List (Int × Int × Unit)) ++ s_, ()), ((), ())))
  none))
  (br k (decide ((([] : List (Int × Int × Unit)).length + s_.length) * 16 ≤ maxBytes))
  (some ((([] : List (Int × Int × Unit)) ++ s_, ()), ((), ())))
  none)
noncomputable def slices_Clone_impl_Entry_impl_Entry.sg (k : Nat) : Sig := ⟨slices_Clone_impl_Entry_impl_Entry.A, slices_Clone_impl_Entry_impl_Entry.R, slices_Clone_impl_Entry_impl_Entry k⟩
noncomputable def slices_Clone_impl_Entry_impl_Entry.C (k : Nat) : Ctx := ⟨Tryz.prog, [], k, [], []⟩
theorem slices_Clone_impl_Entry_impl_Entry.ev (k : Nat) (x : slices_Clone_impl_Entry_impl_Entry.A.T) : evFunc (slices_Clone_impl_Entry_impl_Entry.C k) slices_Clone_impl_Entry_impl_Entry.ann Tryz.f129 slices_Clone_impl_Entry_impl_Entry.A slices_Clone_impl_Entry_impl_Entry.R x = slices_Clone_impl_Entry_impl_Entry k x := by kernel_rfl
theorem slices_Clone_impl_Entry_impl_Entry.ok {L : List (Nat × Obj)}  (k : Nat) : SigHolds Tryz.prog L 129 (slices_Clone_impl_Entry_impl_Entry.sg k) :=
  sig_of_ev (C := slices_Clone_impl_Entry_impl_Entry.C k) holds_nil (by kernel_rfl) Tryz.func129 (by kernel_rfl) _ _ _ (fun x y h => (slices_Clone_impl_Entry_impl_Entry.ev k x).trans h) (by kernel_rfl)
def impl_TokenWith.A : Sh := (.cons (.pur (.sl false QK1)) QS5)
def impl_TokenWith.R : Sh := (.cons (.own QK1) .nil)
def impl_TokenWith.ann : Ann := { loops := [], joins := [], keys := [] }
noncomputable def impl_TokenWith (k : Nat) : (QT16 × Int × Int × Unit) → Option ((QT16 × Unit) × QT35) := fun x => match x with
 | (t, line, pick, ()) =>
  bd k (impl_TokenOk k (t, ())) fun y1 =>
  br k (!y1.1.1)
  (some (([], ()), ((), (), (), ())))
  (bd k (impl_TokenOk k (([(line, pick, ())] : List (Int × Int × Unit)), ())) fun y2 =>
  br k (!y2.1.1)
  (some (([], ()), ((), (), (), ())))
  (bd k (slices_Clone_impl_Entry_impl_Entry k (t, ())) fun y3 =>
  br k (decide ((t.length : Int) < 3))
  (br k (decide ((y3.1.1.length + ([(line, pick, ())] : List (Int × Int × Unit)).length) * 16 ≤ maxBytes))
  (some ((y3.1.1 ++ ([(line, pick, ())] : List (Int × Int × Unit)), ()), ((), (), (), ())))
  none)
  (some ((y3.1.1, ()), ((), (), (), ())))))
noncomputable def impl_TokenWith.sg (k : Nat) : Sig := ⟨impl_TokenWith.A, impl_TokenWith.R, impl_TokenWith k⟩
noncomputable def impl_TokenWith.C (k : Nat) : Ctx := ⟨Tryz.prog, [(128, [impl_TokenOk.sg k]), (129, [slices_Clone_impl_Entry_impl_Entry.sg k])], k, [], []⟩
theorem impl_TokenWith.ev (k : Nat) (x : impl_TokenWith.A.T) : evFunc (impl_TokenWith.C k) impl_TokenWith.ann Tryz.f98 impl_TokenWith.A impl_TokenWith.R x = impl_TokenWith k x := by kernel_rfl
theorem impl_TokenWith.ok {L : List (Nat × Obj)}  (k : Nat) : SigHolds Tryz.prog L 98 (impl_TokenWith.sg k) :=
  sig_of_ev (C := impl_TokenWith.C k) (holds_cons (allok_cons (impl_TokenOk.ok k) allok_nil) (holds_cons (allok_cons (slices_Clone_impl_Entry_impl_Entry.ok k) allok_nil) holds_nil)) (by kernel_rfl) Tryz.func98 (by kernel_rfl) _ _ _ (fun x y h => (impl_TokenWith.ev k x).trans h) (by kernel_rfl)
def impl_countOf.A : Sh := (.cons (.pur (.sl false QK1)) QS12)
def impl_countOf.R : Sh := QS12
def impl_countOf.ann : Ann := { loops := [(0, [(1, (.pur (.int .i64))), (5, (.pur (.int .i64))), (8, (.pur (.sl false QK1))), (9, (.pur (.int .i64))), (10, (.pur (.int .i64)))])], joins := [], keys := [] }
noncomputable def impl_countOf.l0 (k : Nat)  (G0 : (Int × Int × QT16 × Int × Int × Unit) → Option QT26) : (Int × Int × QT16 × Int × Int × Unit) → Option QT26 := fun x => match x with
 | (line, n, t8, t9, t10, ()) =>
  br k (decide (t10 < t9))
  (br k (decide (0 ≤ t10))
  (bd k (t8[t10.toNat]?) fun x1 =>
  bd k (impl_truth k (x1.1 == line, ())) fun y2 =>
  G0 (line, IntKind.wrap .i64 (n + y2.1.1), t8, t9, IntKind.wrap .i64 (t10 + 1), ()))
  none)
  (some ((n, ()), ((), (), ())))
noncomputable def impl_countOf (k : Nat) : (QT16 × Int × Unit) → Option QT26 := fun x => match x with
 | (t, line, ()) =>
  iter (impl_countOf.l0 k) k (line, 0, t, (t.length : Int), 0, ())
noncomputable def impl_countOf.sg (k : Nat) : Sig := ⟨impl_countOf.A, impl_countOf.R, impl_countOf k⟩
noncomputable def impl_countOf.C (k : Nat) : Ctx := ⟨Tryz.prog, [(120, [impl_truth.sg k])], k, [], []⟩
theorem impl_countOf.ev (k : Nat) (x : impl_countOf.A.T) : evFunc (impl_countOf.C k) impl_countOf.ann Tryz.f99 impl_countOf.A impl_countOf.R x = impl_countOf k x := by kernel_rfl
theorem impl_countOf.ok {L : List (Nat × Obj)}  (k : Nat) : SigHolds Tryz.prog L 99 (impl_countOf.sg k) :=
  sig_of_ev (C := impl_countOf.C k) (holds_cons (allok_cons (impl_truth.ok k) allok_nil) holds_nil) (by kernel_rfl) Tryz.func99 (by kernel_rfl) _ _ _ (fun x y h => (impl_countOf.ev k x).trans h) (by kernel_rfl)
def impl_pickOf.A : Sh := (.cons (.pur QK9) QS12)
def impl_pickOf.R : Sh := QS12
def impl_pickOf.ann : Ann := { loops := [], joins := [], keys := [] }
noncomputable def impl_pickOf (k : Nat) : (QT0 × Int × Unit) → Option QT26 := fun x => match x with
 | (n, v, ()) =>
  bd k (impl_within k (v, n.2.2.2.2.1, n.2.2.2.2.2.1, ())) fun y1 =>
  br k (!y1.1.1)
  (some ((IntKind.wrap .i64 ((IntKind.wrap .i64 (n.2.2.2.2.2.1 - n.2.2.2.2.1)) + 1), ()), ((), (), ())))
  (some ((IntKind.wrap .i64 (v - n.2.2.2.2.1), ()), ((), (), ())))
noncomputable def impl_pickOf.sg (k : Nat) : Sig := ⟨impl_pickOf.A, impl_pickOf.R, impl_pickOf k⟩
noncomputable def impl_pickOf.C (k : Nat) : Ctx := ⟨Tryz.prog, [(39, [impl_within.sg k])], k, [], []⟩
theorem impl_pickOf.ev (k : Nat) (x : impl_pickOf.A.T) : evFunc (impl_pickOf.C k) impl_pickOf.ann Tryz.f100 impl_pickOf.A impl_pickOf.R x = impl_pickOf k x := by kernel_rfl
theorem impl_pickOf.ok {L : List (Nat × Obj)}  (k : Nat) : SigHolds Tryz.prog L 100 (impl_pickOf.sg k) :=
  sig_of_ev (C := impl_pickOf.C k) (holds_cons (allok_cons (impl_within.ok k) allok_nil) holds_nil) (by kernel_rfl) Tryz.func100 (by kernel_rfl) _ _ _ (fun x y h => (impl_pickOf.ev k x).trans h) (by kernel_rfl)
def impl_machine_mark.A : Sh := (.cons QS3 (.cons (.pur QK9) QS12))
def impl_machine_mark.R : Sh := .nil
def impl_machine_mark.ann : Ann := { loops := [], joins := [(6, [(40, .bool)])], keys := [(9, [([], false), ([], false), ([0], false), ([0], false), ([0], false), ([], false), ([4], false), ([], false), ([], false), ([0, 61], true), ([0], false), ([0], false), ([0, 61], true)])] }
noncomputable def impl_machine_mark (k : Nat) : (QT4 × QT0 × Int × Unit) → Option ((Unit) × (QT4 × Unit × Unit × Unit)) := fun x => match x with
 | ((m__0, m__1, m__2, m__3, m__4, m__5, m__6, m__7, m__8, m__9, m__10, m__11, m__12, m__13, ()), n, v, ()) =>
  br k (n.1 == 6)
  (bd k (impl_TokenWith k (m__13, m__7, v, ())) fun y1 =>
  some ((()), ((m__0, m__1, m__2, m__3, m__4, m__5, m__6, m__7, m__8, m__9, m__10, m__11, m__12, y1.1.1, ()), (), (), ())))
  (br k (n.1 == 10)
  ((br k (v == 1)
  (bd k (impl_countOf k (m__13, m__7, ())) fun y2 =>
  some (decide (y2.1.1 < n.2.2.2.2.1), ()))
  (some (false, ())) : Option (Bool × Unit)).bind fun j3 =>
  br k (j3.1)
  (bd k (impl_TokenWith k (m__13, m__7, 1, ())) fun y4 =>
  some ((()), ((m__0, m__1, m__2, m__3, m__4, m__5, m__6, m__7, m__8, m__9, m__10, m__11, m__12, y4.1.1, ()), (), (), ())))
  (some ((()), ((m__0, m__1, m__2, m__3, m__4, m__5, m__6, m__7, m__8, m__9, m__10, m__11, m__12, m__13, ()), (), (), ()))))
  (br k (n.1 == 13)
  (bd k (impl_pickOf k (n, v, ())) fun y5 =>
  bd k (impl_TokenWith k (m__13, m__7, y5.1.1, ())) fun y6 =>
  some ((()), ((m__0, m__1, m__2, m__3, m__4, m__5, m__6, m__7, m__8, m__9, m__10, m__11, m__12, y6.1.1, ()), (), (), ())))
  (br k (n.1 == 14)
  (some ((()), ((m__0, m__1, m__2, m__3, m__4, m__5, m__6, m__7, m__8, m__9, m__10, m__11, m__12, [], ()), (), (), ())))
  (some ((()), ((m__0, m__1, m__2, m__3, m__4, m__5, m__6, m__7, m__8, m__9, m__10, m__11, m__12, m__13, ()), (), (), ()))))))
noncomputable def impl_machine_mark.sg (k : Nat) : Sig := ⟨impl_machine_mark.A, impl_machine_mark.R, impl_machine_mark k⟩
noncomputable def impl_machine_mark.C (k : Nat) : Ctx := ⟨Tryz.prog, [(98, [impl_TokenWith.sg k]), (99, [impl_countOf.sg k]), (100, [impl_pickOf.sg k])], k, [], []⟩
theorem impl_machine_mark.ev (k : Nat) (x : impl_machine_mark.A.T) : evFunc (impl_machine_mark.C k) impl_machine_mark.ann Tryz.f67 impl_machine_mark.A impl_machine_mark.R x = impl_machine_mark k x := by kernel_rfl
theorem impl_machine_mark.ok {L : List (Nat × Obj)}  (k : Nat) : SigHolds Tryz.prog L 67 (impl_machine_mark.sg k) :=
  sig_of_ev (C := impl_machine_mark.C k) (holds_cons (allok_cons (impl_TokenWith.ok k) allok_nil) (holds_cons (allok_cons (impl_countOf.ok k) allok_nil) (holds_cons (allok_cons (impl_pickOf.ok k) allok_nil) holds_nil))) (by kernel_rfl) Tryz.func67 (by kernel_rfl) _ _ _ (fun x y h => (impl_machine_mark.ev k x).trans h) (by kernel_rfl)
def impl_machine_store.A : Sh := (.cons QS3 (.cons (.pur QK9) .nil))
def impl_machine_store.R : Sh := QS12
def impl_machine_store.ann : Ann := { loops := [], joins := [], keys := [(5, [([], false), ([0], false), ([0], false), ([0], false), ([0], false), ([0], false), ([3], false), ([3], false), ([0], false), ([0, 43], true), ([], false)])] }
noncomputable def impl_machine_store (k : Nat) : (QT4 × QT0 × Unit) → Option ((Int × Unit) × (QT4 × Unit × Unit)) := fun x => match x with
 | ((m__0, m__1, m__2, m__3, m__4, m__5, m__6, m__7, m__8, m__9, m__10, m__11, m__12, m__13, ()), n, ()) =>
  bd k (impl_Store_eval k ((m__8, m__9, m__10, ()), n.2.2.1, ())) fun y1 =>
  br k (y1.1.2.1 != 0)
  (some ((y1.1.2.1, ()), ((m__0, m__1, m__2, m__3, m__4, m__5, m__6, m__7, m__8, m__9, m__10, m__11, m__12, m__13, ()), (), ())))
  (bd k (impl_Store_eval k ((m__8, m__9, m__10, ()), n.2.2.2.1, ())) fun y2 =>
  br k (decide (0 ≤ n.2.1 ∧ n.2.1 < (m__10.length : Int)))
  (bd k (m__10[n.2.1.toNat]?) fun x3 =>
  br k (y2.1.2.1 != 0)
  (some ((y2.1.2.1, ()), ((m__0, m__1, m__2, m__3, m__4, m__5, m__6, m__7, m__8, m__9, m__10.set n.2.1.toNat x3, m__11, m__12, m__13, ()), (), ())))
  (bd k (impl_size_int64 k (x3, ())) fun y4 =>
  bd k (impl_within k (y1.1.1, 0, IntKind.wrap .i64 (y4.1.1 - 1), ())) fun y5 =>
  br k (!y5.1.1)
  (some ((5, ()), ((m__0, m__1, m__2, m__3, m__4, m__5, m__6, m__7, m__8, m__9, m__10.set n.2.1.toNat x3, m__11, m__12, m__13, ()), (), ())))
  (br k (decide (0 ≤ y1.1.1 ∧ y1.1.1 < (x3.length : Int)))
  (bd k (x3[y1.1.1.toNat]?) fun x6 =>
  some ((0, ()), ((m__0, m__1, m__2, m__3, m__4, m__5, m__6, m__7, m__8, m__9, m__10.set n.2.1.toNat (x3.set y1.1.1.toNat y2.1.1), m__11, m__12, m__13, ()), (), ())))
  none)))
  none)
noncomputable def impl_machine_store.sg (k : Nat) : Sig := ⟨impl_machine_store.A, impl_machine_store.R, impl_machine_store k⟩
noncomputable def impl_machine_store.C (k : Nat) : Ctx := ⟨Tryz.prog, [(64, [impl_Store_eval.sg k]), (57, [impl_size_int64.sg k]), (39, [impl_within.sg k])], k, [], []⟩
theorem impl_machine_store.ev (k : Nat) (x : impl_machine_store.A.T) : evFunc (impl_machine_store.C k) impl_machine_store.ann Tryz.f65 impl_machine_store.A impl_machine_store.R x = impl_machine_store k x := by kernel_rfl
theorem impl_machine_store.ok {L : List (Nat × Obj)}  (k : Nat) : SigHolds Tryz.prog L 65 (impl_machine_store.sg k) :=
  sig_of_ev (C := impl_machine_store.C k) (holds_cons (allok_cons (impl_Store_eval.ok k) allok_nil) (holds_cons (allok_cons (impl_size_int64.ok k) allok_nil) (holds_cons (allok_cons (impl_within.ok k) allok_nil) holds_nil))) (by kernel_rfl) Tryz.func65 (by kernel_rfl) _ _ _ (fun x y h => (impl_machine_store.ev k x).trans h) (by kernel_rfl)
end Go.Pev.F
