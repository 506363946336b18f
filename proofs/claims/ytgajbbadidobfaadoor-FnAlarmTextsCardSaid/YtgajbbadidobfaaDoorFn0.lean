/-
  Printed by gen.py: what functions of the program compute, and that they do.
-/
import Derived.Test.YtgajbbadidobfaaDoorProg
import Derived.Test.YtgajbbadidobfaaDoorPevPur
import Derived.Test.YtgajbbadidobfaaDoorLbErr
import Derived.Test.YtgajbbadidobfaaDoorLbFields
import Derived.Test.YtgajbbadidobfaaDoorLbFmt
import Derived.Test.YtgajbbadidobfaaDoorLbGrow
import Derived.Test.YtgajbbadidobfaaDoorLbIndex
import Derived.Test.YtgajbbadidobfaaDoorLbJoin
import Derived.KernelRfl
open Go.Proofs Go.Pev
namespace Go.Pev.F
set_option maxRecDepth 100000
set_option linter.unusedVariables false

/-! loop.example/g00719/laws.toAlarm -/
def laws_toAlarm.A : Sh := (.cons (.pur (.cons (.int .i64) (.cons (.int .i64) .nil))) .nil)
def laws_toAlarm.R : Sh := (.cons (.pur (.cons (.int .i64) (.cons (.int .i64) .nil))) .nil)
def laws_toAlarm.ann : Ann := { loops := [], joins := [], keys := [] }
noncomputable def laws_toAlarm (k : Nat) : ((Int × Int × Unit) × Unit) → Option (((Int × Int × Unit) × Unit) × (Unit × Unit)) := fun x => match x with
 | (a, ()) =>
  some ((a, ()), ((), ()))
noncomputable def laws_toAlarm.sg (k : Nat) : Sig := ⟨laws_toAlarm.A, laws_toAlarm.R, laws_toAlarm k⟩
noncomputable def laws_toAlarm.C (k : Nat) : Ctx := ⟨Tryd.prog, [], k⟩
theorem laws_toAlarm.ev (k : Nat) (x : laws_toAlarm.A.T) : evFunc (laws_toAlarm.C k) laws_toAlarm.ann Tryd.f9 laws_toAlarm.A laws_toAlarm.R x = laws_toAlarm k x := by kernel_rfl
theorem laws_toAlarm.ok {L : List (Nat × Obj)}  (k : Nat) : SigHolds Tryd.prog L 9 (laws_toAlarm.sg k) :=
  sig_of_ev (C := laws_toAlarm.C k) holds_nil (by kernel_rfl) Tryd.func9 (by kernel_rfl) laws_toAlarm.ann laws_toAlarm.A laws_toAlarm.R (fun x y h => (laws_toAlarm.ev k x).trans h) (by kernel_rfl)

/-! loop.example/g00719/spec.l1In -/
def spec_l1In.A : Sh := (.cons (.pur (.int .i64)) (.cons (.pur (.int .i64)) (.cons (.pur (.int .i64)) .nil)))
def spec_l1In.R : Sh := (.cons (.pur .bool) .nil)
def spec_l1In.ann : Ann := { loops := [], joins := [(1, [(6, .bool)])], keys := [] }
noncomputable def spec_l1In (k : Nat) : (Int × Int × Int × Unit) → Option ((Bool × Unit) × (Unit × Unit × Unit × Unit)) := fun x => match x with
 | (n, low, high, ()) =>
  (br k (decide (n ≥ low))
  (some (decide (n ≤ high), ()))
  (some (false, ())) : Option (Bool × Unit)).bind fun j1 =>
  some ((j1.1, ()), ((), (), (), ()))
noncomputable def spec_l1In.sg (k : Nat) : Sig := ⟨spec_l1In.A, spec_l1In.R, spec_l1In k⟩
noncomputable def spec_l1In.C (k : Nat) : Ctx := ⟨Tryd.prog, [], k⟩
theorem spec_l1In.ev (k : Nat) (x : spec_l1In.A.T) : evFunc (spec_l1In.C k) spec_l1In.ann Tryd.f30 spec_l1In.A spec_l1In.R x = spec_l1In k x := by kernel_rfl
theorem spec_l1In.ok {L : List (Nat × Obj)}  (k : Nat) : SigHolds Tryd.prog L 30 (spec_l1In.sg k) :=
  sig_of_ev (C := spec_l1In.C k) holds_nil (by kernel_rfl) Tryd.func30 (by kernel_rfl) spec_l1In.ann spec_l1In.A spec_l1In.R (fun x y h => (spec_l1In.ev k x).trans h) (by kernel_rfl)

/-! loop.example/g00719/spec.l13Kind -/
def spec_l13Kind.A : Sh := (.cons (.pur (.int .i64)) .nil)
def spec_l13Kind.R : Sh := (.cons (.pur .str) .nil)
def spec_l13Kind.ann : Ann := { loops := [], joins := [], keys := [] }
noncomputable def spec_l13Kind (k : Nat) : (Int × Unit) → Option (((List UInt8) × Unit) × (Unit × Unit)) := fun x => match x with
 | (kind, ()) =>
  br k (kind == 1)
  (some (([100, 105, 118], ()), ((), ())))
  (br k (kind == 2)
  (some (([98, 111, 117, 110, 100, 115], ()), ((), ())))
  (br k (kind == 4)
  (some (([111, 118, 101, 114], ()), ((), ())))
  (br k (kind == 8)
  (some (([97, 115, 115, 101, 114, 116], ()), ((), ())))
  (some (([], ()), ((), ()))))))
noncomputable def spec_l13Kind.sg (k : Nat) : Sig := ⟨spec_l13Kind.A, spec_l13Kind.R, spec_l13Kind k⟩
noncomputable def spec_l13Kind.C (k : Nat) : Ctx := ⟨Tryd.prog, [], k⟩
theorem spec_l13Kind.ev (k : Nat) (x : spec_l13Kind.A.T) : evFunc (spec_l13Kind.C k) spec_l13Kind.ann Tryd.f31 spec_l13Kind.A spec_l13Kind.R x = spec_l13Kind k x := by kernel_rfl
theorem spec_l13Kind.ok {L : List (Nat × Obj)}  (k : Nat) : SigHolds Tryd.prog L 31 (spec_l13Kind.sg k) :=
  sig_of_ev (C := spec_l13Kind.C k) holds_nil (by kernel_rfl) Tryd.func31 (by kernel_rfl) spec_l13Kind.ann spec_l13Kind.A spec_l13Kind.R (fun x y h => (spec_l13Kind.ev k x).trans h) (by kernel_rfl)

/-! loop.example/g00719/spec.l1Dec -/
def spec_l1Dec.A : Sh := (.cons (.pur (.int .i64)) .nil)
def spec_l1Dec.R : Sh := (.cons (.pur .str) .nil)
def spec_l1Dec.ann : Ann := { loops := [(0, [(0, (.pur (.int .i64))), (3, (.pur (.int .u64))), (4, (.pur .str))])], joins := [], keys := [] }
noncomputable def spec_l1Dec.l0 (k : Nat)  (G0 : (Int × Int × (List UInt8) × Unit) → Option (((List UInt8) × Unit) × (Unit × Unit))) : (Int × Int × (List UInt8) × Unit) → Option (((List UInt8) × Unit) × (Unit × Unit)) := fun x => match x with
 | (n, m_, s_, ()) =>
  br k (decide (m_ ≥ 10))
  (br k (!decide ((10 : Int) = 0))
  (br k (decide ((((([IntKind.wrap .u8 (IntKind.wrap .u64 (48 + (m_.tmod 10)))] : List Int).map (fun n : Int => UInt8.ofNat n.toNat)).length + s_.length : Nat) : Int) ≤ maxInt64))
  (br k (!decide ((10 : Int) = 0))
  (G0 (n, IntKind.wrap .u64 (m_.tdiv 10), (([IntKind.wrap .u8 (IntKind.wrap .u64 (48 + (m_.tmod 10)))] : List Int).map (fun n : Int => UInt8.ofNat n.toNat)) ++ s_, ()))
  none)
  none)
  none)
  (br k (decide ((((([IntKind.wrap .u8 (IntKind.wrap .u64 (48 + m_))] : List Int).map (fun n : Int => UInt8.ofNat n.toNat)).length + s_.length : Nat) : Int) ≤ maxInt64))
  (br k (decide (n < 0))
  (br k (decide (((([45] : List UInt8).length + ((([IntKind.wrap .u8 (IntKind.wrap .u64 (48 + m_))] : List Int).map (fun n : Int => UInt8.ofNat n.toNat)) ++ s_).length : Nat) : Int) ≤ maxInt64))
  (some ((([45] : List UInt8) ++ ((([IntKind.wrap .u8 (IntKind.wrap .u64 (48 + m_))] : List Int).map (fun n : Int => UInt8.ofNat n.toNat)) ++ s_), ()), ((), ())))
  none)
  (some (((([IntKind.wrap .u8 (IntKind.wrap .u64 (48 + m_))] : List Int).map (fun n : Int => UInt8.ofNat n.toNat)) ++ s_, ()), ((), ()))))
  none)
noncomputable def spec_l1Dec (k : Nat) : (Int × Unit) → Option (((List UInt8) × Unit) × (Unit × Unit)) := fun x => match x with
 | (n, ()) =>
  br k (decide (n < 0))
  (iter (spec_l1Dec.l0 k) k (n, IntKind.wrap .u64 (0 - (IntKind.wrap .u64 n)), [], ()))
  (iter (spec_l1Dec.l0 k) k (n, IntKind.wrap .u64 n, [], ()))
noncomputable def spec_l1Dec.sg (k : Nat) : Sig := ⟨spec_l1Dec.A, spec_l1Dec.R, spec_l1Dec k⟩
noncomputable def spec_l1Dec.C (k : Nat) : Ctx := ⟨Tryd.prog, [], k⟩
theorem spec_l1Dec.ev (k : Nat) (x : spec_l1Dec.A.T) : evFunc (spec_l1Dec.C k) spec_l1Dec.ann Tryd.f32 spec_l1Dec.A spec_l1Dec.R x = spec_l1Dec k x := by kernel_rfl
theorem spec_l1Dec.ok {L : List (Nat × Obj)}  (k : Nat) : SigHolds Tryd.prog L 32 (spec_l1Dec.sg k) :=
  sig_of_ev (C := spec_l1Dec.C k) holds_nil (by kernel_rfl) Tryd.func32 (by kernel_rfl) spec_l1Dec.ann spec_l1Dec.A spec_l1Dec.R (fun x y h => (spec_l1Dec.ev k x).trans h) (by kernel_rfl)

/-! loop.example/g00719/spec.AlarmText -/
def spec_AlarmText.A : Sh := (.cons (.pur (.cons (.int .i64) (.cons (.int .i64) .nil))) .nil)
def spec_AlarmText.R : Sh := (.cons (.pur .str) .nil)
def spec_AlarmText.ann : Ann := { loops := [], joins := [(1, [(12, .bool)])], keys := [] }
noncomputable def spec_AlarmText (k : Nat) : ((Int × Int × Unit) × Unit) → Option (((List UInt8) × Unit) × (Unit × Unit)) := fun x => match x with
 | (a, ()) =>
  (bd k (spec_l1In k (a.1, 0, 29, ())) fun y1 =>
  br k (!y1.1.1)
  (some (true, ()))
  (bd k (spec_l13Kind k (a.2.1, ())) fun y2 =>
  some (y2.1.1 == [], ())) : Option (Bool × Unit)).bind fun j3 =>
  br k (j3.1)
  (some (([], ()), ((), ())))
  (bd k (spec_l1Dec k (a.1, ())) fun y4 =>
  br k (decide (((y4.1.1.length + ([32] : List UInt8).length : Nat) : Int) ≤ maxInt64))
  (bd k (spec_l13Kind k (a.2.1, ())) fun y5 =>
  br k (decide ((((y4.1.1 ++ [32]).length + y5.1.1.length : Nat) : Int) ≤ maxInt64))
  (some (((y4.1.1 ++ [32]) ++ y5.1.1, ()), ((), ())))
  none)
  none)
noncomputable def spec_AlarmText.sg (k : Nat) : Sig := ⟨spec_AlarmText.A, spec_AlarmText.R, spec_AlarmText k⟩
noncomputable def spec_AlarmText.C (k : Nat) : Ctx := ⟨Tryd.prog, [(30, [spec_l1In.sg k]), (31, [spec_l13Kind.sg k]), (32, [spec_l1Dec.sg k])], k⟩
theorem spec_AlarmText.ev (k : Nat) (x : spec_AlarmText.A.T) : evFunc (spec_AlarmText.C k) spec_AlarmText.ann Tryd.f8 spec_AlarmText.A spec_AlarmText.R x = spec_AlarmText k x := by kernel_rfl
theorem spec_AlarmText.ok {L : List (Nat × Obj)}  (k : Nat) : SigHolds Tryd.prog L 8 (spec_AlarmText.sg k) :=
  sig_of_ev (C := spec_AlarmText.C k) (holds_cons (allok_cons (spec_l1In.ok k) allok_nil) (holds_cons (allok_cons (spec_l13Kind.ok k) allok_nil) (holds_cons (allok_cons (spec_l1Dec.ok k) allok_nil) holds_nil))) (by kernel_rfl) Tryd.func8 (by kernel_rfl) spec_AlarmText.ann spec_AlarmText.A spec_AlarmText.R (fun x y h => (spec_AlarmText.ev k x).trans h) (by kernel_rfl)

/-! loop.example/g00719/impl.alarmName -/
def impl_alarmName.A : Sh := (.cons (.pur (.int .i64)) .nil)
def impl_alarmName.R : Sh := (.cons (.pur .str) .nil)
def impl_alarmName.ann : Ann := { loops := [], joins := [], keys := [] }
noncomputable def impl_alarmName (k : Nat) : (Int × Unit) → Option (((List UInt8) × Unit) × (Unit × Unit)) := fun x => match x with
 | (kind, ()) =>
  br k (kind == 1)
  (some (([100, 105, 118], ()), ((), ())))
  (br k (kind == 2)
  (some (([98, 111, 117, 110, 100, 115], ()), ((), ())))
  (br k (kind == 4)
  (some (([111, 118, 101, 114], ()), ((), ())))
  (br k (kind == 8)
  (some (([97, 115, 115, 101, 114, 116], ()), ((), ())))
  (some (([], ()), ((), ()))))))
noncomputable def impl_alarmName.sg (k : Nat) : Sig := ⟨impl_alarmName.A, impl_alarmName.R, impl_alarmName k⟩
noncomputable def impl_alarmName.C (k : Nat) : Ctx := ⟨Tryd.prog, [], k⟩
theorem impl_alarmName.ev (k : Nat) (x : impl_alarmName.A.T) : evFunc (impl_alarmName.C k) impl_alarmName.ann Tryd.f33 impl_alarmName.A impl_alarmName.R x = impl_alarmName k x := by kernel_rfl
theorem impl_alarmName.ok {L : List (Nat × Obj)}  (k : Nat) : SigHolds Tryd.prog L 33 (impl_alarmName.sg k) :=
  sig_of_ev (C := impl_alarmName.C k) holds_nil (by kernel_rfl) Tryd.func33 (by kernel_rfl) impl_alarmName.ann impl_alarmName.A impl_alarmName.R (fun x y h => (impl_alarmName.ev k x).trans h) (by kernel_rfl)

/-! loop.example/g00719/impl.within -/
def impl_within.A : Sh := (.cons (.pur (.int .i64)) (.cons (.pur (.int .i64)) (.cons (.pur (.int .i64)) .nil)))
def impl_within.R : Sh := (.cons (.pur .bool) .nil)
def impl_within.ann : Ann := { loops := [], joins := [(1, [(6, .bool)])], keys := [] }
noncomputable def impl_within (k : Nat) : (Int × Int × Int × Unit) → Option ((Bool × Unit) × (Unit × Unit × Unit × Unit)) := fun x => match x with
 | (n, low, high, ()) =>
  (br k (decide (low ≤ n))
  (some (decide (n ≤ high), ()))
  (some (false, ())) : Option (Bool × Unit)).bind fun j1 =>
  some ((j1.1, ()), ((), (), (), ()))
noncomputable def impl_within.sg (k : Nat) : Sig := ⟨impl_within.A, impl_within.R, impl_within k⟩
noncomputable def impl_within.C (k : Nat) : Ctx := ⟨Tryd.prog, [], k⟩
theorem impl_within.ev (k : Nat) (x : impl_within.A.T) : evFunc (impl_within.C k) impl_within.ann Tryd.f34 impl_within.A impl_within.R x = impl_within k x := by kernel_rfl
theorem impl_within.ok {L : List (Nat × Obj)}  (k : Nat) : SigHolds Tryd.prog L 34 (impl_within.sg k) :=
  sig_of_ev (C := impl_within.C k) holds_nil (by kernel_rfl) Tryd.func34 (by kernel_rfl) impl_within.ann impl_within.A impl_within.R (fun x y h => (impl_within.ev k x).trans h) (by kernel_rfl)

/-! loop.example/g00719/impl.decimal -/
def impl_decimal.A : Sh := (.cons (.pur (.int .i64)) .nil)
def impl_decimal.R : Sh := (.cons (.pur .str) .nil)
def impl_decimal.ann : Ann := { loops := [], joins := [], keys := [] }
noncomputable def impl_decimal (k : Nat) : (Int × Unit) → Option (((List UInt8) × Unit) × (Unit × Unit)) := fun x => match x with
 | (n, ()) =>
  bd k (Lb.FormatInt k (n, 10, ())) fun y1 =>
  some ((y1.1.1, ()), ((), ()))
noncomputable def impl_decimal.sg (k : Nat) : Sig := ⟨impl_decimal.A, impl_decimal.R, impl_decimal k⟩
noncomputable def impl_decimal.C (k : Nat) : Ctx := ⟨Tryd.prog, [(72, [Lb.FormatInt.sg k])], k⟩
theorem impl_decimal.ev (k : Nat) (x : impl_decimal.A.T) : evFunc (impl_decimal.C k) impl_decimal.ann Tryd.f35 impl_decimal.A impl_decimal.R x = impl_decimal k x := by kernel_rfl
theorem impl_decimal.ok {L : List (Nat × Obj)} (hFmt : Lb.NeedFmt L) (k : Nat) : SigHolds Tryd.prog L 35 (impl_decimal.sg k) :=
  sig_of_ev (C := impl_decimal.C k) (holds_cons (allok_cons (Lb.FormatInt.ok hFmt k) allok_nil) holds_nil) (by kernel_rfl) Tryd.func35 (by kernel_rfl) impl_decimal.ann impl_decimal.A impl_decimal.R (fun x y h => (impl_decimal.ev k x).trans h) (by kernel_rfl)

/-! loop.example/g00719/impl.AlarmText -/
def impl_AlarmText.A : Sh := (.cons (.pur (.cons (.int .i64) (.cons (.int .i64) .nil))) .nil)
def impl_AlarmText.R : Sh := (.cons (.pur .str) .nil)
def impl_AlarmText.ann : Ann := { loops := [], joins := [(2, [(14, .bool)])], keys := [] }
noncomputable def impl_AlarmText (k : Nat) : ((Int × Int × Unit) × Unit) → Option (((List UInt8) × Unit) × (Unit × Unit)) := fun x => match x with
 | (a, ()) =>
  bd k (impl_alarmName k (a.2.1, ())) fun y1 =>
  (bd k (impl_within k (a.1, 0, 29, ())) fun y2 =>
  br k (!y2.1.1)
  (some (true, ()))
  (some (y1.1.1 == [], ())) : Option (Bool × Unit)).bind fun j3 =>
  br k (j3.1)
  (some (([], ()), ((), ())))
  (bd k (impl_decimal k (a.1, ())) fun y4 =>
  br k (decide (((y4.1.1.length + ([32] : List UInt8).length : Nat) : Int) ≤ maxInt64))
  (br k (decide ((((y4.1.1 ++ [32]).length + y1.1.1.length : Nat) : Int) ≤ maxInt64))
  (some (((y4.1.1 ++ [32]) ++ y1.1.1, ()), ((), ())))
  none)
  none)
noncomputable def impl_AlarmText.sg (k : Nat) : Sig := ⟨impl_AlarmText.A, impl_AlarmText.R, impl_AlarmText k⟩
noncomputable def impl_AlarmText.C (k : Nat) : Ctx := ⟨Tryd.prog, [(33, [impl_alarmName.sg k]), (34, [impl_within.sg k]), (35, [impl_decimal.sg k])], k⟩
theorem impl_AlarmText.ev (k : Nat) (x : impl_AlarmText.A.T) : evFunc (impl_AlarmText.C k) impl_AlarmText.ann Tryd.f10 impl_AlarmText.A impl_AlarmText.R x = impl_AlarmText k x := by kernel_rfl
theorem impl_AlarmText.ok {L : List (Nat × Obj)} (hFmt : Lb.NeedFmt L) (k : Nat) : SigHolds Tryd.prog L 10 (impl_AlarmText.sg k) :=
  sig_of_ev (C := impl_AlarmText.C k) (holds_cons (allok_cons (impl_alarmName.ok k) allok_nil) (holds_cons (allok_cons (impl_within.ok k) allok_nil) (holds_cons (allok_cons (impl_decimal.ok hFmt k) allok_nil) holds_nil))) (by kernel_rfl) Tryd.func10 (by kernel_rfl) impl_AlarmText.ann impl_AlarmText.A impl_AlarmText.R (fun x y h => (impl_AlarmText.ev k x).trans h) (by kernel_rfl)

/-! loop.example/g00719/laws.FnExactAlarmText -/
def laws_FnExactAlarmText.A : Sh := (.cons (.pur (.cons (.int .i64) (.cons (.int .i64) .nil))) .nil)
def laws_FnExactAlarmText.R : Sh := (.cons (.pur .bool) .nil)
def laws_FnExactAlarmText.ann : Ann := { loops := [], joins := [], keys := [] }
noncomputable def laws_FnExactAlarmText (k : Nat) : ((Int × Int × Unit) × Unit) → Option ((Bool × Unit) × (Unit × Unit)) := fun x => match x with
 | (aA, ()) =>
  bd k (laws_toAlarm k (aA, ())) fun y1 =>
  bd k (spec_AlarmText k (y1.1.1, ())) fun y2 =>
  bd k (laws_toAlarm k (aA, ())) fun y3 =>
  bd k (impl_AlarmText k (y3.1.1, ())) fun y4 =>
  br k (!(y4.1.1 == y2.1.1))
  (some ((false, ()), ((), ())))
  (some ((true, ()), ((), ())))
noncomputable def laws_FnExactAlarmText.sg (k : Nat) : Sig := ⟨laws_FnExactAlarmText.A, laws_FnExactAlarmText.R, laws_FnExactAlarmText k⟩
noncomputable def laws_FnExactAlarmText.C (k : Nat) : Ctx := ⟨Tryd.prog, [(9, [laws_toAlarm.sg k]), (8, [spec_AlarmText.sg k]), (10, [impl_AlarmText.sg k])], k⟩
theorem laws_FnExactAlarmText.ev (k : Nat) (x : laws_FnExactAlarmText.A.T) : evFunc (laws_FnExactAlarmText.C k) laws_FnExactAlarmText.ann Tryd.f3 laws_FnExactAlarmText.A laws_FnExactAlarmText.R x = laws_FnExactAlarmText k x := by kernel_rfl
theorem laws_FnExactAlarmText.ok {L : List (Nat × Obj)} (hFmt : Lb.NeedFmt L) (k : Nat) : SigHolds Tryd.prog L 3 (laws_FnExactAlarmText.sg k) :=
  sig_of_ev (C := laws_FnExactAlarmText.C k) (holds_cons (allok_cons (laws_toAlarm.ok k) allok_nil) (holds_cons (allok_cons (spec_AlarmText.ok k) allok_nil) (holds_cons (allok_cons (impl_AlarmText.ok hFmt k) allok_nil) holds_nil))) (by kernel_rfl) Tryd.func3 (by kernel_rfl) laws_FnExactAlarmText.ann laws_FnExactAlarmText.A laws_FnExactAlarmText.R (fun x y h => (laws_FnExactAlarmText.ev k x).trans h) (by kernel_rfl)

/-! loop.example/g00719/spec.l1Cut -/
def spec_l1Cut.A : Sh := (.cons (.pur .str) (.cons (.pur (.int .u8)) .nil))
def spec_l1Cut.R : Sh := (.cons (.pur .str) (.cons (.pur .str) (.cons (.pur .bool) .nil)))
def spec_l1Cut.ann : Ann := { loops := [(0, [(0, (.pur .str)), (1, (.pur (.int .u8))), (7, (.pur (.int .i64)))])], joins := [], keys := [] }
noncomputable def spec_l1Cut.l0 (k : Nat)  (G0 : ((List UInt8) × Int × Int × Unit) → Option (((List UInt8) × (List UInt8) × Bool × Unit) × (Unit × Unit × Unit))) : ((List UInt8) × Int × Int × Unit) → Option (((List UInt8) × (List UInt8) × Bool × Unit) × (Unit × Unit × Unit)) := fun x => match x with
 | (s_, c, i, ()) =>
  br k (decide (i < (s_.length : Int)))
  (br k (decide (0 ≤ i))
  (bd k (s_[i.toNat]?) fun b1 =>
  br k ((b1.toNat : Int) == c)
  (br k (decide (0 ≤ i ∧ i ≤ (s_.length : Int)))
  (br k (decide (0 ≤ (IntKind.wrap .i64 (i + 1)) ∧ (IntKind.wrap .i64 (i + 1)) ≤ (s_.length : Int)))
  (some ((s_.take i.toNat, s_.drop (IntKind.wrap .i64 (i + 1)).toNat, true, ()), ((), (), ())))
  none)
  none)
  (G0 (s_, c, IntKind.wrap .i64 (i + 1), ())))
  none)
  (some ((s_, [], false, ()), ((), (), ())))
noncomputable def spec_l1Cut (k : Nat) : ((List UInt8) × Int × Unit) → Option (((List UInt8) × (List UInt8) × Bool × Unit) × (Unit × Unit × Unit)) := fun x => match x with
 | (s_, c, ()) =>
  iter (spec_l1Cut.l0 k) k (s_, c, 0, ())
noncomputable def spec_l1Cut.sg (k : Nat) : Sig := ⟨spec_l1Cut.A, spec_l1Cut.R, spec_l1Cut k⟩
noncomputable def spec_l1Cut.C (k : Nat) : Ctx := ⟨Tryd.prog, [], k⟩
theorem spec_l1Cut.ev (k : Nat) (x : spec_l1Cut.A.T) : evFunc (spec_l1Cut.C k) spec_l1Cut.ann Tryd.f36 spec_l1Cut.A spec_l1Cut.R x = spec_l1Cut k x := by kernel_rfl
theorem spec_l1Cut.ok {L : List (Nat × Obj)}  (k : Nat) : SigHolds Tryd.prog L 36 (spec_l1Cut.sg k) :=
  sig_of_ev (C := spec_l1Cut.C k) holds_nil (by kernel_rfl) Tryd.func36 (by kernel_rfl) spec_l1Cut.ann spec_l1Cut.A spec_l1Cut.R (fun x y h => (spec_l1Cut.ev k x).trans h) (by kernel_rfl)

/-! loop.example/g00719/spec.l1Num -/
def spec_l1Num.A : Sh := (.cons (.pur .str) .nil)
def spec_l1Num.R : Sh := (.cons (.pur (.int .i64)) (.cons (.pur .bool) .nil))
def spec_l1Num.ann : Ann := { loops := [(0, [(0, (.pur .str)), (6, (.pur (.int .i64))), (7, (.pur (.int .i64)))])], joins := [(1, [(25, .bool)]), (4, [(52, .bool)]), (10, [(68, .bool)])], keys := [] }
noncomputable def spec_l1Num.l0 (k : Nat) (R_ : ((List UInt8) × Unit) → Option ((Int × Bool × Unit) × (Unit × Unit)))  (G0 : ((List UInt8) × Int × Int × Unit) → Option ((Int × Bool × Unit) × (Unit × Unit))) : ((List UInt8) × Int × Int × Unit) → Option ((Int × Bool × Unit) × (Unit × Unit)) := fun x => match x with
 | (s_, n, i, ()) =>
  br k (decide (i < (s_.length : Int)))
  ((br k (decide (0 ≤ i))
  (bd k (s_[i.toNat]?) fun b8 =>
  br k (decide ((b8.toNat : Int) < 48))
  (some (true, ()))
  (br k (decide (0 ≤ i))
  (bd k (s_[i.toNat]?) fun b9 =>
  some (decide ((b9.toNat : Int) > 57), ()))
  none))
  none : Option (Bool × Unit)).bind fun j10 =>
  br k (j10.1)
  (some ((0, false, ()), ((), ())))
  (br k (decide (0 ≤ i))
  (bd k (s_[i.toNat]?) fun b11 =>
  G0 (s_, IntKind.wrap .i64 ((IntKind.wrap .i64 (10 * n)) + (IntKind.wrap .i64 (IntKind.wrap .u8 ((b11.toNat : Int) - 48)))), IntKind.wrap .i64 (i + 1), ()))
  none))
  (some ((n, true, ()), ((), ())))
noncomputable def spec_l1Num.f (k : Nat) (R_ : ((List UInt8) × Unit) → Option ((Int × Bool × Unit) × (Unit × Unit))) : ((List UInt8) × Unit) → Option ((Int × Bool × Unit) × (Unit × Unit)) := fun x => match x with
 | (s_, ()) =>
  (br k (decide ((s_.length : Int) > 1))
  (br k (decide (0 ≤ (0 : Int)))
  (bd k (s_[(0 : Int).toNat]?) fun b1 =>
  br k ((b1.toNat : Int) == 45)
  (br k (decide (0 ≤ (1 : Int)))
  (bd k (s_[(1 : Int).toNat]?) fun b2 =>
  br k ((b2.toNat : Int) != 48)
  (br k (decide (0 ≤ (1 : Int)))
  (bd k (s_[(1 : Int).toNat]?) fun b3 =>
  some ((b3.toNat : Int) != 45, ()))
  none)
  (some (false, ())))
  none)
  (some (false, ())))
  none)
  (some (false, ())) : Option (Bool × Unit)).bind fun j4 =>
  br k (j4.1)
  (br k (decide (0 ≤ (1 : Int) ∧ (1 : Int) ≤ (s_.length : Int)))
  (bd k (R_ (s_.drop (1 : Int).toNat, ())) fun y5 =>
  some ((IntKind.wrap .i64 (0 - y5.1.1), y5.1.2.1, ()), ((), ())))
  none)
  ((br k (decide ((s_.length : Int) < 1))
  (some (true, ()))
  (br k (decide ((s_.length : Int) > 16))
  (some (true, ()))
  (br k (decide (0 ≤ (0 : Int)))
  (bd k (s_[(0 : Int).toNat]?) fun b6 =>
  br k ((b6.toNat : Int) == 48)
  (some (decide ((s_.length : Int) > 1), ()))
  (some (false, ())))
  none)) : Option (Bool × Unit)).bind fun j7 =>
  br k (j7.1)
  (some ((0, false, ()), ((), ())))
  (iter (spec_l1Num.l0 k R_) k (s_, 0, 0, ())))
noncomputable def spec_l1Num (k : Nat) : ((List UInt8) × Unit) → Option ((Int × Bool × Unit) × (Unit × Unit)) := iter (spec_l1Num.f k) k
noncomputable def spec_l1Num.sg (k : Nat) : Sig := ⟨spec_l1Num.A, spec_l1Num.R, spec_l1Num k⟩
noncomputable def spec_l1Num.C (k : Nat) (R_ : ((List UInt8) × Unit) → Option ((Int × Bool × Unit) × (Unit × Unit))) : Ctx := ⟨Tryd.prog, [(37, [⟨spec_l1Num.A, spec_l1Num.R, R_⟩])], k⟩
theorem spec_l1Num.ev (k : Nat) (R_ : ((List UInt8) × Unit) → Option ((Int × Bool × Unit) × (Unit × Unit))) (x : spec_l1Num.A.T) : evFunc (spec_l1Num.C k R_) spec_l1Num.ann Tryd.f37 spec_l1Num.A spec_l1Num.R x = spec_l1Num.f k R_ x := by kernel_rfl
theorem spec_l1Num.oks {L : List (Nat × Obj)}  (k : Nat) : (n : Nat) → SigHolds Tryd.prog L 37 ⟨spec_l1Num.A, spec_l1Num.R, iter (spec_l1Num.f k) n⟩
  | 0 => sig_zero Tryd.func37 (by kernel_rfl) (by kernel_rfl)
  | n + 1 => have ih := spec_l1Num.oks  k n
    sig_of_ev (C := spec_l1Num.C k (iter (spec_l1Num.f k) n)) (holds_cons (allok_cons (ih) allok_nil) holds_nil) (by kernel_rfl) Tryd.func37 (by kernel_rfl) spec_l1Num.ann spec_l1Num.A spec_l1Num.R (fun x y h => (spec_l1Num.ev k _ x).trans h) (by kernel_rfl)
theorem spec_l1Num.ok {L : List (Nat × Obj)}  (k : Nat) : SigHolds Tryd.prog L 37 (spec_l1Num.sg k) := spec_l1Num.oks  k k

/-! loop.example/g00719/spec.ReadAlarm -/
def spec_ReadAlarm.A : Sh := (.cons (.pur .str) .nil)
def spec_ReadAlarm.R : Sh := (.cons (.pur (.cons (.int .i64) (.cons (.int .i64) .nil))) (.cons (.pur .bool) .nil))
def spec_ReadAlarm.ann : Ann := { loops := [(0, [(0, (.pur .str)), (2, (.box (.cons (.pur (.int .i64)) (.cons (.pur (.int .i64)) .nil)))), (5, (.pur .str)), (7, (.pur (.int .i64))), (9, (.pur (.int .i64)))])], joins := [(7, [(38, .bool)])], keys := [] }
noncomputable def spec_ReadAlarm.l0 (k : Nat)  (G0 : ((List UInt8) × (Int × Int × Unit) × (List UInt8) × Int × Int × Unit) → Option (((Int × Int × Unit) × Bool × Unit) × (Unit × Unit))) : ((List UInt8) × (Int × Int × Unit) × (List UInt8) × Int × Int × Unit) → Option (((Int × Int × Unit) × Bool × Unit) × (Unit × Unit)) := fun x => match x with
 | (s_, (t2_0, t2_1, ()), word, line, k_, ()) =>
  br k (decide (k_ ≤ 8))
  ((bd k (spec_l13Kind k (k_, ())) fun y3 =>
  br k (y3.1.1 == word)
  (bd k (spec_AlarmText k ((line, k_, ()), ())) fun y4 =>
  some (y4.1.1 == s_, ()))
  (some (false, ())) : Option (Bool × Unit)).bind fun j5 =>
  br k (j5.1)
  (some (((line, k_, ()), true, ()), ((), ())))
  (G0 (s_, (t2_0, t2_1, ()), word, line, IntKind.wrap .i64 (2 * k_), ())))
  (some (((0, 0, ()), false, ()), ((), ())))
noncomputable def spec_ReadAlarm (k : Nat) : ((List UInt8) × Unit) → Option (((Int × Int × Unit) × Bool × Unit) × (Unit × Unit)) := fun x => match x with
 | (s_, ()) =>
  bd k (spec_l1Cut k (s_, 32, ())) fun y1 =>
  bd k (spec_l1Num k (y1.1.1, ())) fun y2 =>
  iter (spec_ReadAlarm.l0 k) k (s_, (0, 0, ()), y1.1.2.1, y2.1.1, 1, ())
noncomputable def spec_ReadAlarm.sg (k : Nat) : Sig := ⟨spec_ReadAlarm.A, spec_ReadAlarm.R, spec_ReadAlarm k⟩
noncomputable def spec_ReadAlarm.C (k : Nat) : Ctx := ⟨Tryd.prog, [(36, [spec_l1Cut.sg k]), (37, [spec_l1Num.sg k]), (31, [spec_l13Kind.sg k]), (8, [spec_AlarmText.sg k])], k⟩
theorem spec_ReadAlarm.ev (k : Nat) (x : spec_ReadAlarm.A.T) : evFunc (spec_ReadAlarm.C k) spec_ReadAlarm.ann Tryd.f11 spec_ReadAlarm.A spec_ReadAlarm.R x = spec_ReadAlarm k x := by kernel_rfl
theorem spec_ReadAlarm.ok {L : List (Nat × Obj)}  (k : Nat) : SigHolds Tryd.prog L 11 (spec_ReadAlarm.sg k) :=
  sig_of_ev (C := spec_ReadAlarm.C k) (holds_cons (allok_cons (spec_l1Cut.ok k) allok_nil) (holds_cons (allok_cons (spec_l1Num.ok k) allok_nil) (holds_cons (allok_cons (spec_l13Kind.ok k) allok_nil) (holds_cons (allok_cons (spec_AlarmText.ok k) allok_nil) holds_nil)))) (by kernel_rfl) Tryd.func11 (by kernel_rfl) spec_ReadAlarm.ann spec_ReadAlarm.A spec_ReadAlarm.R (fun x y h => (spec_ReadAlarm.ev k x).trans h) (by kernel_rfl)

/-! internal/stringslite.Cut -/
def stringslite_Cut.A : Sh := (.cons (.pur .str) (.cons (.pur .str) .nil))
def stringslite_Cut.R : Sh := (.cons (.pur .str) (.cons (.pur .str) (.cons (.pur .bool) .nil)))
def stringslite_Cut.ann : Ann := { loops := [], joins := [], keys := [] }
noncomputable def stringslite_Cut (k : Nat) : ((List UInt8) × (List UInt8) × Unit) → Option (((List UInt8) × (List UInt8) × Bool × Unit) × (Unit × Unit × Unit)) := fun x => match x with
 | (s_, sep, ()) =>
  bd k (Lb.Index k (s_, sep, ())) fun y1 =>
  br k (decide (y1.1.1 ≥ 0))
  (br k (decide (0 ≤ y1.1.1 ∧ y1.1.1 ≤ (s_.length : Int)))
  (br k (decide (0 ≤ (IntKind.wrap .i64 (y1.1.1 + (sep.length : Int))) ∧ (IntKind.wrap .i64 (y1.1.1 + (sep.length : Int))) ≤ (s_.length : Int)))
  (some ((s_.take y1.1.1.toNat, s_.drop (IntKind.wrap .i64 (y1.1.1 + (sep.length : Int))).toNat, true, ()), ((), (), ())))
  none)
  none)
  (some ((s_, [], false, ()), ((), (), ())))
noncomputable def stringslite_Cut.sg (k : Nat) : Sig := ⟨stringslite_Cut.A, stringslite_Cut.R, stringslite_Cut k⟩
noncomputable def stringslite_Cut.C (k : Nat) : Ctx := ⟨Tryd.prog, [(97, [Lb.Index.sg k])], k⟩
theorem stringslite_Cut.ev (k : Nat) (x : stringslite_Cut.A.T) : evFunc (stringslite_Cut.C k) stringslite_Cut.ann Tryd.f73 stringslite_Cut.A stringslite_Cut.R x = stringslite_Cut k x := by kernel_rfl
theorem stringslite_Cut.ok {L : List (Nat × Obj)}  (k : Nat) : SigHolds Tryd.prog L 73 (stringslite_Cut.sg k) :=
  sig_of_ev (C := stringslite_Cut.C k) (holds_cons (allok_cons (Lb.Index.ok k) allok_nil) holds_nil) (by kernel_rfl) Tryd.func73 (by kernel_rfl) stringslite_Cut.ann stringslite_Cut.A stringslite_Cut.R (fun x y h => (stringslite_Cut.ev k x).trans h) (by kernel_rfl)

/-! strings.Cut -/
def strings_Cut.A : Sh := (.cons (.pur .str) (.cons (.pur .str) .nil))
def strings_Cut.R : Sh := (.cons (.pur .str) (.cons (.pur .str) (.cons (.pur .bool) .nil)))
def strings_Cut.ann : Ann := { loops := [], joins := [], keys := [] }
noncomputable def strings_Cut (k : Nat) : ((List UInt8) × (List UInt8) × Unit) → Option (((List UInt8) × (List UInt8) × Bool × Unit) × (Unit × Unit × Unit)) := fun x => match x with
 | (s_, sep, ()) =>
  bd k (stringslite_Cut k (s_, sep, ())) fun y1 =>
  some ((y1.1.1, y1.1.2.1, y1.1.2.2.1, ()), ((), (), ()))
noncomputable def strings_Cut.sg (k : Nat) : Sig := ⟨strings_Cut.A, strings_Cut.R, strings_Cut k⟩
noncomputable def strings_Cut.C (k : Nat) : Ctx := ⟨Tryd.prog, [(73, [stringslite_Cut.sg k])], k⟩
theorem strings_Cut.ev (k : Nat) (x : strings_Cut.A.T) : evFunc (strings_Cut.C k) strings_Cut.ann Tryd.f38 strings_Cut.A strings_Cut.R x = strings_Cut k x := by kernel_rfl
theorem strings_Cut.ok {L : List (Nat × Obj)}  (k : Nat) : SigHolds Tryd.prog L 38 (strings_Cut.sg k) :=
  sig_of_ev (C := strings_Cut.C k) (holds_cons (allok_cons (stringslite_Cut.ok k) allok_nil) holds_nil) (by kernel_rfl) Tryd.func38 (by kernel_rfl) strings_Cut.ann strings_Cut.A strings_Cut.R (fun x y h => (strings_Cut.ev k x).trans h) (by kernel_rfl)

/-! internal/stringslite.HasPrefix -/
def stringslite_HasPrefix.A : Sh := (.cons (.pur .str) (.cons (.pur .str) .nil))
def stringslite_HasPrefix.R : Sh := (.cons (.pur .bool) .nil)
def stringslite_HasPrefix.ann : Ann := { loops := [], joins := [(1, [(4, .bool)])], keys := [] }
noncomputable def stringslite_HasPrefix (k : Nat) : ((List UInt8) × (List UInt8) × Unit) → Option ((Bool × Unit) × (Unit × Unit × Unit)) := fun x => match x with
 | (s_, prefix_, ()) =>
  (br k (decide ((s_.length : Int) ≥ (prefix_.length : Int)))
  (br k (decide (0 ≤ (prefix_.length : Int) ∧ (prefix_.length : Int) ≤ (s_.length : Int)))
  (some ((s_.take (prefix_.length : Int).toNat) == prefix_, ()))
  none)
  (some (false, ())) : Option (Bool × Unit)).bind fun j1 =>
  some ((j1.1, ()), ((), (), ()))
noncomputable def stringslite_HasPrefix.sg (k : Nat) : Sig := ⟨stringslite_HasPrefix.A, stringslite_HasPrefix.R, stringslite_HasPrefix k⟩
noncomputable def stringslite_HasPrefix.C (k : Nat) : Ctx := ⟨Tryd.prog, [], k⟩
theorem stringslite_HasPrefix.ev (k : Nat) (x : stringslite_HasPrefix.A.T) : evFunc (stringslite_HasPrefix.C k) stringslite_HasPrefix.ann Tryd.f127 stringslite_HasPrefix.A stringslite_HasPrefix.R x = stringslite_HasPrefix k x := by kernel_rfl
theorem stringslite_HasPrefix.ok {L : List (Nat × Obj)}  (k : Nat) : SigHolds Tryd.prog L 127 (stringslite_HasPrefix.sg k) :=
  sig_of_ev (C := stringslite_HasPrefix.C k) holds_nil (by kernel_rfl) Tryd.func127 (by kernel_rfl) stringslite_HasPrefix.ann stringslite_HasPrefix.A stringslite_HasPrefix.R (fun x y h => (stringslite_HasPrefix.ev k x).trans h) (by kernel_rfl)

/-! internal/stringslite.TrimPrefix -/
def stringslite_TrimPrefix.A : Sh := (.cons (.pur .str) (.cons (.pur .str) .nil))
def stringslite_TrimPrefix.R : Sh := (.cons (.pur .str) .nil)
def stringslite_TrimPrefix.ann : Ann := { loops := [], joins := [], keys := [] }
noncomputable def stringslite_TrimPrefix (k : Nat) : ((List UInt8) × (List UInt8) × Unit) → Option (((List UInt8) × Unit) × (Unit × Unit × Unit)) := fun x => match x with
 | (s_, prefix_, ()) =>
  bd k (stringslite_HasPrefix k (s_, prefix_, ())) fun y1 =>
  br k (y1.1.1)
  (br k (decide (0 ≤ (prefix_.length : Int) ∧ (prefix_.length : Int) ≤ (s_.length : Int)))
  (some ((s_.drop (prefix_.length : Int).toNat, ()), ((), (), ())))
  none)
  (some ((s_, ()), ((), (), ())))
noncomputable def stringslite_TrimPrefix.sg (k : Nat) : Sig := ⟨stringslite_TrimPrefix.A, stringslite_TrimPrefix.R, stringslite_TrimPrefix k⟩
noncomputable def stringslite_TrimPrefix.C (k : Nat) : Ctx := ⟨Tryd.prog, [(127, [stringslite_HasPrefix.sg k])], k⟩
theorem stringslite_TrimPrefix.ev (k : Nat) (x : stringslite_TrimPrefix.A.T) : evFunc (stringslite_TrimPrefix.C k) stringslite_TrimPrefix.ann Tryd.f100 stringslite_TrimPrefix.A stringslite_TrimPrefix.R x = stringslite_TrimPrefix k x := by kernel_rfl
theorem stringslite_TrimPrefix.ok {L : List (Nat × Obj)}  (k : Nat) : SigHolds Tryd.prog L 100 (stringslite_TrimPrefix.sg k) :=
  sig_of_ev (C := stringslite_TrimPrefix.C k) (holds_cons (allok_cons (stringslite_HasPrefix.ok k) allok_nil) holds_nil) (by kernel_rfl) Tryd.func100 (by kernel_rfl) stringslite_TrimPrefix.ann stringslite_TrimPrefix.A stringslite_TrimPrefix.R (fun x y h => (stringslite_TrimPrefix.ev k x).trans h) (by kernel_rfl)

/-! strings.TrimPrefix -/
def strings_TrimPrefix.A : Sh := (.cons (.pur .str) (.cons (.pur .str) .nil))
def strings_TrimPrefix.R : Sh := (.cons (.pur .str) .nil)
def strings_TrimPrefix.ann : Ann := { loops := [], joins := [], keys := [] }
noncomputable def strings_TrimPrefix (k : Nat) : ((List UInt8) × (List UInt8) × Unit) → Option (((List UInt8) × Unit) × (Unit × Unit × Unit)) := fun x => match x with
 | (s_, prefix_, ()) =>
  bd k (stringslite_TrimPrefix k (s_, prefix_, ())) fun y1 =>
  some ((y1.1.1, ()), ((), (), ()))
noncomputable def strings_TrimPrefix.sg (k : Nat) : Sig := ⟨strings_TrimPrefix.A, strings_TrimPrefix.R, strings_TrimPrefix k⟩
noncomputable def strings_TrimPrefix.C (k : Nat) : Ctx := ⟨Tryd.prog, [(100, [stringslite_TrimPrefix.sg k])], k⟩
theorem strings_TrimPrefix.ev (k : Nat) (x : strings_TrimPrefix.A.T) : evFunc (strings_TrimPrefix.C k) strings_TrimPrefix.ann Tryd.f75 strings_TrimPrefix.A strings_TrimPrefix.R x = strings_TrimPrefix k x := by kernel_rfl
theorem strings_TrimPrefix.ok {L : List (Nat × Obj)}  (k : Nat) : SigHolds Tryd.prog L 75 (strings_TrimPrefix.sg k) :=
  sig_of_ev (C := strings_TrimPrefix.C k) (holds_cons (allok_cons (stringslite_TrimPrefix.ok k) allok_nil) holds_nil) (by kernel_rfl) Tryd.func75 (by kernel_rfl) strings_TrimPrefix.ann strings_TrimPrefix.A strings_TrimPrefix.R (fun x y h => (strings_TrimPrefix.ev k x).trans h) (by kernel_rfl)

/-! loop.example/g00719/impl.readDecimal -/
def impl_readDecimal.A : Sh := (.cons (.pur .str) .nil)
def impl_readDecimal.R : Sh := (.cons (.pur (.int .i64)) (.cons (.pur .bool) .nil))
def impl_readDecimal.ann : Ann := { loops := [], joins := [(2, [(2, (.int .i64)), (3, .bool)])], keys := [] }
noncomputable def impl_readDecimal (k : Nat) : ((List UInt8) × Unit) → Option ((Int × Bool × Unit) × (Unit × Unit)) := fun x => match x with
 | (s_, ()) =>
  bd k (Lb.ParseInt k (s_, 10, 64, ())) fun y1 =>
  (br k (!(y1.1.2.1 && false))
  (br k (y1.1.2.1 == false)
  (bd k (strings_TrimPrefix k (s_, [45], ())) fun y2 =>
  br k (decide ((y2.1.1.length : Int) ≤ 16))
  (bd k (impl_decimal k (y1.1.1, ())) fun y3 =>
  some (y1.1.1, y3.1.1 == s_, ()))
  (some (y1.1.1, false, ())))
  (some (y1.1.1, false, ())))
  none : Option (Int × Bool × Unit)).bind fun j4 =>
  some ((j4.1, j4.2.1, ()), ((), ()))
noncomputable def impl_readDecimal.sg (k : Nat) : Sig := ⟨impl_readDecimal.A, impl_readDecimal.R, impl_readDecimal k⟩
noncomputable def impl_readDecimal.C (k : Nat) : Ctx := ⟨Tryd.prog, [(74, [Lb.ParseInt.sg k]), (75, [strings_TrimPrefix.sg k]), (35, [impl_decimal.sg k])], k⟩
theorem impl_readDecimal.ev (k : Nat) (x : impl_readDecimal.A.T) : evFunc (impl_readDecimal.C k) impl_readDecimal.ann Tryd.f39 impl_readDecimal.A impl_readDecimal.R x = impl_readDecimal k x := by kernel_rfl
theorem impl_readDecimal.ok {L : List (Nat × Obj)} (hErr : Lb.NeedErr L) (hFmt : Lb.NeedFmt L) (k : Nat) : SigHolds Tryd.prog L 39 (impl_readDecimal.sg k) :=
  sig_of_ev (C := impl_readDecimal.C k) (holds_cons (allok_cons (Lb.ParseInt.ok hErr k) allok_nil) (holds_cons (allok_cons (strings_TrimPrefix.ok k) allok_nil) (holds_cons (allok_cons (impl_decimal.ok hFmt k) allok_nil) holds_nil))) (by kernel_rfl) Tryd.func39 (by kernel_rfl) impl_readDecimal.ann impl_readDecimal.A impl_readDecimal.R (fun x y h => (impl_readDecimal.ev k x).trans h) (by kernel_rfl)

/-! loop.example/g00719/impl.ReadAlarm -/
def impl_ReadAlarm.A : Sh := (.cons (.pur .str) .nil)
def impl_ReadAlarm.R : Sh := (.cons (.pur (.cons (.int .i64) (.cons (.int .i64) .nil))) (.cons (.pur .bool) .nil))
def impl_ReadAlarm.ann : Ann := { loops := [(0, [(0, (.pur .str)), (2, (.box (.cons (.pur (.int .i64)) (.cons (.pur (.int .i64)) .nil)))), (5, (.pur .str)), (7, (.pur (.int .i64))), (8, (.pur .bool)), (23, (.own (.int .i64))), (24, (.pur (.int .i64))), (25, (.pur (.int .i64)))])], joins := [(7, [(44, .bool)])], keys := [] }
noncomputable def impl_ReadAlarm.l0 (k : Nat)  (G0 : ((List UInt8) × (Int × Int × Unit) × (List UInt8) × Int × Bool × (List Int) × Int × Int × Unit) → Option (((Int × Int × Unit) × Bool × Unit) × (Unit × Unit))) : ((List UInt8) × (Int × Int × Unit) × (List UInt8) × Int × Bool × (List Int) × Int × Int × Unit) → Option (((Int × Int × Unit) × Bool × Unit) × (Unit × Unit)) := fun x => match x with
 | (s_, (t2_0, t2_1, ()), name, n, ok, t23, t24, t25, ()) =>
  br k (decide (t25 < t24))
  (br k (decide (0 ≤ t25 ∧ t25 < (t23.length : Int)))
  (bd k (t23[t25.toNat]?) fun x3 =>
  (br k (ok)
  (bd k (impl_alarmName k (x3, ())) fun y4 =>
  br k (y4.1.1 == name)
  (bd k (impl_AlarmText k ((n, x3, ()), ())) fun y5 =>
  some (y5.1.1 == s_, ()))
  (some (false, ())))
  (some (false, ())) : Option (Bool × Unit)).bind fun j6 =>
  br k (j6.1)
  (some (((n, x3, ()), true, ()), ((), ())))
  (G0 (s_, (t2_0, t2_1, ()), name, n, ok, t23, t24, IntKind.wrap .i64 (t25 + 1), ())))
  none)
  (some (((0, 0, ()), false, ()), ((), ())))
noncomputable def impl_ReadAlarm (k : Nat) : ((List UInt8) × Unit) → Option (((Int × Int × Unit) × Bool × Unit) × (Unit × Unit)) := fun x => match x with
 | (s_, ()) =>
  bd k (strings_Cut k (s_, [32], ())) fun y1 =>
  bd k (impl_readDecimal k (y1.1.1, ())) fun y2 =>
  iter (impl_ReadAlarm.l0 k) k (s_, (0, 0, ()), y1.1.2.1, y2.1.1, y2.1.2.1, ([1, 2, 4, 8] : List Int), (([1, 2, 4, 8] : List Int).length : Int), 0, ())
noncomputable def impl_ReadAlarm.sg (k : Nat) : Sig := ⟨impl_ReadAlarm.A, impl_ReadAlarm.R, impl_ReadAlarm k⟩
noncomputable def impl_ReadAlarm.C (k : Nat) : Ctx := ⟨Tryd.prog, [(38, [strings_Cut.sg k]), (39, [impl_readDecimal.sg k]), (33, [impl_alarmName.sg k]), (10, [impl_AlarmText.sg k])], k⟩
theorem impl_ReadAlarm.ev (k : Nat) (x : impl_ReadAlarm.A.T) : evFunc (impl_ReadAlarm.C k) impl_ReadAlarm.ann Tryd.f12 impl_ReadAlarm.A impl_ReadAlarm.R x = impl_ReadAlarm k x := by kernel_rfl
theorem impl_ReadAlarm.ok {L : List (Nat × Obj)} (hErr : Lb.NeedErr L) (hFmt : Lb.NeedFmt L) (k : Nat) : SigHolds Tryd.prog L 12 (impl_ReadAlarm.sg k) :=
  sig_of_ev (C := impl_ReadAlarm.C k) (holds_cons (allok_cons (strings_Cut.ok k) allok_nil) (holds_cons (allok_cons (impl_readDecimal.ok hErr hFmt k) allok_nil) (holds_cons (allok_cons (impl_alarmName.ok k) allok_nil) (holds_cons (allok_cons (impl_AlarmText.ok hFmt k) allok_nil) holds_nil)))) (by kernel_rfl) Tryd.func12 (by kernel_rfl) impl_ReadAlarm.ann impl_ReadAlarm.A impl_ReadAlarm.R (fun x y h => (impl_ReadAlarm.ev k x).trans h) (by kernel_rfl)

/-! loop.example/g00719/laws.eqAlarm -/
def laws_eqAlarm.A : Sh := (.cons (.pur (.cons (.int .i64) (.cons (.int .i64) .nil))) (.cons (.pur (.cons (.int .i64) (.cons (.int .i64) .nil))) .nil))
def laws_eqAlarm.R : Sh := (.cons (.pur .bool) .nil)
def laws_eqAlarm.ann : Ann := { loops := [], joins := [], keys := [] }
noncomputable def laws_eqAlarm (k : Nat) : ((Int × Int × Unit) × (Int × Int × Unit) × Unit) → Option ((Bool × Unit) × (Unit × Unit × Unit)) := fun x => match x with
 | (a, b_, ()) =>
  br k (a.1 != b_.1)
  (some ((false, ()), ((), (), ())))
  (br k (a.2.1 != b_.2.1)
  (some ((false, ()), ((), (), ())))
  (some ((true, ()), ((), (), ()))))
noncomputable def laws_eqAlarm.sg (k : Nat) : Sig := ⟨laws_eqAlarm.A, laws_eqAlarm.R, laws_eqAlarm k⟩
noncomputable def laws_eqAlarm.C (k : Nat) : Ctx := ⟨Tryd.prog, [], k⟩
theorem laws_eqAlarm.ev (k : Nat) (x : laws_eqAlarm.A.T) : evFunc (laws_eqAlarm.C k) laws_eqAlarm.ann Tryd.f13 laws_eqAlarm.A laws_eqAlarm.R x = laws_eqAlarm k x := by kernel_rfl
theorem laws_eqAlarm.ok {L : List (Nat × Obj)}  (k : Nat) : SigHolds Tryd.prog L 13 (laws_eqAlarm.sg k) :=
  sig_of_ev (C := laws_eqAlarm.C k) holds_nil (by kernel_rfl) Tryd.func13 (by kernel_rfl) laws_eqAlarm.ann laws_eqAlarm.A laws_eqAlarm.R (fun x y h => (laws_eqAlarm.ev k x).trans h) (by kernel_rfl)

/-! loop.example/g00719/laws.FnExactReadAlarm -/
def laws_FnExactReadAlarm.A : Sh := (.cons (.pur .str) .nil)
def laws_FnExactReadAlarm.R : Sh := (.cons (.pur .bool) .nil)
def laws_FnExactReadAlarm.ann : Ann := { loops := [], joins := [(5, [(28, .bool)])], keys := [] }
noncomputable def laws_FnExactReadAlarm (k : Nat) : ((List UInt8) × Unit) → Option ((Bool × Unit) × (Unit × Unit)) := fun x => match x with
 | (aS, ()) =>
  br k (decide ((aS.length : Int) > 1048576))
  (some ((true, ()), ((), ())))
  (bd k (spec_ReadAlarm k (aS, ())) fun y1 =>
  bd k (impl_ReadAlarm k (aS, ())) fun y2 =>
  (bd k (laws_eqAlarm k (y2.1.1, y1.1.1, ())) fun y3 =>
  br k (!y3.1.1)
  (some (true, ()))
  (some (!(y2.1.2.1 == y1.1.2.1), ())) : Option (Bool × Unit)).bind fun j4 =>
  br k (j4.1)
  (some ((false, ()), ((), ())))
  (some ((true, ()), ((), ()))))
noncomputable def laws_FnExactReadAlarm.sg (k : Nat) : Sig := ⟨laws_FnExactReadAlarm.A, laws_FnExactReadAlarm.R, laws_FnExactReadAlarm k⟩
noncomputable def laws_FnExactReadAlarm.C (k : Nat) : Ctx := ⟨Tryd.prog, [(11, [spec_ReadAlarm.sg k]), (12, [impl_ReadAlarm.sg k]), (13, [laws_eqAlarm.sg k])], k⟩
theorem laws_FnExactReadAlarm.ev (k : Nat) (x : laws_FnExactReadAlarm.A.T) : evFunc (laws_FnExactReadAlarm.C k) laws_FnExactReadAlarm.ann Tryd.f4 laws_FnExactReadAlarm.A laws_FnExactReadAlarm.R x = laws_FnExactReadAlarm k x := by kernel_rfl
theorem laws_FnExactReadAlarm.ok {L : List (Nat × Obj)} (hErr : Lb.NeedErr L) (hFmt : Lb.NeedFmt L) (k : Nat) : SigHolds Tryd.prog L 4 (laws_FnExactReadAlarm.sg k) :=
  sig_of_ev (C := laws_FnExactReadAlarm.C k) (holds_cons (allok_cons (spec_ReadAlarm.ok k) allok_nil) (holds_cons (allok_cons (impl_ReadAlarm.ok hErr hFmt k) allok_nil) (holds_cons (allok_cons (laws_eqAlarm.ok k) allok_nil) holds_nil))) (by kernel_rfl) Tryd.func4 (by kernel_rfl) laws_FnExactReadAlarm.ann laws_FnExactReadAlarm.A laws_FnExactReadAlarm.R (fun x y h => (laws_FnExactReadAlarm.ev k x).trans h) (by kernel_rfl)

/-! loop.example/g00719/laws.big -/
def laws_big.A : Sh := (.cons (.pur (.sl false (.int .u8))) .nil)
def laws_big.R : Sh := (.cons (.pur .bool) .nil)
def laws_big.ann : Ann := { loops := [], joins := [], keys := [] }
noncomputable def laws_big (k : Nat) : ((List Int) × Unit) → Option ((Bool × Unit) × (Unit × Unit)) := fun x => match x with
 | (code, ()) =>
  some ((decide ((code.length : Int) > 1048576), ()), ((), ()))
noncomputable def laws_big.sg (k : Nat) : Sig := ⟨laws_big.A, laws_big.R, laws_big k⟩
noncomputable def laws_big.C (k : Nat) : Ctx := ⟨Tryd.prog, [], k⟩
theorem laws_big.ev (k : Nat) (x : laws_big.A.T) : evFunc (laws_big.C k) laws_big.ann Tryd.f14 laws_big.A laws_big.R x = laws_big k x := by kernel_rfl
theorem laws_big.ok {L : List (Nat × Obj)}  (k : Nat) : SigHolds Tryd.prog L 14 (laws_big.sg k) :=
  sig_of_ev (C := laws_big.C k) holds_nil (by kernel_rfl) Tryd.func14 (by kernel_rfl) laws_big.ann laws_big.A laws_big.R (fun x y h => (laws_big.ev k x).trans h) (by kernel_rfl)

/-! loop.example/g00719/spec.l1Open -/
def spec_l1Open.A : Sh := (.cons (.pur (.sl false (.int .u8))) .nil)
def spec_l1Open.R : Sh := (.cons (.box (.cons (.pur (.sl false (.int .u8))) (.cons (.pur (.int .i64)) .nil))) .nil)
def spec_l1Open.ann : Ann := { loops := [], joins := [], keys := [] }
noncomputable def spec_l1Open (k : Nat) : ((List Int) × Unit) → Option ((((List Int) × Int × Unit) × Unit) × (Unit × Unit)) := fun x => match x with
 | (code, ()) =>
  some (((code, 0, ()), ()), ((), ()))
noncomputable def spec_l1Open.sg (k : Nat) : Sig := ⟨spec_l1Open.A, spec_l1Open.R, spec_l1Open k⟩
noncomputable def spec_l1Open.C (k : Nat) : Ctx := ⟨Tryd.prog, [], k⟩
theorem spec_l1Open.ev (k : Nat) (x : spec_l1Open.A.T) : evFunc (spec_l1Open.C k) spec_l1Open.ann Tryd.f40 spec_l1Open.A spec_l1Open.R x = spec_l1Open k x := by kernel_rfl
theorem spec_l1Open.ok {L : List (Nat × Obj)}  (k : Nat) : SigHolds Tryd.prog L 40 (spec_l1Open.sg k) :=
  sig_of_ev (C := spec_l1Open.C k) holds_nil (by kernel_rfl) Tryd.func40 (by kernel_rfl) spec_l1Open.ann spec_l1Open.A spec_l1Open.R (fun x y h => (spec_l1Open.ev k x).trans h) (by kernel_rfl)

/-! (*loop.example/g00719/spec.l1Rd).next -/
def spec_l1Rd_next.A : Sh := (.cons (.box (.cons (.pur (.sl false (.int .u8))) (.cons (.pur (.int .i64)) .nil))) .nil)
def spec_l1Rd_next.R : Sh := (.cons (.pur (.int .i64)) .nil)
def spec_l1Rd_next.ann : Ann := { loops := [], joins := [], keys := [] }
noncomputable def spec_l1Rd_next (k : Nat) : (((List Int) × Int × Unit) × Unit) → Option ((Int × Unit) × (((List Int) × Int × Unit) × Unit)) := fun x => match x with
 | ((r_0, r_1, ()), ()) =>
  br k (decide (r_1 ≥ (r_0.length : Int)))
  (some ((0, ()), ((r_0, r_1, ()), ())))
  (br k (decide (0 ≤ (IntKind.wrap .i64 ((IntKind.wrap .i64 (r_1 + 1)) - 1))))
  (bd k (r_0[(IntKind.wrap .i64 ((IntKind.wrap .i64 (r_1 + 1)) - 1)).toNat]?) fun x1 =>
  some ((IntKind.wrap .i64 x1, ()), ((r_0, IntKind.wrap .i64 (r_1 + 1), ()), ())))
  none)
noncomputable def spec_l1Rd_next.sg (k : Nat) : Sig := ⟨spec_l1Rd_next.A, spec_l1Rd_next.R, spec_l1Rd_next k⟩
noncomputable def spec_l1Rd_next.C (k : Nat) : Ctx := ⟨Tryd.prog, [], k⟩
theorem spec_l1Rd_next.ev (k : Nat) (x : spec_l1Rd_next.A.T) : evFunc (spec_l1Rd_next.C k) spec_l1Rd_next.ann Tryd.f76 spec_l1Rd_next.A spec_l1Rd_next.R x = spec_l1Rd_next k x := by kernel_rfl
theorem spec_l1Rd_next.ok {L : List (Nat × Obj)}  (k : Nat) : SigHolds Tryd.prog L 76 (spec_l1Rd_next.sg k) :=
  sig_of_ev (C := spec_l1Rd_next.C k) holds_nil (by kernel_rfl) Tryd.func76 (by kernel_rfl) spec_l1Rd_next.ann spec_l1Rd_next.A spec_l1Rd_next.R (fun x y h => (spec_l1Rd_next.ev k x).trans h) (by kernel_rfl)

/-! (*loop.example/g00719/spec.l1Rd).below -/
def spec_l1Rd_below.A : Sh := (.cons (.box (.cons (.pur (.sl false (.int .u8))) (.cons (.pur (.int .i64)) .nil))) (.cons (.pur (.int .i64)) .nil))
def spec_l1Rd_below.R : Sh := (.cons (.pur (.int .i64)) .nil)
def spec_l1Rd_below.ann : Ann := { loops := [], joins := [], keys := [] }
noncomputable def spec_l1Rd_below (k : Nat) : (((List Int) × Int × Unit) × Int × Unit) → Option ((Int × Unit) × (((List Int) × Int × Unit) × Unit × Unit)) := fun x => match x with
 | ((r_0, r_1, ()), n, ()) =>
  br k (decide (n ≤ 1))
  (some ((0, ()), ((r_0, r_1, ()), (), ())))
  (br k (decide (n ≤ 256))
  (bd k (spec_l1Rd_next k ((r_0, r_1, ()), ())) fun y1 =>
  br k (!decide (n = 0))
  (some ((y1.1.1.tmod n, ()), ((y1.2.1.1, y1.2.1.2.1, ()), (), ())))
  none)
  (bd k (spec_l1Rd_next k ((r_0, r_1, ()), ())) fun y2 =>
  bd k (spec_l1Rd_next k ((y2.2.1.1, y2.2.1.2.1, ()), ())) fun y3 =>
  br k (!decide (n = 0))
  (some (((IntKind.wrap .i64 ((IntKind.wrap .i64 (y2.1.1 * 256)) + y3.1.1)).tmod n, ()), ((y3.2.1.1, y3.2.1.2.1, ()), (), ())))
  none))
noncomputable def spec_l1Rd_below.sg (k : Nat) : Sig := ⟨spec_l1Rd_below.A, spec_l1Rd_below.R, spec_l1Rd_below k⟩
noncomputable def spec_l1Rd_below.C (k : Nat) : Ctx := ⟨Tryd.prog, [(76, [spec_l1Rd_next.sg k])], k⟩
theorem spec_l1Rd_below.ev (k : Nat) (x : spec_l1Rd_below.A.T) : evFunc (spec_l1Rd_below.C k) spec_l1Rd_below.ann Tryd.f41 spec_l1Rd_below.A spec_l1Rd_below.R x = spec_l1Rd_below k x := by kernel_rfl
theorem spec_l1Rd_below.ok {L : List (Nat × Obj)}  (k : Nat) : SigHolds Tryd.prog L 41 (spec_l1Rd_below.sg k) :=
  sig_of_ev (C := spec_l1Rd_below.C k) (holds_cons (allok_cons (spec_l1Rd_next.ok k) allok_nil) holds_nil) (by kernel_rfl) Tryd.func41 (by kernel_rfl) spec_l1Rd_below.ann spec_l1Rd_below.A spec_l1Rd_below.R (fun x y h => (spec_l1Rd_below.ev k x).trans h) (by kernel_rfl)

/-! (*loop.example/g00719/spec.l1Rd).once -/
def spec_l1Rd_once.A : Sh := (.cons (.box (.cons (.pur (.sl false (.int .u8))) (.cons (.pur (.int .i64)) .nil))) (.cons (.pur (.int .i64)) .nil))
def spec_l1Rd_once.R : Sh := (.cons (.pur .bool) .nil)
def spec_l1Rd_once.ann : Ann := { loops := [], joins := [], keys := [] }
noncomputable def spec_l1Rd_once (k : Nat) : (((List Int) × Int × Unit) × Int × Unit) → Option ((Bool × Unit) × (((List Int) × Int × Unit) × Unit × Unit)) := fun x => match x with
 | ((r_0, r_1, ()), n, ()) =>
  bd k (spec_l1Rd_below k ((r_0, r_1, ()), n, ())) fun y1 =>
  some ((y1.1.1 == (IntKind.wrap .i64 (n - 1)), ()), ((y1.2.1.1, y1.2.1.2.1, ()), (), ()))
noncomputable def spec_l1Rd_once.sg (k : Nat) : Sig := ⟨spec_l1Rd_once.A, spec_l1Rd_once.R, spec_l1Rd_once k⟩
noncomputable def spec_l1Rd_once.C (k : Nat) : Ctx := ⟨Tryd.prog, [(41, [spec_l1Rd_below.sg k])], k⟩
theorem spec_l1Rd_once.ev (k : Nat) (x : spec_l1Rd_once.A.T) : evFunc (spec_l1Rd_once.C k) spec_l1Rd_once.ann Tryd.f43 spec_l1Rd_once.A spec_l1Rd_once.R x = spec_l1Rd_once k x := by kernel_rfl
theorem spec_l1Rd_once.ok {L : List (Nat × Obj)}  (k : Nat) : SigHolds Tryd.prog L 43 (spec_l1Rd_once.sg k) :=
  sig_of_ev (C := spec_l1Rd_once.C k) (holds_cons (allok_cons (spec_l1Rd_below.ok k) allok_nil) holds_nil) (by kernel_rfl) Tryd.func43 (by kernel_rfl) spec_l1Rd_once.ann spec_l1Rd_once.A spec_l1Rd_once.R (fun x y h => (spec_l1Rd_once.ev k x).trans h) (by kernel_rfl)

/-! (*loop.example/g00719/spec.l1Rd).word -/
def spec_l1Rd_word.A : Sh := (.cons (.box (.cons (.pur (.sl false (.int .u8))) (.cons (.pur (.int .i64)) .nil))) .nil)
def spec_l1Rd_word.R : Sh := (.cons (.pur (.int .u64)) .nil)
def spec_l1Rd_word.ann : Ann := { loops := [(0, [(0, (.box (.cons (.pur (.sl false (.int .u8))) (.cons (.pur (.int .i64)) .nil)))), (3, (.pur (.int .u64))), (4, (.pur (.int .i64)))])], joins := [], keys := [] }
noncomputable def spec_l1Rd_word.l0 (k : Nat)  (G0 : (((List Int) × Int × Unit) × Int × Int × Unit) → Option ((Int × Unit) × (((List Int) × Int × Unit) × Unit))) : (((List Int) × Int × Unit) × Int × Int × Unit) → Option ((Int × Unit) × (((List Int) × Int × Unit) × Unit)) := fun x => match x with
 | ((r_0, r_1, ()), x_, i, ()) =>
  br k (decide (i < 8))
  (br k (decide (0 ≤ (8 : Int)))
  (bd k (spec_l1Rd_next k ((r_0, r_1, ()), ())) fun y1 =>
  G0 ((y1.2.1.1, y1.2.1.2.1, ()), IntKind.wrap .u64 (((BitVec.ofInt 64 (IntKind.wrap .u64 (x_ * 2 ^ (min (8 : Int).toNat 64))) ||| BitVec.ofInt 64 (IntKind.wrap .u64 y1.1.1)).toNat : Int)), IntKind.wrap .i64 (i + 1), ()))
  none)
  (some ((x_, ()), ((r_0, r_1, ()), ())))
noncomputable def spec_l1Rd_word (k : Nat) : (((List Int) × Int × Unit) × Unit) → Option ((Int × Unit) × (((List Int) × Int × Unit) × Unit)) := fun x => match x with
 | ((r_0, r_1, ()), ()) =>
  iter (spec_l1Rd_word.l0 k) k ((r_0, r_1, ()), 0, 0, ())
noncomputable def spec_l1Rd_word.sg (k : Nat) : Sig := ⟨spec_l1Rd_word.A, spec_l1Rd_word.R, spec_l1Rd_word k⟩
noncomputable def spec_l1Rd_word.C (k : Nat) : Ctx := ⟨Tryd.prog, [(76, [spec_l1Rd_next.sg k])], k⟩
theorem spec_l1Rd_word.ev (k : Nat) (x : spec_l1Rd_word.A.T) : evFunc (spec_l1Rd_word.C k) spec_l1Rd_word.ann Tryd.f101 spec_l1Rd_word.A spec_l1Rd_word.R x = spec_l1Rd_word k x := by kernel_rfl
theorem spec_l1Rd_word.ok {L : List (Nat × Obj)}  (k : Nat) : SigHolds Tryd.prog L 101 (spec_l1Rd_word.sg k) :=
  sig_of_ev (C := spec_l1Rd_word.C k) (holds_cons (allok_cons (spec_l1Rd_next.ok k) allok_nil) holds_nil) (by kernel_rfl) Tryd.func101 (by kernel_rfl) spec_l1Rd_word.ann spec_l1Rd_word.A spec_l1Rd_word.R (fun x y h => (spec_l1Rd_word.ev k x).trans h) (by kernel_rfl)

/-! (*loop.example/g00719/spec.l1Rd).near -/
def spec_l1Rd_near.A : Sh := (.cons (.box (.cons (.pur (.sl false (.int .u8))) (.cons (.pur (.int .i64)) .nil))) (.cons (.pur (.int .i64)) (.cons (.pur (.int .i64)) .nil)))
def spec_l1Rd_near.R : Sh := (.cons (.pur (.int .i64)) .nil)
def spec_l1Rd_near.ann : Ann := { loops := [], joins := [], keys := [] }
noncomputable def spec_l1Rd_near (k : Nat) : (((List Int) × Int × Unit) × Int × Int × Unit) → Option ((Int × Unit) × (((List Int) × Int × Unit) × Unit × Unit × Unit)) := fun x => match x with
 | ((r_0, r_1, ()), low, high, ()) =>
  bd k (spec_l1Rd_below k ((r_0, r_1, ()), 8, ())) fun y1 =>
  br k (y1.1.1 == 0)
  (some ((low, ()), ((y1.2.1.1, y1.2.1.2.1, ()), (), (), ())))
  (br k (y1.1.1 == 1)
  (some ((high, ()), ((y1.2.1.1, y1.2.1.2.1, ()), (), (), ())))
  (br k (decide (high < low))
  (some ((low, ()), ((y1.2.1.1, y1.2.1.2.1, ()), (), (), ())))
  (bd k (spec_l1Rd_word k ((y1.2.1.1, y1.2.1.2.1, ()), ())) fun y2 =>
  br k (decide (0 ≤ (1 : Int)))
  (br k (!decide ((IntKind.wrap .u64 (IntKind.wrap .i64 ((IntKind.wrap .i64 (high - low)) + 1))) = 0))
  (some ((IntKind.wrap .i64 (low + (IntKind.wrap .i64 ((y2.1.1.fdiv (2 ^ (min (1 : Int).toNat 64))).tmod (IntKind.wrap .u64 (IntKind.wrap .i64 ((IntKind.wrap .i64 (high - low)) + 1)))))), ()), ((y2.2.1.1, y2.2.1.2.1, ()), (), (), ())))
  none)
  none)))
noncomputable def spec_l1Rd_near.sg (k : Nat) : Sig := ⟨spec_l1Rd_near.A, spec_l1Rd_near.R, spec_l1Rd_near k⟩
noncomputable def spec_l1Rd_near.C (k : Nat) : Ctx := ⟨Tryd.prog, [(41, [spec_l1Rd_below.sg k]), (101, [spec_l1Rd_word.sg k])], k⟩
theorem spec_l1Rd_near.ev (k : Nat) (x : spec_l1Rd_near.A.T) : evFunc (spec_l1Rd_near.C k) spec_l1Rd_near.ann Tryd.f77 spec_l1Rd_near.A spec_l1Rd_near.R x = spec_l1Rd_near k x := by kernel_rfl
theorem spec_l1Rd_near.ok {L : List (Nat × Obj)}  (k : Nat) : SigHolds Tryd.prog L 77 (spec_l1Rd_near.sg k) :=
  sig_of_ev (C := spec_l1Rd_near.C k) (holds_cons (allok_cons (spec_l1Rd_below.ok k) allok_nil) (holds_cons (allok_cons (spec_l1Rd_word.ok k) allok_nil) holds_nil)) (by kernel_rfl) Tryd.func77 (by kernel_rfl) spec_l1Rd_near.ann spec_l1Rd_near.A spec_l1Rd_near.R (fun x y h => (spec_l1Rd_near.ev k x).trans h) (by kernel_rfl)

/-! (*loop.example/g00719/spec.l1Rd).off -/
def spec_l1Rd_off.A : Sh := (.cons (.box (.cons (.pur (.sl false (.int .u8))) (.cons (.pur (.int .i64)) .nil))) (.cons (.pur (.int .i64)) (.cons (.pur (.int .i64)) .nil)))
def spec_l1Rd_off.R : Sh := (.cons (.pur (.int .i64)) .nil)
def spec_l1Rd_off.ann : Ann := { loops := [], joins := [], keys := [] }
noncomputable def spec_l1Rd_off (k : Nat) : (((List Int) × Int × Unit) × Int × Int × Unit) → Option ((Int × Unit) × (((List Int) × Int × Unit) × Unit × Unit × Unit)) := fun x => match x with
 | ((r_0, r_1, ()), low, high, ()) =>
  bd k (spec_l1Rd_once k ((r_0, r_1, ()), 24, ())) fun y1 =>
  br k (y1.1.1)
  (bd k (spec_l1Rd_below k ((y1.2.1.1, y1.2.1.2.1, ()), 4, ())) fun y2 =>
  br k (decide (0 ≤ y2.1.1 ∧ y2.1.1 < (([IntKind.wrap .i64 (low - 1), IntKind.wrap .i64 (high + 1), (-9223372036854775808), 9223372036854775807] : List Int).length : Int)))
  (bd k (([IntKind.wrap .i64 (low - 1), IntKind.wrap .i64 (high + 1), (-9223372036854775808), 9223372036854775807] : List Int)[y2.1.1.toNat]?) fun x3 =>
  some ((x3, ()), ((y2.2.1.1, y2.2.1.2.1, ()), (), (), ())))
  none)
  (bd k (spec_l1Rd_near k ((y1.2.1.1, y1.2.1.2.1, ()), low, high, ())) fun y4 =>
  some ((y4.1.1, ()), ((y4.2.1.1, y4.2.1.2.1, ()), (), (), ())))
noncomputable def spec_l1Rd_off.sg (k : Nat) : Sig := ⟨spec_l1Rd_off.A, spec_l1Rd_off.R, spec_l1Rd_off k⟩
noncomputable def spec_l1Rd_off.C (k : Nat) : Ctx := ⟨Tryd.prog, [(43, [spec_l1Rd_once.sg k]), (41, [spec_l1Rd_below.sg k]), (77, [spec_l1Rd_near.sg k])], k⟩
theorem spec_l1Rd_off.ev (k : Nat) (x : spec_l1Rd_off.A.T) : evFunc (spec_l1Rd_off.C k) spec_l1Rd_off.ann Tryd.f42 spec_l1Rd_off.A spec_l1Rd_off.R x = spec_l1Rd_off k x := by kernel_rfl
theorem spec_l1Rd_off.ok {L : List (Nat × Obj)}  (k : Nat) : SigHolds Tryd.prog L 42 (spec_l1Rd_off.sg k) :=
  sig_of_ev (C := spec_l1Rd_off.C k) (holds_cons (allok_cons (spec_l1Rd_once.ok k) allok_nil) (holds_cons (allok_cons (spec_l1Rd_below.ok k) allok_nil) (holds_cons (allok_cons (spec_l1Rd_near.ok k) allok_nil) holds_nil))) (by kernel_rfl) Tryd.func42 (by kernel_rfl) spec_l1Rd_off.ann spec_l1Rd_off.A spec_l1Rd_off.R (fun x y h => (spec_l1Rd_off.ev k x).trans h) (by kernel_rfl)

/-! loop.example/g00719/spec.DrawAlarmText -/
def spec_DrawAlarmText.A : Sh := (.cons (.pur (.sl false (.int .u8))) .nil)
def spec_DrawAlarmText.R : Sh := (.cons (.pur (.cons (.int .i64) (.cons (.int .i64) .nil))) .nil)
def spec_DrawAlarmText.ann : Ann := { loops := [], joins := [], keys := [] }
noncomputable def spec_DrawAlarmText (k : Nat) : ((List Int) × Unit) → Option (((Int × Int × Unit) × Unit) × (Unit × Unit)) := fun x => match x with
 | (code, ()) =>
  bd k (spec_l1Open k (code, ())) fun y1 =>
  bd k (spec_l1Rd_below k ((y1.1.1.1, y1.1.1.2.1, ()), 30, ())) fun y2 =>
  bd k (spec_l1Rd_below k ((y2.2.1.1, y2.2.1.2.1, ()), 4, ())) fun y3 =>
  br k (decide (0 ≤ (IntKind.wrap .u64 y3.1.1)))
  (bd k (spec_l1Rd_below k ((y3.2.1.1, y3.2.1.2.1, ()), 12, ())) fun y4 =>
  br k (y4.1.1 == 0)
  (bd k (spec_l1Rd_off k ((y4.2.1.1, y4.2.1.2.1, ()), 0, 29, ())) fun y5 =>
  some (((y5.1.1, IntKind.wrap .i64 (1 * 2 ^ (min (IntKind.wrap .u64 y3.1.1).toNat 64)), ()), ()), ((), ())))
  (br k (y4.1.1 == 1)
  (bd k (spec_l1Rd_off k ((y4.2.1.1, y4.2.1.2.1, ()), 0, 8, ())) fun y6 =>
  some (((y2.1.1, y6.1.1, ()), ()), ((), ())))
  (some (((y2.1.1, IntKind.wrap .i64 (1 * 2 ^ (min (IntKind.wrap .u64 y3.1.1).toNat 64)), ()), ()), ((), ())))))
  none
noncomputable def spec_DrawAlarmText.sg (k : Nat) : Sig := ⟨spec_DrawAlarmText.A, spec_DrawAlarmText.R, spec_DrawAlarmText k⟩
noncomputable def spec_DrawAlarmText.C (k : Nat) : Ctx := ⟨Tryd.prog, [(40, [spec_l1Open.sg k]), (41, [spec_l1Rd_below.sg k]), (42, [spec_l1Rd_off.sg k])], k⟩
theorem spec_DrawAlarmText.ev (k : Nat) (x : spec_DrawAlarmText.A.T) : evFunc (spec_DrawAlarmText.C k) spec_DrawAlarmText.ann Tryd.f15 spec_DrawAlarmText.A spec_DrawAlarmText.R x = spec_DrawAlarmText k x := by kernel_rfl
theorem spec_DrawAlarmText.ok {L : List (Nat × Obj)}  (k : Nat) : SigHolds Tryd.prog L 15 (spec_DrawAlarmText.sg k) :=
  sig_of_ev (C := spec_DrawAlarmText.C k) (holds_cons (allok_cons (spec_l1Open.ok k) allok_nil) (holds_cons (allok_cons (spec_l1Rd_below.ok k) allok_nil) (holds_cons (allok_cons (spec_l1Rd_off.ok k) allok_nil) holds_nil))) (by kernel_rfl) Tryd.func15 (by kernel_rfl) spec_DrawAlarmText.ann spec_DrawAlarmText.A spec_DrawAlarmText.R (fun x y h => (spec_DrawAlarmText.ev k x).trans h) (by kernel_rfl)

end Go.Pev.F
