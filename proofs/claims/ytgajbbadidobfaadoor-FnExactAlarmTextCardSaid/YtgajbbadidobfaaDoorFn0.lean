/-
  Printed by gen.py: what functions of the program compute, and that they do.
-/
import Derived.Test.YtgajbbadidobfaaDoorProg
import Derived.Test.YtgajbbadidobfaaDoorPevPur
import Derived.Test.YtgajbbadidobfaaDoorLbFmt
import Derived.KernelRfl
open Go.Proofs Go.Pev
namespace Go.Pev.F
set_option maxRecDepth 100000
set_option linter.unusedVariables false

/-! loop.example/g00719/laws.toAlarm -/
def laws_toAlarm.A : Sh := (.cons (.pur (.cons (.int .i64) (.cons (.int .i64) .nil))) .nil)
def laws_toAlarm.R : Sh := (.cons (.pur (.cons (.int .i64) (.cons (.int .i64) .nil))) .nil)
def laws_toAlarm.ann : Ann := { loops := [], joins := [], keys := [] }
noncomputable def laws_toAlarm (k : Nat) : ((Int × Int × Unit) × Unit) → Option (((Int × Int × Unit) × Unit) × (Unit × Unit)) := fun x => match x with
 | (a, ()) =>
  some ((a, ()), ((), ()))
noncomputable def laws_toAlarm.sg (k : Nat) : Sig := ⟨laws_toAlarm.A, laws_toAlarm.R, laws_toAlarm k⟩
noncomputable def laws_toAlarm.C (k : Nat) : Ctx := ⟨Tryd.prog, [], k⟩
theorem laws_toAlarm.ev (k : Nat) (x : laws_toAlarm.A.T) : evFunc (laws_toAlarm.C k) laws_toAlarm.ann Tryd.f9 laws_toAlarm.A laws_toAlarm.R x = laws_toAlarm k x := by kernel_rfl
theorem laws_toAlarm.ok {L : List (Nat × Obj)}  (k : Nat) : SigHolds Tryd.prog L 9 (laws_toAlarm.sg k) :=
  sig_of_ev (C := laws_toAlarm.C k) holds_nil (by kernel_rfl) Tryd.func9 (by kernel_rfl) laws_toAlarm.ann laws_toAlarm.A laws_toAlarm.R (fun x y h => (laws_toAlarm.ev k x).trans h) (by kernel_rfl)

/-! loop.example/g00719/spec.l1In -/
def spec_l1In.A : Sh := (.cons (.pur (.int .i64)) (.cons (.pur (.int .i64)) (.cons (.pur (.int .i64)) .nil)))
def spec_l1In.R : Sh := (.cons (.pur .bool) .nil)
def spec_l1In.ann : Ann := { loops := [], joins := [(1, [(6, .bool)])], keys := [] }
noncomputable def spec_l1In (k : Nat) : (Int × Int × Int × Unit) → Option ((Bool × Unit) × (Unit × Unit × Unit × Unit)) := fun x => match x with
 | (n, low, high, ()) =>
  (br k (decide (n ≥ low))
  (some (decide (n ≤ high), ()))
  (some (false, ())) : Option (Bool × Unit)).bind fun j1 =>
  some ((j1.1, ()), ((), (), (), ()))
noncomputable def spec_l1In.sg (k : Nat) : Sig := ⟨spec_l1In.A, spec_l1In.R, spec_l1In k⟩
noncomputable def spec_l1In.C (k : Nat) : Ctx := ⟨Tryd.prog, [], k⟩
theorem spec_l1In.ev (k : Nat) (x : spec_l1In.A.T) : evFunc (spec_l1In.C k) spec_l1In.ann Tryd.f30 spec_l1In.A spec_l1In.R x = spec_l1In k x := by kernel_rfl
theorem spec_l1In.ok {L : List (Nat × Obj)}  (k : Nat) : SigHolds Tryd.prog L 30 (spec_l1In.sg k) :=
  sig_of_ev (C := spec_l1In.C k) holds_nil (by kernel_rfl) Tryd.func30 (by kernel_rfl) spec_l1In.ann spec_l1In.A spec_l1In.R (fun x y h => (spec_l1In.ev k x).trans h) (by kernel_rfl)

/-! loop.example/g00719/spec.l13Kind -/
def spec_l13Kind.A : Sh := (.cons (.pur (.int .i64)) .nil)
def spec_l13Kind.R : Sh := (.cons (.pur .str) .nil)
def spec_l13Kind.ann : Ann := { loops := [], joins := [], keys := [] }
noncomputable def spec_l13Kind (k : Nat) : (Int × Unit) → Option (((List UInt8) × Unit) × (Unit × Unit)) := fun x => match x with
 | (kind, ()) =>
  br k (kind == 1)
  (some (([100, 105, 118], ()), ((), ())))
  (br k (kind == 2)
  (some (([98, 111, 117, 110, 100, 115], ()), ((), ())))
  (br k (kind == 4)
  (some (([111, 118, 101, 114], ()), ((), ())))
  (br k (kind == 8)
  (some (([97, 115, 115, 101, 114, 116], ()), ((), ())))
  (some (([], ()), ((), ()))))))
noncomputable def spec_l13Kind.sg (k : Nat) : Sig := ⟨spec_l13Kind.A, spec_l13Kind.R, spec_l13Kind k⟩
noncomputable def spec_l13Kind.C (k : Nat) : Ctx := ⟨Tryd.prog, [], k⟩
theorem spec_l13Kind.ev (k : Nat) (x : spec_l13Kind.A.T) : evFunc (spec_l13Kind.C k) spec_l13Kind.ann Tryd.f31 spec_l13Kind.A spec_l13Kind.R x = spec_l13Kind k x := by kernel_rfl
theorem spec_l13Kind.ok {L : List (Nat × Obj)}  (k : Nat) : SigHolds Tryd.prog L 31 (spec_l13Kind.sg k) :=
  sig_of_ev (C := spec_l13Kind.C k) holds_nil (by kernel_rfl) Tryd.func31 (by kernel_rfl) spec_l13Kind.ann spec_l13Kind.A spec_l13Kind.R (fun x y h => (spec_l13Kind.ev k x).trans h) (by kernel_rfl)

/-! loop.example/g00719/spec.l1Dec -/
def spec_l1Dec.A : Sh := (.cons (.pur (.int .i64)) .nil)
def spec_l1Dec.R : Sh := (.cons (.pur .str) .nil)
def spec_l1Dec.ann : Ann := { loops := [(0, [(0, (.pur (.int .i64))), (3, (.pur (.int .u64))), (4, (.pur .str))])], joins := [], keys := [] }
noncomputable def spec_l1Dec.l0 (k : Nat)  (G0 : (Int × Int × (List UInt8) × Unit) → Option (((List UInt8) × Unit) × (Unit × Unit))) : (Int × Int × (List UInt8) × Unit) → Option (((List UInt8) × Unit) × (Unit × Unit)) := fun x => match x with
 | (n, m_, s_, ()) =>
  br k (decide (m_ ≥ 10))
  (br k (!decide ((10 : Int) = 0))
  (br k (decide ((((([IntKind.wrap .u8 (IntKind.wrap .u64 (48 + (m_.tmod 10)))] : List Int).map (fun n : Int => UInt8.ofNat n.toNat)).length + s_.length : Nat) : Int) ≤ maxInt64))
  (br k (!decide ((10 : Int) = 0))
  (G0 (n, IntKind.wrap .u64 (m_.tdiv 10), (([IntKind.wrap .u8 (IntKind.wrap .u64 (48 + (m_.tmod 10)))] : List Int).map (fun n : Int => UInt8.ofNat n.toNat)) ++ s_, ()))
  none)
  none)
  none)
  (br k (decide ((((([IntKind.wrap .u8 (IntKind.wrap .u64 (48 + m_))] : List Int).map (fun n : Int => UInt8.ofNat n.toNat)).length + s_.length : Nat) : Int) ≤ maxInt64))
  (br k (decide (n < 0))
  (br k (decide (((([45] : List UInt8).length + ((([IntKind.wrap .u8 (IntKind.wrap .u64 (48 + m_))] : List Int).map (fun n : Int => UInt8.ofNat n.toNat)) ++ s_).length : Nat) : Int) ≤ maxInt64))
  (some ((([45] : List UInt8) ++ ((([IntKind.wrap .u8 (IntKind.wrap .u64 (48 + m_))] : List Int).map (fun n : Int => UInt8.ofNat n.toNat)) ++ s_), ()), ((), ())))
  none)
  (some (((([IntKind.wrap .u8 (IntKind.wrap .u64 (48 + m_))] : List Int).map (fun n : Int => UInt8.ofNat n.toNat)) ++ s_, ()), ((), ()))))
  none)
noncomputable def spec_l1Dec (k : Nat) : (Int × Unit) → Option (((List UInt8) × Unit) × (Unit × Unit)) := fun x => match x with
 | (n, ()) =>
  br k (decide (n < 0))
  (iter (spec_l1Dec.l0 k) k (n, IntKind.wrap .u64 (0 - (IntKind.wrap .u64 n)), [], ()))
  (iter (spec_l1Dec.l0 k) k (n, IntKind.wrap .u64 n, [], ()))
noncomputable def spec_l1Dec.sg (k : Nat) : Sig := ⟨spec_l1Dec.A, spec_l1Dec.R, spec_l1Dec k⟩
noncomputable def spec_l1Dec.C (k : Nat) : Ctx := ⟨Tryd.prog, [], k⟩
theorem spec_l1Dec.ev (k : Nat) (x : spec_l1Dec.A.T) : evFunc (spec_l1Dec.C k) spec_l1Dec.ann Tryd.f32 spec_l1Dec.A spec_l1Dec.R x = spec_l1Dec k x := by kernel_rfl
theorem spec_l1Dec.ok {L : List (Nat × Obj)}  (k : Nat) : SigHolds Tryd.prog L 32 (spec_l1Dec.sg k) :=
  sig_of_ev (C := spec_l1Dec.C k) holds_nil (by kernel_rfl) Tryd.func32 (by kernel_rfl) spec_l1Dec.ann spec_l1Dec.A spec_l1Dec.R (fun x y h => (spec_l1Dec.ev k x).trans h) (by kernel_rfl)

/-! loop.example/g00719/spec.AlarmText -/
def spec_AlarmText.A : Sh := (.cons (.pur (.cons (.int .i64) (.cons (.int .i64) .nil))) .nil)
def spec_AlarmText.R : Sh := (.cons (.pur .str) .nil)
def spec_AlarmText.ann : Ann := { loops := [], joins := [(1, [(12, .bool)])], keys := [] }
noncomputable def spec_AlarmText (k : Nat) : ((Int × Int × Unit) × Unit) → Option (((List UInt8) × Unit) × (Unit × Unit)) := fun x => match x with
 | (a, ()) =>
  (bd k (spec_l1In k (a.1, 0, 29, ())) fun y1 =>
  br k (!y1.1.1)
  (some (true, ()))
  (bd k (spec_l13Kind k (a.2.1, ())) fun y2 =>
  some (y2.1.1 == [], ())) : Option (Bool × Unit)).bind fun j3 =>
  br k (j3.1)
  (some (([], ()), ((), ())))
  (bd k (spec_l1Dec k (a.1, ())) fun y4 =>
  br k (decide (((y4.1.1.length + ([32] : List UInt8).length : Nat) : Int) ≤ maxInt64))
  (bd k (spec_l13Kind k (a.2.1, ())) fun y5 =>
  br k (decide ((((y4.1.1 ++ [32]).length + y5.1.1.length : Nat) : Int) ≤ maxInt64))
  (some (((y4.1.1 ++ [32]) ++ y5.1.1, ()), ((), ())))
  none)
  none)
noncomputable def spec_AlarmText.sg (k : Nat) : Sig := ⟨spec_AlarmText.A, spec_AlarmText.R, spec_AlarmText k⟩
noncomputable def spec_AlarmText.C (k : Nat) : Ctx := ⟨Tryd.prog, [(30, [spec_l1In.sg k]), (31, [spec_l13Kind.sg k]), (32, [spec_l1Dec.sg k])], k⟩
theorem spec_AlarmText.ev (k : Nat) (x : spec_AlarmText.A.T) : evFunc (spec_AlarmText.C k) spec_AlarmText.ann Tryd.f8 spec_AlarmText.A spec_AlarmText.R x = spec_AlarmText k x := by kernel_rfl
theorem spec_AlarmText.ok {L : List (Nat × Obj)}  (k : Nat) : SigHolds Tryd.prog L 8 (spec_AlarmText.sg k) :=
  sig_of_ev (C := spec_AlarmText.C k) (holds_cons (allok_cons (spec_l1In.ok k) allok_nil) (holds_cons (allok_cons (spec_l13Kind.ok k) allok_nil) (holds_cons (allok_cons (spec_l1Dec.ok k) allok_nil) holds_nil))) (by kernel_rfl) Tryd.func8 (by kernel_rfl) spec_AlarmText.ann spec_AlarmText.A spec_AlarmText.R (fun x y h => (spec_AlarmText.ev k x).trans h) (by kernel_rfl)

/-! loop.example/g00719/impl.alarmName -/
def impl_alarmName.A : Sh := (.cons (.pur (.int .i64)) .nil)
def impl_alarmName.R : Sh := (.cons (.pur .str) .nil)
def impl_alarmName.ann : Ann := { loops := [], joins := [], keys := [] }
noncomputable def impl_alarmName (k : Nat) : (Int × Unit) → Option (((List UInt8) × Unit) × (Unit × Unit)) := fun x => match x with
 | (kind, ()) =>
  br k (kind == 1)
  (some (([100, 105, 118], ()), ((), ())))
  (br k (kind == 2)
  (some (([98, 111, 117, 110, 100, 115], ()), ((), ())))
  (br k (kind == 4)
  (some (([111, 118, 101, 114], ()), ((), ())))
  (br k (kind == 8)
  (some (([97, 115, 115, 101, 114, 116], ()), ((), ())))
  (some (([], ()), ((), ()))))))
noncomputable def impl_alarmName.sg (k : Nat) : Sig := ⟨impl_alarmName.A, impl_alarmName.R, impl_alarmName k⟩
noncomputable def impl_alarmName.C (k : Nat) : Ctx := ⟨Tryd.prog, [], k⟩
theorem impl_alarmName.ev (k : Nat) (x : impl_alarmName.A.T) : evFunc (impl_alarmName.C k) impl_alarmName.ann Tryd.f33 impl_alarmName.A impl_alarmName.R x = impl_alarmName k x := by kernel_rfl
theorem impl_alarmName.ok {L : List (Nat × Obj)}  (k : Nat) : SigHolds Tryd.prog L 33 (impl_alarmName.sg k) :=
  sig_of_ev (C := impl_alarmName.C k) holds_nil (by kernel_rfl) Tryd.func33 (by kernel_rfl) impl_alarmName.ann impl_alarmName.A impl_alarmName.R (fun x y h => (impl_alarmName.ev k x).trans h) (by kernel_rfl)

/-! loop.example/g00719/impl.within -/
def impl_within.A : Sh := (.cons (.pur (.int .i64)) (.cons (.pur (.int .i64)) (.cons (.pur (.int .i64)) .nil)))
def impl_within.R : Sh := (.cons (.pur .bool) .nil)
def impl_within.ann : Ann := { loops := [], joins := [(1, [(6, .bool)])], keys := [] }
noncomputable def impl_within (k : Nat) : (Int × Int × Int × Unit) → Option ((Bool × Unit) × (Unit × Unit × Unit × Unit)) := fun x => match x with
 | (n, low, high, ()) =>
  (br k (decide (low ≤ n))
  (some (decide (n ≤ high), ()))
  (some (false, ())) : Option (Bool × Unit)).bind fun j1 =>
  some ((j1.1, ()), ((), (), (), ()))
noncomputable def impl_within.sg (k : Nat) : Sig := ⟨impl_within.A, impl_within.R, impl_within k⟩
noncomputable def impl_within.C (k : Nat) : Ctx := ⟨Tryd.prog, [], k⟩
theorem impl_within.ev (k : Nat) (x : impl_within.A.T) : evFunc (impl_within.C k) impl_within.ann Tryd.f34 impl_within.A impl_within.R x = impl_within k x := by kernel_rfl
theorem impl_within.ok {L : List (Nat × Obj)}  (k : Nat) : SigHolds Tryd.prog L 34 (impl_within.sg k) :=
  sig_of_ev (C := impl_within.C k) holds_nil (by kernel_rfl) Tryd.func34 (by kernel_rfl) impl_within.ann impl_within.A impl_within.R (fun x y h => (impl_within.ev k x).trans h) (by kernel_rfl)

/-! loop.example/g00719/impl.decimal -/
def impl_decimal.A : Sh := (.cons (.pur (.int .i64)) .nil)
def impl_decimal.R : Sh := (.cons (.pur .str) .nil)
def impl_decimal.ann : Ann := { loops := [], joins := [], keys := [] }
noncomputable def impl_decimal (k : Nat) : (Int × Unit) → Option (((List UInt8) × Unit) × (Unit × Unit)) := fun x => match x with
 | (n, ()) =>
  bd k (Lb.FormatInt k (n, 10, ())) fun y1 =>
  some ((y1.1.1, ()), ((), ()))
noncomputable def impl_decimal.sg (k : Nat) : Sig := ⟨impl_decimal.A, impl_decimal.R, impl_decimal k⟩
noncomputable def impl_decimal.C (k : Nat) : Ctx := ⟨Tryd.prog, [(72, [Lb.FormatInt.sg k])], k⟩
theorem impl_decimal.ev (k : Nat) (x : impl_decimal.A.T) : evFunc (impl_decimal.C k) impl_decimal.ann Tryd.f35 impl_decimal.A impl_decimal.R x = impl_decimal k x := by kernel_rfl
theorem impl_decimal.ok {L : List (Nat × Obj)} (hFmt : Lb.NeedFmt L) (k : Nat) : SigHolds Tryd.prog L 35 (impl_decimal.sg k) :=
  sig_of_ev (C := impl_decimal.C k) (holds_cons (allok_cons (Lb.FormatInt.ok hFmt k) allok_nil) holds_nil) (by kernel_rfl) Tryd.func35 (by kernel_rfl) impl_decimal.ann impl_decimal.A impl_decimal.R (fun x y h => (impl_decimal.ev k x).trans h) (by kernel_rfl)

/-! loop.example/g00719/impl.AlarmText -/
def impl_AlarmText.A : Sh := (.cons (.pur (.cons (.int .i64) (.cons (.int .i64) .nil))) .nil)
def impl_AlarmText.R : Sh := (.cons (.pur .str) .nil)
def impl_AlarmText.ann : Ann := { loops := [], joins := [(2, [(14, .bool)])], keys := [] }
noncomputable def impl_AlarmText (k : Nat) : ((Int × Int × Unit) × Unit) → Option (((List UInt8) × Unit) × (Unit × Unit)) := fun x => match x with
 | (a, ()) =>
  bd k (impl_alarmName k (a.2.1, ())) fun y1 =>
  (bd k (impl_within k (a.1, 0, 29, ())) fun y2 =>
  br k (!y2.1.1)
  (some (true, ()))
  (some (y1.1.1 == [], ())) : Option (Bool × Unit)).bind fun j3 =>
  br k (j3.1)
  (some (([], ()), ((), ())))
  (bd k (impl_decimal k (a.1, ())) fun y4 =>
  br k (decide (((y4.1.1.length + ([32] : List UInt8).length : Nat) : Int) ≤ maxInt64))
  (br k (decide ((((y4.1.1 ++ [32]).length + y1.1.1.length : Nat) : Int) ≤ maxInt64))
  (some (((y4.1.1 ++ [32]) ++ y1.1.1, ()), ((), ())))
  none)
  none)
noncomputable def impl_AlarmText.sg (k : Nat) : Sig := ⟨impl_AlarmText.A, impl_AlarmText.R, impl_AlarmText k⟩
noncomputable def impl_AlarmText.C (k : Nat) : Ctx := ⟨Tryd.prog, [(33, [impl_alarmName.sg k]), (34, [impl_within.sg k]), (35, [impl_decimal.sg k])], k⟩
theorem impl_AlarmText.ev (k : Nat) (x : impl_AlarmText.A.T) : evFunc (impl_AlarmText.C k) impl_AlarmText.ann Tryd.f10 impl_AlarmText.A impl_AlarmText.R x = impl_AlarmText k x := by kernel_rfl
theorem impl_AlarmText.ok {L : List (Nat × Obj)} (hFmt : Lb.NeedFmt L) (k : Nat) : SigHolds Tryd.prog L 10 (impl_AlarmText.sg k) :=
  sig_of_ev (C := impl_AlarmText.C k) (holds_cons (allok_cons (impl_alarmName.ok k) allok_nil) (holds_cons (allok_cons (impl_within.ok k) allok_nil) (holds_cons (allok_cons (impl_decimal.ok hFmt k) allok_nil) holds_nil))) (by kernel_rfl) Tryd.func10 (by kernel_rfl) impl_AlarmText.ann impl_AlarmText.A impl_AlarmText.R (fun x y h => (impl_AlarmText.ev k x).trans h) (by kernel_rfl)

/-! loop.example/g00719/laws.FnExactAlarmText -/
def laws_FnExactAlarmText.A : Sh := (.cons (.pur (.cons (.int .i64) (.cons (.int .i64) .nil))) .nil)
def laws_FnExactAlarmText.R : Sh := (.cons (.pur .bool) .nil)
def laws_FnExactAlarmText.ann : Ann := { loops := [], joins := [], keys := [] }
noncomputable def laws_FnExactAlarmText (k : Nat) : ((Int × Int × Unit) × Unit) → Option ((Bool × Unit) × (Unit × Unit)) := fun x => match x with
 | (aA, ()) =>
  bd k (laws_toAlarm k (aA, ())) fun y1 =>
  bd k (spec_AlarmText k (y1.1.1, ())) fun y2 =>
  bd k (laws_toAlarm k (aA, ())) fun y3 =>
  bd k (impl_AlarmText k (y3.1.1, ())) fun y4 =>
  br k (!(y4.1.1 == y2.1.1))
  (some ((false, ()), ((), ())))
  (some ((true, ()), ((), ())))
noncomputable def laws_FnExactAlarmText.sg (k : Nat) : Sig := ⟨laws_FnExactAlarmText.A, laws_FnExactAlarmText.R, laws_FnExactAlarmText k⟩
noncomputable def laws_FnExactAlarmText.C (k : Nat) : Ctx := ⟨Tryd.prog, [(9, [laws_toAlarm.sg k]), (8, [spec_AlarmText.sg k]), (10, [impl_AlarmText.sg k])], k⟩
theorem laws_FnExactAlarmText.ev (k : Nat) (x : laws_FnExactAlarmText.A.T) : evFunc (laws_FnExactAlarmText.C k) laws_FnExactAlarmText.ann Tryd.f3 laws_FnExactAlarmText.A laws_FnExactAlarmText.R x = laws_FnExactAlarmText k x := by kernel_rfl
theorem laws_FnExactAlarmText.ok {L : List (Nat × Obj)} (hFmt : Lb.NeedFmt L) (k : Nat) : SigHolds Tryd.prog L 3 (laws_FnExactAlarmText.sg k) :=
  sig_of_ev (C := laws_FnExactAlarmText.C k) (holds_cons (allok_cons (laws_toAlarm.ok k) allok_nil) (holds_cons (allok_cons (spec_AlarmText.ok k) allok_nil) (holds_cons (allok_cons (impl_AlarmText.ok hFmt k) allok_nil) holds_nil))) (by kernel_rfl) Tryd.func3 (by kernel_rfl) laws_FnExactAlarmText.ann laws_FnExactAlarmText.A laws_FnExactAlarmText.R (fun x y h => (laws_FnExactAlarmText.ev k x).trans h) (by kernel_rfl)

end Go.Pev.F
