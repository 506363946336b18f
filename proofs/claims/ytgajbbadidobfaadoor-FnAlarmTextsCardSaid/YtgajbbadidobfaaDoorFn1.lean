/-
  Printed by gen.py: what functions of the program compute, and that they do.
-/
import Derived.Test.YtgajbbadidobfaaDoorFn0
open Go.Proofs Go.Pev
namespace Go.Pev.F
set_option maxRecDepth 100000
set_option linter.unusedVariables false

/-! (*loop.example/g00719/spec.l1Rd).hurt -/
def spec_l1Rd_hurt.A : Sh := (.cons (.box (.cons (.pur (.sl false (.int .u8))) (.cons (.pur (.int .i64)) .nil))) (.cons (.pur .str) .nil))
def spec_l1Rd_hurt.R : Sh := (.cons (.pur .str) .nil)
def spec_l1Rd_hurt.ann : Ann := { loops := [], joins := [], keys := [(7, [([], false), ([], false), ([], false), ([29], true), ([0], false), ([0, 31], true), ([29], false), ([29], false), ([], false), ([], false), ([], false), ([], false), ([], false), ([], false), ([], false)])] }
noncomputable def spec_l1Rd_hurt (k : Nat) : (((List Int) × Int × Unit) × (List UInt8) × Unit) → Option (((List UInt8) × Unit) × (((List Int) × Int × Unit) × Unit × Unit)) := fun x => match x with
 | ((r_0, r_1, ()), s_, ()) =>
  bd k (spec_l1Rd_below k ((r_0, r_1, ()), 6, ())) fun y1 =>
  br k (y1.1.1 == 1)
  (bd k (spec_l1Rd_below k ((y1.2.1.1, y1.2.1.2.1, ()), IntKind.wrap .i64 ((s_.length : Int) + 1), ())) fun y2 =>
  br k (decide (0 ≤ y2.1.1 ∧ y2.1.1 ≤ (s_.length : Int)))
  (some ((s_.take y2.1.1.toNat, ()), ((y2.2.1.1, y2.2.1.2.1, ()), (), ())))
  none)
  (br k (y1.1.1 == 2)
  (br k (decide ((s_.length : Int) > 0))
  (bd k (spec_l1Rd_below k ((y1.2.1.1, y1.2.1.2.1, ()), (s_.length : Int), ())) fun y3 =>
  br k (decide (0 ≤ y3.1.1 ∧ y3.1.1 ≤ (s_.length : Int)))
  (bd k (spec_l1Rd_below k ((y3.2.1.1, y3.2.1.2.1, ()), 4, ())) fun y4 =>
  br k (decide (0 ≤ y4.1.1 ∧ y4.1.1 < (([[0], [55], [255], [32]] : List (List UInt8)).length : Int)))
  (bd k (([[0], [55], [255], [32]] : List (List UInt8))[y4.1.1.toNat]?) fun x5 =>
  br k (decide ((((s_.take y3.1.1.toNat).length + x5.length : Nat) : Int) ≤ maxInt64))
  (br k (decide (0 ≤ (IntKind.wrap .i64 (y3.1.1 + 1)) ∧ (IntKind.wrap .i64 (y3.1.1 + 1)) ≤ (s_.length : Int)))
  (br k (decide (((((s_.take y3.1.1.toNat) ++ x5).length + (s_.drop (IntKind.wrap .i64 (y3.1.1 + 1)).toNat).length : Nat) : Int) ≤ maxInt64))
  (some ((((s_.take y3.1.1.toNat) ++ x5) ++ (s_.drop (IntKind.wrap .i64 (y3.1.1 + 1)).toNat), ()), ((y4.2.1.1, y4.2.1.2.1, ()), (), ())))
  none)
  none)
  none)
  none)
  none)
  (some ((s_, ()), ((y1.2.1.1, y1.2.1.2.1, ()), (), ()))))
  (br k (y1.1.1 == 3)
  (bd k (spec_l1Rd_below k ((y1.2.1.1, y1.2.1.2.1, ()), 4, ())) fun y6 =>
  br k (decide (0 ≤ y6.1.1 ∧ y6.1.1 < (([[0], [49], [10], [32]] : List (List UInt8)).length : Int)))
  (bd k (([[0], [49], [10], [32]] : List (List UInt8))[y6.1.1.toNat]?) fun x7 =>
  br k (decide (((s_.length + x7.length : Nat) : Int) ≤ maxInt64))
  (some ((s_ ++ x7, ()), ((y6.2.1.1, y6.2.1.2.1, ()), (), ())))
  none)
  none)
  (some ((s_, ()), ((y1.2.1.1, y1.2.1.2.1, ()), (), ())))))
noncomputable def spec_l1Rd_hurt.sg (k : Nat) : Sig := ⟨spec_l1Rd_hurt.A, spec_l1Rd_hurt.R, spec_l1Rd_hurt k⟩
noncomputable def spec_l1Rd_hurt.C (k : Nat) : Ctx := ⟨Tryd.prog, [(41, [spec_l1Rd_below.sg k])], k⟩
theorem spec_l1Rd_hurt.ev (k : Nat) (x : spec_l1Rd_hurt.A.T) : evFunc (spec_l1Rd_hurt.C k) spec_l1Rd_hurt.ann Tryd.f44 spec_l1Rd_hurt.A spec_l1Rd_hurt.R x = spec_l1Rd_hurt k x := by kernel_rfl
theorem spec_l1Rd_hurt.ok {L : List (Nat × Obj)}  (k : Nat) : SigHolds Tryd.prog L 44 (spec_l1Rd_hurt.sg k) :=
  sig_of_ev (C := spec_l1Rd_hurt.C k) (holds_cons (allok_cons (spec_l1Rd_below.ok k) allok_nil) holds_nil) (by kernel_rfl) Tryd.func44 (by kernel_rfl) spec_l1Rd_hurt.ann spec_l1Rd_hurt.A spec_l1Rd_hurt.R (fun x y h => (spec_l1Rd_hurt.ev k x).trans h) (by kernel_rfl)

/-! loop.example/g00719/spec.DrawReadAlarm -/
def spec_DrawReadAlarm.A : Sh := (.cons (.pur (.sl false (.int .u8))) .nil)
def spec_DrawReadAlarm.R : Sh := (.cons (.pur .str) .nil)
def spec_DrawReadAlarm.ann : Ann := { loops := [], joins := [], keys := [] }
noncomputable def spec_DrawReadAlarm (k : Nat) : ((List Int) × Unit) → Option (((List UInt8) × Unit) × (Unit × Unit)) := fun x => match x with
 | (code, ()) =>
  bd k (spec_l1Open k (code, ())) fun y1 =>
  bd k (spec_DrawAlarmText k (code, ())) fun y2 =>
  bd k (spec_AlarmText k (y2.1.1, ())) fun y3 =>
  bd k (spec_l1Rd_once k ((y1.1.1.1, y1.1.1.2.1, ()), 3, ())) fun y4 =>
  br k (y4.1.1)
  (bd k (spec_l1Rd_hurt k ((y4.2.1.1, y4.2.1.2.1, ()), y3.1.1, ())) fun y5 =>
  some ((y5.1.1, ()), ((), ())))
  (some ((y3.1.1, ()), ((), ())))
noncomputable def spec_DrawReadAlarm.sg (k : Nat) : Sig := ⟨spec_DrawReadAlarm.A, spec_DrawReadAlarm.R, spec_DrawReadAlarm k⟩
noncomputable def spec_DrawReadAlarm.C (k : Nat) : Ctx := ⟨Tryd.prog, [(40, [spec_l1Open.sg k]), (15, [spec_DrawAlarmText.sg k]), (8, [spec_AlarmText.sg k]), (43, [spec_l1Rd_once.sg k]), (44, [spec_l1Rd_hurt.sg k])], k⟩
theorem spec_DrawReadAlarm.ev (k : Nat) (x : spec_DrawReadAlarm.A.T) : evFunc (spec_DrawReadAlarm.C k) spec_DrawReadAlarm.ann Tryd.f16 spec_DrawReadAlarm.A spec_DrawReadAlarm.R x = spec_DrawReadAlarm k x := by kernel_rfl
theorem spec_DrawReadAlarm.ok {L : List (Nat × Obj)}  (k : Nat) : SigHolds Tryd.prog L 16 (spec_DrawReadAlarm.sg k) :=
  sig_of_ev (C := spec_DrawReadAlarm.C k) (holds_cons (allok_cons (spec_l1Open.ok k) allok_nil) (holds_cons (allok_cons (spec_DrawAlarmText.ok k) allok_nil) (holds_cons (allok_cons (spec_AlarmText.ok k) allok_nil) (holds_cons (allok_cons (spec_l1Rd_once.ok k) allok_nil) (holds_cons (allok_cons (spec_l1Rd_hurt.ok k) allok_nil) holds_nil))))) (by kernel_rfl) Tryd.func16 (by kernel_rfl) spec_DrawReadAlarm.ann spec_DrawReadAlarm.A spec_DrawReadAlarm.R (fun x y h => (spec_DrawReadAlarm.ev k x).trans h) (by kernel_rfl)

/-! loop.example/g00719/laws.FnAlarmTexts -/
def laws_FnAlarmTexts.A : Sh := (.cons (.pur (.sl false (.int .u8))) .nil)
def laws_FnAlarmTexts.R : Sh := (.cons (.pur .bool) .nil)
def laws_FnAlarmTexts.ann : Ann := { loops := [], joins := [(8, [(52, .bool)]), (11, [(2, .bool)])], keys := [] }
noncomputable def laws_FnAlarmTexts (k : Nat) : ((List Int) × Unit) → Option ((Bool × Unit) × (Unit × Unit)) := fun x => match x with
 | (code, ()) =>
  bd k (laws_big k (code, ())) fun y1 =>
  br k (y1.1.1)
  (some ((true, ()), ((), ())))
  (bd k (spec_DrawAlarmText k (code, ())) fun y2 =>
  bd k (impl_AlarmText k (y2.1.1, ())) fun y3 =>
  bd k (spec_DrawReadAlarm k (code, ())) fun y4 =>
  bd k (impl_ReadAlarm k (y4.1.1, ())) fun y5 =>
  bd k (spec_ReadAlarm k (y4.1.1, ())) fun y6 =>
  (bd k (spec_AlarmText k (y2.1.1, ())) fun y7 =>
  br k (!(y3.1.1 == y7.1.1))
  (some (true, ()))
  (br k (!(y5.1.2.1 == y6.1.2.1))
  (some (true, ()))
  (br k (!((y5.1.1.1 == y6.1.1.1) && ((y5.1.1.2.1 == y6.1.1.2.1) && true)))
  (some (true, ()))
  (br k (y5.1.2.1)
  (bd k (impl_AlarmText k (y5.1.1, ())) fun y8 =>
  some (!(y8.1.1 == y4.1.1), ()))
  (some (false, ()))))) : Option (Bool × Unit)).bind fun j9 =>
  br k (j9.1)
  (some ((false, ()), ((), ())))
  (bd k (impl_ReadAlarm k (y3.1.1, ())) fun y10 =>
  (br k (y10.1.2.1 == (!(y3.1.1 == [])))
  (br k (!y10.1.2.1)
  (some (true, ()))
  (some ((y10.1.1.1 == y2.1.1.1) && ((y10.1.1.2.1 == y2.1.1.2.1) && true), ())))
  (some (false, ())) : Option (Bool × Unit)).bind fun j11 =>
  some ((j11.1, ()), ((), ()))))
noncomputable def laws_FnAlarmTexts.sg (k : Nat) : Sig := ⟨laws_FnAlarmTexts.A, laws_FnAlarmTexts.R, laws_FnAlarmTexts k⟩
noncomputable def laws_FnAlarmTexts.C (k : Nat) : Ctx := ⟨Tryd.prog, [(14, [laws_big.sg k]), (15, [spec_DrawAlarmText.sg k]), (10, [impl_AlarmText.sg k]), (16, [spec_DrawReadAlarm.sg k]), (12, [impl_ReadAlarm.sg k]), (11, [spec_ReadAlarm.sg k]), (8, [spec_AlarmText.sg k])], k⟩
theorem laws_FnAlarmTexts.ev (k : Nat) (x : laws_FnAlarmTexts.A.T) : evFunc (laws_FnAlarmTexts.C k) laws_FnAlarmTexts.ann Tryd.f5 laws_FnAlarmTexts.A laws_FnAlarmTexts.R x = laws_FnAlarmTexts k x := by kernel_rfl
theorem laws_FnAlarmTexts.ok {L : List (Nat × Obj)} (hErr : Lb.NeedErr L) (hFmt : Lb.NeedFmt L) (k : Nat) : SigHolds Tryd.prog L 5 (laws_FnAlarmTexts.sg k) :=
  sig_of_ev (C := laws_FnAlarmTexts.C k) (holds_cons (allok_cons (laws_big.ok k) allok_nil) (holds_cons (allok_cons (spec_DrawAlarmText.ok k) allok_nil) (holds_cons (allok_cons (impl_AlarmText.ok hFmt k) allok_nil) (holds_cons (allok_cons (spec_DrawReadAlarm.ok k) allok_nil) (holds_cons (allok_cons (impl_ReadAlarm.ok hErr hFmt k) allok_nil) (holds_cons (allok_cons (spec_ReadAlarm.ok k) allok_nil) (holds_cons (allok_cons (spec_AlarmText.ok k) allok_nil) holds_nil))))))) (by kernel_rfl) Tryd.func5 (by kernel_rfl) laws_FnAlarmTexts.ann laws_FnAlarmTexts.A laws_FnAlarmTexts.R (fun x y h => (laws_FnAlarmTexts.ev k x).trans h) (by kernel_rfl)

/-! loop.example/g00719/laws.szStringS -/
def laws_szStringS.A : Sh := (.cons (.pur (.sl false .str)) (.cons (.pur (.int .i64)) .nil))
def laws_szStringS.R : Sh := (.cons (.pur (.int .i64)) .nil)
def laws_szStringS.ann : Ann := { loops := [(0, [(0, (.pur (.sl false .str))), (1, (.pur (.int .i64))), (5, (.pur (.int .i64)))])], joins := [], keys := [] }
noncomputable def laws_szStringS.l0 (k : Nat)  (G0 : ((List (List UInt8)) × Int × Int × Unit) → Option ((Int × Unit) × (Unit × Unit × Unit))) : ((List (List UInt8)) × Int × Int × Unit) → Option ((Int × Unit) × (Unit × Unit × Unit)) := fun x => match x with
 | (a, left, i, ()) =>
  br k (decide (i < (a.length : Int)))
  (br k (decide (0 ≤ i))
  (bd k (a[i.toNat]?) fun x1 =>
  br k (decide ((IntKind.wrap .i64 (left - (x1.length : Int))) < 0))
  (some (((-1), ()), ((), (), ())))
  (G0 (a, IntKind.wrap .i64 (left - (x1.length : Int)), IntKind.wrap .i64 (i + 1), ())))
  none)
  (some ((left, ()), ((), (), ())))
noncomputable def laws_szStringS (k : Nat) : ((List (List UInt8)) × Int × Unit) → Option ((Int × Unit) × (Unit × Unit × Unit)) := fun x => match x with
 | (a, left, ()) =>
  br k (decide ((IntKind.wrap .i64 (left - (a.length : Int))) < 0))
  (some (((-1), ()), ((), (), ())))
  (iter (laws_szStringS.l0 k) k (a, IntKind.wrap .i64 (left - (a.length : Int)), 0, ()))
noncomputable def laws_szStringS.sg (k : Nat) : Sig := ⟨laws_szStringS.A, laws_szStringS.R, laws_szStringS k⟩
noncomputable def laws_szStringS.C (k : Nat) : Ctx := ⟨Tryd.prog, [], k⟩
theorem laws_szStringS.ev (k : Nat) (x : laws_szStringS.A.T) : evFunc (laws_szStringS.C k) laws_szStringS.ann Tryd.f45 laws_szStringS.A laws_szStringS.R x = laws_szStringS k x := by kernel_rfl
theorem laws_szStringS.ok {L : List (Nat × Obj)}  (k : Nat) : SigHolds Tryd.prog L 45 (laws_szStringS.sg k) :=
  sig_of_ev (C := laws_szStringS.C k) holds_nil (by kernel_rfl) Tryd.func45 (by kernel_rfl) laws_szStringS.ann laws_szStringS.A laws_szStringS.R (fun x y h => (laws_szStringS.ev k x).trans h) (by kernel_rfl)

/-! loop.example/g00719/laws.szArr -/
def laws_szArr.A : Sh := (.cons (.pur (.cons .str (.cons (.int .i64) .nil))) (.cons (.pur (.int .i64)) .nil))
def laws_szArr.R : Sh := (.cons (.pur (.int .i64)) .nil)
def laws_szArr.ann : Ann := { loops := [], joins := [], keys := [] }
noncomputable def laws_szArr (k : Nat) : (((List UInt8) × Int × Unit) × Int × Unit) → Option ((Int × Unit) × (Unit × Unit × Unit)) := fun x => match x with
 | (a, left, ()) =>
  br k (decide ((IntKind.wrap .i64 (left - (a.1.length : Int))) < 0))
  (some (((-1), ()), ((), (), ())))
  (some ((IntKind.wrap .i64 (left - (a.1.length : Int)), ()), ((), (), ())))
noncomputable def laws_szArr.sg (k : Nat) : Sig := ⟨laws_szArr.A, laws_szArr.R, laws_szArr k⟩
noncomputable def laws_szArr.C (k : Nat) : Ctx := ⟨Tryd.prog, [], k⟩
theorem laws_szArr.ev (k : Nat) (x : laws_szArr.A.T) : evFunc (laws_szArr.C k) laws_szArr.ann Tryd.f78 laws_szArr.A laws_szArr.R x = laws_szArr k x := by kernel_rfl
theorem laws_szArr.ok {L : List (Nat × Obj)}  (k : Nat) : SigHolds Tryd.prog L 78 (laws_szArr.sg k) :=
  sig_of_ev (C := laws_szArr.C k) holds_nil (by kernel_rfl) Tryd.func78 (by kernel_rfl) laws_szArr.ann laws_szArr.A laws_szArr.R (fun x y h => (laws_szArr.ev k x).trans h) (by kernel_rfl)

/-! loop.example/g00719/laws.szArrS -/
def laws_szArrS.A : Sh := (.cons (.pur (.sl false (.cons .str (.cons (.int .i64) .nil)))) (.cons (.pur (.int .i64)) .nil))
def laws_szArrS.R : Sh := (.cons (.pur (.int .i64)) .nil)
def laws_szArrS.ann : Ann := { loops := [(0, [(0, (.pur (.sl false (.cons .str (.cons (.int .i64) .nil))))), (1, (.pur (.int .i64))), (5, (.pur (.int .i64)))])], joins := [], keys := [] }
noncomputable def laws_szArrS.l0 (k : Nat)  (G0 : ((List ((List UInt8) × Int × Unit)) × Int × Int × Unit) → Option ((Int × Unit) × (Unit × Unit × Unit))) : ((List ((List UInt8) × Int × Unit)) × Int × Int × Unit) → Option ((Int × Unit) × (Unit × Unit × Unit)) := fun x => match x with
 | (a, left, i, ()) =>
  br k (decide (i < (a.length : Int)))
  (br k (decide (0 ≤ i))
  (bd k (a[i.toNat]?) fun x1 =>
  bd k (laws_szArr k (x1, left, ())) fun y2 =>
  br k (decide (y2.1.1 < 0))
  (some (((-1), ()), ((), (), ())))
  (G0 (a, y2.1.1, IntKind.wrap .i64 (i + 1), ())))
  none)
  (some ((left, ()), ((), (), ())))
noncomputable def laws_szArrS (k : Nat) : ((List ((List UInt8) × Int × Unit)) × Int × Unit) → Option ((Int × Unit) × (Unit × Unit × Unit)) := fun x => match x with
 | (a, left, ()) =>
  br k (decide ((IntKind.wrap .i64 (left - (a.length : Int))) < 0))
  (some (((-1), ()), ((), (), ())))
  (iter (laws_szArrS.l0 k) k (a, IntKind.wrap .i64 (left - (a.length : Int)), 0, ()))
noncomputable def laws_szArrS.sg (k : Nat) : Sig := ⟨laws_szArrS.A, laws_szArrS.R, laws_szArrS k⟩
noncomputable def laws_szArrS.C (k : Nat) : Ctx := ⟨Tryd.prog, [(78, [laws_szArr.sg k])], k⟩
theorem laws_szArrS.ev (k : Nat) (x : laws_szArrS.A.T) : evFunc (laws_szArrS.C k) laws_szArrS.ann Tryd.f46 laws_szArrS.A laws_szArrS.R x = laws_szArrS k x := by kernel_rfl
theorem laws_szArrS.ok {L : List (Nat × Obj)}  (k : Nat) : SigHolds Tryd.prog L 46 (laws_szArrS.sg k) :=
  sig_of_ev (C := laws_szArrS.C k) (holds_cons (allok_cons (laws_szArr.ok k) allok_nil) holds_nil) (by kernel_rfl) Tryd.func46 (by kernel_rfl) laws_szArrS.ann laws_szArrS.A laws_szArrS.R (fun x y h => (laws_szArrS.ev k x).trans h) (by kernel_rfl)

/-! loop.example/g00719/laws.szDecl -/
def laws_szDecl.A : Sh := (.cons (.pur (.cons (.sl false .str) (.cons (.sl false .str) (.cons (.sl false (.cons .str (.cons (.int .i64) .nil))) .nil)))) (.cons (.pur (.int .i64)) .nil))
def laws_szDecl.R : Sh := (.cons (.pur (.int .i64)) .nil)
def laws_szDecl.ann : Ann := { loops := [], joins := [], keys := [] }
noncomputable def laws_szDecl (k : Nat) : (((List (List UInt8)) × (List (List UInt8)) × (List ((List UInt8) × Int × Unit)) × Unit) × Int × Unit) → Option ((Int × Unit) × (Unit × Unit × Unit)) := fun x => match x with
 | (a, left, ()) =>
  bd k (laws_szStringS k (a.1, left, ())) fun y1 =>
  br k (decide (y1.1.1 < 0))
  (some (((-1), ()), ((), (), ())))
  (bd k (laws_szStringS k (a.2.1, y1.1.1, ())) fun y2 =>
  br k (decide (y2.1.1 < 0))
  (some (((-1), ()), ((), (), ())))
  (bd k (laws_szArrS k (a.2.2.1, y2.1.1, ())) fun y3 =>
  br k (decide (y3.1.1 < 0))
  (some (((-1), ()), ((), (), ())))
  (some ((y3.1.1, ()), ((), (), ())))))
noncomputable def laws_szDecl.sg (k : Nat) : Sig := ⟨laws_szDecl.A, laws_szDecl.R, laws_szDecl k⟩
noncomputable def laws_szDecl.C (k : Nat) : Ctx := ⟨Tryd.prog, [(45, [laws_szStringS.sg k]), (46, [laws_szArrS.sg k])], k⟩
theorem laws_szDecl.ev (k : Nat) (x : laws_szDecl.A.T) : evFunc (laws_szDecl.C k) laws_szDecl.ann Tryd.f17 laws_szDecl.A laws_szDecl.R x = laws_szDecl k x := by kernel_rfl
theorem laws_szDecl.ok {L : List (Nat × Obj)}  (k : Nat) : SigHolds Tryd.prog L 17 (laws_szDecl.sg k) :=
  sig_of_ev (C := laws_szDecl.C k) (holds_cons (allok_cons (laws_szStringS.ok k) allok_nil) (holds_cons (allok_cons (laws_szArrS.ok k) allok_nil) holds_nil)) (by kernel_rfl) Tryd.func17 (by kernel_rfl) laws_szDecl.ann laws_szDecl.A laws_szDecl.R (fun x y h => (laws_szDecl.ev k x).trans h) (by kernel_rfl)

/-! loop.example/g00719/laws.szIntervalS -/
def laws_szIntervalS.A : Sh := (.cons (.pur (.sl false (.cons (.int .i64) (.cons (.int .i64) .nil)))) (.cons (.pur (.int .i64)) .nil))
def laws_szIntervalS.R : Sh := (.cons (.pur (.int .i64)) .nil)
def laws_szIntervalS.ann : Ann := { loops := [], joins := [], keys := [] }
noncomputable def laws_szIntervalS (k : Nat) : ((List (Int × Int × Unit)) × Int × Unit) → Option ((Int × Unit) × (Unit × Unit × Unit)) := fun x => match x with
 | (a, left, ()) =>
  br k (decide ((IntKind.wrap .i64 (left - (a.length : Int))) < 0))
  (some (((-1), ()), ((), (), ())))
  (some ((IntKind.wrap .i64 (left - (a.length : Int)), ()), ((), (), ())))
noncomputable def laws_szIntervalS.sg (k : Nat) : Sig := ⟨laws_szIntervalS.A, laws_szIntervalS.R, laws_szIntervalS k⟩
noncomputable def laws_szIntervalS.C (k : Nat) : Ctx := ⟨Tryd.prog, [], k⟩
theorem laws_szIntervalS.ev (k : Nat) (x : laws_szIntervalS.A.T) : evFunc (laws_szIntervalS.C k) laws_szIntervalS.ann Tryd.f47 laws_szIntervalS.A laws_szIntervalS.R x = laws_szIntervalS k x := by kernel_rfl
theorem laws_szIntervalS.ok {L : List (Nat × Obj)}  (k : Nat) : SigHolds Tryd.prog L 47 (laws_szIntervalS.sg k) :=
  sig_of_ev (C := laws_szIntervalS.C k) holds_nil (by kernel_rfl) Tryd.func47 (by kernel_rfl) laws_szIntervalS.ann laws_szIntervalS.A laws_szIntervalS.R (fun x y h => (laws_szIntervalS.ev k x).trans h) (by kernel_rfl)

/-! loop.example/g00719/laws.szEnv -/
def laws_szEnv.A : Sh := (.cons (.pur (.cons .bool (.cons (.sl false (.cons (.int .i64) (.cons (.int .i64) .nil))) (.cons (.sl false (.cons (.int .i64) (.cons (.int .i64) .nil))) .nil)))) (.cons (.pur (.int .i64)) .nil))
def laws_szEnv.R : Sh := (.cons (.pur (.int .i64)) .nil)
def laws_szEnv.ann : Ann := { loops := [], joins := [], keys := [] }
noncomputable def laws_szEnv (k : Nat) : ((Bool × (List (Int × Int × Unit)) × (List (Int × Int × Unit)) × Unit) × Int × Unit) → Option ((Int × Unit) × (Unit × Unit × Unit)) := fun x => match x with
 | (a, left, ()) =>
  bd k (laws_szIntervalS k (a.2.1, left, ())) fun y1 =>
  br k (decide (y1.1.1 < 0))
  (some (((-1), ()), ((), (), ())))
  (bd k (laws_szIntervalS k (a.2.2.1, y1.1.1, ())) fun y2 =>
  br k (decide (y2.1.1 < 0))
  (some (((-1), ()), ((), (), ())))
  (some ((y2.1.1, ()), ((), (), ()))))
noncomputable def laws_szEnv.sg (k : Nat) : Sig := ⟨laws_szEnv.A, laws_szEnv.R, laws_szEnv k⟩
noncomputable def laws_szEnv.C (k : Nat) : Ctx := ⟨Tryd.prog, [(47, [laws_szIntervalS.sg k])], k⟩
theorem laws_szEnv.ev (k : Nat) (x : laws_szEnv.A.T) : evFunc (laws_szEnv.C k) laws_szEnv.ann Tryd.f18 laws_szEnv.A laws_szEnv.R x = laws_szEnv k x := by kernel_rfl
theorem laws_szEnv.ok {L : List (Nat × Obj)}  (k : Nat) : SigHolds Tryd.prog L 18 (laws_szEnv.sg k) :=
  sig_of_ev (C := laws_szEnv.C k) (holds_cons (allok_cons (laws_szIntervalS.ok k) allok_nil) holds_nil) (by kernel_rfl) Tryd.func18 (by kernel_rfl) laws_szEnv.ann laws_szEnv.A laws_szEnv.R (fun x y h => (laws_szEnv.ev k x).trans h) (by kernel_rfl)

/-! loop.example/g00719/laws.toStringS -/
def laws_toStringS.A : Sh := (.cons (.pur (.sl false .str)) .nil)
def laws_toStringS.R : Sh := (.cons (.own .str) .nil)
def laws_toStringS.ann : Ann := { loops := [(0, [(0, (.pur (.sl false .str))), (3, (.own .str)), (4, (.pur (.int .i64)))])], joins := [], keys := [] }
noncomputable def laws_toStringS.l0 (k : Nat)  (G0 : ((List (List UInt8)) × (List (List UInt8)) × Int × Unit) → Option (((List (List UInt8)) × Unit) × (Unit × Unit))) : ((List (List UInt8)) × (List (List UInt8)) × Int × Unit) → Option (((List (List UInt8)) × Unit) × (Unit × Unit)) := fun x => match x with
 | (a, out_, i, ()) =>
  br k (decide (i < (a.length : Int)))
  (br k (decide (0 ≤ i))
  (bd k (a[i.toNat]?) fun x1 =>
  br k (decide (0 ≤ i ∧ i < (out_.length : Int)))
  (bd k (out_[i.toNat]?) fun x2 =>
  G0 (a, out_.set i.toNat x1, IntKind.wrap .i64 (i + 1), ()))
  none)
  none)
  (some ((out_, ()), ((), ())))
noncomputable def laws_toStringS (k : Nat) : ((List (List UInt8)) × Unit) → Option (((List (List UInt8)) × Unit) × (Unit × Unit)) := fun x => match x with
 | (a, ()) =>
  br k (decide (0 ≤ (a.length : Int) ∧ (a.length : Int) ≤ (a.length : Int) ∧ (a.length : Int) * 16 ≤ maxBytes))
  (iter (laws_toStringS.l0 k) k (a, List.replicate (a.length : Int).toNat (Kd.z .str), 0, ()))
  none
noncomputable def laws_toStringS.sg (k : Nat) : Sig := ⟨laws_toStringS.A, laws_toStringS.R, laws_toStringS k⟩
noncomputable def laws_toStringS.C (k : Nat) : Ctx := ⟨Tryd.prog, [], k⟩
theorem laws_toStringS.ev (k : Nat) (x : laws_toStringS.A.T) : evFunc (laws_toStringS.C k) laws_toStringS.ann Tryd.f50 laws_toStringS.A laws_toStringS.R x = laws_toStringS k x := by kernel_rfl
theorem laws_toStringS.ok {L : List (Nat × Obj)}  (k : Nat) : SigHolds Tryd.prog L 50 (laws_toStringS.sg k) :=
  sig_of_ev (C := laws_toStringS.C k) holds_nil (by kernel_rfl) Tryd.func50 (by kernel_rfl) laws_toStringS.ann laws_toStringS.A laws_toStringS.R (fun x y h => (laws_toStringS.ev k x).trans h) (by kernel_rfl)

/-! loop.example/g00719/laws.toArr -/
def laws_toArr.A : Sh := (.cons (.pur (.cons .str (.cons (.int .i64) .nil))) .nil)
def laws_toArr.R : Sh := (.cons (.pur (.cons .str (.cons (.int .i64) .nil))) .nil)
def laws_toArr.ann : Ann := { loops := [], joins := [], keys := [] }
noncomputable def laws_toArr (k : Nat) : (((List UInt8) × Int × Unit) × Unit) → Option ((((List UInt8) × Int × Unit) × Unit) × (Unit × Unit)) := fun x => match x with
 | (a, ()) =>
  some ((a, ()), ((), ()))
noncomputable def laws_toArr.sg (k : Nat) : Sig := ⟨laws_toArr.A, laws_toArr.R, laws_toArr k⟩
noncomputable def laws_toArr.C (k : Nat) : Ctx := ⟨Tryd.prog, [], k⟩
theorem laws_toArr.ev (k : Nat) (x : laws_toArr.A.T) : evFunc (laws_toArr.C k) laws_toArr.ann Tryd.f83 laws_toArr.A laws_toArr.R x = laws_toArr k x := by kernel_rfl
theorem laws_toArr.ok {L : List (Nat × Obj)}  (k : Nat) : SigHolds Tryd.prog L 83 (laws_toArr.sg k) :=
  sig_of_ev (C := laws_toArr.C k) holds_nil (by kernel_rfl) Tryd.func83 (by kernel_rfl) laws_toArr.ann laws_toArr.A laws_toArr.R (fun x y h => (laws_toArr.ev k x).trans h) (by kernel_rfl)

/-! loop.example/g00719/laws.toArrS -/
def laws_toArrS.A : Sh := (.cons (.pur (.sl false (.cons .str (.cons (.int .i64) .nil)))) .nil)
def laws_toArrS.R : Sh := (.cons (.own (.cons .str (.cons (.int .i64) .nil))) .nil)
def laws_toArrS.ann : Ann := { loops := [(0, [(0, (.pur (.sl false (.cons .str (.cons (.int .i64) .nil))))), (3, (.own (.cons .str (.cons (.int .i64) .nil)))), (4, (.pur (.int .i64)))])], joins := [], keys := [] }
noncomputable def laws_toArrS.l0 (k : Nat)  (G0 : ((List ((List UInt8) × Int × Unit)) × (List ((List UInt8) × Int × Unit)) × Int × Unit) → Option (((List ((List UInt8) × Int × Unit)) × Unit) × (Unit × Unit))) : ((List ((List UInt8) × Int × Unit)) × (List ((List UInt8) × Int × Unit)) × Int × Unit) → Option (((List ((List UInt8) × Int × Unit)) × Unit) × (Unit × Unit)) := fun x => match x with
 | (a, out_, i, ()) =>
  br k (decide (i < (a.length : Int)))
  (br k (decide (0 ≤ i))
  (bd k (a[i.toNat]?) fun x1 =>
  bd k (laws_toArr k (x1, ())) fun y2 =>
  br k (decide (0 ≤ i ∧ i < (out_.length : Int)))
  (bd k (out_[i.toNat]?) fun x3 =>
  G0 (a, out_.set i.toNat y2.1.1, IntKind.wrap .i64 (i + 1), ()))
  none)
  none)
  (some ((out_, ()), ((), ())))
noncomputable def laws_toArrS (k : Nat) : ((List ((List UInt8) × Int × Unit)) × Unit) → Option (((List ((List UInt8) × Int × Unit)) × Unit) × (Unit × Unit)) := fun x => match x with
 | (a, ()) =>
  br k (decide (0 ≤ (a.length : Int) ∧ (a.length : Int) ≤ (a.length : Int) ∧ (a.length : Int) * 24 ≤ maxBytes))
  (iter (laws_toArrS.l0 k) k (a, List.replicate (a.length : Int).toNat (Kd.z (.cons .str (.cons (.int .i64) .nil))), 0, ()))
  none
noncomputable def laws_toArrS.sg (k : Nat) : Sig := ⟨laws_toArrS.A, laws_toArrS.R, laws_toArrS k⟩
noncomputable def laws_toArrS.C (k : Nat) : Ctx := ⟨Tryd.prog, [(83, [laws_toArr.sg k])], k⟩
theorem laws_toArrS.ev (k : Nat) (x : laws_toArrS.A.T) : evFunc (laws_toArrS.C k) laws_toArrS.ann Tryd.f51 laws_toArrS.A laws_toArrS.R x = laws_toArrS k x := by kernel_rfl
theorem laws_toArrS.ok {L : List (Nat × Obj)}  (k : Nat) : SigHolds Tryd.prog L 51 (laws_toArrS.sg k) :=
  sig_of_ev (C := laws_toArrS.C k) (holds_cons (allok_cons (laws_toArr.ok k) allok_nil) holds_nil) (by kernel_rfl) Tryd.func51 (by kernel_rfl) laws_toArrS.ann laws_toArrS.A laws_toArrS.R (fun x y h => (laws_toArrS.ev k x).trans h) (by kernel_rfl)

/-! loop.example/g00719/laws.toDecl -/
def laws_toDecl.A : Sh := (.cons (.pur (.cons (.sl false .str) (.cons (.sl false .str) (.cons (.sl false (.cons .str (.cons (.int .i64) .nil))) .nil)))) .nil)
def laws_toDecl.R : Sh := (.cons (.agg (.cons (.own .str) (.cons (.own .str) (.cons (.own (.cons .str (.cons (.int .i64) .nil))) .nil)))) .nil)
def laws_toDecl.ann : Ann := { loops := [], joins := [], keys := [] }
noncomputable def laws_toDecl (k : Nat) : (((List (List UInt8)) × (List (List UInt8)) × (List ((List UInt8) × Int × Unit)) × Unit) × Unit) → Option ((((List (List UInt8)) × (List (List UInt8)) × (List ((List UInt8) × Int × Unit)) × Unit) × Unit) × (Unit × Unit)) := fun x => match x with
 | (a, ()) =>
  bd k (laws_toStringS k (a.1, ())) fun y1 =>
  bd k (laws_toStringS k (a.2.1, ())) fun y2 =>
  bd k (laws_toArrS k (a.2.2.1, ())) fun y3 =>
  some (((y1.1.1, y2.1.1, y3.1.1, ()), ()), ((), ()))
noncomputable def laws_toDecl.sg (k : Nat) : Sig := ⟨laws_toDecl.A, laws_toDecl.R, laws_toDecl k⟩
noncomputable def laws_toDecl.C (k : Nat) : Ctx := ⟨Tryd.prog, [(50, [laws_toStringS.sg k]), (51, [laws_toArrS.sg k])], k⟩
theorem laws_toDecl.ev (k : Nat) (x : laws_toDecl.A.T) : evFunc (laws_toDecl.C k) laws_toDecl.ann Tryd.f20 laws_toDecl.A laws_toDecl.R x = laws_toDecl k x := by kernel_rfl
theorem laws_toDecl.ok {L : List (Nat × Obj)}  (k : Nat) : SigHolds Tryd.prog L 20 (laws_toDecl.sg k) :=
  sig_of_ev (C := laws_toDecl.C k) (holds_cons (allok_cons (laws_toStringS.ok k) allok_nil) (holds_cons (allok_cons (laws_toArrS.ok k) allok_nil) holds_nil)) (by kernel_rfl) Tryd.func20 (by kernel_rfl) laws_toDecl.ann laws_toDecl.A laws_toDecl.R (fun x y h => (laws_toDecl.ev k x).trans h) (by kernel_rfl)

/-! loop.example/g00719/laws.toInterval -/
def laws_toInterval.A : Sh := (.cons (.pur (.cons (.int .i64) (.cons (.int .i64) .nil))) .nil)
def laws_toInterval.R : Sh := (.cons (.pur (.cons (.int .i64) (.cons (.int .i64) .nil))) .nil)
def laws_toInterval.ann : Ann := { loops := [], joins := [], keys := [] }
noncomputable def laws_toInterval (k : Nat) : ((Int × Int × Unit) × Unit) → Option (((Int × Int × Unit) × Unit) × (Unit × Unit)) := fun x => match x with
 | (a, ()) =>
  some ((a, ()), ((), ()))
noncomputable def laws_toInterval.sg (k : Nat) : Sig := ⟨laws_toInterval.A, laws_toInterval.R, laws_toInterval k⟩
noncomputable def laws_toInterval.C (k : Nat) : Ctx := ⟨Tryd.prog, [], k⟩
theorem laws_toInterval.ev (k : Nat) (x : laws_toInterval.A.T) : evFunc (laws_toInterval.C k) laws_toInterval.ann Tryd.f84 laws_toInterval.A laws_toInterval.R x = laws_toInterval k x := by kernel_rfl
theorem laws_toInterval.ok {L : List (Nat × Obj)}  (k : Nat) : SigHolds Tryd.prog L 84 (laws_toInterval.sg k) :=
  sig_of_ev (C := laws_toInterval.C k) holds_nil (by kernel_rfl) Tryd.func84 (by kernel_rfl) laws_toInterval.ann laws_toInterval.A laws_toInterval.R (fun x y h => (laws_toInterval.ev k x).trans h) (by kernel_rfl)

/-! loop.example/g00719/laws.toIntervalS -/
def laws_toIntervalS.A : Sh := (.cons (.pur (.sl false (.cons (.int .i64) (.cons (.int .i64) .nil)))) .nil)
def laws_toIntervalS.R : Sh := (.cons (.own (.cons (.int .i64) (.cons (.int .i64) .nil))) .nil)
def laws_toIntervalS.ann : Ann := { loops := [(0, [(0, (.pur (.sl false (.cons (.int .i64) (.cons (.int .i64) .nil))))), (3, (.own (.cons (.int .i64) (.cons (.int .i64) .nil)))), (4, (.pur (.int .i64)))])], joins := [], keys := [] }
noncomputable def laws_toIntervalS.l0 (k : Nat)  (G0 : ((List (Int × Int × Unit)) × (List (Int × Int × Unit)) × Int × Unit) → Option (((List (Int × Int × Unit)) × Unit) × (Unit × Unit))) : ((List (Int × Int × Unit)) × (List (Int × Int × Unit)) × Int × Unit) → Option (((List (Int × Int × Unit)) × Unit) × (Unit × Unit)) := fun x => match x with
 | (a, out_, i, ()) =>
  br k (decide (i < (a.length : Int)))
  (br k (decide (0 ≤ i))
  (bd k (a[i.toNat]?) fun x1 =>
  bd k (laws_toInterval k (x1, ())) fun y2 =>
  br k (decide (0 ≤ i ∧ i < (out_.length : Int)))
  (bd k (out_[i.toNat]?) fun x3 =>
  G0 (a, out_.set i.toNat y2.1.1, IntKind.wrap .i64 (i + 1), ()))
  none)
  none)
  (some ((out_, ()), ((), ())))
noncomputable def laws_toIntervalS (k : Nat) : ((List (Int × Int × Unit)) × Unit) → Option (((List (Int × Int × Unit)) × Unit) × (Unit × Unit)) := fun x => match x with
 | (a, ()) =>
  br k (decide (0 ≤ (a.length : Int) ∧ (a.length : Int) ≤ (a.length : Int) ∧ (a.length : Int) * 16 ≤ maxBytes))
  (iter (laws_toIntervalS.l0 k) k (a, List.replicate (a.length : Int).toNat (Kd.z (.cons (.int .i64) (.cons (.int .i64) .nil))), 0, ()))
  none
noncomputable def laws_toIntervalS.sg (k : Nat) : Sig := ⟨laws_toIntervalS.A, laws_toIntervalS.R, laws_toIntervalS k⟩
noncomputable def laws_toIntervalS.C (k : Nat) : Ctx := ⟨Tryd.prog, [(84, [laws_toInterval.sg k])], k⟩
theorem laws_toIntervalS.ev (k : Nat) (x : laws_toIntervalS.A.T) : evFunc (laws_toIntervalS.C k) laws_toIntervalS.ann Tryd.f52 laws_toIntervalS.A laws_toIntervalS.R x = laws_toIntervalS k x := by kernel_rfl
theorem laws_toIntervalS.ok {L : List (Nat × Obj)}  (k : Nat) : SigHolds Tryd.prog L 52 (laws_toIntervalS.sg k) :=
  sig_of_ev (C := laws_toIntervalS.C k) (holds_cons (allok_cons (laws_toInterval.ok k) allok_nil) holds_nil) (by kernel_rfl) Tryd.func52 (by kernel_rfl) laws_toIntervalS.ann laws_toIntervalS.A laws_toIntervalS.R (fun x y h => (laws_toIntervalS.ev k x).trans h) (by kernel_rfl)

/-! loop.example/g00719/laws.toEnv -/
def laws_toEnv.A : Sh := (.cons (.pur (.cons .bool (.cons (.sl false (.cons (.int .i64) (.cons (.int .i64) .nil))) (.cons (.sl false (.cons (.int .i64) (.cons (.int .i64) .nil))) .nil)))) .nil)
def laws_toEnv.R : Sh := (.cons (.agg (.cons (.pur .bool) (.cons (.own (.cons (.int .i64) (.cons (.int .i64) .nil))) (.cons (.own (.cons (.int .i64) (.cons (.int .i64) .nil))) .nil)))) .nil)
def laws_toEnv.ann : Ann := { loops := [], joins := [], keys := [] }
noncomputable def laws_toEnv (k : Nat) : ((Bool × (List (Int × Int × Unit)) × (List (Int × Int × Unit)) × Unit) × Unit) → Option (((Bool × (List (Int × Int × Unit)) × (List (Int × Int × Unit)) × Unit) × Unit) × (Unit × Unit)) := fun x => match x with
 | (a, ()) =>
  bd k (laws_toIntervalS k (a.2.1, ())) fun y1 =>
  bd k (laws_toIntervalS k (a.2.2.1, ())) fun y2 =>
  some (((a.1, y1.1.1, y2.1.1, ()), ()), ((), ()))
noncomputable def laws_toEnv.sg (k : Nat) : Sig := ⟨laws_toEnv.A, laws_toEnv.R, laws_toEnv k⟩
noncomputable def laws_toEnv.C (k : Nat) : Ctx := ⟨Tryd.prog, [(52, [laws_toIntervalS.sg k])], k⟩
theorem laws_toEnv.ev (k : Nat) (x : laws_toEnv.A.T) : evFunc (laws_toEnv.C k) laws_toEnv.ann Tryd.f21 laws_toEnv.A laws_toEnv.R x = laws_toEnv k x := by kernel_rfl
theorem laws_toEnv.ok {L : List (Nat × Obj)}  (k : Nat) : SigHolds Tryd.prog L 21 (laws_toEnv.sg k) :=
  sig_of_ev (C := laws_toEnv.C k) (holds_cons (allok_cons (laws_toIntervalS.ok k) allok_nil) holds_nil) (by kernel_rfl) Tryd.func21 (by kernel_rfl) laws_toEnv.ann laws_toEnv.A laws_toEnv.R (fun x y h => (laws_toEnv.ev k x).trans h) (by kernel_rfl)

/-! loop.example/g00719/spec.l3Key -/
def spec_l3Key.A : Sh := (.cons (.pur .str) .nil)
def spec_l3Key.R : Sh := (.cons (.pur .bool) .nil)
def spec_l3Key.ann : Ann := { loops := [(0, [(0, (.pur .str)), (3, (.own .str)), (4, (.pur (.int .i64)))])], joins := [], keys := [] }
noncomputable def spec_l3Key.l0 (k : Nat)  (G0 : ((List UInt8) × (List (List UInt8)) × Int × Unit) → Option ((Bool × Unit) × (Unit × Unit))) : ((List UInt8) × (List (List UInt8)) × Int × Unit) → Option ((Bool × Unit) × (Unit × Unit)) := fun x => match x with
 | (s_, keys, i, ()) =>
  br k (decide (i < (keys.length : Int)))
  (br k (decide (0 ≤ i ∧ i < (keys.length : Int)))
  (bd k (keys[i.toNat]?) fun x1 =>
  br k (x1 == s_)
  (some ((true, ()), ((), ())))
  (G0 (s_, keys, IntKind.wrap .i64 (i + 1), ())))
  none)
  (some ((false, ()), ((), ())))
noncomputable def spec_l3Key (k : Nat) : ((List UInt8) × Unit) → Option ((Bool × Unit) × (Unit × Unit)) := fun x => match x with
 | (s_, ()) =>
  iter (spec_l3Key.l0 k) k (s_, ([[118, 97, 114], [102, 108, 97, 103], [97, 114, 114, 97, 121], [105, 102], [102, 111, 114, 107], [101, 108, 115, 101], [101, 110, 100], [119, 104, 105, 108, 101], [117, 110, 114, 111, 108, 108], [97, 115, 115, 101, 114, 116], [97, 115, 115, 117, 109, 101], [105, 110, 112, 117, 116], [115, 112, 108, 105, 116], [109, 101, 114, 103, 101], [116, 114, 117, 101], [102, 97, 108, 115, 101]] : List (List UInt8)), 0, ())
noncomputable def spec_l3Key.sg (k : Nat) : Sig := ⟨spec_l3Key.A, spec_l3Key.R, spec_l3Key k⟩
noncomputable def spec_l3Key.C (k : Nat) : Ctx := ⟨Tryd.prog, [], k⟩
theorem spec_l3Key.ev (k : Nat) (x : spec_l3Key.A.T) : evFunc (spec_l3Key.C k) spec_l3Key.ann Tryd.f128 spec_l3Key.A spec_l3Key.R x = spec_l3Key k x := by kernel_rfl
theorem spec_l3Key.ok {L : List (Nat × Obj)}  (k : Nat) : SigHolds Tryd.prog L 128 (spec_l3Key.sg k) :=
  sig_of_ev (C := spec_l3Key.C k) holds_nil (by kernel_rfl) Tryd.func128 (by kernel_rfl) spec_l3Key.ann spec_l3Key.A spec_l3Key.R (fun x y h => (spec_l3Key.ev k x).trans h) (by kernel_rfl)

/-! loop.example/g00719/spec.l3Name -/
def spec_l3Name.A : Sh := (.cons (.pur .str) .nil)
def spec_l3Name.R : Sh := (.cons (.pur .bool) .nil)
def spec_l3Name.ann : Ann := { loops := [(0, [(0, (.pur .str)), (3, (.pur (.int .i64)))])], joins := [(4, [(19, .bool)]), (6, [(2, .bool)])], keys := [] }
noncomputable def spec_l3Name.l0 (k : Nat)  (G0 : ((List UInt8) × Int × Unit) → Option ((Bool × Unit) × (Unit × Unit))) : ((List UInt8) × Int × Unit) → Option ((Bool × Unit) × (Unit × Unit)) := fun x => match x with
 | (s_, i, ()) =>
  br k (decide (i < (s_.length : Int)))
  ((br k (decide (0 ≤ i))
  (bd k (s_[i.toNat]?) fun b1 =>
  br k (decide ((b1.toNat : Int) < 97))
  (some (true, ()))
  (br k (decide (0 ≤ i))
  (bd k (s_[i.toNat]?) fun b2 =>
  some (decide ((b2.toNat : Int) > 122), ()))
  none))
  none : Option (Bool × Unit)).bind fun j3 =>
  br k (j3.1)
  (some ((false, ()), ((), ())))
  (G0 (s_, IntKind.wrap .i64 (i + 1), ())))
  ((bd k (spec_l1In k ((s_.length : Int), 1, 8, ())) fun y4 =>
  br k (y4.1.1)
  (bd k (spec_l3Key k (s_, ())) fun y5 =>
  some (!y5.1.1, ()))
  (some (false, ())) : Option (Bool × Unit)).bind fun j6 =>
  some ((j6.1, ()), ((), ())))
noncomputable def spec_l3Name (k : Nat) : ((List UInt8) × Unit) → Option ((Bool × Unit) × (Unit × Unit)) := fun x => match x with
 | (s_, ()) =>
  iter (spec_l3Name.l0 k) k (s_, 0, ())
noncomputable def spec_l3Name.sg (k : Nat) : Sig := ⟨spec_l3Name.A, spec_l3Name.R, spec_l3Name k⟩
noncomputable def spec_l3Name.C (k : Nat) : Ctx := ⟨Tryd.prog, [(30, [spec_l1In.sg k]), (128, [spec_l3Key.sg k])], k⟩
theorem spec_l3Name.ev (k : Nat) (x : spec_l3Name.A.T) : evFunc (spec_l3Name.C k) spec_l3Name.ann Tryd.f102 spec_l3Name.A spec_l3Name.R x = spec_l3Name k x := by kernel_rfl
theorem spec_l3Name.ok {L : List (Nat × Obj)}  (k : Nat) : SigHolds Tryd.prog L 102 (spec_l3Name.sg k) :=
  sig_of_ev (C := spec_l3Name.C k) (holds_cons (allok_cons (spec_l1In.ok k) allok_nil) (holds_cons (allok_cons (spec_l3Key.ok k) allok_nil) holds_nil)) (by kernel_rfl) Tryd.func102 (by kernel_rfl) spec_l3Name.ann spec_l3Name.A spec_l3Name.R (fun x y h => (spec_l3Name.ev k x).trans h) (by kernel_rfl)

/-! loop.example/g00719/spec.l3Place -/
def spec_l3Place.A : Sh := (.cons (.pur (.sl false .str)) (.cons (.pur .str) .nil))
def spec_l3Place.R : Sh := (.cons (.pur (.int .i64)) .nil)
def spec_l3Place.ann : Ann := { loops := [(0, [(0, (.pur (.sl false .str))), (1, (.pur .str)), (5, (.pur (.int .i64)))])], joins := [], keys := [] }
noncomputable def spec_l3Place.l0 (k : Nat)  (G0 : ((List (List UInt8)) × (List UInt8) × Int × Unit) → Option ((Int × Unit) × (Unit × Unit × Unit))) : ((List (List UInt8)) × (List UInt8) × Int × Unit) → Option ((Int × Unit) × (Unit × Unit × Unit)) := fun x => match x with
 | (l_, s_, i, ()) =>
  br k (decide (i < (l_.length : Int)))
  (br k (decide (0 ≤ i))
  (bd k (l_[i.toNat]?) fun x1 =>
  br k (x1 == s_)
  (some ((i, ()), ((), (), ())))
  (G0 (l_, s_, IntKind.wrap .i64 (i + 1), ())))
  none)
  (some (((-1), ()), ((), (), ())))
noncomputable def spec_l3Place (k : Nat) : ((List (List UInt8)) × (List UInt8) × Unit) → Option ((Int × Unit) × (Unit × Unit × Unit)) := fun x => match x with
 | (l_, s_, ()) =>
  iter (spec_l3Place.l0 k) k (l_, s_, 0, ())
noncomputable def spec_l3Place.sg (k : Nat) : Sig := ⟨spec_l3Place.A, spec_l3Place.R, spec_l3Place k⟩
noncomputable def spec_l3Place.C (k : Nat) : Ctx := ⟨Tryd.prog, [], k⟩
theorem spec_l3Place.ev (k : Nat) (x : spec_l3Place.A.T) : evFunc (spec_l3Place.C k) spec_l3Place.ann Tryd.f103 spec_l3Place.A spec_l3Place.R x = spec_l3Place k x := by kernel_rfl
theorem spec_l3Place.ok {L : List (Nat × Obj)}  (k : Nat) : SigHolds Tryd.prog L 103 (spec_l3Place.sg k) :=
  sig_of_ev (C := spec_l3Place.C k) holds_nil (by kernel_rfl) Tryd.func103 (by kernel_rfl) spec_l3Place.ann spec_l3Place.A spec_l3Place.R (fun x y h => (spec_l3Place.ev k x).trans h) (by kernel_rfl)

/-! loop.example/g00719/spec.DeclOk -/
def spec_DeclOk.A : Sh := (.cons (.pur (.cons (.sl false .str) (.cons (.sl false .str) (.cons (.sl false (.cons .str (.cons (.int .i64) .nil))) .nil)))) .nil)
def spec_DeclOk.R : Sh := (.cons (.pur .bool) .nil)
def spec_DeclOk.ann : Ann := { loops := [(0, [(1, (.box (.cons (.pur (.sl false .str)) (.cons (.pur (.sl false .str)) (.cons (.pur (.sl false (.cons .str (.cons (.int .i64) .nil)))) .nil))))), (3, (.own .str)), (4, (.pur (.int .i64)))]), (2, [(3, (.own .str)), (5, (.pur (.int .i64)))])], joins := [(1, [(21, .bool)]), (13, [(75, .bool)])], keys := [(3, [([22], true), ([1], false), ([1], false), ([22, 25], true), ([1], false), ([1], false), ([25, 28], true), ([28], false)])] }
noncomputable def spec_DeclOk.l2 (k : Nat)  (G2 : ((List (List UInt8)) × Int × Unit) → Option ((Bool × Unit) × (Unit × Unit))) : ((List (List UInt8)) × Int × Unit) → Option ((Bool × Unit) × (Unit × Unit)) := fun x => match x with
 | (all, i, ()) =>
  br k (decide (i < (all.length : Int)))
  ((br k (decide (0 ≤ i ∧ i < (all.length : Int)))
  (bd k (all[i.toNat]?) fun x5 =>
  bd k (spec_l3Name k (x5, ())) fun y6 =>
  br k (!y6.1.1)
  (some (true, ()))
  (br k (decide (0 ≤ i ∧ i ≤ (all.length : Int)))
  (br k (decide (0 ≤ i ∧ i < (all.length : Int)))
  (bd k (all[i.toNat]?) fun x7 =>
  bd k (spec_l3Place k (subL all ((0 : Int).toNat) (i.toNat - (0 : Int).toNat), x7, ())) fun y8 =>
  some (decide (y8.1.1 ≥ 0), ()))
  none)
  none))
  none : Option (Bool × Unit)).bind fun j9 =>
  br k (j9.1)
  (some ((false, ()), ((), ())))
  (G2 (all, IntKind.wrap .i64 (i + 1), ())))
  (some ((true, ()), ((), ())))
noncomputable def spec_DeclOk.l0 (k : Nat)  (G0 : (((List (List UInt8)) × (List (List UInt8)) × (List ((List UInt8) × Int × Unit)) × Unit) × (List (List UInt8)) × Int × Unit) → Option ((Bool × Unit) × (Unit × Unit))) : (((List (List UInt8)) × (List (List UInt8)) × (List ((List UInt8) × Int × Unit)) × Unit) × (List (List UInt8)) × Int × Unit) → Option ((Bool × Unit) × (Unit × Unit)) := fun x => match x with
 | ((d__0, d__1, d__2, ()), all, i, ()) =>
  br k (decide (i < (d__2.length : Int)))
  (br k (decide (0 ≤ i))
  (bd k (d__2[i.toNat]?) fun x2 =>
  bd k (spec_l1In k (x2.2.1, 1, 16, ())) fun y3 =>
  br k (!y3.1.1)
  (some ((false, ()), ((), ())))
  (br k (decide (0 ≤ i))
  (bd k (d__2[i.toNat]?) fun x4 =>
  br k (decide ((all.length + ([x4.1] : List (List UInt8)).length) * 16 ≤ maxBytes))
  (G0 ((d__0, d__1, d__2, ()), all ++ ([x4.1] : List (List UInt8)), IntKind.wrap .i64 (i + 1), ()))
  none)
  none))
  none)
  (iter (spec_DeclOk.l2 k) k (all, 0, ()))
noncomputable def spec_DeclOk (k : Nat) : (((List (List UInt8)) × (List (List UInt8)) × (List ((List UInt8) × Int × Unit)) × Unit) × Unit) → Option ((Bool × Unit) × (Unit × Unit)) := fun x => match x with
 | (d_, ()) =>
  (br k (decide ((d_.1.length : Int) > 5))
  (some (true, ()))
  (br k (decide ((d_.2.1.length : Int) > 3))
  (some (true, ()))
  (some (decide ((d_.2.2.1.length : Int) > 2), ()))) : Option (Bool × Unit)).bind fun j1 =>
  br k (j1.1)
  (some ((false, ()), ((), ())))
  (br k (decide ((([] : List (List UInt8)).length + d_.1.length) * 16 ≤ maxBytes))
  (br k (decide (((([] : List (List UInt8)) ++ d_.1).length + d_.2.1.length) * 16 ≤ maxBytes))
  (iter (spec_DeclOk.l0 k) k ((d_.1, d_.2.1, d_.2.2.1, ()), (([] : List (List UInt8)) ++ d_.1) ++ d_.2.1, 0, ()))
  none)
  none)
noncomputable def spec_DeclOk.sg (k : Nat) : Sig := ⟨spec_DeclOk.A, spec_DeclOk.R, spec_DeclOk k⟩
noncomputable def spec_DeclOk.C (k : Nat) : Ctx := ⟨Tryd.prog, [(30, [spec_l1In.sg k]), (102, [spec_l3Name.sg k]), (103, [spec_l3Place.sg k])], k⟩
theorem spec_DeclOk.ev (k : Nat) (x : spec_DeclOk.A.T) : evFunc (spec_DeclOk.C k) spec_DeclOk.ann Tryd.f79 spec_DeclOk.A spec_DeclOk.R x = spec_DeclOk k x := by kernel_rfl
theorem spec_DeclOk.ok {L : List (Nat × Obj)}  (k : Nat) : SigHolds Tryd.prog L 79 (spec_DeclOk.sg k) :=
  sig_of_ev (C := spec_DeclOk.C k) (holds_cons (allok_cons (spec_l1In.ok k) allok_nil) (holds_cons (allok_cons (spec_l3Name.ok k) allok_nil) (holds_cons (allok_cons (spec_l3Place.ok k) allok_nil) holds_nil))) (by kernel_rfl) Tryd.func79 (by kernel_rfl) spec_DeclOk.ann spec_DeclOk.A spec_DeclOk.R (fun x y h => (spec_DeclOk.ev k x).trans h) (by kernel_rfl)

/-! loop.example/g00719/spec.l6List -/
def spec_l6List.A : Sh := (.cons (.pur (.cons .bool (.cons (.sl false (.cons (.int .i64) (.cons (.int .i64) .nil))) (.cons (.sl false (.cons (.int .i64) (.cons (.int .i64) .nil))) .nil)))) .nil)
def spec_l6List.R : Sh := (.cons (.own (.cons (.int .i64) (.cons (.int .i64) .nil))) .nil)
def spec_l6List.ann : Ann := { loops := [], joins := [], keys := [(1, [([3], true), ([1], false), ([1], false), ([3, 6], true), ([1], false), ([1], false), ([6, 9], true), ([9], false)])] }
noncomputable def spec_l6List (k : Nat) : ((Bool × (List (Int × Int × Unit)) × (List (Int × Int × Unit)) × Unit) × Unit) → Option (((List (Int × Int × Unit)) × Unit) × (Unit × Unit)) := fun x => match x with
 | (e_, ()) =>
  br k (decide ((([] : List (Int × Int × Unit)).length + e_.2.1.length) * 16 ≤ maxBytes))
  (br k (decide (((([] : List (Int × Int × Unit)) ++ e_.2.1).length + e_.2.2.1.length) * 16 ≤ maxBytes))
  (some (((([] : List (Int × Int × Unit)) ++ e_.2.1) ++ e_.2.2.1, ()), ((), ())))
  none)
  none
noncomputable def spec_l6List.sg (k : Nat) : Sig := ⟨spec_l6List.A, spec_l6List.R, spec_l6List k⟩
noncomputable def spec_l6List.C (k : Nat) : Ctx := ⟨Tryd.prog, [], k⟩
theorem spec_l6List.ev (k : Nat) (x : spec_l6List.A.T) : evFunc (spec_l6List.C k) spec_l6List.ann Tryd.f80 spec_l6List.A spec_l6List.R x = spec_l6List k x := by kernel_rfl
theorem spec_l6List.ok {L : List (Nat × Obj)}  (k : Nat) : SigHolds Tryd.prog L 80 (spec_l6List.sg k) :=
  sig_of_ev (C := spec_l6List.C k) holds_nil (by kernel_rfl) Tryd.func80 (by kernel_rfl) spec_l6List.ann spec_l6List.A spec_l6List.R (fun x y h => (spec_l6List.ev k x).trans h) (by kernel_rfl)

/-! loop.example/g00719/spec.IvOk -/
def spec_IvOk.A : Sh := (.cons (.pur (.cons (.int .i64) (.cons (.int .i64) .nil))) .nil)
def spec_IvOk.R : Sh := (.cons (.pur .bool) .nil)
def spec_IvOk.ann : Ann := { loops := [], joins := [], keys := [] }
noncomputable def spec_IvOk (k : Nat) : ((Int × Int × Unit) × Unit) → Option ((Bool × Unit) × (Unit × Unit)) := fun x => match x with
 | (a, ()) =>
  some ((decide (a.1 ≤ a.2.1), ()), ((), ()))
noncomputable def spec_IvOk.sg (k : Nat) : Sig := ⟨spec_IvOk.A, spec_IvOk.R, spec_IvOk k⟩
noncomputable def spec_IvOk.C (k : Nat) : Ctx := ⟨Tryd.prog, [], k⟩
theorem spec_IvOk.ev (k : Nat) (x : spec_IvOk.A.T) : evFunc (spec_IvOk.C k) spec_IvOk.ann Tryd.f81 spec_IvOk.A spec_IvOk.R x = spec_IvOk k x := by kernel_rfl
theorem spec_IvOk.ok {L : List (Nat × Obj)}  (k : Nat) : SigHolds Tryd.prog L 81 (spec_IvOk.sg k) :=
  sig_of_ev (C := spec_IvOk.C k) holds_nil (by kernel_rfl) Tryd.func81 (by kernel_rfl) spec_IvOk.ann spec_IvOk.A spec_IvOk.R (fun x y h => (spec_IvOk.ev k x).trans h) (by kernel_rfl)

/-! loop.example/g00719/spec.EnvOk -/
def spec_EnvOk.A : Sh := (.cons (.pur (.cons (.sl false .str) (.cons (.sl false .str) (.cons (.sl false (.cons .str (.cons (.int .i64) .nil))) .nil)))) (.cons (.pur (.cons .bool (.cons (.sl false (.cons (.int .i64) (.cons (.int .i64) .nil))) (.cons (.sl false (.cons (.int .i64) (.cons (.int .i64) .nil))) .nil)))) .nil))
def spec_EnvOk.R : Sh := (.cons (.pur .bool) .nil)
def spec_EnvOk.ann : Ann := { loops := [(0, [(5, (.own (.cons (.int .i64) (.cons (.int .i64) .nil)))), (6, (.pur (.int .i64)))])], joins := [(4, [(4, .bool)]), (5, [(38, .bool)])], keys := [] }
noncomputable def spec_EnvOk.l0 (k : Nat)  (G0 : ((List (Int × Int × Unit)) × Int × Unit) → Option ((Bool × Unit) × (Unit × Unit × Unit))) : ((List (Int × Int × Unit)) × Int × Unit) → Option ((Bool × Unit) × (Unit × Unit × Unit)) := fun x => match x with
 | (l_, i, ()) =>
  br k (decide (i < (l_.length : Int)))
  (br k (decide (0 ≤ i ∧ i < (l_.length : Int)))
  (bd k (l_[i.toNat]?) fun x5 =>
  bd k (spec_IvOk k (x5, ())) fun y6 =>
  br k (!y6.1.1)
  (some ((false, ()), ((), (), ())))
  (G0 (l_, IntKind.wrap .i64 (i + 1), ())))
  none)
  (some ((true, ()), ((), (), ())))
noncomputable def spec_EnvOk (k : Nat) : (((List (List UInt8)) × (List (List UInt8)) × (List ((List UInt8) × Int × Unit)) × Unit) × (Bool × (List (Int × Int × Unit)) × (List (Int × Int × Unit)) × Unit) × Unit) → Option ((Bool × Unit) × (Unit × Unit × Unit)) := fun x => match x with
 | (d_, e_, ()) =>
  bd k (spec_DeclOk k (d_, ())) fun y1 =>
  br k (!y1.1.1)
  (some ((false, ()), ((), (), ())))
  (br k (!e_.1)
  ((br k ((e_.2.1.length : Int) == 0)
  (some ((e_.2.2.1.length : Int) == 0, ()))
  (some (false, ())) : Option (Bool × Unit)).bind fun j2 =>
  some ((j2.1, ()), ((), (), ())))
  ((br k ((e_.2.1.length : Int) != (d_.1.length : Int))
  (some (true, ()))
  (some ((e_.2.2.1.length : Int) != (d_.2.2.1.length : Int), ())) : Option (Bool × Unit)).bind fun j3 =>
  br k (j3.1)
  (some ((false, ()), ((), (), ())))
  (bd k (spec_l6List k (e_, ())) fun y4 =>
  iter (spec_EnvOk.l0 k) k (y4.1.1, 0, ()))))
noncomputable def spec_EnvOk.sg (k : Nat) : Sig := ⟨spec_EnvOk.A, spec_EnvOk.R, spec_EnvOk k⟩
noncomputable def spec_EnvOk.C (k : Nat) : Ctx := ⟨Tryd.prog, [(79, [spec_DeclOk.sg k]), (80, [spec_l6List.sg k]), (81, [spec_IvOk.sg k])], k⟩
theorem spec_EnvOk.ev (k : Nat) (x : spec_EnvOk.A.T) : evFunc (spec_EnvOk.C k) spec_EnvOk.ann Tryd.f48 spec_EnvOk.A spec_EnvOk.R x = spec_EnvOk k x := by kernel_rfl
theorem spec_EnvOk.ok {L : List (Nat × Obj)}  (k : Nat) : SigHolds Tryd.prog L 48 (spec_EnvOk.sg k) :=
  sig_of_ev (C := spec_EnvOk.C k) (holds_cons (allok_cons (spec_DeclOk.ok k) allok_nil) (holds_cons (allok_cons (spec_l6List.ok k) allok_nil) (holds_cons (allok_cons (spec_IvOk.ok k) allok_nil) holds_nil))) (by kernel_rfl) Tryd.func48 (by kernel_rfl) spec_EnvOk.ann spec_EnvOk.A spec_EnvOk.R (fun x y h => (spec_EnvOk.ev k x).trans h) (by kernel_rfl)

/-! loop.example/g00719/spec.l13Iv -/
def spec_l13Iv.A : Sh := (.cons (.pur (.cons (.int .i64) (.cons (.int .i64) .nil))) .nil)
def spec_l13Iv.R : Sh := (.cons (.pur .str) .nil)
def spec_l13Iv.ann : Ann := { loops := [], joins := [], keys := [] }
noncomputable def spec_l13Iv (k : Nat) : ((Int × Int × Unit) × Unit) → Option (((List UInt8) × Unit) × (Unit × Unit)) := fun x => match x with
 | (a, ()) =>
  bd k (spec_l1Dec k (a.1, ())) fun y1 =>
  br k (decide (((y1.1.1.length + ([46, 46] : List UInt8).length : Nat) : Int) ≤ maxInt64))
  (bd k (spec_l1Dec k (a.2.1, ())) fun y2 =>
  br k (decide ((((y1.1.1 ++ [46, 46]).length + y2.1.1.length : Nat) : Int) ≤ maxInt64))
  (some (((y1.1.1 ++ [46, 46]) ++ y2.1.1, ()), ((), ())))
  none)
  none
noncomputable def spec_l13Iv.sg (k : Nat) : Sig := ⟨spec_l13Iv.A, spec_l13Iv.R, spec_l13Iv k⟩
noncomputable def spec_l13Iv.C (k : Nat) : Ctx := ⟨Tryd.prog, [(32, [spec_l1Dec.sg k])], k⟩
theorem spec_l13Iv.ev (k : Nat) (x : spec_l13Iv.A.T) : evFunc (spec_l13Iv.C k) spec_l13Iv.ann Tryd.f82 spec_l13Iv.A spec_l13Iv.R x = spec_l13Iv k x := by kernel_rfl
theorem spec_l13Iv.ok {L : List (Nat × Obj)}  (k : Nat) : SigHolds Tryd.prog L 82 (spec_l13Iv.sg k) :=
  sig_of_ev (C := spec_l13Iv.C k) (holds_cons (allok_cons (spec_l1Dec.ok k) allok_nil) holds_nil) (by kernel_rfl) Tryd.func82 (by kernel_rfl) spec_l13Iv.ann spec_l13Iv.A spec_l13Iv.R (fun x y h => (spec_l13Iv.ev k x).trans h) (by kernel_rfl)

/-! loop.example/g00719/spec.l13Joined -/
def spec_l13Joined.A : Sh := (.cons (.pur (.sl false .str)) (.cons (.pur .str) .nil))
def spec_l13Joined.R : Sh := (.cons (.pur .str) .nil)
def spec_l13Joined.ann : Ann := { loops := [(0, [(0, (.pur (.sl false .str))), (1, (.pur .str)), (5, (.pur .str)), (6, (.pur (.int .i64)))])], joins := [], keys := [] }
noncomputable def spec_l13Joined.l0 (k : Nat)  (G0 : ((List (List UInt8)) × (List UInt8) × (List UInt8) × Int × Unit) → Option (((List UInt8) × Unit) × (Unit × Unit × Unit))) : ((List (List UInt8)) × (List UInt8) × (List UInt8) × Int × Unit) → Option (((List UInt8) × Unit) × (Unit × Unit × Unit)) := fun x => match x with
 | (l_, between, s_, i, ()) =>
  br k (decide (i < (l_.length : Int)))
  (br k (decide (i > 0))
  (br k (decide (((s_.length + between.length : Nat) : Int) ≤ maxInt64))
  (br k (decide (0 ≤ i))
  (bd k (l_[i.toNat]?) fun x1 =>
  br k (decide ((((s_ ++ between).length + x1.length : Nat) : Int) ≤ maxInt64))
  (G0 (l_, between, (s_ ++ between) ++ x1, IntKind.wrap .i64 (i + 1), ()))
  none)
  none)
  none)
  (br k (decide (0 ≤ i))
  (bd k (l_[i.toNat]?) fun x2 =>
  br k (decide (((s_.length + x2.length : Nat) : Int) ≤ maxInt64))
  (G0 (l_, between, s_ ++ x2, IntKind.wrap .i64 (i + 1), ()))
  none)
  none))
  (some ((s_, ()), ((), (), ())))
noncomputable def spec_l13Joined (k : Nat) : ((List (List UInt8)) × (List UInt8) × Unit) → Option (((List UInt8) × Unit) × (Unit × Unit × Unit)) := fun x => match x with
 | (l_, between, ()) =>
  iter (spec_l13Joined.l0 k) k (l_, between, [], 0, ())
noncomputable def spec_l13Joined.sg (k : Nat) : Sig := ⟨spec_l13Joined.A, spec_l13Joined.R, spec_l13Joined k⟩
noncomputable def spec_l13Joined.C (k : Nat) : Ctx := ⟨Tryd.prog, [], k⟩
theorem spec_l13Joined.ev (k : Nat) (x : spec_l13Joined.A.T) : evFunc (spec_l13Joined.C k) spec_l13Joined.ann Tryd.f62 spec_l13Joined.A spec_l13Joined.R x = spec_l13Joined k x := by kernel_rfl
theorem spec_l13Joined.ok {L : List (Nat × Obj)}  (k : Nat) : SigHolds Tryd.prog L 62 (spec_l13Joined.sg k) :=
  sig_of_ev (C := spec_l13Joined.C k) holds_nil (by kernel_rfl) Tryd.func62 (by kernel_rfl) spec_l13Joined.ann spec_l13Joined.A spec_l13Joined.R (fun x y h => (spec_l13Joined.ev k x).trans h) (by kernel_rfl)

/-! loop.example/g00719/spec.l13Env -/
def spec_l13Env.A : Sh := (.cons (.pur (.cons (.sl false .str) (.cons (.sl false .str) (.cons (.sl false (.cons .str (.cons (.int .i64) .nil))) .nil)))) (.cons (.pur (.cons .bool (.cons (.sl false (.cons (.int .i64) (.cons (.int .i64) .nil))) (.cons (.sl false (.cons (.int .i64) (.cons (.int .i64) .nil))) .nil)))) .nil))
def spec_l13Env.R : Sh := (.cons (.pur .str) .nil)
def spec_l13Env.ann : Ann := { loops := [(0, [(2, (.box (.cons (.pur (.sl false .str)) (.cons (.pur (.sl false .str)) (.cons (.pur (.sl false (.cons .str (.cons (.int .i64) .nil)))) .nil))))), (3, (.box (.cons (.pur .bool) (.cons (.pur (.sl false (.cons (.int .i64) (.cons (.int .i64) .nil)))) (.cons (.pur (.sl false (.cons (.int .i64) (.cons (.int .i64) .nil)))) .nil))))), (5, (.own .str)), (6, (.pur (.int .i64)))]), (2, [(2, (.box (.cons (.pur (.sl false .str)) (.cons (.pur (.sl false .str)) (.cons (.pur (.sl false (.cons .str (.cons (.int .i64) .nil)))) .nil))))), (3, (.box (.cons (.pur .bool) (.cons (.pur (.sl false (.cons (.int .i64) (.cons (.int .i64) .nil)))) (.cons (.pur (.sl false (.cons (.int .i64) (.cons (.int .i64) .nil)))) .nil))))), (5, (.own .str)), (7, (.pur (.int .i64)))])], joins := [], keys := [(7, [([5], false), ([2], false), ([2], false), ([], false), ([], false), ([], false), ([], false), ([3], false), ([3], false), ([], false), ([], false), ([], false), ([], false), ([], false), ([33], true), ([5, 33, 34], true), ([34], false)]), (11, [([5], false), ([2], false), ([2], false), ([], false), ([], false), ([], false), ([], false), ([], false), ([3], false), ([3], false), ([], false), ([], false), ([], false), ([], false), ([], false), ([57], true), ([5, 57, 58], true), ([58], false)])] }
noncomputable def spec_l13Env.l2 (k : Nat)  (G2 : (((List (List UInt8)) × (List (List UInt8)) × (List ((List UInt8) × Int × Unit)) × Unit) × (Bool × (List (Int × Int × Unit)) × (List (Int × Int × Unit)) × Unit) × (List (List UInt8)) × Int × Unit) → Option (((List UInt8) × Unit) × (Unit × Unit × Unit))) : (((List (List UInt8)) × (List (List UInt8)) × (List ((List UInt8) × Int × Unit)) × Unit) × (Bool × (List (Int × Int × Unit)) × (List (Int × Int × Unit)) × Unit) × (List (List UInt8)) × Int × Unit) → Option (((List UInt8) × Unit) × (Unit × Unit × Unit)) := fun x => match x with
 | ((d__0, d__1, d__2, ()), (e__0, e__1, e__2, ()), l_, i, ()) =>
  br k (decide (i < (e__2.length : Int)))
  (br k (decide (0 ≤ i))
  (bd k (d__2[i.toNat]?) fun x4 =>
  br k (decide (((x4.1.length + ([32] : List UInt8).length : Nat) : Int) ≤ maxInt64))
  (br k (decide (0 ≤ i))
  (bd k (e__2[i.toNat]?) fun x5 =>
  bd k (spec_l13Iv k (x5, ())) fun y6 =>
  br k (decide ((((x4.1 ++ [32]).length + y6.1.1.length : Nat) : Int) ≤ maxInt64))
  (br k (decide ((l_.length + ([(x4.1 ++ [32]) ++ y6.1.1] : List (List UInt8)).length) * 16 ≤ maxBytes))
  (G2 ((d__0, d__1, d__2, ()), (e__0, e__1, e__2, ()), l_ ++ ([(x4.1 ++ [32]) ++ y6.1.1] : List (List UInt8)), IntKind.wrap .i64 (i + 1), ()))
  none)
  none)
  none)
  none)
  none)
  (br k ((l_.length : Int) == 0)
  (some (([97, 108, 108], ()), ((), (), ())))
  (bd k (spec_l13Joined k (l_, [32], ())) fun y7 =>
  some ((y7.1.1, ()), ((), (), ()))))
noncomputable def spec_l13Env.l0 (k : Nat)  (G0 : (((List (List UInt8)) × (List (List UInt8)) × (List ((List UInt8) × Int × Unit)) × Unit) × (Bool × (List (Int × Int × Unit)) × (List (Int × Int × Unit)) × Unit) × (List (List UInt8)) × Int × Unit) → Option (((List UInt8) × Unit) × (Unit × Unit × Unit))) : (((List (List UInt8)) × (List (List UInt8)) × (List ((List UInt8) × Int × Unit)) × Unit) × (Bool × (List (Int × Int × Unit)) × (List (Int × Int × Unit)) × Unit) × (List (List UInt8)) × Int × Unit) → Option (((List UInt8) × Unit) × (Unit × Unit × Unit)) := fun x => match x with
 | ((d__0, d__1, d__2, ()), (e__0, e__1, e__2, ()), l_, i, ()) =>
  br k (decide (i < (e__1.length : Int)))
  (br k (decide (0 ≤ i))
  (bd k (d__0[i.toNat]?) fun x1 =>
  br k (decide (((x1.length + ([32] : List UInt8).length : Nat) : Int) ≤ maxInt64))
  (br k (decide (0 ≤ i))
  (bd k (e__1[i.toNat]?) fun x2 =>
  bd k (spec_l13Iv k (x2, ())) fun y3 =>
  br k (decide ((((x1 ++ [32]).length + y3.1.1.length : Nat) : Int) ≤ maxInt64))
  (br k (decide ((l_.length + ([(x1 ++ [32]) ++ y3.1.1] : List (List UInt8)).length) * 16 ≤ maxBytes))
  (G0 ((d__0, d__1, d__2, ()), (e__0, e__1, e__2, ()), l_ ++ ([(x1 ++ [32]) ++ y3.1.1] : List (List UInt8)), IntKind.wrap .i64 (i + 1), ()))
  none)
  none)
  none)
  none)
  none)
  (iter (spec_l13Env.l2 k) k ((d__0, d__1, d__2, ()), (e__0, e__1, e__2, ()), l_, 0, ()))
noncomputable def spec_l13Env (k : Nat) : (((List (List UInt8)) × (List (List UInt8)) × (List ((List UInt8) × Int × Unit)) × Unit) × (Bool × (List (Int × Int × Unit)) × (List (Int × Int × Unit)) × Unit) × Unit) → Option (((List UInt8) × Unit) × (Unit × Unit × Unit)) := fun x => match x with
 | (d_, e_, ()) =>
  br k (!e_.1)
  (some (([110, 111, 110, 101], ()), ((), (), ())))
  (iter (spec_l13Env.l0 k) k ((d_.1, d_.2.1, d_.2.2.1, ()), (e_.1, e_.2.1, e_.2.2.1, ()), ([] : List (List UInt8)), 0, ()))
noncomputable def spec_l13Env.sg (k : Nat) : Sig := ⟨spec_l13Env.A, spec_l13Env.R, spec_l13Env k⟩
noncomputable def spec_l13Env.C (k : Nat) : Ctx := ⟨Tryd.prog, [(82, [spec_l13Iv.sg k]), (62, [spec_l13Joined.sg k])], k⟩
theorem spec_l13Env.ev (k : Nat) (x : spec_l13Env.A.T) : evFunc (spec_l13Env.C k) spec_l13Env.ann Tryd.f49 spec_l13Env.A spec_l13Env.R x = spec_l13Env k x := by kernel_rfl
theorem spec_l13Env.ok {L : List (Nat × Obj)}  (k : Nat) : SigHolds Tryd.prog L 49 (spec_l13Env.sg k) :=
  sig_of_ev (C := spec_l13Env.C k) (holds_cons (allok_cons (spec_l13Iv.ok k) allok_nil) (holds_cons (allok_cons (spec_l13Joined.ok k) allok_nil) holds_nil)) (by kernel_rfl) Tryd.func49 (by kernel_rfl) spec_l13Env.ann spec_l13Env.A spec_l13Env.R (fun x y h => (spec_l13Env.ev k x).trans h) (by kernel_rfl)

/-! loop.example/g00719/spec.EnvText -/
def spec_EnvText.A : Sh := (.cons (.pur (.cons (.sl false .str) (.cons (.sl false .str) (.cons (.sl false (.cons .str (.cons (.int .i64) .nil))) .nil)))) (.cons (.pur (.cons .bool (.cons (.sl false (.cons (.int .i64) (.cons (.int .i64) .nil))) (.cons (.sl false (.cons (.int .i64) (.cons (.int .i64) .nil))) .nil)))) .nil))
def spec_EnvText.R : Sh := (.cons (.pur .str) .nil)
def spec_EnvText.ann : Ann := { loops := [], joins := [], keys := [] }
noncomputable def spec_EnvText (k : Nat) : (((List (List UInt8)) × (List (List UInt8)) × (List ((List UInt8) × Int × Unit)) × Unit) × (Bool × (List (Int × Int × Unit)) × (List (Int × Int × Unit)) × Unit) × Unit) → Option (((List UInt8) × Unit) × (Unit × Unit × Unit)) := fun x => match x with
 | (d_, e_, ()) =>
  bd k (spec_EnvOk k (d_, e_, ())) fun y1 =>
  br k (!y1.1.1)
  (some (([], ()), ((), (), ())))
  (bd k (spec_l13Env k (d_, e_, ())) fun y2 =>
  some ((y2.1.1, ()), ((), (), ())))
noncomputable def spec_EnvText.sg (k : Nat) : Sig := ⟨spec_EnvText.A, spec_EnvText.R, spec_EnvText k⟩
noncomputable def spec_EnvText.C (k : Nat) : Ctx := ⟨Tryd.prog, [(48, [spec_EnvOk.sg k]), (49, [spec_l13Env.sg k])], k⟩
theorem spec_EnvText.ev (k : Nat) (x : spec_EnvText.A.T) : evFunc (spec_EnvText.C k) spec_EnvText.ann Tryd.f19 spec_EnvText.A spec_EnvText.R x = spec_EnvText k x := by kernel_rfl
theorem spec_EnvText.ok {L : List (Nat × Obj)}  (k : Nat) : SigHolds Tryd.prog L 19 (spec_EnvText.sg k) :=
  sig_of_ev (C := spec_EnvText.C k) (holds_cons (allok_cons (spec_EnvOk.ok k) allok_nil) (holds_cons (allok_cons (spec_l13Env.ok k) allok_nil) holds_nil)) (by kernel_rfl) Tryd.func19 (by kernel_rfl) spec_EnvText.ann spec_EnvText.A spec_EnvText.R (fun x y h => (spec_EnvText.ev k x).trans h) (by kernel_rfl)

end Go.Pev.F
