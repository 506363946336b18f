/-
  Printed by gen.py: what functions of the program compute, and that they do.
-/
import Derived.Test.YtgajbbadidobfaaDoorFn0
open Go.Proofs Go.Pev
namespace Go.Pev.F
set_option maxRecDepth 100000
set_option linter.unusedVariables false

/-! (*loop.example/g00719/spec.l1Rd).hurt -/
def spec_l1Rd_hurt.A : Sh := (.cons (.box (.cons (.pur (.sl false (.int .u8))) (.cons (.pur (.int .i64)) .nil))) (.cons (.pur .str) .nil))
def spec_l1Rd_hurt.R : Sh := (.cons (.pur .str) .nil)
def spec_l1Rd_hurt.ann : Ann := { loops := [], joins := [], keys := [(7, [([], false), ([], false), ([], false), ([29], true), ([0], false), ([0, 31], true), ([29], false), ([29], false), ([], false), ([], false), ([], false), ([], false), ([], false), ([], false), ([], false)])] }
noncomputable def spec_l1Rd_hurt (k : Nat) : (((List Int) × Int × Unit) × (List UInt8) × Unit) → Option (((List UInt8) × Unit) × (((List Int) × Int × Unit) × Unit × Unit)) := fun x => match x with
 | ((r_0, r_1, ()), s_, ()) =>
  bd k (spec_l1Rd_below k ((r_0, r_1, ()), 6, ())) fun y1 =>
  br k (y1.1.1 == 1)
  (bd k (spec_l1Rd_below k ((y1.2.1.1, y1.2.1.2.1, ()), IntKind.wrap .i64 ((s_.length : Int) + 1), ())) fun y2 =>
  br k (decide (0 ≤ y2.1.1 ∧ y2.1.1 ≤ (s_.length : Int)))
  (some ((s_.take y2.1.1.toNat, ()), ((y2.2.1.1, y2.2.1.2.1, ()), (), ())))
  none)
  (br k (y1.1.1 == 2)
  (br k (decide ((s_.length : Int) > 0))
  (bd k (spec_l1Rd_below k ((y1.2.1.1, y1.2.1.2.1, ()), (s_.length : Int), ())) fun y3 =>
  br k (decide (0 ≤ y3.1.1 ∧ y3.1.1 ≤ (s_.length : Int)))
  (bd k (spec_l1Rd_below k ((y3.2.1.1, y3.2.1.2.1, ()), 4, ())) fun y4 =>
  br k (decide (0 ≤ y4.1.1 ∧ y4.1.1 < (([[0], [55], [255], [32]] : List (List UInt8)).length : Int)))
  (bd k (([[0], [55], [255], [32]] : List (List UInt8))[y4.1.1.toNat]?) fun x5 =>
  br k (decide ((((s_.take y3.1.1.toNat).length + x5.length : Nat) : Int) ≤ maxInt64))
  (br k (decide (0 ≤ (IntKind.wrap .i64 (y3.1.1 + 1)) ∧ (IntKind.wrap .i64 (y3.1.1 + 1)) ≤ (s_.length : Int)))
  (br k (decide (((((s_.take y3.1.1.toNat) ++ x5).length + (s_.drop (IntKind.wrap .i64 (y3.1.1 + 1)).toNat).length : Nat) : Int) ≤ maxInt64))
  (some ((((s_.take y3.1.1.toNat) ++ x5) ++ (s_.drop (IntKind.wrap .i64 (y3.1.1 + 1)).toNat), ()), ((y4.2.1.1, y4.2.1.2.1, ()), (), ())))
  none)
  none)
  none)
  none)
  none)
  (some ((s_, ()), ((y1.2.1.1, y1.2.1.2.1, ()), (), ()))))
  (br k (y1.1.1 == 3)
  (bd k (spec_l1Rd_below k ((y1.2.1.1, y1.2.1.2.1, ()), 4, ())) fun y6 =>
  br k (decide (0 ≤ y6.1.1 ∧ y6.1.1 < (([[0], [49], [10], [32]] : List (List UInt8)).length : Int)))
  (bd k (([[0], [49], [10], [32]] : List (List UInt8))[y6.1.1.toNat]?) fun x7 =>
  br k (decide (((s_.length + x7.length : Nat) : Int) ≤ maxInt64))
  (some ((s_ ++ x7, ()), ((y6.2.1.1, y6.2.1.2.1, ()), (), ())))
  none)
  none)
  (some ((s_, ()), ((y1.2.1.1, y1.2.1.2.1, ()), (), ())))))
noncomputable def spec_l1Rd_hurt.sg (k : Nat) : Sig := ⟨spec_l1Rd_hurt.A, spec_l1Rd_hurt.R, spec_l1Rd_hurt k⟩
noncomputable def spec_l1Rd_hurt.C (k : Nat) : Ctx := ⟨Tryd.prog, [(41, [spec_l1Rd_below.sg k])], k⟩
theorem spec_l1Rd_hurt.ev (k : Nat) (x : spec_l1Rd_hurt.A.T) : evFunc (spec_l1Rd_hurt.C k) spec_l1Rd_hurt.ann Tryd.f44 spec_l1Rd_hurt.A spec_l1Rd_hurt.R x = spec_l1Rd_hurt k x := by kernel_rfl
theorem spec_l1Rd_hurt.ok {L : List (Nat × Obj)}  (k : Nat) : SigHolds Tryd.prog L 44 (spec_l1Rd_hurt.sg k) :=
  sig_of_ev (C := spec_l1Rd_hurt.C k) (holds_cons (allok_cons (spec_l1Rd_below.ok k) allok_nil) holds_nil) (by kernel_rfl) Tryd.func44 (by kernel_rfl) spec_l1Rd_hurt.ann spec_l1Rd_hurt.A spec_l1Rd_hurt.R (fun x y h => (spec_l1Rd_hurt.ev k x).trans h) (by kernel_rfl)

/-! loop.example/g00719/spec.DrawReadAlarm -/
def spec_DrawReadAlarm.A : Sh := (.cons (.pur (.sl false (.int .u8))) .nil)
def spec_DrawReadAlarm.R : Sh := (.cons (.pur .str) .nil)
def spec_DrawReadAlarm.ann : Ann := { loops := [], joins := [], keys := [] }
noncomputable def spec_DrawReadAlarm (k : Nat) : ((List Int) × Unit) → Option (((List UInt8) × Unit) × (Unit × Unit)) := fun x => match x with
 | (code, ()) =>
  bd k (spec_l1Open k (code, ())) fun y1 =>
  bd k (spec_DrawAlarmText k (code, ())) fun y2 =>
  bd k (spec_AlarmText k (y2.1.1, ())) fun y3 =>
  bd k (spec_l1Rd_once k ((y1.1.1.1, y1.1.1.2.1, ()), 3, ())) fun y4 =>
  br k (y4.1.1)
  (bd k (spec_l1Rd_hurt k ((y4.2.1.1, y4.2.1.2.1, ()), y3.1.1, ())) fun y5 =>
  some ((y5.1.1, ()), ((), ())))
  (some ((y3.1.1, ()), ((), ())))
noncomputable def spec_DrawReadAlarm.sg (k : Nat) : Sig := ⟨spec_DrawReadAlarm.A, spec_DrawReadAlarm.R, spec_DrawReadAlarm k⟩
noncomputable def spec_DrawReadAlarm.C (k : Nat) : Ctx := ⟨Tryd.prog, [(40, [spec_l1Open.sg k]), (15, [spec_DrawAlarmText.sg k]), (8, [spec_AlarmText.sg k]), (43, [spec_l1Rd_once.sg k]), (44, [spec_l1Rd_hurt.sg k])], k⟩
theorem spec_DrawReadAlarm.ev (k : Nat) (x : spec_DrawReadAlarm.A.T) : evFunc (spec_DrawReadAlarm.C k) spec_DrawReadAlarm.ann Tryd.f16 spec_DrawReadAlarm.A spec_DrawReadAlarm.R x = spec_DrawReadAlarm k x := by kernel_rfl
theorem spec_DrawReadAlarm.ok {L : List (Nat × Obj)}  (k : Nat) : SigHolds Tryd.prog L 16 (spec_DrawReadAlarm.sg k) :=
  sig_of_ev (C := spec_DrawReadAlarm.C k) (holds_cons (allok_cons (spec_l1Open.ok k) allok_nil) (holds_cons (allok_cons (spec_DrawAlarmText.ok k) allok_nil) (holds_cons (allok_cons (spec_AlarmText.ok k) allok_nil) (holds_cons (allok_cons (spec_l1Rd_once.ok k) allok_nil) (holds_cons (allok_cons (spec_l1Rd_hurt.ok k) allok_nil) holds_nil))))) (by kernel_rfl) Tryd.func16 (by kernel_rfl) spec_DrawReadAlarm.ann spec_DrawReadAlarm.A spec_DrawReadAlarm.R (fun x y h => (spec_DrawReadAlarm.ev k x).trans h) (by kernel_rfl)

/-! loop.example/g00719/laws.FnAlarmTexts -/
def laws_FnAlarmTexts.A : Sh := (.cons (.pur (.sl false (.int .u8))) .nil)
def laws_FnAlarmTexts.R : Sh := (.cons (.pur .bool) .nil)
def laws_FnAlarmTexts.ann : Ann := { loops := [], joins := [(8, [(52, .bool)]), (11, [(2, .bool)])], keys := [] }
noncomputable def laws_FnAlarmTexts (k : Nat) : ((List Int) × Unit) → Option ((Bool × Unit) × (Unit × Unit)) := fun x => match x with
 | (code, ()) =>
  bd k (laws_big k (code, ())) fun y1 =>
  br k (y1.1.1)
  (some ((true, ()), ((), ())))
  (bd k (spec_DrawAlarmText k (code, ())) fun y2 =>
  bd k (impl_AlarmText k (y2.1.1, ())) fun y3 =>
  bd k (spec_DrawReadAlarm k (code, ())) fun y4 =>
  bd k (impl_ReadAlarm k (y4.1.1, ())) fun y5 =>
  bd k (spec_ReadAlarm k (y4.1.1, ())) fun y6 =>
  (bd k (spec_AlarmText k (y2.1.1, ())) fun y7 =>
  br k (!(y3.1.1 == y7.1.1))
  (some (true, ()))
  (br k (!(y5.1.2.1 == y6.1.2.1))
  (some (true, ()))
  (br k (!((y5.1.1.1 == y6.1.1.1) && ((y5.1.1.2.1 == y6.1.1.2.1) && true)))
  (some (true, ()))
  (br k (y5.1.2.1)
  (bd k (impl_AlarmText k (y5.1.1, ())) fun y8 =>
  some (!(y8.1.1 == y4.1.1), ()))
  (some (false, ()))))) : Option (Bool × Unit)).bind fun j9 =>
  br k (j9.1)
  (some ((false, ()), ((), ())))
  (bd k (impl_ReadAlarm k (y3.1.1, ())) fun y10 =>
  (br k (y10.1.2.1 == (!(y3.1.1 == [])))
  (br k (!y10.1.2.1)
  (some (true, ()))
  (some ((y10.1.1.1 == y2.1.1.1) && ((y10.1.1.2.1 == y2.1.1.2.1) && true), ())))
  (some (false, ())) : Option (Bool × Unit)).bind fun j11 =>
  some ((j11.1, ()), ((), ()))))
noncomputable def laws_FnAlarmTexts.sg (k : Nat) : Sig := ⟨laws_FnAlarmTexts.A, laws_FnAlarmTexts.R, laws_FnAlarmTexts k⟩
noncomputable def laws_FnAlarmTexts.C (k : Nat) : Ctx := ⟨Tryd.prog, [(14, [laws_big.sg k]), (15, [spec_DrawAlarmText.sg k]), (10, [impl_AlarmText.sg k]), (16, [spec_DrawReadAlarm.sg k]), (12, [impl_ReadAlarm.sg k]), (11, [spec_ReadAlarm.sg k]), (8, [spec_AlarmText.sg k])], k⟩
theorem laws_FnAlarmTexts.ev (k : Nat) (x : laws_FnAlarmTexts.A.T) : evFunc (laws_FnAlarmTexts.C k) laws_FnAlarmTexts.ann Tryd.f5 laws_FnAlarmTexts.A laws_FnAlarmTexts.R x = laws_FnAlarmTexts k x := by kernel_rfl
theorem laws_FnAlarmTexts.ok {L : List (Nat × Obj)} (hErr : Lb.NeedErr L) (hFmt : Lb.NeedFmt L) (k : Nat) : SigHolds Tryd.prog L 5 (laws_FnAlarmTexts.sg k) :=
  sig_of_ev (C := laws_FnAlarmTexts.C k) (holds_cons (allok_cons (laws_big.ok k) allok_nil) (holds_cons (allok_cons (spec_DrawAlarmText.ok k) allok_nil) (holds_cons (allok_cons (impl_AlarmText.ok hFmt k) allok_nil) (holds_cons (allok_cons (spec_DrawReadAlarm.ok k) allok_nil) (holds_cons (allok_cons (impl_ReadAlarm.ok hErr hFmt k) allok_nil) (holds_cons (allok_cons (spec_ReadAlarm.ok k) allok_nil) (holds_cons (allok_cons (spec_AlarmText.ok k) allok_nil) holds_nil))))))) (by kernel_rfl) Tryd.func5 (by kernel_rfl) laws_FnAlarmTexts.ann laws_FnAlarmTexts.A laws_FnAlarmTexts.R (fun x y h => (laws_FnAlarmTexts.ev k x).trans h) (by kernel_rfl)

end Go.Pev.F
