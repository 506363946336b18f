/-
  Printed by gen.py: what functions of the program compute, and that they do.
-/
import Derived.Test.YthjihnplkkhpmaaGreatDoorK12
set_option linter.unusedSimpArgs false
set_option linter.unusedVariables false
open Go.Proofs Go.Pev
namespace Go.Pev.F
set_option maxRecDepth 100000
set_option linter.unusedVariables false

/-! loop.example/g00719/laws.FnRowTexts -/
def laws_FnRowTexts.A : Sh := (.cons (.pur (.sl false (.int .u8))) .nil)
def laws_FnRowTexts.R : Sh := (.cons (.pur .bool) .nil)
def laws_FnRowTexts.ann : Ann := { loops := [], joins := [(5, [(32, .bool)])], keys := [] }
noncomputable def laws_FnRowTexts (k : Nat) : ((List Int) × Unit) → Option ((Bool × Unit) × (Unit × Unit)) := fun x => match x with
 | (code, ()) =>
  bd k (laws_big k (code, ())) fun y1 =>
  br k (y1.1.1)
  (some ((true, ()), ((), ())))
  (bd k (spec_DrawRowText k (code, ())) fun y2 =>
  bd k (impl_RowText k (y2.1.1, y2.1.2.1, ())) fun y3 =>
  (bd k (spec_RowText k (y2.1.1, y2.1.2.1, ())) fun y4 =>
  br k (!(y3.1.1 == y4.1.1))
  (some (true, ()))
  (bd k (spec_PartsOk k (y2.1.1, y2.1.2.1, ())) fun y5 =>
  br k (!y5.1.1)
  (some (true, ()))
  (some (decide ((y2.1.2.1.length : Int) < 2), ()))) : Option (Bool × Unit)).bind fun j6 =>
  br k (j6.1)
  (bd k (spec_RowText k (y2.1.1, y2.1.2.1, ())) fun y7 =>
  some ((y3.1.1 == y7.1.1, ()), ((), ())))
  (br k (!decide ((2 : Int) = 0))
  (br k (decide (0 ≤ (IntKind.wrap .i64 ((y2.1.2.1.length : Int).tdiv 2)) ∧ (IntKind.wrap .i64 ((y2.1.2.1.length : Int).tdiv 2)) ≤ (y2.1.2.1.length : Int)))
  (bd k (impl_RowText k (y2.1.1, subL y2.1.2.1 ((0 : Int).toNat) ((IntKind.wrap .i64 ((y2.1.2.1.length : Int).tdiv 2)).toNat - (0 : Int).toNat), ())) fun y8 =>
  br k (decide (((y8.1.1.length + ([32, 47, 32] : List UInt8).length : Nat) : Int) ≤ maxInt64))
  (br k (decide (0 ≤ (IntKind.wrap .i64 ((y2.1.2.1.length : Int).tdiv 2)) ∧ (IntKind.wrap .i64 ((y2.1.2.1.length : Int).tdiv 2)) ≤ (y2.1.2.1.length : Int)))
  (bd k (impl_RowText k (y2.1.1, subL y2.1.2.1 ((IntKind.wrap .i64 ((y2.1.2.1.length : Int).tdiv 2)).toNat) ((y2.1.2.1.length : Int).toNat - (IntKind.wrap .i64 ((y2.1.2.1.length : Int).tdiv 2)).toNat), ())) fun y9 =>
  br k (decide ((((y8.1.1 ++ [32, 47, 32]).length + y9.1.1.length : Nat) : Int) ≤ maxInt64))
  (some ((y3.1.1 == ((y8.1.1 ++ [32, 47, 32]) ++ y9.1.1), ()), ((), ())))
  none)
  none)
  none)
  none)
  none))
noncomputable def laws_FnRowTexts.sg (k : Nat) : Sig := ⟨laws_FnRowTexts.A, laws_FnRowTexts.R, laws_FnRowTexts k⟩
noncomputable def laws_FnRowTexts.C (k : Nat) : Ctx := ⟨Tryz.prog, [(6, [laws_big.sg k]), (24, [spec_DrawRowText.sg k]), (25, [impl_RowText.sg k]), (26, [spec_RowText.sg k]), (27, [spec_PartsOk.sg k])], k, []⟩
theorem laws_FnRowTexts.ev (k : Nat) (x : laws_FnRowTexts.A.T) : evFunc (laws_FnRowTexts.C k) laws_FnRowTexts.ann Tryz.f5 laws_FnRowTexts.A laws_FnRowTexts.R x = laws_FnRowTexts k x := by kernel_rfl
theorem laws_FnRowTexts.ok {L : List (Nat × Obj)} (hFmt : Lb.NeedFmt L) (hSp : Lb.NeedSp L) (k : Nat) : SigHolds Tryz.prog L 5 (laws_FnRowTexts.sg k) :=
  sig_of_ev (C := laws_FnRowTexts.C k) (holds_cons (allok_cons (laws_big.ok k) allok_nil) (holds_cons (allok_cons (spec_DrawRowText.ok k) allok_nil) (holds_cons (allok_cons (impl_RowText.ok hFmt hSp k) allok_nil) (holds_cons (allok_cons (spec_RowText.ok k) allok_nil) (holds_cons (allok_cons (spec_PartsOk.ok k) allok_nil) holds_nil))))) (by kernel_rfl) Tryz.func5 (by kernel_rfl) laws_FnRowTexts.ann laws_FnRowTexts.A laws_FnRowTexts.R (fun x y h => (laws_FnRowTexts.ev k x).trans h) (by kernel_rfl)

end Go.Pev.F
