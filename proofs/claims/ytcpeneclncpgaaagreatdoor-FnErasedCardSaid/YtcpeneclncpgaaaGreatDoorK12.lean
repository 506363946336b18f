/-
  Printed by gen.py: what functions of the program compute, and that they do.
-/
import Derived.Test.YtcpeneclncpgaaaGreatDoorK11
set_option linter.unusedSimpArgs false
set_option linter.unusedVariables false
open Go.Proofs Go.Pev
namespace Go.Pev.F
set_option maxRecDepth 100000
set_option linter.unusedVariables false
def laws_FnErased.A : Sh := QS56
def laws_FnErased.R : Sh := QS19
def laws_FnErased.ann : Ann := { loops := [], joins := [], keys := [(5, [([6], false), ([3], false), ([], false), ([], false), ([11, 23], true), ([18], false), ([], false), ([], false), ([6], false), ([6], false), ([], false), ([], false)]), (6, [([6], false), ([3], false), ([], false), ([], false), ([11, 35], true), ([18], false), ([], false)]), (7, [([3], false), ([11, 38], true), ([], false), ([], false), ([11, 38, 41], true), ([6], false), ([18, 41], false), ([], false)])] }
noncomputable def laws_FnErased (k : Nat) : ((List Int) × Unit) → Option QT20 := fun x => match x with
 | (code, ()) =>
  bd k (laws_big k (code, ())) fun y1 =>
  br k (y1.1.1)
  (some ((true, ()), ((), ())))
  (bd k (spec_DrawRun k (code, ())) fun y2 =>
  bd k (impl_Run k ((y2.1.1.1, y2.1.1.2.1, y2.1.1.2.2.1, y2.1.1.2.2.2.1, ()), y2.1.2.1, y2.1.2.2.1, ())) fun y3 =>
  bd k (spec_Run k ((y2.1.1.1, y2.1.1.2.1, y2.1.1.2.2.1, y2.1.1.2.2.2.1, ()), y2.1.2.1, y2.1.2.2.1, ())) fun y4 =>
  bd k (laws_sameOut k ((y3.1.1.1, y3.1.1.2.1, y3.1.1.2.2.1, y3.1.1.2.2.2.1, y3.1.1.2.2.2.2.1, y3.1.1.2.2.2.2.2.1, y3.1.1.2.2.2.2.2.2.1, ()), y4.1.1, ())) fun y5 =>
  br k (!y5.1.1)
  (bd k (spec_Run k ((y2.1.1.1, y2.1.1.2.1, y2.1.1.2.2.1, y2.1.1.2.2.2.1, ()), y2.1.2.1, y2.1.2.2.1, ())) fun y6 =>
  bd k (laws_sameOut k ((y3.1.1.1, y3.1.1.2.1, y3.1.1.2.2.1, y3.1.1.2.2.2.1, y3.1.1.2.2.2.2.1, y3.1.1.2.2.2.2.2.1, y3.1.1.2.2.2.2.2.2.1, ()), y6.1.1, ())) fun y7 =>
  some ((y7.1.1, ()), ((), ())))
  (br k (y3.1.1.1 == 1)
  (bd k (spec_Run k ((y2.1.1.1, y2.1.1.2.1, y2.1.1.2.2.1, y2.1.1.2.2.2.1, ()), y2.1.2.1, y2.1.2.2.1, ())) fun y8 =>
  bd k (laws_sameOut k ((y3.1.1.1, y3.1.1.2.1, y3.1.1.2.2.1, y3.1.1.2.2.2.1, y3.1.1.2.2.2.2.1, y3.1.1.2.2.2.2.2.1, y3.1.1.2.2.2.2.2.2.1, ()), y8.1.1, ())) fun y9 =>
  some ((y9.1.1, ()), ((), ())))
  (bd k (laws_erased k ((y2.1.1.1, y2.1.1.2.1, y2.1.1.2.2.1, y2.1.1.2.2.2.1, ()), ())) fun y10 =>
  bd k (impl_Run k ((y10.1.1.1, y10.1.1.2.1, y10.1.1.2.2.1, y10.1.1.2.2.2.1, ()), y2.1.2.1, y2.1.2.2.1, ())) fun y11 =>
  bd k (laws_sameOut k ((y11.1.1.1, y11.1.1.2.1, y11.1.1.2.2.1, y11.1.1.2.2.2.1, y11.1.1.2.2.2.2.1, y11.1.1.2.2.2.2.2.1, y11.1.1.2.2.2.2.2.2.1, ()), (y3.1.1.1, y3.1.1.2.1, y3.1.1.2.2.1, y3.1.1.2.2.2.1, y3.1.1.2.2.2.2.1, y3.1.1.2.2.2.2.2.1, y3.1.1.2.2.2.2.2.2.1, ()), ())) fun y12 =>
  some ((y12.1.1, ()), ((), ())))))
noncomputable def laws_FnErased.sg (k : Nat) : Sig := ⟨laws_FnErased.A, laws_FnErased.R, laws_FnErased k⟩
noncomputable def laws_FnErased.C (k : Nat) : Ctx := ⟨Tryz.prog, [(6, [laws_big.sg k]), (7, [spec_DrawRun.sg k]), (8, [impl_Run.sg k]), (9, [spec_Run.sg k]), (10, [laws_sameOut.sg k]), (12, [laws_erased.sg k])], k, [], []⟩
theorem laws_FnErased.ev (k : Nat) (x : laws_FnErased.A.T) : evFunc (laws_FnErased.C k) laws_FnErased.ann Tryz.f5 laws_FnErased.A laws_FnErased.R x = laws_FnErased k x := by kernel_rfl
theorem laws_FnErased.ok {L : List (Nat × Obj)} (hSp : Lb.NeedSp L) (k : Nat) : SigHolds Tryz.prog L 5 (laws_FnErased.sg k) :=
  sig_of_ev (C := laws_FnErased.C k) (holds_cons (allok_cons (laws_big.ok k) allok_nil) (holds_cons (allok_cons (spec_DrawRun.ok k) allok_nil) (holds_cons (allok_cons (impl_Run.ok hSp k) allok_nil) (holds_cons (allok_cons (spec_Run.ok k) allok_nil) (holds_cons (allok_cons (laws_sameOut.ok k) allok_nil) (holds_cons (allok_cons (laws_erased.ok k) allok_nil) holds_nil)))))) (by kernel_rfl) Tryz.func5 (by kernel_rfl) _ _ _ (fun x y h => (laws_FnErased.ev k x).trans h) (by kernel_rfl)
end Go.Pev.F
