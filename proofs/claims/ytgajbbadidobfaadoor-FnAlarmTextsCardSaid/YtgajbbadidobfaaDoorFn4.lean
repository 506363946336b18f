/-
  Printed by gen.py: what functions of the program compute, and that they do.
-/
import Derived.Test.YtgajbbadidobfaaDoorFn3
open Go.Proofs Go.Pev
namespace Go.Pev.F
set_option maxRecDepth 100000
set_option linter.unusedVariables false

/-! loop.example/g00719/laws.eqStore -/
def laws_eqStore.A : Sh := (.cons (.pur (.cons (.sl false (.int .i64)) (.cons (.sl false .bool) (.cons (.sl false (.sl false (.int .i64))) .nil)))) (.cons (.pur (.cons (.sl false (.int .i64)) (.cons (.sl false .bool) (.cons (.sl false (.sl false (.int .i64))) .nil)))) .nil))
def laws_eqStore.R : Sh := (.cons (.pur .bool) .nil)
def laws_eqStore.ann : Ann := { loops := [], joins := [], keys := [] }
noncomputable def laws_eqStore (k : Nat) : (((List Int) × (List Bool) × (List (List Int)) × Unit) × ((List Int) × (List Bool) × (List (List Int)) × Unit) × Unit) → Option ((Bool × Unit) × (Unit × Unit × Unit)) := fun x => match x with
 | (a, b_, ()) =>
  bd k (laws_eqInt64S k (a.1, b_.1, ())) fun y1 =>
  br k (!y1.1.1)
  (some ((false, ()), ((), (), ())))
  (bd k (laws_eqBoolS k (a.2.1, b_.2.1, ())) fun y2 =>
  br k (!y2.1.1)
  (some ((false, ()), ((), (), ())))
  (bd k (laws_eqInt64SS k (a.2.2.1, b_.2.2.1, ())) fun y3 =>
  br k (!y3.1.1)
  (some ((false, ()), ((), (), ())))
  (some ((true, ()), ((), (), ())))))
noncomputable def laws_eqStore.sg (k : Nat) : Sig := ⟨laws_eqStore.A, laws_eqStore.R, laws_eqStore k⟩
noncomputable def laws_eqStore.C (k : Nat) : Ctx := ⟨Tryd.prog, [(69, [laws_eqInt64S.sg k]), (70, [laws_eqBoolS.sg k]), (71, [laws_eqInt64SS.sg k])], k⟩
theorem laws_eqStore.ev (k : Nat) (x : laws_eqStore.A.T) : evFunc (laws_eqStore.C k) laws_eqStore.ann Tryd.f29 laws_eqStore.A laws_eqStore.R x = laws_eqStore k x := by kernel_rfl
theorem laws_eqStore.ok {L : List (Nat × Obj)}  (k : Nat) : SigHolds Tryd.prog L 29 (laws_eqStore.sg k) :=
  sig_of_ev (C := laws_eqStore.C k) (holds_cons (allok_cons (laws_eqInt64S.ok k) allok_nil) (holds_cons (allok_cons (laws_eqBoolS.ok k) allok_nil) (holds_cons (allok_cons (laws_eqInt64SS.ok k) allok_nil) holds_nil))) (by kernel_rfl) Tryd.func29 (by kernel_rfl) laws_eqStore.ann laws_eqStore.A laws_eqStore.R (fun x y h => (laws_eqStore.ev k x).trans h) (by kernel_rfl)

/-! loop.example/g00719/laws.FnExactStoreText -/
def laws_FnExactStoreText.A : Sh := (.cons (.pur (.cons (.sl false .str) (.cons (.sl false .str) (.cons (.sl false (.cons .str (.cons (.int .i64) .nil))) .nil)))) (.cons (.pur (.cons (.sl false (.int .i64)) (.cons (.sl false .bool) (.cons (.sl false (.sl false (.int .i64))) .nil)))) .nil))
def laws_FnExactStoreText.R : Sh := (.cons (.pur .bool) .nil)
def laws_FnExactStoreText.ann : Ann := { loops := [], joins := [], keys := [(8, [([2], false), ([21], true), ([3], false), ([23], true), ([21, 23], false), ([], false)]), (14, [([7, 26], false), ([2], false), ([37], true), ([26, 37], false), ([], false)]), (16, [([8, 28], false), ([3], false), ([42], true), ([28, 42], false), ([], false)])] }
noncomputable def laws_FnExactStoreText (k : Nat) : (((List (List UInt8)) × (List (List UInt8)) × (List ((List UInt8) × Int × Unit)) × Unit) × ((List Int) × (List Bool) × (List (List Int)) × Unit) × Unit) → Option ((Bool × Unit) × (Unit × Unit × Unit)) := fun x => match x with
 | (aD, aS, ()) =>
  bd k (laws_szDecl k (aD, 1048576, ())) fun y1 =>
  br k (decide (y1.1.1 < 0))
  (some ((true, ()), ((), (), ())))
  (bd k (laws_szStore k (aS, y1.1.1, ())) fun y2 =>
  br k (decide (y2.1.1 < 0))
  (some ((true, ()), ((), (), ())))
  (bd k (laws_toDecl k (aD, ())) fun y3 =>
  bd k (laws_toStore k (aS, ())) fun y4 =>
  bd k (spec_StoreText k ((y3.1.1.1, y3.1.1.2.1, y3.1.1.2.2.1, ()), (y4.1.1.1, y4.1.1.2.1, y4.1.1.2.2.1, ()), ())) fun y5 =>
  bd k (laws_toDecl k (aD, ())) fun y6 =>
  bd k (laws_toStore k (aS, ())) fun y7 =>
  bd k (impl_StoreText k ((y6.1.1.1, y6.1.1.2.1, y6.1.1.2.2.1, ()), (y7.1.1.1, y7.1.1.2.1, y7.1.1.2.2.1, ()), ())) fun y8 =>
  br k (!(y8.1.1 == y5.1.1))
  (some ((false, ()), ((), (), ())))
  (bd k (laws_toDecl k (aD, ())) fun y9 =>
  bd k (laws_eqDecl k ((y6.1.1.1, y6.1.1.2.1, y6.1.1.2.2.1, ()), (y9.1.1.1, y9.1.1.2.1, y9.1.1.2.2.1, ()), ())) fun y10 =>
  br k (!y10.1.1)
  (some ((false, ()), ((), (), ())))
  (bd k (laws_toStore k (aS, ())) fun y11 =>
  bd k (laws_eqStore k ((y7.1.1.1, y7.1.1.2.1, y7.1.1.2.2.1, ()), (y11.1.1.1, y11.1.1.2.1, y11.1.1.2.2.1, ()), ())) fun y12 =>
  br k (!y12.1.1)
  (some ((false, ()), ((), (), ())))
  (some ((true, ()), ((), (), ())))))))
noncomputable def laws_FnExactStoreText.sg (k : Nat) : Sig := ⟨laws_FnExactStoreText.A, laws_FnExactStoreText.R, laws_FnExactStoreText k⟩
noncomputable def laws_FnExactStoreText.C (k : Nat) : Ctx := ⟨Tryd.prog, [(17, [laws_szDecl.sg k]), (25, [laws_szStore.sg k]), (20, [laws_toDecl.sg k]), (27, [laws_toStore.sg k]), (26, [spec_StoreText.sg k]), (28, [impl_StoreText.sg k]), (23, [laws_eqDecl.sg k]), (29, [laws_eqStore.sg k])], k⟩
theorem laws_FnExactStoreText.ev (k : Nat) (x : laws_FnExactStoreText.A.T) : evFunc (laws_FnExactStoreText.C k) laws_FnExactStoreText.ann Tryd.f7 laws_FnExactStoreText.A laws_FnExactStoreText.R x = laws_FnExactStoreText k x := by kernel_rfl
theorem laws_FnExactStoreText.ok {L : List (Nat × Obj)} (hFmt : Lb.NeedFmt L) (hSp : Lb.NeedSp L) (k : Nat) : SigHolds Tryd.prog L 7 (laws_FnExactStoreText.sg k) :=
  sig_of_ev (C := laws_FnExactStoreText.C k) (holds_cons (allok_cons (laws_szDecl.ok k) allok_nil) (holds_cons (allok_cons (laws_szStore.ok k) allok_nil) (holds_cons (allok_cons (laws_toDecl.ok k) allok_nil) (holds_cons (allok_cons (laws_toStore.ok k) allok_nil) (holds_cons (allok_cons (spec_StoreText.ok k) allok_nil) (holds_cons (allok_cons (impl_StoreText.ok hFmt hSp k) allok_nil) (holds_cons (allok_cons (laws_eqDecl.ok k) allok_nil) (holds_cons (allok_cons (laws_eqStore.ok k) allok_nil) holds_nil)))))))) (by kernel_rfl) Tryd.func7 (by kernel_rfl) laws_FnExactStoreText.ann laws_FnExactStoreText.A laws_FnExactStoreText.R (fun x y h => (laws_FnExactStoreText.ev k x).trans h) (by kernel_rfl)

end Go.Pev.F
