/-
  Printed by gen.py: what functions of the program compute, and that they do.
-/
import Derived.Test.YtgajbbadidobfaaDoorFn2
open Go.Proofs Go.Pev
namespace Go.Pev.F
set_option maxRecDepth 100000
set_option linter.unusedVariables false

/-! loop.example/g00719/laws.eqIntervalS -/
def laws_eqIntervalS.A : Sh := (.cons (.pur (.sl false (.cons (.int .i64) (.cons (.int .i64) .nil)))) (.cons (.pur (.sl false (.cons (.int .i64) (.cons (.int .i64) .nil)))) .nil))
def laws_eqIntervalS.R : Sh := (.cons (.pur .bool) .nil)
def laws_eqIntervalS.ann : Ann := { loops := [(0, [(0, (.pur (.sl false (.cons (.int .i64) (.cons (.int .i64) .nil))))), (1, (.pur (.sl false (.cons (.int .i64) (.cons (.int .i64) .nil))))), (5, (.pur (.int .i64)))])], joins := [], keys := [] }
noncomputable def laws_eqIntervalS.l0 (k : Nat)  (G0 : ((List (Int × Int × Unit)) × (List (Int × Int × Unit)) × Int × Unit) → Option ((Bool × Unit) × (Unit × Unit × Unit))) : ((List (Int × Int × Unit)) × (List (Int × Int × Unit)) × Int × Unit) → Option ((Bool × Unit) × (Unit × Unit × Unit)) := fun x => match x with
 | (a, b_, i, ()) =>
  br k (decide (i < (a.length : Int)))
  (br k (decide (0 ≤ i))
  (bd k (a[i.toNat]?) fun x1 =>
  br k (decide (0 ≤ i))
  (bd k (b_[i.toNat]?) fun x2 =>
  bd k (laws_eqInterval k (x1, x2, ())) fun y3 =>
  br k (!y3.1.1)
  (some ((false, ()), ((), (), ())))
  (G0 (a, b_, IntKind.wrap .i64 (i + 1), ())))
  none)
  none)
  (some ((true, ()), ((), (), ())))
noncomputable def laws_eqIntervalS (k : Nat) : ((List (Int × Int × Unit)) × (List (Int × Int × Unit)) × Unit) → Option ((Bool × Unit) × (Unit × Unit × Unit)) := fun x => match x with
 | (a, b_, ()) =>
  br k ((a.length : Int) != (b_.length : Int))
  (some ((false, ()), ((), (), ())))
  (iter (laws_eqIntervalS.l0 k) k (a, b_, 0, ()))
noncomputable def laws_eqIntervalS.sg (k : Nat) : Sig := ⟨laws_eqIntervalS.A, laws_eqIntervalS.R, laws_eqIntervalS k⟩
noncomputable def laws_eqIntervalS.C (k : Nat) : Ctx := ⟨Tryd.prog, [(90, [laws_eqInterval.sg k])], k⟩
theorem laws_eqIntervalS.ev (k : Nat) (x : laws_eqIntervalS.A.T) : evFunc (laws_eqIntervalS.C k) laws_eqIntervalS.ann Tryd.f57 laws_eqIntervalS.A laws_eqIntervalS.R x = laws_eqIntervalS k x := by kernel_rfl
theorem laws_eqIntervalS.ok {L : List (Nat × Obj)}  (k : Nat) : SigHolds Tryd.prog L 57 (laws_eqIntervalS.sg k) :=
  sig_of_ev (C := laws_eqIntervalS.C k) (holds_cons (allok_cons (laws_eqInterval.ok k) allok_nil) holds_nil) (by kernel_rfl) Tryd.func57 (by kernel_rfl) laws_eqIntervalS.ann laws_eqIntervalS.A laws_eqIntervalS.R (fun x y h => (laws_eqIntervalS.ev k x).trans h) (by kernel_rfl)

/-! loop.example/g00719/laws.eqEnv -/
def laws_eqEnv.A : Sh := (.cons (.pur (.cons .bool (.cons (.sl false (.cons (.int .i64) (.cons (.int .i64) .nil))) (.cons (.sl false (.cons (.int .i64) (.cons (.int .i64) .nil))) .nil)))) (.cons (.pur (.cons .bool (.cons (.sl false (.cons (.int .i64) (.cons (.int .i64) .nil))) (.cons (.sl false (.cons (.int .i64) (.cons (.int .i64) .nil))) .nil)))) .nil))
def laws_eqEnv.R : Sh := (.cons (.pur .bool) .nil)
def laws_eqEnv.ann : Ann := { loops := [], joins := [], keys := [] }
noncomputable def laws_eqEnv (k : Nat) : ((Bool × (List (Int × Int × Unit)) × (List (Int × Int × Unit)) × Unit) × (Bool × (List (Int × Int × Unit)) × (List (Int × Int × Unit)) × Unit) × Unit) → Option ((Bool × Unit) × (Unit × Unit × Unit)) := fun x => match x with
 | (a, b_, ()) =>
  br k (!(a.1 == b_.1))
  (some ((false, ()), ((), (), ())))
  (bd k (laws_eqIntervalS k (a.2.1, b_.2.1, ())) fun y1 =>
  br k (!y1.1.1)
  (some ((false, ()), ((), (), ())))
  (bd k (laws_eqIntervalS k (a.2.2.1, b_.2.2.1, ())) fun y2 =>
  br k (!y2.1.1)
  (some ((false, ()), ((), (), ())))
  (some ((true, ()), ((), (), ())))))
noncomputable def laws_eqEnv.sg (k : Nat) : Sig := ⟨laws_eqEnv.A, laws_eqEnv.R, laws_eqEnv k⟩
noncomputable def laws_eqEnv.C (k : Nat) : Ctx := ⟨Tryd.prog, [(57, [laws_eqIntervalS.sg k])], k⟩
theorem laws_eqEnv.ev (k : Nat) (x : laws_eqEnv.A.T) : evFunc (laws_eqEnv.C k) laws_eqEnv.ann Tryd.f24 laws_eqEnv.A laws_eqEnv.R x = laws_eqEnv k x := by kernel_rfl
theorem laws_eqEnv.ok {L : List (Nat × Obj)}  (k : Nat) : SigHolds Tryd.prog L 24 (laws_eqEnv.sg k) :=
  sig_of_ev (C := laws_eqEnv.C k) (holds_cons (allok_cons (laws_eqIntervalS.ok k) allok_nil) holds_nil) (by kernel_rfl) Tryd.func24 (by kernel_rfl) laws_eqEnv.ann laws_eqEnv.A laws_eqEnv.R (fun x y h => (laws_eqEnv.ev k x).trans h) (by kernel_rfl)

/-! loop.example/g00719/laws.FnExactEnvText -/
def laws_FnExactEnvText.A : Sh := (.cons (.pur (.cons (.sl false .str) (.cons (.sl false .str) (.cons (.sl false (.cons .str (.cons (.int .i64) .nil))) .nil)))) (.cons (.pur (.cons .bool (.cons (.sl false (.cons (.int .i64) (.cons (.int .i64) .nil))) (.cons (.sl false (.cons (.int .i64) (.cons (.int .i64) .nil))) .nil)))) .nil))
def laws_FnExactEnvText.R : Sh := (.cons (.pur .bool) .nil)
def laws_FnExactEnvText.ann : Ann := { loops := [], joins := [], keys := [(8, [([2], false), ([21], true), ([3], false), ([23], true), ([21, 23], false), ([], false)]), (14, [([7, 26], false), ([2], false), ([37], true), ([26, 37], false), ([], false)]), (16, [([8, 28], false), ([3], false), ([42], true), ([28, 42], false), ([], false)])] }
noncomputable def laws_FnExactEnvText (k : Nat) : (((List (List UInt8)) × (List (List UInt8)) × (List ((List UInt8) × Int × Unit)) × Unit) × (Bool × (List (Int × Int × Unit)) × (List (Int × Int × Unit)) × Unit) × Unit) → Option ((Bool × Unit) × (Unit × Unit × Unit)) := fun x => match x with
 | (aD, aE, ()) =>
  bd k (laws_szDecl k (aD, 1048576, ())) fun y1 =>
  br k (decide (y1.1.1 < 0))
  (some ((true, ()), ((), (), ())))
  (bd k (laws_szEnv k (aE, y1.1.1, ())) fun y2 =>
  br k (decide (y2.1.1 < 0))
  (some ((true, ()), ((), (), ())))
  (bd k (laws_toDecl k (aD, ())) fun y3 =>
  bd k (laws_toEnv k (aE, ())) fun y4 =>
  bd k (spec_EnvText k ((y3.1.1.1, y3.1.1.2.1, y3.1.1.2.2.1, ()), (y4.1.1.1, y4.1.1.2.1, y4.1.1.2.2.1, ()), ())) fun y5 =>
  bd k (laws_toDecl k (aD, ())) fun y6 =>
  bd k (laws_toEnv k (aE, ())) fun y7 =>
  bd k (impl_EnvText k ((y6.1.1.1, y6.1.1.2.1, y6.1.1.2.2.1, ()), (y7.1.1.1, y7.1.1.2.1, y7.1.1.2.2.1, ()), ())) fun y8 =>
  br k (!(y8.1.1 == y5.1.1))
  (some ((false, ()), ((), (), ())))
  (bd k (laws_toDecl k (aD, ())) fun y9 =>
  bd k (laws_eqDecl k ((y6.1.1.1, y6.1.1.2.1, y6.1.1.2.2.1, ()), (y9.1.1.1, y9.1.1.2.1, y9.1.1.2.2.1, ()), ())) fun y10 =>
  br k (!y10.1.1)
  (some ((false, ()), ((), (), ())))
  (bd k (laws_toEnv k (aE, ())) fun y11 =>
  bd k (laws_eqEnv k ((y7.1.1.1, y7.1.1.2.1, y7.1.1.2.2.1, ()), (y11.1.1.1, y11.1.1.2.1, y11.1.1.2.2.1, ()), ())) fun y12 =>
  br k (!y12.1.1)
  (some ((false, ()), ((), (), ())))
  (some ((true, ()), ((), (), ())))))))
noncomputable def laws_FnExactEnvText.sg (k : Nat) : Sig := ⟨laws_FnExactEnvText.A, laws_FnExactEnvText.R, laws_FnExactEnvText k⟩
noncomputable def laws_FnExactEnvText.C (k : Nat) : Ctx := ⟨Tryd.prog, [(17, [laws_szDecl.sg k]), (18, [laws_szEnv.sg k]), (20, [laws_toDecl.sg k]), (21, [laws_toEnv.sg k]), (19, [spec_EnvText.sg k]), (22, [impl_EnvText.sg k]), (23, [laws_eqDecl.sg k]), (24, [laws_eqEnv.sg k])], k⟩
theorem laws_FnExactEnvText.ev (k : Nat) (x : laws_FnExactEnvText.A.T) : evFunc (laws_FnExactEnvText.C k) laws_FnExactEnvText.ann Tryd.f6 laws_FnExactEnvText.A laws_FnExactEnvText.R x = laws_FnExactEnvText k x := by kernel_rfl
theorem laws_FnExactEnvText.ok {L : List (Nat × Obj)} (hFmt : Lb.NeedFmt L) (hSp : Lb.NeedSp L) (k : Nat) : SigHolds Tryd.prog L 6 (laws_FnExactEnvText.sg k) :=
  sig_of_ev (C := laws_FnExactEnvText.C k) (holds_cons (allok_cons (laws_szDecl.ok k) allok_nil) (holds_cons (allok_cons (laws_szEnv.ok k) allok_nil) (holds_cons (allok_cons (laws_toDecl.ok k) allok_nil) (holds_cons (allok_cons (laws_toEnv.ok k) allok_nil) (holds_cons (allok_cons (spec_EnvText.ok k) allok_nil) (holds_cons (allok_cons (impl_EnvText.ok hFmt hSp k) allok_nil) (holds_cons (allok_cons (laws_eqDecl.ok k) allok_nil) (holds_cons (allok_cons (laws_eqEnv.ok k) allok_nil) holds_nil)))))))) (by kernel_rfl) Tryd.func6 (by kernel_rfl) laws_FnExactEnvText.ann laws_FnExactEnvText.A laws_FnExactEnvText.R (fun x y h => (laws_FnExactEnvText.ev k x).trans h) (by kernel_rfl)

/-! loop.example/g00719/laws.szInt64S -/
def laws_szInt64S.A : Sh := (.cons (.pur (.sl false (.int .i64))) (.cons (.pur (.int .i64)) .nil))
def laws_szInt64S.R : Sh := (.cons (.pur (.int .i64)) .nil)
def laws_szInt64S.ann : Ann := { loops := [], joins := [], keys := [] }
noncomputable def laws_szInt64S (k : Nat) : ((List Int) × Int × Unit) → Option ((Int × Unit) × (Unit × Unit × Unit)) := fun x => match x with
 | (a, left, ()) =>
  br k (decide ((IntKind.wrap .i64 (left - (a.length : Int))) < 0))
  (some (((-1), ()), ((), (), ())))
  (some ((IntKind.wrap .i64 (left - (a.length : Int)), ()), ((), (), ())))
noncomputable def laws_szInt64S.sg (k : Nat) : Sig := ⟨laws_szInt64S.A, laws_szInt64S.R, laws_szInt64S k⟩
noncomputable def laws_szInt64S.C (k : Nat) : Ctx := ⟨Tryd.prog, [], k⟩
theorem laws_szInt64S.ev (k : Nat) (x : laws_szInt64S.A.T) : evFunc (laws_szInt64S.C k) laws_szInt64S.ann Tryd.f58 laws_szInt64S.A laws_szInt64S.R x = laws_szInt64S k x := by kernel_rfl
theorem laws_szInt64S.ok {L : List (Nat × Obj)}  (k : Nat) : SigHolds Tryd.prog L 58 (laws_szInt64S.sg k) :=
  sig_of_ev (C := laws_szInt64S.C k) holds_nil (by kernel_rfl) Tryd.func58 (by kernel_rfl) laws_szInt64S.ann laws_szInt64S.A laws_szInt64S.R (fun x y h => (laws_szInt64S.ev k x).trans h) (by kernel_rfl)

/-! loop.example/g00719/laws.szBoolS -/
def laws_szBoolS.A : Sh := (.cons (.pur (.sl false .bool)) (.cons (.pur (.int .i64)) .nil))
def laws_szBoolS.R : Sh := (.cons (.pur (.int .i64)) .nil)
def laws_szBoolS.ann : Ann := { loops := [], joins := [], keys := [] }
noncomputable def laws_szBoolS (k : Nat) : ((List Bool) × Int × Unit) → Option ((Int × Unit) × (Unit × Unit × Unit)) := fun x => match x with
 | (a, left, ()) =>
  br k (decide ((IntKind.wrap .i64 (left - (a.length : Int))) < 0))
  (some (((-1), ()), ((), (), ())))
  (some ((IntKind.wrap .i64 (left - (a.length : Int)), ()), ((), (), ())))
noncomputable def laws_szBoolS.sg (k : Nat) : Sig := ⟨laws_szBoolS.A, laws_szBoolS.R, laws_szBoolS k⟩
noncomputable def laws_szBoolS.C (k : Nat) : Ctx := ⟨Tryd.prog, [], k⟩
theorem laws_szBoolS.ev (k : Nat) (x : laws_szBoolS.A.T) : evFunc (laws_szBoolS.C k) laws_szBoolS.ann Tryd.f59 laws_szBoolS.A laws_szBoolS.R x = laws_szBoolS k x := by kernel_rfl
theorem laws_szBoolS.ok {L : List (Nat × Obj)}  (k : Nat) : SigHolds Tryd.prog L 59 (laws_szBoolS.sg k) :=
  sig_of_ev (C := laws_szBoolS.C k) holds_nil (by kernel_rfl) Tryd.func59 (by kernel_rfl) laws_szBoolS.ann laws_szBoolS.A laws_szBoolS.R (fun x y h => (laws_szBoolS.ev k x).trans h) (by kernel_rfl)

/-! loop.example/g00719/laws.szInt64SS -/
def laws_szInt64SS.A : Sh := (.cons (.pur (.sl false (.sl false (.int .i64)))) (.cons (.pur (.int .i64)) .nil))
def laws_szInt64SS.R : Sh := (.cons (.pur (.int .i64)) .nil)
def laws_szInt64SS.ann : Ann := { loops := [(0, [(0, (.pur (.sl false (.sl false (.int .i64))))), (1, (.pur (.int .i64))), (5, (.pur (.int .i64)))])], joins := [], keys := [] }
noncomputable def laws_szInt64SS.l0 (k : Nat)  (G0 : ((List (List Int)) × Int × Int × Unit) → Option ((Int × Unit) × (Unit × Unit × Unit))) : ((List (List Int)) × Int × Int × Unit) → Option ((Int × Unit) × (Unit × Unit × Unit)) := fun x => match x with
 | (a, left, i, ()) =>
  br k (decide (i < (a.length : Int)))
  (br k (decide (0 ≤ i))
  (bd k (a[i.toNat]?) fun x1 =>
  bd k (laws_szInt64S k (x1, left, ())) fun y2 =>
  br k (decide (y2.1.1 < 0))
  (some (((-1), ()), ((), (), ())))
  (G0 (a, y2.1.1, IntKind.wrap .i64 (i + 1), ())))
  none)
  (some ((left, ()), ((), (), ())))
noncomputable def laws_szInt64SS (k : Nat) : ((List (List Int)) × Int × Unit) → Option ((Int × Unit) × (Unit × Unit × Unit)) := fun x => match x with
 | (a, left, ()) =>
  br k (decide ((IntKind.wrap .i64 (left - (a.length : Int))) < 0))
  (some (((-1), ()), ((), (), ())))
  (iter (laws_szInt64SS.l0 k) k (a, IntKind.wrap .i64 (left - (a.length : Int)), 0, ()))
noncomputable def laws_szInt64SS.sg (k : Nat) : Sig := ⟨laws_szInt64SS.A, laws_szInt64SS.R, laws_szInt64SS k⟩
noncomputable def laws_szInt64SS.C (k : Nat) : Ctx := ⟨Tryd.prog, [(58, [laws_szInt64S.sg k])], k⟩
theorem laws_szInt64SS.ev (k : Nat) (x : laws_szInt64SS.A.T) : evFunc (laws_szInt64SS.C k) laws_szInt64SS.ann Tryd.f60 laws_szInt64SS.A laws_szInt64SS.R x = laws_szInt64SS k x := by kernel_rfl
theorem laws_szInt64SS.ok {L : List (Nat × Obj)}  (k : Nat) : SigHolds Tryd.prog L 60 (laws_szInt64SS.sg k) :=
  sig_of_ev (C := laws_szInt64SS.C k) (holds_cons (allok_cons (laws_szInt64S.ok k) allok_nil) holds_nil) (by kernel_rfl) Tryd.func60 (by kernel_rfl) laws_szInt64SS.ann laws_szInt64SS.A laws_szInt64SS.R (fun x y h => (laws_szInt64SS.ev k x).trans h) (by kernel_rfl)

/-! loop.example/g00719/laws.szStore -/
def laws_szStore.A : Sh := (.cons (.pur (.cons (.sl false (.int .i64)) (.cons (.sl false .bool) (.cons (.sl false (.sl false (.int .i64))) .nil)))) (.cons (.pur (.int .i64)) .nil))
def laws_szStore.R : Sh := (.cons (.pur (.int .i64)) .nil)
def laws_szStore.ann : Ann := { loops := [], joins := [], keys := [] }
noncomputable def laws_szStore (k : Nat) : (((List Int) × (List Bool) × (List (List Int)) × Unit) × Int × Unit) → Option ((Int × Unit) × (Unit × Unit × Unit)) := fun x => match x with
 | (a, left, ()) =>
  bd k (laws_szInt64S k (a.1, left, ())) fun y1 =>
  br k (decide (y1.1.1 < 0))
  (some (((-1), ()), ((), (), ())))
  (bd k (laws_szBoolS k (a.2.1, y1.1.1, ())) fun y2 =>
  br k (decide (y2.1.1 < 0))
  (some (((-1), ()), ((), (), ())))
  (bd k (laws_szInt64SS k (a.2.2.1, y2.1.1, ())) fun y3 =>
  br k (decide (y3.1.1 < 0))
  (some (((-1), ()), ((), (), ())))
  (some ((y3.1.1, ()), ((), (), ())))))
noncomputable def laws_szStore.sg (k : Nat) : Sig := ⟨laws_szStore.A, laws_szStore.R, laws_szStore k⟩
noncomputable def laws_szStore.C (k : Nat) : Ctx := ⟨Tryd.prog, [(58, [laws_szInt64S.sg k]), (59, [laws_szBoolS.sg k]), (60, [laws_szInt64SS.sg k])], k⟩
theorem laws_szStore.ev (k : Nat) (x : laws_szStore.A.T) : evFunc (laws_szStore.C k) laws_szStore.ann Tryd.f25 laws_szStore.A laws_szStore.R x = laws_szStore k x := by kernel_rfl
theorem laws_szStore.ok {L : List (Nat × Obj)}  (k : Nat) : SigHolds Tryd.prog L 25 (laws_szStore.sg k) :=
  sig_of_ev (C := laws_szStore.C k) (holds_cons (allok_cons (laws_szInt64S.ok k) allok_nil) (holds_cons (allok_cons (laws_szBoolS.ok k) allok_nil) (holds_cons (allok_cons (laws_szInt64SS.ok k) allok_nil) holds_nil))) (by kernel_rfl) Tryd.func25 (by kernel_rfl) laws_szStore.ann laws_szStore.A laws_szStore.R (fun x y h => (laws_szStore.ev k x).trans h) (by kernel_rfl)

/-! loop.example/g00719/laws.toInt64S -/
def laws_toInt64S.A : Sh := (.cons (.pur (.sl false (.int .i64))) .nil)
def laws_toInt64S.R : Sh := (.cons (.own (.int .i64)) .nil)
def laws_toInt64S.ann : Ann := { loops := [(0, [(0, (.pur (.sl false (.int .i64)))), (3, (.own (.int .i64))), (4, (.pur (.int .i64)))])], joins := [], keys := [] }
noncomputable def laws_toInt64S.l0 (k : Nat)  (G0 : ((List Int) × (List Int) × Int × Unit) → Option (((List Int) × Unit) × (Unit × Unit))) : ((List Int) × (List Int) × Int × Unit) → Option (((List Int) × Unit) × (Unit × Unit)) := fun x => match x with
 | (a, out_, i, ()) =>
  br k (decide (i < (a.length : Int)))
  (br k (decide (0 ≤ i))
  (bd k (a[i.toNat]?) fun x1 =>
  br k (decide (0 ≤ i ∧ i < (out_.length : Int)))
  (bd k (out_[i.toNat]?) fun x2 =>
  G0 (a, out_.set i.toNat x1, IntKind.wrap .i64 (i + 1), ()))
  none)
  none)
  (some ((out_, ()), ((), ())))
noncomputable def laws_toInt64S (k : Nat) : ((List Int) × Unit) → Option (((List Int) × Unit) × (Unit × Unit)) := fun x => match x with
 | (a, ()) =>
  br k (decide (0 ≤ (a.length : Int) ∧ (a.length : Int) ≤ (a.length : Int) ∧ (a.length : Int) * 8 ≤ maxBytes))
  (iter (laws_toInt64S.l0 k) k (a, List.replicate (a.length : Int).toNat (Kd.z (.int .i64)), 0, ()))
  none
noncomputable def laws_toInt64S.sg (k : Nat) : Sig := ⟨laws_toInt64S.A, laws_toInt64S.R, laws_toInt64S k⟩
noncomputable def laws_toInt64S.C (k : Nat) : Ctx := ⟨Tryd.prog, [], k⟩
theorem laws_toInt64S.ev (k : Nat) (x : laws_toInt64S.A.T) : evFunc (laws_toInt64S.C k) laws_toInt64S.ann Tryd.f63 laws_toInt64S.A laws_toInt64S.R x = laws_toInt64S k x := by kernel_rfl
theorem laws_toInt64S.ok {L : List (Nat × Obj)}  (k : Nat) : SigHolds Tryd.prog L 63 (laws_toInt64S.sg k) :=
  sig_of_ev (C := laws_toInt64S.C k) holds_nil (by kernel_rfl) Tryd.func63 (by kernel_rfl) laws_toInt64S.ann laws_toInt64S.A laws_toInt64S.R (fun x y h => (laws_toInt64S.ev k x).trans h) (by kernel_rfl)

/-! loop.example/g00719/laws.toBoolS -/
def laws_toBoolS.A : Sh := (.cons (.pur (.sl false .bool)) .nil)
def laws_toBoolS.R : Sh := (.cons (.own .bool) .nil)
def laws_toBoolS.ann : Ann := { loops := [(0, [(0, (.pur (.sl false .bool))), (3, (.own .bool)), (4, (.pur (.int .i64)))])], joins := [], keys := [] }
noncomputable def laws_toBoolS.l0 (k : Nat)  (G0 : ((List Bool) × (List Bool) × Int × Unit) → Option (((List Bool) × Unit) × (Unit × Unit))) : ((List Bool) × (List Bool) × Int × Unit) → Option (((List Bool) × Unit) × (Unit × Unit)) := fun x => match x with
 | (a, out_, i, ()) =>
  br k (decide (i < (a.length : Int)))
  (br k (decide (0 ≤ i))
  (bd k (a[i.toNat]?) fun x1 =>
  br k (decide (0 ≤ i ∧ i < (out_.length : Int)))
  (bd k (out_[i.toNat]?) fun x2 =>
  G0 (a, out_.set i.toNat x1, IntKind.wrap .i64 (i + 1), ()))
  none)
  none)
  (some ((out_, ()), ((), ())))
noncomputable def laws_toBoolS (k : Nat) : ((List Bool) × Unit) → Option (((List Bool) × Unit) × (Unit × Unit)) := fun x => match x with
 | (a, ()) =>
  br k (decide (0 ≤ (a.length : Int) ∧ (a.length : Int) ≤ (a.length : Int) ∧ (a.length : Int) * 1 ≤ maxBytes))
  (iter (laws_toBoolS.l0 k) k (a, List.replicate (a.length : Int).toNat (Kd.z .bool), 0, ()))
  none
noncomputable def laws_toBoolS.sg (k : Nat) : Sig := ⟨laws_toBoolS.A, laws_toBoolS.R, laws_toBoolS k⟩
noncomputable def laws_toBoolS.C (k : Nat) : Ctx := ⟨Tryd.prog, [], k⟩
theorem laws_toBoolS.ev (k : Nat) (x : laws_toBoolS.A.T) : evFunc (laws_toBoolS.C k) laws_toBoolS.ann Tryd.f64 laws_toBoolS.A laws_toBoolS.R x = laws_toBoolS k x := by kernel_rfl
theorem laws_toBoolS.ok {L : List (Nat × Obj)}  (k : Nat) : SigHolds Tryd.prog L 64 (laws_toBoolS.sg k) :=
  sig_of_ev (C := laws_toBoolS.C k) holds_nil (by kernel_rfl) Tryd.func64 (by kernel_rfl) laws_toBoolS.ann laws_toBoolS.A laws_toBoolS.R (fun x y h => (laws_toBoolS.ev k x).trans h) (by kernel_rfl)

/-! loop.example/g00719/laws.toInt64SS -/
def laws_toInt64SS.A : Sh := (.cons (.pur (.sl false (.sl false (.int .i64)))) .nil)
def laws_toInt64SS.R : Sh := (.cons (.own (.sl false (.int .i64))) .nil)
def laws_toInt64SS.ann : Ann := { loops := [(0, [(0, (.pur (.sl false (.sl false (.int .i64))))), (3, (.own (.sl false (.int .i64)))), (4, (.pur (.int .i64)))])], joins := [], keys := [] }
noncomputable def laws_toInt64SS.l0 (k : Nat)  (G0 : ((List (List Int)) × (List (List Int)) × Int × Unit) → Option (((List (List Int)) × Unit) × (Unit × Unit))) : ((List (List Int)) × (List (List Int)) × Int × Unit) → Option (((List (List Int)) × Unit) × (Unit × Unit)) := fun x => match x with
 | (a, out_, i, ()) =>
  br k (decide (i < (a.length : Int)))
  (br k (decide (0 ≤ i))
  (bd k (a[i.toNat]?) fun x1 =>
  bd k (laws_toInt64S k (x1, ())) fun y2 =>
  br k (decide (0 ≤ i ∧ i < (out_.length : Int)))
  (bd k (out_[i.toNat]?) fun x3 =>
  G0 (a, out_.set i.toNat y2.1.1, IntKind.wrap .i64 (i + 1), ()))
  none)
  none)
  (some ((out_, ()), ((), ())))
noncomputable def laws_toInt64SS (k : Nat) : ((List (List Int)) × Unit) → Option (((List (List Int)) × Unit) × (Unit × Unit)) := fun x => match x with
 | (a, ()) =>
  br k (decide (0 ≤ (a.length : Int) ∧ (a.length : Int) ≤ (a.length : Int) ∧ (a.length : Int) * 24 ≤ maxBytes))
  (iter (laws_toInt64SS.l0 k) k (a, List.replicate (a.length : Int).toNat (Kd.z (.sl false (.int .i64))), 0, ()))
  none
noncomputable def laws_toInt64SS.sg (k : Nat) : Sig := ⟨laws_toInt64SS.A, laws_toInt64SS.R, laws_toInt64SS k⟩
noncomputable def laws_toInt64SS.C (k : Nat) : Ctx := ⟨Tryd.prog, [(63, [laws_toInt64S.sg k])], k⟩
theorem laws_toInt64SS.ev (k : Nat) (x : laws_toInt64SS.A.T) : evFunc (laws_toInt64SS.C k) laws_toInt64SS.ann Tryd.f65 laws_toInt64SS.A laws_toInt64SS.R x = laws_toInt64SS k x := by kernel_rfl
theorem laws_toInt64SS.ok {L : List (Nat × Obj)}  (k : Nat) : SigHolds Tryd.prog L 65 (laws_toInt64SS.sg k) :=
  sig_of_ev (C := laws_toInt64SS.C k) (holds_cons (allok_cons (laws_toInt64S.ok k) allok_nil) holds_nil) (by kernel_rfl) Tryd.func65 (by kernel_rfl) laws_toInt64SS.ann laws_toInt64SS.A laws_toInt64SS.R (fun x y h => (laws_toInt64SS.ev k x).trans h) (by kernel_rfl)

/-! loop.example/g00719/laws.toStore -/
def laws_toStore.A : Sh := (.cons (.pur (.cons (.sl false (.int .i64)) (.cons (.sl false .bool) (.cons (.sl false (.sl false (.int .i64))) .nil)))) .nil)
def laws_toStore.R : Sh := (.cons (.agg (.cons (.own (.int .i64)) (.cons (.own .bool) (.cons (.own (.sl false (.int .i64))) .nil)))) .nil)
def laws_toStore.ann : Ann := { loops := [], joins := [], keys := [] }
noncomputable def laws_toStore (k : Nat) : (((List Int) × (List Bool) × (List (List Int)) × Unit) × Unit) → Option ((((List Int) × (List Bool) × (List (List Int)) × Unit) × Unit) × (Unit × Unit)) := fun x => match x with
 | (a, ()) =>
  bd k (laws_toInt64S k (a.1, ())) fun y1 =>
  bd k (laws_toBoolS k (a.2.1, ())) fun y2 =>
  bd k (laws_toInt64SS k (a.2.2.1, ())) fun y3 =>
  some (((y1.1.1, y2.1.1, y3.1.1, ()), ()), ((), ()))
noncomputable def laws_toStore.sg (k : Nat) : Sig := ⟨laws_toStore.A, laws_toStore.R, laws_toStore k⟩
noncomputable def laws_toStore.C (k : Nat) : Ctx := ⟨Tryd.prog, [(63, [laws_toInt64S.sg k]), (64, [laws_toBoolS.sg k]), (65, [laws_toInt64SS.sg k])], k⟩
theorem laws_toStore.ev (k : Nat) (x : laws_toStore.A.T) : evFunc (laws_toStore.C k) laws_toStore.ann Tryd.f27 laws_toStore.A laws_toStore.R x = laws_toStore k x := by kernel_rfl
theorem laws_toStore.ok {L : List (Nat × Obj)}  (k : Nat) : SigHolds Tryd.prog L 27 (laws_toStore.sg k) :=
  sig_of_ev (C := laws_toStore.C k) (holds_cons (allok_cons (laws_toInt64S.ok k) allok_nil) (holds_cons (allok_cons (laws_toBoolS.ok k) allok_nil) (holds_cons (allok_cons (laws_toInt64SS.ok k) allok_nil) holds_nil))) (by kernel_rfl) Tryd.func27 (by kernel_rfl) laws_toStore.ann laws_toStore.A laws_toStore.R (fun x y h => (laws_toStore.ev k x).trans h) (by kernel_rfl)

/-! loop.example/g00719/spec.StoreOk -/
def spec_StoreOk.A : Sh := (.cons (.pur (.cons (.sl false .str) (.cons (.sl false .str) (.cons (.sl false (.cons .str (.cons (.int .i64) .nil))) .nil)))) (.cons (.pur (.cons (.sl false (.int .i64)) (.cons (.sl false .bool) (.cons (.sl false (.sl false (.int .i64))) .nil)))) .nil))
def spec_StoreOk.R : Sh := (.cons (.pur .bool) .nil)
def spec_StoreOk.ann : Ann := { loops := [(0, [(2, (.box (.cons (.pur (.sl false .str)) (.cons (.pur (.sl false .str)) (.cons (.pur (.sl false (.cons .str (.cons (.int .i64) .nil)))) .nil))))), (3, (.box (.cons (.pur (.sl false (.int .i64))) (.cons (.pur (.sl false .bool)) (.cons (.pur (.sl false (.sl false (.int .i64)))) .nil))))), (5, (.pur (.int .i64)))])], joins := [(1, [(35, .bool)])], keys := [] }
noncomputable def spec_StoreOk.l0 (k : Nat)  (G0 : (((List (List UInt8)) × (List (List UInt8)) × (List ((List UInt8) × Int × Unit)) × Unit) × ((List Int) × (List Bool) × (List (List Int)) × Unit) × Int × Unit) → Option ((Bool × Unit) × (Unit × Unit × Unit))) : (((List (List UInt8)) × (List (List UInt8)) × (List ((List UInt8) × Int × Unit)) × Unit) × ((List Int) × (List Bool) × (List (List Int)) × Unit) × Int × Unit) → Option ((Bool × Unit) × (Unit × Unit × Unit)) := fun x => match x with
 | ((d__0, d__1, d__2, ()), (s__0, s__1, s__2, ()), i, ()) =>
  br k (decide (i < (s__2.length : Int)))
  (br k (decide (0 ≤ i))
  (bd k (s__2[i.toNat]?) fun x3 =>
  br k (decide (0 ≤ i))
  (bd k (d__2[i.toNat]?) fun x4 =>
  br k ((x3.length : Int) != x4.2.1)
  (some ((false, ()), ((), (), ())))
  (G0 ((d__0, d__1, d__2, ()), (s__0, s__1, s__2, ()), IntKind.wrap .i64 (i + 1), ())))
  none)
  none)
  (some ((true, ()), ((), (), ())))
noncomputable def spec_StoreOk (k : Nat) : (((List (List UInt8)) × (List (List UInt8)) × (List ((List UInt8) × Int × Unit)) × Unit) × ((List Int) × (List Bool) × (List (List Int)) × Unit) × Unit) → Option ((Bool × Unit) × (Unit × Unit × Unit)) := fun x => match x with
 | (d_, s_, ()) =>
  (bd k (spec_DeclOk k (d_, ())) fun y1 =>
  br k (!y1.1.1)
  (some (true, ()))
  (br k ((s_.1.length : Int) != (d_.1.length : Int))
  (some (true, ()))
  (br k ((s_.2.1.length : Int) != (d_.2.1.length : Int))
  (some (true, ()))
  (some ((s_.2.2.1.length : Int) != (d_.2.2.1.length : Int), ())))) : Option (Bool × Unit)).bind fun j2 =>
  br k (j2.1)
  (some ((false, ()), ((), (), ())))
  (iter (spec_StoreOk.l0 k) k ((d_.1, d_.2.1, d_.2.2.1, ()), (s_.1, s_.2.1, s_.2.2.1, ()), 0, ()))
noncomputable def spec_StoreOk.sg (k : Nat) : Sig := ⟨spec_StoreOk.A, spec_StoreOk.R, spec_StoreOk k⟩
noncomputable def spec_StoreOk.C (k : Nat) : Ctx := ⟨Tryd.prog, [(79, [spec_DeclOk.sg k])], k⟩
theorem spec_StoreOk.ev (k : Nat) (x : spec_StoreOk.A.T) : evFunc (spec_StoreOk.C k) spec_StoreOk.ann Tryd.f61 spec_StoreOk.A spec_StoreOk.R x = spec_StoreOk k x := by kernel_rfl
theorem spec_StoreOk.ok {L : List (Nat × Obj)}  (k : Nat) : SigHolds Tryd.prog L 61 (spec_StoreOk.sg k) :=
  sig_of_ev (C := spec_StoreOk.C k) (holds_cons (allok_cons (spec_DeclOk.ok k) allok_nil) holds_nil) (by kernel_rfl) Tryd.func61 (by kernel_rfl) spec_StoreOk.ann spec_StoreOk.A spec_StoreOk.R (fun x y h => (spec_StoreOk.ev k x).trans h) (by kernel_rfl)

/-! loop.example/g00719/spec.StoreText -/
def spec_StoreText.A : Sh := (.cons (.pur (.cons (.sl false .str) (.cons (.sl false .str) (.cons (.sl false (.cons .str (.cons (.int .i64) .nil))) .nil)))) (.cons (.pur (.cons (.sl false (.int .i64)) (.cons (.sl false .bool) (.cons (.sl false (.sl false (.int .i64))) .nil)))) .nil))
def spec_StoreText.R : Sh := (.cons (.pur .str) .nil)
def spec_StoreText.ann : Ann := { loops := [(0, [(2, (.box (.cons (.pur (.sl false .str)) (.cons (.pur (.sl false .str)) (.cons (.pur (.sl false (.cons .str (.cons (.int .i64) .nil)))) .nil))))), (3, (.box (.cons (.pur (.sl false (.int .i64))) (.cons (.pur (.sl false .bool)) (.cons (.pur (.sl false (.sl false (.int .i64)))) .nil))))), (5, (.own .str)), (6, (.pur (.int .i64)))]), (2, [(2, (.box (.cons (.pur (.sl false .str)) (.cons (.pur (.sl false .str)) (.cons (.pur (.sl false (.cons .str (.cons (.int .i64) .nil)))) .nil))))), (3, (.box (.cons (.pur (.sl false (.int .i64))) (.cons (.pur (.sl false .bool)) (.cons (.pur (.sl false (.sl false (.int .i64)))) .nil))))), (5, (.own .str)), (7, (.pur (.int .i64)))]), (4, [(2, (.box (.cons (.pur (.sl false .str)) (.cons (.pur (.sl false .str)) (.cons (.pur (.sl false (.cons .str (.cons (.int .i64) .nil)))) .nil))))), (3, (.box (.cons (.pur (.sl false (.int .i64))) (.cons (.pur (.sl false .bool)) (.cons (.pur (.sl false (.sl false (.int .i64)))) .nil))))), (5, (.own .str)), (9, (.pur (.int .i64)))]), (6, [(2, (.box (.cons (.pur (.sl false .str)) (.cons (.pur (.sl false .str)) (.cons (.pur (.sl false (.cons .str (.cons (.int .i64) .nil)))) .nil))))), (3, (.box (.cons (.pur (.sl false (.int .i64))) (.cons (.pur (.sl false .bool)) (.cons (.pur (.sl false (.sl false (.int .i64)))) .nil))))), (5, (.own .str)), (9, (.pur (.int .i64))), (10, (.pur (.int .i64)))])], joins := [], keys := [(7, [([5], false), ([2], false), ([2], false), ([], false), ([], false), ([], false), ([3], false), ([3], false), ([], false), ([], false), ([], false), ([], false), ([35], true), ([5, 35, 36], true), ([36], false)])] }
noncomputable def spec_StoreText.l6 (k : Nat) (G4 : (((List (List UInt8)) × (List (List UInt8)) × (List ((List UInt8) × Int × Unit)) × Unit) × ((List Int) × (List Bool) × (List (List Int)) × Unit) × (List (List UInt8)) × Int × Unit) → Option (((List UInt8) × Unit) × (Unit × Unit × Unit))) (G6 : (((List (List UInt8)) × (List (List UInt8)) × (List ((List UInt8) × Int × Unit)) × Unit) × ((List Int) × (List Bool) × (List (List Int)) × Unit) × (List (List UInt8)) × Int × Int × Unit) → Option (((List UInt8) × Unit) × (Unit × Unit × Unit))) : (((List (List UInt8)) × (List (List UInt8)) × (List ((List UInt8) × Int × Unit)) × Unit) × ((List Int) × (List Bool) × (List (List Int)) × Unit) × (List (List UInt8)) × Int × Int × Unit) → Option (((List UInt8) × Unit) × (Unit × Unit × Unit)) := fun x => match x with
 | ((d__0, d__1, d__2, ()), (s__0, s__1, s__2, ()), l_, i, k_, ()) =>
  br k (decide (0 ≤ i))
  (bd k (s__2[i.toNat]?) fun x9 =>
  br k (decide (k_ < (x9.length : Int)))
  (br k (decide (0 ≤ i))
  (bd k (s__2[i.toNat]?) fun x10 =>
  br k (decide (0 ≤ k_))
  (bd k (x10[k_.toNat]?) fun x11 =>
  bd k (spec_l1Dec k (x11, ())) fun y12 =>
  br k (decide ((l_.length + ([y12.1.1] : List (List UInt8)).length) * 16 ≤ maxBytes))
  (G6 ((d__0, d__1, d__2, ()), (s__0, s__1, s__2, ()), l_ ++ ([y12.1.1] : List (List UInt8)), i, IntKind.wrap .i64 (k_ + 1), ()))
  none)
  none)
  none)
  (G4 ((d__0, d__1, d__2, ()), (s__0, s__1, s__2, ()), l_, IntKind.wrap .i64 (i + 1), ())))
  none
noncomputable def spec_StoreText.l4 (k : Nat)  (G4 : (((List (List UInt8)) × (List (List UInt8)) × (List ((List UInt8) × Int × Unit)) × Unit) × ((List Int) × (List Bool) × (List (List Int)) × Unit) × (List (List UInt8)) × Int × Unit) → Option (((List UInt8) × Unit) × (Unit × Unit × Unit))) : (((List (List UInt8)) × (List (List UInt8)) × (List ((List UInt8) × Int × Unit)) × Unit) × ((List Int) × (List Bool) × (List (List Int)) × Unit) × (List (List UInt8)) × Int × Unit) → Option (((List UInt8) × Unit) × (Unit × Unit × Unit)) := fun x => match x with
 | ((d__0, d__1, d__2, ()), (s__0, s__1, s__2, ()), l_, i, ()) =>
  br k (decide (i < (s__2.length : Int)))
  (br k (decide (0 ≤ i))
  (bd k (d__2[i.toNat]?) fun x8 =>
  br k (decide ((l_.length + ([x8.1] : List (List UInt8)).length) * 16 ≤ maxBytes))
  (iter (spec_StoreText.l6 k G4) k ((d__0, d__1, d__2, ()), (s__0, s__1, s__2, ()), l_ ++ ([x8.1] : List (List UInt8)), i, 0, ()))
  none)
  none)
  (bd k (spec_l13Joined k (l_, [32], ())) fun y13 =>
  some ((y13.1.1, ()), ((), (), ())))
noncomputable def spec_StoreText.l2 (k : Nat)  (G2 : (((List (List UInt8)) × (List (List UInt8)) × (List ((List UInt8) × Int × Unit)) × Unit) × ((List Int) × (List Bool) × (List (List Int)) × Unit) × (List (List UInt8)) × Int × Unit) → Option (((List UInt8) × Unit) × (Unit × Unit × Unit))) : (((List (List UInt8)) × (List (List UInt8)) × (List ((List UInt8) × Int × Unit)) × Unit) × ((List Int) × (List Bool) × (List (List Int)) × Unit) × (List (List UInt8)) × Int × Unit) → Option (((List UInt8) × Unit) × (Unit × Unit × Unit)) := fun x => match x with
 | ((d__0, d__1, d__2, ()), (s__0, s__1, s__2, ()), l_, i, ()) =>
  br k (decide (i < (s__1.length : Int)))
  (br k (decide (0 ≤ i))
  (bd k (s__1[i.toNat]?) fun x5 =>
  br k (x5)
  (br k (decide (0 ≤ i))
  (bd k (d__1[i.toNat]?) fun x6 =>
  br k (decide ((l_.length + ([x6, [116, 114, 117, 101]] : List (List UInt8)).length) * 16 ≤ maxBytes))
  (G2 ((d__0, d__1, d__2, ()), (s__0, s__1, s__2, ()), l_ ++ ([x6, [116, 114, 117, 101]] : List (List UInt8)), IntKind.wrap .i64 (i + 1), ()))
  none)
  none)
  (br k (decide (0 ≤ i))
  (bd k (d__1[i.toNat]?) fun x7 =>
  br k (decide ((l_.length + ([x7, [102, 97, 108, 115, 101]] : List (List UInt8)).length) * 16 ≤ maxBytes))
  (G2 ((d__0, d__1, d__2, ()), (s__0, s__1, s__2, ()), l_ ++ ([x7, [102, 97, 108, 115, 101]] : List (List UInt8)), IntKind.wrap .i64 (i + 1), ()))
  none)
  none))
  none)
  (iter (spec_StoreText.l4 k) k ((d__0, d__1, d__2, ()), (s__0, s__1, s__2, ()), l_, 0, ()))
noncomputable def spec_StoreText.l0 (k : Nat)  (G0 : (((List (List UInt8)) × (List (List UInt8)) × (List ((List UInt8) × Int × Unit)) × Unit) × ((List Int) × (List Bool) × (List (List Int)) × Unit) × (List (List UInt8)) × Int × Unit) → Option (((List UInt8) × Unit) × (Unit × Unit × Unit))) : (((List (List UInt8)) × (List (List UInt8)) × (List ((List UInt8) × Int × Unit)) × Unit) × ((List Int) × (List Bool) × (List (List Int)) × Unit) × (List (List UInt8)) × Int × Unit) → Option (((List UInt8) × Unit) × (Unit × Unit × Unit)) := fun x => match x with
 | ((d__0, d__1, d__2, ()), (s__0, s__1, s__2, ()), l_, i, ()) =>
  br k (decide (i < (s__0.length : Int)))
  (br k (decide (0 ≤ i))
  (bd k (d__0[i.toNat]?) fun x2 =>
  br k (decide (0 ≤ i))
  (bd k (s__0[i.toNat]?) fun x3 =>
  bd k (spec_l1Dec k (x3, ())) fun y4 =>
  br k (decide ((l_.length + ([x2, y4.1.1] : List (List UInt8)).length) * 16 ≤ maxBytes))
  (G0 ((d__0, d__1, d__2, ()), (s__0, s__1, s__2, ()), l_ ++ ([x2, y4.1.1] : List (List UInt8)), IntKind.wrap .i64 (i + 1), ()))
  none)
  none)
  none)
  (iter (spec_StoreText.l2 k) k ((d__0, d__1, d__2, ()), (s__0, s__1, s__2, ()), l_, 0, ()))
noncomputable def spec_StoreText (k : Nat) : (((List (List UInt8)) × (List (List UInt8)) × (List ((List UInt8) × Int × Unit)) × Unit) × ((List Int) × (List Bool) × (List (List Int)) × Unit) × Unit) → Option (((List UInt8) × Unit) × (Unit × Unit × Unit)) := fun x => match x with
 | (d_, s_, ()) =>
  bd k (spec_StoreOk k (d_, s_, ())) fun y1 =>
  br k (!y1.1.1)
  (some (([], ()), ((), (), ())))
  (iter (spec_StoreText.l0 k) k ((d_.1, d_.2.1, d_.2.2.1, ()), (s_.1, s_.2.1, s_.2.2.1, ()), ([] : List (List UInt8)), 0, ()))
noncomputable def spec_StoreText.sg (k : Nat) : Sig := ⟨spec_StoreText.A, spec_StoreText.R, spec_StoreText k⟩
noncomputable def spec_StoreText.C (k : Nat) : Ctx := ⟨Tryd.prog, [(61, [spec_StoreOk.sg k]), (32, [spec_l1Dec.sg k]), (62, [spec_l13Joined.sg k])], k⟩
theorem spec_StoreText.ev (k : Nat) (x : spec_StoreText.A.T) : evFunc (spec_StoreText.C k) spec_StoreText.ann Tryd.f26 spec_StoreText.A spec_StoreText.R x = spec_StoreText k x := by kernel_rfl
theorem spec_StoreText.ok {L : List (Nat × Obj)}  (k : Nat) : SigHolds Tryd.prog L 26 (spec_StoreText.sg k) :=
  sig_of_ev (C := spec_StoreText.C k) (holds_cons (allok_cons (spec_StoreOk.ok k) allok_nil) (holds_cons (allok_cons (spec_l1Dec.ok k) allok_nil) (holds_cons (allok_cons (spec_l13Joined.ok k) allok_nil) holds_nil))) (by kernel_rfl) Tryd.func26 (by kernel_rfl) spec_StoreText.ann spec_StoreText.A spec_StoreText.R (fun x y h => (spec_StoreText.ev k x).trans h) (by kernel_rfl)

/-! loop.example/g00719/impl.size[int64] -/
def impl_size_int64.A : Sh := (.cons (.pur (.sl false (.int .i64))) .nil)
def impl_size_int64.R : Sh := (.cons (.pur (.int .i64)) .nil)
def impl_size_int64.ann : Ann := { loops := [], joins := [], keys := [] }
noncomputable def impl_size_int64 (k : Nat) : ((List Int) × Unit) → Option ((Int × Unit) × (Unit × Unit)) := fun x => match x with
 | (list, ()) =>
  some (((list.length : Int), ()), ((), ()))
noncomputable def impl_size_int64.sg (k : Nat) : Sig := ⟨impl_size_int64.A, impl_size_int64.R, impl_size_int64 k⟩
noncomputable def impl_size_int64.C (k : Nat) : Ctx := ⟨Tryd.prog, [], k⟩
theorem impl_size_int64.ev (k : Nat) (x : impl_size_int64.A.T) : evFunc (impl_size_int64.C k) impl_size_int64.ann Tryd.f111 impl_size_int64.A impl_size_int64.R x = impl_size_int64 k x := by kernel_rfl
theorem impl_size_int64.ok {L : List (Nat × Obj)}  (k : Nat) : SigHolds Tryd.prog L 111 (impl_size_int64.sg k) :=
  sig_of_ev (C := impl_size_int64.C k) holds_nil (by kernel_rfl) Tryd.func111 (by kernel_rfl) impl_size_int64.ann impl_size_int64.A impl_size_int64.R (fun x y h => (impl_size_int64.ev k x).trans h) (by kernel_rfl)

/-! (loop.example/g00719/impl.Decl).isStore -/
def impl_Decl_isStore.A : Sh := (.cons (.pur (.cons (.sl false .str) (.cons (.sl false .str) (.cons (.sl false (.cons .str (.cons (.int .i64) .nil))) .nil)))) (.cons (.pur (.cons (.sl false (.int .i64)) (.cons (.sl false .bool) (.cons (.sl false (.sl false (.int .i64))) .nil)))) .nil))
def impl_Decl_isStore.R : Sh := (.cons (.pur .bool) .nil)
def impl_Decl_isStore.ann : Ann := { loops := [(0, [(3, (.box (.cons (.pur (.sl false (.int .i64))) (.cons (.pur (.sl false .bool)) (.cons (.pur (.sl false (.sl false (.int .i64)))) .nil))))), (33, (.pur (.sl false (.cons .str (.cons (.int .i64) .nil))))), (34, (.pur (.int .i64))), (35, (.pur (.int .i64)))])], joins := [(1, [(31, .bool)])], keys := [] }
noncomputable def impl_Decl_isStore.l0 (k : Nat)  (G0 : (((List Int) × (List Bool) × (List (List Int)) × Unit) × (List ((List UInt8) × Int × Unit)) × Int × Int × Unit) → Option ((Bool × Unit) × (Unit × Unit × Unit))) : (((List Int) × (List Bool) × (List (List Int)) × Unit) × (List ((List UInt8) × Int × Unit)) × Int × Int × Unit) → Option ((Bool × Unit) × (Unit × Unit × Unit)) := fun x => match x with
 | ((s__0, s__1, s__2, ()), t33, t34, t35, ()) =>
  br k (decide (t35 < t34))
  (br k (decide (0 ≤ t35))
  (bd k (t33[t35.toNat]?) fun x2 =>
  br k (decide (0 ≤ t35))
  (bd k (s__2[t35.toNat]?) fun x3 =>
  bd k (impl_size_int64 k (x3, ())) fun y4 =>
  br k (y4.1.1 != x2.2.1)
  (some ((false, ()), ((), (), ())))
  (G0 ((s__0, s__1, s__2, ()), t33, t34, IntKind.wrap .i64 (t35 + 1), ())))
  none)
  none)
  (some ((true, ()), ((), (), ())))
noncomputable def impl_Decl_isStore (k : Nat) : (((List (List UInt8)) × (List (List UInt8)) × (List ((List UInt8) × Int × Unit)) × Unit) × ((List Int) × (List Bool) × (List (List Int)) × Unit) × Unit) → Option ((Bool × Unit) × (Unit × Unit × Unit)) := fun x => match x with
 | (d_, s_, ()) =>
  (br k ((s_.1.length : Int) != (d_.1.length : Int))
  (some (true, ()))
  (br k ((s_.2.1.length : Int) != (d_.2.1.length : Int))
  (some (true, ()))
  (some ((s_.2.2.1.length : Int) != (d_.2.2.1.length : Int), ()))) : Option (Bool × Unit)).bind fun j1 =>
  br k (j1.1)
  (some ((false, ()), ((), (), ())))
  (iter (impl_Decl_isStore.l0 k) k ((s_.1, s_.2.1, s_.2.2.1, ()), d_.2.2.1, (d_.2.2.1.length : Int), 0, ()))
noncomputable def impl_Decl_isStore.sg (k : Nat) : Sig := ⟨impl_Decl_isStore.A, impl_Decl_isStore.R, impl_Decl_isStore k⟩
noncomputable def impl_Decl_isStore.C (k : Nat) : Ctx := ⟨Tryd.prog, [(111, [impl_size_int64.sg k])], k⟩
theorem impl_Decl_isStore.ev (k : Nat) (x : impl_Decl_isStore.A.T) : evFunc (impl_Decl_isStore.C k) impl_Decl_isStore.ann Tryd.f91 impl_Decl_isStore.A impl_Decl_isStore.R x = impl_Decl_isStore k x := by kernel_rfl
theorem impl_Decl_isStore.ok {L : List (Nat × Obj)}  (k : Nat) : SigHolds Tryd.prog L 91 (impl_Decl_isStore.sg k) :=
  sig_of_ev (C := impl_Decl_isStore.C k) (holds_cons (allok_cons (impl_size_int64.ok k) allok_nil) holds_nil) (by kernel_rfl) Tryd.func91 (by kernel_rfl) impl_Decl_isStore.ann impl_Decl_isStore.A impl_Decl_isStore.R (fun x y h => (impl_Decl_isStore.ev k x).trans h) (by kernel_rfl)

/-! loop.example/g00719/impl.StoreOk -/
def impl_StoreOk.A : Sh := (.cons (.pur (.cons (.sl false .str) (.cons (.sl false .str) (.cons (.sl false (.cons .str (.cons (.int .i64) .nil))) .nil)))) (.cons (.pur (.cons (.sl false (.int .i64)) (.cons (.sl false .bool) (.cons (.sl false (.sl false (.int .i64))) .nil)))) .nil))
def impl_StoreOk.R : Sh := (.cons (.pur .bool) .nil)
def impl_StoreOk.ann : Ann := { loops := [], joins := [(1, [(4, .bool)])], keys := [] }
noncomputable def impl_StoreOk (k : Nat) : (((List (List UInt8)) × (List (List UInt8)) × (List ((List UInt8) × Int × Unit)) × Unit) × ((List Int) × (List Bool) × (List (List Int)) × Unit) × Unit) → Option ((Bool × Unit) × (Unit × Unit × Unit)) := fun x => match x with
 | (d_, s_, ()) =>
  (bd k (impl_Decl_isRight k (d_, ())) fun y1 =>
  br k (y1.1.1)
  (bd k (impl_Decl_isStore k (d_, s_, ())) fun y2 =>
  some (y2.1.1, ()))
  (some (false, ())) : Option (Bool × Unit)).bind fun j3 =>
  some ((j3.1, ()), ((), (), ()))
noncomputable def impl_StoreOk.sg (k : Nat) : Sig := ⟨impl_StoreOk.A, impl_StoreOk.R, impl_StoreOk k⟩
noncomputable def impl_StoreOk.C (k : Nat) : Ctx := ⟨Tryd.prog, [(85, [impl_Decl_isRight.sg k]), (91, [impl_Decl_isStore.sg k])], k⟩
theorem impl_StoreOk.ev (k : Nat) (x : impl_StoreOk.A.T) : evFunc (impl_StoreOk.C k) impl_StoreOk.ann Tryd.f66 impl_StoreOk.A impl_StoreOk.R x = impl_StoreOk k x := by kernel_rfl
theorem impl_StoreOk.ok {L : List (Nat × Obj)} (hSp : Lb.NeedSp L) (k : Nat) : SigHolds Tryd.prog L 66 (impl_StoreOk.sg k) :=
  sig_of_ev (C := impl_StoreOk.C k) (holds_cons (allok_cons (impl_Decl_isRight.ok hSp k) allok_nil) (holds_cons (allok_cons (impl_Decl_isStore.ok k) allok_nil) holds_nil)) (by kernel_rfl) Tryd.func66 (by kernel_rfl) impl_StoreOk.ann impl_StoreOk.A impl_StoreOk.R (fun x y h => (impl_StoreOk.ev k x).trans h) (by kernel_rfl)

/-! internal/strconv.FormatBool -/
def strconv_FormatBool_x.A : Sh := (.cons (.pur .bool) .nil)
def strconv_FormatBool_x.R : Sh := (.cons (.pur .str) .nil)
def strconv_FormatBool_x.ann : Ann := { loops := [], joins := [], keys := [] }
noncomputable def strconv_FormatBool_x (k : Nat) : (Bool × Unit) → Option (((List UInt8) × Unit) × (Unit × Unit)) := fun x => match x with
 | (b_, ()) =>
  br k (b_)
  (some (([116, 114, 117, 101], ()), ((), ())))
  (some (([102, 97, 108, 115, 101], ()), ((), ())))
noncomputable def strconv_FormatBool_x.sg (k : Nat) : Sig := ⟨strconv_FormatBool_x.A, strconv_FormatBool_x.R, strconv_FormatBool_x k⟩
noncomputable def strconv_FormatBool_x.C (k : Nat) : Ctx := ⟨Tryd.prog, [], k⟩
theorem strconv_FormatBool_x.ev (k : Nat) (x : strconv_FormatBool_x.A.T) : evFunc (strconv_FormatBool_x.C k) strconv_FormatBool_x.ann Tryd.f92 strconv_FormatBool_x.A strconv_FormatBool_x.R x = strconv_FormatBool_x k x := by kernel_rfl
theorem strconv_FormatBool_x.ok {L : List (Nat × Obj)}  (k : Nat) : SigHolds Tryd.prog L 92 (strconv_FormatBool_x.sg k) :=
  sig_of_ev (C := strconv_FormatBool_x.C k) holds_nil (by kernel_rfl) Tryd.func92 (by kernel_rfl) strconv_FormatBool_x.ann strconv_FormatBool_x.A strconv_FormatBool_x.R (fun x y h => (strconv_FormatBool_x.ev k x).trans h) (by kernel_rfl)

/-! strconv.FormatBool -/
def strconv_FormatBool.A : Sh := (.cons (.pur .bool) .nil)
def strconv_FormatBool.R : Sh := (.cons (.pur .str) .nil)
def strconv_FormatBool.ann : Ann := { loops := [], joins := [], keys := [] }
noncomputable def strconv_FormatBool (k : Nat) : (Bool × Unit) → Option (((List UInt8) × Unit) × (Unit × Unit)) := fun x => match x with
 | (b_, ()) =>
  bd k (strconv_FormatBool_x k (b_, ())) fun y1 =>
  some ((y1.1.1, ()), ((), ()))
noncomputable def strconv_FormatBool.sg (k : Nat) : Sig := ⟨strconv_FormatBool.A, strconv_FormatBool.R, strconv_FormatBool k⟩
noncomputable def strconv_FormatBool.C (k : Nat) : Ctx := ⟨Tryd.prog, [(92, [strconv_FormatBool_x.sg k])], k⟩
theorem strconv_FormatBool.ev (k : Nat) (x : strconv_FormatBool.A.T) : evFunc (strconv_FormatBool.C k) strconv_FormatBool.ann Tryd.f67 strconv_FormatBool.A strconv_FormatBool.R x = strconv_FormatBool k x := by kernel_rfl
theorem strconv_FormatBool.ok {L : List (Nat × Obj)}  (k : Nat) : SigHolds Tryd.prog L 67 (strconv_FormatBool.sg k) :=
  sig_of_ev (C := strconv_FormatBool.C k) (holds_cons (allok_cons (strconv_FormatBool_x.ok k) allok_nil) holds_nil) (by kernel_rfl) Tryd.func67 (by kernel_rfl) strconv_FormatBool.ann strconv_FormatBool.A strconv_FormatBool.R (fun x y h => (strconv_FormatBool.ev k x).trans h) (by kernel_rfl)

/-! loop.example/g00719/impl.StoreText -/
def impl_StoreText.A : Sh := (.cons (.pur (.cons (.sl false .str) (.cons (.sl false .str) (.cons (.sl false (.cons .str (.cons (.int .i64) .nil))) .nil)))) (.cons (.pur (.cons (.sl false (.int .i64)) (.cons (.sl false .bool) (.cons (.sl false (.sl false (.int .i64))) .nil)))) .nil))
def impl_StoreText.R : Sh := (.cons (.pur .str) .nil)
def impl_StoreText.ann : Ann := { loops := [(0, [(2, (.box (.cons (.pur (.sl false .str)) (.cons (.pur (.sl false .str)) (.cons (.pur (.sl false (.cons .str (.cons (.int .i64) .nil)))) .nil))))), (3, (.box (.cons (.pur (.sl false (.int .i64))) (.cons (.pur (.sl false .bool)) (.cons (.pur (.sl false (.sl false (.int .i64)))) .nil))))), (5, (.own .str)), (19, (.pur (.sl false (.int .i64)))), (20, (.pur (.int .i64))), (21, (.pur (.int .i64)))]), (2, [(2, (.box (.cons (.pur (.sl false .str)) (.cons (.pur (.sl false .str)) (.cons (.pur (.sl false (.cons .str (.cons (.int .i64) .nil)))) .nil))))), (3, (.box (.cons (.pur (.sl false (.int .i64))) (.cons (.pur (.sl false .bool)) (.cons (.pur (.sl false (.sl false (.int .i64)))) .nil))))), (5, (.own .str)), (38, (.pur (.sl false .bool))), (39, (.pur (.int .i64))), (40, (.pur (.int .i64)))]), (4, [(2, (.box (.cons (.pur (.sl false .str)) (.cons (.pur (.sl false .str)) (.cons (.pur (.sl false (.cons .str (.cons (.int .i64) .nil)))) .nil))))), (5, (.own .str)), (57, (.pur (.sl false (.sl false (.int .i64))))), (58, (.pur (.int .i64))), (59, (.pur (.int .i64)))]), (6, [(2, (.box (.cons (.pur (.sl false .str)) (.cons (.pur (.sl false .str)) (.cons (.pur (.sl false (.cons .str (.cons (.int .i64) .nil)))) .nil))))), (5, (.own .str)), (57, (.pur (.sl false (.sl false (.int .i64))))), (58, (.pur (.int .i64))), (59, (.pur (.int .i64))), (73, (.pur (.sl false (.int .i64)))), (74, (.pur (.int .i64))), (75, (.pur (.int .i64)))])], joins := [], keys := [(7, [([5], false), ([2], false), ([2], false), ([], false), ([], false), ([], false), ([], false), ([], false), ([34], true), ([5, 34, 35], true), ([35], false)]), (12, [([5], false), ([2], false), ([2], false), ([], false), ([], false), ([], false), ([], false), ([], false), ([53], true), ([5, 53, 54], true), ([54], false)])] }
noncomputable def impl_StoreText.l6 (k : Nat) (G4 : (((List (List UInt8)) × (List (List UInt8)) × (List ((List UInt8) × Int × Unit)) × Unit) × (List (List UInt8)) × (List (List Int)) × Int × Int × Unit) → Option (((List UInt8) × Unit) × (Unit × Unit × Unit))) (G6 : (((List (List UInt8)) × (List (List UInt8)) × (List ((List UInt8) × Int × Unit)) × Unit) × (List (List UInt8)) × (List (List Int)) × Int × Int × (List Int) × Int × Int × Unit) → Option (((List UInt8) × Unit) × (Unit × Unit × Unit))) : (((List (List UInt8)) × (List (List UInt8)) × (List ((List UInt8) × Int × Unit)) × Unit) × (List (List UInt8)) × (List (List Int)) × Int × Int × (List Int) × Int × Int × Unit) → Option (((List UInt8) × Unit) × (Unit × Unit × Unit)) := fun x => match x with
 | ((d__0, d__1, d__2, ()), out_, t57, t58, t59, t73, t74, t75, ()) =>
  br k (decide (t75 < t74))
  (br k (decide (0 ≤ t75))
  (bd k (t73[t75.toNat]?) fun x10 =>
  bd k (impl_decimal k (x10, ())) fun y11 =>
  br k (decide ((out_.length + ([y11.1.1] : List (List UInt8)).length) * 16 ≤ maxBytes))
  (G6 ((d__0, d__1, d__2, ()), out_ ++ ([y11.1.1] : List (List UInt8)), t57, t58, t59, t73, t74, IntKind.wrap .i64 (t75 + 1), ()))
  none)
  none)
  (G4 ((d__0, d__1, d__2, ()), out_, t57, t58, IntKind.wrap .i64 (t59 + 1), ()))
noncomputable def impl_StoreText.l4 (k : Nat)  (G4 : (((List (List UInt8)) × (List (List UInt8)) × (List ((List UInt8) × Int × Unit)) × Unit) × (List (List UInt8)) × (List (List Int)) × Int × Int × Unit) → Option (((List UInt8) × Unit) × (Unit × Unit × Unit))) : (((List (List UInt8)) × (List (List UInt8)) × (List ((List UInt8) × Int × Unit)) × Unit) × (List (List UInt8)) × (List (List Int)) × Int × Int × Unit) → Option (((List UInt8) × Unit) × (Unit × Unit × Unit)) := fun x => match x with
 | ((d__0, d__1, d__2, ()), out_, t57, t58, t59, ()) =>
  br k (decide (t59 < t58))
  (br k (decide (0 ≤ t59))
  (bd k (t57[t59.toNat]?) fun x8 =>
  br k (decide (0 ≤ t59))
  (bd k (d__2[t59.toNat]?) fun x9 =>
  br k (decide ((out_.length + ([x9.1] : List (List UInt8)).length) * 16 ≤ maxBytes))
  (iter (impl_StoreText.l6 k G4) k ((d__0, d__1, d__2, ()), out_ ++ ([x9.1] : List (List UInt8)), t57, t58, t59, x8, (x8.length : Int), 0, ()))
  none)
  none)
  none)
  (bd k (Lb.Join k (out_, [32], ())) fun y12 =>
  some ((y12.1.1, ()), ((), (), ())))
noncomputable def impl_StoreText.l2 (k : Nat)  (G2 : (((List (List UInt8)) × (List (List UInt8)) × (List ((List UInt8) × Int × Unit)) × Unit) × ((List Int) × (List Bool) × (List (List Int)) × Unit) × (List (List UInt8)) × (List Bool) × Int × Int × Unit) → Option (((List UInt8) × Unit) × (Unit × Unit × Unit))) : (((List (List UInt8)) × (List (List UInt8)) × (List ((List UInt8) × Int × Unit)) × Unit) × ((List Int) × (List Bool) × (List (List Int)) × Unit) × (List (List UInt8)) × (List Bool) × Int × Int × Unit) → Option (((List UInt8) × Unit) × (Unit × Unit × Unit)) := fun x => match x with
 | ((d__0, d__1, d__2, ()), (s__0, s__1, s__2, ()), out_, t38, t39, t40, ()) =>
  br k (decide (t40 < t39))
  (br k (decide (0 ≤ t40))
  (bd k (t38[t40.toNat]?) fun x5 =>
  br k (decide (0 ≤ t40))
  (bd k (d__1[t40.toNat]?) fun x6 =>
  bd k (strconv_FormatBool k (x5, ())) fun y7 =>
  br k (decide ((out_.length + ([x6, y7.1.1] : List (List UInt8)).length) * 16 ≤ maxBytes))
  (G2 ((d__0, d__1, d__2, ()), (s__0, s__1, s__2, ()), out_ ++ ([x6, y7.1.1] : List (List UInt8)), t38, t39, IntKind.wrap .i64 (t40 + 1), ()))
  none)
  none)
  none)
  (iter (impl_StoreText.l4 k) k ((d__0, d__1, d__2, ()), out_, s__2, (s__2.length : Int), 0, ()))
noncomputable def impl_StoreText.l0 (k : Nat)  (G0 : (((List (List UInt8)) × (List (List UInt8)) × (List ((List UInt8) × Int × Unit)) × Unit) × ((List Int) × (List Bool) × (List (List Int)) × Unit) × (List (List UInt8)) × (List Int) × Int × Int × Unit) → Option (((List UInt8) × Unit) × (Unit × Unit × Unit))) : (((List (List UInt8)) × (List (List UInt8)) × (List ((List UInt8) × Int × Unit)) × Unit) × ((List Int) × (List Bool) × (List (List Int)) × Unit) × (List (List UInt8)) × (List Int) × Int × Int × Unit) → Option (((List UInt8) × Unit) × (Unit × Unit × Unit)) := fun x => match x with
 | ((d__0, d__1, d__2, ()), (s__0, s__1, s__2, ()), out_, t19, t20, t21, ()) =>
  br k (decide (t21 < t20))
  (br k (decide (0 ≤ t21))
  (bd k (t19[t21.toNat]?) fun x2 =>
  br k (decide (0 ≤ t21))
  (bd k (d__0[t21.toNat]?) fun x3 =>
  bd k (impl_decimal k (x2, ())) fun y4 =>
  br k (decide ((out_.length + ([x3, y4.1.1] : List (List UInt8)).length) * 16 ≤ maxBytes))
  (G0 ((d__0, d__1, d__2, ()), (s__0, s__1, s__2, ()), out_ ++ ([x3, y4.1.1] : List (List UInt8)), t19, t20, IntKind.wrap .i64 (t21 + 1), ()))
  none)
  none)
  none)
  (iter (impl_StoreText.l2 k) k ((d__0, d__1, d__2, ()), (s__0, s__1, s__2, ()), out_, s__1, (s__1.length : Int), 0, ()))
noncomputable def impl_StoreText (k : Nat) : (((List (List UInt8)) × (List (List UInt8)) × (List ((List UInt8) × Int × Unit)) × Unit) × ((List Int) × (List Bool) × (List (List Int)) × Unit) × Unit) → Option (((List UInt8) × Unit) × (Unit × Unit × Unit)) := fun x => match x with
 | (d_, s_, ()) =>
  bd k (impl_StoreOk k (d_, s_, ())) fun y1 =>
  br k (!y1.1.1)
  (some (([], ()), ((), (), ())))
  (iter (impl_StoreText.l0 k) k ((d_.1, d_.2.1, d_.2.2.1, ()), (s_.1, s_.2.1, s_.2.2.1, ()), [], s_.1, (s_.1.length : Int), 0, ()))
noncomputable def impl_StoreText.sg (k : Nat) : Sig := ⟨impl_StoreText.A, impl_StoreText.R, impl_StoreText k⟩
noncomputable def impl_StoreText.C (k : Nat) : Ctx := ⟨Tryd.prog, [(66, [impl_StoreOk.sg k]), (35, [impl_decimal.sg k]), (67, [strconv_FormatBool.sg k]), (68, [Lb.Join.sg k])], k⟩
theorem impl_StoreText.ev (k : Nat) (x : impl_StoreText.A.T) : evFunc (impl_StoreText.C k) impl_StoreText.ann Tryd.f28 impl_StoreText.A impl_StoreText.R x = impl_StoreText k x := by kernel_rfl
theorem impl_StoreText.ok {L : List (Nat × Obj)} (hFmt : Lb.NeedFmt L) (hSp : Lb.NeedSp L) (k : Nat) : SigHolds Tryd.prog L 28 (impl_StoreText.sg k) :=
  sig_of_ev (C := impl_StoreText.C k) (holds_cons (allok_cons (impl_StoreOk.ok hSp k) allok_nil) (holds_cons (allok_cons (impl_decimal.ok hFmt k) allok_nil) (holds_cons (allok_cons (strconv_FormatBool.ok k) allok_nil) (holds_cons (allok_cons (Lb.Join.ok k) allok_nil) holds_nil)))) (by kernel_rfl) Tryd.func28 (by kernel_rfl) impl_StoreText.ann impl_StoreText.A impl_StoreText.R (fun x y h => (impl_StoreText.ev k x).trans h) (by kernel_rfl)

/-! loop.example/g00719/laws.eqInt64S -/
def laws_eqInt64S.A : Sh := (.cons (.pur (.sl false (.int .i64))) (.cons (.pur (.sl false (.int .i64))) .nil))
def laws_eqInt64S.R : Sh := (.cons (.pur .bool) .nil)
def laws_eqInt64S.ann : Ann := { loops := [(0, [(0, (.pur (.sl false (.int .i64)))), (1, (.pur (.sl false (.int .i64)))), (5, (.pur (.int .i64)))])], joins := [], keys := [] }
noncomputable def laws_eqInt64S.l0 (k : Nat)  (G0 : ((List Int) × (List Int) × Int × Unit) → Option ((Bool × Unit) × (Unit × Unit × Unit))) : ((List Int) × (List Int) × Int × Unit) → Option ((Bool × Unit) × (Unit × Unit × Unit)) := fun x => match x with
 | (a, b_, i, ()) =>
  br k (decide (i < (a.length : Int)))
  (br k (decide (0 ≤ i))
  (bd k (a[i.toNat]?) fun x1 =>
  br k (decide (0 ≤ i))
  (bd k (b_[i.toNat]?) fun x2 =>
  br k (x1 != x2)
  (some ((false, ()), ((), (), ())))
  (G0 (a, b_, IntKind.wrap .i64 (i + 1), ())))
  none)
  none)
  (some ((true, ()), ((), (), ())))
noncomputable def laws_eqInt64S (k : Nat) : ((List Int) × (List Int) × Unit) → Option ((Bool × Unit) × (Unit × Unit × Unit)) := fun x => match x with
 | (a, b_, ()) =>
  br k ((a.length : Int) != (b_.length : Int))
  (some ((false, ()), ((), (), ())))
  (iter (laws_eqInt64S.l0 k) k (a, b_, 0, ()))
noncomputable def laws_eqInt64S.sg (k : Nat) : Sig := ⟨laws_eqInt64S.A, laws_eqInt64S.R, laws_eqInt64S k⟩
noncomputable def laws_eqInt64S.C (k : Nat) : Ctx := ⟨Tryd.prog, [], k⟩
theorem laws_eqInt64S.ev (k : Nat) (x : laws_eqInt64S.A.T) : evFunc (laws_eqInt64S.C k) laws_eqInt64S.ann Tryd.f69 laws_eqInt64S.A laws_eqInt64S.R x = laws_eqInt64S k x := by kernel_rfl
theorem laws_eqInt64S.ok {L : List (Nat × Obj)}  (k : Nat) : SigHolds Tryd.prog L 69 (laws_eqInt64S.sg k) :=
  sig_of_ev (C := laws_eqInt64S.C k) holds_nil (by kernel_rfl) Tryd.func69 (by kernel_rfl) laws_eqInt64S.ann laws_eqInt64S.A laws_eqInt64S.R (fun x y h => (laws_eqInt64S.ev k x).trans h) (by kernel_rfl)

/-! loop.example/g00719/laws.eqBoolS -/
def laws_eqBoolS.A : Sh := (.cons (.pur (.sl false .bool)) (.cons (.pur (.sl false .bool)) .nil))
def laws_eqBoolS.R : Sh := (.cons (.pur .bool) .nil)
def laws_eqBoolS.ann : Ann := { loops := [(0, [(0, (.pur (.sl false .bool))), (1, (.pur (.sl false .bool))), (5, (.pur (.int .i64)))])], joins := [], keys := [] }
noncomputable def laws_eqBoolS.l0 (k : Nat)  (G0 : ((List Bool) × (List Bool) × Int × Unit) → Option ((Bool × Unit) × (Unit × Unit × Unit))) : ((List Bool) × (List Bool) × Int × Unit) → Option ((Bool × Unit) × (Unit × Unit × Unit)) := fun x => match x with
 | (a, b_, i, ()) =>
  br k (decide (i < (a.length : Int)))
  (br k (decide (0 ≤ i))
  (bd k (a[i.toNat]?) fun x1 =>
  br k (decide (0 ≤ i))
  (bd k (b_[i.toNat]?) fun x2 =>
  br k (!(x1 == x2))
  (some ((false, ()), ((), (), ())))
  (G0 (a, b_, IntKind.wrap .i64 (i + 1), ())))
  none)
  none)
  (some ((true, ()), ((), (), ())))
noncomputable def laws_eqBoolS (k : Nat) : ((List Bool) × (List Bool) × Unit) → Option ((Bool × Unit) × (Unit × Unit × Unit)) := fun x => match x with
 | (a, b_, ()) =>
  br k ((a.length : Int) != (b_.length : Int))
  (some ((false, ()), ((), (), ())))
  (iter (laws_eqBoolS.l0 k) k (a, b_, 0, ()))
noncomputable def laws_eqBoolS.sg (k : Nat) : Sig := ⟨laws_eqBoolS.A, laws_eqBoolS.R, laws_eqBoolS k⟩
noncomputable def laws_eqBoolS.C (k : Nat) : Ctx := ⟨Tryd.prog, [], k⟩
theorem laws_eqBoolS.ev (k : Nat) (x : laws_eqBoolS.A.T) : evFunc (laws_eqBoolS.C k) laws_eqBoolS.ann Tryd.f70 laws_eqBoolS.A laws_eqBoolS.R x = laws_eqBoolS k x := by kernel_rfl
theorem laws_eqBoolS.ok {L : List (Nat × Obj)}  (k : Nat) : SigHolds Tryd.prog L 70 (laws_eqBoolS.sg k) :=
  sig_of_ev (C := laws_eqBoolS.C k) holds_nil (by kernel_rfl) Tryd.func70 (by kernel_rfl) laws_eqBoolS.ann laws_eqBoolS.A laws_eqBoolS.R (fun x y h => (laws_eqBoolS.ev k x).trans h) (by kernel_rfl)

/-! loop.example/g00719/laws.eqInt64SS -/
def laws_eqInt64SS.A : Sh := (.cons (.pur (.sl false (.sl false (.int .i64)))) (.cons (.pur (.sl false (.sl false (.int .i64)))) .nil))
def laws_eqInt64SS.R : Sh := (.cons (.pur .bool) .nil)
def laws_eqInt64SS.ann : Ann := { loops := [(0, [(0, (.pur (.sl false (.sl false (.int .i64))))), (1, (.pur (.sl false (.sl false (.int .i64))))), (5, (.pur (.int .i64)))])], joins := [], keys := [] }
noncomputable def laws_eqInt64SS.l0 (k : Nat)  (G0 : ((List (List Int)) × (List (List Int)) × Int × Unit) → Option ((Bool × Unit) × (Unit × Unit × Unit))) : ((List (List Int)) × (List (List Int)) × Int × Unit) → Option ((Bool × Unit) × (Unit × Unit × Unit)) := fun x => match x with
 | (a, b_, i, ()) =>
  br k (decide (i < (a.length : Int)))
  (br k (decide (0 ≤ i))
  (bd k (a[i.toNat]?) fun x1 =>
  br k (decide (0 ≤ i))
  (bd k (b_[i.toNat]?) fun x2 =>
  bd k (laws_eqInt64S k (x1, x2, ())) fun y3 =>
  br k (!y3.1.1)
  (some ((false, ()), ((), (), ())))
  (G0 (a, b_, IntKind.wrap .i64 (i + 1), ())))
  none)
  none)
  (some ((true, ()), ((), (), ())))
noncomputable def laws_eqInt64SS (k : Nat) : ((List (List Int)) × (List (List Int)) × Unit) → Option ((Bool × Unit) × (Unit × Unit × Unit)) := fun x => match x with
 | (a, b_, ()) =>
  br k ((a.length : Int) != (b_.length : Int))
  (some ((false, ()), ((), (), ())))
  (iter (laws_eqInt64SS.l0 k) k (a, b_, 0, ()))
noncomputable def laws_eqInt64SS.sg (k : Nat) : Sig := ⟨laws_eqInt64SS.A, laws_eqInt64SS.R, laws_eqInt64SS k⟩
noncomputable def laws_eqInt64SS.C (k : Nat) : Ctx := ⟨Tryd.prog, [(69, [laws_eqInt64S.sg k])], k⟩
theorem laws_eqInt64SS.ev (k : Nat) (x : laws_eqInt64SS.A.T) : evFunc (laws_eqInt64SS.C k) laws_eqInt64SS.ann Tryd.f71 laws_eqInt64SS.A laws_eqInt64SS.R x = laws_eqInt64SS k x := by kernel_rfl
theorem laws_eqInt64SS.ok {L : List (Nat × Obj)}  (k : Nat) : SigHolds Tryd.prog L 71 (laws_eqInt64SS.sg k) :=
  sig_of_ev (C := laws_eqInt64SS.C k) (holds_cons (allok_cons (laws_eqInt64S.ok k) allok_nil) holds_nil) (by kernel_rfl) Tryd.func71 (by kernel_rfl) laws_eqInt64SS.ann laws_eqInt64SS.A laws_eqInt64SS.R (fun x y h => (laws_eqInt64SS.ev k x).trans h) (by kernel_rfl)

end Go.Pev.F
