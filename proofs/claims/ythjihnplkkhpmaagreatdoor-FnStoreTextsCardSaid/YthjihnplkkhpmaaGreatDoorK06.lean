/-
  Printed by gen.py: what functions of the program compute, and that they do.
-/
import Derived.Test.YthjihnplkkhpmaaGreatDoorK05
set_option linter.unusedSimpArgs false
set_option linter.unusedVariables false
open Go.Proofs Go.Pev
namespace Go.Pev.F
set_option maxRecDepth 100000
set_option linter.unusedVariables false

/-! (loop.example/g00719/impl.Decl).isRight -/
def impl_Decl_isRight.A : Sh := (.cons (.pur (.cons (.sl false .str) (.cons (.sl false .str) (.cons (.sl false (.cons .str (.cons (.int .i64) .nil))) .nil)))) .nil)
def impl_Decl_isRight.R : Sh := (.cons (.pur .bool) .nil)
def impl_Decl_isRight.ann : Ann := { loops := [(0, [(1, (.box (.cons (.pur (.sl false .str)) (.cons (.pur (.sl false .str)) (.cons (.pur (.sl false (.cons .str (.cons (.int .i64) .nil)))) .nil))))), (3, (.pur (.sl false .str))), (9, (.pur (.sl false .str))), (10, (.pur (.int .i64))), (11, (.pur (.int .i64)))])], joins := [(5, [(25, .bool)])], keys := [] }
noncomputable def impl_Decl_isRight.l0 (k : Nat)  (G0 : (((List (List UInt8)) × (List (List UInt8)) × (List ((List UInt8) × Int × Unit)) × Unit) × (List (List UInt8)) × (List (List UInt8)) × Int × Int × Unit) → Option ((Bool × Unit) × (Unit × Unit))) : (((List (List UInt8)) × (List (List UInt8)) × (List ((List UInt8) × Int × Unit)) × Unit) × (List (List UInt8)) × (List (List UInt8)) × Int × Int × Unit) → Option ((Bool × Unit) × (Unit × Unit)) := fun x => match x with
 | ((d__0, d__1, d__2, ()), list, t9, t10, t11, ()) =>
  br k (decide (t11 < t10))
  (br k (decide (0 ≤ t11))
  (bd k (t9[t11.toNat]?) fun x2 =>
  (bd k (impl_isName k (x2, ())) fun y3 =>
  br k (!y3.1.1)
  (some (true, ()))
  (br k (decide (0 ≤ t11 ∧ t11 ≤ (list.length : Int)))
  (bd k (slices_Contains_string_string k (list.take t11.toNat, x2, ())) fun y4 =>
  some (y4.1.1, ()))
  none) : Option (Bool × Unit)).bind fun j5 =>
  br k (j5.1)
  (some ((false, ()), ((), ())))
  (G0 ((d__0, d__1, d__2, ()), list, t9, t10, IntKind.wrap .i64 (t11 + 1), ())))
  none)
  (br k (decide ((d__0.length : Int) ≤ 5))
  (br k (decide ((d__1.length : Int) ≤ 3))
  (br k (decide ((d__2.length : Int) ≤ 2))
  (bd k (impl_areAll_impl_Arr k (d__2, (()), ())) fun y6 =>
  some ((y6.1.1, ()), ((), ())))
  (some ((false, ()), ((), ()))))
  (some ((false, ()), ((), ()))))
  (some ((false, ()), ((), ()))))
noncomputable def impl_Decl_isRight (k : Nat) : (((List (List UInt8)) × (List (List UInt8)) × (List ((List UInt8) × Int × Unit)) × Unit) × Unit) → Option ((Bool × Unit) × (Unit × Unit)) := fun x => match x with
 | (d_, ()) =>
  bd k (impl_Decl_names k (d_, ())) fun y1 =>
  iter (impl_Decl_isRight.l0 k) k ((d_.1, d_.2.1, d_.2.2.1, ()), y1.1.1, y1.1.1, (y1.1.1.length : Int), 0, ())
noncomputable def impl_Decl_isRight.sg (k : Nat) : Sig := ⟨impl_Decl_isRight.A, impl_Decl_isRight.R, impl_Decl_isRight k⟩
noncomputable def impl_Decl_isRight.C (k : Nat) : Ctx := ⟨Tryz.prog, [(79, [impl_Decl_names.sg k]), (111, [impl_isName.sg k]), (112, [slices_Contains_string_string.sg k]), (115, [impl_areAll_impl_Arr.sg k])], k, []⟩
theorem impl_Decl_isRight.ev (k : Nat) (x : impl_Decl_isRight.A.T) : evFunc (impl_Decl_isRight.C k) impl_Decl_isRight.ann Tryz.f77 impl_Decl_isRight.A impl_Decl_isRight.R x = impl_Decl_isRight k x := by kernel_rfl
theorem impl_Decl_isRight.ok {L : List (Nat × Obj)} (hSp : Lb.NeedSp L) (k : Nat) : SigHolds Tryz.prog L 77 (impl_Decl_isRight.sg k) :=
  sig_of_ev (C := impl_Decl_isRight.C k) (holds_cons (allok_cons (impl_Decl_names.ok k) allok_nil) (holds_cons (allok_cons (impl_isName.ok hSp k) allok_nil) (holds_cons (allok_cons (slices_Contains_string_string.ok k) allok_nil) (holds_cons (allok_cons (impl_areAll_impl_Arr.ok k) allok_nil) holds_nil)))) (by kernel_rfl) Tryz.func77 (by kernel_rfl) impl_Decl_isRight.ann impl_Decl_isRight.A impl_Decl_isRight.R (fun x y h => (impl_Decl_isRight.ev k x).trans h) (by kernel_rfl)

/-! loop.example/g00719/impl.IvOk -/
def impl_IvOk.A : Sh := (.cons (.pur (.cons (.int .i64) (.cons (.int .i64) .nil))) .nil)
def impl_IvOk.R : Sh := (.cons (.pur .bool) .nil)
def impl_IvOk.ann : Ann := { loops := [], joins := [], keys := [] }
noncomputable def impl_IvOk (k : Nat) : ((Int × Int × Unit) × Unit) → Option ((Bool × Unit) × (Unit × Unit)) := fun x => match x with
 | (a, ()) =>
  some ((decide (a.1 ≤ a.2.1), ()), ((), ()))
noncomputable def impl_IvOk.sg (k : Nat) : Sig := ⟨impl_IvOk.A, impl_IvOk.R, impl_IvOk k⟩
noncomputable def impl_IvOk.C (k : Nat) : Ctx := ⟨Tryz.prog, [], k, []⟩
theorem impl_IvOk.ev (k : Nat) (x : impl_IvOk.A.T) : evFunc (impl_IvOk.C k) impl_IvOk.ann Tryz.f117 impl_IvOk.A impl_IvOk.R x = impl_IvOk k x := by kernel_rfl
theorem impl_IvOk.ok {L : List (Nat × Obj)}  (k : Nat) : SigHolds Tryz.prog L 117 (impl_IvOk.sg k) :=
  sig_of_ev (C := impl_IvOk.C k) holds_nil (by kernel_rfl) Tryz.func117 (by kernel_rfl) impl_IvOk.ann impl_IvOk.A impl_IvOk.R (fun x y h => (impl_IvOk.ev k x).trans h) (by kernel_rfl)

/-! loop.example/g00719/impl.areAll[loop.example/g00719/impl.Interval]$1 -/
def impl_areAll_impl_Interval_1.A : Sh := (.cons (.pur (.cons (.int .i64) (.cons (.int .i64) .nil))) (.cons (.box (.cons (.fn (.func 117) 0 .nil) .nil)) .nil))
def impl_areAll_impl_Interval_1.R : Sh := (.cons (.pur .bool) .nil)
def impl_areAll_impl_Interval_1.ann : Ann := { loops := [], joins := [], keys := [] }
noncomputable def impl_areAll_impl_Interval_1 (k : Nat) : ((Int × Int × Unit) × ((Unit) × Unit) × Unit) → Option ((Bool × Unit) × (Unit × ((Unit) × Unit) × Unit)) := fun x => match x with
 | (x_, ((()), ()), ()) =>
  bd k (impl_IvOk k (x_, ())) fun y1 =>
  some ((!y1.1.1, ()), ((), ((()), ()), ()))
noncomputable def impl_areAll_impl_Interval_1.sg (k : Nat) : Sig := ⟨impl_areAll_impl_Interval_1.A, impl_areAll_impl_Interval_1.R, impl_areAll_impl_Interval_1 k⟩
noncomputable def impl_areAll_impl_Interval_1.C (k : Nat) : Ctx := ⟨Tryz.prog, [(117, [impl_IvOk.sg k])], k, []⟩
theorem impl_areAll_impl_Interval_1.ev (k : Nat) (x : impl_areAll_impl_Interval_1.A.T) : evFunc (impl_areAll_impl_Interval_1.C k) impl_areAll_impl_Interval_1.ann Tryz.f149 impl_areAll_impl_Interval_1.A impl_areAll_impl_Interval_1.R x = impl_areAll_impl_Interval_1 k x := by kernel_rfl
theorem impl_areAll_impl_Interval_1.ok {L : List (Nat × Obj)}  (k : Nat) : SigHolds Tryz.prog L 149 (impl_areAll_impl_Interval_1.sg k) :=
  sig_of_ev (C := impl_areAll_impl_Interval_1.C k) (holds_cons (allok_cons (impl_IvOk.ok k) allok_nil) holds_nil) (by kernel_rfl) Tryz.func149 (by kernel_rfl) impl_areAll_impl_Interval_1.ann impl_areAll_impl_Interval_1.A impl_areAll_impl_Interval_1.R (fun x y h => (impl_areAll_impl_Interval_1.ev k x).trans h) (by kernel_rfl)

/-! slices.IndexFunc[[]loop.example/g00719/impl.Interval,loop.example/g00719/impl.Interval] -/
def slices_IndexFunc_impl_Interval_impl_Interval.A : Sh := (.cons (.pur (.sl false (.cons (.int .i64) (.cons (.int .i64) .nil)))) (.cons (.fn (.func 149) 0 (.cons (.box (.cons (.fn (.func 117) 0 .nil) .nil)) .nil)) .nil))
def slices_IndexFunc_impl_Interval_impl_Interval.R : Sh := (.cons (.pur (.int .i64)) .nil)
def slices_IndexFunc_impl_Interval_impl_Interval.ann : Ann := { loops := [(0, [(0, (.pur (.sl false (.cons (.int .i64) (.cons (.int .i64) .nil))))), (1, (.fn (.func 149) 0 (.cons (.box (.cons (.fn (.func 117) 0 .nil) .nil)) .nil))), (7, (.pur (.int .i64))), (8, (.pur (.int .i64)))])], joins := [], keys := [] }
noncomputable def slices_IndexFunc_impl_Interval_impl_Interval.l0 (k : Nat)  (G0 : ((List (Int × Int × Unit)) × (((Unit) × Unit) × Unit) × Int × Int × Unit) → Option ((Int × Unit) × (Unit × (((Unit) × Unit) × Unit) × Unit))) : ((List (Int × Int × Unit)) × (((Unit) × Unit) × Unit) × Int × Int × Unit) → Option ((Int × Unit) × (Unit × (((Unit) × Unit) × Unit) × Unit)) := fun x => match x with
 | (s_, (((()), ()), ()), t7, t8, ()) =>
  br k (decide (t8 < t7))
  (br k (decide (0 ≤ t8))
  (bd k (s_[t8.toNat]?) fun x1 =>
  bd k (impl_areAll_impl_Interval_1 k (x1, ((()), ()), ())) fun y2 =>
  br k (y2.1.1)
  (some ((t8, ()), ((), (((()), ()), ()), ())))
  (G0 (s_, (((()), ()), ()), t7, IntKind.wrap .i64 (t8 + 1), ())))
  none)
  (some (((-1), ()), ((), (((()), ()), ()), ())))
noncomputable def slices_IndexFunc_impl_Interval_impl_Interval (k : Nat) : ((List (Int × Int × Unit)) × (((Unit) × Unit) × Unit) × Unit) → Option ((Int × Unit) × (Unit × (((Unit) × Unit) × Unit) × Unit)) := fun x => match x with
 | (s_, (((()), ()), ()), ()) =>
  iter (slices_IndexFunc_impl_Interval_impl_Interval.l0 k) k (s_, (((()), ()), ()), (s_.length : Int), 0, ())
noncomputable def slices_IndexFunc_impl_Interval_impl_Interval.sg (k : Nat) : Sig := ⟨slices_IndexFunc_impl_Interval_impl_Interval.A, slices_IndexFunc_impl_Interval_impl_Interval.R, slices_IndexFunc_impl_Interval_impl_Interval k⟩
noncomputable def slices_IndexFunc_impl_Interval_impl_Interval.C (k : Nat) : Ctx := ⟨Tryz.prog, [(149, [impl_areAll_impl_Interval_1.sg k])], k, []⟩
theorem slices_IndexFunc_impl_Interval_impl_Interval.ev (k : Nat) (x : slices_IndexFunc_impl_Interval_impl_Interval.A.T) : evFunc (slices_IndexFunc_impl_Interval_impl_Interval.C k) slices_IndexFunc_impl_Interval_impl_Interval.ann Tryz.f177 slices_IndexFunc_impl_Interval_impl_Interval.A slices_IndexFunc_impl_Interval_impl_Interval.R x = slices_IndexFunc_impl_Interval_impl_Interval k x := by kernel_rfl
theorem slices_IndexFunc_impl_Interval_impl_Interval.ok {L : List (Nat × Obj)}  (k : Nat) : SigHolds Tryz.prog L 177 (slices_IndexFunc_impl_Interval_impl_Interval.sg k) :=
  sig_of_ev (C := slices_IndexFunc_impl_Interval_impl_Interval.C k) (holds_cons (allok_cons (impl_areAll_impl_Interval_1.ok k) allok_nil) holds_nil) (by kernel_rfl) Tryz.func177 (by kernel_rfl) slices_IndexFunc_impl_Interval_impl_Interval.ann slices_IndexFunc_impl_Interval_impl_Interval.A slices_IndexFunc_impl_Interval_impl_Interval.R (fun x y h => (slices_IndexFunc_impl_Interval_impl_Interval.ev k x).trans h) (by kernel_rfl)

/-! slices.ContainsFunc[[]loop.example/g00719/impl.Interval,loop.example/g00719/impl.Interval] -/
def slices_ContainsFunc_impl_Interval_impl_Interval.A : Sh := (.cons (.pur (.sl false (.cons (.int .i64) (.cons (.int .i64) .nil)))) (.cons (.fn (.func 149) 0 (.cons (.box (.cons (.fn (.func 117) 0 .nil) .nil)) .nil)) .nil))
def slices_ContainsFunc_impl_Interval_impl_Interval.R : Sh := (.cons (.pur .bool) .nil)
def slices_ContainsFunc_impl_Interval_impl_Interval.ann : Ann := { loops := [], joins := [], keys := [] }
noncomputable def slices_ContainsFunc_impl_Interval_impl_Interval (k : Nat) : ((List (Int × Int × Unit)) × (((Unit) × Unit) × Unit) × Unit) → Option ((Bool × Unit) × (Unit × (((Unit) × Unit) × Unit) × Unit)) := fun x => match x with
 | (s_, (((()), ()), ()), ()) =>
  bd k (slices_IndexFunc_impl_Interval_impl_Interval k (s_, (((()), ()), ()), ())) fun y1 =>
  some ((decide (y1.1.1 ≥ 0), ()), ((), (((()), ()), ()), ()))
noncomputable def slices_ContainsFunc_impl_Interval_impl_Interval.sg (k : Nat) : Sig := ⟨slices_ContainsFunc_impl_Interval_impl_Interval.A, slices_ContainsFunc_impl_Interval_impl_Interval.R, slices_ContainsFunc_impl_Interval_impl_Interval k⟩
noncomputable def slices_ContainsFunc_impl_Interval_impl_Interval.C (k : Nat) : Ctx := ⟨Tryz.prog, [(177, [slices_IndexFunc_impl_Interval_impl_Interval.sg k])], k, []⟩
theorem slices_ContainsFunc_impl_Interval_impl_Interval.ev (k : Nat) (x : slices_ContainsFunc_impl_Interval_impl_Interval.A.T) : evFunc (slices_ContainsFunc_impl_Interval_impl_Interval.C k) slices_ContainsFunc_impl_Interval_impl_Interval.ann Tryz.f148 slices_ContainsFunc_impl_Interval_impl_Interval.A slices_ContainsFunc_impl_Interval_impl_Interval.R x = slices_ContainsFunc_impl_Interval_impl_Interval k x := by kernel_rfl
theorem slices_ContainsFunc_impl_Interval_impl_Interval.ok {L : List (Nat × Obj)}  (k : Nat) : SigHolds Tryz.prog L 148 (slices_ContainsFunc_impl_Interval_impl_Interval.sg k) :=
  sig_of_ev (C := slices_ContainsFunc_impl_Interval_impl_Interval.C k) (holds_cons (allok_cons (slices_IndexFunc_impl_Interval_impl_Interval.ok k) allok_nil) holds_nil) (by kernel_rfl) Tryz.func148 (by kernel_rfl) slices_ContainsFunc_impl_Interval_impl_Interval.ann slices_ContainsFunc_impl_Interval_impl_Interval.A slices_ContainsFunc_impl_Interval_impl_Interval.R (fun x y h => (slices_ContainsFunc_impl_Interval_impl_Interval.ev k x).trans h) (by kernel_rfl)

/-! loop.example/g00719/impl.areAll[loop.example/g00719/impl.Interval] -/
def impl_areAll_impl_Interval.A : Sh := (.cons (.pur (.sl false (.cons (.int .i64) (.cons (.int .i64) .nil)))) (.cons (.fn (.func 117) 0 .nil) .nil))
def impl_areAll_impl_Interval.R : Sh := (.cons (.pur .bool) .nil)
def impl_areAll_impl_Interval.ann : Ann := { loops := [], joins := [], keys := [] }
noncomputable def impl_areAll_impl_Interval (k : Nat) : ((List (Int × Int × Unit)) × (Unit) × Unit) → Option ((Bool × Unit) × (Unit × (Unit) × Unit)) := fun x => match x with
 | (list, (()), ()) =>
  bd k (slices_ContainsFunc_impl_Interval_impl_Interval k (list, (((()), ()), ()), ())) fun y1 =>
  some ((!y1.1.1, ()), ((), (()), ()))
noncomputable def impl_areAll_impl_Interval.sg (k : Nat) : Sig := ⟨impl_areAll_impl_Interval.A, impl_areAll_impl_Interval.R, impl_areAll_impl_Interval k⟩
noncomputable def impl_areAll_impl_Interval.C (k : Nat) : Ctx := ⟨Tryz.prog, [(148, [slices_ContainsFunc_impl_Interval_impl_Interval.sg k])], k, []⟩
theorem impl_areAll_impl_Interval.ev (k : Nat) (x : impl_areAll_impl_Interval.A.T) : evFunc (impl_areAll_impl_Interval.C k) impl_areAll_impl_Interval.ann Tryz.f116 impl_areAll_impl_Interval.A impl_areAll_impl_Interval.R x = impl_areAll_impl_Interval k x := by kernel_rfl
theorem impl_areAll_impl_Interval.ok {L : List (Nat × Obj)}  (k : Nat) : SigHolds Tryz.prog L 116 (impl_areAll_impl_Interval.sg k) :=
  sig_of_ev (C := impl_areAll_impl_Interval.C k) (holds_cons (allok_cons (slices_ContainsFunc_impl_Interval_impl_Interval.ok k) allok_nil) holds_nil) (by kernel_rfl) Tryz.func116 (by kernel_rfl) impl_areAll_impl_Interval.ann impl_areAll_impl_Interval.A impl_areAll_impl_Interval.R (fun x y h => (impl_areAll_impl_Interval.ev k x).trans h) (by kernel_rfl)

/-! (loop.example/g00719/impl.Decl).isEnv -/
def impl_Decl_isEnv.A : Sh := (.cons (.pur (.cons (.sl false .str) (.cons (.sl false .str) (.cons (.sl false (.cons .str (.cons (.int .i64) .nil))) .nil)))) (.cons (.pur (.cons .bool (.cons (.sl false (.cons (.int .i64) (.cons (.int .i64) .nil))) (.cons (.sl false (.cons (.int .i64) (.cons (.int .i64) .nil))) .nil)))) .nil))
def impl_Decl_isEnv.R : Sh := (.cons (.pur .bool) .nil)
def impl_Decl_isEnv.ann : Ann := { loops := [], joins := [(2, [(4, .bool)])], keys := [] }
noncomputable def impl_Decl_isEnv (k : Nat) : (((List (List UInt8)) × (List (List UInt8)) × (List ((List UInt8) × Int × Unit)) × Unit) × (Bool × (List (Int × Int × Unit)) × (List (Int × Int × Unit)) × Unit) × Unit) → Option ((Bool × Unit) × (Unit × Unit × Unit)) := fun x => match x with
 | (d_, e_, ()) =>
  br k (!e_.1)
  ((br k ((e_.2.1.length : Int) == 0)
  (some ((e_.2.2.1.length : Int) == 0, ()))
  (some (false, ())) : Option (Bool × Unit)).bind fun j1 =>
  some ((j1.1, ()), ((), (), ())))
  (br k ((e_.2.1.length : Int) == (d_.1.length : Int))
  (br k ((e_.2.2.1.length : Int) == (d_.2.2.1.length : Int))
  (bd k (impl_areAll_impl_Interval k (e_.2.1, (()), ())) fun y2 =>
  br k (y2.1.1)
  (bd k (impl_areAll_impl_Interval k (e_.2.2.1, (()), ())) fun y3 =>
  some ((y3.1.1, ()), ((), (), ())))
  (some ((false, ()), ((), (), ()))))
  (some ((false, ()), ((), (), ()))))
  (some ((false, ()), ((), (), ()))))
noncomputable def impl_Decl_isEnv.sg (k : Nat) : Sig := ⟨impl_Decl_isEnv.A, impl_Decl_isEnv.R, impl_Decl_isEnv k⟩
noncomputable def impl_Decl_isEnv.C (k : Nat) : Ctx := ⟨Tryz.prog, [(116, [impl_areAll_impl_Interval.sg k])], k, []⟩
theorem impl_Decl_isEnv.ev (k : Nat) (x : impl_Decl_isEnv.A.T) : evFunc (impl_Decl_isEnv.C k) impl_Decl_isEnv.ann Tryz.f78 impl_Decl_isEnv.A impl_Decl_isEnv.R x = impl_Decl_isEnv k x := by kernel_rfl
theorem impl_Decl_isEnv.ok {L : List (Nat × Obj)}  (k : Nat) : SigHolds Tryz.prog L 78 (impl_Decl_isEnv.sg k) :=
  sig_of_ev (C := impl_Decl_isEnv.C k) (holds_cons (allok_cons (impl_areAll_impl_Interval.ok k) allok_nil) holds_nil) (by kernel_rfl) Tryz.func78 (by kernel_rfl) impl_Decl_isEnv.ann impl_Decl_isEnv.A impl_Decl_isEnv.R (fun x y h => (impl_Decl_isEnv.ev k x).trans h) (by kernel_rfl)

/-! loop.example/g00719/impl.EnvOk -/
def impl_EnvOk.A : Sh := (.cons (.pur (.cons (.sl false .str) (.cons (.sl false .str) (.cons (.sl false (.cons .str (.cons (.int .i64) .nil))) .nil)))) (.cons (.pur (.cons .bool (.cons (.sl false (.cons (.int .i64) (.cons (.int .i64) .nil))) (.cons (.sl false (.cons (.int .i64) (.cons (.int .i64) .nil))) .nil)))) .nil))
def impl_EnvOk.R : Sh := (.cons (.pur .bool) .nil)
def impl_EnvOk.ann : Ann := { loops := [], joins := [(1, [(4, .bool)])], keys := [] }
noncomputable def impl_EnvOk (k : Nat) : (((List (List UInt8)) × (List (List UInt8)) × (List ((List UInt8) × Int × Unit)) × Unit) × (Bool × (List (Int × Int × Unit)) × (List (Int × Int × Unit)) × Unit) × Unit) → Option ((Bool × Unit) × (Unit × Unit × Unit)) := fun x => match x with
 | (d_, e_, ()) =>
  (bd k (impl_Decl_isRight k (d_, ())) fun y1 =>
  br k (y1.1.1)
  (bd k (impl_Decl_isEnv k (d_, e_, ())) fun y2 =>
  some (y2.1.1, ()))
  (some (false, ())) : Option (Bool × Unit)).bind fun j3 =>
  some ((j3.1, ()), ((), (), ()))
noncomputable def impl_EnvOk.sg (k : Nat) : Sig := ⟨impl_EnvOk.A, impl_EnvOk.R, impl_EnvOk k⟩
noncomputable def impl_EnvOk.C (k : Nat) : Ctx := ⟨Tryz.prog, [(77, [impl_Decl_isRight.sg k]), (78, [impl_Decl_isEnv.sg k])], k, []⟩
theorem impl_EnvOk.ev (k : Nat) (x : impl_EnvOk.A.T) : evFunc (impl_EnvOk.C k) impl_EnvOk.ann Tryz.f35 impl_EnvOk.A impl_EnvOk.R x = impl_EnvOk k x := by kernel_rfl
theorem impl_EnvOk.ok {L : List (Nat × Obj)} (hSp : Lb.NeedSp L) (k : Nat) : SigHolds Tryz.prog L 35 (impl_EnvOk.sg k) :=
  sig_of_ev (C := impl_EnvOk.C k) (holds_cons (allok_cons (impl_Decl_isRight.ok hSp k) allok_nil) (holds_cons (allok_cons (impl_Decl_isEnv.ok k) allok_nil) holds_nil)) (by kernel_rfl) Tryz.func35 (by kernel_rfl) impl_EnvOk.ann impl_EnvOk.A impl_EnvOk.R (fun x y h => (impl_EnvOk.ev k x).trans h) (by kernel_rfl)

/-! loop.example/g00719/impl.decimal -/
def impl_decimal.A : Sh := (.cons (.pur (.int .i64)) .nil)
def impl_decimal.R : Sh := (.cons (.pur .str) .nil)
def impl_decimal.ann : Ann := { loops := [], joins := [], keys := [] }
noncomputable def impl_decimal (k : Nat) : (Int × Unit) → Option (((List UInt8) × Unit) × (Unit × Unit)) := fun x => match x with
 | (n, ()) =>
  bd k (Lb.FormatInt k (n, 10, ())) fun y1 =>
  some ((y1.1.1, ()), ((), ()))
noncomputable def impl_decimal.sg (k : Nat) : Sig := ⟨impl_decimal.A, impl_decimal.R, impl_decimal k⟩
noncomputable def impl_decimal.C (k : Nat) : Ctx := ⟨Tryz.prog, [(83, [Lb.FormatInt.sg k])], k, []⟩
theorem impl_decimal.ev (k : Nat) (x : impl_decimal.A.T) : evFunc (impl_decimal.C k) impl_decimal.ann Tryz.f39 impl_decimal.A impl_decimal.R x = impl_decimal k x := by kernel_rfl
theorem impl_decimal.ok {L : List (Nat × Obj)} (hFmt : Lb.NeedFmt L) (k : Nat) : SigHolds Tryz.prog L 39 (impl_decimal.sg k) :=
  sig_of_ev (C := impl_decimal.C k) (holds_cons (allok_cons (Lb.FormatInt.ok hFmt k) allok_nil) holds_nil) (by kernel_rfl) Tryz.func39 (by kernel_rfl) impl_decimal.ann impl_decimal.A impl_decimal.R (fun x y h => (impl_decimal.ev k x).trans h) (by kernel_rfl)

/-! loop.example/g00719/impl.named -/
def impl_named.A : Sh := (.cons (.pur (.sl false .str)) (.cons (.pur (.sl false (.cons (.int .i64) (.cons (.int .i64) .nil)))) .nil))
def impl_named.R : Sh := (.cons (.own .str) .nil)
def impl_named.ann : Ann := { loops := [(0, [(0, (.pur (.sl false .str))), (5, (.own .str)), (8, (.pur (.sl false (.cons (.int .i64) (.cons (.int .i64) .nil))))), (9, (.pur (.int .i64))), (10, (.pur (.int .i64)))])], joins := [], keys := [(5, [([], false), ([], false), ([], false), ([], false), ([], false), ([7], false), ([7], false), ([], false), ([], false), ([7], false), ([7], false), ([], false), ([], false), ([28], true), ([5, 28, 29], true), ([], false)])] }
noncomputable def impl_named.l0 (k : Nat)  (G0 : ((List (List UInt8)) × (List (List UInt8)) × (List (Int × Int × Unit)) × Int × Int × Unit) → Option (((List (List UInt8)) × Unit) × (Unit × Unit × Unit))) : ((List (List UInt8)) × (List (List UInt8)) × (List (Int × Int × Unit)) × Int × Int × Unit) → Option (((List (List UInt8)) × Unit) × (Unit × Unit × Unit)) := fun x => match x with
 | (names, out_, t8, t9, t10, ()) =>
  br k (decide (t10 < t9))
  (br k (decide (0 ≤ t10))
  (bd k (t8[t10.toNat]?) fun x1 =>
  br k (decide (0 ≤ t10))
  (bd k (names[t10.toNat]?) fun x2 =>
  bd k (impl_decimal k (x1.1, ())) fun y3 =>
  br k (decide (((y3.1.1.length + ([46, 46] : List UInt8).length : Nat) : Int) ≤ maxInt64))
  (bd k (impl_decimal k (x1.2.1, ())) fun y4 =>
  br k (decide ((((y3.1.1 ++ [46, 46]).length + y4.1.1.length : Nat) : Int) ≤ maxInt64))
  (br k (decide ((out_.length + ([x2, (y3.1.1 ++ [46, 46]) ++ y4.1.1] : List (List UInt8)).length) * 16 ≤ maxBytes))
  (G0 (names, out_ ++ ([x2, (y3.1.1 ++ [46, 46]) ++ y4.1.1] : List (List UInt8)), t8, t9, IntKind.wrap .i64 (t10 + 1), ()))
  none)
  none)
  none)
  none)
  none)
  (some ((out_, ()), ((), (), ())))
noncomputable def impl_named (k : Nat) : ((List (List UInt8)) × (List (Int × Int × Unit)) × Unit) → Option (((List (List UInt8)) × Unit) × (Unit × Unit × Unit)) := fun x => match x with
 | (names, list, ()) =>
  iter (impl_named.l0 k) k (names, [], list, (list.length : Int), 0, ())
noncomputable def impl_named.sg (k : Nat) : Sig := ⟨impl_named.A, impl_named.R, impl_named k⟩
noncomputable def impl_named.C (k : Nat) : Ctx := ⟨Tryz.prog, [(39, [impl_decimal.sg k])], k, []⟩
theorem impl_named.ev (k : Nat) (x : impl_named.A.T) : evFunc (impl_named.C k) impl_named.ann Tryz.f80 impl_named.A impl_named.R x = impl_named k x := by kernel_rfl
theorem impl_named.ok {L : List (Nat × Obj)} (hFmt : Lb.NeedFmt L) (k : Nat) : SigHolds Tryz.prog L 80 (impl_named.sg k) :=
  sig_of_ev (C := impl_named.C k) (holds_cons (allok_cons (impl_decimal.ok hFmt k) allok_nil) holds_nil) (by kernel_rfl) Tryz.func80 (by kernel_rfl) impl_named.ann impl_named.A impl_named.R (fun x y h => (impl_named.ev k x).trans h) (by kernel_rfl)

/-! (loop.example/g00719/impl.Decl).envText -/
def impl_Decl_envText.A : Sh := (.cons (.pur (.cons (.sl false .str) (.cons (.sl false .str) (.cons (.sl false (.cons .str (.cons (.int .i64) .nil))) .nil)))) (.cons (.pur (.cons .bool (.cons (.sl false (.cons (.int .i64) (.cons (.int .i64) .nil))) (.cons (.sl false (.cons (.int .i64) (.cons (.int .i64) .nil))) .nil)))) .nil))
def impl_Decl_envText.R : Sh := (.cons (.pur .str) .nil)
def impl_Decl_envText.ann : Ann := { loops := [], joins := [], keys := [(4, [([2], false), ([2], false), ([3], false), ([3], false), ([16], true), ([], false), ([2], false), ([2], false), ([], false), ([2], false), ([2], false), ([], false), ([], false), ([11], false), ([3], false), ([3], false), ([11, 28], true), ([16, 28, 29], true), ([], false)])] }
noncomputable def impl_Decl_envText (k : Nat) : (((List (List UInt8)) × (List (List UInt8)) × (List ((List UInt8) × Int × Unit)) × Unit) × (Bool × (List (Int × Int × Unit)) × (List (Int × Int × Unit)) × Unit) × Unit) → Option (((List UInt8) × Unit) × (Unit × Unit × Unit)) := fun x => match x with
 | (d_, e_, ()) =>
  br k (!e_.1)
  (some (([110, 111, 110, 101], ()), ((), (), ())))
  (bd k (impl_Decl_names k (d_, ())) fun y1 =>
  bd k (impl_named k (d_.1, e_.2.1, ())) fun y2 =>
  br k (decide (0 ≤ (IntKind.wrap .i64 ((d_.1.length : Int) + (d_.2.1.length : Int))) ∧ (IntKind.wrap .i64 ((d_.1.length : Int) + (d_.2.1.length : Int))) ≤ (y1.1.1.length : Int)))
  (bd k (impl_named k (subL y1.1.1 ((IntKind.wrap .i64 ((d_.1.length : Int) + (d_.2.1.length : Int))).toNat) ((y1.1.1.length : Int).toNat - (IntKind.wrap .i64 ((d_.1.length : Int) + (d_.2.1.length : Int))).toNat), e_.2.2.1, ())) fun y3 =>
  br k (decide ((y2.1.1.length + y3.1.1.length) * 16 ≤ maxBytes))
  (br k (((y2.1.1 ++ y3.1.1).length : Int) == 0)
  (some (([97, 108, 108], ()), ((), (), ())))
  (bd k (Lb.Join k (y2.1.1 ++ y3.1.1, [32], ())) fun y4 =>
  some ((y4.1.1, ()), ((), (), ()))))
  none)
  none)
noncomputable def impl_Decl_envText.sg (k : Nat) : Sig := ⟨impl_Decl_envText.A, impl_Decl_envText.R, impl_Decl_envText k⟩
noncomputable def impl_Decl_envText.C (k : Nat) : Ctx := ⟨Tryz.prog, [(79, [impl_Decl_names.sg k]), (80, [impl_named.sg k]), (41, [Lb.Join.sg k])], k, []⟩
theorem impl_Decl_envText.ev (k : Nat) (x : impl_Decl_envText.A.T) : evFunc (impl_Decl_envText.C k) impl_Decl_envText.ann Tryz.f36 impl_Decl_envText.A impl_Decl_envText.R x = impl_Decl_envText k x := by kernel_rfl
theorem impl_Decl_envText.ok {L : List (Nat × Obj)} (hFmt : Lb.NeedFmt L) (k : Nat) : SigHolds Tryz.prog L 36 (impl_Decl_envText.sg k) :=
  sig_of_ev (C := impl_Decl_envText.C k) (holds_cons (allok_cons (impl_Decl_names.ok k) allok_nil) (holds_cons (allok_cons (impl_named.ok hFmt k) allok_nil) (holds_cons (allok_cons (Lb.Join.ok k) allok_nil) holds_nil))) (by kernel_rfl) Tryz.func36 (by kernel_rfl) impl_Decl_envText.ann impl_Decl_envText.A impl_Decl_envText.R (fun x y h => (impl_Decl_envText.ev k x).trans h) (by kernel_rfl)

/-! loop.example/g00719/impl.EnvText -/
def impl_EnvText.A : Sh := (.cons (.pur (.cons (.sl false .str) (.cons (.sl false .str) (.cons (.sl false (.cons .str (.cons (.int .i64) .nil))) .nil)))) (.cons (.pur (.cons .bool (.cons (.sl false (.cons (.int .i64) (.cons (.int .i64) .nil))) (.cons (.sl false (.cons (.int .i64) (.cons (.int .i64) .nil))) .nil)))) .nil))
def impl_EnvText.R : Sh := (.cons (.pur .str) .nil)
def impl_EnvText.ann : Ann := { loops := [], joins := [], keys := [] }
noncomputable def impl_EnvText (k : Nat) : (((List (List UInt8)) × (List (List UInt8)) × (List ((List UInt8) × Int × Unit)) × Unit) × (Bool × (List (Int × Int × Unit)) × (List (Int × Int × Unit)) × Unit) × Unit) → Option (((List UInt8) × Unit) × (Unit × Unit × Unit)) := fun x => match x with
 | (d_, e_, ()) =>
  bd k (impl_EnvOk k (d_, e_, ())) fun y1 =>
  br k (!y1.1.1)
  (some (([], ()), ((), (), ())))
  (bd k (impl_Decl_envText k (d_, e_, ())) fun y2 =>
  some ((y2.1.1, ()), ((), (), ())))
noncomputable def impl_EnvText.sg (k : Nat) : Sig := ⟨impl_EnvText.A, impl_EnvText.R, impl_EnvText k⟩
noncomputable def impl_EnvText.C (k : Nat) : Ctx := ⟨Tryz.prog, [(35, [impl_EnvOk.sg k]), (36, [impl_Decl_envText.sg k])], k, []⟩
theorem impl_EnvText.ev (k : Nat) (x : impl_EnvText.A.T) : evFunc (impl_EnvText.C k) impl_EnvText.ann Tryz.f9 impl_EnvText.A impl_EnvText.R x = impl_EnvText k x := by kernel_rfl
theorem impl_EnvText.ok {L : List (Nat × Obj)} (hFmt : Lb.NeedFmt L) (hSp : Lb.NeedSp L) (k : Nat) : SigHolds Tryz.prog L 9 (impl_EnvText.sg k) :=
  sig_of_ev (C := impl_EnvText.C k) (holds_cons (allok_cons (impl_EnvOk.ok hSp k) allok_nil) (holds_cons (allok_cons (impl_Decl_envText.ok hFmt k) allok_nil) holds_nil)) (by kernel_rfl) Tryz.func9 (by kernel_rfl) impl_EnvText.ann impl_EnvText.A impl_EnvText.R (fun x y h => (impl_EnvText.ev k x).trans h) (by kernel_rfl)

/-! loop.example/g00719/spec.IvOk -/
def spec_IvOk.A : Sh := (.cons (.pur (.cons (.int .i64) (.cons (.int .i64) .nil))) .nil)
def spec_IvOk.R : Sh := (.cons (.pur .bool) .nil)
def spec_IvOk.ann : Ann := { loops := [], joins := [], keys := [] }
noncomputable def spec_IvOk (k : Nat) : ((Int × Int × Unit) × Unit) → Option ((Bool × Unit) × (Unit × Unit)) := fun x => match x with
 | (a, ()) =>
  some ((decide (a.1 ≤ a.2.1), ()), ((), ()))
noncomputable def spec_IvOk.sg (k : Nat) : Sig := ⟨spec_IvOk.A, spec_IvOk.R, spec_IvOk k⟩
noncomputable def spec_IvOk.C (k : Nat) : Ctx := ⟨Tryz.prog, [], k, []⟩
theorem spec_IvOk.ev (k : Nat) (x : spec_IvOk.A.T) : evFunc (spec_IvOk.C k) spec_IvOk.ann Tryz.f47 spec_IvOk.A spec_IvOk.R x = spec_IvOk k x := by kernel_rfl
theorem spec_IvOk.ok {L : List (Nat × Obj)}  (k : Nat) : SigHolds Tryz.prog L 47 (spec_IvOk.sg k) :=
  sig_of_ev (C := spec_IvOk.C k) holds_nil (by kernel_rfl) Tryz.func47 (by kernel_rfl) spec_IvOk.ann spec_IvOk.A spec_IvOk.R (fun x y h => (spec_IvOk.ev k x).trans h) (by kernel_rfl)

/-! loop.example/g00719/spec.EnvOk -/
def spec_EnvOk.A : Sh := (.cons (.pur (.cons (.sl false .str) (.cons (.sl false .str) (.cons (.sl false (.cons .str (.cons (.int .i64) .nil))) .nil)))) (.cons (.pur (.cons .bool (.cons (.sl false (.cons (.int .i64) (.cons (.int .i64) .nil))) (.cons (.sl false (.cons (.int .i64) (.cons (.int .i64) .nil))) .nil)))) .nil))
def spec_EnvOk.R : Sh := (.cons (.pur .bool) .nil)
def spec_EnvOk.ann : Ann := { loops := [(0, [(5, (.own (.cons (.int .i64) (.cons (.int .i64) .nil)))), (6, (.pur (.int .i64)))])], joins := [(4, [(4, .bool)]), (5, [(38, .bool)])], keys := [] }
noncomputable def spec_EnvOk.l0 (k : Nat)  (G0 : ((List (Int × Int × Unit)) × Int × Unit) → Option ((Bool × Unit) × (Unit × Unit × Unit))) : ((List (Int × Int × Unit)) × Int × Unit) → Option ((Bool × Unit) × (Unit × Unit × Unit)) := fun x => match x with
 | (l_, i, ()) =>
  br k (decide (i < (l_.length : Int)))
  (br k (decide (0 ≤ i ∧ i < (l_.length : Int)))
  (bd k (l_[i.toNat]?) fun x5 =>
  bd k (spec_IvOk k (x5, ())) fun y6 =>
  br k (!y6.1.1)
  (some ((false, ()), ((), (), ())))
  (G0 (l_, IntKind.wrap .i64 (i + 1), ())))
  none)
  (some ((true, ()), ((), (), ())))
noncomputable def spec_EnvOk (k : Nat) : (((List (List UInt8)) × (List (List UInt8)) × (List ((List UInt8) × Int × Unit)) × Unit) × (Bool × (List (Int × Int × Unit)) × (List (Int × Int × Unit)) × Unit) × Unit) → Option ((Bool × Unit) × (Unit × Unit × Unit)) := fun x => match x with
 | (d_, e_, ()) =>
  bd k (spec_DeclOk k (d_, ())) fun y1 =>
  br k (!y1.1.1)
  (some ((false, ()), ((), (), ())))
  (br k (!e_.1)
  ((br k ((e_.2.1.length : Int) == 0)
  (some ((e_.2.2.1.length : Int) == 0, ()))
  (some (false, ())) : Option (Bool × Unit)).bind fun j2 =>
  some ((j2.1, ()), ((), (), ())))
  ((br k ((e_.2.1.length : Int) != (d_.1.length : Int))
  (some (true, ()))
  (some ((e_.2.2.1.length : Int) != (d_.2.2.1.length : Int), ())) : Option (Bool × Unit)).bind fun j3 =>
  br k (j3.1)
  (some ((false, ()), ((), (), ())))
  (bd k (spec_l6List k (e_, ())) fun y4 =>
  iter (spec_EnvOk.l0 k) k (y4.1.1, 0, ()))))
noncomputable def spec_EnvOk.sg (k : Nat) : Sig := ⟨spec_EnvOk.A, spec_EnvOk.R, spec_EnvOk k⟩
noncomputable def spec_EnvOk.C (k : Nat) : Ctx := ⟨Tryz.prog, [(45, [spec_DeclOk.sg k]), (46, [spec_l6List.sg k]), (47, [spec_IvOk.sg k])], k, []⟩
theorem spec_EnvOk.ev (k : Nat) (x : spec_EnvOk.A.T) : evFunc (spec_EnvOk.C k) spec_EnvOk.ann Tryz.f13 spec_EnvOk.A spec_EnvOk.R x = spec_EnvOk k x := by kernel_rfl
theorem spec_EnvOk.ok {L : List (Nat × Obj)}  (k : Nat) : SigHolds Tryz.prog L 13 (spec_EnvOk.sg k) :=
  sig_of_ev (C := spec_EnvOk.C k) (holds_cons (allok_cons (spec_DeclOk.ok k) allok_nil) (holds_cons (allok_cons (spec_l6List.ok k) allok_nil) (holds_cons (allok_cons (spec_IvOk.ok k) allok_nil) holds_nil))) (by kernel_rfl) Tryz.func13 (by kernel_rfl) spec_EnvOk.ann spec_EnvOk.A spec_EnvOk.R (fun x y h => (spec_EnvOk.ev k x).trans h) (by kernel_rfl)

/-! loop.example/g00719/spec.l1Dec -/
def spec_l1Dec.A : Sh := (.cons (.pur (.int .i64)) .nil)
def spec_l1Dec.R : Sh := (.cons (.pur .str) .nil)
def spec_l1Dec.ann : Ann := { loops := [(0, [(0, (.pur (.int .i64))), (3, (.pur (.int .u64))), (4, (.pur .str))])], joins := [], keys := [] }
noncomputable def spec_l1Dec.l0 (k : Nat)  (G0 : (Int × Int × (List UInt8) × Unit) → Option (((List UInt8) × Unit) × (Unit × Unit))) : (Int × Int × (List UInt8) × Unit) → Option (((List UInt8) × Unit) × (Unit × Unit)) := fun x => match x with
 | (n, m_, s_, ()) =>
  br k (decide (m_ ≥ 10))
  (br k (!decide ((10 : Int) = 0))
  (br k (decide ((((([IntKind.wrap .u8 (IntKind.wrap .u64 (48 + (m_.tmod 10)))] : List Int).map (fun n : Int => UInt8.ofNat n.toNat)).length + s_.length : Nat) : Int) ≤ maxInt64))
  (br k (!decide ((10 : Int) = 0))
  (G0 (n, IntKind.wrap .u64 (m_.tdiv 10), (([IntKind.wrap .u8 (IntKind.wrap .u64 (48 + (m_.tmod 10)))] : List Int).map (fun n : Int => UInt8.ofNat n.toNat)) ++ s_, ()))
  none)
  none)
  none)
  (br k (decide ((((([IntKind.wrap .u8 (IntKind.wrap .u64 (48 + m_))] : List Int).map (fun n : Int => UInt8.ofNat n.toNat)).length + s_.length : Nat) : Int) ≤ maxInt64))
  (br k (decide (n < 0))
  (br k (decide (((([45] : List UInt8).length + ((([IntKind.wrap .u8 (IntKind.wrap .u64 (48 + m_))] : List Int).map (fun n : Int => UInt8.ofNat n.toNat)) ++ s_).length : Nat) : Int) ≤ maxInt64))
  (some ((([45] : List UInt8) ++ ((([IntKind.wrap .u8 (IntKind.wrap .u64 (48 + m_))] : List Int).map (fun n : Int => UInt8.ofNat n.toNat)) ++ s_), ()), ((), ())))
  none)
  (some (((([IntKind.wrap .u8 (IntKind.wrap .u64 (48 + m_))] : List Int).map (fun n : Int => UInt8.ofNat n.toNat)) ++ s_, ()), ((), ()))))
  none)
noncomputable def spec_l1Dec (k : Nat) : (Int × Unit) → Option (((List UInt8) × Unit) × (Unit × Unit)) := fun x => match x with
 | (n, ()) =>
  br k (decide (n < 0))
  (iter (spec_l1Dec.l0 k) k (n, IntKind.wrap .u64 (0 - (IntKind.wrap .u64 n)), [], ()))
  (iter (spec_l1Dec.l0 k) k (n, IntKind.wrap .u64 n, [], ()))
noncomputable def spec_l1Dec.sg (k : Nat) : Sig := ⟨spec_l1Dec.A, spec_l1Dec.R, spec_l1Dec k⟩
noncomputable def spec_l1Dec.C (k : Nat) : Ctx := ⟨Tryz.prog, [], k, []⟩
theorem spec_l1Dec.ev (k : Nat) (x : spec_l1Dec.A.T) : evFunc (spec_l1Dec.C k) spec_l1Dec.ann Tryz.f43 spec_l1Dec.A spec_l1Dec.R x = spec_l1Dec k x := by kernel_rfl
theorem spec_l1Dec.ok {L : List (Nat × Obj)}  (k : Nat) : SigHolds Tryz.prog L 43 (spec_l1Dec.sg k) :=
  sig_of_ev (C := spec_l1Dec.C k) holds_nil (by kernel_rfl) Tryz.func43 (by kernel_rfl) spec_l1Dec.ann spec_l1Dec.A spec_l1Dec.R (fun x y h => (spec_l1Dec.ev k x).trans h) (by kernel_rfl)

/-! loop.example/g00719/spec.l13Iv -/
def spec_l13Iv.A : Sh := (.cons (.pur (.cons (.int .i64) (.cons (.int .i64) .nil))) .nil)
def spec_l13Iv.R : Sh := (.cons (.pur .str) .nil)
def spec_l13Iv.ann : Ann := { loops := [], joins := [], keys := [] }
noncomputable def spec_l13Iv (k : Nat) : ((Int × Int × Unit) × Unit) → Option (((List UInt8) × Unit) × (Unit × Unit)) := fun x => match x with
 | (a, ()) =>
  bd k (spec_l1Dec k (a.1, ())) fun y1 =>
  br k (decide (((y1.1.1.length + ([46, 46] : List UInt8).length : Nat) : Int) ≤ maxInt64))
  (bd k (spec_l1Dec k (a.2.1, ())) fun y2 =>
  br k (decide ((((y1.1.1 ++ [46, 46]).length + y2.1.1.length : Nat) : Int) ≤ maxInt64))
  (some (((y1.1.1 ++ [46, 46]) ++ y2.1.1, ()), ((), ())))
  none)
  none
noncomputable def spec_l13Iv.sg (k : Nat) : Sig := ⟨spec_l13Iv.A, spec_l13Iv.R, spec_l13Iv k⟩
noncomputable def spec_l13Iv.C (k : Nat) : Ctx := ⟨Tryz.prog, [(43, [spec_l1Dec.sg k])], k, []⟩
theorem spec_l13Iv.ev (k : Nat) (x : spec_l13Iv.A.T) : evFunc (spec_l13Iv.C k) spec_l13Iv.ann Tryz.f81 spec_l13Iv.A spec_l13Iv.R x = spec_l13Iv k x := by kernel_rfl
theorem spec_l13Iv.ok {L : List (Nat × Obj)}  (k : Nat) : SigHolds Tryz.prog L 81 (spec_l13Iv.sg k) :=
  sig_of_ev (C := spec_l13Iv.C k) (holds_cons (allok_cons (spec_l1Dec.ok k) allok_nil) holds_nil) (by kernel_rfl) Tryz.func81 (by kernel_rfl) spec_l13Iv.ann spec_l13Iv.A spec_l13Iv.R (fun x y h => (spec_l13Iv.ev k x).trans h) (by kernel_rfl)

/-! loop.example/g00719/spec.l13Joined -/
def spec_l13Joined.A : Sh := (.cons (.pur (.sl false .str)) (.cons (.pur .str) .nil))
def spec_l13Joined.R : Sh := (.cons (.pur .str) .nil)
def spec_l13Joined.ann : Ann := { loops := [(0, [(0, (.pur (.sl false .str))), (1, (.pur .str)), (5, (.pur .str)), (6, (.pur (.int .i64)))])], joins := [], keys := [] }
noncomputable def spec_l13Joined.l0 (k : Nat)  (G0 : ((List (List UInt8)) × (List UInt8) × (List UInt8) × Int × Unit) → Option (((List UInt8) × Unit) × (Unit × Unit × Unit))) : ((List (List UInt8)) × (List UInt8) × (List UInt8) × Int × Unit) → Option (((List UInt8) × Unit) × (Unit × Unit × Unit)) := fun x => match x with
 | (l_, between, s_, i, ()) =>
  br k (decide (i < (l_.length : Int)))
  (br k (decide (i > 0))
  (br k (decide (((s_.length + between.length : Nat) : Int) ≤ maxInt64))
  (br k (decide (0 ≤ i))
  (bd k (l_[i.toNat]?) fun x1 =>
  br k (decide ((((s_ ++ between).length + x1.length : Nat) : Int) ≤ maxInt64))
  (G0 (l_, between, (s_ ++ between) ++ x1, IntKind.wrap .i64 (i + 1), ()))
  none)
  none)
  none)
  (br k (decide (0 ≤ i))
  (bd k (l_[i.toNat]?) fun x2 =>
  br k (decide (((s_.length + x2.length : Nat) : Int) ≤ maxInt64))
  (G0 (l_, between, s_ ++ x2, IntKind.wrap .i64 (i + 1), ()))
  none)
  none))
  (some ((s_, ()), ((), (), ())))
noncomputable def spec_l13Joined (k : Nat) : ((List (List UInt8)) × (List UInt8) × Unit) → Option (((List UInt8) × Unit) × (Unit × Unit × Unit)) := fun x => match x with
 | (l_, between, ()) =>
  iter (spec_l13Joined.l0 k) k (l_, between, [], 0, ())
noncomputable def spec_l13Joined.sg (k : Nat) : Sig := ⟨spec_l13Joined.A, spec_l13Joined.R, spec_l13Joined k⟩
noncomputable def spec_l13Joined.C (k : Nat) : Ctx := ⟨Tryz.prog, [], k, []⟩
theorem spec_l13Joined.ev (k : Nat) (x : spec_l13Joined.A.T) : evFunc (spec_l13Joined.C k) spec_l13Joined.ann Tryz.f44 spec_l13Joined.A spec_l13Joined.R x = spec_l13Joined k x := by kernel_rfl
theorem spec_l13Joined.ok {L : List (Nat × Obj)}  (k : Nat) : SigHolds Tryz.prog L 44 (spec_l13Joined.sg k) :=
  sig_of_ev (C := spec_l13Joined.C k) holds_nil (by kernel_rfl) Tryz.func44 (by kernel_rfl) spec_l13Joined.ann spec_l13Joined.A spec_l13Joined.R (fun x y h => (spec_l13Joined.ev k x).trans h) (by kernel_rfl)

/-! loop.example/g00719/spec.l13Env -/
def spec_l13Env.A : Sh := (.cons (.pur (.cons (.sl false .str) (.cons (.sl false .str) (.cons (.sl false (.cons .str (.cons (.int .i64) .nil))) .nil)))) (.cons (.pur (.cons .bool (.cons (.sl false (.cons (.int .i64) (.cons (.int .i64) .nil))) (.cons (.sl false (.cons (.int .i64) (.cons (.int .i64) .nil))) .nil)))) .nil))
def spec_l13Env.R : Sh := (.cons (.pur .str) .nil)
def spec_l13Env.ann : Ann := { loops := [(0, [(2, (.box (.cons (.pur (.sl false .str)) (.cons (.pur (.sl false .str)) (.cons (.pur (.sl false (.cons .str (.cons (.int .i64) .nil)))) .nil))))), (3, (.box (.cons (.pur .bool) (.cons (.pur (.sl false (.cons (.int .i64) (.cons (.int .i64) .nil)))) (.cons (.pur (.sl false (.cons (.int .i64) (.cons (.int .i64) .nil)))) .nil))))), (5, (.own .str)), (6, (.pur (.int .i64)))]), (2, [(2, (.box (.cons (.pur (.sl false .str)) (.cons (.pur (.sl false .str)) (.cons (.pur (.sl false (.cons .str (.cons (.int .i64) .nil)))) .nil))))), (3, (.box (.cons (.pur .bool) (.cons (.pur (.sl false (.cons (.int .i64) (.cons (.int .i64) .nil)))) (.cons (.pur (.sl false (.cons (.int .i64) (.cons (.int .i64) .nil)))) .nil))))), (5, (.own .str)), (7, (.pur (.int .i64)))])], joins := [], keys := [(7, [([], false), ([2], false), ([2], false), ([], false), ([], false), ([], false), ([], false), ([3], false), ([3], false), ([], false), ([], false), ([], false), ([], false), ([], false), ([33], true), ([5, 33, 34], true), ([], false)]), (11, [([], false), ([2], false), ([2], false), ([], false), ([], false), ([], false), ([], false), ([], false), ([3], false), ([3], false), ([], false), ([], false), ([], false), ([], false), ([], false), ([57], true), ([5, 57, 58], true), ([], false)])] }
noncomputable def spec_l13Env.l2 (k : Nat)  (G2 : (((List (List UInt8)) × (List (List UInt8)) × (List ((List UInt8) × Int × Unit)) × Unit) × (Bool × (List (Int × Int × Unit)) × (List (Int × Int × Unit)) × Unit) × (List (List UInt8)) × Int × Unit) → Option (((List UInt8) × Unit) × (Unit × Unit × Unit))) : (((List (List UInt8)) × (List (List UInt8)) × (List ((List UInt8) × Int × Unit)) × Unit) × (Bool × (List (Int × Int × Unit)) × (List (Int × Int × Unit)) × Unit) × (List (List UInt8)) × Int × Unit) → Option (((List UInt8) × Unit) × (Unit × Unit × Unit)) := fun x => match x with
 | ((d__0, d__1, d__2, ()), (e__0, e__1, e__2, ()), l_, i, ()) =>
  br k (decide (i < (e__2.length : Int)))
  (br k (decide (0 ≤ i))
  (bd k (d__2[i.toNat]?) fun x4 =>
  br k (decide (((x4.1.length + ([32] : List UInt8).length : Nat) : Int) ≤ maxInt64))
  (br k (decide (0 ≤ i))
  (bd k (e__2[i.toNat]?) fun x5 =>
  bd k (spec_l13Iv k (x5, ())) fun y6 =>
  br k (decide ((((x4.1 ++ [32]).length + y6.1.1.length : Nat) : Int) ≤ maxInt64))
  (br k (decide ((l_.length + ([(x4.1 ++ [32]) ++ y6.1.1] : List (List UInt8)).length) * 16 ≤ maxBytes))
  (G2 ((d__0, d__1, d__2, ()), (e__0, e__1, e__2, ()), l_ ++ ([(x4.1 ++ [32]) ++ y6.1.1] : List (List UInt8)), IntKind.wrap .i64 (i + 1), ()))
  none)
  none)
  none)
  none)
  none)
  (br k ((l_.length : Int) == 0)
  (some (([97, 108, 108], ()), ((), (), ())))
  (bd k (spec_l13Joined k (l_, [32], ())) fun y7 =>
  some ((y7.1.1, ()), ((), (), ()))))
noncomputable def spec_l13Env.l0 (k : Nat)  (G0 : (((List (List UInt8)) × (List (List UInt8)) × (List ((List UInt8) × Int × Unit)) × Unit) × (Bool × (List (Int × Int × Unit)) × (List (Int × Int × Unit)) × Unit) × (List (List UInt8)) × Int × Unit) → Option (((List UInt8) × Unit) × (Unit × Unit × Unit))) : (((List (List UInt8)) × (List (List UInt8)) × (List ((List UInt8) × Int × Unit)) × Unit) × (Bool × (List (Int × Int × Unit)) × (List (Int × Int × Unit)) × Unit) × (List (List UInt8)) × Int × Unit) → Option (((List UInt8) × Unit) × (Unit × Unit × Unit)) := fun x => match x with
 | ((d__0, d__1, d__2, ()), (e__0, e__1, e__2, ()), l_, i, ()) =>
  br k (decide (i < (e__1.length : Int)))
  (br k (decide (0 ≤ i))
  (bd k (d__0[i.toNat]?) fun x1 =>
  br k (decide (((x1.length + ([32] : List UInt8).length : Nat) : Int) ≤ maxInt64))
  (br k (decide (0 ≤ i))
  (bd k (e__1[i.toNat]?) fun x2 =>
  bd k (spec_l13Iv k (x2, ())) fun y3 =>
  br k (decide ((((x1 ++ [32]).length + y3.1.1.length : Nat) : Int) ≤ maxInt64))
  (br k (decide ((l_.length + ([(x1 ++ [32]) ++ y3.1.1] : List (List UInt8)).length) * 16 ≤ maxBytes))
  (G0 ((d__0, d__1, d__2, ()), (e__0, e__1, e__2, ()), l_ ++ ([(x1 ++ [32]) ++ y3.1.1] : List (List UInt8)), IntKind.wrap .i64 (i + 1), ()))
  none)
  none)
  none)
  none)
  none)
  (iter (spec_l13Env.l2 k) k ((d__0, d__1, d__2, ()), (e__0, e__1, e__2, ()), l_, 0, ()))
noncomputable def spec_l13Env (k : Nat) : (((List (List UInt8)) × (List (List UInt8)) × (List ((List UInt8) × Int × Unit)) × Unit) × (Bool × (List (Int × Int × Unit)) × (List (Int × Int × Unit)) × Unit) × Unit) → Option (((List UInt8) × Unit) × (Unit × Unit × Unit)) := fun x => match x with
 | (d_, e_, ()) =>
  br k (!e_.1)
  (some (([110, 111, 110, 101], ()), ((), (), ())))
  (iter (spec_l13Env.l0 k) k ((d_.1, d_.2.1, d_.2.2.1, ()), (e_.1, e_.2.1, e_.2.2.1, ()), ([] : List (List UInt8)), 0, ()))
noncomputable def spec_l13Env.sg (k : Nat) : Sig := ⟨spec_l13Env.A, spec_l13Env.R, spec_l13Env k⟩
noncomputable def spec_l13Env.C (k : Nat) : Ctx := ⟨Tryz.prog, [(81, [spec_l13Iv.sg k]), (44, [spec_l13Joined.sg k])], k, []⟩
theorem spec_l13Env.ev (k : Nat) (x : spec_l13Env.A.T) : evFunc (spec_l13Env.C k) spec_l13Env.ann Tryz.f37 spec_l13Env.A spec_l13Env.R x = spec_l13Env k x := by kernel_rfl
theorem spec_l13Env.ok {L : List (Nat × Obj)}  (k : Nat) : SigHolds Tryz.prog L 37 (spec_l13Env.sg k) :=
  sig_of_ev (C := spec_l13Env.C k) (holds_cons (allok_cons (spec_l13Iv.ok k) allok_nil) (holds_cons (allok_cons (spec_l13Joined.ok k) allok_nil) holds_nil)) (by kernel_rfl) Tryz.func37 (by kernel_rfl) spec_l13Env.ann spec_l13Env.A spec_l13Env.R (fun x y h => (spec_l13Env.ev k x).trans h) (by kernel_rfl)

/-! loop.example/g00719/spec.EnvText -/
def spec_EnvText.A : Sh := (.cons (.pur (.cons (.sl false .str) (.cons (.sl false .str) (.cons (.sl false (.cons .str (.cons (.int .i64) .nil))) .nil)))) (.cons (.pur (.cons .bool (.cons (.sl false (.cons (.int .i64) (.cons (.int .i64) .nil))) (.cons (.sl false (.cons (.int .i64) (.cons (.int .i64) .nil))) .nil)))) .nil))
def spec_EnvText.R : Sh := (.cons (.pur .str) .nil)
def spec_EnvText.ann : Ann := { loops := [], joins := [], keys := [] }
noncomputable def spec_EnvText (k : Nat) : (((List (List UInt8)) × (List (List UInt8)) × (List ((List UInt8) × Int × Unit)) × Unit) × (Bool × (List (Int × Int × Unit)) × (List (Int × Int × Unit)) × Unit) × Unit) → Option (((List UInt8) × Unit) × (Unit × Unit × Unit)) := fun x => match x with
 | (d_, e_, ()) =>
  bd k (spec_EnvOk k (d_, e_, ())) fun y1 =>
  br k (!y1.1.1)
  (some (([], ()), ((), (), ())))
  (bd k (spec_l13Env k (d_, e_, ())) fun y2 =>
  some ((y2.1.1, ()), ((), (), ())))
noncomputable def spec_EnvText.sg (k : Nat) : Sig := ⟨spec_EnvText.A, spec_EnvText.R, spec_EnvText k⟩
noncomputable def spec_EnvText.C (k : Nat) : Ctx := ⟨Tryz.prog, [(13, [spec_EnvOk.sg k]), (37, [spec_l13Env.sg k])], k, []⟩
theorem spec_EnvText.ev (k : Nat) (x : spec_EnvText.A.T) : evFunc (spec_EnvText.C k) spec_EnvText.ann Tryz.f10 spec_EnvText.A spec_EnvText.R x = spec_EnvText k x := by kernel_rfl
theorem spec_EnvText.ok {L : List (Nat × Obj)}  (k : Nat) : SigHolds Tryz.prog L 10 (spec_EnvText.sg k) :=
  sig_of_ev (C := spec_EnvText.C k) (holds_cons (allok_cons (spec_EnvOk.ok k) allok_nil) (holds_cons (allok_cons (spec_l13Env.ok k) allok_nil) holds_nil)) (by kernel_rfl) Tryz.func10 (by kernel_rfl) spec_EnvText.ann spec_EnvText.A spec_EnvText.R (fun x y h => (spec_EnvText.ev k x).trans h) (by kernel_rfl)

/-! loop.example/g00719/impl.size[int64] -/
def impl_size_int64.A : Sh := (.cons (.pur (.sl false (.int .i64))) .nil)
def impl_size_int64.R : Sh := (.cons (.pur (.int .i64)) .nil)
def impl_size_int64.ann : Ann := { loops := [], joins := [], keys := [] }
noncomputable def impl_size_int64 (k : Nat) : ((List Int) × Unit) → Option ((Int × Unit) × (Unit × Unit)) := fun x => match x with
 | (list, ()) =>
  some (((list.length : Int), ()), ((), ()))
noncomputable def impl_size_int64.sg (k : Nat) : Sig := ⟨impl_size_int64.A, impl_size_int64.R, impl_size_int64 k⟩
noncomputable def impl_size_int64.C (k : Nat) : Ctx := ⟨Tryz.prog, [], k, []⟩
theorem impl_size_int64.ev (k : Nat) (x : impl_size_int64.A.T) : evFunc (impl_size_int64.C k) impl_size_int64.ann Tryz.f119 impl_size_int64.A impl_size_int64.R x = impl_size_int64 k x := by kernel_rfl
theorem impl_size_int64.ok {L : List (Nat × Obj)}  (k : Nat) : SigHolds Tryz.prog L 119 (impl_size_int64.sg k) :=
  sig_of_ev (C := impl_size_int64.C k) holds_nil (by kernel_rfl) Tryz.func119 (by kernel_rfl) impl_size_int64.ann impl_size_int64.A impl_size_int64.R (fun x y h => (impl_size_int64.ev k x).trans h) (by kernel_rfl)

/-! (loop.example/g00719/impl.Decl).isStore -/
def impl_Decl_isStore.A : Sh := (.cons (.pur (.cons (.sl false .str) (.cons (.sl false .str) (.cons (.sl false (.cons .str (.cons (.int .i64) .nil))) .nil)))) (.cons (.pur (.cons (.sl false (.int .i64)) (.cons (.sl false .bool) (.cons (.sl false (.sl false (.int .i64))) .nil)))) .nil))
def impl_Decl_isStore.R : Sh := (.cons (.pur .bool) .nil)
def impl_Decl_isStore.ann : Ann := { loops := [(0, [(3, (.box (.cons (.pur (.sl false (.int .i64))) (.cons (.pur (.sl false .bool)) (.cons (.pur (.sl false (.sl false (.int .i64)))) .nil))))), (33, (.pur (.sl false (.cons .str (.cons (.int .i64) .nil))))), (34, (.pur (.int .i64))), (35, (.pur (.int .i64)))])], joins := [(1, [(31, .bool)])], keys := [] }
noncomputable def impl_Decl_isStore.l0 (k : Nat)  (G0 : (((List Int) × (List Bool) × (List (List Int)) × Unit) × (List ((List UInt8) × Int × Unit)) × Int × Int × Unit) → Option ((Bool × Unit) × (Unit × Unit × Unit))) : (((List Int) × (List Bool) × (List (List Int)) × Unit) × (List ((List UInt8) × Int × Unit)) × Int × Int × Unit) → Option ((Bool × Unit) × (Unit × Unit × Unit)) := fun x => match x with
 | ((s__0, s__1, s__2, ()), t33, t34, t35, ()) =>
  br k (decide (t35 < t34))
  (br k (decide (0 ≤ t35))
  (bd k (t33[t35.toNat]?) fun x2 =>
  br k (decide (0 ≤ t35))
  (bd k (s__2[t35.toNat]?) fun x3 =>
  bd k (impl_size_int64 k (x3, ())) fun y4 =>
  br k (y4.1.1 != x2.2.1)
  (some ((false, ()), ((), (), ())))
  (G0 ((s__0, s__1, s__2, ()), t33, t34, IntKind.wrap .i64 (t35 + 1), ())))
  none)
  none)
  (some ((true, ()), ((), (), ())))
noncomputable def impl_Decl_isStore (k : Nat) : (((List (List UInt8)) × (List (List UInt8)) × (List ((List UInt8) × Int × Unit)) × Unit) × ((List Int) × (List Bool) × (List (List Int)) × Unit) × Unit) → Option ((Bool × Unit) × (Unit × Unit × Unit)) := fun x => match x with
 | (d_, s_, ()) =>
  (br k ((s_.1.length : Int) != (d_.1.length : Int))
  (some (true, ()))
  (br k ((s_.2.1.length : Int) != (d_.2.1.length : Int))
  (some (true, ()))
  (some ((s_.2.2.1.length : Int) != (d_.2.2.1.length : Int), ()))) : Option (Bool × Unit)).bind fun j1 =>
  br k (j1.1)
  (some ((false, ()), ((), (), ())))
  (iter (impl_Decl_isStore.l0 k) k ((s_.1, s_.2.1, s_.2.2.1, ()), d_.2.2.1, (d_.2.2.1.length : Int), 0, ()))
noncomputable def impl_Decl_isStore.sg (k : Nat) : Sig := ⟨impl_Decl_isStore.A, impl_Decl_isStore.R, impl_Decl_isStore k⟩
noncomputable def impl_Decl_isStore.C (k : Nat) : Ctx := ⟨Tryz.prog, [(119, [impl_size_int64.sg k])], k, []⟩
theorem impl_Decl_isStore.ev (k : Nat) (x : impl_Decl_isStore.A.T) : evFunc (impl_Decl_isStore.C k) impl_Decl_isStore.ann Tryz.f82 impl_Decl_isStore.A impl_Decl_isStore.R x = impl_Decl_isStore k x := by kernel_rfl
theorem impl_Decl_isStore.ok {L : List (Nat × Obj)}  (k : Nat) : SigHolds Tryz.prog L 82 (impl_Decl_isStore.sg k) :=
  sig_of_ev (C := impl_Decl_isStore.C k) (holds_cons (allok_cons (impl_size_int64.ok k) allok_nil) holds_nil) (by kernel_rfl) Tryz.func82 (by kernel_rfl) impl_Decl_isStore.ann impl_Decl_isStore.A impl_Decl_isStore.R (fun x y h => (impl_Decl_isStore.ev k x).trans h) (by kernel_rfl)

/-! loop.example/g00719/impl.StoreOk -/
def impl_StoreOk.A : Sh := (.cons (.pur (.cons (.sl false .str) (.cons (.sl false .str) (.cons (.sl false (.cons .str (.cons (.int .i64) .nil))) .nil)))) (.cons (.pur (.cons (.sl false (.int .i64)) (.cons (.sl false .bool) (.cons (.sl false (.sl false (.int .i64))) .nil)))) .nil))
def impl_StoreOk.R : Sh := (.cons (.pur .bool) .nil)
def impl_StoreOk.ann : Ann := { loops := [], joins := [(1, [(4, .bool)])], keys := [] }
noncomputable def impl_StoreOk (k : Nat) : (((List (List UInt8)) × (List (List UInt8)) × (List ((List UInt8) × Int × Unit)) × Unit) × ((List Int) × (List Bool) × (List (List Int)) × Unit) × Unit) → Option ((Bool × Unit) × (Unit × Unit × Unit)) := fun x => match x with
 | (d_, s_, ()) =>
  (bd k (impl_Decl_isRight k (d_, ())) fun y1 =>
  br k (y1.1.1)
  (bd k (impl_Decl_isStore k (d_, s_, ())) fun y2 =>
  some (y2.1.1, ()))
  (some (false, ())) : Option (Bool × Unit)).bind fun j3 =>
  some ((j3.1, ()), ((), (), ()))
noncomputable def impl_StoreOk.sg (k : Nat) : Sig := ⟨impl_StoreOk.A, impl_StoreOk.R, impl_StoreOk k⟩
noncomputable def impl_StoreOk.C (k : Nat) : Ctx := ⟨Tryz.prog, [(77, [impl_Decl_isRight.sg k]), (82, [impl_Decl_isStore.sg k])], k, []⟩
theorem impl_StoreOk.ev (k : Nat) (x : impl_StoreOk.A.T) : evFunc (impl_StoreOk.C k) impl_StoreOk.ann Tryz.f38 impl_StoreOk.A impl_StoreOk.R x = impl_StoreOk k x := by kernel_rfl
theorem impl_StoreOk.ok {L : List (Nat × Obj)} (hSp : Lb.NeedSp L) (k : Nat) : SigHolds Tryz.prog L 38 (impl_StoreOk.sg k) :=
  sig_of_ev (C := impl_StoreOk.C k) (holds_cons (allok_cons (impl_Decl_isRight.ok hSp k) allok_nil) (holds_cons (allok_cons (impl_Decl_isStore.ok k) allok_nil) holds_nil)) (by kernel_rfl) Tryz.func38 (by kernel_rfl) impl_StoreOk.ann impl_StoreOk.A impl_StoreOk.R (fun x y h => (impl_StoreOk.ev k x).trans h) (by kernel_rfl)

/-! internal/strconv.FormatBool -/
def strconv_FormatBool_x.A : Sh := (.cons (.pur .bool) .nil)
def strconv_FormatBool_x.R : Sh := (.cons (.pur .str) .nil)
def strconv_FormatBool_x.ann : Ann := { loops := [], joins := [], keys := [] }
noncomputable def strconv_FormatBool_x (k : Nat) : (Bool × Unit) → Option (((List UInt8) × Unit) × (Unit × Unit)) := fun x => match x with
 | (b_, ()) =>
  br k (b_)
  (some (([116, 114, 117, 101], ()), ((), ())))
  (some (([102, 97, 108, 115, 101], ()), ((), ())))
noncomputable def strconv_FormatBool_x.sg (k : Nat) : Sig := ⟨strconv_FormatBool_x.A, strconv_FormatBool_x.R, strconv_FormatBool_x k⟩
noncomputable def strconv_FormatBool_x.C (k : Nat) : Ctx := ⟨Tryz.prog, [], k, []⟩
theorem strconv_FormatBool_x.ev (k : Nat) (x : strconv_FormatBool_x.A.T) : evFunc (strconv_FormatBool_x.C k) strconv_FormatBool_x.ann Tryz.f84 strconv_FormatBool_x.A strconv_FormatBool_x.R x = strconv_FormatBool_x k x := by kernel_rfl
theorem strconv_FormatBool_x.ok {L : List (Nat × Obj)}  (k : Nat) : SigHolds Tryz.prog L 84 (strconv_FormatBool_x.sg k) :=
  sig_of_ev (C := strconv_FormatBool_x.C k) holds_nil (by kernel_rfl) Tryz.func84 (by kernel_rfl) strconv_FormatBool_x.ann strconv_FormatBool_x.A strconv_FormatBool_x.R (fun x y h => (strconv_FormatBool_x.ev k x).trans h) (by kernel_rfl)

/-! strconv.FormatBool -/
def strconv_FormatBool.A : Sh := (.cons (.pur .bool) .nil)
def strconv_FormatBool.R : Sh := (.cons (.pur .str) .nil)
def strconv_FormatBool.ann : Ann := { loops := [], joins := [], keys := [] }
noncomputable def strconv_FormatBool (k : Nat) : (Bool × Unit) → Option (((List UInt8) × Unit) × (Unit × Unit)) := fun x => match x with
 | (b_, ()) =>
  bd k (strconv_FormatBool_x k (b_, ())) fun y1 =>
  some ((y1.1.1, ()), ((), ()))
noncomputable def strconv_FormatBool.sg (k : Nat) : Sig := ⟨strconv_FormatBool.A, strconv_FormatBool.R, strconv_FormatBool k⟩
noncomputable def strconv_FormatBool.C (k : Nat) : Ctx := ⟨Tryz.prog, [(84, [strconv_FormatBool_x.sg k])], k, []⟩
theorem strconv_FormatBool.ev (k : Nat) (x : strconv_FormatBool.A.T) : evFunc (strconv_FormatBool.C k) strconv_FormatBool.ann Tryz.f40 strconv_FormatBool.A strconv_FormatBool.R x = strconv_FormatBool k x := by kernel_rfl
theorem strconv_FormatBool.ok {L : List (Nat × Obj)}  (k : Nat) : SigHolds Tryz.prog L 40 (strconv_FormatBool.sg k) :=
  sig_of_ev (C := strconv_FormatBool.C k) (holds_cons (allok_cons (strconv_FormatBool_x.ok k) allok_nil) holds_nil) (by kernel_rfl) Tryz.func40 (by kernel_rfl) strconv_FormatBool.ann strconv_FormatBool.A strconv_FormatBool.R (fun x y h => (strconv_FormatBool.ev k x).trans h) (by kernel_rfl)

end Go.Pev.F
