/-
  Printed by gen.py: what functions of the program compute, and that they do.
-/
import Derived.Test.YtamhcmffadindaaGreatDoorK07
open Go.Proofs Go.Pev
namespace Go.Pev.F
set_option maxRecDepth 100000
set_option linter.unusedVariables false

/-! loop.example/g00719/impl.compareTokens$1 -/
def impl_compareTokens_1.A : Sh := (.cons (.pur (.cons (.int .i64) (.cons (.int .i64) .nil))) (.cons (.pur (.cons (.int .i64) (.cons (.int .i64) .nil))) .nil))
def impl_compareTokens_1.R : Sh := (.cons (.pur (.int .i64)) .nil)
def impl_compareTokens_1.ann : Ann := { loops := [], joins := [], keys := [(1, [([2], false), ([2], false), ([3], false), ([3], false), ([], false), ([2], false), ([2], false), ([3], false), ([3], false), ([], false), ([15], true), ([15], false), ([], false)])] }
noncomputable def impl_compareTokens_1 (k : Nat) : ((Int × Int × Unit) × (Int × Int × Unit) × Unit) → Option ((Int × Unit) × (Unit × Unit × Unit)) := fun x => match x with
 | (x_, y_, ()) =>
  bd k (cmp_Compare_int64 k (x_.1, y_.1, ())) fun y1 =>
  bd k (cmp_Compare_int64 k (x_.2.1, y_.2.1, ())) fun y2 =>
  bd k (cmp_Or_int k (([y1.1.1, y2.1.1] : List Int), ())) fun y3 =>
  some ((y3.1.1, ()), ((), (), ()))
noncomputable def impl_compareTokens_1.sg (k : Nat) : Sig := ⟨impl_compareTokens_1.A, impl_compareTokens_1.R, impl_compareTokens_1 k⟩
noncomputable def impl_compareTokens_1.C (k : Nat) : Ctx := ⟨Tryz.prog, [(147, [cmp_Compare_int64.sg k]), (143, [cmp_Or_int.sg k])], k⟩
theorem impl_compareTokens_1.ev (k : Nat) (x : impl_compareTokens_1.A.T) : evFunc (impl_compareTokens_1.C k) impl_compareTokens_1.ann Tryz.f146 impl_compareTokens_1.A impl_compareTokens_1.R x = impl_compareTokens_1 k x := by kernel_rfl
theorem impl_compareTokens_1.ok {L : List (Nat × Obj)}  (k : Nat) : SigHolds Tryz.prog L 146 (impl_compareTokens_1.sg k) :=
  sig_of_ev (C := impl_compareTokens_1.C k) (holds_cons (allok_cons (cmp_Compare_int64.ok k) allok_nil) (holds_cons (allok_cons (cmp_Or_int.ok k) allok_nil) holds_nil)) (by kernel_rfl) Tryz.func146 (by kernel_rfl) impl_compareTokens_1.ann impl_compareTokens_1.A impl_compareTokens_1.R (fun x y h => (impl_compareTokens_1.ev k x).trans h) (by kernel_rfl)

/-! slices.CompareFunc[[]loop.example/g00719/impl.Entry,[]loop.example/g00719/impl.Entry,loop.example/g00719/impl.Entry,loop.example/g00719/impl.Entry] -/
def slices_CompareFunc_impl_Entry_impl_Entry_impl_Entry_impl_Entry.A : Sh := (.cons (.pur (.sl false (.cons (.int .i64) (.cons (.int .i64) .nil)))) (.cons (.pur (.sl false (.cons (.int .i64) (.cons (.int .i64) .nil)))) (.cons (.fn (.func 146) 0 .nil) .nil)))
def slices_CompareFunc_impl_Entry_impl_Entry_impl_Entry_impl_Entry.R : Sh := (.cons (.pur (.int .i64)) .nil)
def slices_CompareFunc_impl_Entry_impl_Entry_impl_Entry_impl_Entry.ann : Ann := { loops := [(0, [(0, (.pur (.sl false (.cons (.int .i64) (.cons (.int .i64) .nil))))), (1, (.pur (.sl false (.cons (.int .i64) (.cons (.int .i64) .nil))))), (2, (.fn (.func 146) 0 .nil)), (11, (.pur (.sl false (.cons (.int .i64) (.cons (.int .i64) .nil))))), (12, (.pur (.int .i64))), (13, (.pur (.int .i64)))])], joins := [], keys := [] }
noncomputable def slices_CompareFunc_impl_Entry_impl_Entry_impl_Entry_impl_Entry.l0 (k : Nat)  (G0 : ((List (Int × Int × Unit)) × (List (Int × Int × Unit)) × (Unit) × (List (Int × Int × Unit)) × Int × Int × Unit) → Option ((Int × Unit) × (Unit × Unit × (Unit) × Unit))) : ((List (Int × Int × Unit)) × (List (Int × Int × Unit)) × (Unit) × (List (Int × Int × Unit)) × Int × Int × Unit) → Option ((Int × Unit) × (Unit × Unit × (Unit) × Unit)) := fun x => match x with
 | (s1, s2, (()), t11, t12, t13, ()) =>
  br k (decide (t13 < t12))
  (br k (decide (0 ≤ t13))
  (bd k (t11[t13.toNat]?) fun x1 =>
  br k (decide (t13 ≥ (s2.length : Int)))
  (some ((1, ()), ((), (), (()), ())))
  (br k (decide (0 ≤ t13))
  (bd k (s2[t13.toNat]?) fun x2 =>
  bd k (impl_compareTokens_1 k (x1, x2, ())) fun y3 =>
  br k (y3.1.1 != 0)
  (some ((y3.1.1, ()), ((), (), (()), ())))
  (G0 (s1, s2, (()), t11, t12, IntKind.wrap .i64 (t13 + 1), ())))
  none))
  none)
  (br k (decide ((s1.length : Int) < (s2.length : Int)))
  (some (((-1), ()), ((), (), (()), ())))
  (some ((0, ()), ((), (), (()), ()))))
noncomputable def slices_CompareFunc_impl_Entry_impl_Entry_impl_Entry_impl_Entry (k : Nat) : ((List (Int × Int × Unit)) × (List (Int × Int × Unit)) × (Unit) × Unit) → Option ((Int × Unit) × (Unit × Unit × (Unit) × Unit)) := fun x => match x with
 | (s1, s2, (()), ()) =>
  iter (slices_CompareFunc_impl_Entry_impl_Entry_impl_Entry_impl_Entry.l0 k) k (s1, s2, (()), s1, (s1.length : Int), 0, ())
noncomputable def slices_CompareFunc_impl_Entry_impl_Entry_impl_Entry_impl_Entry.sg (k : Nat) : Sig := ⟨slices_CompareFunc_impl_Entry_impl_Entry_impl_Entry_impl_Entry.A, slices_CompareFunc_impl_Entry_impl_Entry_impl_Entry_impl_Entry.R, slices_CompareFunc_impl_Entry_impl_Entry_impl_Entry_impl_Entry k⟩
noncomputable def slices_CompareFunc_impl_Entry_impl_Entry_impl_Entry_impl_Entry.C (k : Nat) : Ctx := ⟨Tryz.prog, [(146, [impl_compareTokens_1.sg k])], k⟩
theorem slices_CompareFunc_impl_Entry_impl_Entry_impl_Entry_impl_Entry.ev (k : Nat) (x : slices_CompareFunc_impl_Entry_impl_Entry_impl_Entry_impl_Entry.A.T) : evFunc (slices_CompareFunc_impl_Entry_impl_Entry_impl_Entry_impl_Entry.C k) slices_CompareFunc_impl_Entry_impl_Entry_impl_Entry_impl_Entry.ann Tryz.f145 slices_CompareFunc_impl_Entry_impl_Entry_impl_Entry_impl_Entry.A slices_CompareFunc_impl_Entry_impl_Entry_impl_Entry_impl_Entry.R x = slices_CompareFunc_impl_Entry_impl_Entry_impl_Entry_impl_Entry k x := by kernel_rfl
theorem slices_CompareFunc_impl_Entry_impl_Entry_impl_Entry_impl_Entry.ok {L : List (Nat × Obj)}  (k : Nat) : SigHolds Tryz.prog L 145 (slices_CompareFunc_impl_Entry_impl_Entry_impl_Entry_impl_Entry.sg k) :=
  sig_of_ev (C := slices_CompareFunc_impl_Entry_impl_Entry_impl_Entry_impl_Entry.C k) (holds_cons (allok_cons (impl_compareTokens_1.ok k) allok_nil) holds_nil) (by kernel_rfl) Tryz.func145 (by kernel_rfl) slices_CompareFunc_impl_Entry_impl_Entry_impl_Entry_impl_Entry.ann slices_CompareFunc_impl_Entry_impl_Entry_impl_Entry_impl_Entry.A slices_CompareFunc_impl_Entry_impl_Entry_impl_Entry_impl_Entry.R (fun x y h => (slices_CompareFunc_impl_Entry_impl_Entry_impl_Entry_impl_Entry.ev k x).trans h) (by kernel_rfl)

/-! loop.example/g00719/impl.compareTokens -/
def impl_compareTokens.A : Sh := (.cons (.pur (.sl false (.cons (.int .i64) (.cons (.int .i64) .nil)))) (.cons (.pur (.sl false (.cons (.int .i64) (.cons (.int .i64) .nil)))) .nil))
def impl_compareTokens.R : Sh := (.cons (.pur (.int .i64)) .nil)
def impl_compareTokens.ann : Ann := { loops := [], joins := [], keys := [] }
noncomputable def impl_compareTokens (k : Nat) : ((List (Int × Int × Unit)) × (List (Int × Int × Unit)) × Unit) → Option ((Int × Unit) × (Unit × Unit × Unit)) := fun x => match x with
 | (a, b_, ()) =>
  bd k (cmp_Compare_int k ((a.length : Int), (b_.length : Int), ())) fun y1 =>
  bd k (slices_CompareFunc_impl_Entry_impl_Entry_impl_Entry_impl_Entry k (a, b_, (()), ())) fun y2 =>
  bd k (cmp_Or_int k (([y1.1.1, y2.1.1] : List Int), ())) fun y3 =>
  some ((y3.1.1, ()), ((), (), ()))
noncomputable def impl_compareTokens.sg (k : Nat) : Sig := ⟨impl_compareTokens.A, impl_compareTokens.R, impl_compareTokens k⟩
noncomputable def impl_compareTokens.C (k : Nat) : Ctx := ⟨Tryz.prog, [(144, [cmp_Compare_int.sg k]), (145, [slices_CompareFunc_impl_Entry_impl_Entry_impl_Entry_impl_Entry.sg k]), (143, [cmp_Or_int.sg k])], k⟩
theorem impl_compareTokens.ev (k : Nat) (x : impl_compareTokens.A.T) : evFunc (impl_compareTokens.C k) impl_compareTokens.ann Tryz.f111 impl_compareTokens.A impl_compareTokens.R x = impl_compareTokens k x := by kernel_rfl
theorem impl_compareTokens.ok {L : List (Nat × Obj)}  (k : Nat) : SigHolds Tryz.prog L 111 (impl_compareTokens.sg k) :=
  sig_of_ev (C := impl_compareTokens.C k) (holds_cons (allok_cons (cmp_Compare_int.ok k) allok_nil) (holds_cons (allok_cons (slices_CompareFunc_impl_Entry_impl_Entry_impl_Entry_impl_Entry.ok k) allok_nil) (holds_cons (allok_cons (cmp_Or_int.ok k) allok_nil) holds_nil))) (by kernel_rfl) Tryz.func111 (by kernel_rfl) impl_compareTokens.ann impl_compareTokens.A impl_compareTokens.R (fun x y h => (impl_compareTokens.ev k x).trans h) (by kernel_rfl)

/-! loop.example/g00719/impl.entryOk -/
def impl_entryOk.A : Sh := (.cons (.pur (.cons (.int .i64) (.cons (.int .i64) .nil))) .nil)
def impl_entryOk.R : Sh := (.cons (.pur .bool) .nil)
def impl_entryOk.ann : Ann := { loops := [], joins := [(1, [(2, .bool)])], keys := [] }
noncomputable def impl_entryOk (k : Nat) : ((Int × Int × Unit) × Unit) → Option ((Bool × Unit) × (Unit × Unit)) := fun x => match x with
 | (e_, ()) =>
  (bd k (impl_within k (e_.1, 0, 29, ())) fun y1 =>
  br k (y1.1.1)
  (bd k (impl_within k (e_.2.1, 0, 4, ())) fun y2 =>
  some (y2.1.1, ()))
  (some (false, ())) : Option (Bool × Unit)).bind fun j3 =>
  some ((j3.1, ()), ((), ()))
noncomputable def impl_entryOk.sg (k : Nat) : Sig := ⟨impl_entryOk.A, impl_entryOk.R, impl_entryOk k⟩
noncomputable def impl_entryOk.C (k : Nat) : Ctx := ⟨Tryz.prog, [(29, [impl_within.sg k])], k⟩
theorem impl_entryOk.ev (k : Nat) (x : impl_entryOk.A.T) : evFunc (impl_entryOk.C k) impl_entryOk.ann Tryz.f185 impl_entryOk.A impl_entryOk.R x = impl_entryOk k x := by kernel_rfl
theorem impl_entryOk.ok {L : List (Nat × Obj)}  (k : Nat) : SigHolds Tryz.prog L 185 (impl_entryOk.sg k) :=
  sig_of_ev (C := impl_entryOk.C k) (holds_cons (allok_cons (impl_within.ok k) allok_nil) holds_nil) (by kernel_rfl) Tryz.func185 (by kernel_rfl) impl_entryOk.ann impl_entryOk.A impl_entryOk.R (fun x y h => (impl_entryOk.ev k x).trans h) (by kernel_rfl)

/-! loop.example/g00719/impl.areAll[loop.example/g00719/impl.Entry]$1 -/
def impl_areAll_impl_Entry_1.A : Sh := (.cons (.pur (.cons (.int .i64) (.cons (.int .i64) .nil))) (.cons (.box (.cons (.fn (.func 185) 0 .nil) .nil)) .nil))
def impl_areAll_impl_Entry_1.R : Sh := (.cons (.pur .bool) .nil)
def impl_areAll_impl_Entry_1.ann : Ann := { loops := [], joins := [], keys := [] }
noncomputable def impl_areAll_impl_Entry_1 (k : Nat) : ((Int × Int × Unit) × ((Unit) × Unit) × Unit) → Option ((Bool × Unit) × (Unit × ((Unit) × Unit) × Unit)) := fun x => match x with
 | (x_, ((()), ()), ()) =>
  bd k (impl_entryOk k (x_, ())) fun y1 =>
  some ((!y1.1.1, ()), ((), ((()), ()), ()))
noncomputable def impl_areAll_impl_Entry_1.sg (k : Nat) : Sig := ⟨impl_areAll_impl_Entry_1.A, impl_areAll_impl_Entry_1.R, impl_areAll_impl_Entry_1 k⟩
noncomputable def impl_areAll_impl_Entry_1.C (k : Nat) : Ctx := ⟨Tryz.prog, [(185, [impl_entryOk.sg k])], k⟩
theorem impl_areAll_impl_Entry_1.ev (k : Nat) (x : impl_areAll_impl_Entry_1.A.T) : evFunc (impl_areAll_impl_Entry_1.C k) impl_areAll_impl_Entry_1.ann Tryz.f195 impl_areAll_impl_Entry_1.A impl_areAll_impl_Entry_1.R x = impl_areAll_impl_Entry_1 k x := by kernel_rfl
theorem impl_areAll_impl_Entry_1.ok {L : List (Nat × Obj)}  (k : Nat) : SigHolds Tryz.prog L 195 (impl_areAll_impl_Entry_1.sg k) :=
  sig_of_ev (C := impl_areAll_impl_Entry_1.C k) (holds_cons (allok_cons (impl_entryOk.ok k) allok_nil) holds_nil) (by kernel_rfl) Tryz.func195 (by kernel_rfl) impl_areAll_impl_Entry_1.ann impl_areAll_impl_Entry_1.A impl_areAll_impl_Entry_1.R (fun x y h => (impl_areAll_impl_Entry_1.ev k x).trans h) (by kernel_rfl)

/-! slices.IndexFunc[[]loop.example/g00719/impl.Entry,loop.example/g00719/impl.Entry] -/
def slices_IndexFunc_impl_Entry_impl_Entry.A : Sh := (.cons (.pur (.sl false (.cons (.int .i64) (.cons (.int .i64) .nil)))) (.cons (.fn (.func 195) 0 (.cons (.box (.cons (.fn (.func 185) 0 .nil) .nil)) .nil)) .nil))
def slices_IndexFunc_impl_Entry_impl_Entry.R : Sh := (.cons (.pur (.int .i64)) .nil)
def slices_IndexFunc_impl_Entry_impl_Entry.ann : Ann := { loops := [(0, [(0, (.pur (.sl false (.cons (.int .i64) (.cons (.int .i64) .nil))))), (1, (.fn (.func 195) 0 (.cons (.box (.cons (.fn (.func 185) 0 .nil) .nil)) .nil))), (7, (.pur (.int .i64))), (8, (.pur (.int .i64)))])], joins := [], keys := [] }
noncomputable def slices_IndexFunc_impl_Entry_impl_Entry.l0 (k : Nat)  (G0 : ((List (Int × Int × Unit)) × (((Unit) × Unit) × Unit) × Int × Int × Unit) → Option ((Int × Unit) × (Unit × (((Unit) × Unit) × Unit) × Unit))) : ((List (Int × Int × Unit)) × (((Unit) × Unit) × Unit) × Int × Int × Unit) → Option ((Int × Unit) × (Unit × (((Unit) × Unit) × Unit) × Unit)) := fun x => match x with
 | (s_, (((()), ()), ()), t7, t8, ()) =>
  br k (decide (t8 < t7))
  (br k (decide (0 ≤ t8))
  (bd k (s_[t8.toNat]?) fun x1 =>
  bd k (impl_areAll_impl_Entry_1 k (x1, ((()), ()), ())) fun y2 =>
  br k (y2.1.1)
  (some ((t8, ()), ((), (((()), ()), ()), ())))
  (G0 (s_, (((()), ()), ()), t7, IntKind.wrap .i64 (t8 + 1), ())))
  none)
  (some (((-1), ()), ((), (((()), ()), ()), ())))
noncomputable def slices_IndexFunc_impl_Entry_impl_Entry (k : Nat) : ((List (Int × Int × Unit)) × (((Unit) × Unit) × Unit) × Unit) → Option ((Int × Unit) × (Unit × (((Unit) × Unit) × Unit) × Unit)) := fun x => match x with
 | (s_, (((()), ()), ()), ()) =>
  iter (slices_IndexFunc_impl_Entry_impl_Entry.l0 k) k (s_, (((()), ()), ()), (s_.length : Int), 0, ())
noncomputable def slices_IndexFunc_impl_Entry_impl_Entry.sg (k : Nat) : Sig := ⟨slices_IndexFunc_impl_Entry_impl_Entry.A, slices_IndexFunc_impl_Entry_impl_Entry.R, slices_IndexFunc_impl_Entry_impl_Entry k⟩
noncomputable def slices_IndexFunc_impl_Entry_impl_Entry.C (k : Nat) : Ctx := ⟨Tryz.prog, [(195, [impl_areAll_impl_Entry_1.sg k])], k⟩
theorem slices_IndexFunc_impl_Entry_impl_Entry.ev (k : Nat) (x : slices_IndexFunc_impl_Entry_impl_Entry.A.T) : evFunc (slices_IndexFunc_impl_Entry_impl_Entry.C k) slices_IndexFunc_impl_Entry_impl_Entry.ann Tryz.f201 slices_IndexFunc_impl_Entry_impl_Entry.A slices_IndexFunc_impl_Entry_impl_Entry.R x = slices_IndexFunc_impl_Entry_impl_Entry k x := by kernel_rfl
theorem slices_IndexFunc_impl_Entry_impl_Entry.ok {L : List (Nat × Obj)}  (k : Nat) : SigHolds Tryz.prog L 201 (slices_IndexFunc_impl_Entry_impl_Entry.sg k) :=
  sig_of_ev (C := slices_IndexFunc_impl_Entry_impl_Entry.C k) (holds_cons (allok_cons (impl_areAll_impl_Entry_1.ok k) allok_nil) holds_nil) (by kernel_rfl) Tryz.func201 (by kernel_rfl) slices_IndexFunc_impl_Entry_impl_Entry.ann slices_IndexFunc_impl_Entry_impl_Entry.A slices_IndexFunc_impl_Entry_impl_Entry.R (fun x y h => (slices_IndexFunc_impl_Entry_impl_Entry.ev k x).trans h) (by kernel_rfl)

/-! slices.ContainsFunc[[]loop.example/g00719/impl.Entry,loop.example/g00719/impl.Entry] -/
def slices_ContainsFunc_impl_Entry_impl_Entry.A : Sh := (.cons (.pur (.sl false (.cons (.int .i64) (.cons (.int .i64) .nil)))) (.cons (.fn (.func 195) 0 (.cons (.box (.cons (.fn (.func 185) 0 .nil) .nil)) .nil)) .nil))
def slices_ContainsFunc_impl_Entry_impl_Entry.R : Sh := (.cons (.pur .bool) .nil)
def slices_ContainsFunc_impl_Entry_impl_Entry.ann : Ann := { loops := [], joins := [], keys := [] }
noncomputable def slices_ContainsFunc_impl_Entry_impl_Entry (k : Nat) : ((List (Int × Int × Unit)) × (((Unit) × Unit) × Unit) × Unit) → Option ((Bool × Unit) × (Unit × (((Unit) × Unit) × Unit) × Unit)) := fun x => match x with
 | (s_, (((()), ()), ()), ()) =>
  bd k (slices_IndexFunc_impl_Entry_impl_Entry k (s_, (((()), ()), ()), ())) fun y1 =>
  some ((decide (y1.1.1 ≥ 0), ()), ((), (((()), ()), ()), ()))
noncomputable def slices_ContainsFunc_impl_Entry_impl_Entry.sg (k : Nat) : Sig := ⟨slices_ContainsFunc_impl_Entry_impl_Entry.A, slices_ContainsFunc_impl_Entry_impl_Entry.R, slices_ContainsFunc_impl_Entry_impl_Entry k⟩
noncomputable def slices_ContainsFunc_impl_Entry_impl_Entry.C (k : Nat) : Ctx := ⟨Tryz.prog, [(201, [slices_IndexFunc_impl_Entry_impl_Entry.sg k])], k⟩
theorem slices_ContainsFunc_impl_Entry_impl_Entry.ev (k : Nat) (x : slices_ContainsFunc_impl_Entry_impl_Entry.A.T) : evFunc (slices_ContainsFunc_impl_Entry_impl_Entry.C k) slices_ContainsFunc_impl_Entry_impl_Entry.ann Tryz.f194 slices_ContainsFunc_impl_Entry_impl_Entry.A slices_ContainsFunc_impl_Entry_impl_Entry.R x = slices_ContainsFunc_impl_Entry_impl_Entry k x := by kernel_rfl
theorem slices_ContainsFunc_impl_Entry_impl_Entry.ok {L : List (Nat × Obj)}  (k : Nat) : SigHolds Tryz.prog L 194 (slices_ContainsFunc_impl_Entry_impl_Entry.sg k) :=
  sig_of_ev (C := slices_ContainsFunc_impl_Entry_impl_Entry.C k) (holds_cons (allok_cons (slices_IndexFunc_impl_Entry_impl_Entry.ok k) allok_nil) holds_nil) (by kernel_rfl) Tryz.func194 (by kernel_rfl) slices_ContainsFunc_impl_Entry_impl_Entry.ann slices_ContainsFunc_impl_Entry_impl_Entry.A slices_ContainsFunc_impl_Entry_impl_Entry.R (fun x y h => (slices_ContainsFunc_impl_Entry_impl_Entry.ev k x).trans h) (by kernel_rfl)

/-! loop.example/g00719/impl.areAll[loop.example/g00719/impl.Entry] -/
def impl_areAll_impl_Entry.A : Sh := (.cons (.pur (.sl false (.cons (.int .i64) (.cons (.int .i64) .nil)))) (.cons (.fn (.func 185) 0 .nil) .nil))
def impl_areAll_impl_Entry.R : Sh := (.cons (.pur .bool) .nil)
def impl_areAll_impl_Entry.ann : Ann := { loops := [], joins := [], keys := [] }
noncomputable def impl_areAll_impl_Entry (k : Nat) : ((List (Int × Int × Unit)) × (Unit) × Unit) → Option ((Bool × Unit) × (Unit × (Unit) × Unit)) := fun x => match x with
 | (list, (()), ()) =>
  bd k (slices_ContainsFunc_impl_Entry_impl_Entry k (list, (((()), ()), ()), ())) fun y1 =>
  some ((!y1.1.1, ()), ((), (()), ()))
noncomputable def impl_areAll_impl_Entry.sg (k : Nat) : Sig := ⟨impl_areAll_impl_Entry.A, impl_areAll_impl_Entry.R, impl_areAll_impl_Entry k⟩
noncomputable def impl_areAll_impl_Entry.C (k : Nat) : Ctx := ⟨Tryz.prog, [(194, [slices_ContainsFunc_impl_Entry_impl_Entry.sg k])], k⟩
theorem impl_areAll_impl_Entry.ev (k : Nat) (x : impl_areAll_impl_Entry.A.T) : evFunc (impl_areAll_impl_Entry.C k) impl_areAll_impl_Entry.ann Tryz.f184 impl_areAll_impl_Entry.A impl_areAll_impl_Entry.R x = impl_areAll_impl_Entry k x := by kernel_rfl
theorem impl_areAll_impl_Entry.ok {L : List (Nat × Obj)}  (k : Nat) : SigHolds Tryz.prog L 184 (impl_areAll_impl_Entry.sg k) :=
  sig_of_ev (C := impl_areAll_impl_Entry.C k) (holds_cons (allok_cons (slices_ContainsFunc_impl_Entry_impl_Entry.ok k) allok_nil) holds_nil) (by kernel_rfl) Tryz.func184 (by kernel_rfl) impl_areAll_impl_Entry.ann impl_areAll_impl_Entry.A impl_areAll_impl_Entry.R (fun x y h => (impl_areAll_impl_Entry.ev k x).trans h) (by kernel_rfl)

/-! loop.example/g00719/impl.TokenOk -/
def impl_TokenOk.A : Sh := (.cons (.pur (.sl false (.cons (.int .i64) (.cons (.int .i64) .nil)))) .nil)
def impl_TokenOk.R : Sh := (.cons (.pur .bool) .nil)
def impl_TokenOk.ann : Ann := { loops := [], joins := [], keys := [] }
noncomputable def impl_TokenOk (k : Nat) : ((List (Int × Int × Unit)) × Unit) → Option ((Bool × Unit) × (Unit × Unit)) := fun x => match x with
 | (t, ()) =>
  br k (decide ((t.length : Int) ≤ 3))
  (bd k (impl_areAll_impl_Entry k (t, (()), ())) fun y1 =>
  some ((y1.1.1, ()), ((), ())))
  (some ((false, ()), ((), ())))
noncomputable def impl_TokenOk.sg (k : Nat) : Sig := ⟨impl_TokenOk.A, impl_TokenOk.R, impl_TokenOk k⟩
noncomputable def impl_TokenOk.C (k : Nat) : Ctx := ⟨Tryz.prog, [(184, [impl_areAll_impl_Entry.sg k])], k⟩
theorem impl_TokenOk.ev (k : Nat) (x : impl_TokenOk.A.T) : evFunc (impl_TokenOk.C k) impl_TokenOk.ann Tryz.f166 impl_TokenOk.A impl_TokenOk.R x = impl_TokenOk k x := by kernel_rfl
theorem impl_TokenOk.ok {L : List (Nat × Obj)}  (k : Nat) : SigHolds Tryz.prog L 166 (impl_TokenOk.sg k) :=
  sig_of_ev (C := impl_TokenOk.C k) (holds_cons (allok_cons (impl_areAll_impl_Entry.ok k) allok_nil) holds_nil) (by kernel_rfl) Tryz.func166 (by kernel_rfl) impl_TokenOk.ann impl_TokenOk.A impl_TokenOk.R (fun x y h => (impl_TokenOk.ev k x).trans h) (by kernel_rfl)

/-! loop.example/g00719/impl.size[loop.example/g00719/impl.Env] -/
def impl_size_impl_Env.A : Sh := (.cons (.pur (.sl false (.cons .bool (.cons (.sl false (.cons (.int .i64) (.cons (.int .i64) .nil))) (.cons (.sl false (.cons (.int .i64) (.cons (.int .i64) .nil))) .nil))))) .nil)
def impl_size_impl_Env.R : Sh := (.cons (.pur (.int .i64)) .nil)
def impl_size_impl_Env.ann : Ann := { loops := [], joins := [], keys := [] }
noncomputable def impl_size_impl_Env (k : Nat) : ((List (Bool × (List (Int × Int × Unit)) × (List (Int × Int × Unit)) × Unit)) × Unit) → Option ((Int × Unit) × (Unit × Unit)) := fun x => match x with
 | (list, ()) =>
  some (((list.length : Int), ()), ((), ()))
noncomputable def impl_size_impl_Env.sg (k : Nat) : Sig := ⟨impl_size_impl_Env.A, impl_size_impl_Env.R, impl_size_impl_Env k⟩
noncomputable def impl_size_impl_Env.C (k : Nat) : Ctx := ⟨Tryz.prog, [], k⟩
theorem impl_size_impl_Env.ev (k : Nat) (x : impl_size_impl_Env.A.T) : evFunc (impl_size_impl_Env.C k) impl_size_impl_Env.ann Tryz.f171 impl_size_impl_Env.A impl_size_impl_Env.R x = impl_size_impl_Env k x := by kernel_rfl
theorem impl_size_impl_Env.ok {L : List (Nat × Obj)}  (k : Nat) : SigHolds Tryz.prog L 171 (impl_size_impl_Env.sg k) :=
  sig_of_ev (C := impl_size_impl_Env.C k) holds_nil (by kernel_rfl) Tryz.func171 (by kernel_rfl) impl_size_impl_Env.ann impl_size_impl_Env.A impl_size_impl_Env.R (fun x y h => (impl_size_impl_Env.ev k x).trans h) (by kernel_rfl)

/-! (loop.example/g00719/impl.Decl).leaves -/
def impl_Decl_leaves.A : Sh := (.cons (.pur (.cons (.sl false .str) (.cons (.sl false .str) (.cons (.sl false (.cons .str (.cons (.int .i64) .nil))) .nil)))) .nil)
def impl_Decl_leaves.R : Sh := (.cons (.pur (.int .i64)) .nil)
def impl_Decl_leaves.ann : Ann := { loops := [], joins := [], keys := [] }
noncomputable def impl_Decl_leaves (k : Nat) : (((List (List UInt8)) × (List (List UInt8)) × (List ((List UInt8) × Int × Unit)) × Unit) × Unit) → Option ((Int × Unit) × (Unit × Unit)) := fun x => match x with
 | (d_, ()) =>
  br k (decide (0 ≤ (d_.2.1.length : Int)))
  (some ((IntKind.wrap .i64 (1 * 2 ^ (min (d_.2.1.length : Int).toNat 64)), ()), ((), ())))
  none
noncomputable def impl_Decl_leaves.sg (k : Nat) : Sig := ⟨impl_Decl_leaves.A, impl_Decl_leaves.R, impl_Decl_leaves k⟩
noncomputable def impl_Decl_leaves.C (k : Nat) : Ctx := ⟨Tryz.prog, [], k⟩
theorem impl_Decl_leaves.ev (k : Nat) (x : impl_Decl_leaves.A.T) : evFunc (impl_Decl_leaves.C k) impl_Decl_leaves.ann Tryz.f172 impl_Decl_leaves.A impl_Decl_leaves.R x = impl_Decl_leaves k x := by kernel_rfl
theorem impl_Decl_leaves.ok {L : List (Nat × Obj)}  (k : Nat) : SigHolds Tryz.prog L 172 (impl_Decl_leaves.sg k) :=
  sig_of_ev (C := impl_Decl_leaves.C k) holds_nil (by kernel_rfl) Tryz.func172 (by kernel_rfl) impl_Decl_leaves.ann impl_Decl_leaves.A impl_Decl_leaves.R (fun x y h => (impl_Decl_leaves.ev k x).trans h) (by kernel_rfl)

/-! loop.example/g00719/impl.IvOk -/
def impl_IvOk.A : Sh := (.cons (.pur (.cons (.int .i64) (.cons (.int .i64) .nil))) .nil)
def impl_IvOk.R : Sh := (.cons (.pur .bool) .nil)
def impl_IvOk.ann : Ann := { loops := [], joins := [], keys := [] }
noncomputable def impl_IvOk (k : Nat) : ((Int × Int × Unit) × Unit) → Option ((Bool × Unit) × (Unit × Unit)) := fun x => match x with
 | (a, ()) =>
  some ((decide (a.1 ≤ a.2.1), ()), ((), ()))
noncomputable def impl_IvOk.sg (k : Nat) : Sig := ⟨impl_IvOk.A, impl_IvOk.R, impl_IvOk k⟩
noncomputable def impl_IvOk.C (k : Nat) : Ctx := ⟨Tryz.prog, [], k⟩
theorem impl_IvOk.ev (k : Nat) (x : impl_IvOk.A.T) : evFunc (impl_IvOk.C k) impl_IvOk.ann Tryz.f189 impl_IvOk.A impl_IvOk.R x = impl_IvOk k x := by kernel_rfl
theorem impl_IvOk.ok {L : List (Nat × Obj)}  (k : Nat) : SigHolds Tryz.prog L 189 (impl_IvOk.sg k) :=
  sig_of_ev (C := impl_IvOk.C k) holds_nil (by kernel_rfl) Tryz.func189 (by kernel_rfl) impl_IvOk.ann impl_IvOk.A impl_IvOk.R (fun x y h => (impl_IvOk.ev k x).trans h) (by kernel_rfl)

/-! loop.example/g00719/impl.areAll[loop.example/g00719/impl.Interval]$1 -/
def impl_areAll_impl_Interval_1.A : Sh := (.cons (.pur (.cons (.int .i64) (.cons (.int .i64) .nil))) (.cons (.box (.cons (.fn (.func 189) 0 .nil) .nil)) .nil))
def impl_areAll_impl_Interval_1.R : Sh := (.cons (.pur .bool) .nil)
def impl_areAll_impl_Interval_1.ann : Ann := { loops := [], joins := [], keys := [] }
noncomputable def impl_areAll_impl_Interval_1 (k : Nat) : ((Int × Int × Unit) × ((Unit) × Unit) × Unit) → Option ((Bool × Unit) × (Unit × ((Unit) × Unit) × Unit)) := fun x => match x with
 | (x_, ((()), ()), ()) =>
  bd k (impl_IvOk k (x_, ())) fun y1 =>
  some ((!y1.1.1, ()), ((), ((()), ()), ()))
noncomputable def impl_areAll_impl_Interval_1.sg (k : Nat) : Sig := ⟨impl_areAll_impl_Interval_1.A, impl_areAll_impl_Interval_1.R, impl_areAll_impl_Interval_1 k⟩
noncomputable def impl_areAll_impl_Interval_1.C (k : Nat) : Ctx := ⟨Tryz.prog, [(189, [impl_IvOk.sg k])], k⟩
theorem impl_areAll_impl_Interval_1.ev (k : Nat) (x : impl_areAll_impl_Interval_1.A.T) : evFunc (impl_areAll_impl_Interval_1.C k) impl_areAll_impl_Interval_1.ann Tryz.f197 impl_areAll_impl_Interval_1.A impl_areAll_impl_Interval_1.R x = impl_areAll_impl_Interval_1 k x := by kernel_rfl
theorem impl_areAll_impl_Interval_1.ok {L : List (Nat × Obj)}  (k : Nat) : SigHolds Tryz.prog L 197 (impl_areAll_impl_Interval_1.sg k) :=
  sig_of_ev (C := impl_areAll_impl_Interval_1.C k) (holds_cons (allok_cons (impl_IvOk.ok k) allok_nil) holds_nil) (by kernel_rfl) Tryz.func197 (by kernel_rfl) impl_areAll_impl_Interval_1.ann impl_areAll_impl_Interval_1.A impl_areAll_impl_Interval_1.R (fun x y h => (impl_areAll_impl_Interval_1.ev k x).trans h) (by kernel_rfl)

/-! slices.IndexFunc[[]loop.example/g00719/impl.Interval,loop.example/g00719/impl.Interval] -/
def slices_IndexFunc_impl_Interval_impl_Interval.A : Sh := (.cons (.pur (.sl false (.cons (.int .i64) (.cons (.int .i64) .nil)))) (.cons (.fn (.func 197) 0 (.cons (.box (.cons (.fn (.func 189) 0 .nil) .nil)) .nil)) .nil))
def slices_IndexFunc_impl_Interval_impl_Interval.R : Sh := (.cons (.pur (.int .i64)) .nil)
def slices_IndexFunc_impl_Interval_impl_Interval.ann : Ann := { loops := [(0, [(0, (.pur (.sl false (.cons (.int .i64) (.cons (.int .i64) .nil))))), (1, (.fn (.func 197) 0 (.cons (.box (.cons (.fn (.func 189) 0 .nil) .nil)) .nil))), (7, (.pur (.int .i64))), (8, (.pur (.int .i64)))])], joins := [], keys := [] }
noncomputable def slices_IndexFunc_impl_Interval_impl_Interval.l0 (k : Nat)  (G0 : ((List (Int × Int × Unit)) × (((Unit) × Unit) × Unit) × Int × Int × Unit) → Option ((Int × Unit) × (Unit × (((Unit) × Unit) × Unit) × Unit))) : ((List (Int × Int × Unit)) × (((Unit) × Unit) × Unit) × Int × Int × Unit) → Option ((Int × Unit) × (Unit × (((Unit) × Unit) × Unit) × Unit)) := fun x => match x with
 | (s_, (((()), ()), ()), t7, t8, ()) =>
  br k (decide (t8 < t7))
  (br k (decide (0 ≤ t8))
  (bd k (s_[t8.toNat]?) fun x1 =>
  bd k (impl_areAll_impl_Interval_1 k (x1, ((()), ()), ())) fun y2 =>
  br k (y2.1.1)
  (some ((t8, ()), ((), (((()), ()), ()), ())))
  (G0 (s_, (((()), ()), ()), t7, IntKind.wrap .i64 (t8 + 1), ())))
  none)
  (some (((-1), ()), ((), (((()), ()), ()), ())))
noncomputable def slices_IndexFunc_impl_Interval_impl_Interval (k : Nat) : ((List (Int × Int × Unit)) × (((Unit) × Unit) × Unit) × Unit) → Option ((Int × Unit) × (Unit × (((Unit) × Unit) × Unit) × Unit)) := fun x => match x with
 | (s_, (((()), ()), ()), ()) =>
  iter (slices_IndexFunc_impl_Interval_impl_Interval.l0 k) k (s_, (((()), ()), ()), (s_.length : Int), 0, ())
noncomputable def slices_IndexFunc_impl_Interval_impl_Interval.sg (k : Nat) : Sig := ⟨slices_IndexFunc_impl_Interval_impl_Interval.A, slices_IndexFunc_impl_Interval_impl_Interval.R, slices_IndexFunc_impl_Interval_impl_Interval k⟩
noncomputable def slices_IndexFunc_impl_Interval_impl_Interval.C (k : Nat) : Ctx := ⟨Tryz.prog, [(197, [impl_areAll_impl_Interval_1.sg k])], k⟩
theorem slices_IndexFunc_impl_Interval_impl_Interval.ev (k : Nat) (x : slices_IndexFunc_impl_Interval_impl_Interval.A.T) : evFunc (slices_IndexFunc_impl_Interval_impl_Interval.C k) slices_IndexFunc_impl_Interval_impl_Interval.ann Tryz.f202 slices_IndexFunc_impl_Interval_impl_Interval.A slices_IndexFunc_impl_Interval_impl_Interval.R x = slices_IndexFunc_impl_Interval_impl_Interval k x := by kernel_rfl
theorem slices_IndexFunc_impl_Interval_impl_Interval.ok {L : List (Nat × Obj)}  (k : Nat) : SigHolds Tryz.prog L 202 (slices_IndexFunc_impl_Interval_impl_Interval.sg k) :=
  sig_of_ev (C := slices_IndexFunc_impl_Interval_impl_Interval.C k) (holds_cons (allok_cons (impl_areAll_impl_Interval_1.ok k) allok_nil) holds_nil) (by kernel_rfl) Tryz.func202 (by kernel_rfl) slices_IndexFunc_impl_Interval_impl_Interval.ann slices_IndexFunc_impl_Interval_impl_Interval.A slices_IndexFunc_impl_Interval_impl_Interval.R (fun x y h => (slices_IndexFunc_impl_Interval_impl_Interval.ev k x).trans h) (by kernel_rfl)

/-! slices.ContainsFunc[[]loop.example/g00719/impl.Interval,loop.example/g00719/impl.Interval] -/
def slices_ContainsFunc_impl_Interval_impl_Interval.A : Sh := (.cons (.pur (.sl false (.cons (.int .i64) (.cons (.int .i64) .nil)))) (.cons (.fn (.func 197) 0 (.cons (.box (.cons (.fn (.func 189) 0 .nil) .nil)) .nil)) .nil))
def slices_ContainsFunc_impl_Interval_impl_Interval.R : Sh := (.cons (.pur .bool) .nil)
def slices_ContainsFunc_impl_Interval_impl_Interval.ann : Ann := { loops := [], joins := [], keys := [] }
noncomputable def slices_ContainsFunc_impl_Interval_impl_Interval (k : Nat) : ((List (Int × Int × Unit)) × (((Unit) × Unit) × Unit) × Unit) → Option ((Bool × Unit) × (Unit × (((Unit) × Unit) × Unit) × Unit)) := fun x => match x with
 | (s_, (((()), ()), ()), ()) =>
  bd k (slices_IndexFunc_impl_Interval_impl_Interval k (s_, (((()), ()), ()), ())) fun y1 =>
  some ((decide (y1.1.1 ≥ 0), ()), ((), (((()), ()), ()), ()))
noncomputable def slices_ContainsFunc_impl_Interval_impl_Interval.sg (k : Nat) : Sig := ⟨slices_ContainsFunc_impl_Interval_impl_Interval.A, slices_ContainsFunc_impl_Interval_impl_Interval.R, slices_ContainsFunc_impl_Interval_impl_Interval k⟩
noncomputable def slices_ContainsFunc_impl_Interval_impl_Interval.C (k : Nat) : Ctx := ⟨Tryz.prog, [(202, [slices_IndexFunc_impl_Interval_impl_Interval.sg k])], k⟩
theorem slices_ContainsFunc_impl_Interval_impl_Interval.ev (k : Nat) (x : slices_ContainsFunc_impl_Interval_impl_Interval.A.T) : evFunc (slices_ContainsFunc_impl_Interval_impl_Interval.C k) slices_ContainsFunc_impl_Interval_impl_Interval.ann Tryz.f196 slices_ContainsFunc_impl_Interval_impl_Interval.A slices_ContainsFunc_impl_Interval_impl_Interval.R x = slices_ContainsFunc_impl_Interval_impl_Interval k x := by kernel_rfl
theorem slices_ContainsFunc_impl_Interval_impl_Interval.ok {L : List (Nat × Obj)}  (k : Nat) : SigHolds Tryz.prog L 196 (slices_ContainsFunc_impl_Interval_impl_Interval.sg k) :=
  sig_of_ev (C := slices_ContainsFunc_impl_Interval_impl_Interval.C k) (holds_cons (allok_cons (slices_IndexFunc_impl_Interval_impl_Interval.ok k) allok_nil) holds_nil) (by kernel_rfl) Tryz.func196 (by kernel_rfl) slices_ContainsFunc_impl_Interval_impl_Interval.ann slices_ContainsFunc_impl_Interval_impl_Interval.A slices_ContainsFunc_impl_Interval_impl_Interval.R (fun x y h => (slices_ContainsFunc_impl_Interval_impl_Interval.ev k x).trans h) (by kernel_rfl)

/-! loop.example/g00719/impl.areAll[loop.example/g00719/impl.Interval] -/
def impl_areAll_impl_Interval.A : Sh := (.cons (.pur (.sl false (.cons (.int .i64) (.cons (.int .i64) .nil)))) (.cons (.fn (.func 189) 0 .nil) .nil))
def impl_areAll_impl_Interval.R : Sh := (.cons (.pur .bool) .nil)
def impl_areAll_impl_Interval.ann : Ann := { loops := [], joins := [], keys := [] }
noncomputable def impl_areAll_impl_Interval (k : Nat) : ((List (Int × Int × Unit)) × (Unit) × Unit) → Option ((Bool × Unit) × (Unit × (Unit) × Unit)) := fun x => match x with
 | (list, (()), ()) =>
  bd k (slices_ContainsFunc_impl_Interval_impl_Interval k (list, (((()), ()), ()), ())) fun y1 =>
  some ((!y1.1.1, ()), ((), (()), ()))
noncomputable def impl_areAll_impl_Interval.sg (k : Nat) : Sig := ⟨impl_areAll_impl_Interval.A, impl_areAll_impl_Interval.R, impl_areAll_impl_Interval k⟩
noncomputable def impl_areAll_impl_Interval.C (k : Nat) : Ctx := ⟨Tryz.prog, [(196, [slices_ContainsFunc_impl_Interval_impl_Interval.sg k])], k⟩
theorem impl_areAll_impl_Interval.ev (k : Nat) (x : impl_areAll_impl_Interval.A.T) : evFunc (impl_areAll_impl_Interval.C k) impl_areAll_impl_Interval.ann Tryz.f188 impl_areAll_impl_Interval.A impl_areAll_impl_Interval.R x = impl_areAll_impl_Interval k x := by kernel_rfl
theorem impl_areAll_impl_Interval.ok {L : List (Nat × Obj)}  (k : Nat) : SigHolds Tryz.prog L 188 (impl_areAll_impl_Interval.sg k) :=
  sig_of_ev (C := impl_areAll_impl_Interval.C k) (holds_cons (allok_cons (slices_ContainsFunc_impl_Interval_impl_Interval.ok k) allok_nil) holds_nil) (by kernel_rfl) Tryz.func188 (by kernel_rfl) impl_areAll_impl_Interval.ann impl_areAll_impl_Interval.A impl_areAll_impl_Interval.R (fun x y h => (impl_areAll_impl_Interval.ev k x).trans h) (by kernel_rfl)

/-! (loop.example/g00719/impl.Decl).isEnv -/
def impl_Decl_isEnv.A : Sh := (.cons (.pur (.cons (.sl false .str) (.cons (.sl false .str) (.cons (.sl false (.cons .str (.cons (.int .i64) .nil))) .nil)))) (.cons (.pur (.cons .bool (.cons (.sl false (.cons (.int .i64) (.cons (.int .i64) .nil))) (.cons (.sl false (.cons (.int .i64) (.cons (.int .i64) .nil))) .nil)))) .nil))
def impl_Decl_isEnv.R : Sh := (.cons (.pur .bool) .nil)
def impl_Decl_isEnv.ann : Ann := { loops := [], joins := [(2, [(4, .bool)])], keys := [] }
noncomputable def impl_Decl_isEnv (k : Nat) : (((List (List UInt8)) × (List (List UInt8)) × (List ((List UInt8) × Int × Unit)) × Unit) × (Bool × (List (Int × Int × Unit)) × (List (Int × Int × Unit)) × Unit) × Unit) → Option ((Bool × Unit) × (Unit × Unit × Unit)) := fun x => match x with
 | (d_, e_, ()) =>
  br k (!e_.1)
  ((br k ((e_.2.1.length : Int) == 0)
  (some ((e_.2.2.1.length : Int) == 0, ()))
  (some (false, ())) : Option (Bool × Unit)).bind fun j1 =>
  some ((j1.1, ()), ((), (), ())))
  (br k ((e_.2.1.length : Int) == (d_.1.length : Int))
  (br k ((e_.2.2.1.length : Int) == (d_.2.2.1.length : Int))
  (bd k (impl_areAll_impl_Interval k (e_.2.1, (()), ())) fun y2 =>
  br k (y2.1.1)
  (bd k (impl_areAll_impl_Interval k (e_.2.2.1, (()), ())) fun y3 =>
  some ((y3.1.1, ()), ((), (), ())))
  (some ((false, ()), ((), (), ()))))
  (some ((false, ()), ((), (), ()))))
  (some ((false, ()), ((), (), ()))))
noncomputable def impl_Decl_isEnv.sg (k : Nat) : Sig := ⟨impl_Decl_isEnv.A, impl_Decl_isEnv.R, impl_Decl_isEnv k⟩
noncomputable def impl_Decl_isEnv.C (k : Nat) : Ctx := ⟨Tryz.prog, [(188, [impl_areAll_impl_Interval.sg k])], k⟩
theorem impl_Decl_isEnv.ev (k : Nat) (x : impl_Decl_isEnv.A.T) : evFunc (impl_Decl_isEnv.C k) impl_Decl_isEnv.ann Tryz.f174 impl_Decl_isEnv.A impl_Decl_isEnv.R x = impl_Decl_isEnv k x := by kernel_rfl
theorem impl_Decl_isEnv.ok {L : List (Nat × Obj)}  (k : Nat) : SigHolds Tryz.prog L 174 (impl_Decl_isEnv.sg k) :=
  sig_of_ev (C := impl_Decl_isEnv.C k) (holds_cons (allok_cons (impl_areAll_impl_Interval.ok k) allok_nil) holds_nil) (by kernel_rfl) Tryz.func174 (by kernel_rfl) impl_Decl_isEnv.ann impl_Decl_isEnv.A impl_Decl_isEnv.R (fun x y h => (impl_Decl_isEnv.ev k x).trans h) (by kernel_rfl)

/-! loop.example/g00719/impl.areAll[loop.example/g00719/impl.Env]$1 -/
def impl_areAll_impl_Env_1.A : Sh := (.cons (.pur (.cons .bool (.cons (.sl false (.cons (.int .i64) (.cons (.int .i64) .nil))) (.cons (.sl false (.cons (.int .i64) (.cons (.int .i64) .nil))) .nil)))) (.cons (.box (.cons (.fn (.func 174) 1 (.cons (.pur (.cons (.sl false .str) (.cons (.sl false .str) (.cons (.sl false (.cons .str (.cons (.int .i64) .nil))) .nil)))) .nil)) .nil)) .nil))
def impl_areAll_impl_Env_1.R : Sh := (.cons (.pur .bool) .nil)
def impl_areAll_impl_Env_1.ann : Ann := { loops := [], joins := [], keys := [] }
noncomputable def impl_areAll_impl_Env_1 (k : Nat) : ((Bool × (List (Int × Int × Unit)) × (List (Int × Int × Unit)) × Unit) × ((((List (List UInt8)) × (List (List UInt8)) × (List ((List UInt8) × Int × Unit)) × Unit) × Unit) × Unit) × Unit) → Option ((Bool × Unit) × (Unit × ((((List (List UInt8)) × (List (List UInt8)) × (List ((List UInt8) × Int × Unit)) × Unit) × Unit) × Unit) × Unit)) := fun x => match x with
 | (x_, ((a1_0_0, ()), ()), ()) =>
  bd k (impl_Decl_isEnv k (a1_0_0, x_, ())) fun y1 =>
  some ((!y1.1.1, ()), ((), ((a1_0_0, ()), ()), ()))
noncomputable def impl_areAll_impl_Env_1.sg (k : Nat) : Sig := ⟨impl_areAll_impl_Env_1.A, impl_areAll_impl_Env_1.R, impl_areAll_impl_Env_1 k⟩
noncomputable def impl_areAll_impl_Env_1.C (k : Nat) : Ctx := ⟨Tryz.prog, [(174, [impl_Decl_isEnv.sg k])], k⟩
theorem impl_areAll_impl_Env_1.ev (k : Nat) (x : impl_areAll_impl_Env_1.A.T) : evFunc (impl_areAll_impl_Env_1.C k) impl_areAll_impl_Env_1.ann Tryz.f187 impl_areAll_impl_Env_1.A impl_areAll_impl_Env_1.R x = impl_areAll_impl_Env_1 k x := by kernel_rfl
theorem impl_areAll_impl_Env_1.ok {L : List (Nat × Obj)}  (k : Nat) : SigHolds Tryz.prog L 187 (impl_areAll_impl_Env_1.sg k) :=
  sig_of_ev (C := impl_areAll_impl_Env_1.C k) (holds_cons (allok_cons (impl_Decl_isEnv.ok k) allok_nil) holds_nil) (by kernel_rfl) Tryz.func187 (by kernel_rfl) impl_areAll_impl_Env_1.ann impl_areAll_impl_Env_1.A impl_areAll_impl_Env_1.R (fun x y h => (impl_areAll_impl_Env_1.ev k x).trans h) (by kernel_rfl)

/-! slices.IndexFunc[[]loop.example/g00719/impl.Env,loop.example/g00719/impl.Env] -/
def slices_IndexFunc_impl_Env_impl_Env.A : Sh := (.cons (.pur (.sl false (.cons .bool (.cons (.sl false (.cons (.int .i64) (.cons (.int .i64) .nil))) (.cons (.sl false (.cons (.int .i64) (.cons (.int .i64) .nil))) .nil))))) (.cons (.fn (.func 187) 0 (.cons (.box (.cons (.fn (.func 174) 1 (.cons (.pur (.cons (.sl false .str) (.cons (.sl false .str) (.cons (.sl false (.cons .str (.cons (.int .i64) .nil))) .nil)))) .nil)) .nil)) .nil)) .nil))
def slices_IndexFunc_impl_Env_impl_Env.R : Sh := (.cons (.pur (.int .i64)) .nil)
def slices_IndexFunc_impl_Env_impl_Env.ann : Ann := { loops := [(0, [(0, (.pur (.sl false (.cons .bool (.cons (.sl false (.cons (.int .i64) (.cons (.int .i64) .nil))) (.cons (.sl false (.cons (.int .i64) (.cons (.int .i64) .nil))) .nil)))))), (1, (.fn (.func 187) 0 (.cons (.box (.cons (.fn (.func 174) 1 (.cons (.pur (.cons (.sl false .str) (.cons (.sl false .str) (.cons (.sl false (.cons .str (.cons (.int .i64) .nil))) .nil)))) .nil)) .nil)) .nil))), (7, (.pur (.int .i64))), (8, (.pur (.int .i64)))])], joins := [], keys := [] }
noncomputable def slices_IndexFunc_impl_Env_impl_Env.l0 (k : Nat)  (G0 : ((List (Bool × (List (Int × Int × Unit)) × (List (Int × Int × Unit)) × Unit)) × (((((List (List UInt8)) × (List (List UInt8)) × (List ((List UInt8) × Int × Unit)) × Unit) × Unit) × Unit) × Unit) × Int × Int × Unit) → Option ((Int × Unit) × (Unit × (((((List (List UInt8)) × (List (List UInt8)) × (List ((List UInt8) × Int × Unit)) × Unit) × Unit) × Unit) × Unit) × Unit))) : ((List (Bool × (List (Int × Int × Unit)) × (List (Int × Int × Unit)) × Unit)) × (((((List (List UInt8)) × (List (List UInt8)) × (List ((List UInt8) × Int × Unit)) × Unit) × Unit) × Unit) × Unit) × Int × Int × Unit) → Option ((Int × Unit) × (Unit × (((((List (List UInt8)) × (List (List UInt8)) × (List ((List UInt8) × Int × Unit)) × Unit) × Unit) × Unit) × Unit) × Unit)) := fun x => match x with
 | (s_, (((f_0_0_0, ()), ()), ()), t7, t8, ()) =>
  br k (decide (t8 < t7))
  (br k (decide (0 ≤ t8))
  (bd k (s_[t8.toNat]?) fun x1 =>
  bd k (impl_areAll_impl_Env_1 k (x1, ((f_0_0_0, ()), ()), ())) fun y2 =>
  br k (y2.1.1)
  (some ((t8, ()), ((), (((y2.2.2.1.1.1, ()), ()), ()), ())))
  (G0 (s_, (((y2.2.2.1.1.1, ()), ()), ()), t7, IntKind.wrap .i64 (t8 + 1), ())))
  none)
  (some (((-1), ()), ((), (((f_0_0_0, ()), ()), ()), ())))
noncomputable def slices_IndexFunc_impl_Env_impl_Env (k : Nat) : ((List (Bool × (List (Int × Int × Unit)) × (List (Int × Int × Unit)) × Unit)) × (((((List (List UInt8)) × (List (List UInt8)) × (List ((List UInt8) × Int × Unit)) × Unit) × Unit) × Unit) × Unit) × Unit) → Option ((Int × Unit) × (Unit × (((((List (List UInt8)) × (List (List UInt8)) × (List ((List UInt8) × Int × Unit)) × Unit) × Unit) × Unit) × Unit) × Unit)) := fun x => match x with
 | (s_, (((f_0_0_0, ()), ()), ()), ()) =>
  iter (slices_IndexFunc_impl_Env_impl_Env.l0 k) k (s_, (((f_0_0_0, ()), ()), ()), (s_.length : Int), 0, ())
noncomputable def slices_IndexFunc_impl_Env_impl_Env.sg (k : Nat) : Sig := ⟨slices_IndexFunc_impl_Env_impl_Env.A, slices_IndexFunc_impl_Env_impl_Env.R, slices_IndexFunc_impl_Env_impl_Env k⟩
noncomputable def slices_IndexFunc_impl_Env_impl_Env.C (k : Nat) : Ctx := ⟨Tryz.prog, [(187, [impl_areAll_impl_Env_1.sg k])], k⟩
theorem slices_IndexFunc_impl_Env_impl_Env.ev (k : Nat) (x : slices_IndexFunc_impl_Env_impl_Env.A.T) : evFunc (slices_IndexFunc_impl_Env_impl_Env.C k) slices_IndexFunc_impl_Env_impl_Env.ann Tryz.f186 slices_IndexFunc_impl_Env_impl_Env.A slices_IndexFunc_impl_Env_impl_Env.R x = slices_IndexFunc_impl_Env_impl_Env k x := by kernel_rfl
theorem slices_IndexFunc_impl_Env_impl_Env.ok {L : List (Nat × Obj)}  (k : Nat) : SigHolds Tryz.prog L 186 (slices_IndexFunc_impl_Env_impl_Env.sg k) :=
  sig_of_ev (C := slices_IndexFunc_impl_Env_impl_Env.C k) (holds_cons (allok_cons (impl_areAll_impl_Env_1.ok k) allok_nil) holds_nil) (by kernel_rfl) Tryz.func186 (by kernel_rfl) slices_IndexFunc_impl_Env_impl_Env.ann slices_IndexFunc_impl_Env_impl_Env.A slices_IndexFunc_impl_Env_impl_Env.R (fun x y h => (slices_IndexFunc_impl_Env_impl_Env.ev k x).trans h) (by kernel_rfl)

/-! slices.ContainsFunc[[]loop.example/g00719/impl.Env,loop.example/g00719/impl.Env] -/
def slices_ContainsFunc_impl_Env_impl_Env.A : Sh := (.cons (.pur (.sl false (.cons .bool (.cons (.sl false (.cons (.int .i64) (.cons (.int .i64) .nil))) (.cons (.sl false (.cons (.int .i64) (.cons (.int .i64) .nil))) .nil))))) (.cons (.fn (.func 187) 0 (.cons (.box (.cons (.fn (.func 174) 1 (.cons (.pur (.cons (.sl false .str) (.cons (.sl false .str) (.cons (.sl false (.cons .str (.cons (.int .i64) .nil))) .nil)))) .nil)) .nil)) .nil)) .nil))
def slices_ContainsFunc_impl_Env_impl_Env.R : Sh := (.cons (.pur .bool) .nil)
def slices_ContainsFunc_impl_Env_impl_Env.ann : Ann := { loops := [], joins := [], keys := [] }
noncomputable def slices_ContainsFunc_impl_Env_impl_Env (k : Nat) : ((List (Bool × (List (Int × Int × Unit)) × (List (Int × Int × Unit)) × Unit)) × (((((List (List UInt8)) × (List (List UInt8)) × (List ((List UInt8) × Int × Unit)) × Unit) × Unit) × Unit) × Unit) × Unit) → Option ((Bool × Unit) × (Unit × (((((List (List UInt8)) × (List (List UInt8)) × (List ((List UInt8) × Int × Unit)) × Unit) × Unit) × Unit) × Unit) × Unit)) := fun x => match x with
 | (s_, (((f_0_0_0, ()), ()), ()), ()) =>
  bd k (slices_IndexFunc_impl_Env_impl_Env k (s_, (((f_0_0_0, ()), ()), ()), ())) fun y1 =>
  some ((decide (y1.1.1 ≥ 0), ()), ((), (((y1.2.2.1.1.1.1, ()), ()), ()), ()))
noncomputable def slices_ContainsFunc_impl_Env_impl_Env.sg (k : Nat) : Sig := ⟨slices_ContainsFunc_impl_Env_impl_Env.A, slices_ContainsFunc_impl_Env_impl_Env.R, slices_ContainsFunc_impl_Env_impl_Env k⟩
noncomputable def slices_ContainsFunc_impl_Env_impl_Env.C (k : Nat) : Ctx := ⟨Tryz.prog, [(186, [slices_IndexFunc_impl_Env_impl_Env.sg k])], k⟩
theorem slices_ContainsFunc_impl_Env_impl_Env.ev (k : Nat) (x : slices_ContainsFunc_impl_Env_impl_Env.A.T) : evFunc (slices_ContainsFunc_impl_Env_impl_Env.C k) slices_ContainsFunc_impl_Env_impl_Env.ann Tryz.f167 slices_ContainsFunc_impl_Env_impl_Env.A slices_ContainsFunc_impl_Env_impl_Env.R x = slices_ContainsFunc_impl_Env_impl_Env k x := by kernel_rfl
theorem slices_ContainsFunc_impl_Env_impl_Env.ok {L : List (Nat × Obj)}  (k : Nat) : SigHolds Tryz.prog L 167 (slices_ContainsFunc_impl_Env_impl_Env.sg k) :=
  sig_of_ev (C := slices_ContainsFunc_impl_Env_impl_Env.C k) (holds_cons (allok_cons (slices_IndexFunc_impl_Env_impl_Env.ok k) allok_nil) holds_nil) (by kernel_rfl) Tryz.func167 (by kernel_rfl) slices_ContainsFunc_impl_Env_impl_Env.ann slices_ContainsFunc_impl_Env_impl_Env.A slices_ContainsFunc_impl_Env_impl_Env.R (fun x y h => (slices_ContainsFunc_impl_Env_impl_Env.ev k x).trans h) (by kernel_rfl)

/-! loop.example/g00719/impl.areAll[loop.example/g00719/impl.Env] -/
def impl_areAll_impl_Env.A : Sh := (.cons (.pur (.sl false (.cons .bool (.cons (.sl false (.cons (.int .i64) (.cons (.int .i64) .nil))) (.cons (.sl false (.cons (.int .i64) (.cons (.int .i64) .nil))) .nil))))) (.cons (.fn (.func 174) 1 (.cons (.pur (.cons (.sl false .str) (.cons (.sl false .str) (.cons (.sl false (.cons .str (.cons (.int .i64) .nil))) .nil)))) .nil)) .nil))
def impl_areAll_impl_Env.R : Sh := (.cons (.pur .bool) .nil)
def impl_areAll_impl_Env.ann : Ann := { loops := [], joins := [], keys := [] }
noncomputable def impl_areAll_impl_Env (k : Nat) : ((List (Bool × (List (Int × Int × Unit)) × (List (Int × Int × Unit)) × Unit)) × (((List (List UInt8)) × (List (List UInt8)) × (List ((List UInt8) × Int × Unit)) × Unit) × Unit) × Unit) → Option ((Bool × Unit) × (Unit × (Unit × Unit) × Unit)) := fun x => match x with
 | (list, (is_0, ()), ()) =>
  bd k (slices_ContainsFunc_impl_Env_impl_Env k (list, (((is_0, ()), ()), ()), ())) fun y1 =>
  some ((!y1.1.1, ()), ((), ((), ()), ()))
noncomputable def impl_areAll_impl_Env.sg (k : Nat) : Sig := ⟨impl_areAll_impl_Env.A, impl_areAll_impl_Env.R, impl_areAll_impl_Env k⟩
noncomputable def impl_areAll_impl_Env.C (k : Nat) : Ctx := ⟨Tryz.prog, [(167, [slices_ContainsFunc_impl_Env_impl_Env.sg k])], k⟩
theorem impl_areAll_impl_Env.ev (k : Nat) (x : impl_areAll_impl_Env.A.T) : evFunc (impl_areAll_impl_Env.C k) impl_areAll_impl_Env.ann Tryz.f173 impl_areAll_impl_Env.A impl_areAll_impl_Env.R x = impl_areAll_impl_Env k x := by kernel_rfl
theorem impl_areAll_impl_Env.ok {L : List (Nat × Obj)}  (k : Nat) : SigHolds Tryz.prog L 173 (impl_areAll_impl_Env.sg k) :=
  sig_of_ev (C := impl_areAll_impl_Env.C k) (holds_cons (allok_cons (slices_ContainsFunc_impl_Env_impl_Env.ok k) allok_nil) holds_nil) (by kernel_rfl) Tryz.func173 (by kernel_rfl) impl_areAll_impl_Env.ann impl_areAll_impl_Env.A impl_areAll_impl_Env.R (fun x y h => (impl_areAll_impl_Env.ev k x).trans h) (by kernel_rfl)

/-! (loop.example/g00719/impl.Decl).isTable -/
def impl_Decl_isTable.A : Sh := (.cons (.pur (.cons (.sl false .str) (.cons (.sl false .str) (.cons (.sl false (.cons .str (.cons (.int .i64) .nil))) .nil)))) (.cons (.pur (.sl false (.cons .bool (.cons (.sl false (.cons (.int .i64) (.cons (.int .i64) .nil))) (.cons (.sl false (.cons (.int .i64) (.cons (.int .i64) .nil))) .nil))))) .nil))
def impl_Decl_isTable.R : Sh := (.cons (.pur .bool) .nil)
def impl_Decl_isTable.ann : Ann := { loops := [], joins := [], keys := [(1, [([], false), ([], false), ([2], false), ([], false), ([], false), ([], false), ([], false), ([2], false), ([], false), ([14], true), ([], false), ([], false)])] }
noncomputable def impl_Decl_isTable (k : Nat) : (((List (List UInt8)) × (List (List UInt8)) × (List ((List UInt8) × Int × Unit)) × Unit) × (List (Bool × (List (Int × Int × Unit)) × (List (Int × Int × Unit)) × Unit)) × Unit) → Option ((Bool × Unit) × (Unit × Unit × Unit)) := fun x => match x with
 | (d_, t, ()) =>
  bd k (impl_size_impl_Env k (t, ())) fun y1 =>
  bd k (impl_Decl_leaves k (d_, ())) fun y2 =>
  br k (y1.1.1 == y2.1.1)
  (bd k (impl_areAll_impl_Env k (t, (d_, ()), ())) fun y3 =>
  some ((y3.1.1, ()), ((), (), ())))
  (some ((false, ()), ((), (), ())))
noncomputable def impl_Decl_isTable.sg (k : Nat) : Sig := ⟨impl_Decl_isTable.A, impl_Decl_isTable.R, impl_Decl_isTable k⟩
noncomputable def impl_Decl_isTable.C (k : Nat) : Ctx := ⟨Tryz.prog, [(171, [impl_size_impl_Env.sg k]), (172, [impl_Decl_leaves.sg k]), (173, [impl_areAll_impl_Env.sg k])], k⟩
theorem impl_Decl_isTable.ev (k : Nat) (x : impl_Decl_isTable.A.T) : evFunc (impl_Decl_isTable.C k) impl_Decl_isTable.ann Tryz.f148 impl_Decl_isTable.A impl_Decl_isTable.R x = impl_Decl_isTable k x := by kernel_rfl
theorem impl_Decl_isTable.ok {L : List (Nat × Obj)}  (k : Nat) : SigHolds Tryz.prog L 148 (impl_Decl_isTable.sg k) :=
  sig_of_ev (C := impl_Decl_isTable.C k) (holds_cons (allok_cons (impl_size_impl_Env.ok k) allok_nil) (holds_cons (allok_cons (impl_Decl_leaves.ok k) allok_nil) (holds_cons (allok_cons (impl_areAll_impl_Env.ok k) allok_nil) holds_nil))) (by kernel_rfl) Tryz.func148 (by kernel_rfl) impl_Decl_isTable.ann impl_Decl_isTable.A impl_Decl_isTable.R (fun x y h => (impl_Decl_isTable.ev k x).trans h) (by kernel_rfl)

/-! (loop.example/g00719/impl.Decl).partOk$1 -/
def impl_Decl_partOk_1.A : Sh := (.cons (.pur (.cons .bool (.cons (.sl false (.cons (.int .i64) (.cons (.int .i64) .nil))) (.cons (.sl false (.cons (.int .i64) (.cons (.int .i64) .nil))) .nil)))) .nil)
def impl_Decl_partOk_1.R : Sh := (.cons (.pur .bool) .nil)
def impl_Decl_partOk_1.ann : Ann := { loops := [], joins := [], keys := [] }
noncomputable def impl_Decl_partOk_1 (k : Nat) : ((Bool × (List (Int × Int × Unit)) × (List (Int × Int × Unit)) × Unit) × Unit) → Option ((Bool × Unit) × (Unit × Unit)) := fun x => match x with
 | (e_, ()) =>
  some ((e_.1, ()), ((), ()))
noncomputable def impl_Decl_partOk_1.sg (k : Nat) : Sig := ⟨impl_Decl_partOk_1.A, impl_Decl_partOk_1.R, impl_Decl_partOk_1 k⟩
noncomputable def impl_Decl_partOk_1.C (k : Nat) : Ctx := ⟨Tryz.prog, [], k⟩
theorem impl_Decl_partOk_1.ev (k : Nat) (x : impl_Decl_partOk_1.A.T) : evFunc (impl_Decl_partOk_1.C k) impl_Decl_partOk_1.ann Tryz.f168 impl_Decl_partOk_1.A impl_Decl_partOk_1.R x = impl_Decl_partOk_1 k x := by kernel_rfl
theorem impl_Decl_partOk_1.ok {L : List (Nat × Obj)}  (k : Nat) : SigHolds Tryz.prog L 168 (impl_Decl_partOk_1.sg k) :=
  sig_of_ev (C := impl_Decl_partOk_1.C k) holds_nil (by kernel_rfl) Tryz.func168 (by kernel_rfl) impl_Decl_partOk_1.ann impl_Decl_partOk_1.A impl_Decl_partOk_1.R (fun x y h => (impl_Decl_partOk_1.ev k x).trans h) (by kernel_rfl)

/-! slices.IndexFunc[[]loop.example/g00719/impl.Env,loop.example/g00719/impl.Env] -/
def slices_IndexFunc_impl_Env_impl_Env_v1.A : Sh := (.cons (.pur (.sl false (.cons .bool (.cons (.sl false (.cons (.int .i64) (.cons (.int .i64) .nil))) (.cons (.sl false (.cons (.int .i64) (.cons (.int .i64) .nil))) .nil))))) (.cons (.fn (.func 168) 0 .nil) .nil))
def slices_IndexFunc_impl_Env_impl_Env_v1.R : Sh := (.cons (.pur (.int .i64)) .nil)
def slices_IndexFunc_impl_Env_impl_Env_v1.ann : Ann := { loops := [(0, [(0, (.pur (.sl false (.cons .bool (.cons (.sl false (.cons (.int .i64) (.cons (.int .i64) .nil))) (.cons (.sl false (.cons (.int .i64) (.cons (.int .i64) .nil))) .nil)))))), (1, (.fn (.func 168) 0 .nil)), (7, (.pur (.int .i64))), (8, (.pur (.int .i64)))])], joins := [], keys := [] }
noncomputable def slices_IndexFunc_impl_Env_impl_Env_v1.l0 (k : Nat)  (G0 : ((List (Bool × (List (Int × Int × Unit)) × (List (Int × Int × Unit)) × Unit)) × (Unit) × Int × Int × Unit) → Option ((Int × Unit) × (Unit × (Unit) × Unit))) : ((List (Bool × (List (Int × Int × Unit)) × (List (Int × Int × Unit)) × Unit)) × (Unit) × Int × Int × Unit) → Option ((Int × Unit) × (Unit × (Unit) × Unit)) := fun x => match x with
 | (s_, (()), t7, t8, ()) =>
  br k (decide (t8 < t7))
  (br k (decide (0 ≤ t8))
  (bd k (s_[t8.toNat]?) fun x1 =>
  bd k (impl_Decl_partOk_1 k (x1, ())) fun y2 =>
  br k (y2.1.1)
  (some ((t8, ()), ((), (()), ())))
  (G0 (s_, (()), t7, IntKind.wrap .i64 (t8 + 1), ())))
  none)
  (some (((-1), ()), ((), (()), ())))
noncomputable def slices_IndexFunc_impl_Env_impl_Env_v1 (k : Nat) : ((List (Bool × (List (Int × Int × Unit)) × (List (Int × Int × Unit)) × Unit)) × (Unit) × Unit) → Option ((Int × Unit) × (Unit × (Unit) × Unit)) := fun x => match x with
 | (s_, (()), ()) =>
  iter (slices_IndexFunc_impl_Env_impl_Env_v1.l0 k) k (s_, (()), (s_.length : Int), 0, ())
noncomputable def slices_IndexFunc_impl_Env_impl_Env_v1.sg (k : Nat) : Sig := ⟨slices_IndexFunc_impl_Env_impl_Env_v1.A, slices_IndexFunc_impl_Env_impl_Env_v1.R, slices_IndexFunc_impl_Env_impl_Env_v1 k⟩
noncomputable def slices_IndexFunc_impl_Env_impl_Env_v1.C (k : Nat) : Ctx := ⟨Tryz.prog, [(168, [impl_Decl_partOk_1.sg k])], k⟩
theorem slices_IndexFunc_impl_Env_impl_Env_v1.ev (k : Nat) (x : slices_IndexFunc_impl_Env_impl_Env_v1.A.T) : evFunc (slices_IndexFunc_impl_Env_impl_Env_v1.C k) slices_IndexFunc_impl_Env_impl_Env_v1.ann Tryz.f186 slices_IndexFunc_impl_Env_impl_Env_v1.A slices_IndexFunc_impl_Env_impl_Env_v1.R x = slices_IndexFunc_impl_Env_impl_Env_v1 k x := by kernel_rfl
theorem slices_IndexFunc_impl_Env_impl_Env_v1.ok {L : List (Nat × Obj)}  (k : Nat) : SigHolds Tryz.prog L 186 (slices_IndexFunc_impl_Env_impl_Env_v1.sg k) :=
  sig_of_ev (C := slices_IndexFunc_impl_Env_impl_Env_v1.C k) (holds_cons (allok_cons (impl_Decl_partOk_1.ok k) allok_nil) holds_nil) (by kernel_rfl) Tryz.func186 (by kernel_rfl) slices_IndexFunc_impl_Env_impl_Env_v1.ann slices_IndexFunc_impl_Env_impl_Env_v1.A slices_IndexFunc_impl_Env_impl_Env_v1.R (fun x y h => (slices_IndexFunc_impl_Env_impl_Env_v1.ev k x).trans h) (by kernel_rfl)

/-! slices.ContainsFunc[[]loop.example/g00719/impl.Env,loop.example/g00719/impl.Env] -/
def slices_ContainsFunc_impl_Env_impl_Env_v1.A : Sh := (.cons (.pur (.sl false (.cons .bool (.cons (.sl false (.cons (.int .i64) (.cons (.int .i64) .nil))) (.cons (.sl false (.cons (.int .i64) (.cons (.int .i64) .nil))) .nil))))) (.cons (.fn (.func 168) 0 .nil) .nil))
def slices_ContainsFunc_impl_Env_impl_Env_v1.R : Sh := (.cons (.pur .bool) .nil)
def slices_ContainsFunc_impl_Env_impl_Env_v1.ann : Ann := { loops := [], joins := [], keys := [] }
noncomputable def slices_ContainsFunc_impl_Env_impl_Env_v1 (k : Nat) : ((List (Bool × (List (Int × Int × Unit)) × (List (Int × Int × Unit)) × Unit)) × (Unit) × Unit) → Option ((Bool × Unit) × (Unit × (Unit) × Unit)) := fun x => match x with
 | (s_, (()), ()) =>
  bd k (slices_IndexFunc_impl_Env_impl_Env_v1 k (s_, (()), ())) fun y1 =>
  some ((decide (y1.1.1 ≥ 0), ()), ((), (()), ()))
noncomputable def slices_ContainsFunc_impl_Env_impl_Env_v1.sg (k : Nat) : Sig := ⟨slices_ContainsFunc_impl_Env_impl_Env_v1.A, slices_ContainsFunc_impl_Env_impl_Env_v1.R, slices_ContainsFunc_impl_Env_impl_Env_v1 k⟩
noncomputable def slices_ContainsFunc_impl_Env_impl_Env_v1.C (k : Nat) : Ctx := ⟨Tryz.prog, [(186, [slices_IndexFunc_impl_Env_impl_Env_v1.sg k])], k⟩
theorem slices_ContainsFunc_impl_Env_impl_Env_v1.ev (k : Nat) (x : slices_ContainsFunc_impl_Env_impl_Env_v1.A.T) : evFunc (slices_ContainsFunc_impl_Env_impl_Env_v1.C k) slices_ContainsFunc_impl_Env_impl_Env_v1.ann Tryz.f167 slices_ContainsFunc_impl_Env_impl_Env_v1.A slices_ContainsFunc_impl_Env_impl_Env_v1.R x = slices_ContainsFunc_impl_Env_impl_Env_v1 k x := by kernel_rfl
theorem slices_ContainsFunc_impl_Env_impl_Env_v1.ok {L : List (Nat × Obj)}  (k : Nat) : SigHolds Tryz.prog L 167 (slices_ContainsFunc_impl_Env_impl_Env_v1.sg k) :=
  sig_of_ev (C := slices_ContainsFunc_impl_Env_impl_Env_v1.C k) (holds_cons (allok_cons (slices_IndexFunc_impl_Env_impl_Env_v1.ok k) allok_nil) holds_nil) (by kernel_rfl) Tryz.func167 (by kernel_rfl) slices_ContainsFunc_impl_Env_impl_Env_v1.ann slices_ContainsFunc_impl_Env_impl_Env_v1.A slices_ContainsFunc_impl_Env_impl_Env_v1.R (fun x y h => (slices_ContainsFunc_impl_Env_impl_Env_v1.ev k x).trans h) (by kernel_rfl)

/-! (loop.example/g00719/impl.Decl).partOk -/
def impl_Decl_partOk.A : Sh := (.cons (.pur (.cons (.sl false .str) (.cons (.sl false .str) (.cons (.sl false (.cons .str (.cons (.int .i64) .nil))) .nil)))) (.cons (.pur (.cons (.sl false (.cons (.int .i64) (.cons (.int .i64) .nil))) (.cons (.sl false (.cons .bool (.cons (.sl false (.cons (.int .i64) (.cons (.int .i64) .nil))) (.cons (.sl false (.cons (.int .i64) (.cons (.int .i64) .nil))) .nil)))) .nil))) .nil))
def impl_Decl_partOk.R : Sh := (.cons (.pur .bool) .nil)
def impl_Decl_partOk.ann : Ann := { loops := [], joins := [], keys := [] }
noncomputable def impl_Decl_partOk (k : Nat) : (((List (List UInt8)) × (List (List UInt8)) × (List ((List UInt8) × Int × Unit)) × Unit) × ((List (Int × Int × Unit)) × (List (Bool × (List (Int × Int × Unit)) × (List (Int × Int × Unit)) × Unit)) × Unit) × Unit) → Option ((Bool × Unit) × (Unit × Unit × Unit)) := fun x => match x with
 | (d_, p, ()) =>
  bd k (impl_TokenOk k (p.1, ())) fun y1 =>
  br k (y1.1.1)
  (bd k (impl_Decl_isTable k (d_, p.2.1, ())) fun y2 =>
  br k (y2.1.1)
  (bd k (slices_ContainsFunc_impl_Env_impl_Env_v1 k (p.2.1, (()), ())) fun y3 =>
  some ((y3.1.1, ()), ((), (), ())))
  (some ((false, ()), ((), (), ()))))
  (some ((false, ()), ((), (), ())))
noncomputable def impl_Decl_partOk.sg (k : Nat) : Sig := ⟨impl_Decl_partOk.A, impl_Decl_partOk.R, impl_Decl_partOk k⟩
noncomputable def impl_Decl_partOk.C (k : Nat) : Ctx := ⟨Tryz.prog, [(166, [impl_TokenOk.sg k]), (148, [impl_Decl_isTable.sg k]), (167, [slices_ContainsFunc_impl_Env_impl_Env_v1.sg k])], k⟩
theorem impl_Decl_partOk.ev (k : Nat) (x : impl_Decl_partOk.A.T) : evFunc (impl_Decl_partOk.C k) impl_Decl_partOk.ann Tryz.f142 impl_Decl_partOk.A impl_Decl_partOk.R x = impl_Decl_partOk k x := by kernel_rfl
theorem impl_Decl_partOk.ok {L : List (Nat × Obj)}  (k : Nat) : SigHolds Tryz.prog L 142 (impl_Decl_partOk.sg k) :=
  sig_of_ev (C := impl_Decl_partOk.C k) (holds_cons (allok_cons (impl_TokenOk.ok k) allok_nil) (holds_cons (allok_cons (impl_Decl_isTable.ok k) allok_nil) (holds_cons (allok_cons (slices_ContainsFunc_impl_Env_impl_Env_v1.ok k) allok_nil) holds_nil))) (by kernel_rfl) Tryz.func142 (by kernel_rfl) impl_Decl_partOk.ann impl_Decl_partOk.A impl_Decl_partOk.R (fun x y h => (impl_Decl_partOk.ev k x).trans h) (by kernel_rfl)

end Go.Pev.F
