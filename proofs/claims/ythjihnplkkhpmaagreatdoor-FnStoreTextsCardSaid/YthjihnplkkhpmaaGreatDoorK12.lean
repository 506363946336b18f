/-
  Printed by gen.py: what functions of the program compute, and that they do.
-/
import Derived.Test.YthjihnplkkhpmaaGreatDoorK11
set_option linter.unusedSimpArgs false
set_option linter.unusedVariables false
open Go.Proofs Go.Pev
namespace Go.Pev.F
set_option maxRecDepth 100000
set_option linter.unusedVariables false

/-! loop.example/g00719/impl.areAll[loop.example/g00719/impl.Entry] -/
def impl_areAll_impl_Entry.A : Sh := (.cons (.pur (.sl false (.cons (.int .i64) (.cons (.int .i64) .nil)))) (.cons (.fn (.func 190) 0 .nil) .nil))
def impl_areAll_impl_Entry.R : Sh := (.cons (.pur .bool) .nil)
def impl_areAll_impl_Entry.ann : Ann := { loops := [], joins := [], keys := [] }
noncomputable def impl_areAll_impl_Entry (k : Nat) : ((List (Int × Int × Unit)) × (Unit) × Unit) → Option ((Bool × Unit) × (Unit × (Unit) × Unit)) := fun x => match x with
 | (list, (()), ()) =>
  bd k (slices_ContainsFunc_impl_Entry_impl_Entry k (list, (((()), ()), ()), ())) fun y1 =>
  some ((!y1.1.1, ()), ((), (()), ()))
noncomputable def impl_areAll_impl_Entry.sg (k : Nat) : Sig := ⟨impl_areAll_impl_Entry.A, impl_areAll_impl_Entry.R, impl_areAll_impl_Entry k⟩
noncomputable def impl_areAll_impl_Entry.C (k : Nat) : Ctx := ⟨Tryz.prog, [(196, [slices_ContainsFunc_impl_Entry_impl_Entry.sg k])], k, []⟩
theorem impl_areAll_impl_Entry.ev (k : Nat) (x : impl_areAll_impl_Entry.A.T) : evFunc (impl_areAll_impl_Entry.C k) impl_areAll_impl_Entry.ann Tryz.f189 impl_areAll_impl_Entry.A impl_areAll_impl_Entry.R x = impl_areAll_impl_Entry k x := by kernel_rfl
theorem impl_areAll_impl_Entry.ok {L : List (Nat × Obj)}  (k : Nat) : SigHolds Tryz.prog L 189 (impl_areAll_impl_Entry.sg k) :=
  sig_of_ev (C := impl_areAll_impl_Entry.C k) (holds_cons (allok_cons (slices_ContainsFunc_impl_Entry_impl_Entry.ok k) allok_nil) holds_nil) (by kernel_rfl) Tryz.func189 (by kernel_rfl) impl_areAll_impl_Entry.ann impl_areAll_impl_Entry.A impl_areAll_impl_Entry.R (fun x y h => (impl_areAll_impl_Entry.ev k x).trans h) (by kernel_rfl)

/-! loop.example/g00719/impl.TokenOk -/
def impl_TokenOk.A : Sh := (.cons (.pur (.sl false (.cons (.int .i64) (.cons (.int .i64) .nil)))) .nil)
def impl_TokenOk.R : Sh := (.cons (.pur .bool) .nil)
def impl_TokenOk.ann : Ann := { loops := [], joins := [], keys := [] }
noncomputable def impl_TokenOk (k : Nat) : ((List (Int × Int × Unit)) × Unit) → Option ((Bool × Unit) × (Unit × Unit)) := fun x => match x with
 | (t, ()) =>
  br k (decide ((t.length : Int) ≤ 3))
  (bd k (impl_areAll_impl_Entry k (t, (()), ())) fun y1 =>
  some ((y1.1.1, ()), ((), ())))
  (some ((false, ()), ((), ())))
noncomputable def impl_TokenOk.sg (k : Nat) : Sig := ⟨impl_TokenOk.A, impl_TokenOk.R, impl_TokenOk k⟩
noncomputable def impl_TokenOk.C (k : Nat) : Ctx := ⟨Tryz.prog, [(189, [impl_areAll_impl_Entry.sg k])], k, []⟩
theorem impl_TokenOk.ev (k : Nat) (x : impl_TokenOk.A.T) : evFunc (impl_TokenOk.C k) impl_TokenOk.ann Tryz.f173 impl_TokenOk.A impl_TokenOk.R x = impl_TokenOk k x := by kernel_rfl
theorem impl_TokenOk.ok {L : List (Nat × Obj)}  (k : Nat) : SigHolds Tryz.prog L 173 (impl_TokenOk.sg k) :=
  sig_of_ev (C := impl_TokenOk.C k) (holds_cons (allok_cons (impl_areAll_impl_Entry.ok k) allok_nil) holds_nil) (by kernel_rfl) Tryz.func173 (by kernel_rfl) impl_TokenOk.ann impl_TokenOk.A impl_TokenOk.R (fun x y h => (impl_TokenOk.ev k x).trans h) (by kernel_rfl)

/-! (loop.example/g00719/impl.Decl).partOk$1 -/
def impl_Decl_partOk_1.A : Sh := (.cons (.pur (.cons .bool (.cons (.sl false (.cons (.int .i64) (.cons (.int .i64) .nil))) (.cons (.sl false (.cons (.int .i64) (.cons (.int .i64) .nil))) .nil)))) .nil)
def impl_Decl_partOk_1.R : Sh := (.cons (.pur .bool) .nil)
def impl_Decl_partOk_1.ann : Ann := { loops := [], joins := [], keys := [] }
noncomputable def impl_Decl_partOk_1 (k : Nat) : ((Bool × (List (Int × Int × Unit)) × (List (Int × Int × Unit)) × Unit) × Unit) → Option ((Bool × Unit) × (Unit × Unit)) := fun x => match x with
 | (e_, ()) =>
  some ((e_.1, ()), ((), ()))
noncomputable def impl_Decl_partOk_1.sg (k : Nat) : Sig := ⟨impl_Decl_partOk_1.A, impl_Decl_partOk_1.R, impl_Decl_partOk_1 k⟩
noncomputable def impl_Decl_partOk_1.C (k : Nat) : Ctx := ⟨Tryz.prog, [], k, []⟩
theorem impl_Decl_partOk_1.ev (k : Nat) (x : impl_Decl_partOk_1.A.T) : evFunc (impl_Decl_partOk_1.C k) impl_Decl_partOk_1.ann Tryz.f174 impl_Decl_partOk_1.A impl_Decl_partOk_1.R x = impl_Decl_partOk_1 k x := by kernel_rfl
theorem impl_Decl_partOk_1.ok {L : List (Nat × Obj)}  (k : Nat) : SigHolds Tryz.prog L 174 (impl_Decl_partOk_1.sg k) :=
  sig_of_ev (C := impl_Decl_partOk_1.C k) holds_nil (by kernel_rfl) Tryz.func174 (by kernel_rfl) impl_Decl_partOk_1.ann impl_Decl_partOk_1.A impl_Decl_partOk_1.R (fun x y h => (impl_Decl_partOk_1.ev k x).trans h) (by kernel_rfl)

/-! slices.IndexFunc[[]loop.example/g00719/impl.Env,loop.example/g00719/impl.Env] -/
def slices_IndexFunc_impl_Env_impl_Env_v1.A : Sh := (.cons (.pur (.sl false (.cons .bool (.cons (.sl false (.cons (.int .i64) (.cons (.int .i64) .nil))) (.cons (.sl false (.cons (.int .i64) (.cons (.int .i64) .nil))) .nil))))) (.cons (.fn (.func 174) 0 .nil) .nil))
def slices_IndexFunc_impl_Env_impl_Env_v1.R : Sh := (.cons (.pur (.int .i64)) .nil)
def slices_IndexFunc_impl_Env_impl_Env_v1.ann : Ann := { loops := [(0, [(0, (.pur (.sl false (.cons .bool (.cons (.sl false (.cons (.int .i64) (.cons (.int .i64) .nil))) (.cons (.sl false (.cons (.int .i64) (.cons (.int .i64) .nil))) .nil)))))), (1, (.fn (.func 174) 0 .nil)), (7, (.pur (.int .i64))), (8, (.pur (.int .i64)))])], joins := [], keys := [] }
noncomputable def slices_IndexFunc_impl_Env_impl_Env_v1.l0 (k : Nat)  (G0 : ((List (Bool × (List (Int × Int × Unit)) × (List (Int × Int × Unit)) × Unit)) × (Unit) × Int × Int × Unit) → Option ((Int × Unit) × (Unit × (Unit) × Unit))) : ((List (Bool × (List (Int × Int × Unit)) × (List (Int × Int × Unit)) × Unit)) × (Unit) × Int × Int × Unit) → Option ((Int × Unit) × (Unit × (Unit) × Unit)) := fun x => match x with
 | (s_, (()), t7, t8, ()) =>
  br k (decide (t8 < t7))
  (br k (decide (0 ≤ t8))
  (bd k (s_[t8.toNat]?) fun x1 =>
  bd k (impl_Decl_partOk_1 k (x1, ())) fun y2 =>
  br k (y2.1.1)
  (some ((t8, ()), ((), (()), ())))
  (G0 (s_, (()), t7, IntKind.wrap .i64 (t8 + 1), ())))
  none)
  (some (((-1), ()), ((), (()), ())))
noncomputable def slices_IndexFunc_impl_Env_impl_Env_v1 (k : Nat) : ((List (Bool × (List (Int × Int × Unit)) × (List (Int × Int × Unit)) × Unit)) × (Unit) × Unit) → Option ((Int × Unit) × (Unit × (Unit) × Unit)) := fun x => match x with
 | (s_, (()), ()) =>
  iter (slices_IndexFunc_impl_Env_impl_Env_v1.l0 k) k (s_, (()), (s_.length : Int), 0, ())
noncomputable def slices_IndexFunc_impl_Env_impl_Env_v1.sg (k : Nat) : Sig := ⟨slices_IndexFunc_impl_Env_impl_Env_v1.A, slices_IndexFunc_impl_Env_impl_Env_v1.R, slices_IndexFunc_impl_Env_impl_Env_v1 k⟩
noncomputable def slices_IndexFunc_impl_Env_impl_Env_v1.C (k : Nat) : Ctx := ⟨Tryz.prog, [(174, [impl_Decl_partOk_1.sg k])], k, []⟩
theorem slices_IndexFunc_impl_Env_impl_Env_v1.ev (k : Nat) (x : slices_IndexFunc_impl_Env_impl_Env_v1.A.T) : evFunc (slices_IndexFunc_impl_Env_impl_Env_v1.C k) slices_IndexFunc_impl_Env_impl_Env_v1.ann Tryz.f184 slices_IndexFunc_impl_Env_impl_Env_v1.A slices_IndexFunc_impl_Env_impl_Env_v1.R x = slices_IndexFunc_impl_Env_impl_Env_v1 k x := by kernel_rfl
theorem slices_IndexFunc_impl_Env_impl_Env_v1.ok {L : List (Nat × Obj)}  (k : Nat) : SigHolds Tryz.prog L 184 (slices_IndexFunc_impl_Env_impl_Env_v1.sg k) :=
  sig_of_ev (C := slices_IndexFunc_impl_Env_impl_Env_v1.C k) (holds_cons (allok_cons (impl_Decl_partOk_1.ok k) allok_nil) holds_nil) (by kernel_rfl) Tryz.func184 (by kernel_rfl) slices_IndexFunc_impl_Env_impl_Env_v1.ann slices_IndexFunc_impl_Env_impl_Env_v1.A slices_IndexFunc_impl_Env_impl_Env_v1.R (fun x y h => (slices_IndexFunc_impl_Env_impl_Env_v1.ev k x).trans h) (by kernel_rfl)

/-! slices.ContainsFunc[[]loop.example/g00719/impl.Env,loop.example/g00719/impl.Env] -/
def slices_ContainsFunc_impl_Env_impl_Env_v1.A : Sh := (.cons (.pur (.sl false (.cons .bool (.cons (.sl false (.cons (.int .i64) (.cons (.int .i64) .nil))) (.cons (.sl false (.cons (.int .i64) (.cons (.int .i64) .nil))) .nil))))) (.cons (.fn (.func 174) 0 .nil) .nil))
def slices_ContainsFunc_impl_Env_impl_Env_v1.R : Sh := (.cons (.pur .bool) .nil)
def slices_ContainsFunc_impl_Env_impl_Env_v1.ann : Ann := { loops := [], joins := [], keys := [] }
noncomputable def slices_ContainsFunc_impl_Env_impl_Env_v1 (k : Nat) : ((List (Bool × (List (Int × Int × Unit)) × (List (Int × Int × Unit)) × Unit)) × (Unit) × Unit) → Option ((Bool × Unit) × (Unit × (Unit) × Unit)) := fun x => match x with
 | (s_, (()), ()) =>
  bd k (slices_IndexFunc_impl_Env_impl_Env_v1 k (s_, (()), ())) fun y1 =>
  some ((decide (y1.1.1 ≥ 0), ()), ((), (()), ()))
noncomputable def slices_ContainsFunc_impl_Env_impl_Env_v1.sg (k : Nat) : Sig := ⟨slices_ContainsFunc_impl_Env_impl_Env_v1.A, slices_ContainsFunc_impl_Env_impl_Env_v1.R, slices_ContainsFunc_impl_Env_impl_Env_v1 k⟩
noncomputable def slices_ContainsFunc_impl_Env_impl_Env_v1.C (k : Nat) : Ctx := ⟨Tryz.prog, [(184, [slices_IndexFunc_impl_Env_impl_Env_v1.sg k])], k, []⟩
theorem slices_ContainsFunc_impl_Env_impl_Env_v1.ev (k : Nat) (x : slices_ContainsFunc_impl_Env_impl_Env_v1.A.T) : evFunc (slices_ContainsFunc_impl_Env_impl_Env_v1.C k) slices_ContainsFunc_impl_Env_impl_Env_v1.ann Tryz.f159 slices_ContainsFunc_impl_Env_impl_Env_v1.A slices_ContainsFunc_impl_Env_impl_Env_v1.R x = slices_ContainsFunc_impl_Env_impl_Env_v1 k x := by kernel_rfl
theorem slices_ContainsFunc_impl_Env_impl_Env_v1.ok {L : List (Nat × Obj)}  (k : Nat) : SigHolds Tryz.prog L 159 (slices_ContainsFunc_impl_Env_impl_Env_v1.sg k) :=
  sig_of_ev (C := slices_ContainsFunc_impl_Env_impl_Env_v1.C k) (holds_cons (allok_cons (slices_IndexFunc_impl_Env_impl_Env_v1.ok k) allok_nil) holds_nil) (by kernel_rfl) Tryz.func159 (by kernel_rfl) slices_ContainsFunc_impl_Env_impl_Env_v1.ann slices_ContainsFunc_impl_Env_impl_Env_v1.A slices_ContainsFunc_impl_Env_impl_Env_v1.R (fun x y h => (slices_ContainsFunc_impl_Env_impl_Env_v1.ev k x).trans h) (by kernel_rfl)

/-! (loop.example/g00719/impl.Decl).partOk -/
def impl_Decl_partOk.A : Sh := (.cons (.pur (.cons (.sl false .str) (.cons (.sl false .str) (.cons (.sl false (.cons .str (.cons (.int .i64) .nil))) .nil)))) (.cons (.pur (.cons (.sl false (.cons (.int .i64) (.cons (.int .i64) .nil))) (.cons (.sl false (.cons .bool (.cons (.sl false (.cons (.int .i64) (.cons (.int .i64) .nil))) (.cons (.sl false (.cons (.int .i64) (.cons (.int .i64) .nil))) .nil)))) .nil))) .nil))
def impl_Decl_partOk.R : Sh := (.cons (.pur .bool) .nil)
def impl_Decl_partOk.ann : Ann := { loops := [], joins := [], keys := [] }
noncomputable def impl_Decl_partOk (k : Nat) : (((List (List UInt8)) × (List (List UInt8)) × (List ((List UInt8) × Int × Unit)) × Unit) × ((List (Int × Int × Unit)) × (List (Bool × (List (Int × Int × Unit)) × (List (Int × Int × Unit)) × Unit)) × Unit) × Unit) → Option ((Bool × Unit) × (Unit × Unit × Unit)) := fun x => match x with
 | (d_, p, ()) =>
  bd k (impl_TokenOk k (p.1, ())) fun y1 =>
  br k (y1.1.1)
  (bd k (impl_Decl_isTable k (d_, p.2.1, ())) fun y2 =>
  br k (y2.1.1)
  (bd k (slices_ContainsFunc_impl_Env_impl_Env_v1 k (p.2.1, (()), ())) fun y3 =>
  some ((y3.1.1, ()), ((), (), ())))
  (some ((false, ()), ((), (), ()))))
  (some ((false, ()), ((), (), ())))
noncomputable def impl_Decl_partOk.sg (k : Nat) : Sig := ⟨impl_Decl_partOk.A, impl_Decl_partOk.R, impl_Decl_partOk k⟩
noncomputable def impl_Decl_partOk.C (k : Nat) : Ctx := ⟨Tryz.prog, [(173, [impl_TokenOk.sg k]), (98, [impl_Decl_isTable.sg k]), (159, [slices_ContainsFunc_impl_Env_impl_Env_v1.sg k])], k, []⟩
theorem impl_Decl_partOk.ev (k : Nat) (x : impl_Decl_partOk.A.T) : evFunc (impl_Decl_partOk.C k) impl_Decl_partOk.ann Tryz.f139 impl_Decl_partOk.A impl_Decl_partOk.R x = impl_Decl_partOk k x := by kernel_rfl
theorem impl_Decl_partOk.ok {L : List (Nat × Obj)}  (k : Nat) : SigHolds Tryz.prog L 139 (impl_Decl_partOk.sg k) :=
  sig_of_ev (C := impl_Decl_partOk.C k) (holds_cons (allok_cons (impl_TokenOk.ok k) allok_nil) (holds_cons (allok_cons (impl_Decl_isTable.ok k) allok_nil) (holds_cons (allok_cons (slices_ContainsFunc_impl_Env_impl_Env_v1.ok k) allok_nil) holds_nil))) (by kernel_rfl) Tryz.func139 (by kernel_rfl) impl_Decl_partOk.ann impl_Decl_partOk.A impl_Decl_partOk.R (fun x y h => (impl_Decl_partOk.ev k x).trans h) (by kernel_rfl)

/-! loop.example/g00719/impl.areAll[loop.example/g00719/impl.Part]$1 -/
def impl_areAll_impl_Part_1.A : Sh := (.cons (.pur (.cons (.sl false (.cons (.int .i64) (.cons (.int .i64) .nil))) (.cons (.sl false (.cons .bool (.cons (.sl false (.cons (.int .i64) (.cons (.int .i64) .nil))) (.cons (.sl false (.cons (.int .i64) (.cons (.int .i64) .nil))) .nil)))) .nil))) (.cons (.box (.cons (.fn (.func 139) 1 (.cons (.pur (.cons (.sl false .str) (.cons (.sl false .str) (.cons (.sl false (.cons .str (.cons (.int .i64) .nil))) .nil)))) .nil)) .nil)) .nil))
def impl_areAll_impl_Part_1.R : Sh := (.cons (.pur .bool) .nil)
def impl_areAll_impl_Part_1.ann : Ann := { loops := [], joins := [], keys := [] }
noncomputable def impl_areAll_impl_Part_1 (k : Nat) : (((List (Int × Int × Unit)) × (List (Bool × (List (Int × Int × Unit)) × (List (Int × Int × Unit)) × Unit)) × Unit) × ((((List (List UInt8)) × (List (List UInt8)) × (List ((List UInt8) × Int × Unit)) × Unit) × Unit) × Unit) × Unit) → Option ((Bool × Unit) × (Unit × ((((List (List UInt8)) × (List (List UInt8)) × (List ((List UInt8) × Int × Unit)) × Unit) × Unit) × Unit) × Unit)) := fun x => match x with
 | (x_, ((a1_0_0, ()), ()), ()) =>
  bd k (impl_Decl_partOk k (a1_0_0, x_, ())) fun y1 =>
  some ((!y1.1.1, ()), ((), ((a1_0_0, ()), ()), ()))
noncomputable def impl_areAll_impl_Part_1.sg (k : Nat) : Sig := ⟨impl_areAll_impl_Part_1.A, impl_areAll_impl_Part_1.R, impl_areAll_impl_Part_1 k⟩
noncomputable def impl_areAll_impl_Part_1.C (k : Nat) : Ctx := ⟨Tryz.prog, [(139, [impl_Decl_partOk.sg k])], k, []⟩
theorem impl_areAll_impl_Part_1.ev (k : Nat) (x : impl_areAll_impl_Part_1.A.T) : evFunc (impl_areAll_impl_Part_1.C k) impl_areAll_impl_Part_1.ann Tryz.f172 impl_areAll_impl_Part_1.A impl_areAll_impl_Part_1.R x = impl_areAll_impl_Part_1 k x := by kernel_rfl
theorem impl_areAll_impl_Part_1.ok {L : List (Nat × Obj)}  (k : Nat) : SigHolds Tryz.prog L 172 (impl_areAll_impl_Part_1.sg k) :=
  sig_of_ev (C := impl_areAll_impl_Part_1.C k) (holds_cons (allok_cons (impl_Decl_partOk.ok k) allok_nil) holds_nil) (by kernel_rfl) Tryz.func172 (by kernel_rfl) impl_areAll_impl_Part_1.ann impl_areAll_impl_Part_1.A impl_areAll_impl_Part_1.R (fun x y h => (impl_areAll_impl_Part_1.ev k x).trans h) (by kernel_rfl)

/-! slices.IndexFunc[[]loop.example/g00719/impl.Part,loop.example/g00719/impl.Part] -/
def slices_IndexFunc_impl_Part_impl_Part.A : Sh := (.cons (.pur (.sl false (.cons (.sl false (.cons (.int .i64) (.cons (.int .i64) .nil))) (.cons (.sl false (.cons .bool (.cons (.sl false (.cons (.int .i64) (.cons (.int .i64) .nil))) (.cons (.sl false (.cons (.int .i64) (.cons (.int .i64) .nil))) .nil)))) .nil)))) (.cons (.fn (.func 172) 0 (.cons (.box (.cons (.fn (.func 139) 1 (.cons (.pur (.cons (.sl false .str) (.cons (.sl false .str) (.cons (.sl false (.cons .str (.cons (.int .i64) .nil))) .nil)))) .nil)) .nil)) .nil)) .nil))
def slices_IndexFunc_impl_Part_impl_Part.R : Sh := (.cons (.pur (.int .i64)) .nil)
def slices_IndexFunc_impl_Part_impl_Part.ann : Ann := { loops := [(0, [(0, (.pur (.sl false (.cons (.sl false (.cons (.int .i64) (.cons (.int .i64) .nil))) (.cons (.sl false (.cons .bool (.cons (.sl false (.cons (.int .i64) (.cons (.int .i64) .nil))) (.cons (.sl false (.cons (.int .i64) (.cons (.int .i64) .nil))) .nil)))) .nil))))), (1, (.fn (.func 172) 0 (.cons (.box (.cons (.fn (.func 139) 1 (.cons (.pur (.cons (.sl false .str) (.cons (.sl false .str) (.cons (.sl false (.cons .str (.cons (.int .i64) .nil))) .nil)))) .nil)) .nil)) .nil))), (7, (.pur (.int .i64))), (8, (.pur (.int .i64)))])], joins := [], keys := [] }
noncomputable def slices_IndexFunc_impl_Part_impl_Part.l0 (k : Nat)  (G0 : ((List ((List (Int × Int × Unit)) × (List (Bool × (List (Int × Int × Unit)) × (List (Int × Int × Unit)) × Unit)) × Unit)) × (((((List (List UInt8)) × (List (List UInt8)) × (List ((List UInt8) × Int × Unit)) × Unit) × Unit) × Unit) × Unit) × Int × Int × Unit) → Option ((Int × Unit) × (Unit × (((((List (List UInt8)) × (List (List UInt8)) × (List ((List UInt8) × Int × Unit)) × Unit) × Unit) × Unit) × Unit) × Unit))) : ((List ((List (Int × Int × Unit)) × (List (Bool × (List (Int × Int × Unit)) × (List (Int × Int × Unit)) × Unit)) × Unit)) × (((((List (List UInt8)) × (List (List UInt8)) × (List ((List UInt8) × Int × Unit)) × Unit) × Unit) × Unit) × Unit) × Int × Int × Unit) → Option ((Int × Unit) × (Unit × (((((List (List UInt8)) × (List (List UInt8)) × (List ((List UInt8) × Int × Unit)) × Unit) × Unit) × Unit) × Unit) × Unit)) := fun x => match x with
 | (s_, (((f_0_0_0, ()), ()), ()), t7, t8, ()) =>
  br k (decide (t8 < t7))
  (br k (decide (0 ≤ t8))
  (bd k (s_[t8.toNat]?) fun x1 =>
  bd k (impl_areAll_impl_Part_1 k (x1, ((f_0_0_0, ()), ()), ())) fun y2 =>
  br k (y2.1.1)
  (some ((t8, ()), ((), (((y2.2.2.1.1.1, ()), ()), ()), ())))
  (G0 (s_, (((y2.2.2.1.1.1, ()), ()), ()), t7, IntKind.wrap .i64 (t8 + 1), ())))
  none)
  (some (((-1), ()), ((), (((f_0_0_0, ()), ()), ()), ())))
noncomputable def slices_IndexFunc_impl_Part_impl_Part (k : Nat) : ((List ((List (Int × Int × Unit)) × (List (Bool × (List (Int × Int × Unit)) × (List (Int × Int × Unit)) × Unit)) × Unit)) × (((((List (List UInt8)) × (List (List UInt8)) × (List ((List UInt8) × Int × Unit)) × Unit) × Unit) × Unit) × Unit) × Unit) → Option ((Int × Unit) × (Unit × (((((List (List UInt8)) × (List (List UInt8)) × (List ((List UInt8) × Int × Unit)) × Unit) × Unit) × Unit) × Unit) × Unit)) := fun x => match x with
 | (s_, (((f_0_0_0, ()), ()), ()), ()) =>
  iter (slices_IndexFunc_impl_Part_impl_Part.l0 k) k (s_, (((f_0_0_0, ()), ()), ()), (s_.length : Int), 0, ())
noncomputable def slices_IndexFunc_impl_Part_impl_Part.sg (k : Nat) : Sig := ⟨slices_IndexFunc_impl_Part_impl_Part.A, slices_IndexFunc_impl_Part_impl_Part.R, slices_IndexFunc_impl_Part_impl_Part k⟩
noncomputable def slices_IndexFunc_impl_Part_impl_Part.C (k : Nat) : Ctx := ⟨Tryz.prog, [(172, [impl_areAll_impl_Part_1.sg k])], k, []⟩
theorem slices_IndexFunc_impl_Part_impl_Part.ev (k : Nat) (x : slices_IndexFunc_impl_Part_impl_Part.A.T) : evFunc (slices_IndexFunc_impl_Part_impl_Part.C k) slices_IndexFunc_impl_Part_impl_Part.ann Tryz.f188 slices_IndexFunc_impl_Part_impl_Part.A slices_IndexFunc_impl_Part_impl_Part.R x = slices_IndexFunc_impl_Part_impl_Part k x := by kernel_rfl
theorem slices_IndexFunc_impl_Part_impl_Part.ok {L : List (Nat × Obj)}  (k : Nat) : SigHolds Tryz.prog L 188 (slices_IndexFunc_impl_Part_impl_Part.sg k) :=
  sig_of_ev (C := slices_IndexFunc_impl_Part_impl_Part.C k) (holds_cons (allok_cons (impl_areAll_impl_Part_1.ok k) allok_nil) holds_nil) (by kernel_rfl) Tryz.func188 (by kernel_rfl) slices_IndexFunc_impl_Part_impl_Part.ann slices_IndexFunc_impl_Part_impl_Part.A slices_IndexFunc_impl_Part_impl_Part.R (fun x y h => (slices_IndexFunc_impl_Part_impl_Part.ev k x).trans h) (by kernel_rfl)

/-! slices.ContainsFunc[[]loop.example/g00719/impl.Part,loop.example/g00719/impl.Part] -/
def slices_ContainsFunc_impl_Part_impl_Part.A : Sh := (.cons (.pur (.sl false (.cons (.sl false (.cons (.int .i64) (.cons (.int .i64) .nil))) (.cons (.sl false (.cons .bool (.cons (.sl false (.cons (.int .i64) (.cons (.int .i64) .nil))) (.cons (.sl false (.cons (.int .i64) (.cons (.int .i64) .nil))) .nil)))) .nil)))) (.cons (.fn (.func 172) 0 (.cons (.box (.cons (.fn (.func 139) 1 (.cons (.pur (.cons (.sl false .str) (.cons (.sl false .str) (.cons (.sl false (.cons .str (.cons (.int .i64) .nil))) .nil)))) .nil)) .nil)) .nil)) .nil))
def slices_ContainsFunc_impl_Part_impl_Part.R : Sh := (.cons (.pur .bool) .nil)
def slices_ContainsFunc_impl_Part_impl_Part.ann : Ann := { loops := [], joins := [], keys := [] }
noncomputable def slices_ContainsFunc_impl_Part_impl_Part (k : Nat) : ((List ((List (Int × Int × Unit)) × (List (Bool × (List (Int × Int × Unit)) × (List (Int × Int × Unit)) × Unit)) × Unit)) × (((((List (List UInt8)) × (List (List UInt8)) × (List ((List UInt8) × Int × Unit)) × Unit) × Unit) × Unit) × Unit) × Unit) → Option ((Bool × Unit) × (Unit × (((((List (List UInt8)) × (List (List UInt8)) × (List ((List UInt8) × Int × Unit)) × Unit) × Unit) × Unit) × Unit) × Unit)) := fun x => match x with
 | (s_, (((f_0_0_0, ()), ()), ()), ()) =>
  bd k (slices_IndexFunc_impl_Part_impl_Part k (s_, (((f_0_0_0, ()), ()), ()), ())) fun y1 =>
  some ((decide (y1.1.1 ≥ 0), ()), ((), (((y1.2.2.1.1.1.1, ()), ()), ()), ()))
noncomputable def slices_ContainsFunc_impl_Part_impl_Part.sg (k : Nat) : Sig := ⟨slices_ContainsFunc_impl_Part_impl_Part.A, slices_ContainsFunc_impl_Part_impl_Part.R, slices_ContainsFunc_impl_Part_impl_Part k⟩
noncomputable def slices_ContainsFunc_impl_Part_impl_Part.C (k : Nat) : Ctx := ⟨Tryz.prog, [(188, [slices_IndexFunc_impl_Part_impl_Part.sg k])], k, []⟩
theorem slices_ContainsFunc_impl_Part_impl_Part.ev (k : Nat) (x : slices_ContainsFunc_impl_Part_impl_Part.A.T) : evFunc (slices_ContainsFunc_impl_Part_impl_Part.C k) slices_ContainsFunc_impl_Part_impl_Part.ann Tryz.f171 slices_ContainsFunc_impl_Part_impl_Part.A slices_ContainsFunc_impl_Part_impl_Part.R x = slices_ContainsFunc_impl_Part_impl_Part k x := by kernel_rfl
theorem slices_ContainsFunc_impl_Part_impl_Part.ok {L : List (Nat × Obj)}  (k : Nat) : SigHolds Tryz.prog L 171 (slices_ContainsFunc_impl_Part_impl_Part.sg k) :=
  sig_of_ev (C := slices_ContainsFunc_impl_Part_impl_Part.C k) (holds_cons (allok_cons (slices_IndexFunc_impl_Part_impl_Part.ok k) allok_nil) holds_nil) (by kernel_rfl) Tryz.func171 (by kernel_rfl) slices_ContainsFunc_impl_Part_impl_Part.ann slices_ContainsFunc_impl_Part_impl_Part.A slices_ContainsFunc_impl_Part_impl_Part.R (fun x y h => (slices_ContainsFunc_impl_Part_impl_Part.ev k x).trans h) (by kernel_rfl)

/-! loop.example/g00719/impl.areAll[loop.example/g00719/impl.Part] -/
def impl_areAll_impl_Part.A : Sh := (.cons (.pur (.sl false (.cons (.sl false (.cons (.int .i64) (.cons (.int .i64) .nil))) (.cons (.sl false (.cons .bool (.cons (.sl false (.cons (.int .i64) (.cons (.int .i64) .nil))) (.cons (.sl false (.cons (.int .i64) (.cons (.int .i64) .nil))) .nil)))) .nil)))) (.cons (.fn (.func 139) 1 (.cons (.pur (.cons (.sl false .str) (.cons (.sl false .str) (.cons (.sl false (.cons .str (.cons (.int .i64) .nil))) .nil)))) .nil)) .nil))
def impl_areAll_impl_Part.R : Sh := (.cons (.pur .bool) .nil)
def impl_areAll_impl_Part.ann : Ann := { loops := [], joins := [], keys := [] }
noncomputable def impl_areAll_impl_Part (k : Nat) : ((List ((List (Int × Int × Unit)) × (List (Bool × (List (Int × Int × Unit)) × (List (Int × Int × Unit)) × Unit)) × Unit)) × (((List (List UInt8)) × (List (List UInt8)) × (List ((List UInt8) × Int × Unit)) × Unit) × Unit) × Unit) → Option ((Bool × Unit) × (Unit × (Unit × Unit) × Unit)) := fun x => match x with
 | (list, (is_0, ()), ()) =>
  bd k (slices_ContainsFunc_impl_Part_impl_Part k (list, (((is_0, ()), ()), ()), ())) fun y1 =>
  some ((!y1.1.1, ()), ((), ((), ()), ()))
noncomputable def impl_areAll_impl_Part.sg (k : Nat) : Sig := ⟨impl_areAll_impl_Part.A, impl_areAll_impl_Part.R, impl_areAll_impl_Part k⟩
noncomputable def impl_areAll_impl_Part.C (k : Nat) : Ctx := ⟨Tryz.prog, [(171, [slices_ContainsFunc_impl_Part_impl_Part.sg k])], k, []⟩
theorem impl_areAll_impl_Part.ev (k : Nat) (x : impl_areAll_impl_Part.A.T) : evFunc (impl_areAll_impl_Part.C k) impl_areAll_impl_Part.ann Tryz.f138 impl_areAll_impl_Part.A impl_areAll_impl_Part.R x = impl_areAll_impl_Part k x := by kernel_rfl
theorem impl_areAll_impl_Part.ok {L : List (Nat × Obj)}  (k : Nat) : SigHolds Tryz.prog L 138 (impl_areAll_impl_Part.sg k) :=
  sig_of_ev (C := impl_areAll_impl_Part.C k) (holds_cons (allok_cons (slices_ContainsFunc_impl_Part_impl_Part.ok k) allok_nil) holds_nil) (by kernel_rfl) Tryz.func138 (by kernel_rfl) impl_areAll_impl_Part.ann impl_areAll_impl_Part.A impl_areAll_impl_Part.R (fun x y h => (impl_areAll_impl_Part.ev k x).trans h) (by kernel_rfl)

/-! (loop.example/g00719/impl.Decl).areParts -/
def impl_Decl_areParts.A : Sh := (.cons (.pur (.cons (.sl false .str) (.cons (.sl false .str) (.cons (.sl false (.cons .str (.cons (.int .i64) .nil))) .nil)))) (.cons (.pur (.sl false (.cons (.sl false (.cons (.int .i64) (.cons (.int .i64) .nil))) (.cons (.sl false (.cons .bool (.cons (.sl false (.cons (.int .i64) (.cons (.int .i64) .nil))) (.cons (.sl false (.cons (.int .i64) (.cons (.int .i64) .nil))) .nil)))) .nil)))) .nil))
def impl_Decl_areParts.R : Sh := (.cons (.pur .bool) .nil)
def impl_Decl_areParts.ann : Ann := { loops := [(0, [(1, (.pur (.sl false (.cons (.sl false (.cons (.int .i64) (.cons (.int .i64) .nil))) (.cons (.sl false (.cons .bool (.cons (.sl false (.cons (.int .i64) (.cons (.int .i64) .nil))) (.cons (.sl false (.cons (.int .i64) (.cons (.int .i64) .nil))) .nil)))) .nil))))), (2, (.box (.cons (.pur (.sl false .str)) (.cons (.pur (.sl false .str)) (.cons (.pur (.sl false (.cons .str (.cons (.int .i64) .nil)))) .nil))))), (5, (.pur (.int .i64)))])], joins := [], keys := [] }
noncomputable def impl_Decl_areParts.l0 (k : Nat)  (G0 : ((List ((List (Int × Int × Unit)) × (List (Bool × (List (Int × Int × Unit)) × (List (Int × Int × Unit)) × Unit)) × Unit)) × ((List (List UInt8)) × (List (List UInt8)) × (List ((List UInt8) × Int × Unit)) × Unit) × Int × Unit) → Option ((Bool × Unit) × (Unit × Unit × Unit))) : ((List ((List (Int × Int × Unit)) × (List (Bool × (List (Int × Int × Unit)) × (List (Int × Int × Unit)) × Unit)) × Unit)) × ((List (List UInt8)) × (List (List UInt8)) × (List ((List UInt8) × Int × Unit)) × Unit) × Int × Unit) → Option ((Bool × Unit) × (Unit × Unit × Unit)) := fun x => match x with
 | (l_, (d__0, d__1, d__2, ()), i, ()) =>
  br k (decide (i < (l_.length : Int)))
  (br k (decide (0 ≤ (IntKind.wrap .i64 (i - 1))))
  (bd k (l_[(IntKind.wrap .i64 (i - 1)).toNat]?) fun x1 =>
  br k (decide (0 ≤ i))
  (bd k (l_[i.toNat]?) fun x2 =>
  bd k (impl_compareTokens k (x1.1, x2.1, ())) fun y3 =>
  br k (decide (y3.1.1 ≥ 0))
  (some ((false, ()), ((), (), ())))
  (G0 (l_, (d__0, d__1, d__2, ()), IntKind.wrap .i64 (i + 1), ())))
  none)
  none)
  (br k (decide ((l_.length : Int) ≤ 100))
  (bd k (impl_areAll_impl_Part k (l_, ((d__0, d__1, d__2, ()), ()), ())) fun y4 =>
  some ((y4.1.1, ()), ((), (), ())))
  (some ((false, ()), ((), (), ()))))
noncomputable def impl_Decl_areParts (k : Nat) : (((List (List UInt8)) × (List (List UInt8)) × (List ((List UInt8) × Int × Unit)) × Unit) × (List ((List (Int × Int × Unit)) × (List (Bool × (List (Int × Int × Unit)) × (List (Int × Int × Unit)) × Unit)) × Unit)) × Unit) → Option ((Bool × Unit) × (Unit × Unit × Unit)) := fun x => match x with
 | (d_, l_, ()) =>
  iter (impl_Decl_areParts.l0 k) k (l_, (d_.1, d_.2.1, d_.2.2.1, ()), 1, ())
noncomputable def impl_Decl_areParts.sg (k : Nat) : Sig := ⟨impl_Decl_areParts.A, impl_Decl_areParts.R, impl_Decl_areParts k⟩
noncomputable def impl_Decl_areParts.C (k : Nat) : Ctx := ⟨Tryz.prog, [(137, [impl_compareTokens.sg k]), (138, [impl_areAll_impl_Part.sg k])], k, []⟩
theorem impl_Decl_areParts.ev (k : Nat) (x : impl_Decl_areParts.A.T) : evFunc (impl_Decl_areParts.C k) impl_Decl_areParts.ann Tryz.f105 impl_Decl_areParts.A impl_Decl_areParts.R x = impl_Decl_areParts k x := by kernel_rfl
theorem impl_Decl_areParts.ok {L : List (Nat × Obj)}  (k : Nat) : SigHolds Tryz.prog L 105 (impl_Decl_areParts.sg k) :=
  sig_of_ev (C := impl_Decl_areParts.C k) (holds_cons (allok_cons (impl_compareTokens.ok k) allok_nil) (holds_cons (allok_cons (impl_areAll_impl_Part.ok k) allok_nil) holds_nil)) (by kernel_rfl) Tryz.func105 (by kernel_rfl) impl_Decl_areParts.ann impl_Decl_areParts.A impl_Decl_areParts.R (fun x y h => (impl_Decl_areParts.ev k x).trans h) (by kernel_rfl)






/-! loop.example/g00719/spec.PartsOk -/
def spec_PartsOk.A : Sh := (.cons (.pur (.cons (.sl false .str) (.cons (.sl false .str) (.cons (.sl false (.cons .str (.cons (.int .i64) .nil))) .nil)))) (.cons (.pur (.sl false (.cons (.sl false (.cons (.int .i64) (.cons (.int .i64) .nil))) (.cons (.sl false (.cons .bool (.cons (.sl false (.cons (.int .i64) (.cons (.int .i64) .nil))) (.cons (.sl false (.cons (.int .i64) (.cons (.int .i64) .nil))) .nil)))) .nil)))) .nil))
def spec_PartsOk.R : Sh := (.cons (.pur .bool) .nil)
def spec_PartsOk.ann : Ann := { loops := [(0, [(1, (.pur (.sl false (.cons (.sl false (.cons (.int .i64) (.cons (.int .i64) .nil))) (.cons (.sl false (.cons .bool (.cons (.sl false (.cons (.int .i64) (.cons (.int .i64) .nil))) (.cons (.sl false (.cons (.int .i64) (.cons (.int .i64) .nil))) .nil)))) .nil))))), (2, (.box (.cons (.pur (.sl false .str)) (.cons (.pur (.sl false .str)) (.cons (.pur (.sl false (.cons .str (.cons (.int .i64) .nil)))) .nil))))), (5, (.pur (.int .i64)))])], joins := [(1, [(13, .bool)]), (6, [(64, .bool)])], keys := [] }
noncomputable def spec_PartsOk.l0 (k : Nat)  (G0 : ((List ((List (Int × Int × Unit)) × (List (Bool × (List (Int × Int × Unit)) × (List (Int × Int × Unit)) × Unit)) × Unit)) × ((List (List UInt8)) × (List (List UInt8)) × (List ((List UInt8) × Int × Unit)) × Unit) × Int × Unit) → Option ((Bool × Unit) × (Unit × Unit × Unit))) : ((List ((List (Int × Int × Unit)) × (List (Bool × (List (Int × Int × Unit)) × (List (Int × Int × Unit)) × Unit)) × Unit)) × ((List (List UInt8)) × (List (List UInt8)) × (List ((List UInt8) × Int × Unit)) × Unit) × Int × Unit) → Option ((Bool × Unit) × (Unit × Unit × Unit)) := fun x => match x with
 | (l_, (d__0, d__1, d__2, ()), i, ()) =>
  br k (decide (i < (l_.length : Int)))
  ((br k (decide (0 ≤ i))
  (bd k (l_[i.toNat]?) fun x3 =>
  bd k (spec_TokenOk k (x3.1, ())) fun y4 =>
  br k (!y4.1.1)
  (some (true, ()))
  (br k (decide (i > 0))
  (br k (decide (0 ≤ (IntKind.wrap .i64 (i - 1))))
  (bd k (l_[(IntKind.wrap .i64 (i - 1)).toNat]?) fun x5 =>
  br k (decide (0 ≤ i))
  (bd k (l_[i.toNat]?) fun x6 =>
  bd k (spec_l9Cmp k (x5.1, x6.1, ())) fun y7 =>
  br k (decide (y7.1.1 ≥ 0))
  (some (true, ()))
  (br k (decide (0 ≤ i))
  (bd k (l_[i.toNat]?) fun x8 =>
  bd k (spec_TableOk k ((d__0, d__1, d__2, ()), x8.2.1, ())) fun y9 =>
  br k (!y9.1.1)
  (some (true, ()))
  (br k (decide (0 ≤ i))
  (bd k (l_[i.toNat]?) fun x10 =>
  bd k (spec_l9Live k (x10.2.1, ())) fun y11 =>
  some (!y11.1.1, ()))
  none))
  none))
  none)
  none)
  (br k (decide (0 ≤ i))
  (bd k (l_[i.toNat]?) fun x12 =>
  bd k (spec_TableOk k ((d__0, d__1, d__2, ()), x12.2.1, ())) fun y13 =>
  br k (!y13.1.1)
  (some (true, ()))
  (br k (decide (0 ≤ i))
  (bd k (l_[i.toNat]?) fun x14 =>
  bd k (spec_l9Live k (x14.2.1, ())) fun y15 =>
  some (!y15.1.1, ()))
  none))
  none)))
  none : Option (Bool × Unit)).bind fun j16 =>
  br k (j16.1)
  (some ((false, ()), ((), (), ())))
  (G0 (l_, (d__0, d__1, d__2, ()), IntKind.wrap .i64 (i + 1), ())))
  (some ((true, ()), ((), (), ())))
noncomputable def spec_PartsOk (k : Nat) : (((List (List UInt8)) × (List (List UInt8)) × (List ((List UInt8) × Int × Unit)) × Unit) × (List ((List (Int × Int × Unit)) × (List (Bool × (List (Int × Int × Unit)) × (List (Int × Int × Unit)) × Unit)) × Unit)) × Unit) → Option ((Bool × Unit) × (Unit × Unit × Unit)) := fun x => match x with
 | (d_, l_, ()) =>
  (bd k (spec_DeclOk k (d_, ())) fun y1 =>
  br k (!y1.1.1)
  (some (true, ()))
  (some (decide ((l_.length : Int) > 100), ())) : Option (Bool × Unit)).bind fun j2 =>
  br k (j2.1)
  (some ((false, ()), ((), (), ())))
  (iter (spec_PartsOk.l0 k) k (l_, (d_.1, d_.2.1, d_.2.2.1, ()), 0, ()))
noncomputable def spec_PartsOk.sg (k : Nat) : Sig := ⟨spec_PartsOk.A, spec_PartsOk.R, spec_PartsOk k⟩
noncomputable def spec_PartsOk.C (k : Nat) : Ctx := ⟨Tryz.prog, [(45, [spec_DeclOk.sg k]), (67, [spec_TokenOk.sg k]), (68, [spec_l9Cmp.sg k]), (22, [spec_TableOk.sg k]), (69, [spec_l9Live.sg k])], k, []⟩
theorem spec_PartsOk.ev (k : Nat) (x : spec_PartsOk.A.T) : evFunc (spec_PartsOk.C k) spec_PartsOk.ann Tryz.f27 spec_PartsOk.A spec_PartsOk.R x = spec_PartsOk k x := by kernel_rfl
theorem spec_PartsOk.ok {L : List (Nat × Obj)}  (k : Nat) : SigHolds Tryz.prog L 27 (spec_PartsOk.sg k) :=
  sig_of_ev (C := spec_PartsOk.C k) (holds_cons (allok_cons (spec_DeclOk.ok k) allok_nil) (holds_cons (allok_cons (spec_TokenOk.ok k) allok_nil) (holds_cons (allok_cons (spec_l9Cmp.ok k) allok_nil) (holds_cons (allok_cons (spec_TableOk.ok k) allok_nil) (holds_cons (allok_cons (spec_l9Live.ok k) allok_nil) holds_nil))))) (by kernel_rfl) Tryz.func27 (by kernel_rfl) spec_PartsOk.ann spec_PartsOk.A spec_PartsOk.R (fun x y h => (spec_PartsOk.ev k x).trans h) (by kernel_rfl)




end Go.Pev.F
