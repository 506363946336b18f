/-
  Printed by gen.py: what functions of the program compute, and that they do.
-/
import Derived.Test.YtamhcmffadindaaGreatDoorK08
open Go.Proofs Go.Pev
namespace Go.Pev.F
set_option maxRecDepth 100000
set_option linter.unusedVariables false

/-! loop.example/g00719/impl.areAll[loop.example/g00719/impl.Part]$1 -/
def impl_areAll_impl_Part_1.A : Sh := (.cons (.pur (.cons (.sl false (.cons (.int .i64) (.cons (.int .i64) .nil))) (.cons (.sl false (.cons .bool (.cons (.sl false (.cons (.int .i64) (.cons (.int .i64) .nil))) (.cons (.sl false (.cons (.int .i64) (.cons (.int .i64) .nil))) .nil)))) .nil))) (.cons (.box (.cons (.fn (.func 142) 1 (.cons (.pur (.cons (.sl false .str) (.cons (.sl false .str) (.cons (.sl false (.cons .str (.cons (.int .i64) .nil))) .nil)))) .nil)) .nil)) .nil))
def impl_areAll_impl_Part_1.R : Sh := (.cons (.pur .bool) .nil)
def impl_areAll_impl_Part_1.ann : Ann := { loops := [], joins := [], keys := [] }
noncomputable def impl_areAll_impl_Part_1 (k : Nat) : (((List (Int × Int × Unit)) × (List (Bool × (List (Int × Int × Unit)) × (List (Int × Int × Unit)) × Unit)) × Unit) × ((((List (List UInt8)) × (List (List UInt8)) × (List ((List UInt8) × Int × Unit)) × Unit) × Unit) × Unit) × Unit) → Option ((Bool × Unit) × (Unit × ((((List (List UInt8)) × (List (List UInt8)) × (List ((List UInt8) × Int × Unit)) × Unit) × Unit) × Unit) × Unit)) := fun x => match x with
 | (x_, ((a1_0_0, ()), ()), ()) =>
  bd k (impl_Decl_partOk k (a1_0_0, x_, ())) fun y1 =>
  some ((!y1.1.1, ()), ((), ((a1_0_0, ()), ()), ()))
noncomputable def impl_areAll_impl_Part_1.sg (k : Nat) : Sig := ⟨impl_areAll_impl_Part_1.A, impl_areAll_impl_Part_1.R, impl_areAll_impl_Part_1 k⟩
noncomputable def impl_areAll_impl_Part_1.C (k : Nat) : Ctx := ⟨Tryz.prog, [(142, [impl_Decl_partOk.sg k])], k⟩
theorem impl_areAll_impl_Part_1.ev (k : Nat) (x : impl_areAll_impl_Part_1.A.T) : evFunc (impl_areAll_impl_Part_1.C k) impl_areAll_impl_Part_1.ann Tryz.f165 impl_areAll_impl_Part_1.A impl_areAll_impl_Part_1.R x = impl_areAll_impl_Part_1 k x := by kernel_rfl
theorem impl_areAll_impl_Part_1.ok {L : List (Nat × Obj)}  (k : Nat) : SigHolds Tryz.prog L 165 (impl_areAll_impl_Part_1.sg k) :=
  sig_of_ev (C := impl_areAll_impl_Part_1.C k) (holds_cons (allok_cons (impl_Decl_partOk.ok k) allok_nil) holds_nil) (by kernel_rfl) Tryz.func165 (by kernel_rfl) impl_areAll_impl_Part_1.ann impl_areAll_impl_Part_1.A impl_areAll_impl_Part_1.R (fun x y h => (impl_areAll_impl_Part_1.ev k x).trans h) (by kernel_rfl)

/-! slices.IndexFunc[[]loop.example/g00719/impl.Part,loop.example/g00719/impl.Part] -/
def slices_IndexFunc_impl_Part_impl_Part.A : Sh := (.cons (.pur (.sl false (.cons (.sl false (.cons (.int .i64) (.cons (.int .i64) .nil))) (.cons (.sl false (.cons .bool (.cons (.sl false (.cons (.int .i64) (.cons (.int .i64) .nil))) (.cons (.sl false (.cons (.int .i64) (.cons (.int .i64) .nil))) .nil)))) .nil)))) (.cons (.fn (.func 165) 0 (.cons (.box (.cons (.fn (.func 142) 1 (.cons (.pur (.cons (.sl false .str) (.cons (.sl false .str) (.cons (.sl false (.cons .str (.cons (.int .i64) .nil))) .nil)))) .nil)) .nil)) .nil)) .nil))
def slices_IndexFunc_impl_Part_impl_Part.R : Sh := (.cons (.pur (.int .i64)) .nil)
def slices_IndexFunc_impl_Part_impl_Part.ann : Ann := { loops := [(0, [(0, (.pur (.sl false (.cons (.sl false (.cons (.int .i64) (.cons (.int .i64) .nil))) (.cons (.sl false (.cons .bool (.cons (.sl false (.cons (.int .i64) (.cons (.int .i64) .nil))) (.cons (.sl false (.cons (.int .i64) (.cons (.int .i64) .nil))) .nil)))) .nil))))), (1, (.fn (.func 165) 0 (.cons (.box (.cons (.fn (.func 142) 1 (.cons (.pur (.cons (.sl false .str) (.cons (.sl false .str) (.cons (.sl false (.cons .str (.cons (.int .i64) .nil))) .nil)))) .nil)) .nil)) .nil))), (7, (.pur (.int .i64))), (8, (.pur (.int .i64)))])], joins := [], keys := [] }
noncomputable def slices_IndexFunc_impl_Part_impl_Part.l0 (k : Nat)  (G0 : ((List ((List (Int × Int × Unit)) × (List (Bool × (List (Int × Int × Unit)) × (List (Int × Int × Unit)) × Unit)) × Unit)) × (((((List (List UInt8)) × (List (List UInt8)) × (List ((List UInt8) × Int × Unit)) × Unit) × Unit) × Unit) × Unit) × Int × Int × Unit) → Option ((Int × Unit) × (Unit × (((((List (List UInt8)) × (List (List UInt8)) × (List ((List UInt8) × Int × Unit)) × Unit) × Unit) × Unit) × Unit) × Unit))) : ((List ((List (Int × Int × Unit)) × (List (Bool × (List (Int × Int × Unit)) × (List (Int × Int × Unit)) × Unit)) × Unit)) × (((((List (List UInt8)) × (List (List UInt8)) × (List ((List UInt8) × Int × Unit)) × Unit) × Unit) × Unit) × Unit) × Int × Int × Unit) → Option ((Int × Unit) × (Unit × (((((List (List UInt8)) × (List (List UInt8)) × (List ((List UInt8) × Int × Unit)) × Unit) × Unit) × Unit) × Unit) × Unit)) := fun x => match x with
 | (s_, (((f_0_0_0, ()), ()), ()), t7, t8, ()) =>
  br k (decide (t8 < t7))
  (br k (decide (0 ≤ t8))
  (bd k (s_[t8.toNat]?) fun x1 =>
  bd k (impl_areAll_impl_Part_1 k (x1, ((f_0_0_0, ()), ()), ())) fun y2 =>
  br k (y2.1.1)
  (some ((t8, ()), ((), (((y2.2.2.1.1.1, ()), ()), ()), ())))
  (G0 (s_, (((y2.2.2.1.1.1, ()), ()), ()), t7, IntKind.wrap .i64 (t8 + 1), ())))
  none)
  (some (((-1), ()), ((), (((f_0_0_0, ()), ()), ()), ())))
noncomputable def slices_IndexFunc_impl_Part_impl_Part (k : Nat) : ((List ((List (Int × Int × Unit)) × (List (Bool × (List (Int × Int × Unit)) × (List (Int × Int × Unit)) × Unit)) × Unit)) × (((((List (List UInt8)) × (List (List UInt8)) × (List ((List UInt8) × Int × Unit)) × Unit) × Unit) × Unit) × Unit) × Unit) → Option ((Int × Unit) × (Unit × (((((List (List UInt8)) × (List (List UInt8)) × (List ((List UInt8) × Int × Unit)) × Unit) × Unit) × Unit) × Unit) × Unit)) := fun x => match x with
 | (s_, (((f_0_0_0, ()), ()), ()), ()) =>
  iter (slices_IndexFunc_impl_Part_impl_Part.l0 k) k (s_, (((f_0_0_0, ()), ()), ()), (s_.length : Int), 0, ())
noncomputable def slices_IndexFunc_impl_Part_impl_Part.sg (k : Nat) : Sig := ⟨slices_IndexFunc_impl_Part_impl_Part.A, slices_IndexFunc_impl_Part_impl_Part.R, slices_IndexFunc_impl_Part_impl_Part k⟩
noncomputable def slices_IndexFunc_impl_Part_impl_Part.C (k : Nat) : Ctx := ⟨Tryz.prog, [(165, [impl_areAll_impl_Part_1.sg k])], k⟩
theorem slices_IndexFunc_impl_Part_impl_Part.ev (k : Nat) (x : slices_IndexFunc_impl_Part_impl_Part.A.T) : evFunc (slices_IndexFunc_impl_Part_impl_Part.C k) slices_IndexFunc_impl_Part_impl_Part.ann Tryz.f183 slices_IndexFunc_impl_Part_impl_Part.A slices_IndexFunc_impl_Part_impl_Part.R x = slices_IndexFunc_impl_Part_impl_Part k x := by kernel_rfl
theorem slices_IndexFunc_impl_Part_impl_Part.ok {L : List (Nat × Obj)}  (k : Nat) : SigHolds Tryz.prog L 183 (slices_IndexFunc_impl_Part_impl_Part.sg k) :=
  sig_of_ev (C := slices_IndexFunc_impl_Part_impl_Part.C k) (holds_cons (allok_cons (impl_areAll_impl_Part_1.ok k) allok_nil) holds_nil) (by kernel_rfl) Tryz.func183 (by kernel_rfl) slices_IndexFunc_impl_Part_impl_Part.ann slices_IndexFunc_impl_Part_impl_Part.A slices_IndexFunc_impl_Part_impl_Part.R (fun x y h => (slices_IndexFunc_impl_Part_impl_Part.ev k x).trans h) (by kernel_rfl)

/-! slices.ContainsFunc[[]loop.example/g00719/impl.Part,loop.example/g00719/impl.Part] -/
def slices_ContainsFunc_impl_Part_impl_Part.A : Sh := (.cons (.pur (.sl false (.cons (.sl false (.cons (.int .i64) (.cons (.int .i64) .nil))) (.cons (.sl false (.cons .bool (.cons (.sl false (.cons (.int .i64) (.cons (.int .i64) .nil))) (.cons (.sl false (.cons (.int .i64) (.cons (.int .i64) .nil))) .nil)))) .nil)))) (.cons (.fn (.func 165) 0 (.cons (.box (.cons (.fn (.func 142) 1 (.cons (.pur (.cons (.sl false .str) (.cons (.sl false .str) (.cons (.sl false (.cons .str (.cons (.int .i64) .nil))) .nil)))) .nil)) .nil)) .nil)) .nil))
def slices_ContainsFunc_impl_Part_impl_Part.R : Sh := (.cons (.pur .bool) .nil)
def slices_ContainsFunc_impl_Part_impl_Part.ann : Ann := { loops := [], joins := [], keys := [] }
noncomputable def slices_ContainsFunc_impl_Part_impl_Part (k : Nat) : ((List ((List (Int × Int × Unit)) × (List (Bool × (List (Int × Int × Unit)) × (List (Int × Int × Unit)) × Unit)) × Unit)) × (((((List (List UInt8)) × (List (List UInt8)) × (List ((List UInt8) × Int × Unit)) × Unit) × Unit) × Unit) × Unit) × Unit) → Option ((Bool × Unit) × (Unit × (((((List (List UInt8)) × (List (List UInt8)) × (List ((List UInt8) × Int × Unit)) × Unit) × Unit) × Unit) × Unit) × Unit)) := fun x => match x with
 | (s_, (((f_0_0_0, ()), ()), ()), ()) =>
  bd k (slices_IndexFunc_impl_Part_impl_Part k (s_, (((f_0_0_0, ()), ()), ()), ())) fun y1 =>
  some ((decide (y1.1.1 ≥ 0), ()), ((), (((y1.2.2.1.1.1.1, ()), ()), ()), ()))
noncomputable def slices_ContainsFunc_impl_Part_impl_Part.sg (k : Nat) : Sig := ⟨slices_ContainsFunc_impl_Part_impl_Part.A, slices_ContainsFunc_impl_Part_impl_Part.R, slices_ContainsFunc_impl_Part_impl_Part k⟩
noncomputable def slices_ContainsFunc_impl_Part_impl_Part.C (k : Nat) : Ctx := ⟨Tryz.prog, [(183, [slices_IndexFunc_impl_Part_impl_Part.sg k])], k⟩
theorem slices_ContainsFunc_impl_Part_impl_Part.ev (k : Nat) (x : slices_ContainsFunc_impl_Part_impl_Part.A.T) : evFunc (slices_ContainsFunc_impl_Part_impl_Part.C k) slices_ContainsFunc_impl_Part_impl_Part.ann Tryz.f164 slices_ContainsFunc_impl_Part_impl_Part.A slices_ContainsFunc_impl_Part_impl_Part.R x = slices_ContainsFunc_impl_Part_impl_Part k x := by kernel_rfl
theorem slices_ContainsFunc_impl_Part_impl_Part.ok {L : List (Nat × Obj)}  (k : Nat) : SigHolds Tryz.prog L 164 (slices_ContainsFunc_impl_Part_impl_Part.sg k) :=
  sig_of_ev (C := slices_ContainsFunc_impl_Part_impl_Part.C k) (holds_cons (allok_cons (slices_IndexFunc_impl_Part_impl_Part.ok k) allok_nil) holds_nil) (by kernel_rfl) Tryz.func164 (by kernel_rfl) slices_ContainsFunc_impl_Part_impl_Part.ann slices_ContainsFunc_impl_Part_impl_Part.A slices_ContainsFunc_impl_Part_impl_Part.R (fun x y h => (slices_ContainsFunc_impl_Part_impl_Part.ev k x).trans h) (by kernel_rfl)

/-! loop.example/g00719/impl.areAll[loop.example/g00719/impl.Part] -/
def impl_areAll_impl_Part.A : Sh := (.cons (.pur (.sl false (.cons (.sl false (.cons (.int .i64) (.cons (.int .i64) .nil))) (.cons (.sl false (.cons .bool (.cons (.sl false (.cons (.int .i64) (.cons (.int .i64) .nil))) (.cons (.sl false (.cons (.int .i64) (.cons (.int .i64) .nil))) .nil)))) .nil)))) (.cons (.fn (.func 142) 1 (.cons (.pur (.cons (.sl false .str) (.cons (.sl false .str) (.cons (.sl false (.cons .str (.cons (.int .i64) .nil))) .nil)))) .nil)) .nil))
def impl_areAll_impl_Part.R : Sh := (.cons (.pur .bool) .nil)
def impl_areAll_impl_Part.ann : Ann := { loops := [], joins := [], keys := [] }
noncomputable def impl_areAll_impl_Part (k : Nat) : ((List ((List (Int × Int × Unit)) × (List (Bool × (List (Int × Int × Unit)) × (List (Int × Int × Unit)) × Unit)) × Unit)) × (((List (List UInt8)) × (List (List UInt8)) × (List ((List UInt8) × Int × Unit)) × Unit) × Unit) × Unit) → Option ((Bool × Unit) × (Unit × (Unit × Unit) × Unit)) := fun x => match x with
 | (list, (is_0, ()), ()) =>
  bd k (slices_ContainsFunc_impl_Part_impl_Part k (list, (((is_0, ()), ()), ()), ())) fun y1 =>
  some ((!y1.1.1, ()), ((), ((), ()), ()))
noncomputable def impl_areAll_impl_Part.sg (k : Nat) : Sig := ⟨impl_areAll_impl_Part.A, impl_areAll_impl_Part.R, impl_areAll_impl_Part k⟩
noncomputable def impl_areAll_impl_Part.C (k : Nat) : Ctx := ⟨Tryz.prog, [(164, [slices_ContainsFunc_impl_Part_impl_Part.sg k])], k⟩
theorem impl_areAll_impl_Part.ev (k : Nat) (x : impl_areAll_impl_Part.A.T) : evFunc (impl_areAll_impl_Part.C k) impl_areAll_impl_Part.ann Tryz.f141 impl_areAll_impl_Part.A impl_areAll_impl_Part.R x = impl_areAll_impl_Part k x := by kernel_rfl
theorem impl_areAll_impl_Part.ok {L : List (Nat × Obj)}  (k : Nat) : SigHolds Tryz.prog L 141 (impl_areAll_impl_Part.sg k) :=
  sig_of_ev (C := impl_areAll_impl_Part.C k) (holds_cons (allok_cons (slices_ContainsFunc_impl_Part_impl_Part.ok k) allok_nil) holds_nil) (by kernel_rfl) Tryz.func141 (by kernel_rfl) impl_areAll_impl_Part.ann impl_areAll_impl_Part.A impl_areAll_impl_Part.R (fun x y h => (impl_areAll_impl_Part.ev k x).trans h) (by kernel_rfl)

/-! (loop.example/g00719/impl.Decl).areParts -/
def impl_Decl_areParts.A : Sh := (.cons (.pur (.cons (.sl false .str) (.cons (.sl false .str) (.cons (.sl false (.cons .str (.cons (.int .i64) .nil))) .nil)))) (.cons (.pur (.sl false (.cons (.sl false (.cons (.int .i64) (.cons (.int .i64) .nil))) (.cons (.sl false (.cons .bool (.cons (.sl false (.cons (.int .i64) (.cons (.int .i64) .nil))) (.cons (.sl false (.cons (.int .i64) (.cons (.int .i64) .nil))) .nil)))) .nil)))) .nil))
def impl_Decl_areParts.R : Sh := (.cons (.pur .bool) .nil)
def impl_Decl_areParts.ann : Ann := { loops := [(0, [(1, (.pur (.sl false (.cons (.sl false (.cons (.int .i64) (.cons (.int .i64) .nil))) (.cons (.sl false (.cons .bool (.cons (.sl false (.cons (.int .i64) (.cons (.int .i64) .nil))) (.cons (.sl false (.cons (.int .i64) (.cons (.int .i64) .nil))) .nil)))) .nil))))), (2, (.box (.cons (.pur (.sl false .str)) (.cons (.pur (.sl false .str)) (.cons (.pur (.sl false (.cons .str (.cons (.int .i64) .nil)))) .nil))))), (5, (.pur (.int .i64)))])], joins := [], keys := [] }
noncomputable def impl_Decl_areParts.l0 (k : Nat)  (G0 : ((List ((List (Int × Int × Unit)) × (List (Bool × (List (Int × Int × Unit)) × (List (Int × Int × Unit)) × Unit)) × Unit)) × ((List (List UInt8)) × (List (List UInt8)) × (List ((List UInt8) × Int × Unit)) × Unit) × Int × Unit) → Option ((Bool × Unit) × (Unit × Unit × Unit))) : ((List ((List (Int × Int × Unit)) × (List (Bool × (List (Int × Int × Unit)) × (List (Int × Int × Unit)) × Unit)) × Unit)) × ((List (List UInt8)) × (List (List UInt8)) × (List ((List UInt8) × Int × Unit)) × Unit) × Int × Unit) → Option ((Bool × Unit) × (Unit × Unit × Unit)) := fun x => match x with
 | (l_, (d__0, d__1, d__2, ()), i, ()) =>
  br k (decide (i < (l_.length : Int)))
  (br k (decide (0 ≤ (IntKind.wrap .i64 (i - 1))))
  (bd k (l_[(IntKind.wrap .i64 (i - 1)).toNat]?) fun x1 =>
  br k (decide (0 ≤ i))
  (bd k (l_[i.toNat]?) fun x2 =>
  bd k (impl_compareTokens k (x1.1, x2.1, ())) fun y3 =>
  br k (decide (y3.1.1 ≥ 0))
  (some ((false, ()), ((), (), ())))
  (G0 (l_, (d__0, d__1, d__2, ()), IntKind.wrap .i64 (i + 1), ())))
  none)
  none)
  (br k (decide ((l_.length : Int) ≤ 100))
  (bd k (impl_areAll_impl_Part k (l_, ((d__0, d__1, d__2, ()), ()), ())) fun y4 =>
  some ((y4.1.1, ()), ((), (), ())))
  (some ((false, ()), ((), (), ()))))
noncomputable def impl_Decl_areParts (k : Nat) : (((List (List UInt8)) × (List (List UInt8)) × (List ((List UInt8) × Int × Unit)) × Unit) × (List ((List (Int × Int × Unit)) × (List (Bool × (List (Int × Int × Unit)) × (List (Int × Int × Unit)) × Unit)) × Unit)) × Unit) → Option ((Bool × Unit) × (Unit × Unit × Unit)) := fun x => match x with
 | (d_, l_, ()) =>
  iter (impl_Decl_areParts.l0 k) k (l_, (d_.1, d_.2.1, d_.2.2.1, ()), 1, ())
noncomputable def impl_Decl_areParts.sg (k : Nat) : Sig := ⟨impl_Decl_areParts.A, impl_Decl_areParts.R, impl_Decl_areParts k⟩
noncomputable def impl_Decl_areParts.C (k : Nat) : Ctx := ⟨Tryz.prog, [(111, [impl_compareTokens.sg k]), (141, [impl_areAll_impl_Part.sg k])], k⟩
theorem impl_Decl_areParts.ev (k : Nat) (x : impl_Decl_areParts.A.T) : evFunc (impl_Decl_areParts.C k) impl_Decl_areParts.ann Tryz.f108 impl_Decl_areParts.A impl_Decl_areParts.R x = impl_Decl_areParts k x := by kernel_rfl
theorem impl_Decl_areParts.ok {L : List (Nat × Obj)}  (k : Nat) : SigHolds Tryz.prog L 108 (impl_Decl_areParts.sg k) :=
  sig_of_ev (C := impl_Decl_areParts.C k) (holds_cons (allok_cons (impl_compareTokens.ok k) allok_nil) (holds_cons (allok_cons (impl_areAll_impl_Part.ok k) allok_nil) holds_nil)) (by kernel_rfl) Tryz.func108 (by kernel_rfl) impl_Decl_areParts.ann impl_Decl_areParts.A impl_Decl_areParts.R (fun x y h => (impl_Decl_areParts.ev k x).trans h) (by kernel_rfl)

/-! loop.example/g00719/impl.PartsOk -/
def impl_PartsOk.A : Sh := (.cons (.pur (.cons (.sl false .str) (.cons (.sl false .str) (.cons (.sl false (.cons .str (.cons (.int .i64) .nil))) .nil)))) (.cons (.pur (.sl false (.cons (.sl false (.cons (.int .i64) (.cons (.int .i64) .nil))) (.cons (.sl false (.cons .bool (.cons (.sl false (.cons (.int .i64) (.cons (.int .i64) .nil))) (.cons (.sl false (.cons (.int .i64) (.cons (.int .i64) .nil))) .nil)))) .nil)))) .nil))
def impl_PartsOk.R : Sh := (.cons (.pur .bool) .nil)
def impl_PartsOk.ann : Ann := { loops := [], joins := [(1, [(4, .bool)])], keys := [] }
noncomputable def impl_PartsOk (k : Nat) : (((List (List UInt8)) × (List (List UInt8)) × (List ((List UInt8) × Int × Unit)) × Unit) × (List ((List (Int × Int × Unit)) × (List (Bool × (List (Int × Int × Unit)) × (List (Int × Int × Unit)) × Unit)) × Unit)) × Unit) → Option ((Bool × Unit) × (Unit × Unit × Unit)) := fun x => match x with
 | (d_, l_, ()) =>
  (bd k (impl_Decl_isRight k (d_, ())) fun y1 =>
  br k (y1.1.1)
  (bd k (impl_Decl_areParts k (d_, l_, ())) fun y2 =>
  some (y2.1.1, ()))
  (some (false, ())) : Option (Bool × Unit)).bind fun j3 =>
  some ((j3.1, ()), ((), (), ()))
noncomputable def impl_PartsOk.sg (k : Nat) : Sig := ⟨impl_PartsOk.A, impl_PartsOk.R, impl_PartsOk k⟩
noncomputable def impl_PartsOk.C (k : Nat) : Ctx := ⟨Tryz.prog, [(61, [impl_Decl_isRight.sg k]), (108, [impl_Decl_areParts.sg k])], k⟩
theorem impl_PartsOk.ev (k : Nat) (x : impl_PartsOk.A.T) : evFunc (impl_PartsOk.C k) impl_PartsOk.ann Tryz.f65 impl_PartsOk.A impl_PartsOk.R x = impl_PartsOk k x := by kernel_rfl
theorem impl_PartsOk.ok {L : List (Nat × Obj)} (hSp : Lb.NeedSp L) (k : Nat) : SigHolds Tryz.prog L 65 (impl_PartsOk.sg k) :=
  sig_of_ev (C := impl_PartsOk.C k) (holds_cons (allok_cons (impl_Decl_isRight.ok hSp k) allok_nil) (holds_cons (allok_cons (impl_Decl_areParts.ok k) allok_nil) holds_nil)) (by kernel_rfl) Tryz.func65 (by kernel_rfl) impl_PartsOk.ann impl_PartsOk.A impl_PartsOk.R (fun x y h => (impl_PartsOk.ev k x).trans h) (by kernel_rfl)

/-! loop.example/g00719/impl.partAt$1 -/
def impl_partAt_1.A : Sh := (.cons (.pur (.cons (.sl false (.cons (.int .i64) (.cons (.int .i64) .nil))) (.cons (.sl false (.cons .bool (.cons (.sl false (.cons (.int .i64) (.cons (.int .i64) .nil))) (.cons (.sl false (.cons (.int .i64) (.cons (.int .i64) .nil))) .nil)))) .nil))) (.cons (.pur (.sl false (.cons (.int .i64) (.cons (.int .i64) .nil)))) .nil))
def impl_partAt_1.R : Sh := (.cons (.pur (.int .i64)) .nil)
def impl_partAt_1.ann : Ann := { loops := [], joins := [], keys := [] }
noncomputable def impl_partAt_1 (k : Nat) : (((List (Int × Int × Unit)) × (List (Bool × (List (Int × Int × Unit)) × (List (Int × Int × Unit)) × Unit)) × Unit) × (List (Int × Int × Unit)) × Unit) → Option ((Int × Unit) × (Unit × Unit × Unit)) := fun x => match x with
 | (p, t, ()) =>
  bd k (impl_compareTokens k (p.1, t, ())) fun y1 =>
  some ((y1.1.1, ()), ((), (), ()))
noncomputable def impl_partAt_1.sg (k : Nat) : Sig := ⟨impl_partAt_1.A, impl_partAt_1.R, impl_partAt_1 k⟩
noncomputable def impl_partAt_1.C (k : Nat) : Ctx := ⟨Tryz.prog, [(111, [impl_compareTokens.sg k])], k⟩
theorem impl_partAt_1.ev (k : Nat) (x : impl_partAt_1.A.T) : evFunc (impl_partAt_1.C k) impl_partAt_1.ann Tryz.f110 impl_partAt_1.A impl_partAt_1.R x = impl_partAt_1 k x := by kernel_rfl
theorem impl_partAt_1.ok {L : List (Nat × Obj)}  (k : Nat) : SigHolds Tryz.prog L 110 (impl_partAt_1.sg k) :=
  sig_of_ev (C := impl_partAt_1.C k) (holds_cons (allok_cons (impl_compareTokens.ok k) allok_nil) holds_nil) (by kernel_rfl) Tryz.func110 (by kernel_rfl) impl_partAt_1.ann impl_partAt_1.A impl_partAt_1.R (fun x y h => (impl_partAt_1.ev k x).trans h) (by kernel_rfl)

/-! slices.BinarySearchFunc[[]loop.example/g00719/impl.Part,loop.example/g00719/impl.Part,[]loop.example/g00719/impl.Entry] -/
def slices_BinarySearchFunc_impl_Part_impl_Part_impl_Entry.A : Sh := (.cons (.pur (.sl false (.cons (.sl false (.cons (.int .i64) (.cons (.int .i64) .nil))) (.cons (.sl false (.cons .bool (.cons (.sl false (.cons (.int .i64) (.cons (.int .i64) .nil))) (.cons (.sl false (.cons (.int .i64) (.cons (.int .i64) .nil))) .nil)))) .nil)))) (.cons (.pur (.sl false (.cons (.int .i64) (.cons (.int .i64) .nil)))) (.cons (.fn (.func 110) 0 .nil) .nil)))
def slices_BinarySearchFunc_impl_Part_impl_Part_impl_Entry.R : Sh := (.cons (.pur (.int .i64)) (.cons (.pur .bool) .nil))
def slices_BinarySearchFunc_impl_Part_impl_Part_impl_Entry.ann : Ann := { loops := [(0, [(0, (.pur (.sl false (.cons (.sl false (.cons (.int .i64) (.cons (.int .i64) .nil))) (.cons (.sl false (.cons .bool (.cons (.sl false (.cons (.int .i64) (.cons (.int .i64) .nil))) (.cons (.sl false (.cons (.int .i64) (.cons (.int .i64) .nil))) .nil)))) .nil))))), (1, (.pur (.sl false (.cons (.int .i64) (.cons (.int .i64) .nil))))), (2, (.fn (.func 110) 0 .nil)), (8, (.pur (.int .i64))), (9, (.pur (.int .i64))), (10, (.pur (.int .i64)))])], joins := [(8, [(6, (.int .i64)), (7, .bool)])], keys := [] }
noncomputable def slices_BinarySearchFunc_impl_Part_impl_Part_impl_Entry.l0 (k : Nat)  (G0 : ((List ((List (Int × Int × Unit)) × (List (Bool × (List (Int × Int × Unit)) × (List (Int × Int × Unit)) × Unit)) × Unit)) × (List (Int × Int × Unit)) × (Unit) × Int × Int × Int × Unit) → Option ((Int × Bool × Unit) × (Unit × Unit × (Unit) × Unit))) : ((List ((List (Int × Int × Unit)) × (List (Bool × (List (Int × Int × Unit)) × (List (Int × Int × Unit)) × Unit)) × Unit)) × (List (Int × Int × Unit)) × (Unit) × Int × Int × Int × Unit) → Option ((Int × Bool × Unit) × (Unit × Unit × (Unit) × Unit)) := fun x => match x with
 | (x_, target, (()), n, i, j, ()) =>
  br k (decide (i < j))
  (br k (decide (0 ≤ (1 : Int)))
  (br k (decide (0 ≤ (IntKind.wrap .i64 ((IntKind.wrap .u64 (IntKind.wrap .i64 (i + j))).fdiv (2 ^ (min (1 : Int).toNat 64))))))
  (bd k (x_[(IntKind.wrap .i64 ((IntKind.wrap .u64 (IntKind.wrap .i64 (i + j))).fdiv (2 ^ (min (1 : Int).toNat 64)))).toNat]?) fun x1 =>
  bd k (impl_partAt_1 k (x1, target, ())) fun y2 =>
  br k (decide (y2.1.1 < 0))
  (G0 (x_, target, (()), n, IntKind.wrap .i64 ((IntKind.wrap .i64 ((IntKind.wrap .u64 (IntKind.wrap .i64 (i + j))).fdiv (2 ^ (min (1 : Int).toNat 64)))) + 1), j, ()))
  (G0 (x_, target, (()), n, i, IntKind.wrap .i64 ((IntKind.wrap .u64 (IntKind.wrap .i64 (i + j))).fdiv (2 ^ (min (1 : Int).toNat 64))), ())))
  none)
  none)
  ((br k (decide (i < n))
  (br k (decide (0 ≤ i))
  (bd k (x_[i.toNat]?) fun x3 =>
  bd k (impl_partAt_1 k (x3, target, ())) fun y4 =>
  some (i, y4.1.1 == 0, ()))
  none)
  (some (i, false, ())) : Option (Int × Bool × Unit)).bind fun j5 =>
  some ((j5.1, j5.2.1, ()), ((), (), (()), ())))
noncomputable def slices_BinarySearchFunc_impl_Part_impl_Part_impl_Entry (k : Nat) : ((List ((List (Int × Int × Unit)) × (List (Bool × (List (Int × Int × Unit)) × (List (Int × Int × Unit)) × Unit)) × Unit)) × (List (Int × Int × Unit)) × (Unit) × Unit) → Option ((Int × Bool × Unit) × (Unit × Unit × (Unit) × Unit)) := fun x => match x with
 | (x_, target, (()), ()) =>
  iter (slices_BinarySearchFunc_impl_Part_impl_Part_impl_Entry.l0 k) k (x_, target, (()), (x_.length : Int), 0, (x_.length : Int), ())
noncomputable def slices_BinarySearchFunc_impl_Part_impl_Part_impl_Entry.sg (k : Nat) : Sig := ⟨slices_BinarySearchFunc_impl_Part_impl_Part_impl_Entry.A, slices_BinarySearchFunc_impl_Part_impl_Part_impl_Entry.R, slices_BinarySearchFunc_impl_Part_impl_Part_impl_Entry k⟩
noncomputable def slices_BinarySearchFunc_impl_Part_impl_Part_impl_Entry.C (k : Nat) : Ctx := ⟨Tryz.prog, [(110, [impl_partAt_1.sg k])], k⟩
theorem slices_BinarySearchFunc_impl_Part_impl_Part_impl_Entry.ev (k : Nat) (x : slices_BinarySearchFunc_impl_Part_impl_Part_impl_Entry.A.T) : evFunc (slices_BinarySearchFunc_impl_Part_impl_Part_impl_Entry.C k) slices_BinarySearchFunc_impl_Part_impl_Part_impl_Entry.ann Tryz.f109 slices_BinarySearchFunc_impl_Part_impl_Part_impl_Entry.A slices_BinarySearchFunc_impl_Part_impl_Part_impl_Entry.R x = slices_BinarySearchFunc_impl_Part_impl_Part_impl_Entry k x := by kernel_rfl
theorem slices_BinarySearchFunc_impl_Part_impl_Part_impl_Entry.ok {L : List (Nat × Obj)}  (k : Nat) : SigHolds Tryz.prog L 109 (slices_BinarySearchFunc_impl_Part_impl_Part_impl_Entry.sg k) :=
  sig_of_ev (C := slices_BinarySearchFunc_impl_Part_impl_Part_impl_Entry.C k) (holds_cons (allok_cons (impl_partAt_1.ok k) allok_nil) holds_nil) (by kernel_rfl) Tryz.func109 (by kernel_rfl) slices_BinarySearchFunc_impl_Part_impl_Part_impl_Entry.ann slices_BinarySearchFunc_impl_Part_impl_Part_impl_Entry.A slices_BinarySearchFunc_impl_Part_impl_Part_impl_Entry.R (fun x y h => (slices_BinarySearchFunc_impl_Part_impl_Part_impl_Entry.ev k x).trans h) (by kernel_rfl)

/-! loop.example/g00719/impl.partAt -/
def impl_partAt.A : Sh := (.cons (.pur (.sl false (.cons (.sl false (.cons (.int .i64) (.cons (.int .i64) .nil))) (.cons (.sl false (.cons .bool (.cons (.sl false (.cons (.int .i64) (.cons (.int .i64) .nil))) (.cons (.sl false (.cons (.int .i64) (.cons (.int .i64) .nil))) .nil)))) .nil)))) (.cons (.pur (.sl false (.cons (.int .i64) (.cons (.int .i64) .nil)))) .nil))
def impl_partAt.R : Sh := (.cons (.pur (.int .i64)) (.cons (.pur .bool) .nil))
def impl_partAt.ann : Ann := { loops := [], joins := [], keys := [] }
noncomputable def impl_partAt (k : Nat) : ((List ((List (Int × Int × Unit)) × (List (Bool × (List (Int × Int × Unit)) × (List (Int × Int × Unit)) × Unit)) × Unit)) × (List (Int × Int × Unit)) × Unit) → Option ((Int × Bool × Unit) × (Unit × Unit × Unit)) := fun x => match x with
 | (l_, t, ()) =>
  bd k (slices_BinarySearchFunc_impl_Part_impl_Part_impl_Entry k (l_, t, (()), ())) fun y1 =>
  some ((y1.1.1, y1.1.2.1, ()), ((), (), ()))
noncomputable def impl_partAt.sg (k : Nat) : Sig := ⟨impl_partAt.A, impl_partAt.R, impl_partAt k⟩
noncomputable def impl_partAt.C (k : Nat) : Ctx := ⟨Tryz.prog, [(109, [slices_BinarySearchFunc_impl_Part_impl_Part_impl_Entry.sg k])], k⟩
theorem impl_partAt.ev (k : Nat) (x : impl_partAt.A.T) : evFunc (impl_partAt.C k) impl_partAt.ann Tryz.f66 impl_partAt.A impl_partAt.R x = impl_partAt k x := by kernel_rfl
theorem impl_partAt.ok {L : List (Nat × Obj)}  (k : Nat) : SigHolds Tryz.prog L 66 (impl_partAt.sg k) :=
  sig_of_ev (C := impl_partAt.C k) (holds_cons (allok_cons (slices_BinarySearchFunc_impl_Part_impl_Part_impl_Entry.ok k) allok_nil) holds_nil) (by kernel_rfl) Tryz.func66 (by kernel_rfl) impl_partAt.ann impl_partAt.A impl_partAt.R (fun x y h => (impl_partAt.ev k x).trans h) (by kernel_rfl)

/-! loop.example/g00719/impl.TableOk -/
def impl_TableOk.A : Sh := (.cons (.pur (.cons (.sl false .str) (.cons (.sl false .str) (.cons (.sl false (.cons .str (.cons (.int .i64) .nil))) .nil)))) (.cons (.pur (.sl false (.cons .bool (.cons (.sl false (.cons (.int .i64) (.cons (.int .i64) .nil))) (.cons (.sl false (.cons (.int .i64) (.cons (.int .i64) .nil))) .nil))))) .nil))
def impl_TableOk.R : Sh := (.cons (.pur .bool) .nil)
def impl_TableOk.ann : Ann := { loops := [], joins := [(1, [(4, .bool)])], keys := [] }
noncomputable def impl_TableOk (k : Nat) : (((List (List UInt8)) × (List (List UInt8)) × (List ((List UInt8) × Int × Unit)) × Unit) × (List (Bool × (List (Int × Int × Unit)) × (List (Int × Int × Unit)) × Unit)) × Unit) → Option ((Bool × Unit) × (Unit × Unit × Unit)) := fun x => match x with
 | (d_, t, ()) =>
  (bd k (impl_Decl_isRight k (d_, ())) fun y1 =>
  br k (y1.1.1)
  (bd k (impl_Decl_isTable k (d_, t, ())) fun y2 =>
  some (y2.1.1, ()))
  (some (false, ())) : Option (Bool × Unit)).bind fun j3 =>
  some ((j3.1, ()), ((), (), ()))
noncomputable def impl_TableOk.sg (k : Nat) : Sig := ⟨impl_TableOk.A, impl_TableOk.R, impl_TableOk k⟩
noncomputable def impl_TableOk.C (k : Nat) : Ctx := ⟨Tryz.prog, [(61, [impl_Decl_isRight.sg k]), (148, [impl_Decl_isTable.sg k])], k⟩
theorem impl_TableOk.ev (k : Nat) (x : impl_TableOk.A.T) : evFunc (impl_TableOk.C k) impl_TableOk.ann Tryz.f112 impl_TableOk.A impl_TableOk.R x = impl_TableOk k x := by kernel_rfl
theorem impl_TableOk.ok {L : List (Nat × Obj)} (hSp : Lb.NeedSp L) (k : Nat) : SigHolds Tryz.prog L 112 (impl_TableOk.sg k) :=
  sig_of_ev (C := impl_TableOk.C k) (holds_cons (allok_cons (impl_Decl_isRight.ok hSp k) allok_nil) (holds_cons (allok_cons (impl_Decl_isTable.ok k) allok_nil) holds_nil)) (by kernel_rfl) Tryz.func112 (by kernel_rfl) impl_TableOk.ann impl_TableOk.A impl_TableOk.R (fun x y h => (impl_TableOk.ev k x).trans h) (by kernel_rfl)

/-! loop.example/g00719/impl.size[int64] -/
def impl_size_int64.A : Sh := (.cons (.pur (.sl false (.int .i64))) .nil)
def impl_size_int64.R : Sh := (.cons (.pur (.int .i64)) .nil)
def impl_size_int64.ann : Ann := { loops := [], joins := [], keys := [] }
noncomputable def impl_size_int64 (k : Nat) : ((List Int) × Unit) → Option ((Int × Unit) × (Unit × Unit)) := fun x => match x with
 | (list, ()) =>
  some (((list.length : Int), ()), ((), ()))
noncomputable def impl_size_int64.sg (k : Nat) : Sig := ⟨impl_size_int64.A, impl_size_int64.R, impl_size_int64 k⟩
noncomputable def impl_size_int64.C (k : Nat) : Ctx := ⟨Tryz.prog, [], k⟩
theorem impl_size_int64.ev (k : Nat) (x : impl_size_int64.A.T) : evFunc (impl_size_int64.C k) impl_size_int64.ann Tryz.f149 impl_size_int64.A impl_size_int64.R x = impl_size_int64 k x := by kernel_rfl
theorem impl_size_int64.ok {L : List (Nat × Obj)}  (k : Nat) : SigHolds Tryz.prog L 149 (impl_size_int64.sg k) :=
  sig_of_ev (C := impl_size_int64.C k) holds_nil (by kernel_rfl) Tryz.func149 (by kernel_rfl) impl_size_int64.ann impl_size_int64.A impl_size_int64.R (fun x y h => (impl_size_int64.ev k x).trans h) (by kernel_rfl)

/-! (loop.example/g00719/impl.Decl).isStore -/
def impl_Decl_isStore.A : Sh := (.cons (.pur (.cons (.sl false .str) (.cons (.sl false .str) (.cons (.sl false (.cons .str (.cons (.int .i64) .nil))) .nil)))) (.cons (.pur (.cons (.sl false (.int .i64)) (.cons (.sl false .bool) (.cons (.sl false (.sl false (.int .i64))) .nil)))) .nil))
def impl_Decl_isStore.R : Sh := (.cons (.pur .bool) .nil)
def impl_Decl_isStore.ann : Ann := { loops := [(0, [(3, (.box (.cons (.pur (.sl false (.int .i64))) (.cons (.pur (.sl false .bool)) (.cons (.pur (.sl false (.sl false (.int .i64)))) .nil))))), (33, (.pur (.sl false (.cons .str (.cons (.int .i64) .nil))))), (34, (.pur (.int .i64))), (35, (.pur (.int .i64)))])], joins := [(1, [(31, .bool)])], keys := [] }
noncomputable def impl_Decl_isStore.l0 (k : Nat)  (G0 : (((List Int) × (List Bool) × (List (List Int)) × Unit) × (List ((List UInt8) × Int × Unit)) × Int × Int × Unit) → Option ((Bool × Unit) × (Unit × Unit × Unit))) : (((List Int) × (List Bool) × (List (List Int)) × Unit) × (List ((List UInt8) × Int × Unit)) × Int × Int × Unit) → Option ((Bool × Unit) × (Unit × Unit × Unit)) := fun x => match x with
 | ((s__0, s__1, s__2, ()), t33, t34, t35, ()) =>
  br k (decide (t35 < t34))
  (br k (decide (0 ≤ t35))
  (bd k (t33[t35.toNat]?) fun x2 =>
  br k (decide (0 ≤ t35))
  (bd k (s__2[t35.toNat]?) fun x3 =>
  bd k (impl_size_int64 k (x3, ())) fun y4 =>
  br k (y4.1.1 != x2.2.1)
  (some ((false, ()), ((), (), ())))
  (G0 ((s__0, s__1, s__2, ()), t33, t34, IntKind.wrap .i64 (t35 + 1), ())))
  none)
  none)
  (some ((true, ()), ((), (), ())))
noncomputable def impl_Decl_isStore (k : Nat) : (((List (List UInt8)) × (List (List UInt8)) × (List ((List UInt8) × Int × Unit)) × Unit) × ((List Int) × (List Bool) × (List (List Int)) × Unit) × Unit) → Option ((Bool × Unit) × (Unit × Unit × Unit)) := fun x => match x with
 | (d_, s_, ()) =>
  (br k ((s_.1.length : Int) != (d_.1.length : Int))
  (some (true, ()))
  (br k ((s_.2.1.length : Int) != (d_.2.1.length : Int))
  (some (true, ()))
  (some ((s_.2.2.1.length : Int) != (d_.2.2.1.length : Int), ()))) : Option (Bool × Unit)).bind fun j1 =>
  br k (j1.1)
  (some ((false, ()), ((), (), ())))
  (iter (impl_Decl_isStore.l0 k) k ((s_.1, s_.2.1, s_.2.2.1, ()), d_.2.2.1, (d_.2.2.1.length : Int), 0, ()))
noncomputable def impl_Decl_isStore.sg (k : Nat) : Sig := ⟨impl_Decl_isStore.A, impl_Decl_isStore.R, impl_Decl_isStore k⟩
noncomputable def impl_Decl_isStore.C (k : Nat) : Ctx := ⟨Tryz.prog, [(149, [impl_size_int64.sg k])], k⟩
theorem impl_Decl_isStore.ev (k : Nat) (x : impl_Decl_isStore.A.T) : evFunc (impl_Decl_isStore.C k) impl_Decl_isStore.ann Tryz.f113 impl_Decl_isStore.A impl_Decl_isStore.R x = impl_Decl_isStore k x := by kernel_rfl
theorem impl_Decl_isStore.ok {L : List (Nat × Obj)}  (k : Nat) : SigHolds Tryz.prog L 113 (impl_Decl_isStore.sg k) :=
  sig_of_ev (C := impl_Decl_isStore.C k) (holds_cons (allok_cons (impl_size_int64.ok k) allok_nil) holds_nil) (by kernel_rfl) Tryz.func113 (by kernel_rfl) impl_Decl_isStore.ann impl_Decl_isStore.A impl_Decl_isStore.R (fun x y h => (impl_Decl_isStore.ev k x).trans h) (by kernel_rfl)

/-! loop.example/g00719/impl.truth -/
def impl_truth.A : Sh := (.cons (.pur .bool) .nil)
def impl_truth.R : Sh := (.cons (.pur (.int .i64)) .nil)
def impl_truth.ann : Ann := { loops := [], joins := [], keys := [] }
noncomputable def impl_truth (k : Nat) : (Bool × Unit) → Option ((Int × Unit) × (Unit × Unit)) := fun x => match x with
 | (is, ()) =>
  br k (is)
  (some ((1, ()), ((), ())))
  (some ((0, ()), ((), ())))
noncomputable def impl_truth.sg (k : Nat) : Sig := ⟨impl_truth.A, impl_truth.R, impl_truth k⟩
noncomputable def impl_truth.C (k : Nat) : Ctx := ⟨Tryz.prog, [], k⟩
theorem impl_truth.ev (k : Nat) (x : impl_truth.A.T) : evFunc (impl_truth.C k) impl_truth.ann Tryz.f150 impl_truth.A impl_truth.R x = impl_truth k x := by kernel_rfl
theorem impl_truth.ok {L : List (Nat × Obj)}  (k : Nat) : SigHolds Tryz.prog L 150 (impl_truth.sg k) :=
  sig_of_ev (C := impl_truth.C k) holds_nil (by kernel_rfl) Tryz.func150 (by kernel_rfl) impl_truth.ann impl_truth.A impl_truth.R (fun x y h => (impl_truth.ev k x).trans h) (by kernel_rfl)

/-! loop.example/g00719/impl.leafOf -/
def impl_leafOf.A : Sh := (.cons (.pur (.sl false .bool)) .nil)
def impl_leafOf.R : Sh := (.cons (.pur (.int .i64)) .nil)
def impl_leafOf.ann : Ann := { loops := [(0, [(3, (.pur (.int .i64))), (6, (.pur (.sl false .bool))), (7, (.pur (.int .i64))), (8, (.pur (.int .i64)))])], joins := [], keys := [] }
noncomputable def impl_leafOf.l0 (k : Nat)  (G0 : (Int × (List Bool) × Int × Int × Unit) → Option ((Int × Unit) × (Unit × Unit))) : (Int × (List Bool) × Int × Int × Unit) → Option ((Int × Unit) × (Unit × Unit)) := fun x => match x with
 | (out_, t6, t7, t8, ()) =>
  br k (decide (t8 < t7))
  (br k (decide (0 ≤ t8))
  (bd k (t6[t8.toNat]?) fun x1 =>
  bd k (impl_truth k (x1, ())) fun y2 =>
  br k (decide (0 ≤ t8))
  (G0 (IntKind.wrap .i64 (((BitVec.ofInt 64 out_ ||| BitVec.ofInt 64 (IntKind.wrap .i64 (y2.1.1 * 2 ^ (min t8.toNat 64)))).toNat : Int)), t6, t7, IntKind.wrap .i64 (t8 + 1), ()))
  none)
  none)
  (some ((out_, ()), ((), ())))
noncomputable def impl_leafOf (k : Nat) : ((List Bool) × Unit) → Option ((Int × Unit) × (Unit × Unit)) := fun x => match x with
 | (flags, ()) =>
  iter (impl_leafOf.l0 k) k (0, flags, (flags.length : Int), 0, ())
noncomputable def impl_leafOf.sg (k : Nat) : Sig := ⟨impl_leafOf.A, impl_leafOf.R, impl_leafOf k⟩
noncomputable def impl_leafOf.C (k : Nat) : Ctx := ⟨Tryz.prog, [(150, [impl_truth.sg k])], k⟩
theorem impl_leafOf.ev (k : Nat) (x : impl_leafOf.A.T) : evFunc (impl_leafOf.C k) impl_leafOf.ann Tryz.f114 impl_leafOf.A impl_leafOf.R x = impl_leafOf k x := by kernel_rfl
theorem impl_leafOf.ok {L : List (Nat × Obj)}  (k : Nat) : SigHolds Tryz.prog L 114 (impl_leafOf.sg k) :=
  sig_of_ev (C := impl_leafOf.C k) (holds_cons (allok_cons (impl_truth.ok k) allok_nil) holds_nil) (by kernel_rfl) Tryz.func114 (by kernel_rfl) impl_leafOf.ann impl_leafOf.A impl_leafOf.R (fun x y h => (impl_leafOf.ev k x).trans h) (by kernel_rfl)

/-! (loop.example/g00719/impl.Interval).has -/
def impl_Interval_has.A : Sh := (.cons (.pur (.cons (.int .i64) (.cons (.int .i64) .nil))) (.cons (.pur (.int .i64)) .nil))
def impl_Interval_has.R : Sh := (.cons (.pur .bool) .nil)
def impl_Interval_has.ann : Ann := { loops := [], joins := [], keys := [] }
noncomputable def impl_Interval_has (k : Nat) : ((Int × Int × Unit) × Int × Unit) → Option ((Bool × Unit) × (Unit × Unit × Unit)) := fun x => match x with
 | (a, n, ()) =>
  bd k (impl_within k (n, a.1, a.2.1, ())) fun y1 =>
  some ((y1.1.1, ()), ((), (), ()))
noncomputable def impl_Interval_has.sg (k : Nat) : Sig := ⟨impl_Interval_has.A, impl_Interval_has.R, impl_Interval_has k⟩
noncomputable def impl_Interval_has.C (k : Nat) : Ctx := ⟨Tryz.prog, [(29, [impl_within.sg k])], k⟩
theorem impl_Interval_has.ev (k : Nat) (x : impl_Interval_has.A.T) : evFunc (impl_Interval_has.C k) impl_Interval_has.ann Tryz.f151 impl_Interval_has.A impl_Interval_has.R x = impl_Interval_has k x := by kernel_rfl
theorem impl_Interval_has.ok {L : List (Nat × Obj)}  (k : Nat) : SigHolds Tryz.prog L 151 (impl_Interval_has.sg k) :=
  sig_of_ev (C := impl_Interval_has.C k) (holds_cons (allok_cons (impl_within.ok k) allok_nil) holds_nil) (by kernel_rfl) Tryz.func151 (by kernel_rfl) impl_Interval_has.ann impl_Interval_has.A impl_Interval_has.R (fun x y h => (impl_Interval_has.ev k x).trans h) (by kernel_rfl)

/-! loop.example/g00719/impl.areAll[int64]$1 -/
def impl_areAll_int64_1.A : Sh := (.cons (.pur (.int .i64)) (.cons (.box (.cons (.fn (.func 151) 1 (.cons (.pur (.cons (.int .i64) (.cons (.int .i64) .nil))) .nil)) .nil)) .nil))
def impl_areAll_int64_1.R : Sh := (.cons (.pur .bool) .nil)
def impl_areAll_int64_1.ann : Ann := { loops := [], joins := [], keys := [] }
noncomputable def impl_areAll_int64_1 (k : Nat) : (Int × (((Int × Int × Unit) × Unit) × Unit) × Unit) → Option ((Bool × Unit) × (Unit × (((Int × Int × Unit) × Unit) × Unit) × Unit)) := fun x => match x with
 | (x_, ((a1_0_0, ()), ()), ()) =>
  bd k (impl_Interval_has k (a1_0_0, x_, ())) fun y1 =>
  some ((!y1.1.1, ()), ((), ((a1_0_0, ()), ()), ()))
noncomputable def impl_areAll_int64_1.sg (k : Nat) : Sig := ⟨impl_areAll_int64_1.A, impl_areAll_int64_1.R, impl_areAll_int64_1 k⟩
noncomputable def impl_areAll_int64_1.C (k : Nat) : Ctx := ⟨Tryz.prog, [(151, [impl_Interval_has.sg k])], k⟩
theorem impl_areAll_int64_1.ev (k : Nat) (x : impl_areAll_int64_1.A.T) : evFunc (impl_areAll_int64_1.C k) impl_areAll_int64_1.ann Tryz.f176 impl_areAll_int64_1.A impl_areAll_int64_1.R x = impl_areAll_int64_1 k x := by kernel_rfl
theorem impl_areAll_int64_1.ok {L : List (Nat × Obj)}  (k : Nat) : SigHolds Tryz.prog L 176 (impl_areAll_int64_1.sg k) :=
  sig_of_ev (C := impl_areAll_int64_1.C k) (holds_cons (allok_cons (impl_Interval_has.ok k) allok_nil) holds_nil) (by kernel_rfl) Tryz.func176 (by kernel_rfl) impl_areAll_int64_1.ann impl_areAll_int64_1.A impl_areAll_int64_1.R (fun x y h => (impl_areAll_int64_1.ev k x).trans h) (by kernel_rfl)

/-! slices.IndexFunc[[]int64,int64] -/
def slices_IndexFunc_int64_int64.A : Sh := (.cons (.pur (.sl false (.int .i64))) (.cons (.fn (.func 176) 0 (.cons (.box (.cons (.fn (.func 151) 1 (.cons (.pur (.cons (.int .i64) (.cons (.int .i64) .nil))) .nil)) .nil)) .nil)) .nil))
def slices_IndexFunc_int64_int64.R : Sh := (.cons (.pur (.int .i64)) .nil)
def slices_IndexFunc_int64_int64.ann : Ann := { loops := [(0, [(0, (.pur (.sl false (.int .i64)))), (1, (.fn (.func 176) 0 (.cons (.box (.cons (.fn (.func 151) 1 (.cons (.pur (.cons (.int .i64) (.cons (.int .i64) .nil))) .nil)) .nil)) .nil))), (7, (.pur (.int .i64))), (8, (.pur (.int .i64)))])], joins := [], keys := [] }
noncomputable def slices_IndexFunc_int64_int64.l0 (k : Nat)  (G0 : ((List Int) × ((((Int × Int × Unit) × Unit) × Unit) × Unit) × Int × Int × Unit) → Option ((Int × Unit) × (Unit × ((((Int × Int × Unit) × Unit) × Unit) × Unit) × Unit))) : ((List Int) × ((((Int × Int × Unit) × Unit) × Unit) × Unit) × Int × Int × Unit) → Option ((Int × Unit) × (Unit × ((((Int × Int × Unit) × Unit) × Unit) × Unit) × Unit)) := fun x => match x with
 | (s_, (((f_0_0_0, ()), ()), ()), t7, t8, ()) =>
  br k (decide (t8 < t7))
  (br k (decide (0 ≤ t8))
  (bd k (s_[t8.toNat]?) fun x1 =>
  bd k (impl_areAll_int64_1 k (x1, ((f_0_0_0, ()), ()), ())) fun y2 =>
  br k (y2.1.1)
  (some ((t8, ()), ((), (((y2.2.2.1.1.1, ()), ()), ()), ())))
  (G0 (s_, (((y2.2.2.1.1.1, ()), ()), ()), t7, IntKind.wrap .i64 (t8 + 1), ())))
  none)
  (some (((-1), ()), ((), (((f_0_0_0, ()), ()), ()), ())))
noncomputable def slices_IndexFunc_int64_int64 (k : Nat) : ((List Int) × ((((Int × Int × Unit) × Unit) × Unit) × Unit) × Unit) → Option ((Int × Unit) × (Unit × ((((Int × Int × Unit) × Unit) × Unit) × Unit) × Unit)) := fun x => match x with
 | (s_, (((f_0_0_0, ()), ()), ()), ()) =>
  iter (slices_IndexFunc_int64_int64.l0 k) k (s_, (((f_0_0_0, ()), ()), ()), (s_.length : Int), 0, ())
noncomputable def slices_IndexFunc_int64_int64.sg (k : Nat) : Sig := ⟨slices_IndexFunc_int64_int64.A, slices_IndexFunc_int64_int64.R, slices_IndexFunc_int64_int64 k⟩
noncomputable def slices_IndexFunc_int64_int64.C (k : Nat) : Ctx := ⟨Tryz.prog, [(176, [impl_areAll_int64_1.sg k])], k⟩
theorem slices_IndexFunc_int64_int64.ev (k : Nat) (x : slices_IndexFunc_int64_int64.A.T) : evFunc (slices_IndexFunc_int64_int64.C k) slices_IndexFunc_int64_int64.ann Tryz.f190 slices_IndexFunc_int64_int64.A slices_IndexFunc_int64_int64.R x = slices_IndexFunc_int64_int64 k x := by kernel_rfl
theorem slices_IndexFunc_int64_int64.ok {L : List (Nat × Obj)}  (k : Nat) : SigHolds Tryz.prog L 190 (slices_IndexFunc_int64_int64.sg k) :=
  sig_of_ev (C := slices_IndexFunc_int64_int64.C k) (holds_cons (allok_cons (impl_areAll_int64_1.ok k) allok_nil) holds_nil) (by kernel_rfl) Tryz.func190 (by kernel_rfl) slices_IndexFunc_int64_int64.ann slices_IndexFunc_int64_int64.A slices_IndexFunc_int64_int64.R (fun x y h => (slices_IndexFunc_int64_int64.ev k x).trans h) (by kernel_rfl)

/-! slices.ContainsFunc[[]int64,int64] -/
def slices_ContainsFunc_int64_int64.A : Sh := (.cons (.pur (.sl false (.int .i64))) (.cons (.fn (.func 176) 0 (.cons (.box (.cons (.fn (.func 151) 1 (.cons (.pur (.cons (.int .i64) (.cons (.int .i64) .nil))) .nil)) .nil)) .nil)) .nil))
def slices_ContainsFunc_int64_int64.R : Sh := (.cons (.pur .bool) .nil)
def slices_ContainsFunc_int64_int64.ann : Ann := { loops := [], joins := [], keys := [] }
noncomputable def slices_ContainsFunc_int64_int64 (k : Nat) : ((List Int) × ((((Int × Int × Unit) × Unit) × Unit) × Unit) × Unit) → Option ((Bool × Unit) × (Unit × ((((Int × Int × Unit) × Unit) × Unit) × Unit) × Unit)) := fun x => match x with
 | (s_, (((f_0_0_0, ()), ()), ()), ()) =>
  bd k (slices_IndexFunc_int64_int64 k (s_, (((f_0_0_0, ()), ()), ()), ())) fun y1 =>
  some ((decide (y1.1.1 ≥ 0), ()), ((), (((y1.2.2.1.1.1.1, ()), ()), ()), ()))
noncomputable def slices_ContainsFunc_int64_int64.sg (k : Nat) : Sig := ⟨slices_ContainsFunc_int64_int64.A, slices_ContainsFunc_int64_int64.R, slices_ContainsFunc_int64_int64 k⟩
noncomputable def slices_ContainsFunc_int64_int64.C (k : Nat) : Ctx := ⟨Tryz.prog, [(190, [slices_IndexFunc_int64_int64.sg k])], k⟩
theorem slices_ContainsFunc_int64_int64.ev (k : Nat) (x : slices_ContainsFunc_int64_int64.A.T) : evFunc (slices_ContainsFunc_int64_int64.C k) slices_ContainsFunc_int64_int64.ann Tryz.f175 slices_ContainsFunc_int64_int64.A slices_ContainsFunc_int64_int64.R x = slices_ContainsFunc_int64_int64 k x := by kernel_rfl
theorem slices_ContainsFunc_int64_int64.ok {L : List (Nat × Obj)}  (k : Nat) : SigHolds Tryz.prog L 175 (slices_ContainsFunc_int64_int64.sg k) :=
  sig_of_ev (C := slices_ContainsFunc_int64_int64.C k) (holds_cons (allok_cons (slices_IndexFunc_int64_int64.ok k) allok_nil) holds_nil) (by kernel_rfl) Tryz.func175 (by kernel_rfl) slices_ContainsFunc_int64_int64.ann slices_ContainsFunc_int64_int64.A slices_ContainsFunc_int64_int64.R (fun x y h => (slices_ContainsFunc_int64_int64.ev k x).trans h) (by kernel_rfl)

/-! loop.example/g00719/impl.areAll[int64] -/
def impl_areAll_int64.A : Sh := (.cons (.pur (.sl false (.int .i64))) (.cons (.fn (.func 151) 1 (.cons (.pur (.cons (.int .i64) (.cons (.int .i64) .nil))) .nil)) .nil))
def impl_areAll_int64.R : Sh := (.cons (.pur .bool) .nil)
def impl_areAll_int64.ann : Ann := { loops := [], joins := [], keys := [] }
noncomputable def impl_areAll_int64 (k : Nat) : ((List Int) × ((Int × Int × Unit) × Unit) × Unit) → Option ((Bool × Unit) × (Unit × (Unit × Unit) × Unit)) := fun x => match x with
 | (list, (is_0, ()), ()) =>
  bd k (slices_ContainsFunc_int64_int64 k (list, (((is_0, ()), ()), ()), ())) fun y1 =>
  some ((!y1.1.1, ()), ((), ((), ()), ()))
noncomputable def impl_areAll_int64.sg (k : Nat) : Sig := ⟨impl_areAll_int64.A, impl_areAll_int64.R, impl_areAll_int64 k⟩
noncomputable def impl_areAll_int64.C (k : Nat) : Ctx := ⟨Tryz.prog, [(175, [slices_ContainsFunc_int64_int64.sg k])], k⟩
theorem impl_areAll_int64.ev (k : Nat) (x : impl_areAll_int64.A.T) : evFunc (impl_areAll_int64.C k) impl_areAll_int64.ann Tryz.f152 impl_areAll_int64.A impl_areAll_int64.R x = impl_areAll_int64 k x := by kernel_rfl
theorem impl_areAll_int64.ok {L : List (Nat × Obj)}  (k : Nat) : SigHolds Tryz.prog L 152 (impl_areAll_int64.sg k) :=
  sig_of_ev (C := impl_areAll_int64.C k) (holds_cons (allok_cons (slices_ContainsFunc_int64_int64.ok k) allok_nil) holds_nil) (by kernel_rfl) Tryz.func152 (by kernel_rfl) impl_areAll_int64.ann impl_areAll_int64.A impl_areAll_int64.R (fun x y h => (impl_areAll_int64.ev k x).trans h) (by kernel_rfl)

/-! (loop.example/g00719/impl.Env).hasStore -/
def impl_Env_hasStore.A : Sh := (.cons (.pur (.cons .bool (.cons (.sl false (.cons (.int .i64) (.cons (.int .i64) .nil))) (.cons (.sl false (.cons (.int .i64) (.cons (.int .i64) .nil))) .nil)))) (.cons (.pur (.cons (.sl false (.int .i64)) (.cons (.sl false .bool) (.cons (.sl false (.sl false (.int .i64))) .nil)))) .nil))
def impl_Env_hasStore.R : Sh := (.cons (.pur .bool) .nil)
def impl_Env_hasStore.ann : Ann := { loops := [(0, [(2, (.box (.cons (.pur .bool) (.cons (.pur (.sl false (.cons (.int .i64) (.cons (.int .i64) .nil)))) (.cons (.pur (.sl false (.cons (.int .i64) (.cons (.int .i64) .nil)))) .nil))))), (3, (.box (.cons (.pur (.sl false (.int .i64))) (.cons (.pur (.sl false .bool)) (.cons (.pur (.sl false (.sl false (.int .i64)))) .nil))))), (13, (.pur (.sl false (.int .i64)))), (14, (.pur (.int .i64))), (15, (.pur (.int .i64)))]), (2, [(2, (.box (.cons (.pur .bool) (.cons (.pur (.sl false (.cons (.int .i64) (.cons (.int .i64) .nil)))) (.cons (.pur (.sl false (.cons (.int .i64) (.cons (.int .i64) .nil)))) .nil))))), (30, (.pur (.sl false (.sl false (.int .i64))))), (31, (.pur (.int .i64))), (32, (.pur (.int .i64)))])], joins := [], keys := [] }
noncomputable def impl_Env_hasStore.l2 (k : Nat)  (G2 : ((Bool × (List (Int × Int × Unit)) × (List (Int × Int × Unit)) × Unit) × (List (List Int)) × Int × Int × Unit) → Option ((Bool × Unit) × (Unit × Unit × Unit))) : ((Bool × (List (Int × Int × Unit)) × (List (Int × Int × Unit)) × Unit) × (List (List Int)) × Int × Int × Unit) → Option ((Bool × Unit) × (Unit × Unit × Unit)) := fun x => match x with
 | ((e__0, e__1, e__2, ()), t30, t31, t32, ()) =>
  br k (decide (t32 < t31))
  (br k (decide (0 ≤ t32))
  (bd k (t30[t32.toNat]?) fun x4 =>
  br k (decide (0 ≤ t32))
  (bd k (e__2[t32.toNat]?) fun x5 =>
  bd k (impl_areAll_int64 k (x4, (x5, ()), ())) fun y6 =>
  br k (!y6.1.1)
  (some ((false, ()), ((), (), ())))
  (G2 ((e__0, e__1, e__2, ()), t30, t31, IntKind.wrap .i64 (t32 + 1), ())))
  none)
  none)
  (some ((true, ()), ((), (), ())))
noncomputable def impl_Env_hasStore.l0 (k : Nat)  (G0 : ((Bool × (List (Int × Int × Unit)) × (List (Int × Int × Unit)) × Unit) × ((List Int) × (List Bool) × (List (List Int)) × Unit) × (List Int) × Int × Int × Unit) → Option ((Bool × Unit) × (Unit × Unit × Unit))) : ((Bool × (List (Int × Int × Unit)) × (List (Int × Int × Unit)) × Unit) × ((List Int) × (List Bool) × (List (List Int)) × Unit) × (List Int) × Int × Int × Unit) → Option ((Bool × Unit) × (Unit × Unit × Unit)) := fun x => match x with
 | ((e__0, e__1, e__2, ()), (s__0, s__1, s__2, ()), t13, t14, t15, ()) =>
  br k (decide (t15 < t14))
  (br k (decide (0 ≤ t15))
  (bd k (t13[t15.toNat]?) fun x1 =>
  br k (decide (0 ≤ t15))
  (bd k (e__1[t15.toNat]?) fun x2 =>
  bd k (impl_Interval_has k (x2, x1, ())) fun y3 =>
  br k (!y3.1.1)
  (some ((false, ()), ((), (), ())))
  (G0 ((e__0, e__1, e__2, ()), (s__0, s__1, s__2, ()), t13, t14, IntKind.wrap .i64 (t15 + 1), ())))
  none)
  none)
  (iter (impl_Env_hasStore.l2 k) k ((e__0, e__1, e__2, ()), s__2, (s__2.length : Int), 0, ()))
noncomputable def impl_Env_hasStore (k : Nat) : ((Bool × (List (Int × Int × Unit)) × (List (Int × Int × Unit)) × Unit) × ((List Int) × (List Bool) × (List (List Int)) × Unit) × Unit) → Option ((Bool × Unit) × (Unit × Unit × Unit)) := fun x => match x with
 | (e_, s_, ()) =>
  br k (!e_.1)
  (some ((false, ()), ((), (), ())))
  (iter (impl_Env_hasStore.l0 k) k ((e_.1, e_.2.1, e_.2.2.1, ()), (s_.1, s_.2.1, s_.2.2.1, ()), s_.1, (s_.1.length : Int), 0, ()))
noncomputable def impl_Env_hasStore.sg (k : Nat) : Sig := ⟨impl_Env_hasStore.A, impl_Env_hasStore.R, impl_Env_hasStore k⟩
noncomputable def impl_Env_hasStore.C (k : Nat) : Ctx := ⟨Tryz.prog, [(151, [impl_Interval_has.sg k]), (152, [impl_areAll_int64.sg k])], k⟩
theorem impl_Env_hasStore.ev (k : Nat) (x : impl_Env_hasStore.A.T) : evFunc (impl_Env_hasStore.C k) impl_Env_hasStore.ann Tryz.f115 impl_Env_hasStore.A impl_Env_hasStore.R x = impl_Env_hasStore k x := by kernel_rfl
theorem impl_Env_hasStore.ok {L : List (Nat × Obj)}  (k : Nat) : SigHolds Tryz.prog L 115 (impl_Env_hasStore.sg k) :=
  sig_of_ev (C := impl_Env_hasStore.C k) (holds_cons (allok_cons (impl_Interval_has.ok k) allok_nil) (holds_cons (allok_cons (impl_areAll_int64.ok k) allok_nil) holds_nil)) (by kernel_rfl) Tryz.func115 (by kernel_rfl) impl_Env_hasStore.ann impl_Env_hasStore.A impl_Env_hasStore.R (fun x y h => (impl_Env_hasStore.ev k x).trans h) (by kernel_rfl)

/-! loop.example/g00719/impl.TableHas -/
def impl_TableHas.A : Sh := (.cons (.pur (.cons (.sl false .str) (.cons (.sl false .str) (.cons (.sl false (.cons .str (.cons (.int .i64) .nil))) .nil)))) (.cons (.pur (.sl false (.cons .bool (.cons (.sl false (.cons (.int .i64) (.cons (.int .i64) .nil))) (.cons (.sl false (.cons (.int .i64) (.cons (.int .i64) .nil))) .nil))))) (.cons (.pur (.cons (.sl false (.int .i64)) (.cons (.sl false .bool) (.cons (.sl false (.sl false (.int .i64))) .nil)))) .nil)))
def impl_TableHas.R : Sh := (.cons (.pur .bool) .nil)
def impl_TableHas.ann : Ann := { loops := [], joins := [(1, [(6, .bool)])], keys := [] }
noncomputable def impl_TableHas (k : Nat) : (((List (List UInt8)) × (List (List UInt8)) × (List ((List UInt8) × Int × Unit)) × Unit) × (List (Bool × (List (Int × Int × Unit)) × (List (Int × Int × Unit)) × Unit)) × ((List Int) × (List Bool) × (List (List Int)) × Unit) × Unit) → Option ((Bool × Unit) × (Unit × Unit × Unit × Unit)) := fun x => match x with
 | (d_, t, s_, ()) =>
  (bd k (impl_TableOk k (d_, t, ())) fun y1 =>
  br k (y1.1.1)
  (bd k (impl_Decl_isStore k (d_, s_, ())) fun y2 =>
  br k (y2.1.1)
  (bd k (impl_leafOf k (s_.2.1, ())) fun y3 =>
  br k (decide (0 ≤ y3.1.1))
  (bd k (t[y3.1.1.toNat]?) fun x4 =>
  bd k (impl_Env_hasStore k (x4, s_, ())) fun y5 =>
  some (y5.1.1, ()))
  none)
  (some (false, ())))
  (some (false, ())) : Option (Bool × Unit)).bind fun j6 =>
  some ((j6.1, ()), ((), (), (), ()))
noncomputable def impl_TableHas.sg (k : Nat) : Sig := ⟨impl_TableHas.A, impl_TableHas.R, impl_TableHas k⟩
noncomputable def impl_TableHas.C (k : Nat) : Ctx := ⟨Tryz.prog, [(112, [impl_TableOk.sg k]), (113, [impl_Decl_isStore.sg k]), (114, [impl_leafOf.sg k]), (115, [impl_Env_hasStore.sg k])], k⟩
theorem impl_TableHas.ev (k : Nat) (x : impl_TableHas.A.T) : evFunc (impl_TableHas.C k) impl_TableHas.ann Tryz.f67 impl_TableHas.A impl_TableHas.R x = impl_TableHas k x := by kernel_rfl
theorem impl_TableHas.ok {L : List (Nat × Obj)} (hSp : Lb.NeedSp L) (k : Nat) : SigHolds Tryz.prog L 67 (impl_TableHas.sg k) :=
  sig_of_ev (C := impl_TableHas.C k) (holds_cons (allok_cons (impl_TableOk.ok hSp k) allok_nil) (holds_cons (allok_cons (impl_Decl_isStore.ok k) allok_nil) (holds_cons (allok_cons (impl_leafOf.ok k) allok_nil) (holds_cons (allok_cons (impl_Env_hasStore.ok k) allok_nil) holds_nil)))) (by kernel_rfl) Tryz.func67 (by kernel_rfl) impl_TableHas.ann impl_TableHas.A impl_TableHas.R (fun x y h => (impl_TableHas.ev k x).trans h) (by kernel_rfl)

/-! loop.example/g00719/impl.PartsHas -/
def impl_PartsHas.A : Sh := (.cons (.pur (.cons (.sl false .str) (.cons (.sl false .str) (.cons (.sl false (.cons .str (.cons (.int .i64) .nil))) .nil)))) (.cons (.pur (.sl false (.cons (.sl false (.cons (.int .i64) (.cons (.int .i64) .nil))) (.cons (.sl false (.cons .bool (.cons (.sl false (.cons (.int .i64) (.cons (.int .i64) .nil))) (.cons (.sl false (.cons (.int .i64) (.cons (.int .i64) .nil))) .nil)))) .nil)))) (.cons (.pur (.sl false (.cons (.int .i64) (.cons (.int .i64) .nil)))) (.cons (.pur (.cons (.sl false (.int .i64)) (.cons (.sl false .bool) (.cons (.sl false (.sl false (.int .i64))) .nil)))) .nil))))
def impl_PartsHas.R : Sh := (.cons (.pur .bool) .nil)
def impl_PartsHas.ann : Ann := { loops := [], joins := [(4, [(8, .bool)])], keys := [] }
noncomputable def impl_PartsHas (k : Nat) : (((List (List UInt8)) × (List (List UInt8)) × (List ((List UInt8) × Int × Unit)) × Unit) × (List ((List (Int × Int × Unit)) × (List (Bool × (List (Int × Int × Unit)) × (List (Int × Int × Unit)) × Unit)) × Unit)) × (List (Int × Int × Unit)) × ((List Int) × (List Bool) × (List (List Int)) × Unit) × Unit) → Option ((Bool × Unit) × (Unit × Unit × Unit × Unit × Unit)) := fun x => match x with
 | (d_, l_, t, s_, ()) =>
  bd k (impl_PartsOk k (d_, l_, ())) fun y1 =>
  br k (!y1.1.1)
  (some ((false, ()), ((), (), (), (), ())))
  (bd k (impl_partAt k (l_, t, ())) fun y2 =>
  (br k (y2.1.2.1)
  (br k (decide (0 ≤ y2.1.1))
  (bd k (l_[y2.1.1.toNat]?) fun x3 =>
  bd k (impl_TableHas k (d_, x3.2.1, s_, ())) fun y4 =>
  some (y4.1.1, ()))
  none)
  (some (false, ())) : Option (Bool × Unit)).bind fun j5 =>
  some ((j5.1, ()), ((), (), (), (), ())))
noncomputable def impl_PartsHas.sg (k : Nat) : Sig := ⟨impl_PartsHas.A, impl_PartsHas.R, impl_PartsHas k⟩
noncomputable def impl_PartsHas.C (k : Nat) : Ctx := ⟨Tryz.prog, [(65, [impl_PartsOk.sg k]), (66, [impl_partAt.sg k]), (67, [impl_TableHas.sg k])], k⟩
theorem impl_PartsHas.ev (k : Nat) (x : impl_PartsHas.A.T) : evFunc (impl_PartsHas.C k) impl_PartsHas.ann Tryz.f31 impl_PartsHas.A impl_PartsHas.R x = impl_PartsHas k x := by kernel_rfl
theorem impl_PartsHas.ok {L : List (Nat × Obj)} (hSp : Lb.NeedSp L) (k : Nat) : SigHolds Tryz.prog L 31 (impl_PartsHas.sg k) :=
  sig_of_ev (C := impl_PartsHas.C k) (holds_cons (allok_cons (impl_PartsOk.ok hSp k) allok_nil) (holds_cons (allok_cons (impl_partAt.ok k) allok_nil) (holds_cons (allok_cons (impl_TableHas.ok hSp k) allok_nil) holds_nil))) (by kernel_rfl) Tryz.func31 (by kernel_rfl) impl_PartsHas.ann impl_PartsHas.A impl_PartsHas.R (fun x y h => (impl_PartsHas.ev k x).trans h) (by kernel_rfl)

/-! loop.example/g00719/impl.Covers -/
def impl_Covers.A : Sh := (.cons (.pur (.cons (.sl false .str) (.cons (.sl false .str) (.cons (.sl false (.cons .str (.cons (.int .i64) .nil))) (.cons (.sl false (.cons (.int .i64) (.cons (.int .i64) (.cons (.sl false (.cons (.int .i64) (.cons (.int .i64) .nil))) (.cons (.sl false (.cons (.int .i64) (.cons (.int .i64) .nil))) (.cons (.int .i64) (.cons (.int .i64) .nil))))))) .nil))))) (.cons (.pur (.sl false (.cons (.sl false (.cons (.sl false (.cons (.int .i64) (.cons (.int .i64) .nil))) (.cons (.sl false (.cons .bool (.cons (.sl false (.cons (.int .i64) (.cons (.int .i64) .nil))) (.cons (.sl false (.cons (.int .i64) (.cons (.int .i64) .nil))) .nil)))) .nil))) .nil))) (.cons (.pur (.cons (.int .i64) (.cons (.sl false (.cons (.int .i64) (.cons (.int .i64) .nil))) (.cons (.sl false (.int .i64)) (.cons (.sl false .bool) (.cons (.sl false (.sl false (.int .i64))) .nil)))))) .nil)))
def impl_Covers.R : Sh := (.cons (.pur .bool) .nil)
def impl_Covers.ann : Ann := { loops := [], joins := [(1, [(6, .bool)])], keys := [] }
noncomputable def impl_Covers (k : Nat) : (((List (List UInt8)) × (List (List UInt8)) × (List ((List UInt8) × Int × Unit)) × (List (Int × Int × (List (Int × Int × Unit)) × (List (Int × Int × Unit)) × Int × Int × Unit)) × Unit) × (List ((List ((List (Int × Int × Unit)) × (List (Bool × (List (Int × Int × Unit)) × (List (Int × Int × Unit)) × Unit)) × Unit)) × Unit)) × (Int × (List (Int × Int × Unit)) × (List Int) × (List Bool) × (List (List Int)) × Unit) × Unit) → Option ((Bool × Unit) × (Unit × Unit × Unit × Unit)) := fun x => match x with
 | (p, rows, s_, ()) =>
  (bd k (impl_Prog_isRight k (p, ())) fun y1 =>
  br k (y1.1.1)
  (bd k (impl_size_impl_Row k (rows, ())) fun y2 =>
  bd k (impl_within k (s_.1, 0, IntKind.wrap .i64 (y2.1.1 - 1), ())) fun y3 =>
  br k (y3.1.1)
  (br k (decide (0 ≤ s_.1))
  (bd k (rows[s_.1.toNat]?) fun x4 =>
  bd k (impl_PartsHas k ((p.1, p.2.1, p.2.2.1, ()), x4.1, s_.2.1, (s_.2.2.1, s_.2.2.2.1, s_.2.2.2.2.1, ()), ())) fun y5 =>
  some (y5.1.1, ()))
  none)
  (some (false, ())))
  (some (false, ())) : Option (Bool × Unit)).bind fun j6 =>
  some ((j6.1, ()), ((), (), (), ()))
noncomputable def impl_Covers.sg (k : Nat) : Sig := ⟨impl_Covers.A, impl_Covers.R, impl_Covers k⟩
noncomputable def impl_Covers.C (k : Nat) : Ctx := ⟨Tryz.prog, [(28, [impl_Prog_isRight.sg k]), (30, [impl_size_impl_Row.sg k]), (29, [impl_within.sg k]), (31, [impl_PartsHas.sg k])], k⟩
theorem impl_Covers.ev (k : Nat) (x : impl_Covers.A.T) : evFunc (impl_Covers.C k) impl_Covers.ann Tryz.f11 impl_Covers.A impl_Covers.R x = impl_Covers k x := by kernel_rfl
theorem impl_Covers.ok {L : List (Nat × Obj)} (hSp : Lb.NeedSp L) (k : Nat) : SigHolds Tryz.prog L 11 (impl_Covers.sg k) :=
  sig_of_ev (C := impl_Covers.C k) (holds_cons (allok_cons (impl_Prog_isRight.ok hSp k) allok_nil) (holds_cons (allok_cons (impl_size_impl_Row.ok k) allok_nil) (holds_cons (allok_cons (impl_within.ok k) allok_nil) (holds_cons (allok_cons (impl_PartsHas.ok hSp k) allok_nil) holds_nil)))) (by kernel_rfl) Tryz.func11 (by kernel_rfl) impl_Covers.ann impl_Covers.A impl_Covers.R (fun x y h => (impl_Covers.ev k x).trans h) (by kernel_rfl)

end Go.Pev.F
