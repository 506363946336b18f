/-
  Printed by gen.py: what functions of the program compute, and that they do.
-/
import Derived.Test.YthjihnplkkhpmaaGreatDoorK07
set_option linter.unusedSimpArgs false
set_option linter.unusedVariables false
open Go.Proofs Go.Pev
namespace Go.Pev.F
set_option maxRecDepth 100000
set_option linter.unusedVariables false

/-! loop.example/g00719/spec.l8Join -/
def spec_l8Join.A : Sh := (.cons (.pur (.sl false (.cons .bool (.cons (.sl false (.cons (.int .i64) (.cons (.int .i64) .nil))) (.cons (.sl false (.cons (.int .i64) (.cons (.int .i64) .nil))) .nil))))) (.cons (.pur (.sl false (.cons .bool (.cons (.sl false (.cons (.int .i64) (.cons (.int .i64) .nil))) (.cons (.sl false (.cons (.int .i64) (.cons (.int .i64) .nil))) .nil))))) .nil))
def spec_l8Join.R : Sh := (.cons (.rows (.cons (.pur .bool) (.cons (.own (.cons (.int .i64) (.cons (.int .i64) .nil))) (.cons (.own (.cons (.int .i64) (.cons (.int .i64) .nil))) .nil)))) .nil)
def spec_l8Join.ann : Ann := { loops := [(0, [(0, (.pur (.sl false (.cons .bool (.cons (.sl false (.cons (.int .i64) (.cons (.int .i64) .nil))) (.cons (.sl false (.cons (.int .i64) (.cons (.int .i64) .nil))) .nil)))))), (1, (.pur (.sl false (.cons .bool (.cons (.sl false (.cons (.int .i64) (.cons (.int .i64) .nil))) (.cons (.sl false (.cons (.int .i64) (.cons (.int .i64) .nil))) .nil)))))), (5, (.rows (.cons (.pur .bool) (.cons (.own (.cons (.int .i64) (.cons (.int .i64) .nil))) (.cons (.own (.cons (.int .i64) (.cons (.int .i64) .nil))) .nil))))), (6, (.pur (.int .i64)))])], joins := [], keys := [(5, [([], false), ([], false), ([], false), ([], false), ([], false), ([], false), ([], false), ([], false), ([], false), ([23], true), ([23, 24], true), ([5, 24, 25], true), ([], false)])] }
noncomputable def spec_l8Join.l0 (k : Nat)  (G0 : ((List (Bool × (List (Int × Int × Unit)) × (List (Int × Int × Unit)) × Unit)) × (List (Bool × (List (Int × Int × Unit)) × (List (Int × Int × Unit)) × Unit)) × (List (Bool × (List (Int × Int × Unit)) × (List (Int × Int × Unit)) × Unit)) × Int × Unit) → Option (((List (Bool × (List (Int × Int × Unit)) × (List (Int × Int × Unit)) × Unit)) × Unit) × (Unit × Unit × Unit))) : ((List (Bool × (List (Int × Int × Unit)) × (List (Int × Int × Unit)) × Unit)) × (List (Bool × (List (Int × Int × Unit)) × (List (Int × Int × Unit)) × Unit)) × (List (Bool × (List (Int × Int × Unit)) × (List (Int × Int × Unit)) × Unit)) × Int × Unit) → Option (((List (Bool × (List (Int × Int × Unit)) × (List (Int × Int × Unit)) × Unit)) × Unit) × (Unit × Unit × Unit)) := fun x => match x with
 | (a, b_, out_, i, ()) =>
  br k (decide (i < (a.length : Int)))
  (br k (decide (0 ≤ i))
  (bd k (a[i.toNat]?) fun x1 =>
  br k (decide (0 ≤ i))
  (bd k (b_[i.toNat]?) fun x2 =>
  bd k (spec_l6Join k (x1, x2, ())) fun y3 =>
  br k (decide ((out_.length + ([(y3.1.1.1, y3.1.1.2.1, y3.1.1.2.2.1, ())] : List (Bool × (List (Int × Int × Unit)) × (List (Int × Int × Unit)) × Unit)).length) * 56 ≤ maxBytes))
  (G0 (a, b_, out_ ++ ([(y3.1.1.1, y3.1.1.2.1, y3.1.1.2.2.1, ())] : List (Bool × (List (Int × Int × Unit)) × (List (Int × Int × Unit)) × Unit)), IntKind.wrap .i64 (i + 1), ()))
  none)
  none)
  none)
  (some ((out_, ()), ((), (), ())))
noncomputable def spec_l8Join (k : Nat) : ((List (Bool × (List (Int × Int × Unit)) × (List (Int × Int × Unit)) × Unit)) × (List (Bool × (List (Int × Int × Unit)) × (List (Int × Int × Unit)) × Unit)) × Unit) → Option (((List (Bool × (List (Int × Int × Unit)) × (List (Int × Int × Unit)) × Unit)) × Unit) × (Unit × Unit × Unit)) := fun x => match x with
 | (a, b_, ()) =>
  iter (spec_l8Join.l0 k) k (a, b_, ([] : List (Bool × (List (Int × Int × Unit)) × (List (Int × Int × Unit)) × Unit)), 0, ())
noncomputable def spec_l8Join.sg (k : Nat) : Sig := ⟨spec_l8Join.A, spec_l8Join.R, spec_l8Join k⟩
noncomputable def spec_l8Join.C (k : Nat) : Ctx := ⟨Tryz.prog, [(32, [spec_l6Join.sg k])], k, [(7, (.cons (.pur .bool) (.cons (.own (.cons (.int .i64) (.cons (.int .i64) .nil))) (.cons (.own (.cons (.int .i64) (.cons (.int .i64) .nil))) .nil)))), (24, (.cons (.pur .bool) (.cons (.own (.cons (.int .i64) (.cons (.int .i64) .nil))) (.cons (.own (.cons (.int .i64) (.cons (.int .i64) .nil))) .nil))))]⟩
theorem spec_l8Join.ev (k : Nat) (x : spec_l8Join.A.T) : evFunc (spec_l8Join.C k) spec_l8Join.ann Tryz.f93 spec_l8Join.A spec_l8Join.R x = spec_l8Join k x := by kernel_rfl
theorem spec_l8Join.ok {L : List (Nat × Obj)}  (k : Nat) : SigHolds Tryz.prog L 93 (spec_l8Join.sg k) :=
  sig_of_ev (C := spec_l8Join.C k) (holds_cons (allok_cons (spec_l6Join.ok k) allok_nil) holds_nil) (by kernel_rfl) Tryz.func93 (by kernel_rfl) spec_l8Join.ann spec_l8Join.A spec_l8Join.R (fun x y h => (spec_l8Join.ev k x).trans h) (by kernel_rfl)

/-! (*loop.example/g00719/spec.l1Rd).hurtTable -/
def spec_l1Rd_hurtTable.A : Sh := (.cons (.box (.cons (.pur (.sl false (.int .u8))) (.cons (.pur (.int .i64)) .nil))) (.cons (.rows (.cons (.pur .bool) (.cons (.own (.cons (.int .i64) (.cons (.int .i64) .nil))) (.cons (.own (.cons (.int .i64) (.cons (.int .i64) .nil))) .nil)))) .nil))
def spec_l1Rd_hurtTable.R : Sh := (.cons (.rows (.cons (.pur .bool) (.cons (.own (.cons (.int .i64) (.cons (.int .i64) .nil))) (.cons (.own (.cons (.int .i64) (.cons (.int .i64) .nil))) .nil)))) .nil)
def spec_l1Rd_hurtTable.ann : Ann := { loops := [], joins := [], keys := [] }
noncomputable def spec_l1Rd_hurtTable (k : Nat) : (((List Int) × Int × Unit) × (List (Bool × (List (Int × Int × Unit)) × (List (Int × Int × Unit)) × Unit)) × Unit) → Option (((List (Bool × (List (Int × Int × Unit)) × (List (Int × Int × Unit)) × Unit)) × Unit) × (((List Int) × Int × Unit) × Unit × Unit)) := fun x => match x with
 | ((r_0, r_1, ()), t, ()) =>
  bd k (spec_l1Rd_below k ((r_0, r_1, ()), 24, ())) fun y1 =>
  br k (y1.1.1 == 0)
  (br k (decide (0 ≤ (1 : Int) ∧ (1 : Int) ≤ (t.length : Int)))
  (some ((subL t ((1 : Int).toNat) ((t.length : Int).toNat - (1 : Int).toNat), ()), ((y1.2.1.1, y1.2.1.2.1, ()), (), ())))
  none)
  (br k (y1.1.1 == 1)
  (br k (decide (0 ≤ (0 : Int) ∧ (0 : Int) < (t.length : Int)))
  (bd k (t[(0 : Int).toNat]?) fun x2 =>
  bd k (spec_l1Rd_hurtEnv k ((y1.2.1.1, y1.2.1.2.1, ()), (x2.1, x2.2.1, x2.2.2.1, ()), ())) fun y3 =>
  br k (decide (0 ≤ (0 : Int) ∧ (0 : Int) < (t.length : Int)))
  (br k (decide ((0 : Int).toNat = (0 : Int).toNat))
  (some ((t.set ((0 : Int).toNat) (y3.1.1.1, y3.1.1.2.1, y3.1.1.2.2.1, ()), ()), ((y3.2.1.1, y3.2.1.2.1, ()), (), ())))
  none)
  none)
  none)
  (br k (y1.1.1 == 2)
  (br k (decide ((t.length + ([(false, [], [], ())] : List (Bool × (List (Int × Int × Unit)) × (List (Int × Int × Unit)) × Unit)).length) * 56 ≤ maxBytes))
  (some ((t ++ ([(false, [], [], ())] : List (Bool × (List (Int × Int × Unit)) × (List (Int × Int × Unit)) × Unit)), ()), ((y1.2.1.1, y1.2.1.2.1, ()), (), ())))
  none)
  (some ((t, ()), ((y1.2.1.1, y1.2.1.2.1, ()), (), ())))))
noncomputable def spec_l1Rd_hurtTable.sg (k : Nat) : Sig := ⟨spec_l1Rd_hurtTable.A, spec_l1Rd_hurtTable.R, spec_l1Rd_hurtTable k⟩
noncomputable def spec_l1Rd_hurtTable.C (k : Nat) : Ctx := ⟨Tryz.prog, [(70, [spec_l1Rd_below.sg k]), (33, [spec_l1Rd_hurtEnv.sg k])], k, [(24, (.cons (.pur .bool) (.cons (.own (.cons (.int .i64) (.cons (.int .i64) .nil))) (.cons (.own (.cons (.int .i64) (.cons (.int .i64) .nil))) .nil))))]⟩
theorem spec_l1Rd_hurtTable.ev (k : Nat) (x : spec_l1Rd_hurtTable.A.T) : evFunc (spec_l1Rd_hurtTable.C k) spec_l1Rd_hurtTable.ann Tryz.f94 spec_l1Rd_hurtTable.A spec_l1Rd_hurtTable.R x = spec_l1Rd_hurtTable k x := by kernel_rfl
theorem spec_l1Rd_hurtTable.ok {L : List (Nat × Obj)}  (k : Nat) : SigHolds Tryz.prog L 94 (spec_l1Rd_hurtTable.sg k) :=
  sig_of_ev (C := spec_l1Rd_hurtTable.C k) (holds_cons (allok_cons (spec_l1Rd_below.ok k) allok_nil) (holds_cons (allok_cons (spec_l1Rd_hurtEnv.ok k) allok_nil) holds_nil)) (by kernel_rfl) Tryz.func94 (by kernel_rfl) spec_l1Rd_hurtTable.ann spec_l1Rd_hurtTable.A spec_l1Rd_hurtTable.R (fun x y h => (spec_l1Rd_hurtTable.ev k x).trans h) (by kernel_rfl)



/-! loop.example/g00719/impl.size[loop.example/g00719/impl.Env] -/
def impl_size_impl_Env.A : Sh := (.cons (.pur (.sl false (.cons .bool (.cons (.sl false (.cons (.int .i64) (.cons (.int .i64) .nil))) (.cons (.sl false (.cons (.int .i64) (.cons (.int .i64) .nil))) .nil))))) .nil)
def impl_size_impl_Env.R : Sh := (.cons (.pur (.int .i64)) .nil)
def impl_size_impl_Env.ann : Ann := { loops := [], joins := [], keys := [] }
noncomputable def impl_size_impl_Env (k : Nat) : ((List (Bool × (List (Int × Int × Unit)) × (List (Int × Int × Unit)) × Unit)) × Unit) → Option ((Int × Unit) × (Unit × Unit)) := fun x => match x with
 | (list, ()) =>
  some (((list.length : Int), ()), ((), ()))
noncomputable def impl_size_impl_Env.sg (k : Nat) : Sig := ⟨impl_size_impl_Env.A, impl_size_impl_Env.R, impl_size_impl_Env k⟩
noncomputable def impl_size_impl_Env.C (k : Nat) : Ctx := ⟨Tryz.prog, [], k, []⟩
theorem impl_size_impl_Env.ev (k : Nat) (x : impl_size_impl_Env.A.T) : evFunc (impl_size_impl_Env.C k) impl_size_impl_Env.ann Tryz.f129 impl_size_impl_Env.A impl_size_impl_Env.R x = impl_size_impl_Env k x := by kernel_rfl
theorem impl_size_impl_Env.ok {L : List (Nat × Obj)}  (k : Nat) : SigHolds Tryz.prog L 129 (impl_size_impl_Env.sg k) :=
  sig_of_ev (C := impl_size_impl_Env.C k) holds_nil (by kernel_rfl) Tryz.func129 (by kernel_rfl) impl_size_impl_Env.ann impl_size_impl_Env.A impl_size_impl_Env.R (fun x y h => (impl_size_impl_Env.ev k x).trans h) (by kernel_rfl)

/-! (loop.example/g00719/impl.Decl).leaves -/
def impl_Decl_leaves.A : Sh := (.cons (.pur (.cons (.sl false .str) (.cons (.sl false .str) (.cons (.sl false (.cons .str (.cons (.int .i64) .nil))) .nil)))) .nil)
def impl_Decl_leaves.R : Sh := (.cons (.pur (.int .i64)) .nil)
def impl_Decl_leaves.ann : Ann := { loops := [], joins := [], keys := [] }
noncomputable def impl_Decl_leaves (k : Nat) : (((List (List UInt8)) × (List (List UInt8)) × (List ((List UInt8) × Int × Unit)) × Unit) × Unit) → Option ((Int × Unit) × (Unit × Unit)) := fun x => match x with
 | (d_, ()) =>
  br k (decide (0 ≤ (d_.2.1.length : Int)))
  (some ((IntKind.wrap .i64 (1 * 2 ^ (min (d_.2.1.length : Int).toNat 64)), ()), ((), ())))
  none
noncomputable def impl_Decl_leaves.sg (k : Nat) : Sig := ⟨impl_Decl_leaves.A, impl_Decl_leaves.R, impl_Decl_leaves k⟩
noncomputable def impl_Decl_leaves.C (k : Nat) : Ctx := ⟨Tryz.prog, [], k, []⟩
theorem impl_Decl_leaves.ev (k : Nat) (x : impl_Decl_leaves.A.T) : evFunc (impl_Decl_leaves.C k) impl_Decl_leaves.ann Tryz.f124 impl_Decl_leaves.A impl_Decl_leaves.R x = impl_Decl_leaves k x := by kernel_rfl
theorem impl_Decl_leaves.ok {L : List (Nat × Obj)}  (k : Nat) : SigHolds Tryz.prog L 124 (impl_Decl_leaves.sg k) :=
  sig_of_ev (C := impl_Decl_leaves.C k) holds_nil (by kernel_rfl) Tryz.func124 (by kernel_rfl) impl_Decl_leaves.ann impl_Decl_leaves.A impl_Decl_leaves.R (fun x y h => (impl_Decl_leaves.ev k x).trans h) (by kernel_rfl)

/-! loop.example/g00719/impl.areAll[loop.example/g00719/impl.Env]$1 -/
def impl_areAll_impl_Env_1.A : Sh := (.cons (.pur (.cons .bool (.cons (.sl false (.cons (.int .i64) (.cons (.int .i64) .nil))) (.cons (.sl false (.cons (.int .i64) (.cons (.int .i64) .nil))) .nil)))) (.cons (.box (.cons (.fn (.func 78) 1 (.cons (.pur (.cons (.sl false .str) (.cons (.sl false .str) (.cons (.sl false (.cons .str (.cons (.int .i64) .nil))) .nil)))) .nil)) .nil)) .nil))
def impl_areAll_impl_Env_1.R : Sh := (.cons (.pur .bool) .nil)
def impl_areAll_impl_Env_1.ann : Ann := { loops := [], joins := [], keys := [] }
noncomputable def impl_areAll_impl_Env_1 (k : Nat) : ((Bool × (List (Int × Int × Unit)) × (List (Int × Int × Unit)) × Unit) × ((((List (List UInt8)) × (List (List UInt8)) × (List ((List UInt8) × Int × Unit)) × Unit) × Unit) × Unit) × Unit) → Option ((Bool × Unit) × (Unit × ((((List (List UInt8)) × (List (List UInt8)) × (List ((List UInt8) × Int × Unit)) × Unit) × Unit) × Unit) × Unit)) := fun x => match x with
 | (x_, ((a1_0_0, ()), ()), ()) =>
  bd k (impl_Decl_isEnv k (a1_0_0, x_, ())) fun y1 =>
  some ((!y1.1.1, ()), ((), ((a1_0_0, ()), ()), ()))
noncomputable def impl_areAll_impl_Env_1.sg (k : Nat) : Sig := ⟨impl_areAll_impl_Env_1.A, impl_areAll_impl_Env_1.R, impl_areAll_impl_Env_1 k⟩
noncomputable def impl_areAll_impl_Env_1.C (k : Nat) : Ctx := ⟨Tryz.prog, [(78, [impl_Decl_isEnv.sg k])], k, []⟩
theorem impl_areAll_impl_Env_1.ev (k : Nat) (x : impl_areAll_impl_Env_1.A.T) : evFunc (impl_areAll_impl_Env_1.C k) impl_areAll_impl_Env_1.ann Tryz.f160 impl_areAll_impl_Env_1.A impl_areAll_impl_Env_1.R x = impl_areAll_impl_Env_1 k x := by kernel_rfl
theorem impl_areAll_impl_Env_1.ok {L : List (Nat × Obj)}  (k : Nat) : SigHolds Tryz.prog L 160 (impl_areAll_impl_Env_1.sg k) :=
  sig_of_ev (C := impl_areAll_impl_Env_1.C k) (holds_cons (allok_cons (impl_Decl_isEnv.ok k) allok_nil) holds_nil) (by kernel_rfl) Tryz.func160 (by kernel_rfl) impl_areAll_impl_Env_1.ann impl_areAll_impl_Env_1.A impl_areAll_impl_Env_1.R (fun x y h => (impl_areAll_impl_Env_1.ev k x).trans h) (by kernel_rfl)

/-! slices.IndexFunc[[]loop.example/g00719/impl.Env,loop.example/g00719/impl.Env] -/
def slices_IndexFunc_impl_Env_impl_Env.A : Sh := (.cons (.pur (.sl false (.cons .bool (.cons (.sl false (.cons (.int .i64) (.cons (.int .i64) .nil))) (.cons (.sl false (.cons (.int .i64) (.cons (.int .i64) .nil))) .nil))))) (.cons (.fn (.func 160) 0 (.cons (.box (.cons (.fn (.func 78) 1 (.cons (.pur (.cons (.sl false .str) (.cons (.sl false .str) (.cons (.sl false (.cons .str (.cons (.int .i64) .nil))) .nil)))) .nil)) .nil)) .nil)) .nil))
def slices_IndexFunc_impl_Env_impl_Env.R : Sh := (.cons (.pur (.int .i64)) .nil)
def slices_IndexFunc_impl_Env_impl_Env.ann : Ann := { loops := [(0, [(0, (.pur (.sl false (.cons .bool (.cons (.sl false (.cons (.int .i64) (.cons (.int .i64) .nil))) (.cons (.sl false (.cons (.int .i64) (.cons (.int .i64) .nil))) .nil)))))), (1, (.fn (.func 160) 0 (.cons (.box (.cons (.fn (.func 78) 1 (.cons (.pur (.cons (.sl false .str) (.cons (.sl false .str) (.cons (.sl false (.cons .str (.cons (.int .i64) .nil))) .nil)))) .nil)) .nil)) .nil))), (7, (.pur (.int .i64))), (8, (.pur (.int .i64)))])], joins := [], keys := [] }
noncomputable def slices_IndexFunc_impl_Env_impl_Env.l0 (k : Nat)  (G0 : ((List (Bool × (List (Int × Int × Unit)) × (List (Int × Int × Unit)) × Unit)) × (((((List (List UInt8)) × (List (List UInt8)) × (List ((List UInt8) × Int × Unit)) × Unit) × Unit) × Unit) × Unit) × Int × Int × Unit) → Option ((Int × Unit) × (Unit × (((((List (List UInt8)) × (List (List UInt8)) × (List ((List UInt8) × Int × Unit)) × Unit) × Unit) × Unit) × Unit) × Unit))) : ((List (Bool × (List (Int × Int × Unit)) × (List (Int × Int × Unit)) × Unit)) × (((((List (List UInt8)) × (List (List UInt8)) × (List ((List UInt8) × Int × Unit)) × Unit) × Unit) × Unit) × Unit) × Int × Int × Unit) → Option ((Int × Unit) × (Unit × (((((List (List UInt8)) × (List (List UInt8)) × (List ((List UInt8) × Int × Unit)) × Unit) × Unit) × Unit) × Unit) × Unit)) := fun x => match x with
 | (s_, (((f_0_0_0, ()), ()), ()), t7, t8, ()) =>
  br k (decide (t8 < t7))
  (br k (decide (0 ≤ t8))
  (bd k (s_[t8.toNat]?) fun x1 =>
  bd k (impl_areAll_impl_Env_1 k (x1, ((f_0_0_0, ()), ()), ())) fun y2 =>
  br k (y2.1.1)
  (some ((t8, ()), ((), (((y2.2.2.1.1.1, ()), ()), ()), ())))
  (G0 (s_, (((y2.2.2.1.1.1, ()), ()), ()), t7, IntKind.wrap .i64 (t8 + 1), ())))
  none)
  (some (((-1), ()), ((), (((f_0_0_0, ()), ()), ()), ())))
noncomputable def slices_IndexFunc_impl_Env_impl_Env (k : Nat) : ((List (Bool × (List (Int × Int × Unit)) × (List (Int × Int × Unit)) × Unit)) × (((((List (List UInt8)) × (List (List UInt8)) × (List ((List UInt8) × Int × Unit)) × Unit) × Unit) × Unit) × Unit) × Unit) → Option ((Int × Unit) × (Unit × (((((List (List UInt8)) × (List (List UInt8)) × (List ((List UInt8) × Int × Unit)) × Unit) × Unit) × Unit) × Unit) × Unit)) := fun x => match x with
 | (s_, (((f_0_0_0, ()), ()), ()), ()) =>
  iter (slices_IndexFunc_impl_Env_impl_Env.l0 k) k (s_, (((f_0_0_0, ()), ()), ()), (s_.length : Int), 0, ())
noncomputable def slices_IndexFunc_impl_Env_impl_Env.sg (k : Nat) : Sig := ⟨slices_IndexFunc_impl_Env_impl_Env.A, slices_IndexFunc_impl_Env_impl_Env.R, slices_IndexFunc_impl_Env_impl_Env k⟩
noncomputable def slices_IndexFunc_impl_Env_impl_Env.C (k : Nat) : Ctx := ⟨Tryz.prog, [(160, [impl_areAll_impl_Env_1.sg k])], k, []⟩
theorem slices_IndexFunc_impl_Env_impl_Env.ev (k : Nat) (x : slices_IndexFunc_impl_Env_impl_Env.A.T) : evFunc (slices_IndexFunc_impl_Env_impl_Env.C k) slices_IndexFunc_impl_Env_impl_Env.ann Tryz.f184 slices_IndexFunc_impl_Env_impl_Env.A slices_IndexFunc_impl_Env_impl_Env.R x = slices_IndexFunc_impl_Env_impl_Env k x := by kernel_rfl
theorem slices_IndexFunc_impl_Env_impl_Env.ok {L : List (Nat × Obj)}  (k : Nat) : SigHolds Tryz.prog L 184 (slices_IndexFunc_impl_Env_impl_Env.sg k) :=
  sig_of_ev (C := slices_IndexFunc_impl_Env_impl_Env.C k) (holds_cons (allok_cons (impl_areAll_impl_Env_1.ok k) allok_nil) holds_nil) (by kernel_rfl) Tryz.func184 (by kernel_rfl) slices_IndexFunc_impl_Env_impl_Env.ann slices_IndexFunc_impl_Env_impl_Env.A slices_IndexFunc_impl_Env_impl_Env.R (fun x y h => (slices_IndexFunc_impl_Env_impl_Env.ev k x).trans h) (by kernel_rfl)

/-! slices.ContainsFunc[[]loop.example/g00719/impl.Env,loop.example/g00719/impl.Env] -/
def slices_ContainsFunc_impl_Env_impl_Env.A : Sh := (.cons (.pur (.sl false (.cons .bool (.cons (.sl false (.cons (.int .i64) (.cons (.int .i64) .nil))) (.cons (.sl false (.cons (.int .i64) (.cons (.int .i64) .nil))) .nil))))) (.cons (.fn (.func 160) 0 (.cons (.box (.cons (.fn (.func 78) 1 (.cons (.pur (.cons (.sl false .str) (.cons (.sl false .str) (.cons (.sl false (.cons .str (.cons (.int .i64) .nil))) .nil)))) .nil)) .nil)) .nil)) .nil))
def slices_ContainsFunc_impl_Env_impl_Env.R : Sh := (.cons (.pur .bool) .nil)
def slices_ContainsFunc_impl_Env_impl_Env.ann : Ann := { loops := [], joins := [], keys := [] }
noncomputable def slices_ContainsFunc_impl_Env_impl_Env (k : Nat) : ((List (Bool × (List (Int × Int × Unit)) × (List (Int × Int × Unit)) × Unit)) × (((((List (List UInt8)) × (List (List UInt8)) × (List ((List UInt8) × Int × Unit)) × Unit) × Unit) × Unit) × Unit) × Unit) → Option ((Bool × Unit) × (Unit × (((((List (List UInt8)) × (List (List UInt8)) × (List ((List UInt8) × Int × Unit)) × Unit) × Unit) × Unit) × Unit) × Unit)) := fun x => match x with
 | (s_, (((f_0_0_0, ()), ()), ()), ()) =>
  bd k (slices_IndexFunc_impl_Env_impl_Env k (s_, (((f_0_0_0, ()), ()), ()), ())) fun y1 =>
  some ((decide (y1.1.1 ≥ 0), ()), ((), (((y1.2.2.1.1.1.1, ()), ()), ()), ()))
noncomputable def slices_ContainsFunc_impl_Env_impl_Env.sg (k : Nat) : Sig := ⟨slices_ContainsFunc_impl_Env_impl_Env.A, slices_ContainsFunc_impl_Env_impl_Env.R, slices_ContainsFunc_impl_Env_impl_Env k⟩
noncomputable def slices_ContainsFunc_impl_Env_impl_Env.C (k : Nat) : Ctx := ⟨Tryz.prog, [(184, [slices_IndexFunc_impl_Env_impl_Env.sg k])], k, []⟩
theorem slices_ContainsFunc_impl_Env_impl_Env.ev (k : Nat) (x : slices_ContainsFunc_impl_Env_impl_Env.A.T) : evFunc (slices_ContainsFunc_impl_Env_impl_Env.C k) slices_ContainsFunc_impl_Env_impl_Env.ann Tryz.f159 slices_ContainsFunc_impl_Env_impl_Env.A slices_ContainsFunc_impl_Env_impl_Env.R x = slices_ContainsFunc_impl_Env_impl_Env k x := by kernel_rfl
theorem slices_ContainsFunc_impl_Env_impl_Env.ok {L : List (Nat × Obj)}  (k : Nat) : SigHolds Tryz.prog L 159 (slices_ContainsFunc_impl_Env_impl_Env.sg k) :=
  sig_of_ev (C := slices_ContainsFunc_impl_Env_impl_Env.C k) (holds_cons (allok_cons (slices_IndexFunc_impl_Env_impl_Env.ok k) allok_nil) holds_nil) (by kernel_rfl) Tryz.func159 (by kernel_rfl) slices_ContainsFunc_impl_Env_impl_Env.ann slices_ContainsFunc_impl_Env_impl_Env.A slices_ContainsFunc_impl_Env_impl_Env.R (fun x y h => (slices_ContainsFunc_impl_Env_impl_Env.ev k x).trans h) (by kernel_rfl)

/-! loop.example/g00719/impl.areAll[loop.example/g00719/impl.Env] -/
def impl_areAll_impl_Env.A : Sh := (.cons (.pur (.sl false (.cons .bool (.cons (.sl false (.cons (.int .i64) (.cons (.int .i64) .nil))) (.cons (.sl false (.cons (.int .i64) (.cons (.int .i64) .nil))) .nil))))) (.cons (.fn (.func 78) 1 (.cons (.pur (.cons (.sl false .str) (.cons (.sl false .str) (.cons (.sl false (.cons .str (.cons (.int .i64) .nil))) .nil)))) .nil)) .nil))
def impl_areAll_impl_Env.R : Sh := (.cons (.pur .bool) .nil)
def impl_areAll_impl_Env.ann : Ann := { loops := [], joins := [], keys := [] }
noncomputable def impl_areAll_impl_Env (k : Nat) : ((List (Bool × (List (Int × Int × Unit)) × (List (Int × Int × Unit)) × Unit)) × (((List (List UInt8)) × (List (List UInt8)) × (List ((List UInt8) × Int × Unit)) × Unit) × Unit) × Unit) → Option ((Bool × Unit) × (Unit × (Unit × Unit) × Unit)) := fun x => match x with
 | (list, (is_0, ()), ()) =>
  bd k (slices_ContainsFunc_impl_Env_impl_Env k (list, (((is_0, ()), ()), ()), ())) fun y1 =>
  some ((!y1.1.1, ()), ((), ((), ()), ()))
noncomputable def impl_areAll_impl_Env.sg (k : Nat) : Sig := ⟨impl_areAll_impl_Env.A, impl_areAll_impl_Env.R, impl_areAll_impl_Env k⟩
noncomputable def impl_areAll_impl_Env.C (k : Nat) : Ctx := ⟨Tryz.prog, [(159, [slices_ContainsFunc_impl_Env_impl_Env.sg k])], k, []⟩
theorem impl_areAll_impl_Env.ev (k : Nat) (x : impl_areAll_impl_Env.A.T) : evFunc (impl_areAll_impl_Env.C k) impl_areAll_impl_Env.ann Tryz.f130 impl_areAll_impl_Env.A impl_areAll_impl_Env.R x = impl_areAll_impl_Env k x := by kernel_rfl
theorem impl_areAll_impl_Env.ok {L : List (Nat × Obj)}  (k : Nat) : SigHolds Tryz.prog L 130 (impl_areAll_impl_Env.sg k) :=
  sig_of_ev (C := impl_areAll_impl_Env.C k) (holds_cons (allok_cons (slices_ContainsFunc_impl_Env_impl_Env.ok k) allok_nil) holds_nil) (by kernel_rfl) Tryz.func130 (by kernel_rfl) impl_areAll_impl_Env.ann impl_areAll_impl_Env.A impl_areAll_impl_Env.R (fun x y h => (impl_areAll_impl_Env.ev k x).trans h) (by kernel_rfl)

/-! (loop.example/g00719/impl.Decl).isTable -/
def impl_Decl_isTable.A : Sh := (.cons (.pur (.cons (.sl false .str) (.cons (.sl false .str) (.cons (.sl false (.cons .str (.cons (.int .i64) .nil))) .nil)))) (.cons (.pur (.sl false (.cons .bool (.cons (.sl false (.cons (.int .i64) (.cons (.int .i64) .nil))) (.cons (.sl false (.cons (.int .i64) (.cons (.int .i64) .nil))) .nil))))) .nil))
def impl_Decl_isTable.R : Sh := (.cons (.pur .bool) .nil)
def impl_Decl_isTable.ann : Ann := { loops := [], joins := [], keys := [(1, [([], false), ([], false), ([2], false), ([], false), ([], false), ([], false), ([], false), ([2], false), ([], false), ([14], true), ([], false), ([], false)])] }
noncomputable def impl_Decl_isTable (k : Nat) : (((List (List UInt8)) × (List (List UInt8)) × (List ((List UInt8) × Int × Unit)) × Unit) × (List (Bool × (List (Int × Int × Unit)) × (List (Int × Int × Unit)) × Unit)) × Unit) → Option ((Bool × Unit) × (Unit × Unit × Unit)) := fun x => match x with
 | (d_, t, ()) =>
  bd k (impl_size_impl_Env k (t, ())) fun y1 =>
  bd k (impl_Decl_leaves k (d_, ())) fun y2 =>
  br k (y1.1.1 == y2.1.1)
  (bd k (impl_areAll_impl_Env k (t, (d_, ()), ())) fun y3 =>
  some ((y3.1.1, ()), ((), (), ())))
  (some ((false, ()), ((), (), ())))
noncomputable def impl_Decl_isTable.sg (k : Nat) : Sig := ⟨impl_Decl_isTable.A, impl_Decl_isTable.R, impl_Decl_isTable k⟩
noncomputable def impl_Decl_isTable.C (k : Nat) : Ctx := ⟨Tryz.prog, [(129, [impl_size_impl_Env.sg k]), (124, [impl_Decl_leaves.sg k]), (130, [impl_areAll_impl_Env.sg k])], k, []⟩
theorem impl_Decl_isTable.ev (k : Nat) (x : impl_Decl_isTable.A.T) : evFunc (impl_Decl_isTable.C k) impl_Decl_isTable.ann Tryz.f98 impl_Decl_isTable.A impl_Decl_isTable.R x = impl_Decl_isTable k x := by kernel_rfl
theorem impl_Decl_isTable.ok {L : List (Nat × Obj)}  (k : Nat) : SigHolds Tryz.prog L 98 (impl_Decl_isTable.sg k) :=
  sig_of_ev (C := impl_Decl_isTable.C k) (holds_cons (allok_cons (impl_size_impl_Env.ok k) allok_nil) (holds_cons (allok_cons (impl_Decl_leaves.ok k) allok_nil) (holds_cons (allok_cons (impl_areAll_impl_Env.ok k) allok_nil) holds_nil))) (by kernel_rfl) Tryz.func98 (by kernel_rfl) impl_Decl_isTable.ann impl_Decl_isTable.A impl_Decl_isTable.R (fun x y h => (impl_Decl_isTable.ev k x).trans h) (by kernel_rfl)



/-! slices.Clone[[]loop.example/g00719/impl.Interval,loop.example/g00719/impl.Interval] -/
def slices_Clone_impl_Interval_impl_Interval.A : Sh := (.cons (.pur (.sl false (.cons (.int .i64) (.cons (.int .i64) .nil)))) .nil)
def slices_Clone_impl_Interval_impl_Interval.R : Sh := (.cons (.own (.cons (.int .i64) (.cons (.int .i64) .nil))) .nil)
def slices_Clone_impl_Interval_impl_Interval.ann : Ann := { loops := [], joins := [], keys := [] }
noncomputable def slices_Clone_impl_Interval_impl_Interval (k : Nat) : ((List (Int × Int × Unit)) × Unit) → Option (((List (Int × Int × Unit)) × Unit) × (Unit × Unit)) := fun x => match x with
 | (s_, ()) =>
  br k (s_.isEmpty) (agree
  (some (([], ()), ((), ())))
  (br k (decide ((([] : List (Int × Int × Unit)).length + s_.length) * 16 ≤ maxBytes))
  (some ((([] : List (Int × Int × Unit)) ++ s_, ()), ((), ())))
  none))
  (br k (decide ((([] : List (Int × Int × Unit)).length + s_.length) * 16 ≤ maxBytes))
  (some ((([] : List (Int × Int × Unit)) ++ s_, ()), ((), ())))
  none)
noncomputable def slices_Clone_impl_Interval_impl_Interval.sg (k : Nat) : Sig := ⟨slices_Clone_impl_Interval_impl_Interval.A, slices_Clone_impl_Interval_impl_Interval.R, slices_Clone_impl_Interval_impl_Interval k⟩
noncomputable def slices_Clone_impl_Interval_impl_Interval.C (k : Nat) : Ctx := ⟨Tryz.prog, [], k, []⟩
theorem slices_Clone_impl_Interval_impl_Interval.ev (k : Nat) (x : slices_Clone_impl_Interval_impl_Interval.A.T) : evFunc (slices_Clone_impl_Interval_impl_Interval.C k) slices_Clone_impl_Interval_impl_Interval.ann Tryz.f157 slices_Clone_impl_Interval_impl_Interval.A slices_Clone_impl_Interval_impl_Interval.R x = slices_Clone_impl_Interval_impl_Interval k x := by kernel_rfl
theorem slices_Clone_impl_Interval_impl_Interval.ok {L : List (Nat × Obj)}  (k : Nat) : SigHolds Tryz.prog L 157 (slices_Clone_impl_Interval_impl_Interval.sg k) :=
  sig_of_ev (C := slices_Clone_impl_Interval_impl_Interval.C k) holds_nil (by kernel_rfl) Tryz.func157 (by kernel_rfl) slices_Clone_impl_Interval_impl_Interval.ann slices_Clone_impl_Interval_impl_Interval.A slices_Clone_impl_Interval_impl_Interval.R (fun x y h => (slices_Clone_impl_Interval_impl_Interval.ev k x).trans h) (by kernel_rfl)

/-! (loop.example/g00719/impl.Env).own -/
def impl_Env_own.A : Sh := (.cons (.pur (.cons .bool (.cons (.sl false (.cons (.int .i64) (.cons (.int .i64) .nil))) (.cons (.sl false (.cons (.int .i64) (.cons (.int .i64) .nil))) .nil)))) .nil)
def impl_Env_own.R : Sh := (.cons (.agg (.cons (.pur .bool) (.cons (.own (.cons (.int .i64) (.cons (.int .i64) .nil))) (.cons (.own (.cons (.int .i64) (.cons (.int .i64) .nil))) .nil)))) .nil)
def impl_Env_own.ann : Ann := { loops := [], joins := [], keys := [(1, [([1], false), ([1], false), ([5], true), ([1], false), ([1], false), ([8], true), ([1], false), ([1, 5], true), ([1, 5], false), ([1, 5, 8], true)])] }
noncomputable def impl_Env_own (k : Nat) : ((Bool × (List (Int × Int × Unit)) × (List (Int × Int × Unit)) × Unit) × Unit) → Option (((Bool × (List (Int × Int × Unit)) × (List (Int × Int × Unit)) × Unit) × Unit) × (Unit × Unit)) := fun x => match x with
 | (e_, ()) =>
  bd k (slices_Clone_impl_Interval_impl_Interval k (e_.2.1, ())) fun y1 =>
  bd k (slices_Clone_impl_Interval_impl_Interval k (e_.2.2.1, ())) fun y2 =>
  some (((e_.1, y1.1.1, y2.1.1, ()), ()), ((), ()))
noncomputable def impl_Env_own.sg (k : Nat) : Sig := ⟨impl_Env_own.A, impl_Env_own.R, impl_Env_own k⟩
noncomputable def impl_Env_own.C (k : Nat) : Ctx := ⟨Tryz.prog, [(157, [slices_Clone_impl_Interval_impl_Interval.sg k])], k, []⟩
theorem impl_Env_own.ev (k : Nat) (x : impl_Env_own.A.T) : evFunc (impl_Env_own.C k) impl_Env_own.ann Tryz.f126 impl_Env_own.A impl_Env_own.R x = impl_Env_own k x := by kernel_rfl
theorem impl_Env_own.ok {L : List (Nat × Obj)}  (k : Nat) : SigHolds Tryz.prog L 126 (impl_Env_own.sg k) :=
  sig_of_ev (C := impl_Env_own.C k) (holds_cons (allok_cons (slices_Clone_impl_Interval_impl_Interval.ok k) allok_nil) holds_nil) (by kernel_rfl) Tryz.func126 (by kernel_rfl) impl_Env_own.ann impl_Env_own.A impl_Env_own.R (fun x y h => (impl_Env_own.ev k x).trans h) (by kernel_rfl)

/-! slices.Equal[[]loop.example/g00719/impl.Interval,loop.example/g00719/impl.Interval] -/
def slices_Equal_impl_Interval_impl_Interval.A : Sh := (.cons (.pur (.sl false (.cons (.int .i64) (.cons (.int .i64) .nil)))) (.cons (.pur (.sl false (.cons (.int .i64) (.cons (.int .i64) .nil)))) .nil))
def slices_Equal_impl_Interval_impl_Interval.R : Sh := (.cons (.pur .bool) .nil)
def slices_Equal_impl_Interval_impl_Interval.ann : Ann := { loops := [(0, [(0, (.pur (.sl false (.cons (.int .i64) (.cons (.int .i64) .nil))))), (1, (.pur (.sl false (.cons (.int .i64) (.cons (.int .i64) .nil))))), (12, (.pur (.int .i64))), (13, (.pur (.int .i64)))])], joins := [], keys := [] }
noncomputable def slices_Equal_impl_Interval_impl_Interval.l0 (k : Nat)  (G0 : ((List (Int × Int × Unit)) × (List (Int × Int × Unit)) × Int × Int × Unit) → Option ((Bool × Unit) × (Unit × Unit × Unit))) : ((List (Int × Int × Unit)) × (List (Int × Int × Unit)) × Int × Int × Unit) → Option ((Bool × Unit) × (Unit × Unit × Unit)) := fun x => match x with
 | (s1, s2, t12, t13, ()) =>
  br k (decide (t13 < t12))
  (br k (decide (0 ≤ t13))
  (bd k (s1[t13.toNat]?) fun x1 =>
  br k (decide (0 ≤ t13))
  (bd k (s2[t13.toNat]?) fun x2 =>
  br k (!((x1.1 == x2.1) && ((x1.2.1 == x2.2.1) && true)))
  (some ((false, ()), ((), (), ())))
  (G0 (s1, s2, t12, IntKind.wrap .i64 (t13 + 1), ())))
  none)
  none)
  (some ((true, ()), ((), (), ())))
noncomputable def slices_Equal_impl_Interval_impl_Interval (k : Nat) : ((List (Int × Int × Unit)) × (List (Int × Int × Unit)) × Unit) → Option ((Bool × Unit) × (Unit × Unit × Unit)) := fun x => match x with
 | (s1, s2, ()) =>
  br k ((s1.length : Int) != (s2.length : Int))
  (some ((false, ()), ((), (), ())))
  (iter (slices_Equal_impl_Interval_impl_Interval.l0 k) k (s1, s2, (s1.length : Int), 0, ()))
noncomputable def slices_Equal_impl_Interval_impl_Interval.sg (k : Nat) : Sig := ⟨slices_Equal_impl_Interval_impl_Interval.A, slices_Equal_impl_Interval_impl_Interval.R, slices_Equal_impl_Interval_impl_Interval k⟩
noncomputable def slices_Equal_impl_Interval_impl_Interval.C (k : Nat) : Ctx := ⟨Tryz.prog, [], k, []⟩
theorem slices_Equal_impl_Interval_impl_Interval.ev (k : Nat) (x : slices_Equal_impl_Interval_impl_Interval.A.T) : evFunc (slices_Equal_impl_Interval_impl_Interval.C k) slices_Equal_impl_Interval_impl_Interval.ann Tryz.f183 slices_Equal_impl_Interval_impl_Interval.A slices_Equal_impl_Interval_impl_Interval.R x = slices_Equal_impl_Interval_impl_Interval k x := by kernel_rfl
theorem slices_Equal_impl_Interval_impl_Interval.ok {L : List (Nat × Obj)}  (k : Nat) : SigHolds Tryz.prog L 183 (slices_Equal_impl_Interval_impl_Interval.sg k) :=
  sig_of_ev (C := slices_Equal_impl_Interval_impl_Interval.C k) holds_nil (by kernel_rfl) Tryz.func183 (by kernel_rfl) slices_Equal_impl_Interval_impl_Interval.ann slices_Equal_impl_Interval_impl_Interval.A slices_Equal_impl_Interval_impl_Interval.R (fun x y h => (slices_Equal_impl_Interval_impl_Interval.ev k x).trans h) (by kernel_rfl)

/-! loop.example/g00719/impl.sameEnv -/
def impl_sameEnv.A : Sh := (.cons (.pur (.cons .bool (.cons (.sl false (.cons (.int .i64) (.cons (.int .i64) .nil))) (.cons (.sl false (.cons (.int .i64) (.cons (.int .i64) .nil))) .nil)))) (.cons (.pur (.cons .bool (.cons (.sl false (.cons (.int .i64) (.cons (.int .i64) .nil))) (.cons (.sl false (.cons (.int .i64) (.cons (.int .i64) .nil))) .nil)))) .nil))
def impl_sameEnv.R : Sh := (.cons (.pur .bool) .nil)
def impl_sameEnv.ann : Ann := { loops := [], joins := [(1, [(4, .bool)])], keys := [] }
noncomputable def impl_sameEnv (k : Nat) : ((Bool × (List (Int × Int × Unit)) × (List (Int × Int × Unit)) × Unit) × (Bool × (List (Int × Int × Unit)) × (List (Int × Int × Unit)) × Unit) × Unit) → Option ((Bool × Unit) × (Unit × Unit × Unit)) := fun x => match x with
 | (a, b_, ()) =>
  (br k (a.1 == b_.1)
  (bd k (slices_Equal_impl_Interval_impl_Interval k (a.2.1, b_.2.1, ())) fun y1 =>
  br k (y1.1.1)
  (bd k (slices_Equal_impl_Interval_impl_Interval k (a.2.2.1, b_.2.2.1, ())) fun y2 =>
  some (y2.1.1, ()))
  (some (false, ())))
  (some (false, ())) : Option (Bool × Unit)).bind fun j3 =>
  some ((j3.1, ()), ((), (), ()))
noncomputable def impl_sameEnv.sg (k : Nat) : Sig := ⟨impl_sameEnv.A, impl_sameEnv.R, impl_sameEnv k⟩
noncomputable def impl_sameEnv.C (k : Nat) : Ctx := ⟨Tryz.prog, [(183, [slices_Equal_impl_Interval_impl_Interval.sg k])], k, []⟩
theorem impl_sameEnv.ev (k : Nat) (x : impl_sameEnv.A.T) : evFunc (impl_sameEnv.C k) impl_sameEnv.ann Tryz.f158 impl_sameEnv.A impl_sameEnv.R x = impl_sameEnv k x := by kernel_rfl
theorem impl_sameEnv.ok {L : List (Nat × Obj)}  (k : Nat) : SigHolds Tryz.prog L 158 (impl_sameEnv.sg k) :=
  sig_of_ev (C := impl_sameEnv.C k) (holds_cons (allok_cons (slices_Equal_impl_Interval_impl_Interval.ok k) allok_nil) holds_nil) (by kernel_rfl) Tryz.func158 (by kernel_rfl) impl_sameEnv.ann impl_sameEnv.A impl_sameEnv.R (fun x y h => (impl_sameEnv.ev k x).trans h) (by kernel_rfl)

/-! loop.example/g00719/impl.sameNode -/
def impl_sameNode.A : Sh := (.cons (.pur (.cons (.int .i64) (.cons (.int .i64) (.cons (.int .i64) (.cons .bool (.cons (.sl false (.cons (.int .i64) (.cons (.int .i64) .nil))) (.cons (.sl false (.cons (.int .i64) (.cons (.int .i64) .nil))) .nil))))))) (.cons (.pur (.cons (.int .i64) (.cons (.int .i64) (.cons (.int .i64) (.cons .bool (.cons (.sl false (.cons (.int .i64) (.cons (.int .i64) .nil))) (.cons (.sl false (.cons (.int .i64) (.cons (.int .i64) .nil))) .nil))))))) .nil))
def impl_sameNode.R : Sh := (.cons (.pur .bool) .nil)
def impl_sameNode.ann : Ann := { loops := [], joins := [(1, [(4, .bool)])], keys := [] }
noncomputable def impl_sameNode (k : Nat) : ((Int × Int × Int × Bool × (List (Int × Int × Unit)) × (List (Int × Int × Unit)) × Unit) × (Int × Int × Int × Bool × (List (Int × Int × Unit)) × (List (Int × Int × Unit)) × Unit) × Unit) → Option ((Bool × Unit) × (Unit × Unit × Unit)) := fun x => match x with
 | (a, b_, ()) =>
  (br k (a.1 == b_.1)
  (br k (a.2.1 == b_.2.1)
  (br k (a.2.2.1 == b_.2.2.1)
  (bd k (impl_sameEnv k ((a.2.2.2.1, a.2.2.2.2.1, a.2.2.2.2.2.1, ()), (b_.2.2.2.1, b_.2.2.2.2.1, b_.2.2.2.2.2.1, ()), ())) fun y1 =>
  some (y1.1.1, ()))
  (some (false, ())))
  (some (false, ())))
  (some (false, ())) : Option (Bool × Unit)).bind fun j2 =>
  some ((j2.1, ()), ((), (), ()))
noncomputable def impl_sameNode.sg (k : Nat) : Sig := ⟨impl_sameNode.A, impl_sameNode.R, impl_sameNode k⟩
noncomputable def impl_sameNode.C (k : Nat) : Ctx := ⟨Tryz.prog, [(158, [impl_sameEnv.sg k])], k, []⟩
theorem impl_sameNode.ev (k : Nat) (x : impl_sameNode.A.T) : evFunc (impl_sameNode.C k) impl_sameNode.ann Tryz.f128 impl_sameNode.A impl_sameNode.R x = impl_sameNode k x := by kernel_rfl
theorem impl_sameNode.ok {L : List (Nat × Obj)}  (k : Nat) : SigHolds Tryz.prog L 128 (impl_sameNode.sg k) :=
  sig_of_ev (C := impl_sameNode.C k) (holds_cons (allok_cons (impl_sameEnv.ok k) allok_nil) holds_nil) (by kernel_rfl) Tryz.func128 (by kernel_rfl) impl_sameNode.ann impl_sameNode.A impl_sameNode.R (fun x y h => (impl_sameNode.ev k x).trans h) (by kernel_rfl)





end Go.Pev.F
