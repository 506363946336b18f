/-
  Printed by gen.py: what functions of the program compute, and that they do.
-/
import Derived.Test.YtimiagnkcjfdhaaGreatDoorK05
set_option linter.unusedSimpArgs false
set_option linter.unusedVariables false
open Go.Proofs Go.Pev
namespace Go.Pev.F
set_option maxRecDepth 100000
set_option linter.unusedVariables false

/-! loop.example/g00719/impl.areAll[loop.example/g00719/impl.Env] -/
def impl_areAll_impl_Env.A : Sh := (.cons (.pur (.sl false (.cons .bool (.cons (.sl false (.cons (.int .i64) (.cons (.int .i64) .nil))) (.cons (.sl false (.cons (.int .i64) (.cons (.int .i64) .nil))) .nil))))) (.cons (.fn (.func 115) 1 (.cons (.pur (.cons (.sl false .str) (.cons (.sl false .str) (.cons (.sl false (.cons .str (.cons (.int .i64) .nil))) .nil)))) .nil)) .nil))
def impl_areAll_impl_Env.R : Sh := (.cons (.pur .bool) .nil)
def impl_areAll_impl_Env.ann : Ann := { loops := [], joins := [], keys := [] }
noncomputable def impl_areAll_impl_Env (k : Nat) : ((List (Bool × (List (Int × Int × Unit)) × (List (Int × Int × Unit)) × Unit)) × (((List (List UInt8)) × (List (List UInt8)) × (List ((List UInt8) × Int × Unit)) × Unit) × Unit) × Unit) → Option ((Bool × Unit) × (Unit × (Unit × Unit) × Unit)) := fun x => match x with
 | (list, (is_0, ()), ()) =>
  bd k (slices_ContainsFunc_impl_Env_impl_Env k (list, (((is_0, ()), ()), ()), ())) fun y1 =>
  some ((!y1.1.1, ()), ((), ((), ()), ()))
noncomputable def impl_areAll_impl_Env.sg (k : Nat) : Sig := ⟨impl_areAll_impl_Env.A, impl_areAll_impl_Env.R, impl_areAll_impl_Env k⟩
noncomputable def impl_areAll_impl_Env.C (k : Nat) : Ctx := ⟨Tryz.prog, [(137, [slices_ContainsFunc_impl_Env_impl_Env.sg k])], k⟩
theorem impl_areAll_impl_Env.ev (k : Nat) (x : impl_areAll_impl_Env.A.T) : evFunc (impl_areAll_impl_Env.C k) impl_areAll_impl_Env.ann Tryz.f114 impl_areAll_impl_Env.A impl_areAll_impl_Env.R x = impl_areAll_impl_Env k x := by kernel_rfl
theorem impl_areAll_impl_Env.ok {L : List (Nat × Obj)}  (k : Nat) : SigHolds Tryz.prog L 114 (impl_areAll_impl_Env.sg k) :=
  sig_of_ev (C := impl_areAll_impl_Env.C k) (holds_cons (allok_cons (slices_ContainsFunc_impl_Env_impl_Env.ok k) allok_nil) holds_nil) (by kernel_rfl) Tryz.func114 (by kernel_rfl) impl_areAll_impl_Env.ann impl_areAll_impl_Env.A impl_areAll_impl_Env.R (fun x y h => (impl_areAll_impl_Env.ev k x).trans h) (by kernel_rfl)

/-! (loop.example/g00719/impl.Decl).isTable -/
def impl_Decl_isTable.A : Sh := (.cons (.pur (.cons (.sl false .str) (.cons (.sl false .str) (.cons (.sl false (.cons .str (.cons (.int .i64) .nil))) .nil)))) (.cons (.pur (.sl false (.cons .bool (.cons (.sl false (.cons (.int .i64) (.cons (.int .i64) .nil))) (.cons (.sl false (.cons (.int .i64) (.cons (.int .i64) .nil))) .nil))))) .nil))
def impl_Decl_isTable.R : Sh := (.cons (.pur .bool) .nil)
def impl_Decl_isTable.ann : Ann := { loops := [], joins := [], keys := [(1, [([], false), ([], false), ([2], false), ([], false), ([], false), ([], false), ([], false), ([2], false), ([], false), ([14], true), ([], false), ([], false)])] }
noncomputable def impl_Decl_isTable (k : Nat) : (((List (List UInt8)) × (List (List UInt8)) × (List ((List UInt8) × Int × Unit)) × Unit) × (List (Bool × (List (Int × Int × Unit)) × (List (Int × Int × Unit)) × Unit)) × Unit) → Option ((Bool × Unit) × (Unit × Unit × Unit)) := fun x => match x with
 | (d_, t, ()) =>
  bd k (impl_size_impl_Env k (t, ())) fun y1 =>
  bd k (impl_Decl_leaves k (d_, ())) fun y2 =>
  br k (y1.1.1 == y2.1.1)
  (bd k (impl_areAll_impl_Env k (t, (d_, ()), ())) fun y3 =>
  some ((y3.1.1, ()), ((), (), ())))
  (some ((false, ()), ((), (), ())))
noncomputable def impl_Decl_isTable.sg (k : Nat) : Sig := ⟨impl_Decl_isTable.A, impl_Decl_isTable.R, impl_Decl_isTable k⟩
noncomputable def impl_Decl_isTable.C (k : Nat) : Ctx := ⟨Tryz.prog, [(113, [impl_size_impl_Env.sg k]), (79, [impl_Decl_leaves.sg k]), (114, [impl_areAll_impl_Env.sg k])], k⟩
theorem impl_Decl_isTable.ev (k : Nat) (x : impl_Decl_isTable.A.T) : evFunc (impl_Decl_isTable.C k) impl_Decl_isTable.ann Tryz.f82 impl_Decl_isTable.A impl_Decl_isTable.R x = impl_Decl_isTable k x := by kernel_rfl
theorem impl_Decl_isTable.ok {L : List (Nat × Obj)}  (k : Nat) : SigHolds Tryz.prog L 82 (impl_Decl_isTable.sg k) :=
  sig_of_ev (C := impl_Decl_isTable.C k) (holds_cons (allok_cons (impl_size_impl_Env.ok k) allok_nil) (holds_cons (allok_cons (impl_Decl_leaves.ok k) allok_nil) (holds_cons (allok_cons (impl_areAll_impl_Env.ok k) allok_nil) holds_nil))) (by kernel_rfl) Tryz.func82 (by kernel_rfl) impl_Decl_isTable.ann impl_Decl_isTable.A impl_Decl_isTable.R (fun x y h => (impl_Decl_isTable.ev k x).trans h) (by kernel_rfl)

/-! slices.Equal[[]loop.example/g00719/impl.Interval,loop.example/g00719/impl.Interval] -/
def slices_Equal_impl_Interval_impl_Interval.A : Sh := (.cons (.pur (.sl false (.cons (.int .i64) (.cons (.int .i64) .nil)))) (.cons (.pur (.sl false (.cons (.int .i64) (.cons (.int .i64) .nil)))) .nil))
def slices_Equal_impl_Interval_impl_Interval.R : Sh := (.cons (.pur .bool) .nil)
def slices_Equal_impl_Interval_impl_Interval.ann : Ann := { loops := [(0, [(0, (.pur (.sl false (.cons (.int .i64) (.cons (.int .i64) .nil))))), (1, (.pur (.sl false (.cons (.int .i64) (.cons (.int .i64) .nil))))), (12, (.pur (.int .i64))), (13, (.pur (.int .i64)))])], joins := [], keys := [] }
noncomputable def slices_Equal_impl_Interval_impl_Interval.l0 (k : Nat)  (G0 : ((List (Int × Int × Unit)) × (List (Int × Int × Unit)) × Int × Int × Unit) → Option ((Bool × Unit) × (Unit × Unit × Unit))) : ((List (Int × Int × Unit)) × (List (Int × Int × Unit)) × Int × Int × Unit) → Option ((Bool × Unit) × (Unit × Unit × Unit)) := fun x => match x with
 | (s1, s2, t12, t13, ()) =>
  br k (decide (t13 < t12))
  (br k (decide (0 ≤ t13))
  (bd k (s1[t13.toNat]?) fun x1 =>
  br k (decide (0 ≤ t13))
  (bd k (s2[t13.toNat]?) fun x2 =>
  br k (!((x1.1 == x2.1) && ((x1.2.1 == x2.2.1) && true)))
  (some ((false, ()), ((), (), ())))
  (G0 (s1, s2, t12, IntKind.wrap .i64 (t13 + 1), ())))
  none)
  none)
  (some ((true, ()), ((), (), ())))
noncomputable def slices_Equal_impl_Interval_impl_Interval (k : Nat) : ((List (Int × Int × Unit)) × (List (Int × Int × Unit)) × Unit) → Option ((Bool × Unit) × (Unit × Unit × Unit)) := fun x => match x with
 | (s1, s2, ()) =>
  br k ((s1.length : Int) != (s2.length : Int))
  (some ((false, ()), ((), (), ())))
  (iter (slices_Equal_impl_Interval_impl_Interval.l0 k) k (s1, s2, (s1.length : Int), 0, ()))
noncomputable def slices_Equal_impl_Interval_impl_Interval.sg (k : Nat) : Sig := ⟨slices_Equal_impl_Interval_impl_Interval.A, slices_Equal_impl_Interval_impl_Interval.R, slices_Equal_impl_Interval_impl_Interval k⟩
noncomputable def slices_Equal_impl_Interval_impl_Interval.C (k : Nat) : Ctx := ⟨Tryz.prog, [], k⟩
theorem slices_Equal_impl_Interval_impl_Interval.ev (k : Nat) (x : slices_Equal_impl_Interval_impl_Interval.A.T) : evFunc (slices_Equal_impl_Interval_impl_Interval.C k) slices_Equal_impl_Interval_impl_Interval.ann Tryz.f148 slices_Equal_impl_Interval_impl_Interval.A slices_Equal_impl_Interval_impl_Interval.R x = slices_Equal_impl_Interval_impl_Interval k x := by kernel_rfl
theorem slices_Equal_impl_Interval_impl_Interval.ok {L : List (Nat × Obj)}  (k : Nat) : SigHolds Tryz.prog L 148 (slices_Equal_impl_Interval_impl_Interval.sg k) :=
  sig_of_ev (C := slices_Equal_impl_Interval_impl_Interval.C k) holds_nil (by kernel_rfl) Tryz.func148 (by kernel_rfl) slices_Equal_impl_Interval_impl_Interval.ann slices_Equal_impl_Interval_impl_Interval.A slices_Equal_impl_Interval_impl_Interval.R (fun x y h => (slices_Equal_impl_Interval_impl_Interval.ev k x).trans h) (by kernel_rfl)

/-! loop.example/g00719/impl.sameEnv -/
def impl_sameEnv.A : Sh := (.cons (.pur (.cons .bool (.cons (.sl false (.cons (.int .i64) (.cons (.int .i64) .nil))) (.cons (.sl false (.cons (.int .i64) (.cons (.int .i64) .nil))) .nil)))) (.cons (.pur (.cons .bool (.cons (.sl false (.cons (.int .i64) (.cons (.int .i64) .nil))) (.cons (.sl false (.cons (.int .i64) (.cons (.int .i64) .nil))) .nil)))) .nil))
def impl_sameEnv.R : Sh := (.cons (.pur .bool) .nil)
def impl_sameEnv.ann : Ann := { loops := [], joins := [(1, [(4, .bool)])], keys := [] }
noncomputable def impl_sameEnv (k : Nat) : ((Bool × (List (Int × Int × Unit)) × (List (Int × Int × Unit)) × Unit) × (Bool × (List (Int × Int × Unit)) × (List (Int × Int × Unit)) × Unit) × Unit) → Option ((Bool × Unit) × (Unit × Unit × Unit)) := fun x => match x with
 | (a, b_, ()) =>
  (br k (a.1 == b_.1)
  (bd k (slices_Equal_impl_Interval_impl_Interval k (a.2.1, b_.2.1, ())) fun y1 =>
  br k (y1.1.1)
  (bd k (slices_Equal_impl_Interval_impl_Interval k (a.2.2.1, b_.2.2.1, ())) fun y2 =>
  some (y2.1.1, ()))
  (some (false, ())))
  (some (false, ())) : Option (Bool × Unit)).bind fun j3 =>
  some ((j3.1, ()), ((), (), ()))
noncomputable def impl_sameEnv.sg (k : Nat) : Sig := ⟨impl_sameEnv.A, impl_sameEnv.R, impl_sameEnv k⟩
noncomputable def impl_sameEnv.C (k : Nat) : Ctx := ⟨Tryz.prog, [(148, [slices_Equal_impl_Interval_impl_Interval.sg k])], k⟩
theorem impl_sameEnv.ev (k : Nat) (x : impl_sameEnv.A.T) : evFunc (impl_sameEnv.C k) impl_sameEnv.ann Tryz.f116 impl_sameEnv.A impl_sameEnv.R x = impl_sameEnv k x := by kernel_rfl
theorem impl_sameEnv.ok {L : List (Nat × Obj)}  (k : Nat) : SigHolds Tryz.prog L 116 (impl_sameEnv.sg k) :=
  sig_of_ev (C := impl_sameEnv.C k) (holds_cons (allok_cons (slices_Equal_impl_Interval_impl_Interval.ok k) allok_nil) holds_nil) (by kernel_rfl) Tryz.func116 (by kernel_rfl) impl_sameEnv.ann impl_sameEnv.A impl_sameEnv.R (fun x y h => (impl_sameEnv.ev k x).trans h) (by kernel_rfl)

/-! loop.example/g00719/impl.sameNode -/
def impl_sameNode.A : Sh := (.cons (.pur (.cons (.int .i64) (.cons (.int .i64) (.cons (.int .i64) (.cons .bool (.cons (.sl false (.cons (.int .i64) (.cons (.int .i64) .nil))) (.cons (.sl false (.cons (.int .i64) (.cons (.int .i64) .nil))) .nil))))))) (.cons (.pur (.cons (.int .i64) (.cons (.int .i64) (.cons (.int .i64) (.cons .bool (.cons (.sl false (.cons (.int .i64) (.cons (.int .i64) .nil))) (.cons (.sl false (.cons (.int .i64) (.cons (.int .i64) .nil))) .nil))))))) .nil))
def impl_sameNode.R : Sh := (.cons (.pur .bool) .nil)
def impl_sameNode.ann : Ann := { loops := [], joins := [(1, [(4, .bool)])], keys := [] }
noncomputable def impl_sameNode (k : Nat) : ((Int × Int × Int × Bool × (List (Int × Int × Unit)) × (List (Int × Int × Unit)) × Unit) × (Int × Int × Int × Bool × (List (Int × Int × Unit)) × (List (Int × Int × Unit)) × Unit) × Unit) → Option ((Bool × Unit) × (Unit × Unit × Unit)) := fun x => match x with
 | (a, b_, ()) =>
  (br k (a.1 == b_.1)
  (br k (a.2.1 == b_.2.1)
  (br k (a.2.2.1 == b_.2.2.1)
  (bd k (impl_sameEnv k ((a.2.2.2.1, a.2.2.2.2.1, a.2.2.2.2.2.1, ()), (b_.2.2.2.1, b_.2.2.2.2.1, b_.2.2.2.2.2.1, ()), ())) fun y1 =>
  some (y1.1.1, ()))
  (some (false, ())))
  (some (false, ())))
  (some (false, ())) : Option (Bool × Unit)).bind fun j2 =>
  some ((j2.1, ()), ((), (), ()))
noncomputable def impl_sameNode.sg (k : Nat) : Sig := ⟨impl_sameNode.A, impl_sameNode.R, impl_sameNode k⟩
noncomputable def impl_sameNode.C (k : Nat) : Ctx := ⟨Tryz.prog, [(116, [impl_sameEnv.sg k])], k⟩
theorem impl_sameNode.ev (k : Nat) (x : impl_sameNode.A.T) : evFunc (impl_sameNode.C k) impl_sameNode.ann Tryz.f84 impl_sameNode.A impl_sameNode.R x = impl_sameNode k x := by kernel_rfl
theorem impl_sameNode.ok {L : List (Nat × Obj)}  (k : Nat) : SigHolds Tryz.prog L 84 (impl_sameNode.sg k) :=
  sig_of_ev (C := impl_sameNode.C k) (holds_cons (allok_cons (impl_sameEnv.ok k) allok_nil) holds_nil) (by kernel_rfl) Tryz.func84 (by kernel_rfl) impl_sameNode.ann impl_sameNode.A impl_sameNode.R (fun x y h => (impl_sameNode.ev k x).trans h) (by kernel_rfl)

/-! (*loop.example/g00719/impl.Tree).put$1 -/
def impl_Tree_put_1.A : Sh := (.cons (.pur (.cons (.int .i64) (.cons (.int .i64) (.cons (.int .i64) (.cons .bool (.cons (.sl false (.cons (.int .i64) (.cons (.int .i64) .nil))) (.cons (.sl false (.cons (.int .i64) (.cons (.int .i64) .nil))) .nil))))))) (.cons (.box (.cons (.pur (.int .i64)) (.cons (.pur (.int .i64)) (.cons (.pur (.int .i64)) (.cons (.pur .bool) (.cons (.pur (.sl false (.cons (.int .i64) (.cons (.int .i64) .nil)))) (.cons (.pur (.sl false (.cons (.int .i64) (.cons (.int .i64) .nil)))) .nil))))))) .nil))
def impl_Tree_put_1.R : Sh := (.cons (.pur .bool) .nil)
def impl_Tree_put_1.ann : Ann := { loops := [], joins := [], keys := [] }
noncomputable def impl_Tree_put_1 (k : Nat) : ((Int × Int × Int × Bool × (List (Int × Int × Unit)) × (List (Int × Int × Unit)) × Unit) × (Int × Int × Int × Bool × (List (Int × Int × Unit)) × (List (Int × Int × Unit)) × Unit) × Unit) → Option ((Bool × Unit) × (Unit × (Int × Int × Int × Bool × (List (Int × Int × Unit)) × (List (Int × Int × Unit)) × Unit) × Unit)) := fun x => match x with
 | (own, (a1_0, a1_1, a1_2, a1_3, a1_4, a1_5, ()), ()) =>
  bd k (impl_sameNode k (own, (a1_0, a1_1, a1_2, a1_3, a1_4, a1_5, ()), ())) fun y1 =>
  some ((y1.1.1, ()), ((), (a1_0, a1_1, a1_2, a1_3, a1_4, a1_5, ()), ()))
noncomputable def impl_Tree_put_1.sg (k : Nat) : Sig := ⟨impl_Tree_put_1.A, impl_Tree_put_1.R, impl_Tree_put_1 k⟩
noncomputable def impl_Tree_put_1.C (k : Nat) : Ctx := ⟨Tryz.prog, [(84, [impl_sameNode.sg k])], k⟩
theorem impl_Tree_put_1.ev (k : Nat) (x : impl_Tree_put_1.A.T) : evFunc (impl_Tree_put_1.C k) impl_Tree_put_1.ann Tryz.f143 impl_Tree_put_1.A impl_Tree_put_1.R x = impl_Tree_put_1 k x := by kernel_rfl
theorem impl_Tree_put_1.ok {L : List (Nat × Obj)}  (k : Nat) : SigHolds Tryz.prog L 143 (impl_Tree_put_1.sg k) :=
  sig_of_ev (C := impl_Tree_put_1.C k) (holds_cons (allok_cons (impl_sameNode.ok k) allok_nil) holds_nil) (by kernel_rfl) Tryz.func143 (by kernel_rfl) impl_Tree_put_1.ann impl_Tree_put_1.A impl_Tree_put_1.R (fun x y h => (impl_Tree_put_1.ev k x).trans h) (by kernel_rfl)

/-! slices.IndexFunc[[]loop.example/g00719/impl.Node,loop.example/g00719/impl.Node] -/
def slices_IndexFunc_impl_Node_impl_Node.A : Sh := (.cons (.pur (.sl false (.cons (.int .i64) (.cons (.int .i64) (.cons (.int .i64) (.cons .bool (.cons (.sl false (.cons (.int .i64) (.cons (.int .i64) .nil))) (.cons (.sl false (.cons (.int .i64) (.cons (.int .i64) .nil))) .nil)))))))) (.cons (.fn (.func 143) 0 (.cons (.box (.cons (.pur (.int .i64)) (.cons (.pur (.int .i64)) (.cons (.pur (.int .i64)) (.cons (.pur .bool) (.cons (.pur (.sl false (.cons (.int .i64) (.cons (.int .i64) .nil)))) (.cons (.pur (.sl false (.cons (.int .i64) (.cons (.int .i64) .nil)))) .nil))))))) .nil)) .nil))
def slices_IndexFunc_impl_Node_impl_Node.R : Sh := (.cons (.pur (.int .i64)) .nil)
def slices_IndexFunc_impl_Node_impl_Node.ann : Ann := { loops := [(0, [(0, (.pur (.sl false (.cons (.int .i64) (.cons (.int .i64) (.cons (.int .i64) (.cons .bool (.cons (.sl false (.cons (.int .i64) (.cons (.int .i64) .nil))) (.cons (.sl false (.cons (.int .i64) (.cons (.int .i64) .nil))) .nil))))))))), (1, (.fn (.func 143) 0 (.cons (.box (.cons (.pur (.int .i64)) (.cons (.pur (.int .i64)) (.cons (.pur (.int .i64)) (.cons (.pur .bool) (.cons (.pur (.sl false (.cons (.int .i64) (.cons (.int .i64) .nil)))) (.cons (.pur (.sl false (.cons (.int .i64) (.cons (.int .i64) .nil)))) .nil))))))) .nil))), (7, (.pur (.int .i64))), (8, (.pur (.int .i64)))])], joins := [], keys := [] }
noncomputable def slices_IndexFunc_impl_Node_impl_Node.l0 (k : Nat)  (G0 : ((List (Int × Int × Int × Bool × (List (Int × Int × Unit)) × (List (Int × Int × Unit)) × Unit)) × ((Int × Int × Int × Bool × (List (Int × Int × Unit)) × (List (Int × Int × Unit)) × Unit) × Unit) × Int × Int × Unit) → Option ((Int × Unit) × (Unit × ((Int × Int × Int × Bool × (List (Int × Int × Unit)) × (List (Int × Int × Unit)) × Unit) × Unit) × Unit))) : ((List (Int × Int × Int × Bool × (List (Int × Int × Unit)) × (List (Int × Int × Unit)) × Unit)) × ((Int × Int × Int × Bool × (List (Int × Int × Unit)) × (List (Int × Int × Unit)) × Unit) × Unit) × Int × Int × Unit) → Option ((Int × Unit) × (Unit × ((Int × Int × Int × Bool × (List (Int × Int × Unit)) × (List (Int × Int × Unit)) × Unit) × Unit) × Unit)) := fun x => match x with
 | (s_, ((f_0_0, f_0_1, f_0_2, f_0_3, f_0_4, f_0_5, ()), ()), t7, t8, ()) =>
  br k (decide (t8 < t7))
  (br k (decide (0 ≤ t8))
  (bd k (s_[t8.toNat]?) fun x1 =>
  bd k (impl_Tree_put_1 k (x1, (f_0_0, f_0_1, f_0_2, f_0_3, f_0_4, f_0_5, ()), ())) fun y2 =>
  br k (y2.1.1)
  (some ((t8, ()), ((), ((y2.2.2.1.1, y2.2.2.1.2.1, y2.2.2.1.2.2.1, y2.2.2.1.2.2.2.1, y2.2.2.1.2.2.2.2.1, y2.2.2.1.2.2.2.2.2.1, ()), ()), ())))
  (G0 (s_, ((y2.2.2.1.1, y2.2.2.1.2.1, y2.2.2.1.2.2.1, y2.2.2.1.2.2.2.1, y2.2.2.1.2.2.2.2.1, y2.2.2.1.2.2.2.2.2.1, ()), ()), t7, IntKind.wrap .i64 (t8 + 1), ())))
  none)
  (some (((-1), ()), ((), ((f_0_0, f_0_1, f_0_2, f_0_3, f_0_4, f_0_5, ()), ()), ())))
noncomputable def slices_IndexFunc_impl_Node_impl_Node (k : Nat) : ((List (Int × Int × Int × Bool × (List (Int × Int × Unit)) × (List (Int × Int × Unit)) × Unit)) × ((Int × Int × Int × Bool × (List (Int × Int × Unit)) × (List (Int × Int × Unit)) × Unit) × Unit) × Unit) → Option ((Int × Unit) × (Unit × ((Int × Int × Int × Bool × (List (Int × Int × Unit)) × (List (Int × Int × Unit)) × Unit) × Unit) × Unit)) := fun x => match x with
 | (s_, ((f_0_0, f_0_1, f_0_2, f_0_3, f_0_4, f_0_5, ()), ()), ()) =>
  iter (slices_IndexFunc_impl_Node_impl_Node.l0 k) k (s_, ((f_0_0, f_0_1, f_0_2, f_0_3, f_0_4, f_0_5, ()), ()), (s_.length : Int), 0, ())
noncomputable def slices_IndexFunc_impl_Node_impl_Node.sg (k : Nat) : Sig := ⟨slices_IndexFunc_impl_Node_impl_Node.A, slices_IndexFunc_impl_Node_impl_Node.R, slices_IndexFunc_impl_Node_impl_Node k⟩
noncomputable def slices_IndexFunc_impl_Node_impl_Node.C (k : Nat) : Ctx := ⟨Tryz.prog, [(143, [impl_Tree_put_1.sg k])], k⟩
theorem slices_IndexFunc_impl_Node_impl_Node.ev (k : Nat) (x : slices_IndexFunc_impl_Node_impl_Node.A.T) : evFunc (slices_IndexFunc_impl_Node_impl_Node.C k) slices_IndexFunc_impl_Node_impl_Node.ann Tryz.f142 slices_IndexFunc_impl_Node_impl_Node.A slices_IndexFunc_impl_Node_impl_Node.R x = slices_IndexFunc_impl_Node_impl_Node k x := by kernel_rfl
theorem slices_IndexFunc_impl_Node_impl_Node.ok {L : List (Nat × Obj)}  (k : Nat) : SigHolds Tryz.prog L 142 (slices_IndexFunc_impl_Node_impl_Node.sg k) :=
  sig_of_ev (C := slices_IndexFunc_impl_Node_impl_Node.C k) (holds_cons (allok_cons (impl_Tree_put_1.ok k) allok_nil) holds_nil) (by kernel_rfl) Tryz.func142 (by kernel_rfl) slices_IndexFunc_impl_Node_impl_Node.ann slices_IndexFunc_impl_Node_impl_Node.A slices_IndexFunc_impl_Node_impl_Node.R (fun x y h => (slices_IndexFunc_impl_Node_impl_Node.ev k x).trans h) (by kernel_rfl)

/-! (*loop.example/g00719/impl.Tree).put$1 -/
def impl_Tree_put_1_v1.A : Sh := (.cons (.pur (.cons (.int .i64) (.cons (.int .i64) (.cons (.int .i64) (.cons .bool (.cons (.sl false (.cons (.int .i64) (.cons (.int .i64) .nil))) (.cons (.sl false (.cons (.int .i64) (.cons (.int .i64) .nil))) .nil))))))) (.cons (.box (.cons (.pur (.int .i64)) (.cons (.pur (.int .i64)) (.cons (.pur (.int .i64)) (.cons (.pur .bool) (.cons (.own (.cons (.int .i64) (.cons (.int .i64) .nil))) (.cons (.own (.cons (.int .i64) (.cons (.int .i64) .nil))) .nil))))))) .nil))
def impl_Tree_put_1_v1.R : Sh := (.cons (.pur .bool) .nil)
def impl_Tree_put_1_v1.ann : Ann := { loops := [], joins := [], keys := [] }
noncomputable def impl_Tree_put_1_v1 (k : Nat) : ((Int × Int × Int × Bool × (List (Int × Int × Unit)) × (List (Int × Int × Unit)) × Unit) × (Int × Int × Int × Bool × (List (Int × Int × Unit)) × (List (Int × Int × Unit)) × Unit) × Unit) → Option ((Bool × Unit) × (Unit × (Int × Int × Int × Bool × (List (Int × Int × Unit)) × (List (Int × Int × Unit)) × Unit) × Unit)) := fun x => match x with
 | (own, (a1_0, a1_1, a1_2, a1_3, a1_4, a1_5, ()), ()) =>
  bd k (impl_sameNode k (own, (a1_0, a1_1, a1_2, a1_3, a1_4, a1_5, ()), ())) fun y1 =>
  some ((y1.1.1, ()), ((), (a1_0, a1_1, a1_2, a1_3, a1_4, a1_5, ()), ()))
noncomputable def impl_Tree_put_1_v1.sg (k : Nat) : Sig := ⟨impl_Tree_put_1_v1.A, impl_Tree_put_1_v1.R, impl_Tree_put_1_v1 k⟩
noncomputable def impl_Tree_put_1_v1.C (k : Nat) : Ctx := ⟨Tryz.prog, [(84, [impl_sameNode.sg k])], k⟩
theorem impl_Tree_put_1_v1.ev (k : Nat) (x : impl_Tree_put_1_v1.A.T) : evFunc (impl_Tree_put_1_v1.C k) impl_Tree_put_1_v1.ann Tryz.f143 impl_Tree_put_1_v1.A impl_Tree_put_1_v1.R x = impl_Tree_put_1_v1 k x := by kernel_rfl
theorem impl_Tree_put_1_v1.ok {L : List (Nat × Obj)}  (k : Nat) : SigHolds Tryz.prog L 143 (impl_Tree_put_1_v1.sg k) :=
  sig_of_ev (C := impl_Tree_put_1_v1.C k) (holds_cons (allok_cons (impl_sameNode.ok k) allok_nil) holds_nil) (by kernel_rfl) Tryz.func143 (by kernel_rfl) impl_Tree_put_1_v1.ann impl_Tree_put_1_v1.A impl_Tree_put_1_v1.R (fun x y h => (impl_Tree_put_1_v1.ev k x).trans h) (by kernel_rfl)

/-! slices.IndexFunc[[]loop.example/g00719/impl.Node,loop.example/g00719/impl.Node] -/
def slices_IndexFunc_impl_Node_impl_Node_v1.A : Sh := (.cons (.pur (.sl false (.cons (.int .i64) (.cons (.int .i64) (.cons (.int .i64) (.cons .bool (.cons (.sl false (.cons (.int .i64) (.cons (.int .i64) .nil))) (.cons (.sl false (.cons (.int .i64) (.cons (.int .i64) .nil))) .nil)))))))) (.cons (.fn (.func 143) 0 (.cons (.box (.cons (.pur (.int .i64)) (.cons (.pur (.int .i64)) (.cons (.pur (.int .i64)) (.cons (.pur .bool) (.cons (.own (.cons (.int .i64) (.cons (.int .i64) .nil))) (.cons (.own (.cons (.int .i64) (.cons (.int .i64) .nil))) .nil))))))) .nil)) .nil))
def slices_IndexFunc_impl_Node_impl_Node_v1.R : Sh := (.cons (.pur (.int .i64)) .nil)
def slices_IndexFunc_impl_Node_impl_Node_v1.ann : Ann := { loops := [(0, [(0, (.pur (.sl false (.cons (.int .i64) (.cons (.int .i64) (.cons (.int .i64) (.cons .bool (.cons (.sl false (.cons (.int .i64) (.cons (.int .i64) .nil))) (.cons (.sl false (.cons (.int .i64) (.cons (.int .i64) .nil))) .nil))))))))), (1, (.fn (.func 143) 0 (.cons (.box (.cons (.pur (.int .i64)) (.cons (.pur (.int .i64)) (.cons (.pur (.int .i64)) (.cons (.pur .bool) (.cons (.own (.cons (.int .i64) (.cons (.int .i64) .nil))) (.cons (.own (.cons (.int .i64) (.cons (.int .i64) .nil))) .nil))))))) .nil))), (7, (.pur (.int .i64))), (8, (.pur (.int .i64)))])], joins := [], keys := [] }
noncomputable def slices_IndexFunc_impl_Node_impl_Node_v1.l0 (k : Nat)  (G0 : ((List (Int × Int × Int × Bool × (List (Int × Int × Unit)) × (List (Int × Int × Unit)) × Unit)) × ((Int × Int × Int × Bool × (List (Int × Int × Unit)) × (List (Int × Int × Unit)) × Unit) × Unit) × Int × Int × Unit) → Option ((Int × Unit) × (Unit × ((Int × Int × Int × Bool × (List (Int × Int × Unit)) × (List (Int × Int × Unit)) × Unit) × Unit) × Unit))) : ((List (Int × Int × Int × Bool × (List (Int × Int × Unit)) × (List (Int × Int × Unit)) × Unit)) × ((Int × Int × Int × Bool × (List (Int × Int × Unit)) × (List (Int × Int × Unit)) × Unit) × Unit) × Int × Int × Unit) → Option ((Int × Unit) × (Unit × ((Int × Int × Int × Bool × (List (Int × Int × Unit)) × (List (Int × Int × Unit)) × Unit) × Unit) × Unit)) := fun x => match x with
 | (s_, ((f_0_0, f_0_1, f_0_2, f_0_3, f_0_4, f_0_5, ()), ()), t7, t8, ()) =>
  br k (decide (t8 < t7))
  (br k (decide (0 ≤ t8))
  (bd k (s_[t8.toNat]?) fun x1 =>
  bd k (impl_Tree_put_1_v1 k (x1, (f_0_0, f_0_1, f_0_2, f_0_3, f_0_4, f_0_5, ()), ())) fun y2 =>
  br k (y2.1.1)
  (some ((t8, ()), ((), ((y2.2.2.1.1, y2.2.2.1.2.1, y2.2.2.1.2.2.1, y2.2.2.1.2.2.2.1, y2.2.2.1.2.2.2.2.1, y2.2.2.1.2.2.2.2.2.1, ()), ()), ())))
  (G0 (s_, ((y2.2.2.1.1, y2.2.2.1.2.1, y2.2.2.1.2.2.1, y2.2.2.1.2.2.2.1, y2.2.2.1.2.2.2.2.1, y2.2.2.1.2.2.2.2.2.1, ()), ()), t7, IntKind.wrap .i64 (t8 + 1), ())))
  none)
  (some (((-1), ()), ((), ((f_0_0, f_0_1, f_0_2, f_0_3, f_0_4, f_0_5, ()), ()), ())))
noncomputable def slices_IndexFunc_impl_Node_impl_Node_v1 (k : Nat) : ((List (Int × Int × Int × Bool × (List (Int × Int × Unit)) × (List (Int × Int × Unit)) × Unit)) × ((Int × Int × Int × Bool × (List (Int × Int × Unit)) × (List (Int × Int × Unit)) × Unit) × Unit) × Unit) → Option ((Int × Unit) × (Unit × ((Int × Int × Int × Bool × (List (Int × Int × Unit)) × (List (Int × Int × Unit)) × Unit) × Unit) × Unit)) := fun x => match x with
 | (s_, ((f_0_0, f_0_1, f_0_2, f_0_3, f_0_4, f_0_5, ()), ()), ()) =>
  iter (slices_IndexFunc_impl_Node_impl_Node_v1.l0 k) k (s_, ((f_0_0, f_0_1, f_0_2, f_0_3, f_0_4, f_0_5, ()), ()), (s_.length : Int), 0, ())
noncomputable def slices_IndexFunc_impl_Node_impl_Node_v1.sg (k : Nat) : Sig := ⟨slices_IndexFunc_impl_Node_impl_Node_v1.A, slices_IndexFunc_impl_Node_impl_Node_v1.R, slices_IndexFunc_impl_Node_impl_Node_v1 k⟩
noncomputable def slices_IndexFunc_impl_Node_impl_Node_v1.C (k : Nat) : Ctx := ⟨Tryz.prog, [(143, [impl_Tree_put_1_v1.sg k])], k⟩
theorem slices_IndexFunc_impl_Node_impl_Node_v1.ev (k : Nat) (x : slices_IndexFunc_impl_Node_impl_Node_v1.A.T) : evFunc (slices_IndexFunc_impl_Node_impl_Node_v1.C k) slices_IndexFunc_impl_Node_impl_Node_v1.ann Tryz.f142 slices_IndexFunc_impl_Node_impl_Node_v1.A slices_IndexFunc_impl_Node_impl_Node_v1.R x = slices_IndexFunc_impl_Node_impl_Node_v1 k x := by kernel_rfl
theorem slices_IndexFunc_impl_Node_impl_Node_v1.ok {L : List (Nat × Obj)}  (k : Nat) : SigHolds Tryz.prog L 142 (slices_IndexFunc_impl_Node_impl_Node_v1.sg k) :=
  sig_of_ev (C := slices_IndexFunc_impl_Node_impl_Node_v1.C k) (holds_cons (allok_cons (impl_Tree_put_1_v1.ok k) allok_nil) holds_nil) (by kernel_rfl) Tryz.func142 (by kernel_rfl) slices_IndexFunc_impl_Node_impl_Node_v1.ann slices_IndexFunc_impl_Node_impl_Node_v1.A slices_IndexFunc_impl_Node_impl_Node_v1.R (fun x y h => (slices_IndexFunc_impl_Node_impl_Node_v1.ev k x).trans h) (by kernel_rfl)

/-! (*loop.example/g00719/impl.Tree).put -/
def impl_Tree_put.A : Sh := (.cons (.box (.cons (.own (.cons (.int .i64) (.cons (.int .i64) (.cons (.int .i64) (.cons .bool (.cons (.sl false (.cons (.int .i64) (.cons (.int .i64) .nil))) (.cons (.sl false (.cons (.int .i64) (.cons (.int .i64) .nil))) .nil))))))) .nil)) (.cons (.agg (.cons (.pur (.int .i64)) (.cons (.pur (.int .i64)) (.cons (.pur (.int .i64)) (.cons (.pur .bool) (.cons (.own (.cons (.int .i64) (.cons (.int .i64) .nil))) (.cons (.own (.cons (.int .i64) (.cons (.int .i64) .nil))) .nil))))))) .nil))
def impl_Tree_put.R : Sh := (.cons (.pur (.int .i64)) .nil)
def impl_Tree_put.ann : Ann := { loops := [], joins := [], keys := [(4, [([], false), ([], false), ([0], false), ([0], false), ([0], false), ([3, 11], false), ([11, 21], true), ([0, 21, 22], true), ([0], false), ([0], false), ([0, 22], true)])] }
noncomputable def impl_Tree_put (k : Nat) : (((List (Int × Int × Int × Bool × (List (Int × Int × Unit)) × (List (Int × Int × Unit)) × Unit)) × Unit) × (Int × Int × Int × Bool × (List (Int × Int × Unit)) × (List (Int × Int × Unit)) × Unit) × Unit) → Option ((Int × Unit) × (((List (Int × Int × Int × Bool × (List (Int × Int × Unit)) × (List (Int × Int × Unit)) × Unit)) × Unit) × (Unit × Unit × Unit × Unit × Unit × Unit × Unit) × Unit)) := fun x => match x with
 | ((t_0, ()), (n_0, n_1, n_2, n_3, n_4, n_5, ()), ()) =>
  bd k (slices_IndexFunc_impl_Node_impl_Node_v1 k (t_0, ((n_0, n_1, n_2, n_3, n_4, n_5, ()), ()), ())) fun y1 =>
  br k (decide (y1.1.1 ≥ 0))
  (some ((y1.1.1, ()), ((t_0, ()), ((), (), (), (), (), (), ()), ())))
  (br k (decide ((t_0.length + ([(y1.2.2.1.1.1, y1.2.2.1.1.2.1, y1.2.2.1.1.2.2.1, y1.2.2.1.1.2.2.2.1, y1.2.2.1.1.2.2.2.2.1, y1.2.2.1.1.2.2.2.2.2.1, ())] : List (Int × Int × Int × Bool × (List (Int × Int × Unit)) × (List (Int × Int × Unit)) × Unit)).length) * 80 ≤ maxBytes))
  (bd k (impl_size_impl_Node k (t_0 ++ ([(y1.2.2.1.1.1, y1.2.2.1.1.2.1, y1.2.2.1.1.2.2.1, y1.2.2.1.1.2.2.2.1, y1.2.2.1.1.2.2.2.2.1, y1.2.2.1.1.2.2.2.2.2.1, ())] : List (Int × Int × Int × Bool × (List (Int × Int × Unit)) × (List (Int × Int × Unit)) × Unit)), ())) fun y2 =>
  some ((IntKind.wrap .i64 (y2.1.1 - 1), ()), ((t_0 ++ ([(y1.2.2.1.1.1, y1.2.2.1.1.2.1, y1.2.2.1.1.2.2.1, y1.2.2.1.1.2.2.2.1, y1.2.2.1.1.2.2.2.2.1, y1.2.2.1.1.2.2.2.2.2.1, ())] : List (Int × Int × Int × Bool × (List (Int × Int × Unit)) × (List (Int × Int × Unit)) × Unit)), ()), ((), (), (), (), (), (), ()), ())))
  none)
noncomputable def impl_Tree_put.sg (k : Nat) : Sig := ⟨impl_Tree_put.A, impl_Tree_put.R, impl_Tree_put k⟩
noncomputable def impl_Tree_put.C (k : Nat) : Ctx := ⟨Tryz.prog, [(142, [slices_IndexFunc_impl_Node_impl_Node_v1.sg k]), (49, [impl_size_impl_Node.sg k])], k⟩
theorem impl_Tree_put.ev (k : Nat) (x : impl_Tree_put.A.T) : evFunc (impl_Tree_put.C k) impl_Tree_put.ann Tryz.f107 impl_Tree_put.A impl_Tree_put.R x = impl_Tree_put k x := by kernel_rfl
theorem impl_Tree_put.ok {L : List (Nat × Obj)}  (k : Nat) : SigHolds Tryz.prog L 107 (impl_Tree_put.sg k) :=
  sig_of_ev (C := impl_Tree_put.C k) (holds_cons (allok_cons (slices_IndexFunc_impl_Node_impl_Node_v1.ok k) allok_nil) (holds_cons (allok_cons (impl_size_impl_Node.ok k) allok_nil) holds_nil)) (by kernel_rfl) Tryz.func107 (by kernel_rfl) impl_Tree_put.ann impl_Tree_put.A impl_Tree_put.R (fun x y h => (impl_Tree_put.ev k x).trans h) (by kernel_rfl)

/-! (*loop.example/g00719/impl.Tree).build -/
def impl_Tree_build.A : Sh := (.cons (.box (.cons (.own (.cons (.int .i64) (.cons (.int .i64) (.cons (.int .i64) (.cons .bool (.cons (.sl false (.cons (.int .i64) (.cons (.int .i64) .nil))) (.cons (.sl false (.cons (.int .i64) (.cons (.int .i64) .nil))) .nil))))))) .nil)) (.cons (.pur (.sl false (.cons .bool (.cons (.sl false (.cons (.int .i64) (.cons (.int .i64) .nil))) (.cons (.sl false (.cons (.int .i64) (.cons (.int .i64) .nil))) .nil))))) (.cons (.pur (.int .i64)) (.cons (.pur (.int .i64)) (.cons (.pur (.int .i64)) .nil)))))
def impl_Tree_build.R : Sh := (.cons (.pur (.int .i64)) .nil)
def impl_Tree_build.ann : Ann := { loops := [], joins := [], keys := [] }
noncomputable def impl_Tree_build.f (k : Nat) (R_ : (((List (Int × Int × Int × Bool × (List (Int × Int × Unit)) × (List (Int × Int × Unit)) × Unit)) × Unit) × (List (Bool × (List (Int × Int × Unit)) × (List (Int × Int × Unit)) × Unit)) × Int × Int × Int × Unit) → Option ((Int × Unit) × (((List (Int × Int × Int × Bool × (List (Int × Int × Unit)) × (List (Int × Int × Unit)) × Unit)) × Unit) × Unit × Unit × Unit × Unit × Unit))) : (((List (Int × Int × Int × Bool × (List (Int × Int × Unit)) × (List (Int × Int × Unit)) × Unit)) × Unit) × (List (Bool × (List (Int × Int × Unit)) × (List (Int × Int × Unit)) × Unit)) × Int × Int × Int × Unit) → Option ((Int × Unit) × (((List (Int × Int × Int × Bool × (List (Int × Int × Unit)) × (List (Int × Int × Unit)) × Unit)) × Unit) × Unit × Unit × Unit × Unit × Unit)) := fun x => match x with
 | ((t_0, ()), table, flag, flags, leaf, ()) =>
  br k (flag == flags)
  (br k (decide (0 ≤ leaf))
  (bd k (table[leaf.toNat]?) fun x1 =>
  bd k (impl_Env_own k (x1, ())) fun y2 =>
  bd k (impl_Tree_put k ((t_0, ()), ((-1), 0, 0, y2.1.1.1, y2.1.1.2.1, y2.1.1.2.2.1, ()), ())) fun y3 =>
  some ((y3.1.1, ()), ((y3.2.1.1, ()), (), (), (), (), ())))
  none)
  (bd k (R_ ((t_0, ()), table, IntKind.wrap .i64 (flag + 1), flags, leaf, ())) fun y4 =>
  br k (decide (0 ≤ flag))
  (bd k (R_ ((y4.2.1.1, ()), table, IntKind.wrap .i64 (flag + 1), flags, IntKind.wrap .i64 (((BitVec.ofInt 64 leaf ||| BitVec.ofInt 64 (IntKind.wrap .i64 (1 * 2 ^ (min flag.toNat 64)))).toNat : Int)), ())) fun y5 =>
  br k (y4.1.1 == y5.1.1)
  (some ((y4.1.1, ()), ((y5.2.1.1, ()), (), (), (), (), ())))
  (bd k (impl_Tree_put k ((y5.2.1.1, ()), (flag, y4.1.1, y5.1.1, false, [], [], ()), ())) fun y6 =>
  some ((y6.1.1, ()), ((y6.2.1.1, ()), (), (), (), (), ()))))
  none)
noncomputable def impl_Tree_build (k : Nat) : (((List (Int × Int × Int × Bool × (List (Int × Int × Unit)) × (List (Int × Int × Unit)) × Unit)) × Unit) × (List (Bool × (List (Int × Int × Unit)) × (List (Int × Int × Unit)) × Unit)) × Int × Int × Int × Unit) → Option ((Int × Unit) × (((List (Int × Int × Int × Bool × (List (Int × Int × Unit)) × (List (Int × Int × Unit)) × Unit)) × Unit) × Unit × Unit × Unit × Unit × Unit)) := iter (impl_Tree_build.f k) k
noncomputable def impl_Tree_build.sg (k : Nat) : Sig := ⟨impl_Tree_build.A, impl_Tree_build.R, impl_Tree_build k⟩
noncomputable def impl_Tree_build.C (k : Nat) (R_ : (((List (Int × Int × Int × Bool × (List (Int × Int × Unit)) × (List (Int × Int × Unit)) × Unit)) × Unit) × (List (Bool × (List (Int × Int × Unit)) × (List (Int × Int × Unit)) × Unit)) × Int × Int × Int × Unit) → Option ((Int × Unit) × (((List (Int × Int × Int × Bool × (List (Int × Int × Unit)) × (List (Int × Int × Unit)) × Unit)) × Unit) × Unit × Unit × Unit × Unit × Unit))) : Ctx := ⟨Tryz.prog, [(81, [impl_Env_own.sg k]), (107, [impl_Tree_put.sg k]), (68, [⟨impl_Tree_build.A, impl_Tree_build.R, R_⟩])], k⟩
theorem impl_Tree_build.ev (k : Nat) (R_ : (((List (Int × Int × Int × Bool × (List (Int × Int × Unit)) × (List (Int × Int × Unit)) × Unit)) × Unit) × (List (Bool × (List (Int × Int × Unit)) × (List (Int × Int × Unit)) × Unit)) × Int × Int × Int × Unit) → Option ((Int × Unit) × (((List (Int × Int × Int × Bool × (List (Int × Int × Unit)) × (List (Int × Int × Unit)) × Unit)) × Unit) × Unit × Unit × Unit × Unit × Unit))) (x : impl_Tree_build.A.T) : evFunc (impl_Tree_build.C k R_) impl_Tree_build.ann Tryz.f68 impl_Tree_build.A impl_Tree_build.R x = impl_Tree_build.f k R_ x := by kernel_rfl
theorem impl_Tree_build.oks {L : List (Nat × Obj)}  (k : Nat) : (n : Nat) → SigHolds Tryz.prog L 68 ⟨impl_Tree_build.A, impl_Tree_build.R, iter (impl_Tree_build.f k) n⟩
  | 0 => sig_zero Tryz.func68 (by kernel_rfl) (by kernel_rfl)
  | n + 1 => have ih := impl_Tree_build.oks  k n
    sig_of_ev (C := impl_Tree_build.C k (iter (impl_Tree_build.f k) n)) (holds_cons (allok_cons (impl_Env_own.ok k) allok_nil) (holds_cons (allok_cons (impl_Tree_put.ok k) allok_nil) (holds_cons (allok_cons (ih) allok_nil) holds_nil))) (by kernel_rfl) Tryz.func68 (by kernel_rfl) impl_Tree_build.ann impl_Tree_build.A impl_Tree_build.R (fun x y h => (impl_Tree_build.ev k _ x).trans h) (by kernel_rfl)
theorem impl_Tree_build.ok {L : List (Nat × Obj)}  (k : Nat) : SigHolds Tryz.prog L 68 (impl_Tree_build.sg k) := impl_Tree_build.oks  k k

/-! (loop.example/g00719/impl.Decl).treeOf -/
def impl_Decl_treeOf.A : Sh := (.cons (.pur (.cons (.sl false .str) (.cons (.sl false .str) (.cons (.sl false (.cons .str (.cons (.int .i64) .nil))) .nil)))) (.cons (.pur (.sl false (.cons .bool (.cons (.sl false (.cons (.int .i64) (.cons (.int .i64) .nil))) (.cons (.sl false (.cons (.int .i64) (.cons (.int .i64) .nil))) .nil))))) .nil))
def impl_Decl_treeOf.R : Sh := (.cons (.agg (.cons (.own (.cons (.int .i64) (.cons (.int .i64) (.cons (.int .i64) (.cons .bool (.cons (.sl false (.cons (.int .i64) (.cons (.int .i64) .nil))) (.cons (.sl false (.cons (.int .i64) (.cons (.int .i64) .nil))) .nil))))))) .nil)) .nil)
def impl_Decl_treeOf.ann : Ann := { loops := [], joins := [], keys := [] }
noncomputable def impl_Decl_treeOf (k : Nat) : (((List (List UInt8)) × (List (List UInt8)) × (List ((List UInt8) × Int × Unit)) × Unit) × (List (Bool × (List (Int × Int × Unit)) × (List (Int × Int × Unit)) × Unit)) × Unit) → Option ((((List (Int × Int × Int × Bool × (List (Int × Int × Unit)) × (List (Int × Int × Unit)) × Unit)) × Unit) × Unit) × (Unit × Unit × Unit)) := fun x => match x with
 | (d_, table, ()) =>
  bd k (impl_size_string k (d_.2.1, ())) fun y1 =>
  bd k (impl_Tree_build k (([], ()), table, 0, y1.1.1, 0, ())) fun y2 =>
  some (((y2.2.1.1, ()), ()), ((), (), ()))
noncomputable def impl_Decl_treeOf.sg (k : Nat) : Sig := ⟨impl_Decl_treeOf.A, impl_Decl_treeOf.R, impl_Decl_treeOf k⟩
noncomputable def impl_Decl_treeOf.C (k : Nat) : Ctx := ⟨Tryz.prog, [(69, [impl_size_string.sg k]), (68, [impl_Tree_build.sg k])], k⟩
theorem impl_Decl_treeOf.ev (k : Nat) (x : impl_Decl_treeOf.A.T) : evFunc (impl_Decl_treeOf.C k) impl_Decl_treeOf.ann Tryz.f39 impl_Decl_treeOf.A impl_Decl_treeOf.R x = impl_Decl_treeOf k x := by kernel_rfl
theorem impl_Decl_treeOf.ok {L : List (Nat × Obj)}  (k : Nat) : SigHolds Tryz.prog L 39 (impl_Decl_treeOf.sg k) :=
  sig_of_ev (C := impl_Decl_treeOf.C k) (holds_cons (allok_cons (impl_size_string.ok k) allok_nil) (holds_cons (allok_cons (impl_Tree_build.ok k) allok_nil) holds_nil)) (by kernel_rfl) Tryz.func39 (by kernel_rfl) impl_Decl_treeOf.ann impl_Decl_treeOf.A impl_Decl_treeOf.R (fun x y h => (impl_Decl_treeOf.ev k x).trans h) (by kernel_rfl)

/-! slices.EqualFunc[[]loop.example/g00719/impl.Node,[]loop.example/g00719/impl.Node,loop.example/g00719/impl.Node,loop.example/g00719/impl.Node] -/
def slices_EqualFunc_impl_Node_impl_Node_impl_Node_impl_Node.A : Sh := (.cons (.pur (.sl false (.cons (.int .i64) (.cons (.int .i64) (.cons (.int .i64) (.cons .bool (.cons (.sl false (.cons (.int .i64) (.cons (.int .i64) .nil))) (.cons (.sl false (.cons (.int .i64) (.cons (.int .i64) .nil))) .nil)))))))) (.cons (.pur (.sl false (.cons (.int .i64) (.cons (.int .i64) (.cons (.int .i64) (.cons .bool (.cons (.sl false (.cons (.int .i64) (.cons (.int .i64) .nil))) (.cons (.sl false (.cons (.int .i64) (.cons (.int .i64) .nil))) .nil)))))))) (.cons (.fn (.func 84) 0 .nil) .nil)))
def slices_EqualFunc_impl_Node_impl_Node_impl_Node_impl_Node.R : Sh := (.cons (.pur .bool) .nil)
def slices_EqualFunc_impl_Node_impl_Node_impl_Node_impl_Node.ann : Ann := { loops := [(0, [(1, (.pur (.sl false (.cons (.int .i64) (.cons (.int .i64) (.cons (.int .i64) (.cons .bool (.cons (.sl false (.cons (.int .i64) (.cons (.int .i64) .nil))) (.cons (.sl false (.cons (.int .i64) (.cons (.int .i64) .nil))) .nil))))))))), (2, (.fn (.func 84) 0 .nil)), (15, (.pur (.sl false (.cons (.int .i64) (.cons (.int .i64) (.cons (.int .i64) (.cons .bool (.cons (.sl false (.cons (.int .i64) (.cons (.int .i64) .nil))) (.cons (.sl false (.cons (.int .i64) (.cons (.int .i64) .nil))) .nil))))))))), (16, (.pur (.int .i64))), (17, (.pur (.int .i64)))])], joins := [], keys := [] }
noncomputable def slices_EqualFunc_impl_Node_impl_Node_impl_Node_impl_Node.l0 (k : Nat)  (G0 : ((List (Int × Int × Int × Bool × (List (Int × Int × Unit)) × (List (Int × Int × Unit)) × Unit)) × (Unit) × (List (Int × Int × Int × Bool × (List (Int × Int × Unit)) × (List (Int × Int × Unit)) × Unit)) × Int × Int × Unit) → Option ((Bool × Unit) × (Unit × Unit × (Unit) × Unit))) : ((List (Int × Int × Int × Bool × (List (Int × Int × Unit)) × (List (Int × Int × Unit)) × Unit)) × (Unit) × (List (Int × Int × Int × Bool × (List (Int × Int × Unit)) × (List (Int × Int × Unit)) × Unit)) × Int × Int × Unit) → Option ((Bool × Unit) × (Unit × Unit × (Unit) × Unit)) := fun x => match x with
 | (s2, (()), t15, t16, t17, ()) =>
  br k (decide (t17 < t16))
  (br k (decide (0 ≤ t17))
  (bd k (t15[t17.toNat]?) fun x1 =>
  br k (decide (0 ≤ t17))
  (bd k (s2[t17.toNat]?) fun x2 =>
  bd k (impl_sameNode k (x1, x2, ())) fun y3 =>
  br k (!y3.1.1)
  (some ((false, ()), ((), (), (()), ())))
  (G0 (s2, (()), t15, t16, IntKind.wrap .i64 (t17 + 1), ())))
  none)
  none)
  (some ((true, ()), ((), (), (()), ())))
noncomputable def slices_EqualFunc_impl_Node_impl_Node_impl_Node_impl_Node (k : Nat) : ((List (Int × Int × Int × Bool × (List (Int × Int × Unit)) × (List (Int × Int × Unit)) × Unit)) × (List (Int × Int × Int × Bool × (List (Int × Int × Unit)) × (List (Int × Int × Unit)) × Unit)) × (Unit) × Unit) → Option ((Bool × Unit) × (Unit × Unit × (Unit) × Unit)) := fun x => match x with
 | (s1, s2, (()), ()) =>
  br k ((s1.length : Int) != (s2.length : Int))
  (some ((false, ()), ((), (), (()), ())))
  (iter (slices_EqualFunc_impl_Node_impl_Node_impl_Node_impl_Node.l0 k) k (s2, (()), s1, (s1.length : Int), 0, ()))
noncomputable def slices_EqualFunc_impl_Node_impl_Node_impl_Node_impl_Node.sg (k : Nat) : Sig := ⟨slices_EqualFunc_impl_Node_impl_Node_impl_Node_impl_Node.A, slices_EqualFunc_impl_Node_impl_Node_impl_Node_impl_Node.R, slices_EqualFunc_impl_Node_impl_Node_impl_Node_impl_Node k⟩
noncomputable def slices_EqualFunc_impl_Node_impl_Node_impl_Node_impl_Node.C (k : Nat) : Ctx := ⟨Tryz.prog, [(84, [impl_sameNode.sg k])], k⟩
theorem slices_EqualFunc_impl_Node_impl_Node_impl_Node_impl_Node.ev (k : Nat) (x : slices_EqualFunc_impl_Node_impl_Node_impl_Node_impl_Node.A.T) : evFunc (slices_EqualFunc_impl_Node_impl_Node_impl_Node_impl_Node.C k) slices_EqualFunc_impl_Node_impl_Node_impl_Node_impl_Node.ann Tryz.f83 slices_EqualFunc_impl_Node_impl_Node_impl_Node_impl_Node.A slices_EqualFunc_impl_Node_impl_Node_impl_Node_impl_Node.R x = slices_EqualFunc_impl_Node_impl_Node_impl_Node_impl_Node k x := by kernel_rfl
theorem slices_EqualFunc_impl_Node_impl_Node_impl_Node_impl_Node.ok {L : List (Nat × Obj)}  (k : Nat) : SigHolds Tryz.prog L 83 (slices_EqualFunc_impl_Node_impl_Node_impl_Node_impl_Node.sg k) :=
  sig_of_ev (C := slices_EqualFunc_impl_Node_impl_Node_impl_Node_impl_Node.C k) (holds_cons (allok_cons (impl_sameNode.ok k) allok_nil) holds_nil) (by kernel_rfl) Tryz.func83 (by kernel_rfl) slices_EqualFunc_impl_Node_impl_Node_impl_Node_impl_Node.ann slices_EqualFunc_impl_Node_impl_Node_impl_Node_impl_Node.A slices_EqualFunc_impl_Node_impl_Node_impl_Node_impl_Node.R (fun x y h => (slices_EqualFunc_impl_Node_impl_Node_impl_Node_impl_Node.ev k x).trans h) (by kernel_rfl)

/-! loop.example/g00719/impl.TableOf -/
def impl_TableOf.A : Sh := (.cons (.pur (.cons (.sl false .str) (.cons (.sl false .str) (.cons (.sl false (.cons .str (.cons (.int .i64) .nil))) .nil)))) (.cons (.pur (.cons (.sl false (.cons (.int .i64) (.cons (.int .i64) (.cons (.int .i64) (.cons .bool (.cons (.sl false (.cons (.int .i64) (.cons (.int .i64) .nil))) (.cons (.sl false (.cons (.int .i64) (.cons (.int .i64) .nil))) .nil))))))) .nil)) .nil))
def impl_TableOf.R : Sh := (.cons (.pur (.sl false (.cons .bool (.cons (.sl false (.cons (.int .i64) (.cons (.int .i64) .nil))) (.cons (.sl false (.cons (.int .i64) (.cons (.int .i64) .nil))) .nil))))) (.cons (.pur .bool) .nil))
def impl_TableOf.ann : Ann := { loops := [(0, [(2, (.box (.cons (.pur (.sl false .str)) (.cons (.pur (.sl false .str)) (.cons (.pur (.sl false (.cons .str (.cons (.int .i64) .nil)))) .nil))))), (3, (.box (.cons (.pur (.sl false (.cons (.int .i64) (.cons (.int .i64) (.cons (.int .i64) (.cons .bool (.cons (.sl false (.cons (.int .i64) (.cons (.int .i64) .nil))) (.cons (.sl false (.cons (.int .i64) (.cons (.int .i64) .nil))) .nil)))))))) .nil))), (6, (.own (.cons .bool (.cons (.sl false (.cons (.int .i64) (.cons (.int .i64) .nil))) (.cons (.sl false (.cons (.int .i64) (.cons (.int .i64) .nil))) .nil))))), (14, (.pur (.int .i64))), (15, (.pur (.int .i64)))])], joins := [], keys := [(7, [([3], false), ([2], false), ([2], false), ([], false), ([], false), ([24], true), ([], false), ([], false), ([], false), ([8], true), ([8], true), ([], false)]), (12, [([2], false), ([], false), ([6], false), ([], false), ([], false), ([2], false), ([], false), ([6, 42], true), ([42], false), ([3], false), ([3], false), ([42, 46], true), ([], false), ([], false)])] }
noncomputable def impl_TableOf.l0 (k : Nat)  (G0 : (((List (List UInt8)) × (List (List UInt8)) × (List ((List UInt8) × Int × Unit)) × Unit) × ((List (Int × Int × Int × Bool × (List (Int × Int × Unit)) × (List (Int × Int × Unit)) × Unit)) × Unit) × (List (Bool × (List (Int × Int × Unit)) × (List (Int × Int × Unit)) × Unit)) × Int × Int × Unit) → Option (((List (Bool × (List (Int × Int × Unit)) × (List (Int × Int × Unit)) × Unit)) × Bool × Unit) × (Unit × Unit × Unit))) : (((List (List UInt8)) × (List (List UInt8)) × (List ((List UInt8) × Int × Unit)) × Unit) × ((List (Int × Int × Int × Bool × (List (Int × Int × Unit)) × (List (Int × Int × Unit)) × Unit)) × Unit) × (List (Bool × (List (Int × Int × Unit)) × (List (Int × Int × Unit)) × Unit)) × Int × Int × Unit) → Option (((List (Bool × (List (Int × Int × Unit)) × (List (Int × Int × Unit)) × Unit)) × Bool × Unit) × (Unit × Unit × Unit)) := fun x => match x with
 | ((d__0, d__1, d__2, ()), (t_0, ()), out_, t14, t15, ()) =>
  br k (decide (t15 < t14))
  (bd k (impl_size_string k (d__1, ())) fun y3 =>
  bd k (impl_Tree_find k ((t_0, ()), y3.1.1, t15, ())) fun y4 =>
  br k (!y4.1.2.1)
  (some (([], false, ()), ((), (), ())))
  (bd k (impl_Env_own k (y4.1.1, ())) fun y5 =>
  br k (decide ((out_.length + ([y5.1.1] : List (Bool × (List (Int × Int × Unit)) × (List (Int × Int × Unit)) × Unit)).length) * 56 ≤ maxBytes))
  (G0 ((d__0, d__1, d__2, ()), (t_0, ()), out_ ++ ([y5.1.1] : List (Bool × (List (Int × Int × Unit)) × (List (Int × Int × Unit)) × Unit)), t14, IntKind.wrap .i64 (t15 + 1), ()))
  none))
  (bd k (impl_Decl_isTable k ((d__0, d__1, d__2, ()), out_, ())) fun y6 =>
  br k (!y6.1.1)
  (some (([], false, ()), ((), (), ())))
  (bd k (impl_Decl_treeOf k ((d__0, d__1, d__2, ()), out_, ())) fun y7 =>
  bd k (slices_EqualFunc_impl_Node_impl_Node_impl_Node_impl_Node k (y7.1.1.1, t_0, (()), ())) fun y8 =>
  br k (!y8.1.1)
  (some (([], false, ()), ((), (), ())))
  (some ((out_, true, ()), ((), (), ())))))
noncomputable def impl_TableOf (k : Nat) : (((List (List UInt8)) × (List (List UInt8)) × (List ((List UInt8) × Int × Unit)) × Unit) × ((List (Int × Int × Int × Bool × (List (Int × Int × Unit)) × (List (Int × Int × Unit)) × Unit)) × Unit) × Unit) → Option (((List (Bool × (List (Int × Int × Unit)) × (List (Int × Int × Unit)) × Unit)) × Bool × Unit) × (Unit × Unit × Unit)) := fun x => match x with
 | (d_, t, ()) =>
  bd k (impl_Decl_isRight k (d_, ())) fun y1 =>
  br k (!y1.1.1)
  (some (([], false, ()), ((), (), ())))
  (bd k (impl_Decl_leaves k (d_, ())) fun y2 =>
  iter (impl_TableOf.l0 k) k ((d_.1, d_.2.1, d_.2.2.1, ()), (t.1, ()), [], y2.1.1, 0, ()))
noncomputable def impl_TableOf.sg (k : Nat) : Sig := ⟨impl_TableOf.A, impl_TableOf.R, impl_TableOf k⟩
noncomputable def impl_TableOf.C (k : Nat) : Ctx := ⟨Tryz.prog, [(64, [impl_Decl_isRight.sg k]), (79, [impl_Decl_leaves.sg k]), (69, [impl_size_string.sg k]), (80, [impl_Tree_find.sg k]), (81, [impl_Env_own.sg k]), (82, [impl_Decl_isTable.sg k]), (39, [impl_Decl_treeOf.sg k]), (83, [slices_EqualFunc_impl_Node_impl_Node_impl_Node_impl_Node.sg k])], k⟩
theorem impl_TableOf.ev (k : Nat) (x : impl_TableOf.A.T) : evFunc (impl_TableOf.C k) impl_TableOf.ann Tryz.f47 impl_TableOf.A impl_TableOf.R x = impl_TableOf k x := by kernel_rfl
theorem impl_TableOf.ok {L : List (Nat × Obj)} (hSp : Lb.NeedSp L) (k : Nat) : SigHolds Tryz.prog L 47 (impl_TableOf.sg k) :=
  sig_of_ev (C := impl_TableOf.C k) (holds_cons (allok_cons (impl_Decl_isRight.ok hSp k) allok_nil) (holds_cons (allok_cons (impl_Decl_leaves.ok k) allok_nil) (holds_cons (allok_cons (impl_size_string.ok k) allok_nil) (holds_cons (allok_cons (impl_Tree_find.ok k) allok_nil) (holds_cons (allok_cons (impl_Env_own.ok k) allok_nil) (holds_cons (allok_cons (impl_Decl_isTable.ok k) allok_nil) (holds_cons (allok_cons (impl_Decl_treeOf.ok k) allok_nil) (holds_cons (allok_cons (slices_EqualFunc_impl_Node_impl_Node_impl_Node_impl_Node.ok k) allok_nil) holds_nil)))))))) (by kernel_rfl) Tryz.func47 (by kernel_rfl) impl_TableOf.ann impl_TableOf.A impl_TableOf.R (fun x y h => (impl_TableOf.ev k x).trans h) (by kernel_rfl)

/-! loop.example/g00719/impl.TreeOk -/
def impl_TreeOk.A : Sh := (.cons (.pur (.cons (.sl false .str) (.cons (.sl false .str) (.cons (.sl false (.cons .str (.cons (.int .i64) .nil))) .nil)))) (.cons (.pur (.cons (.sl false (.cons (.int .i64) (.cons (.int .i64) (.cons (.int .i64) (.cons .bool (.cons (.sl false (.cons (.int .i64) (.cons (.int .i64) .nil))) (.cons (.sl false (.cons (.int .i64) (.cons (.int .i64) .nil))) .nil))))))) .nil)) .nil))
def impl_TreeOk.R : Sh := (.cons (.pur .bool) .nil)
def impl_TreeOk.ann : Ann := { loops := [], joins := [], keys := [] }
noncomputable def impl_TreeOk (k : Nat) : (((List (List UInt8)) × (List (List UInt8)) × (List ((List UInt8) × Int × Unit)) × Unit) × ((List (Int × Int × Int × Bool × (List (Int × Int × Unit)) × (List (Int × Int × Unit)) × Unit)) × Unit) × Unit) → Option ((Bool × Unit) × (Unit × Unit × Unit)) := fun x => match x with
 | (d_, t, ()) =>
  bd k (impl_TableOf k (d_, t, ())) fun y1 =>
  some ((y1.1.2.1, ()), ((), (), ()))
noncomputable def impl_TreeOk.sg (k : Nat) : Sig := ⟨impl_TreeOk.A, impl_TreeOk.R, impl_TreeOk k⟩
noncomputable def impl_TreeOk.C (k : Nat) : Ctx := ⟨Tryz.prog, [(47, [impl_TableOf.sg k])], k⟩
theorem impl_TreeOk.ev (k : Nat) (x : impl_TreeOk.A.T) : evFunc (impl_TreeOk.C k) impl_TreeOk.ann Tryz.f26 impl_TreeOk.A impl_TreeOk.R x = impl_TreeOk k x := by kernel_rfl
theorem impl_TreeOk.ok {L : List (Nat × Obj)} (hSp : Lb.NeedSp L) (k : Nat) : SigHolds Tryz.prog L 26 (impl_TreeOk.sg k) :=
  sig_of_ev (C := impl_TreeOk.C k) (holds_cons (allok_cons (impl_TableOf.ok hSp k) allok_nil) holds_nil) (by kernel_rfl) Tryz.func26 (by kernel_rfl) impl_TreeOk.ann impl_TreeOk.A impl_TreeOk.R (fun x y h => (impl_TreeOk.ev k x).trans h) (by kernel_rfl)

/-! loop.example/g00719/impl.decimal -/
def impl_decimal.A : Sh := (.cons (.pur (.int .i64)) .nil)
def impl_decimal.R : Sh := (.cons (.pur .str) .nil)
def impl_decimal.ann : Ann := { loops := [], joins := [], keys := [] }
noncomputable def impl_decimal (k : Nat) : (Int × Unit) → Option (((List UInt8) × Unit) × (Unit × Unit)) := fun x => match x with
 | (n, ()) =>
  bd k (Lb.FormatInt k (n, 10, ())) fun y1 =>
  some ((y1.1.1, ()), ((), ()))
noncomputable def impl_decimal.sg (k : Nat) : Sig := ⟨impl_decimal.A, impl_decimal.R, impl_decimal k⟩
noncomputable def impl_decimal.C (k : Nat) : Ctx := ⟨Tryz.prog, [(106, [Lb.FormatInt.sg k])], k⟩
theorem impl_decimal.ev (k : Nat) (x : impl_decimal.A.T) : evFunc (impl_decimal.C k) impl_decimal.ann Tryz.f67 impl_decimal.A impl_decimal.R x = impl_decimal k x := by kernel_rfl
theorem impl_decimal.ok {L : List (Nat × Obj)} (hFmt : Lb.NeedFmt L) (k : Nat) : SigHolds Tryz.prog L 67 (impl_decimal.sg k) :=
  sig_of_ev (C := impl_decimal.C k) (holds_cons (allok_cons (Lb.FormatInt.ok hFmt k) allok_nil) holds_nil) (by kernel_rfl) Tryz.func67 (by kernel_rfl) impl_decimal.ann impl_decimal.A impl_decimal.R (fun x y h => (impl_decimal.ev k x).trans h) (by kernel_rfl)

/-! loop.example/g00719/impl.named -/
def impl_named.A : Sh := (.cons (.pur (.sl false .str)) (.cons (.pur (.sl false (.cons (.int .i64) (.cons (.int .i64) .nil)))) .nil))
def impl_named.R : Sh := (.cons (.own .str) .nil)
def impl_named.ann : Ann := { loops := [(0, [(0, (.pur (.sl false .str))), (5, (.own .str)), (8, (.pur (.sl false (.cons (.int .i64) (.cons (.int .i64) .nil))))), (9, (.pur (.int .i64))), (10, (.pur (.int .i64)))])], joins := [], keys := [(5, [([], false), ([], false), ([], false), ([], false), ([], false), ([7], false), ([7], false), ([], false), ([], false), ([7], false), ([7], false), ([], false), ([], false), ([28], true), ([5, 28, 29], true), ([], false)])] }
noncomputable def impl_named.l0 (k : Nat)  (G0 : ((List (List UInt8)) × (List (List UInt8)) × (List (Int × Int × Unit)) × Int × Int × Unit) → Option (((List (List UInt8)) × Unit) × (Unit × Unit × Unit))) : ((List (List UInt8)) × (List (List UInt8)) × (List (Int × Int × Unit)) × Int × Int × Unit) → Option (((List (List UInt8)) × Unit) × (Unit × Unit × Unit)) := fun x => match x with
 | (names, out_, t8, t9, t10, ()) =>
  br k (decide (t10 < t9))
  (br k (decide (0 ≤ t10))
  (bd k (t8[t10.toNat]?) fun x1 =>
  br k (decide (0 ≤ t10))
  (bd k (names[t10.toNat]?) fun x2 =>
  bd k (impl_decimal k (x1.1, ())) fun y3 =>
  br k (decide (((y3.1.1.length + ([46, 46] : List UInt8).length : Nat) : Int) ≤ maxInt64))
  (bd k (impl_decimal k (x1.2.1, ())) fun y4 =>
  br k (decide ((((y3.1.1 ++ [46, 46]).length + y4.1.1.length : Nat) : Int) ≤ maxInt64))
  (br k (decide ((out_.length + ([x2, (y3.1.1 ++ [46, 46]) ++ y4.1.1] : List (List UInt8)).length) * 16 ≤ maxBytes))
  (G0 (names, out_ ++ ([x2, (y3.1.1 ++ [46, 46]) ++ y4.1.1] : List (List UInt8)), t8, t9, IntKind.wrap .i64 (t10 + 1), ()))
  none)
  none)
  none)
  none)
  none)
  (some ((out_, ()), ((), (), ())))
noncomputable def impl_named (k : Nat) : ((List (List UInt8)) × (List (Int × Int × Unit)) × Unit) → Option (((List (List UInt8)) × Unit) × (Unit × Unit × Unit)) := fun x => match x with
 | (names, list, ()) =>
  iter (impl_named.l0 k) k (names, [], list, (list.length : Int), 0, ())
noncomputable def impl_named.sg (k : Nat) : Sig := ⟨impl_named.A, impl_named.R, impl_named k⟩
noncomputable def impl_named.C (k : Nat) : Ctx := ⟨Tryz.prog, [(67, [impl_decimal.sg k])], k⟩
theorem impl_named.ev (k : Nat) (x : impl_named.A.T) : evFunc (impl_named.C k) impl_named.ann Tryz.f117 impl_named.A impl_named.R x = impl_named k x := by kernel_rfl
theorem impl_named.ok {L : List (Nat × Obj)} (hFmt : Lb.NeedFmt L) (k : Nat) : SigHolds Tryz.prog L 117 (impl_named.sg k) :=
  sig_of_ev (C := impl_named.C k) (holds_cons (allok_cons (impl_decimal.ok hFmt k) allok_nil) holds_nil) (by kernel_rfl) Tryz.func117 (by kernel_rfl) impl_named.ann impl_named.A impl_named.R (fun x y h => (impl_named.ev k x).trans h) (by kernel_rfl)

/-! (loop.example/g00719/impl.Decl).envText -/
def impl_Decl_envText.A : Sh := (.cons (.pur (.cons (.sl false .str) (.cons (.sl false .str) (.cons (.sl false (.cons .str (.cons (.int .i64) .nil))) .nil)))) (.cons (.pur (.cons .bool (.cons (.sl false (.cons (.int .i64) (.cons (.int .i64) .nil))) (.cons (.sl false (.cons (.int .i64) (.cons (.int .i64) .nil))) .nil)))) .nil))
def impl_Decl_envText.R : Sh := (.cons (.pur .str) .nil)
def impl_Decl_envText.ann : Ann := { loops := [], joins := [], keys := [(4, [([2], false), ([2], false), ([3], false), ([3], false), ([16], true), ([], false), ([2], false), ([2], false), ([], false), ([2], false), ([2], false), ([], false), ([], false), ([11], false), ([3], false), ([3], false), ([11, 28], true), ([16, 28, 29], true), ([], false)])] }
noncomputable def impl_Decl_envText (k : Nat) : (((List (List UInt8)) × (List (List UInt8)) × (List ((List UInt8) × Int × Unit)) × Unit) × (Bool × (List (Int × Int × Unit)) × (List (Int × Int × Unit)) × Unit) × Unit) → Option (((List UInt8) × Unit) × (Unit × Unit × Unit)) := fun x => match x with
 | (d_, e_, ()) =>
  br k (!e_.1)
  (some (([110, 111, 110, 101], ()), ((), (), ())))
  (bd k (impl_Decl_names k (d_, ())) fun y1 =>
  bd k (impl_named k (d_.1, e_.2.1, ())) fun y2 =>
  br k (decide (0 ≤ (IntKind.wrap .i64 ((d_.1.length : Int) + (d_.2.1.length : Int))) ∧ (IntKind.wrap .i64 ((d_.1.length : Int) + (d_.2.1.length : Int))) ≤ (y1.1.1.length : Int)))
  (bd k (impl_named k (subL y1.1.1 ((IntKind.wrap .i64 ((d_.1.length : Int) + (d_.2.1.length : Int))).toNat) ((y1.1.1.length : Int).toNat - (IntKind.wrap .i64 ((d_.1.length : Int) + (d_.2.1.length : Int))).toNat), e_.2.2.1, ())) fun y3 =>
  br k (decide ((y2.1.1.length + y3.1.1.length) * 16 ≤ maxBytes))
  (br k (((y2.1.1 ++ y3.1.1).length : Int) == 0)
  (some (([97, 108, 108], ()), ((), (), ())))
  (bd k (Lb.Join k (y2.1.1 ++ y3.1.1, [32], ())) fun y4 =>
  some ((y4.1.1, ()), ((), (), ()))))
  none)
  none)
noncomputable def impl_Decl_envText.sg (k : Nat) : Sig := ⟨impl_Decl_envText.A, impl_Decl_envText.R, impl_Decl_envText k⟩
noncomputable def impl_Decl_envText.C (k : Nat) : Ctx := ⟨Tryz.prog, [(94, [impl_Decl_names.sg k]), (117, [impl_named.sg k]), (66, [Lb.Join.sg k])], k⟩
theorem impl_Decl_envText.ev (k : Nat) (x : impl_Decl_envText.A.T) : evFunc (impl_Decl_envText.C k) impl_Decl_envText.ann Tryz.f85 impl_Decl_envText.A impl_Decl_envText.R x = impl_Decl_envText k x := by kernel_rfl
theorem impl_Decl_envText.ok {L : List (Nat × Obj)} (hFmt : Lb.NeedFmt L) (k : Nat) : SigHolds Tryz.prog L 85 (impl_Decl_envText.sg k) :=
  sig_of_ev (C := impl_Decl_envText.C k) (holds_cons (allok_cons (impl_Decl_names.ok k) allok_nil) (holds_cons (allok_cons (impl_named.ok hFmt k) allok_nil) (holds_cons (allok_cons (Lb.Join.ok k) allok_nil) holds_nil))) (by kernel_rfl) Tryz.func85 (by kernel_rfl) impl_Decl_envText.ann impl_Decl_envText.A impl_Decl_envText.R (fun x y h => (impl_Decl_envText.ev k x).trans h) (by kernel_rfl)

end Go.Pev.F
