/-
  Printed by gen.py: what functions of the program compute, and that they do.
-/
import Derived.Test.YthjihnplkkhpmaaGreatDoorK08
set_option linter.unusedSimpArgs false
set_option linter.unusedVariables false
open Go.Proofs Go.Pev
namespace Go.Pev.F
set_option maxRecDepth 100000
set_option linter.unusedVariables false

/-! loop.example/g00719/impl.size[loop.example/g00719/impl.Node] -/
def impl_size_impl_Node.A : Sh := (.cons (.pur (.sl false (.cons (.int .i64) (.cons (.int .i64) (.cons (.int .i64) (.cons .bool (.cons (.sl false (.cons (.int .i64) (.cons (.int .i64) .nil))) (.cons (.sl false (.cons (.int .i64) (.cons (.int .i64) .nil))) .nil)))))))) .nil)
def impl_size_impl_Node.R : Sh := (.cons (.pur (.int .i64)) .nil)
def impl_size_impl_Node.ann : Ann := { loops := [], joins := [], keys := [] }
noncomputable def impl_size_impl_Node (k : Nat) : ((List (Int × Int × Int × Bool × (List (Int × Int × Unit)) × (List (Int × Int × Unit)) × Unit)) × Unit) → Option ((Int × Unit) × (Unit × Unit)) := fun x => match x with
 | (list, ()) =>
  some (((list.length : Int), ()), ((), ()))
noncomputable def impl_size_impl_Node.sg (k : Nat) : Sig := ⟨impl_size_impl_Node.A, impl_size_impl_Node.R, impl_size_impl_Node k⟩
noncomputable def impl_size_impl_Node.C (k : Nat) : Ctx := ⟨Tryz.prog, [], k, []⟩
theorem impl_size_impl_Node.ev (k : Nat) (x : impl_size_impl_Node.A.T) : evFunc (impl_size_impl_Node.C k) impl_size_impl_Node.ann Tryz.f97 impl_size_impl_Node.A impl_size_impl_Node.R x = impl_size_impl_Node k x := by kernel_rfl
theorem impl_size_impl_Node.ok {L : List (Nat × Obj)}  (k : Nat) : SigHolds Tryz.prog L 97 (impl_size_impl_Node.sg k) :=
  sig_of_ev (C := impl_size_impl_Node.C k) holds_nil (by kernel_rfl) Tryz.func97 (by kernel_rfl) impl_size_impl_Node.ann impl_size_impl_Node.A impl_size_impl_Node.R (fun x y h => (impl_size_impl_Node.ev k x).trans h) (by kernel_rfl)

/-! (*loop.example/g00719/impl.Tree).put -/
def impl_Tree_put.A : Sh := (.cons (.box (.cons (.own (.cons (.int .i64) (.cons (.int .i64) (.cons (.int .i64) (.cons .bool (.cons (.sl false (.cons (.int .i64) (.cons (.int .i64) .nil))) (.cons (.sl false (.cons (.int .i64) (.cons (.int .i64) .nil))) .nil))))))) .nil)) (.cons (.agg (.cons (.pur (.int .i64)) (.cons (.pur (.int .i64)) (.cons (.pur (.int .i64)) (.cons (.pur .bool) (.cons (.own (.cons (.int .i64) (.cons (.int .i64) .nil))) (.cons (.own (.cons (.int .i64) (.cons (.int .i64) .nil))) .nil))))))) .nil))
def impl_Tree_put.R : Sh := (.cons (.pur (.int .i64)) .nil)
def impl_Tree_put.ann : Ann := { loops := [], joins := [], keys := [(4, [([], false), ([], false), ([0], false), ([0], false), ([0], false), ([3, 11], false), ([11, 21], true), ([0, 21, 22], true), ([0], false), ([0], false), ([0, 22], true)])] }
noncomputable def impl_Tree_put (k : Nat) : (((List (Int × Int × Int × Bool × (List (Int × Int × Unit)) × (List (Int × Int × Unit)) × Unit)) × Unit) × (Int × Int × Int × Bool × (List (Int × Int × Unit)) × (List (Int × Int × Unit)) × Unit) × Unit) → Option ((Int × Unit) × (((List (Int × Int × Int × Bool × (List (Int × Int × Unit)) × (List (Int × Int × Unit)) × Unit)) × Unit) × (Unit × Unit × Unit × Unit × Unit × Unit × Unit) × Unit)) := fun x => match x with
 | ((t_0, ()), (n_0, n_1, n_2, n_3, n_4, n_5, ()), ()) =>
  bd k (slices_IndexFunc_impl_Node_impl_Node_v1 k (t_0, ((n_0, n_1, n_2, n_3, n_4, n_5, ()), ()), ())) fun y1 =>
  br k (decide (y1.1.1 ≥ 0))
  (some ((y1.1.1, ()), ((t_0, ()), ((), (), (), (), (), (), ()), ())))
  (br k (decide ((t_0.length + ([(y1.2.2.1.1.1, y1.2.2.1.1.2.1, y1.2.2.1.1.2.2.1, y1.2.2.1.1.2.2.2.1, y1.2.2.1.1.2.2.2.2.1, y1.2.2.1.1.2.2.2.2.2.1, ())] : List (Int × Int × Int × Bool × (List (Int × Int × Unit)) × (List (Int × Int × Unit)) × Unit)).length) * 80 ≤ maxBytes))
  (bd k (impl_size_impl_Node k (t_0 ++ ([(y1.2.2.1.1.1, y1.2.2.1.1.2.1, y1.2.2.1.1.2.2.1, y1.2.2.1.1.2.2.2.1, y1.2.2.1.1.2.2.2.2.1, y1.2.2.1.1.2.2.2.2.2.1, ())] : List (Int × Int × Int × Bool × (List (Int × Int × Unit)) × (List (Int × Int × Unit)) × Unit)), ())) fun y2 =>
  some ((IntKind.wrap .i64 (y2.1.1 - 1), ()), ((t_0 ++ ([(y1.2.2.1.1.1, y1.2.2.1.1.2.1, y1.2.2.1.1.2.2.1, y1.2.2.1.1.2.2.2.1, y1.2.2.1.1.2.2.2.2.1, y1.2.2.1.1.2.2.2.2.2.1, ())] : List (Int × Int × Int × Bool × (List (Int × Int × Unit)) × (List (Int × Int × Unit)) × Unit)), ()), ((), (), (), (), (), (), ()), ())))
  none)
noncomputable def impl_Tree_put.sg (k : Nat) : Sig := ⟨impl_Tree_put.A, impl_Tree_put.R, impl_Tree_put k⟩
noncomputable def impl_Tree_put.C (k : Nat) : Ctx := ⟨Tryz.prog, [(161, [slices_IndexFunc_impl_Node_impl_Node_v1.sg k]), (97, [impl_size_impl_Node.sg k])], k, []⟩
theorem impl_Tree_put.ev (k : Nat) (x : impl_Tree_put.A.T) : evFunc (impl_Tree_put.C k) impl_Tree_put.ann Tryz.f131 impl_Tree_put.A impl_Tree_put.R x = impl_Tree_put k x := by kernel_rfl
theorem impl_Tree_put.ok {L : List (Nat × Obj)}  (k : Nat) : SigHolds Tryz.prog L 131 (impl_Tree_put.sg k) :=
  sig_of_ev (C := impl_Tree_put.C k) (holds_cons (allok_cons (slices_IndexFunc_impl_Node_impl_Node_v1.ok k) allok_nil) (holds_cons (allok_cons (impl_size_impl_Node.ok k) allok_nil) holds_nil)) (by kernel_rfl) Tryz.func131 (by kernel_rfl) impl_Tree_put.ann impl_Tree_put.A impl_Tree_put.R (fun x y h => (impl_Tree_put.ev k x).trans h) (by kernel_rfl)

/-! (*loop.example/g00719/impl.Tree).build -/
def impl_Tree_build.A : Sh := (.cons (.box (.cons (.own (.cons (.int .i64) (.cons (.int .i64) (.cons (.int .i64) (.cons .bool (.cons (.sl false (.cons (.int .i64) (.cons (.int .i64) .nil))) (.cons (.sl false (.cons (.int .i64) (.cons (.int .i64) .nil))) .nil))))))) .nil)) (.cons (.pur (.sl false (.cons .bool (.cons (.sl false (.cons (.int .i64) (.cons (.int .i64) .nil))) (.cons (.sl false (.cons (.int .i64) (.cons (.int .i64) .nil))) .nil))))) (.cons (.pur (.int .i64)) (.cons (.pur (.int .i64)) (.cons (.pur (.int .i64)) .nil)))))
def impl_Tree_build.R : Sh := (.cons (.pur (.int .i64)) .nil)
def impl_Tree_build.ann : Ann := { loops := [], joins := [], keys := [] }
noncomputable def impl_Tree_build.f (k : Nat) (R_ : (((List (Int × Int × Int × Bool × (List (Int × Int × Unit)) × (List (Int × Int × Unit)) × Unit)) × Unit) × (List (Bool × (List (Int × Int × Unit)) × (List (Int × Int × Unit)) × Unit)) × Int × Int × Int × Unit) → Option ((Int × Unit) × (((List (Int × Int × Int × Bool × (List (Int × Int × Unit)) × (List (Int × Int × Unit)) × Unit)) × Unit) × Unit × Unit × Unit × Unit × Unit))) : (((List (Int × Int × Int × Bool × (List (Int × Int × Unit)) × (List (Int × Int × Unit)) × Unit)) × Unit) × (List (Bool × (List (Int × Int × Unit)) × (List (Int × Int × Unit)) × Unit)) × Int × Int × Int × Unit) → Option ((Int × Unit) × (((List (Int × Int × Int × Bool × (List (Int × Int × Unit)) × (List (Int × Int × Unit)) × Unit)) × Unit) × Unit × Unit × Unit × Unit × Unit)) := fun x => match x with
 | ((t_0, ()), table, flag, flags, leaf, ()) =>
  br k (flag == flags)
  (br k (decide (0 ≤ leaf))
  (bd k (table[leaf.toNat]?) fun x1 =>
  bd k (impl_Env_own k (x1, ())) fun y2 =>
  bd k (impl_Tree_put k ((t_0, ()), ((-1), 0, 0, y2.1.1.1, y2.1.1.2.1, y2.1.1.2.2.1, ()), ())) fun y3 =>
  some ((y3.1.1, ()), ((y3.2.1.1, ()), (), (), (), (), ())))
  none)
  (bd k (R_ ((t_0, ()), table, IntKind.wrap .i64 (flag + 1), flags, leaf, ())) fun y4 =>
  br k (decide (0 ≤ flag))
  (bd k (R_ ((y4.2.1.1, ()), table, IntKind.wrap .i64 (flag + 1), flags, IntKind.wrap .i64 (((BitVec.ofInt 64 leaf ||| BitVec.ofInt 64 (IntKind.wrap .i64 (1 * 2 ^ (min flag.toNat 64)))).toNat : Int)), ())) fun y5 =>
  br k (y4.1.1 == y5.1.1)
  (some ((y4.1.1, ()), ((y5.2.1.1, ()), (), (), (), (), ())))
  (bd k (impl_Tree_put k ((y5.2.1.1, ()), (flag, y4.1.1, y5.1.1, false, [], [], ()), ())) fun y6 =>
  some ((y6.1.1, ()), ((y6.2.1.1, ()), (), (), (), (), ()))))
  none)
noncomputable def impl_Tree_build (k : Nat) : (((List (Int × Int × Int × Bool × (List (Int × Int × Unit)) × (List (Int × Int × Unit)) × Unit)) × Unit) × (List (Bool × (List (Int × Int × Unit)) × (List (Int × Int × Unit)) × Unit)) × Int × Int × Int × Unit) → Option ((Int × Unit) × (((List (Int × Int × Int × Bool × (List (Int × Int × Unit)) × (List (Int × Int × Unit)) × Unit)) × Unit) × Unit × Unit × Unit × Unit × Unit)) := iter (impl_Tree_build.f k) k
noncomputable def impl_Tree_build.sg (k : Nat) : Sig := ⟨impl_Tree_build.A, impl_Tree_build.R, impl_Tree_build k⟩
noncomputable def impl_Tree_build.C (k : Nat) (R_ : (((List (Int × Int × Int × Bool × (List (Int × Int × Unit)) × (List (Int × Int × Unit)) × Unit)) × Unit) × (List (Bool × (List (Int × Int × Unit)) × (List (Int × Int × Unit)) × Unit)) × Int × Int × Int × Unit) → Option ((Int × Unit) × (((List (Int × Int × Int × Bool × (List (Int × Int × Unit)) × (List (Int × Int × Unit)) × Unit)) × Unit) × Unit × Unit × Unit × Unit × Unit))) : Ctx := ⟨Tryz.prog, [(126, [impl_Env_own.sg k]), (131, [impl_Tree_put.sg k]), (99, [⟨impl_Tree_build.A, impl_Tree_build.R, R_⟩])], k, []⟩
theorem impl_Tree_build.ev (k : Nat) (R_ : (((List (Int × Int × Int × Bool × (List (Int × Int × Unit)) × (List (Int × Int × Unit)) × Unit)) × Unit) × (List (Bool × (List (Int × Int × Unit)) × (List (Int × Int × Unit)) × Unit)) × Int × Int × Int × Unit) → Option ((Int × Unit) × (((List (Int × Int × Int × Bool × (List (Int × Int × Unit)) × (List (Int × Int × Unit)) × Unit)) × Unit) × Unit × Unit × Unit × Unit × Unit))) (x : impl_Tree_build.A.T) : evFunc (impl_Tree_build.C k R_) impl_Tree_build.ann Tryz.f99 impl_Tree_build.A impl_Tree_build.R x = impl_Tree_build.f k R_ x := by kernel_rfl
theorem impl_Tree_build.oks {L : List (Nat × Obj)}  (k : Nat) : (n : Nat) → SigHolds Tryz.prog L 99 ⟨impl_Tree_build.A, impl_Tree_build.R, iter (impl_Tree_build.f k) n⟩
  | 0 => sig_zero Tryz.func99 (by kernel_rfl) (by kernel_rfl)
  | n + 1 => have ih := impl_Tree_build.oks  k n
    sig_of_ev (C := impl_Tree_build.C k (iter (impl_Tree_build.f k) n)) (holds_cons (allok_cons (impl_Env_own.ok k) allok_nil) (holds_cons (allok_cons (impl_Tree_put.ok k) allok_nil) (holds_cons (allok_cons (ih) allok_nil) holds_nil))) (by kernel_rfl) Tryz.func99 (by kernel_rfl) impl_Tree_build.ann impl_Tree_build.A impl_Tree_build.R (fun x y h => (impl_Tree_build.ev k _ x).trans h) (by kernel_rfl)
theorem impl_Tree_build.ok {L : List (Nat × Obj)}  (k : Nat) : SigHolds Tryz.prog L 99 (impl_Tree_build.sg k) := impl_Tree_build.oks  k k

/-! (loop.example/g00719/impl.Decl).treeOf -/
def impl_Decl_treeOf.A : Sh := (.cons (.pur (.cons (.sl false .str) (.cons (.sl false .str) (.cons (.sl false (.cons .str (.cons (.int .i64) .nil))) .nil)))) (.cons (.pur (.sl false (.cons .bool (.cons (.sl false (.cons (.int .i64) (.cons (.int .i64) .nil))) (.cons (.sl false (.cons (.int .i64) (.cons (.int .i64) .nil))) .nil))))) .nil))
def impl_Decl_treeOf.R : Sh := (.cons (.agg (.cons (.own (.cons (.int .i64) (.cons (.int .i64) (.cons (.int .i64) (.cons .bool (.cons (.sl false (.cons (.int .i64) (.cons (.int .i64) .nil))) (.cons (.sl false (.cons (.int .i64) (.cons (.int .i64) .nil))) .nil))))))) .nil)) .nil)
def impl_Decl_treeOf.ann : Ann := { loops := [], joins := [], keys := [] }
noncomputable def impl_Decl_treeOf (k : Nat) : (((List (List UInt8)) × (List (List UInt8)) × (List ((List UInt8) × Int × Unit)) × Unit) × (List (Bool × (List (Int × Int × Unit)) × (List (Int × Int × Unit)) × Unit)) × Unit) → Option ((((List (Int × Int × Int × Bool × (List (Int × Int × Unit)) × (List (Int × Int × Unit)) × Unit)) × Unit) × Unit) × (Unit × Unit × Unit)) := fun x => match x with
 | (d_, table, ()) =>
  bd k (impl_size_string k (d_.2.1, ())) fun y1 =>
  bd k (impl_Tree_build k (([], ()), table, 0, y1.1.1, 0, ())) fun y2 =>
  some (((y2.2.1.1, ()), ()), ((), (), ()))
noncomputable def impl_Decl_treeOf.sg (k : Nat) : Sig := ⟨impl_Decl_treeOf.A, impl_Decl_treeOf.R, impl_Decl_treeOf k⟩
noncomputable def impl_Decl_treeOf.C (k : Nat) : Ctx := ⟨Tryz.prog, [(100, [impl_size_string.sg k]), (99, [impl_Tree_build.sg k])], k, []⟩
theorem impl_Decl_treeOf.ev (k : Nat) (x : impl_Decl_treeOf.A.T) : evFunc (impl_Decl_treeOf.C k) impl_Decl_treeOf.ann Tryz.f56 impl_Decl_treeOf.A impl_Decl_treeOf.R x = impl_Decl_treeOf k x := by kernel_rfl
theorem impl_Decl_treeOf.ok {L : List (Nat × Obj)}  (k : Nat) : SigHolds Tryz.prog L 56 (impl_Decl_treeOf.sg k) :=
  sig_of_ev (C := impl_Decl_treeOf.C k) (holds_cons (allok_cons (impl_size_string.ok k) allok_nil) (holds_cons (allok_cons (impl_Tree_build.ok k) allok_nil) holds_nil)) (by kernel_rfl) Tryz.func56 (by kernel_rfl) impl_Decl_treeOf.ann impl_Decl_treeOf.A impl_Decl_treeOf.R (fun x y h => (impl_Decl_treeOf.ev k x).trans h) (by kernel_rfl)

/-! loop.example/g00719/impl.TreeOf -/
def impl_TreeOf.A : Sh := (.cons (.pur (.cons (.sl false .str) (.cons (.sl false .str) (.cons (.sl false (.cons .str (.cons (.int .i64) .nil))) .nil)))) (.cons (.pur (.sl false (.cons .bool (.cons (.sl false (.cons (.int .i64) (.cons (.int .i64) .nil))) (.cons (.sl false (.cons (.int .i64) (.cons (.int .i64) .nil))) .nil))))) .nil))
def impl_TreeOf.R : Sh := (.cons (.agg (.cons (.own (.cons (.int .i64) (.cons (.int .i64) (.cons (.int .i64) (.cons .bool (.cons (.sl false (.cons (.int .i64) (.cons (.int .i64) .nil))) (.cons (.sl false (.cons (.int .i64) (.cons (.int .i64) .nil))) .nil))))))) .nil)) .nil)
def impl_TreeOf.ann : Ann := { loops := [], joins := [], keys := [] }
noncomputable def impl_TreeOf (k : Nat) : (((List (List UInt8)) × (List (List UInt8)) × (List ((List UInt8) × Int × Unit)) × Unit) × (List (Bool × (List (Int × Int × Unit)) × (List (Int × Int × Unit)) × Unit)) × Unit) → Option ((((List (Int × Int × Int × Bool × (List (Int × Int × Unit)) × (List (Int × Int × Unit)) × Unit)) × Unit) × Unit) × (Unit × Unit × Unit)) := fun x => match x with
 | (d_, t, ()) =>
  bd k (impl_TableOk k (d_, t, ())) fun y1 =>
  br k (!y1.1.1)
  (some ((([], ()), ()), ((), (), ())))
  (bd k (impl_Decl_treeOf k (d_, t, ())) fun y2 =>
  some (((y2.1.1.1, ()), ()), ((), (), ())))
noncomputable def impl_TreeOf.sg (k : Nat) : Sig := ⟨impl_TreeOf.A, impl_TreeOf.R, impl_TreeOf k⟩
noncomputable def impl_TreeOf.C (k : Nat) : Ctx := ⟨Tryz.prog, [(55, [impl_TableOk.sg k]), (56, [impl_Decl_treeOf.sg k])], k, []⟩
theorem impl_TreeOf.ev (k : Nat) (x : impl_TreeOf.A.T) : evFunc (impl_TreeOf.C k) impl_TreeOf.ann Tryz.f19 impl_TreeOf.A impl_TreeOf.R x = impl_TreeOf k x := by kernel_rfl
theorem impl_TreeOf.ok {L : List (Nat × Obj)} (hSp : Lb.NeedSp L) (k : Nat) : SigHolds Tryz.prog L 19 (impl_TreeOf.sg k) :=
  sig_of_ev (C := impl_TreeOf.C k) (holds_cons (allok_cons (impl_TableOk.ok hSp k) allok_nil) (holds_cons (allok_cons (impl_Decl_treeOf.ok k) allok_nil) holds_nil)) (by kernel_rfl) Tryz.func19 (by kernel_rfl) impl_TreeOf.ann impl_TreeOf.A impl_TreeOf.R (fun x y h => (impl_TreeOf.ev k x).trans h) (by kernel_rfl)

/-! (loop.example/g00719/impl.Tree).find -/
def impl_Tree_find.A : Sh := (.cons (.pur (.cons (.sl false (.cons (.int .i64) (.cons (.int .i64) (.cons (.int .i64) (.cons .bool (.cons (.sl false (.cons (.int .i64) (.cons (.int .i64) .nil))) (.cons (.sl false (.cons (.int .i64) (.cons (.int .i64) .nil))) .nil))))))) .nil)) (.cons (.pur (.int .i64)) (.cons (.pur (.int .i64)) .nil)))
def impl_Tree_find.R : Sh := (.cons (.pur (.cons .bool (.cons (.sl false (.cons (.int .i64) (.cons (.int .i64) .nil))) (.cons (.sl false (.cons (.int .i64) (.cons (.int .i64) .nil))) .nil)))) (.cons (.pur .bool) .nil))
def impl_Tree_find.ann : Ann := { loops := [(0, [(1, (.pur (.int .i64))), (2, (.pur (.int .i64))), (3, (.box (.cons (.pur (.sl false (.cons (.int .i64) (.cons (.int .i64) (.cons (.int .i64) (.cons .bool (.cons (.sl false (.cons (.int .i64) (.cons (.int .i64) .nil))) (.cons (.sl false (.cons (.int .i64) (.cons (.int .i64) .nil))) .nil)))))))) .nil))), (6, (.box (.cons (.pur .bool) (.cons (.own (.cons (.int .i64) (.cons (.int .i64) .nil))) (.cons (.own (.cons (.int .i64) (.cons (.int .i64) .nil))) .nil))))), (8, (.pur (.int .i64)))])], joins := [], keys := [] }
noncomputable def impl_Tree_find.l0 (k : Nat)  (G0 : (Int × Int × ((List (Int × Int × Int × Bool × (List (Int × Int × Unit)) × (List (Int × Int × Unit)) × Unit)) × Unit) × (Bool × (List (Int × Int × Unit)) × (List (Int × Int × Unit)) × Unit) × Int × Unit) → Option (((Bool × (List (Int × Int × Unit)) × (List (Int × Int × Unit)) × Unit) × Bool × Unit) × (Unit × Unit × Unit × Unit))) : (Int × Int × ((List (Int × Int × Int × Bool × (List (Int × Int × Unit)) × (List (Int × Int × Unit)) × Unit)) × Unit) × (Bool × (List (Int × Int × Unit)) × (List (Int × Int × Unit)) × Unit) × Int × Unit) → Option (((Bool × (List (Int × Int × Unit)) × (List (Int × Int × Unit)) × Unit) × Bool × Unit) × (Unit × Unit × Unit × Unit)) := fun x => match x with
 | (flags, leaf, (t_0, ()), (t6_0, t6_1, t6_2, ()), at_, ()) =>
  br k (decide (at_ ≥ 0))
  (br k (decide (0 ≤ at_))
  (bd k (t_0[at_.toNat]?) fun x2 =>
  br k (x2.1 == (-1))
  (some (((x2.2.2.2.1, x2.2.2.2.2.1, x2.2.2.2.2.2.1, ()), true, ()), ((), (), (), ())))
  (bd k (impl_within k (x2.1, 0, IntKind.wrap .i64 (flags - 1), ())) fun y3 =>
  br k (!y3.1.1)
  (some (((false, [], [], ()), false, ()), ((), (), (), ())))
  (br k (decide (0 ≤ x2.1))
  (br k ((IntKind.wrap .i64 (((BitVec.ofInt 64 (leaf.fdiv (2 ^ (min x2.1.toNat 64))) &&& BitVec.ofInt 64 1).toNat : Int))) == 1)
  (bd k (impl_within k (x2.2.2.1, 0, IntKind.wrap .i64 (at_ - 1), ())) fun y4 =>
  br k (!y4.1.1)
  (some (((false, [], [], ()), false, ()), ((), (), (), ())))
  (G0 (flags, leaf, (t_0, ()), (t6_0, t6_1, t6_2, ()), x2.2.2.1, ())))
  (bd k (impl_within k (x2.2.1, 0, IntKind.wrap .i64 (at_ - 1), ())) fun y5 =>
  br k (!y5.1.1)
  (some (((false, [], [], ()), false, ()), ((), (), (), ())))
  (G0 (flags, leaf, (t_0, ()), (t6_0, t6_1, t6_2, ()), x2.2.1, ()))))
  none)))
  none)
  (some (((false, [], [], ()), false, ()), ((), (), (), ())))
noncomputable def impl_Tree_find (k : Nat) : (((List (Int × Int × Int × Bool × (List (Int × Int × Unit)) × (List (Int × Int × Unit)) × Unit)) × Unit) × Int × Int × Unit) → Option (((Bool × (List (Int × Int × Unit)) × (List (Int × Int × Unit)) × Unit) × Bool × Unit) × (Unit × Unit × Unit × Unit)) := fun x => match x with
 | (t, flags, leaf, ()) =>
  bd k (impl_size_impl_Node k (t.1, ())) fun y1 =>
  iter (impl_Tree_find.l0 k) k (flags, leaf, (t.1, ()), (false, [], [], ()), IntKind.wrap .i64 (y1.1.1 - 1), ())
noncomputable def impl_Tree_find.sg (k : Nat) : Sig := ⟨impl_Tree_find.A, impl_Tree_find.R, impl_Tree_find k⟩
noncomputable def impl_Tree_find.C (k : Nat) : Ctx := ⟨Tryz.prog, [(97, [impl_size_impl_Node.sg k]), (114, [impl_within.sg k])], k, []⟩
theorem impl_Tree_find.ev (k : Nat) (x : impl_Tree_find.A.T) : evFunc (impl_Tree_find.C k) impl_Tree_find.ann Tryz.f125 impl_Tree_find.A impl_Tree_find.R x = impl_Tree_find k x := by kernel_rfl
theorem impl_Tree_find.ok {L : List (Nat × Obj)}  (k : Nat) : SigHolds Tryz.prog L 125 (impl_Tree_find.sg k) :=
  sig_of_ev (C := impl_Tree_find.C k) (holds_cons (allok_cons (impl_size_impl_Node.ok k) allok_nil) (holds_cons (allok_cons (impl_within.ok k) allok_nil) holds_nil)) (by kernel_rfl) Tryz.func125 (by kernel_rfl) impl_Tree_find.ann impl_Tree_find.A impl_Tree_find.R (fun x y h => (impl_Tree_find.ev k x).trans h) (by kernel_rfl)

/-! slices.EqualFunc[[]loop.example/g00719/impl.Node,[]loop.example/g00719/impl.Node,loop.example/g00719/impl.Node,loop.example/g00719/impl.Node] -/
def slices_EqualFunc_impl_Node_impl_Node_impl_Node_impl_Node.A : Sh := (.cons (.pur (.sl false (.cons (.int .i64) (.cons (.int .i64) (.cons (.int .i64) (.cons .bool (.cons (.sl false (.cons (.int .i64) (.cons (.int .i64) .nil))) (.cons (.sl false (.cons (.int .i64) (.cons (.int .i64) .nil))) .nil)))))))) (.cons (.pur (.sl false (.cons (.int .i64) (.cons (.int .i64) (.cons (.int .i64) (.cons .bool (.cons (.sl false (.cons (.int .i64) (.cons (.int .i64) .nil))) (.cons (.sl false (.cons (.int .i64) (.cons (.int .i64) .nil))) .nil)))))))) (.cons (.fn (.func 128) 0 .nil) .nil)))
def slices_EqualFunc_impl_Node_impl_Node_impl_Node_impl_Node.R : Sh := (.cons (.pur .bool) .nil)
def slices_EqualFunc_impl_Node_impl_Node_impl_Node_impl_Node.ann : Ann := { loops := [(0, [(1, (.pur (.sl false (.cons (.int .i64) (.cons (.int .i64) (.cons (.int .i64) (.cons .bool (.cons (.sl false (.cons (.int .i64) (.cons (.int .i64) .nil))) (.cons (.sl false (.cons (.int .i64) (.cons (.int .i64) .nil))) .nil))))))))), (2, (.fn (.func 128) 0 .nil)), (15, (.pur (.sl false (.cons (.int .i64) (.cons (.int .i64) (.cons (.int .i64) (.cons .bool (.cons (.sl false (.cons (.int .i64) (.cons (.int .i64) .nil))) (.cons (.sl false (.cons (.int .i64) (.cons (.int .i64) .nil))) .nil))))))))), (16, (.pur (.int .i64))), (17, (.pur (.int .i64)))])], joins := [], keys := [] }
noncomputable def slices_EqualFunc_impl_Node_impl_Node_impl_Node_impl_Node.l0 (k : Nat)  (G0 : ((List (Int × Int × Int × Bool × (List (Int × Int × Unit)) × (List (Int × Int × Unit)) × Unit)) × (Unit) × (List (Int × Int × Int × Bool × (List (Int × Int × Unit)) × (List (Int × Int × Unit)) × Unit)) × Int × Int × Unit) → Option ((Bool × Unit) × (Unit × Unit × (Unit) × Unit))) : ((List (Int × Int × Int × Bool × (List (Int × Int × Unit)) × (List (Int × Int × Unit)) × Unit)) × (Unit) × (List (Int × Int × Int × Bool × (List (Int × Int × Unit)) × (List (Int × Int × Unit)) × Unit)) × Int × Int × Unit) → Option ((Bool × Unit) × (Unit × Unit × (Unit) × Unit)) := fun x => match x with
 | (s2, (()), t15, t16, t17, ()) =>
  br k (decide (t17 < t16))
  (br k (decide (0 ≤ t17))
  (bd k (t15[t17.toNat]?) fun x1 =>
  br k (decide (0 ≤ t17))
  (bd k (s2[t17.toNat]?) fun x2 =>
  bd k (impl_sameNode k (x1, x2, ())) fun y3 =>
  br k (!y3.1.1)
  (some ((false, ()), ((), (), (()), ())))
  (G0 (s2, (()), t15, t16, IntKind.wrap .i64 (t17 + 1), ())))
  none)
  none)
  (some ((true, ()), ((), (), (()), ())))
noncomputable def slices_EqualFunc_impl_Node_impl_Node_impl_Node_impl_Node (k : Nat) : ((List (Int × Int × Int × Bool × (List (Int × Int × Unit)) × (List (Int × Int × Unit)) × Unit)) × (List (Int × Int × Int × Bool × (List (Int × Int × Unit)) × (List (Int × Int × Unit)) × Unit)) × (Unit) × Unit) → Option ((Bool × Unit) × (Unit × Unit × (Unit) × Unit)) := fun x => match x with
 | (s1, s2, (()), ()) =>
  br k ((s1.length : Int) != (s2.length : Int))
  (some ((false, ()), ((), (), (()), ())))
  (iter (slices_EqualFunc_impl_Node_impl_Node_impl_Node_impl_Node.l0 k) k (s2, (()), s1, (s1.length : Int), 0, ()))
noncomputable def slices_EqualFunc_impl_Node_impl_Node_impl_Node_impl_Node.sg (k : Nat) : Sig := ⟨slices_EqualFunc_impl_Node_impl_Node_impl_Node_impl_Node.A, slices_EqualFunc_impl_Node_impl_Node_impl_Node_impl_Node.R, slices_EqualFunc_impl_Node_impl_Node_impl_Node_impl_Node k⟩
noncomputable def slices_EqualFunc_impl_Node_impl_Node_impl_Node_impl_Node.C (k : Nat) : Ctx := ⟨Tryz.prog, [(128, [impl_sameNode.sg k])], k, []⟩
theorem slices_EqualFunc_impl_Node_impl_Node_impl_Node_impl_Node.ev (k : Nat) (x : slices_EqualFunc_impl_Node_impl_Node_impl_Node_impl_Node.A.T) : evFunc (slices_EqualFunc_impl_Node_impl_Node_impl_Node_impl_Node.C k) slices_EqualFunc_impl_Node_impl_Node_impl_Node_impl_Node.ann Tryz.f127 slices_EqualFunc_impl_Node_impl_Node_impl_Node_impl_Node.A slices_EqualFunc_impl_Node_impl_Node_impl_Node_impl_Node.R x = slices_EqualFunc_impl_Node_impl_Node_impl_Node_impl_Node k x := by kernel_rfl
theorem slices_EqualFunc_impl_Node_impl_Node_impl_Node_impl_Node.ok {L : List (Nat × Obj)}  (k : Nat) : SigHolds Tryz.prog L 127 (slices_EqualFunc_impl_Node_impl_Node_impl_Node_impl_Node.sg k) :=
  sig_of_ev (C := slices_EqualFunc_impl_Node_impl_Node_impl_Node_impl_Node.C k) (holds_cons (allok_cons (impl_sameNode.ok k) allok_nil) holds_nil) (by kernel_rfl) Tryz.func127 (by kernel_rfl) slices_EqualFunc_impl_Node_impl_Node_impl_Node_impl_Node.ann slices_EqualFunc_impl_Node_impl_Node_impl_Node_impl_Node.A slices_EqualFunc_impl_Node_impl_Node_impl_Node_impl_Node.R (fun x y h => (slices_EqualFunc_impl_Node_impl_Node_impl_Node_impl_Node.ev k x).trans h) (by kernel_rfl)

/-! loop.example/g00719/impl.TableOf -/
def impl_TableOf.A : Sh := (.cons (.pur (.cons (.sl false .str) (.cons (.sl false .str) (.cons (.sl false (.cons .str (.cons (.int .i64) .nil))) .nil)))) (.cons (.pur (.cons (.sl false (.cons (.int .i64) (.cons (.int .i64) (.cons (.int .i64) (.cons .bool (.cons (.sl false (.cons (.int .i64) (.cons (.int .i64) .nil))) (.cons (.sl false (.cons (.int .i64) (.cons (.int .i64) .nil))) .nil))))))) .nil)) .nil))
def impl_TableOf.R : Sh := (.cons (.pur (.sl false (.cons .bool (.cons (.sl false (.cons (.int .i64) (.cons (.int .i64) .nil))) (.cons (.sl false (.cons (.int .i64) (.cons (.int .i64) .nil))) .nil))))) (.cons (.pur .bool) .nil))
def impl_TableOf.ann : Ann := { loops := [(0, [(2, (.box (.cons (.pur (.sl false .str)) (.cons (.pur (.sl false .str)) (.cons (.pur (.sl false (.cons .str (.cons (.int .i64) .nil)))) .nil))))), (3, (.box (.cons (.pur (.sl false (.cons (.int .i64) (.cons (.int .i64) (.cons (.int .i64) (.cons .bool (.cons (.sl false (.cons (.int .i64) (.cons (.int .i64) .nil))) (.cons (.sl false (.cons (.int .i64) (.cons (.int .i64) .nil))) .nil)))))))) .nil))), (6, (.own (.cons .bool (.cons (.sl false (.cons (.int .i64) (.cons (.int .i64) .nil))) (.cons (.sl false (.cons (.int .i64) (.cons (.int .i64) .nil))) .nil))))), (14, (.pur (.int .i64))), (15, (.pur (.int .i64)))])], joins := [], keys := [(7, [([3], false), ([2], false), ([2], false), ([], false), ([], false), ([24], true), ([], false), ([], false), ([], false), ([8], true), ([8], true), ([], false)]), (12, [([2], false), ([], false), ([6], false), ([], false), ([], false), ([2], false), ([], false), ([6, 42], true), ([42], false), ([3], false), ([3], false), ([42, 46], true), ([], false), ([], false)])] }
noncomputable def impl_TableOf.l0 (k : Nat)  (G0 : (((List (List UInt8)) × (List (List UInt8)) × (List ((List UInt8) × Int × Unit)) × Unit) × ((List (Int × Int × Int × Bool × (List (Int × Int × Unit)) × (List (Int × Int × Unit)) × Unit)) × Unit) × (List (Bool × (List (Int × Int × Unit)) × (List (Int × Int × Unit)) × Unit)) × Int × Int × Unit) → Option (((List (Bool × (List (Int × Int × Unit)) × (List (Int × Int × Unit)) × Unit)) × Bool × Unit) × (Unit × Unit × Unit))) : (((List (List UInt8)) × (List (List UInt8)) × (List ((List UInt8) × Int × Unit)) × Unit) × ((List (Int × Int × Int × Bool × (List (Int × Int × Unit)) × (List (Int × Int × Unit)) × Unit)) × Unit) × (List (Bool × (List (Int × Int × Unit)) × (List (Int × Int × Unit)) × Unit)) × Int × Int × Unit) → Option (((List (Bool × (List (Int × Int × Unit)) × (List (Int × Int × Unit)) × Unit)) × Bool × Unit) × (Unit × Unit × Unit)) := fun x => match x with
 | ((d__0, d__1, d__2, ()), (t_0, ()), out_, t14, t15, ()) =>
  br k (decide (t15 < t14))
  (bd k (impl_size_string k (d__1, ())) fun y3 =>
  bd k (impl_Tree_find k ((t_0, ()), y3.1.1, t15, ())) fun y4 =>
  br k (!y4.1.2.1)
  (some (([], false, ()), ((), (), ())))
  (bd k (impl_Env_own k (y4.1.1, ())) fun y5 =>
  br k (decide ((out_.length + ([y5.1.1] : List (Bool × (List (Int × Int × Unit)) × (List (Int × Int × Unit)) × Unit)).length) * 56 ≤ maxBytes))
  (G0 ((d__0, d__1, d__2, ()), (t_0, ()), out_ ++ ([y5.1.1] : List (Bool × (List (Int × Int × Unit)) × (List (Int × Int × Unit)) × Unit)), t14, IntKind.wrap .i64 (t15 + 1), ()))
  none))
  (bd k (impl_Decl_isTable k ((d__0, d__1, d__2, ()), out_, ())) fun y6 =>
  br k (!y6.1.1)
  (some (([], false, ()), ((), (), ())))
  (bd k (impl_Decl_treeOf k ((d__0, d__1, d__2, ()), out_, ())) fun y7 =>
  bd k (slices_EqualFunc_impl_Node_impl_Node_impl_Node_impl_Node k (y7.1.1.1, t_0, (()), ())) fun y8 =>
  br k (!y8.1.1)
  (some (([], false, ()), ((), (), ())))
  (some ((out_, true, ()), ((), (), ())))))
noncomputable def impl_TableOf (k : Nat) : (((List (List UInt8)) × (List (List UInt8)) × (List ((List UInt8) × Int × Unit)) × Unit) × ((List (Int × Int × Int × Bool × (List (Int × Int × Unit)) × (List (Int × Int × Unit)) × Unit)) × Unit) × Unit) → Option (((List (Bool × (List (Int × Int × Unit)) × (List (Int × Int × Unit)) × Unit)) × Bool × Unit) × (Unit × Unit × Unit)) := fun x => match x with
 | (d_, t, ()) =>
  bd k (impl_Decl_isRight k (d_, ())) fun y1 =>
  br k (!y1.1.1)
  (some (([], false, ()), ((), (), ())))
  (bd k (impl_Decl_leaves k (d_, ())) fun y2 =>
  iter (impl_TableOf.l0 k) k ((d_.1, d_.2.1, d_.2.2.1, ()), (t.1, ()), [], y2.1.1, 0, ()))
noncomputable def impl_TableOf.sg (k : Nat) : Sig := ⟨impl_TableOf.A, impl_TableOf.R, impl_TableOf k⟩
noncomputable def impl_TableOf.C (k : Nat) : Ctx := ⟨Tryz.prog, [(77, [impl_Decl_isRight.sg k]), (124, [impl_Decl_leaves.sg k]), (100, [impl_size_string.sg k]), (125, [impl_Tree_find.sg k]), (126, [impl_Env_own.sg k]), (98, [impl_Decl_isTable.sg k]), (56, [impl_Decl_treeOf.sg k]), (127, [slices_EqualFunc_impl_Node_impl_Node_impl_Node_impl_Node.sg k])], k, []⟩
theorem impl_TableOf.ev (k : Nat) (x : impl_TableOf.A.T) : evFunc (impl_TableOf.C k) impl_TableOf.ann Tryz.f95 impl_TableOf.A impl_TableOf.R x = impl_TableOf k x := by kernel_rfl
theorem impl_TableOf.ok {L : List (Nat × Obj)} (hSp : Lb.NeedSp L) (k : Nat) : SigHolds Tryz.prog L 95 (impl_TableOf.sg k) :=
  sig_of_ev (C := impl_TableOf.C k) (holds_cons (allok_cons (impl_Decl_isRight.ok hSp k) allok_nil) (holds_cons (allok_cons (impl_Decl_leaves.ok k) allok_nil) (holds_cons (allok_cons (impl_size_string.ok k) allok_nil) (holds_cons (allok_cons (impl_Tree_find.ok k) allok_nil) (holds_cons (allok_cons (impl_Env_own.ok k) allok_nil) (holds_cons (allok_cons (impl_Decl_isTable.ok k) allok_nil) (holds_cons (allok_cons (impl_Decl_treeOf.ok k) allok_nil) (holds_cons (allok_cons (slices_EqualFunc_impl_Node_impl_Node_impl_Node_impl_Node.ok k) allok_nil) holds_nil)))))))) (by kernel_rfl) Tryz.func95 (by kernel_rfl) impl_TableOf.ann impl_TableOf.A impl_TableOf.R (fun x y h => (impl_TableOf.ev k x).trans h) (by kernel_rfl)

/-! loop.example/g00719/impl.TreeOk -/
def impl_TreeOk.A : Sh := (.cons (.pur (.cons (.sl false .str) (.cons (.sl false .str) (.cons (.sl false (.cons .str (.cons (.int .i64) .nil))) .nil)))) (.cons (.pur (.cons (.sl false (.cons (.int .i64) (.cons (.int .i64) (.cons (.int .i64) (.cons .bool (.cons (.sl false (.cons (.int .i64) (.cons (.int .i64) .nil))) (.cons (.sl false (.cons (.int .i64) (.cons (.int .i64) .nil))) .nil))))))) .nil)) .nil))
def impl_TreeOk.R : Sh := (.cons (.pur .bool) .nil)
def impl_TreeOk.ann : Ann := { loops := [], joins := [], keys := [] }
noncomputable def impl_TreeOk (k : Nat) : (((List (List UInt8)) × (List (List UInt8)) × (List ((List UInt8) × Int × Unit)) × Unit) × ((List (Int × Int × Int × Bool × (List (Int × Int × Unit)) × (List (Int × Int × Unit)) × Unit)) × Unit) × Unit) → Option ((Bool × Unit) × (Unit × Unit × Unit)) := fun x => match x with
 | (d_, t, ()) =>
  bd k (impl_TableOf k (d_, t, ())) fun y1 =>
  some ((y1.1.2.1, ()), ((), (), ()))
noncomputable def impl_TreeOk.sg (k : Nat) : Sig := ⟨impl_TreeOk.A, impl_TreeOk.R, impl_TreeOk k⟩
noncomputable def impl_TreeOk.C (k : Nat) : Ctx := ⟨Tryz.prog, [(95, [impl_TableOf.sg k])], k, []⟩
theorem impl_TreeOk.ev (k : Nat) (x : impl_TreeOk.A.T) : evFunc (impl_TreeOk.C k) impl_TreeOk.ann Tryz.f53 impl_TreeOk.A impl_TreeOk.R x = impl_TreeOk k x := by kernel_rfl
theorem impl_TreeOk.ok {L : List (Nat × Obj)} (hSp : Lb.NeedSp L) (k : Nat) : SigHolds Tryz.prog L 53 (impl_TreeOk.sg k) :=
  sig_of_ev (C := impl_TreeOk.C k) (holds_cons (allok_cons (impl_TableOf.ok hSp k) allok_nil) holds_nil) (by kernel_rfl) Tryz.func53 (by kernel_rfl) impl_TreeOk.ann impl_TreeOk.A impl_TreeOk.R (fun x y h => (impl_TreeOk.ev k x).trans h) (by kernel_rfl)

/-! (loop.example/g00719/impl.Decl).nodeText -/
def impl_Decl_nodeText.A : Sh := (.cons (.pur (.cons (.sl false .str) (.cons (.sl false .str) (.cons (.sl false (.cons .str (.cons (.int .i64) .nil))) .nil)))) (.cons (.pur (.cons (.sl false (.cons (.int .i64) (.cons (.int .i64) (.cons (.int .i64) (.cons .bool (.cons (.sl false (.cons (.int .i64) (.cons (.int .i64) .nil))) (.cons (.sl false (.cons (.int .i64) (.cons (.int .i64) .nil))) .nil))))))) .nil)) (.cons (.pur (.int .i64)) .nil)))
def impl_Decl_nodeText.R : Sh := (.cons (.pur .str) .nil)
def impl_Decl_nodeText.ann : Ann := { loops := [], joins := [], keys := [] }
noncomputable def impl_Decl_nodeText.f (k : Nat) (R_ : (((List (List UInt8)) × (List (List UInt8)) × (List ((List UInt8) × Int × Unit)) × Unit) × ((List (Int × Int × Int × Bool × (List (Int × Int × Unit)) × (List (Int × Int × Unit)) × Unit)) × Unit) × Int × Unit) → Option (((List UInt8) × Unit) × (Unit × Unit × Unit × Unit))) : (((List (List UInt8)) × (List (List UInt8)) × (List ((List UInt8) × Int × Unit)) × Unit) × ((List (Int × Int × Int × Bool × (List (Int × Int × Unit)) × (List (Int × Int × Unit)) × Unit)) × Unit) × Int × Unit) → Option (((List UInt8) × Unit) × (Unit × Unit × Unit × Unit)) := fun x => match x with
 | (d_, t, at_, ()) =>
  br k (decide (0 ≤ at_))
  (bd k (t.1[at_.toNat]?) fun x1 =>
  br k (x1.1 == (-1))
  (bd k (impl_Decl_envText k (d_, (x1.2.2.2.1, x1.2.2.2.2.1, x1.2.2.2.2.2.1, ()), ())) fun y2 =>
  br k (decide (((([91] : List UInt8).length + y2.1.1.length : Nat) : Int) ≤ maxInt64))
  (br k (decide ((((([91] : List UInt8) ++ y2.1.1).length + ([93] : List UInt8).length : Nat) : Int) ≤ maxInt64))
  (some (((([91] : List UInt8) ++ y2.1.1) ++ [93], ()), ((), (), (), ())))
  none)
  none)
  (br k (decide (0 ≤ x1.1))
  (bd k (d_.2.1[x1.1.toNat]?) fun x3 =>
  br k (decide (((x3.length + ([40] : List UInt8).length : Nat) : Int) ≤ maxInt64))
  (bd k (R_ (d_, t, x1.2.2.1, ())) fun y4 =>
  br k (decide ((((x3 ++ [40]).length + y4.1.1.length : Nat) : Int) ≤ maxInt64))
  (br k (decide (((((x3 ++ [40]) ++ y4.1.1).length + ([32, 124, 32] : List UInt8).length : Nat) : Int) ≤ maxInt64))
  (bd k (R_ (d_, t, x1.2.1, ())) fun y5 =>
  br k (decide ((((((x3 ++ [40]) ++ y4.1.1) ++ [32, 124, 32]).length + y5.1.1.length : Nat) : Int) ≤ maxInt64))
  (br k (decide (((((((x3 ++ [40]) ++ y4.1.1) ++ [32, 124, 32]) ++ y5.1.1).length + ([41] : List UInt8).length : Nat) : Int) ≤ maxInt64))
  (some ((((((x3 ++ [40]) ++ y4.1.1) ++ [32, 124, 32]) ++ y5.1.1) ++ [41], ()), ((), (), (), ())))
  none)
  none)
  none)
  none)
  none)
  none))
  none
noncomputable def impl_Decl_nodeText (k : Nat) : (((List (List UInt8)) × (List (List UInt8)) × (List ((List UInt8) × Int × Unit)) × Unit) × ((List (Int × Int × Int × Bool × (List (Int × Int × Unit)) × (List (Int × Int × Unit)) × Unit)) × Unit) × Int × Unit) → Option (((List UInt8) × Unit) × (Unit × Unit × Unit × Unit)) := iter (impl_Decl_nodeText.f k) k
noncomputable def impl_Decl_nodeText.sg (k : Nat) : Sig := ⟨impl_Decl_nodeText.A, impl_Decl_nodeText.R, impl_Decl_nodeText k⟩
noncomputable def impl_Decl_nodeText.C (k : Nat) (R_ : (((List (List UInt8)) × (List (List UInt8)) × (List ((List UInt8) × Int × Unit)) × Unit) × ((List (Int × Int × Int × Bool × (List (Int × Int × Unit)) × (List (Int × Int × Unit)) × Unit)) × Unit) × Int × Unit) → Option (((List UInt8) × Unit) × (Unit × Unit × Unit × Unit))) : Ctx := ⟨Tryz.prog, [(36, [impl_Decl_envText.sg k]), (96, [⟨impl_Decl_nodeText.A, impl_Decl_nodeText.R, R_⟩])], k, []⟩
theorem impl_Decl_nodeText.ev (k : Nat) (R_ : (((List (List UInt8)) × (List (List UInt8)) × (List ((List UInt8) × Int × Unit)) × Unit) × ((List (Int × Int × Int × Bool × (List (Int × Int × Unit)) × (List (Int × Int × Unit)) × Unit)) × Unit) × Int × Unit) → Option (((List UInt8) × Unit) × (Unit × Unit × Unit × Unit))) (x : impl_Decl_nodeText.A.T) : evFunc (impl_Decl_nodeText.C k R_) impl_Decl_nodeText.ann Tryz.f96 impl_Decl_nodeText.A impl_Decl_nodeText.R x = impl_Decl_nodeText.f k R_ x := by kernel_rfl
theorem impl_Decl_nodeText.oks {L : List (Nat × Obj)} (hFmt : Lb.NeedFmt L) (k : Nat) : (n : Nat) → SigHolds Tryz.prog L 96 ⟨impl_Decl_nodeText.A, impl_Decl_nodeText.R, iter (impl_Decl_nodeText.f k) n⟩
  | 0 => sig_zero Tryz.func96 (by kernel_rfl) (by kernel_rfl)
  | n + 1 => have ih := impl_Decl_nodeText.oks hFmt k n
    sig_of_ev (C := impl_Decl_nodeText.C k (iter (impl_Decl_nodeText.f k) n)) (holds_cons (allok_cons (impl_Decl_envText.ok hFmt k) allok_nil) (holds_cons (allok_cons (ih) allok_nil) holds_nil)) (by kernel_rfl) Tryz.func96 (by kernel_rfl) impl_Decl_nodeText.ann impl_Decl_nodeText.A impl_Decl_nodeText.R (fun x y h => (impl_Decl_nodeText.ev k _ x).trans h) (by kernel_rfl)
theorem impl_Decl_nodeText.ok {L : List (Nat × Obj)} (hFmt : Lb.NeedFmt L) (k : Nat) : SigHolds Tryz.prog L 96 (impl_Decl_nodeText.sg k) := impl_Decl_nodeText.oks hFmt k k

/-! (loop.example/g00719/impl.Decl).treeText -/
def impl_Decl_treeText.A : Sh := (.cons (.pur (.cons (.sl false .str) (.cons (.sl false .str) (.cons (.sl false (.cons .str (.cons (.int .i64) .nil))) .nil)))) (.cons (.pur (.cons (.sl false (.cons (.int .i64) (.cons (.int .i64) (.cons (.int .i64) (.cons .bool (.cons (.sl false (.cons (.int .i64) (.cons (.int .i64) .nil))) (.cons (.sl false (.cons (.int .i64) (.cons (.int .i64) .nil))) .nil))))))) .nil)) .nil))
def impl_Decl_treeText.R : Sh := (.cons (.pur .str) .nil)
def impl_Decl_treeText.ann : Ann := { loops := [], joins := [], keys := [] }
noncomputable def impl_Decl_treeText (k : Nat) : (((List (List UInt8)) × (List (List UInt8)) × (List ((List UInt8) × Int × Unit)) × Unit) × ((List (Int × Int × Int × Bool × (List (Int × Int × Unit)) × (List (Int × Int × Unit)) × Unit)) × Unit) × Unit) → Option (((List UInt8) × Unit) × (Unit × Unit × Unit)) := fun x => match x with
 | (d_, t, ()) =>
  bd k (impl_size_impl_Node k (t.1, ())) fun y1 =>
  bd k (impl_Decl_nodeText k (d_, t, IntKind.wrap .i64 (y1.1.1 - 1), ())) fun y2 =>
  some ((y2.1.1, ()), ((), (), ()))
noncomputable def impl_Decl_treeText.sg (k : Nat) : Sig := ⟨impl_Decl_treeText.A, impl_Decl_treeText.R, impl_Decl_treeText k⟩
noncomputable def impl_Decl_treeText.C (k : Nat) : Ctx := ⟨Tryz.prog, [(97, [impl_size_impl_Node.sg k]), (96, [impl_Decl_nodeText.sg k])], k, []⟩
theorem impl_Decl_treeText.ev (k : Nat) (x : impl_Decl_treeText.A.T) : evFunc (impl_Decl_treeText.C k) impl_Decl_treeText.ann Tryz.f54 impl_Decl_treeText.A impl_Decl_treeText.R x = impl_Decl_treeText k x := by kernel_rfl
theorem impl_Decl_treeText.ok {L : List (Nat × Obj)} (hFmt : Lb.NeedFmt L) (k : Nat) : SigHolds Tryz.prog L 54 (impl_Decl_treeText.sg k) :=
  sig_of_ev (C := impl_Decl_treeText.C k) (holds_cons (allok_cons (impl_size_impl_Node.ok k) allok_nil) (holds_cons (allok_cons (impl_Decl_nodeText.ok hFmt k) allok_nil) holds_nil)) (by kernel_rfl) Tryz.func54 (by kernel_rfl) impl_Decl_treeText.ann impl_Decl_treeText.A impl_Decl_treeText.R (fun x y h => (impl_Decl_treeText.ev k x).trans h) (by kernel_rfl)

/-! loop.example/g00719/impl.TreeText -/
def impl_TreeText.A : Sh := (.cons (.pur (.cons (.sl false .str) (.cons (.sl false .str) (.cons (.sl false (.cons .str (.cons (.int .i64) .nil))) .nil)))) (.cons (.pur (.cons (.sl false (.cons (.int .i64) (.cons (.int .i64) (.cons (.int .i64) (.cons .bool (.cons (.sl false (.cons (.int .i64) (.cons (.int .i64) .nil))) (.cons (.sl false (.cons (.int .i64) (.cons (.int .i64) .nil))) .nil))))))) .nil)) .nil))
def impl_TreeText.R : Sh := (.cons (.pur .str) .nil)
def impl_TreeText.ann : Ann := { loops := [], joins := [], keys := [] }
noncomputable def impl_TreeText (k : Nat) : (((List (List UInt8)) × (List (List UInt8)) × (List ((List UInt8) × Int × Unit)) × Unit) × ((List (Int × Int × Int × Bool × (List (Int × Int × Unit)) × (List (Int × Int × Unit)) × Unit)) × Unit) × Unit) → Option (((List UInt8) × Unit) × (Unit × Unit × Unit)) := fun x => match x with
 | (d_, t, ()) =>
  bd k (impl_TreeOk k (d_, t, ())) fun y1 =>
  br k (!y1.1.1)
  (some (([], ()), ((), (), ())))
  (bd k (impl_Decl_treeText k (d_, t, ())) fun y2 =>
  some ((y2.1.1, ()), ((), (), ())))
noncomputable def impl_TreeText.sg (k : Nat) : Sig := ⟨impl_TreeText.A, impl_TreeText.R, impl_TreeText k⟩
noncomputable def impl_TreeText.C (k : Nat) : Ctx := ⟨Tryz.prog, [(53, [impl_TreeOk.sg k]), (54, [impl_Decl_treeText.sg k])], k, []⟩
theorem impl_TreeText.ev (k : Nat) (x : impl_TreeText.A.T) : evFunc (impl_TreeText.C k) impl_TreeText.ann Tryz.f18 impl_TreeText.A impl_TreeText.R x = impl_TreeText k x := by kernel_rfl
theorem impl_TreeText.ok {L : List (Nat × Obj)} (hFmt : Lb.NeedFmt L) (hSp : Lb.NeedSp L) (k : Nat) : SigHolds Tryz.prog L 18 (impl_TreeText.sg k) :=
  sig_of_ev (C := impl_TreeText.C k) (holds_cons (allok_cons (impl_TreeOk.ok hSp k) allok_nil) (holds_cons (allok_cons (impl_Decl_treeText.ok hFmt k) allok_nil) holds_nil)) (by kernel_rfl) Tryz.func18 (by kernel_rfl) impl_TreeText.ann impl_TreeText.A impl_TreeText.R (fun x y h => (impl_TreeText.ev k x).trans h) (by kernel_rfl)

/-! loop.example/g00719/spec.TableOk -/
def spec_TableOk.A : Sh := (.cons (.pur (.cons (.sl false .str) (.cons (.sl false .str) (.cons (.sl false (.cons .str (.cons (.int .i64) .nil))) .nil)))) (.cons (.pur (.sl false (.cons .bool (.cons (.sl false (.cons (.int .i64) (.cons (.int .i64) .nil))) (.cons (.sl false (.cons (.int .i64) (.cons (.int .i64) .nil))) .nil))))) .nil))
def spec_TableOk.R : Sh := (.cons (.pur .bool) .nil)
def spec_TableOk.ann : Ann := { loops := [(0, [(1, (.pur (.sl false (.cons .bool (.cons (.sl false (.cons (.int .i64) (.cons (.int .i64) .nil))) (.cons (.sl false (.cons (.int .i64) (.cons (.int .i64) .nil))) .nil)))))), (2, (.box (.cons (.pur (.sl false .str)) (.cons (.pur (.sl false .str)) (.cons (.pur (.sl false (.cons .str (.cons (.int .i64) .nil)))) .nil))))), (5, (.pur (.int .i64)))])], joins := [(1, [(15, .bool)])], keys := [] }
noncomputable def spec_TableOk.l0 (k : Nat)  (G0 : ((List (Bool × (List (Int × Int × Unit)) × (List (Int × Int × Unit)) × Unit)) × ((List (List UInt8)) × (List (List UInt8)) × (List ((List UInt8) × Int × Unit)) × Unit) × Int × Unit) → Option ((Bool × Unit) × (Unit × Unit × Unit))) : ((List (Bool × (List (Int × Int × Unit)) × (List (Int × Int × Unit)) × Unit)) × ((List (List UInt8)) × (List (List UInt8)) × (List ((List UInt8) × Int × Unit)) × Unit) × Int × Unit) → Option ((Bool × Unit) × (Unit × Unit × Unit)) := fun x => match x with
 | (t, (d__0, d__1, d__2, ()), i, ()) =>
  br k (decide (i < (t.length : Int)))
  (br k (decide (0 ≤ i))
  (bd k (t[i.toNat]?) fun x4 =>
  bd k (spec_EnvOk k ((d__0, d__1, d__2, ()), x4, ())) fun y5 =>
  br k (!y5.1.1)
  (some ((false, ()), ((), (), ())))
  (G0 (t, (d__0, d__1, d__2, ()), IntKind.wrap .i64 (i + 1), ())))
  none)
  (some ((true, ()), ((), (), ())))
noncomputable def spec_TableOk (k : Nat) : (((List (List UInt8)) × (List (List UInt8)) × (List ((List UInt8) × Int × Unit)) × Unit) × (List (Bool × (List (Int × Int × Unit)) × (List (Int × Int × Unit)) × Unit)) × Unit) → Option ((Bool × Unit) × (Unit × Unit × Unit)) := fun x => match x with
 | (d_, t, ()) =>
  (bd k (spec_DeclOk k (d_, ())) fun y1 =>
  br k (!y1.1.1)
  (some (true, ()))
  (bd k (spec_l8Size k (d_, ())) fun y2 =>
  some ((t.length : Int) != y2.1.1, ())) : Option (Bool × Unit)).bind fun j3 =>
  br k (j3.1)
  (some ((false, ()), ((), (), ())))
  (iter (spec_TableOk.l0 k) k (t, (d_.1, d_.2.1, d_.2.2.1, ()), 0, ()))
noncomputable def spec_TableOk.sg (k : Nat) : Sig := ⟨spec_TableOk.A, spec_TableOk.R, spec_TableOk k⟩
noncomputable def spec_TableOk.C (k : Nat) : Ctx := ⟨Tryz.prog, [(45, [spec_DeclOk.sg k]), (60, [spec_l8Size.sg k]), (13, [spec_EnvOk.sg k])], k, []⟩
theorem spec_TableOk.ev (k : Nat) (x : spec_TableOk.A.T) : evFunc (spec_TableOk.C k) spec_TableOk.ann Tryz.f22 spec_TableOk.A spec_TableOk.R x = spec_TableOk k x := by kernel_rfl
theorem spec_TableOk.ok {L : List (Nat × Obj)}  (k : Nat) : SigHolds Tryz.prog L 22 (spec_TableOk.sg k) :=
  sig_of_ev (C := spec_TableOk.C k) (holds_cons (allok_cons (spec_DeclOk.ok k) allok_nil) (holds_cons (allok_cons (spec_l8Size.ok k) allok_nil) (holds_cons (allok_cons (spec_EnvOk.ok k) allok_nil) holds_nil))) (by kernel_rfl) Tryz.func22 (by kernel_rfl) spec_TableOk.ann spec_TableOk.A spec_TableOk.R (fun x y h => (spec_TableOk.ev k x).trans h) (by kernel_rfl)

/-! loop.example/g00719/spec.l8Same -/
def spec_l8Same.A : Sh := (.cons (.pur (.cons .bool (.cons (.sl false (.cons (.int .i64) (.cons (.int .i64) .nil))) (.cons (.sl false (.cons (.int .i64) (.cons (.int .i64) .nil))) .nil)))) (.cons (.pur (.cons .bool (.cons (.sl false (.cons (.int .i64) (.cons (.int .i64) .nil))) (.cons (.sl false (.cons (.int .i64) (.cons (.int .i64) .nil))) .nil)))) .nil))
def spec_l8Same.R : Sh := (.cons (.pur .bool) .nil)
def spec_l8Same.ann : Ann := { loops := [(0, [(5, (.own (.cons (.int .i64) (.cons (.int .i64) .nil)))), (6, (.own (.cons (.int .i64) (.cons (.int .i64) .nil)))), (7, (.pur (.int .i64)))])], joins := [(1, [(30, .bool)])], keys := [] }
noncomputable def spec_l8Same.l0 (k : Nat)  (G0 : ((List (Int × Int × Unit)) × (List (Int × Int × Unit)) × Int × Unit) → Option ((Bool × Unit) × (Unit × Unit × Unit))) : ((List (Int × Int × Unit)) × (List (Int × Int × Unit)) × Int × Unit) → Option ((Bool × Unit) × (Unit × Unit × Unit)) := fun x => match x with
 | (x_, y_, i, ()) =>
  br k (decide (i < (x_.length : Int)))
  (br k (decide (0 ≤ i ∧ i < (x_.length : Int)))
  (bd k (x_[i.toNat]?) fun x4 =>
  br k (decide (0 ≤ i ∧ i < (y_.length : Int)))
  (bd k (y_[i.toNat]?) fun x5 =>
  br k (!((x4.1 == x5.1) && ((x4.2.1 == x5.2.1) && true)))
  (some ((false, ()), ((), (), ())))
  (G0 (x_, y_, IntKind.wrap .i64 (i + 1), ())))
  none)
  none)
  (some ((true, ()), ((), (), ())))
noncomputable def spec_l8Same (k : Nat) : ((Bool × (List (Int × Int × Unit)) × (List (Int × Int × Unit)) × Unit) × (Bool × (List (Int × Int × Unit)) × (List (Int × Int × Unit)) × Unit) × Unit) → Option ((Bool × Unit) × (Unit × Unit × Unit)) := fun x => match x with
 | (a, b_, ()) =>
  (br k (!(a.1 == b_.1))
  (some (true, ()))
  (br k ((a.2.1.length : Int) != (b_.2.1.length : Int))
  (some (true, ()))
  (some ((a.2.2.1.length : Int) != (b_.2.2.1.length : Int), ()))) : Option (Bool × Unit)).bind fun j1 =>
  br k (j1.1)
  (some ((false, ()), ((), (), ())))
  (bd k (spec_l6List k (a, ())) fun y2 =>
  bd k (spec_l6List k (b_, ())) fun y3 =>
  iter (spec_l8Same.l0 k) k (y2.1.1, y3.1.1, 0, ()))
noncomputable def spec_l8Same.sg (k : Nat) : Sig := ⟨spec_l8Same.A, spec_l8Same.R, spec_l8Same k⟩
noncomputable def spec_l8Same.C (k : Nat) : Ctx := ⟨Tryz.prog, [(46, [spec_l6List.sg k])], k, []⟩
theorem spec_l8Same.ev (k : Nat) (x : spec_l8Same.A.T) : evFunc (spec_l8Same.C k) spec_l8Same.ann Tryz.f163 spec_l8Same.A spec_l8Same.R x = spec_l8Same k x := by kernel_rfl
theorem spec_l8Same.ok {L : List (Nat × Obj)}  (k : Nat) : SigHolds Tryz.prog L 163 (spec_l8Same.sg k) :=
  sig_of_ev (C := spec_l8Same.C k) (holds_cons (allok_cons (spec_l6List.ok k) allok_nil) holds_nil) (by kernel_rfl) Tryz.func163 (by kernel_rfl) spec_l8Same.ann spec_l8Same.A spec_l8Same.R (fun x y h => (spec_l8Same.ev k x).trans h) (by kernel_rfl)

/-! loop.example/g00719/spec.l8Node -/
def spec_l8Node.A : Sh := (.cons (.pur (.cons (.int .i64) (.cons (.int .i64) (.cons (.int .i64) (.cons .bool (.cons (.sl false (.cons (.int .i64) (.cons (.int .i64) .nil))) (.cons (.sl false (.cons (.int .i64) (.cons (.int .i64) .nil))) .nil))))))) (.cons (.pur (.cons (.int .i64) (.cons (.int .i64) (.cons (.int .i64) (.cons .bool (.cons (.sl false (.cons (.int .i64) (.cons (.int .i64) .nil))) (.cons (.sl false (.cons (.int .i64) (.cons (.int .i64) .nil))) .nil))))))) .nil))
def spec_l8Node.R : Sh := (.cons (.pur .bool) .nil)
def spec_l8Node.ann : Ann := { loops := [], joins := [(1, [(4, .bool)])], keys := [] }
noncomputable def spec_l8Node (k : Nat) : ((Int × Int × Int × Bool × (List (Int × Int × Unit)) × (List (Int × Int × Unit)) × Unit) × (Int × Int × Int × Bool × (List (Int × Int × Unit)) × (List (Int × Int × Unit)) × Unit) × Unit) → Option ((Bool × Unit) × (Unit × Unit × Unit)) := fun x => match x with
 | (a, b_, ()) =>
  (br k (a.1 == b_.1)
  (br k (a.2.1 == b_.2.1)
  (br k (a.2.2.1 == b_.2.2.1)
  (bd k (spec_l8Same k ((a.2.2.2.1, a.2.2.2.2.1, a.2.2.2.2.2.1, ()), (b_.2.2.2.1, b_.2.2.2.2.1, b_.2.2.2.2.2.1, ()), ())) fun y1 =>
  some (y1.1.1, ()))
  (some (false, ())))
  (some (false, ())))
  (some (false, ())) : Option (Bool × Unit)).bind fun j2 =>
  some ((j2.1, ()), ((), (), ()))
noncomputable def spec_l8Node.sg (k : Nat) : Sig := ⟨spec_l8Node.A, spec_l8Node.R, spec_l8Node k⟩
noncomputable def spec_l8Node.C (k : Nat) : Ctx := ⟨Tryz.prog, [(163, [spec_l8Same.sg k])], k, []⟩
theorem spec_l8Node.ev (k : Nat) (x : spec_l8Node.A.T) : evFunc (spec_l8Node.C k) spec_l8Node.ann Tryz.f133 spec_l8Node.A spec_l8Node.R x = spec_l8Node k x := by kernel_rfl
theorem spec_l8Node.ok {L : List (Nat × Obj)}  (k : Nat) : SigHolds Tryz.prog L 133 (spec_l8Node.sg k) :=
  sig_of_ev (C := spec_l8Node.C k) (holds_cons (allok_cons (spec_l8Same.ok k) allok_nil) holds_nil) (by kernel_rfl) Tryz.func133 (by kernel_rfl) spec_l8Node.ann spec_l8Node.A spec_l8Node.R (fun x y h => (spec_l8Node.ev k x).trans h) (by kernel_rfl)

/-! loop.example/g00719/spec.l8Add -/
def spec_l8Add.A : Sh := (.cons (.own (.cons (.int .i64) (.cons (.int .i64) (.cons (.int .i64) (.cons .bool (.cons (.sl false (.cons (.int .i64) (.cons (.int .i64) .nil))) (.cons (.sl false (.cons (.int .i64) (.cons (.int .i64) .nil))) .nil))))))) (.cons (.agg (.cons (.pur (.int .i64)) (.cons (.pur (.int .i64)) (.cons (.pur (.int .i64)) (.cons (.pur .bool) (.cons (.own (.cons (.int .i64) (.cons (.int .i64) .nil))) (.cons (.own (.cons (.int .i64) (.cons (.int .i64) .nil))) .nil))))))) .nil))
def spec_l8Add.R : Sh := (.cons (.own (.cons (.int .i64) (.cons (.int .i64) (.cons (.int .i64) (.cons .bool (.cons (.sl false (.cons (.int .i64) (.cons (.int .i64) .nil))) (.cons (.sl false (.cons (.int .i64) (.cons (.int .i64) .nil))) .nil))))))) (.cons (.pur (.int .i64)) .nil))
def spec_l8Add.ann : Ann := { loops := [(0, [(0, (.own (.cons (.int .i64) (.cons (.int .i64) (.cons (.int .i64) (.cons .bool (.cons (.sl false (.cons (.int .i64) (.cons (.int .i64) .nil))) (.cons (.sl false (.cons (.int .i64) (.cons (.int .i64) .nil))) .nil)))))))), (3, (.box (.cons (.pur (.int .i64)) (.cons (.pur (.int .i64)) (.cons (.pur (.int .i64)) (.cons (.pur .bool) (.cons (.own (.cons (.int .i64) (.cons (.int .i64) .nil))) (.cons (.own (.cons (.int .i64) (.cons (.int .i64) .nil))) .nil)))))))), (6, (.pur (.int .i64)))])], joins := [], keys := [] }
noncomputable def spec_l8Add.l0 (k : Nat)  (G0 : ((List (Int × Int × Int × Bool × (List (Int × Int × Unit)) × (List (Int × Int × Unit)) × Unit)) × (Int × Int × Int × Bool × (List (Int × Int × Unit)) × (List (Int × Int × Unit)) × Unit) × Int × Unit) → Option (((List (Int × Int × Int × Bool × (List (Int × Int × Unit)) × (List (Int × Int × Unit)) × Unit)) × Int × Unit) × (Unit × (Unit × Unit × Unit × Unit × Unit × Unit × Unit) × Unit))) : ((List (Int × Int × Int × Bool × (List (Int × Int × Unit)) × (List (Int × Int × Unit)) × Unit)) × (Int × Int × Int × Bool × (List (Int × Int × Unit)) × (List (Int × Int × Unit)) × Unit) × Int × Unit) → Option (((List (Int × Int × Int × Bool × (List (Int × Int × Unit)) × (List (Int × Int × Unit)) × Unit)) × Int × Unit) × (Unit × (Unit × Unit × Unit × Unit × Unit × Unit × Unit) × Unit)) := fun x => match x with
 | (l_, (n_0, n_1, n_2, n_3, n_4, n_5, ()), i, ()) =>
  br k (decide (i < (l_.length : Int)))
  (br k (decide (0 ≤ i ∧ i < (l_.length : Int)))
  (bd k (l_[i.toNat]?) fun x1 =>
  bd k (spec_l8Node k (x1, (n_0, n_1, n_2, n_3, n_4, n_5, ()), ())) fun y2 =>
  br k (y2.1.1)
  (some ((l_, i, ()), ((), ((), (), (), (), (), (), ()), ())))
  (G0 (l_, (n_0, n_1, n_2, n_3, n_4, n_5, ()), IntKind.wrap .i64 (i + 1), ())))
  none)
  (br k (decide ((l_.length + ([(n_0, n_1, n_2, n_3, n_4, n_5, ())] : List (Int × Int × Int × Bool × (List (Int × Int × Unit)) × (List (Int × Int × Unit)) × Unit)).length) * 80 ≤ maxBytes))
  (some ((l_ ++ ([(n_0, n_1, n_2, n_3, n_4, n_5, ())] : List (Int × Int × Int × Bool × (List (Int × Int × Unit)) × (List (Int × Int × Unit)) × Unit)), (l_.length : Int), ()), ((), ((), (), (), (), (), (), ()), ())))
  none)
noncomputable def spec_l8Add (k : Nat) : ((List (Int × Int × Int × Bool × (List (Int × Int × Unit)) × (List (Int × Int × Unit)) × Unit)) × (Int × Int × Int × Bool × (List (Int × Int × Unit)) × (List (Int × Int × Unit)) × Unit) × Unit) → Option (((List (Int × Int × Int × Bool × (List (Int × Int × Unit)) × (List (Int × Int × Unit)) × Unit)) × Int × Unit) × (Unit × (Unit × Unit × Unit × Unit × Unit × Unit × Unit) × Unit)) := fun x => match x with
 | (l_, (n_0, n_1, n_2, n_3, n_4, n_5, ()), ()) =>
  iter (spec_l8Add.l0 k) k (l_, (n_0, n_1, n_2, n_3, n_4, n_5, ()), 0, ())
noncomputable def spec_l8Add.sg (k : Nat) : Sig := ⟨spec_l8Add.A, spec_l8Add.R, spec_l8Add k⟩
noncomputable def spec_l8Add.C (k : Nat) : Ctx := ⟨Tryz.prog, [(133, [spec_l8Node.sg k])], k, []⟩
theorem spec_l8Add.ev (k : Nat) (x : spec_l8Add.A.T) : evFunc (spec_l8Add.C k) spec_l8Add.ann Tryz.f102 spec_l8Add.A spec_l8Add.R x = spec_l8Add k x := by kernel_rfl
theorem spec_l8Add.ok {L : List (Nat × Obj)}  (k : Nat) : SigHolds Tryz.prog L 102 (spec_l8Add.sg k) :=
  sig_of_ev (C := spec_l8Add.C k) (holds_cons (allok_cons (spec_l8Node.ok k) allok_nil) holds_nil) (by kernel_rfl) Tryz.func102 (by kernel_rfl) spec_l8Add.ann spec_l8Add.A spec_l8Add.R (fun x y h => (spec_l8Add.ev k x).trans h) (by kernel_rfl)

/-! loop.example/g00719/spec.l8Build -/
def spec_l8Build.A : Sh := (.cons (.pur (.sl false (.cons .bool (.cons (.sl false (.cons (.int .i64) (.cons (.int .i64) .nil))) (.cons (.sl false (.cons (.int .i64) (.cons (.int .i64) .nil))) .nil))))) (.cons (.own (.cons (.int .i64) (.cons (.int .i64) (.cons (.int .i64) (.cons .bool (.cons (.sl false (.cons (.int .i64) (.cons (.int .i64) .nil))) (.cons (.sl false (.cons (.int .i64) (.cons (.int .i64) .nil))) .nil))))))) (.cons (.pur (.int .i64)) (.cons (.pur (.int .i64)) .nil))))
def spec_l8Build.R : Sh := (.cons (.own (.cons (.int .i64) (.cons (.int .i64) (.cons (.int .i64) (.cons .bool (.cons (.sl false (.cons (.int .i64) (.cons (.int .i64) .nil))) (.cons (.sl false (.cons (.int .i64) (.cons (.int .i64) .nil))) .nil))))))) (.cons (.pur (.int .i64)) .nil))
def spec_l8Build.ann : Ann := { loops := [], joins := [], keys := [] }
noncomputable def spec_l8Build.f (k : Nat) (R_ : ((List (Bool × (List (Int × Int × Unit)) × (List (Int × Int × Unit)) × Unit)) × (List (Int × Int × Int × Bool × (List (Int × Int × Unit)) × (List (Int × Int × Unit)) × Unit)) × Int × Int × Unit) → Option (((List (Int × Int × Int × Bool × (List (Int × Int × Unit)) × (List (Int × Int × Unit)) × Unit)) × Int × Unit) × (Unit × Unit × Unit × Unit × Unit))) : ((List (Bool × (List (Int × Int × Unit)) × (List (Int × Int × Unit)) × Unit)) × (List (Int × Int × Int × Bool × (List (Int × Int × Unit)) × (List (Int × Int × Unit)) × Unit)) × Int × Int × Unit) → Option (((List (Int × Int × Int × Bool × (List (Int × Int × Unit)) × (List (Int × Int × Unit)) × Unit)) × Int × Unit) × (Unit × Unit × Unit × Unit × Unit)) := fun x => match x with
 | (t, l_, flag, leaf, ()) =>
  br k (decide (0 ≤ (IntKind.wrap .u64 flag)))
  (br k ((IntKind.wrap .i64 (1 * 2 ^ (min (IntKind.wrap .u64 flag).toNat 64))) == (t.length : Int))
  (br k (decide (0 ≤ leaf))
  (bd k (t[leaf.toNat]?) fun x1 =>
  bd k (spec_l6Copy k (x1, ())) fun y2 =>
  bd k (spec_l8Add k (l_, ((-1), 0, 0, y2.1.1.1, y2.1.1.2.1, y2.1.1.2.2.1, ()), ())) fun y3 =>
  some ((y3.1.1, y3.1.2.1, ()), ((), (), (), (), ())))
  none)
  (bd k (R_ (t, l_, IntKind.wrap .i64 (flag + 1), leaf, ())) fun y4 =>
  br k (decide (0 ≤ (IntKind.wrap .u64 flag)))
  (bd k (R_ (t, y4.1.1, IntKind.wrap .i64 (flag + 1), IntKind.wrap .i64 (leaf + (IntKind.wrap .i64 (1 * 2 ^ (min (IntKind.wrap .u64 flag).toNat 64)))), ())) fun y5 =>
  br k (y4.1.2.1 == y5.1.2.1)
  (some ((y5.1.1, y4.1.2.1, ()), ((), (), (), (), ())))
  (bd k (spec_l8Add k (y5.1.1, (flag, y4.1.2.1, y5.1.2.1, false, [], [], ()), ())) fun y6 =>
  some ((y6.1.1, y6.1.2.1, ()), ((), (), (), (), ()))))
  none))
  none
noncomputable def spec_l8Build (k : Nat) : ((List (Bool × (List (Int × Int × Unit)) × (List (Int × Int × Unit)) × Unit)) × (List (Int × Int × Int × Bool × (List (Int × Int × Unit)) × (List (Int × Int × Unit)) × Unit)) × Int × Int × Unit) → Option (((List (Int × Int × Int × Bool × (List (Int × Int × Unit)) × (List (Int × Int × Unit)) × Unit)) × Int × Unit) × (Unit × Unit × Unit × Unit × Unit)) := iter (spec_l8Build.f k) k
noncomputable def spec_l8Build.sg (k : Nat) : Sig := ⟨spec_l8Build.A, spec_l8Build.R, spec_l8Build k⟩
noncomputable def spec_l8Build.C (k : Nat) (R_ : ((List (Bool × (List (Int × Int × Unit)) × (List (Int × Int × Unit)) × Unit)) × (List (Int × Int × Int × Bool × (List (Int × Int × Unit)) × (List (Int × Int × Unit)) × Unit)) × Int × Int × Unit) → Option (((List (Int × Int × Int × Bool × (List (Int × Int × Unit)) × (List (Int × Int × Unit)) × Unit)) × Int × Unit) × (Unit × Unit × Unit × Unit × Unit))) : Ctx := ⟨Tryz.prog, [(72, [spec_l6Copy.sg k]), (102, [spec_l8Add.sg k]), (59, [⟨spec_l8Build.A, spec_l8Build.R, R_⟩])], k, []⟩
theorem spec_l8Build.ev (k : Nat) (R_ : ((List (Bool × (List (Int × Int × Unit)) × (List (Int × Int × Unit)) × Unit)) × (List (Int × Int × Int × Bool × (List (Int × Int × Unit)) × (List (Int × Int × Unit)) × Unit)) × Int × Int × Unit) → Option (((List (Int × Int × Int × Bool × (List (Int × Int × Unit)) × (List (Int × Int × Unit)) × Unit)) × Int × Unit) × (Unit × Unit × Unit × Unit × Unit))) (x : spec_l8Build.A.T) : evFunc (spec_l8Build.C k R_) spec_l8Build.ann Tryz.f59 spec_l8Build.A spec_l8Build.R x = spec_l8Build.f k R_ x := by kernel_rfl
theorem spec_l8Build.oks {L : List (Nat × Obj)}  (k : Nat) : (n : Nat) → SigHolds Tryz.prog L 59 ⟨spec_l8Build.A, spec_l8Build.R, iter (spec_l8Build.f k) n⟩
  | 0 => sig_zero Tryz.func59 (by kernel_rfl) (by kernel_rfl)
  | n + 1 => have ih := spec_l8Build.oks  k n
    sig_of_ev (C := spec_l8Build.C k (iter (spec_l8Build.f k) n)) (holds_cons (allok_cons (spec_l6Copy.ok k) allok_nil) (holds_cons (allok_cons (spec_l8Add.ok k) allok_nil) (holds_cons (allok_cons (ih) allok_nil) holds_nil))) (by kernel_rfl) Tryz.func59 (by kernel_rfl) spec_l8Build.ann spec_l8Build.A spec_l8Build.R (fun x y h => (spec_l8Build.ev k _ x).trans h) (by kernel_rfl)
theorem spec_l8Build.ok {L : List (Nat × Obj)}  (k : Nat) : SigHolds Tryz.prog L 59 (spec_l8Build.sg k) := spec_l8Build.oks  k k

end Go.Pev.F
