/-
  Printed by gen.py: what functions of the program compute, and that they do.
-/
import Derived.Test.YtimiagnkcjfdhaaGreatDoorK06
set_option linter.unusedSimpArgs false
set_option linter.unusedVariables false
open Go.Proofs Go.Pev
namespace Go.Pev.F
set_option maxRecDepth 100000
set_option linter.unusedVariables false

/-! (loop.example/g00719/impl.Decl).nodeText -/
def impl_Decl_nodeText.A : Sh := (.cons (.pur (.cons (.sl false .str) (.cons (.sl false .str) (.cons (.sl false (.cons .str (.cons (.int .i64) .nil))) .nil)))) (.cons (.pur (.cons (.sl false (.cons (.int .i64) (.cons (.int .i64) (.cons (.int .i64) (.cons .bool (.cons (.sl false (.cons (.int .i64) (.cons (.int .i64) .nil))) (.cons (.sl false (.cons (.int .i64) (.cons (.int .i64) .nil))) .nil))))))) .nil)) (.cons (.pur (.int .i64)) .nil)))
def impl_Decl_nodeText.R : Sh := (.cons (.pur .str) .nil)
def impl_Decl_nodeText.ann : Ann := { loops := [], joins := [], keys := [] }
noncomputable def impl_Decl_nodeText.f (k : Nat) (R_ : (((List (List UInt8)) × (List (List UInt8)) × (List ((List UInt8) × Int × Unit)) × Unit) × ((List (Int × Int × Int × Bool × (List (Int × Int × Unit)) × (List (Int × Int × Unit)) × Unit)) × Unit) × Int × Unit) → Option (((List UInt8) × Unit) × (Unit × Unit × Unit × Unit))) : (((List (List UInt8)) × (List (List UInt8)) × (List ((List UInt8) × Int × Unit)) × Unit) × ((List (Int × Int × Int × Bool × (List (Int × Int × Unit)) × (List (Int × Int × Unit)) × Unit)) × Unit) × Int × Unit) → Option (((List UInt8) × Unit) × (Unit × Unit × Unit × Unit)) := fun x => match x with
 | (d_, t, at_, ()) =>
  br k (decide (0 ≤ at_))
  (bd k (t.1[at_.toNat]?) fun x1 =>
  br k (x1.1 == (-1))
  (bd k (impl_Decl_envText k (d_, (x1.2.2.2.1, x1.2.2.2.2.1, x1.2.2.2.2.2.1, ()), ())) fun y2 =>
  br k (decide (((([91] : List UInt8).length + y2.1.1.length : Nat) : Int) ≤ maxInt64))
  (br k (decide ((((([91] : List UInt8) ++ y2.1.1).length + ([93] : List UInt8).length : Nat) : Int) ≤ maxInt64))
  (some (((([91] : List UInt8) ++ y2.1.1) ++ [93], ()), ((), (), (), ())))
  none)
  none)
  (br k (decide (0 ≤ x1.1))
  (bd k (d_.2.1[x1.1.toNat]?) fun x3 =>
  br k (decide (((x3.length + ([40] : List UInt8).length : Nat) : Int) ≤ maxInt64))
  (bd k (R_ (d_, t, x1.2.2.1, ())) fun y4 =>
  br k (decide ((((x3 ++ [40]).length + y4.1.1.length : Nat) : Int) ≤ maxInt64))
  (br k (decide (((((x3 ++ [40]) ++ y4.1.1).length + ([32, 124, 32] : List UInt8).length : Nat) : Int) ≤ maxInt64))
  (bd k (R_ (d_, t, x1.2.1, ())) fun y5 =>
  br k (decide ((((((x3 ++ [40]) ++ y4.1.1) ++ [32, 124, 32]).length + y5.1.1.length : Nat) : Int) ≤ maxInt64))
  (br k (decide (((((((x3 ++ [40]) ++ y4.1.1) ++ [32, 124, 32]) ++ y5.1.1).length + ([41] : List UInt8).length : Nat) : Int) ≤ maxInt64))
  (some ((((((x3 ++ [40]) ++ y4.1.1) ++ [32, 124, 32]) ++ y5.1.1) ++ [41], ()), ((), (), (), ())))
  none)
  none)
  none)
  none)
  none)
  none))
  none
noncomputable def impl_Decl_nodeText (k : Nat) : (((List (List UInt8)) × (List (List UInt8)) × (List ((List UInt8) × Int × Unit)) × Unit) × ((List (Int × Int × Int × Bool × (List (Int × Int × Unit)) × (List (Int × Int × Unit)) × Unit)) × Unit) × Int × Unit) → Option (((List UInt8) × Unit) × (Unit × Unit × Unit × Unit)) := iter (impl_Decl_nodeText.f k) k
noncomputable def impl_Decl_nodeText.sg (k : Nat) : Sig := ⟨impl_Decl_nodeText.A, impl_Decl_nodeText.R, impl_Decl_nodeText k⟩
noncomputable def impl_Decl_nodeText.C (k : Nat) (R_ : (((List (List UInt8)) × (List (List UInt8)) × (List ((List UInt8) × Int × Unit)) × Unit) × ((List (Int × Int × Int × Bool × (List (Int × Int × Unit)) × (List (Int × Int × Unit)) × Unit)) × Unit) × Int × Unit) → Option (((List UInt8) × Unit) × (Unit × Unit × Unit × Unit))) : Ctx := ⟨Tryz.prog, [(85, [impl_Decl_envText.sg k]), (48, [⟨impl_Decl_nodeText.A, impl_Decl_nodeText.R, R_⟩])], k⟩
theorem impl_Decl_nodeText.ev (k : Nat) (R_ : (((List (List UInt8)) × (List (List UInt8)) × (List ((List UInt8) × Int × Unit)) × Unit) × ((List (Int × Int × Int × Bool × (List (Int × Int × Unit)) × (List (Int × Int × Unit)) × Unit)) × Unit) × Int × Unit) → Option (((List UInt8) × Unit) × (Unit × Unit × Unit × Unit))) (x : impl_Decl_nodeText.A.T) : evFunc (impl_Decl_nodeText.C k R_) impl_Decl_nodeText.ann Tryz.f48 impl_Decl_nodeText.A impl_Decl_nodeText.R x = impl_Decl_nodeText.f k R_ x := by kernel_rfl
theorem impl_Decl_nodeText.oks {L : List (Nat × Obj)} (hFmt : Lb.NeedFmt L) (k : Nat) : (n : Nat) → SigHolds Tryz.prog L 48 ⟨impl_Decl_nodeText.A, impl_Decl_nodeText.R, iter (impl_Decl_nodeText.f k) n⟩
  | 0 => sig_zero Tryz.func48 (by kernel_rfl) (by kernel_rfl)
  | n + 1 => have ih := impl_Decl_nodeText.oks hFmt k n
    sig_of_ev (C := impl_Decl_nodeText.C k (iter (impl_Decl_nodeText.f k) n)) (holds_cons (allok_cons (impl_Decl_envText.ok hFmt k) allok_nil) (holds_cons (allok_cons (ih) allok_nil) holds_nil)) (by kernel_rfl) Tryz.func48 (by kernel_rfl) impl_Decl_nodeText.ann impl_Decl_nodeText.A impl_Decl_nodeText.R (fun x y h => (impl_Decl_nodeText.ev k _ x).trans h) (by kernel_rfl)
theorem impl_Decl_nodeText.ok {L : List (Nat × Obj)} (hFmt : Lb.NeedFmt L) (k : Nat) : SigHolds Tryz.prog L 48 (impl_Decl_nodeText.sg k) := impl_Decl_nodeText.oks hFmt k k

/-! (loop.example/g00719/impl.Decl).treeText -/
def impl_Decl_treeText.A : Sh := (.cons (.pur (.cons (.sl false .str) (.cons (.sl false .str) (.cons (.sl false (.cons .str (.cons (.int .i64) .nil))) .nil)))) (.cons (.pur (.cons (.sl false (.cons (.int .i64) (.cons (.int .i64) (.cons (.int .i64) (.cons .bool (.cons (.sl false (.cons (.int .i64) (.cons (.int .i64) .nil))) (.cons (.sl false (.cons (.int .i64) (.cons (.int .i64) .nil))) .nil))))))) .nil)) .nil))
def impl_Decl_treeText.R : Sh := (.cons (.pur .str) .nil)
def impl_Decl_treeText.ann : Ann := { loops := [], joins := [], keys := [] }
noncomputable def impl_Decl_treeText (k : Nat) : (((List (List UInt8)) × (List (List UInt8)) × (List ((List UInt8) × Int × Unit)) × Unit) × ((List (Int × Int × Int × Bool × (List (Int × Int × Unit)) × (List (Int × Int × Unit)) × Unit)) × Unit) × Unit) → Option (((List UInt8) × Unit) × (Unit × Unit × Unit)) := fun x => match x with
 | (d_, t, ()) =>
  bd k (impl_size_impl_Node k (t.1, ())) fun y1 =>
  bd k (impl_Decl_nodeText k (d_, t, IntKind.wrap .i64 (y1.1.1 - 1), ())) fun y2 =>
  some ((y2.1.1, ()), ((), (), ()))
noncomputable def impl_Decl_treeText.sg (k : Nat) : Sig := ⟨impl_Decl_treeText.A, impl_Decl_treeText.R, impl_Decl_treeText k⟩
noncomputable def impl_Decl_treeText.C (k : Nat) : Ctx := ⟨Tryz.prog, [(49, [impl_size_impl_Node.sg k]), (48, [impl_Decl_nodeText.sg k])], k⟩
theorem impl_Decl_treeText.ev (k : Nat) (x : impl_Decl_treeText.A.T) : evFunc (impl_Decl_treeText.C k) impl_Decl_treeText.ann Tryz.f27 impl_Decl_treeText.A impl_Decl_treeText.R x = impl_Decl_treeText k x := by kernel_rfl
theorem impl_Decl_treeText.ok {L : List (Nat × Obj)} (hFmt : Lb.NeedFmt L) (k : Nat) : SigHolds Tryz.prog L 27 (impl_Decl_treeText.sg k) :=
  sig_of_ev (C := impl_Decl_treeText.C k) (holds_cons (allok_cons (impl_size_impl_Node.ok k) allok_nil) (holds_cons (allok_cons (impl_Decl_nodeText.ok hFmt k) allok_nil) holds_nil)) (by kernel_rfl) Tryz.func27 (by kernel_rfl) impl_Decl_treeText.ann impl_Decl_treeText.A impl_Decl_treeText.R (fun x y h => (impl_Decl_treeText.ev k x).trans h) (by kernel_rfl)

/-! loop.example/g00719/impl.TreeText -/
def impl_TreeText.A : Sh := (.cons (.pur (.cons (.sl false .str) (.cons (.sl false .str) (.cons (.sl false (.cons .str (.cons (.int .i64) .nil))) .nil)))) (.cons (.pur (.cons (.sl false (.cons (.int .i64) (.cons (.int .i64) (.cons (.int .i64) (.cons .bool (.cons (.sl false (.cons (.int .i64) (.cons (.int .i64) .nil))) (.cons (.sl false (.cons (.int .i64) (.cons (.int .i64) .nil))) .nil))))))) .nil)) .nil))
def impl_TreeText.R : Sh := (.cons (.pur .str) .nil)
def impl_TreeText.ann : Ann := { loops := [], joins := [], keys := [] }
noncomputable def impl_TreeText (k : Nat) : (((List (List UInt8)) × (List (List UInt8)) × (List ((List UInt8) × Int × Unit)) × Unit) × ((List (Int × Int × Int × Bool × (List (Int × Int × Unit)) × (List (Int × Int × Unit)) × Unit)) × Unit) × Unit) → Option (((List UInt8) × Unit) × (Unit × Unit × Unit)) := fun x => match x with
 | (d_, t, ()) =>
  bd k (impl_TreeOk k (d_, t, ())) fun y1 =>
  br k (!y1.1.1)
  (some (([], ()), ((), (), ())))
  (bd k (impl_Decl_treeText k (d_, t, ())) fun y2 =>
  some ((y2.1.1, ()), ((), (), ())))
noncomputable def impl_TreeText.sg (k : Nat) : Sig := ⟨impl_TreeText.A, impl_TreeText.R, impl_TreeText k⟩
noncomputable def impl_TreeText.C (k : Nat) : Ctx := ⟨Tryz.prog, [(26, [impl_TreeOk.sg k]), (27, [impl_Decl_treeText.sg k])], k⟩
theorem impl_TreeText.ev (k : Nat) (x : impl_TreeText.A.T) : evFunc (impl_TreeText.C k) impl_TreeText.ann Tryz.f10 impl_TreeText.A impl_TreeText.R x = impl_TreeText k x := by kernel_rfl
theorem impl_TreeText.ok {L : List (Nat × Obj)} (hFmt : Lb.NeedFmt L) (hSp : Lb.NeedSp L) (k : Nat) : SigHolds Tryz.prog L 10 (impl_TreeText.sg k) :=
  sig_of_ev (C := impl_TreeText.C k) (holds_cons (allok_cons (impl_TreeOk.ok hSp k) allok_nil) (holds_cons (allok_cons (impl_Decl_treeText.ok hFmt k) allok_nil) holds_nil)) (by kernel_rfl) Tryz.func10 (by kernel_rfl) impl_TreeText.ann impl_TreeText.A impl_TreeText.R (fun x y h => (impl_TreeText.ev k x).trans h) (by kernel_rfl)

/-! loop.example/g00719/laws.eqStringS -/
def laws_eqStringS.A : Sh := (.cons (.pur (.sl false .str)) (.cons (.pur (.sl false .str)) .nil))
def laws_eqStringS.R : Sh := (.cons (.pur .bool) .nil)
def laws_eqStringS.ann : Ann := { loops := [(0, [(0, (.pur (.sl false .str))), (1, (.pur (.sl false .str))), (5, (.pur (.int .i64)))])], joins := [], keys := [] }
noncomputable def laws_eqStringS.l0 (k : Nat)  (G0 : ((List (List UInt8)) × (List (List UInt8)) × Int × Unit) → Option ((Bool × Unit) × (Unit × Unit × Unit))) : ((List (List UInt8)) × (List (List UInt8)) × Int × Unit) → Option ((Bool × Unit) × (Unit × Unit × Unit)) := fun x => match x with
 | (a, b_, i, ()) =>
  br k (decide (i < (a.length : Int)))
  (br k (decide (0 ≤ i))
  (bd k (a[i.toNat]?) fun x1 =>
  br k (decide (0 ≤ i))
  (bd k (b_[i.toNat]?) fun x2 =>
  br k (!(x1 == x2))
  (some ((false, ()), ((), (), ())))
  (G0 (a, b_, IntKind.wrap .i64 (i + 1), ())))
  none)
  none)
  (some ((true, ()), ((), (), ())))
noncomputable def laws_eqStringS (k : Nat) : ((List (List UInt8)) × (List (List UInt8)) × Unit) → Option ((Bool × Unit) × (Unit × Unit × Unit)) := fun x => match x with
 | (a, b_, ()) =>
  br k ((a.length : Int) != (b_.length : Int))
  (some ((false, ()), ((), (), ())))
  (iter (laws_eqStringS.l0 k) k (a, b_, 0, ()))
noncomputable def laws_eqStringS.sg (k : Nat) : Sig := ⟨laws_eqStringS.A, laws_eqStringS.R, laws_eqStringS k⟩
noncomputable def laws_eqStringS.C (k : Nat) : Ctx := ⟨Tryz.prog, [], k⟩
theorem laws_eqStringS.ev (k : Nat) (x : laws_eqStringS.A.T) : evFunc (laws_eqStringS.C k) laws_eqStringS.ann Tryz.f28 laws_eqStringS.A laws_eqStringS.R x = laws_eqStringS k x := by kernel_rfl
theorem laws_eqStringS.ok {L : List (Nat × Obj)}  (k : Nat) : SigHolds Tryz.prog L 28 (laws_eqStringS.sg k) :=
  sig_of_ev (C := laws_eqStringS.C k) holds_nil (by kernel_rfl) Tryz.func28 (by kernel_rfl) laws_eqStringS.ann laws_eqStringS.A laws_eqStringS.R (fun x y h => (laws_eqStringS.ev k x).trans h) (by kernel_rfl)

/-! loop.example/g00719/laws.eqArr -/
def laws_eqArr.A : Sh := (.cons (.pur (.cons .str (.cons (.int .i64) .nil))) (.cons (.pur (.cons .str (.cons (.int .i64) .nil))) .nil))
def laws_eqArr.R : Sh := (.cons (.pur .bool) .nil)
def laws_eqArr.ann : Ann := { loops := [], joins := [], keys := [] }
noncomputable def laws_eqArr (k : Nat) : (((List UInt8) × Int × Unit) × ((List UInt8) × Int × Unit) × Unit) → Option ((Bool × Unit) × (Unit × Unit × Unit)) := fun x => match x with
 | (a, b_, ()) =>
  br k (!(a.1 == b_.1))
  (some ((false, ()), ((), (), ())))
  (br k (a.2.1 != b_.2.1)
  (some ((false, ()), ((), (), ())))
  (some ((true, ()), ((), (), ()))))
noncomputable def laws_eqArr.sg (k : Nat) : Sig := ⟨laws_eqArr.A, laws_eqArr.R, laws_eqArr k⟩
noncomputable def laws_eqArr.C (k : Nat) : Ctx := ⟨Tryz.prog, [], k⟩
theorem laws_eqArr.ev (k : Nat) (x : laws_eqArr.A.T) : evFunc (laws_eqArr.C k) laws_eqArr.ann Tryz.f50 laws_eqArr.A laws_eqArr.R x = laws_eqArr k x := by kernel_rfl
theorem laws_eqArr.ok {L : List (Nat × Obj)}  (k : Nat) : SigHolds Tryz.prog L 50 (laws_eqArr.sg k) :=
  sig_of_ev (C := laws_eqArr.C k) holds_nil (by kernel_rfl) Tryz.func50 (by kernel_rfl) laws_eqArr.ann laws_eqArr.A laws_eqArr.R (fun x y h => (laws_eqArr.ev k x).trans h) (by kernel_rfl)

/-! loop.example/g00719/laws.eqArrS -/
def laws_eqArrS.A : Sh := (.cons (.pur (.sl false (.cons .str (.cons (.int .i64) .nil)))) (.cons (.pur (.sl false (.cons .str (.cons (.int .i64) .nil)))) .nil))
def laws_eqArrS.R : Sh := (.cons (.pur .bool) .nil)
def laws_eqArrS.ann : Ann := { loops := [(0, [(0, (.pur (.sl false (.cons .str (.cons (.int .i64) .nil))))), (1, (.pur (.sl false (.cons .str (.cons (.int .i64) .nil))))), (5, (.pur (.int .i64)))])], joins := [], keys := [] }
noncomputable def laws_eqArrS.l0 (k : Nat)  (G0 : ((List ((List UInt8) × Int × Unit)) × (List ((List UInt8) × Int × Unit)) × Int × Unit) → Option ((Bool × Unit) × (Unit × Unit × Unit))) : ((List ((List UInt8) × Int × Unit)) × (List ((List UInt8) × Int × Unit)) × Int × Unit) → Option ((Bool × Unit) × (Unit × Unit × Unit)) := fun x => match x with
 | (a, b_, i, ()) =>
  br k (decide (i < (a.length : Int)))
  (br k (decide (0 ≤ i))
  (bd k (a[i.toNat]?) fun x1 =>
  br k (decide (0 ≤ i))
  (bd k (b_[i.toNat]?) fun x2 =>
  bd k (laws_eqArr k (x1, x2, ())) fun y3 =>
  br k (!y3.1.1)
  (some ((false, ()), ((), (), ())))
  (G0 (a, b_, IntKind.wrap .i64 (i + 1), ())))
  none)
  none)
  (some ((true, ()), ((), (), ())))
noncomputable def laws_eqArrS (k : Nat) : ((List ((List UInt8) × Int × Unit)) × (List ((List UInt8) × Int × Unit)) × Unit) → Option ((Bool × Unit) × (Unit × Unit × Unit)) := fun x => match x with
 | (a, b_, ()) =>
  br k ((a.length : Int) != (b_.length : Int))
  (some ((false, ()), ((), (), ())))
  (iter (laws_eqArrS.l0 k) k (a, b_, 0, ()))
noncomputable def laws_eqArrS.sg (k : Nat) : Sig := ⟨laws_eqArrS.A, laws_eqArrS.R, laws_eqArrS k⟩
noncomputable def laws_eqArrS.C (k : Nat) : Ctx := ⟨Tryz.prog, [(50, [laws_eqArr.sg k])], k⟩
theorem laws_eqArrS.ev (k : Nat) (x : laws_eqArrS.A.T) : evFunc (laws_eqArrS.C k) laws_eqArrS.ann Tryz.f29 laws_eqArrS.A laws_eqArrS.R x = laws_eqArrS k x := by kernel_rfl
theorem laws_eqArrS.ok {L : List (Nat × Obj)}  (k : Nat) : SigHolds Tryz.prog L 29 (laws_eqArrS.sg k) :=
  sig_of_ev (C := laws_eqArrS.C k) (holds_cons (allok_cons (laws_eqArr.ok k) allok_nil) holds_nil) (by kernel_rfl) Tryz.func29 (by kernel_rfl) laws_eqArrS.ann laws_eqArrS.A laws_eqArrS.R (fun x y h => (laws_eqArrS.ev k x).trans h) (by kernel_rfl)

/-! loop.example/g00719/laws.eqDecl -/
def laws_eqDecl.A : Sh := (.cons (.pur (.cons (.sl false .str) (.cons (.sl false .str) (.cons (.sl false (.cons .str (.cons (.int .i64) .nil))) .nil)))) (.cons (.pur (.cons (.sl false .str) (.cons (.sl false .str) (.cons (.sl false (.cons .str (.cons (.int .i64) .nil))) .nil)))) .nil))
def laws_eqDecl.R : Sh := (.cons (.pur .bool) .nil)
def laws_eqDecl.ann : Ann := { loops := [], joins := [], keys := [] }
noncomputable def laws_eqDecl (k : Nat) : (((List (List UInt8)) × (List (List UInt8)) × (List ((List UInt8) × Int × Unit)) × Unit) × ((List (List UInt8)) × (List (List UInt8)) × (List ((List UInt8) × Int × Unit)) × Unit) × Unit) → Option ((Bool × Unit) × (Unit × Unit × Unit)) := fun x => match x with
 | (a, b_, ()) =>
  bd k (laws_eqStringS k (a.1, b_.1, ())) fun y1 =>
  br k (!y1.1.1)
  (some ((false, ()), ((), (), ())))
  (bd k (laws_eqStringS k (a.2.1, b_.2.1, ())) fun y2 =>
  br k (!y2.1.1)
  (some ((false, ()), ((), (), ())))
  (bd k (laws_eqArrS k (a.2.2.1, b_.2.2.1, ())) fun y3 =>
  br k (!y3.1.1)
  (some ((false, ()), ((), (), ())))
  (some ((true, ()), ((), (), ())))))
noncomputable def laws_eqDecl.sg (k : Nat) : Sig := ⟨laws_eqDecl.A, laws_eqDecl.R, laws_eqDecl k⟩
noncomputable def laws_eqDecl.C (k : Nat) : Ctx := ⟨Tryz.prog, [(28, [laws_eqStringS.sg k]), (29, [laws_eqArrS.sg k])], k⟩
theorem laws_eqDecl.ev (k : Nat) (x : laws_eqDecl.A.T) : evFunc (laws_eqDecl.C k) laws_eqDecl.ann Tryz.f11 laws_eqDecl.A laws_eqDecl.R x = laws_eqDecl k x := by kernel_rfl
theorem laws_eqDecl.ok {L : List (Nat × Obj)}  (k : Nat) : SigHolds Tryz.prog L 11 (laws_eqDecl.sg k) :=
  sig_of_ev (C := laws_eqDecl.C k) (holds_cons (allok_cons (laws_eqStringS.ok k) allok_nil) (holds_cons (allok_cons (laws_eqArrS.ok k) allok_nil) holds_nil)) (by kernel_rfl) Tryz.func11 (by kernel_rfl) laws_eqDecl.ann laws_eqDecl.A laws_eqDecl.R (fun x y h => (laws_eqDecl.ev k x).trans h) (by kernel_rfl)

/-! loop.example/g00719/laws.eqInterval -/
def laws_eqInterval.A : Sh := (.cons (.pur (.cons (.int .i64) (.cons (.int .i64) .nil))) (.cons (.pur (.cons (.int .i64) (.cons (.int .i64) .nil))) .nil))
def laws_eqInterval.R : Sh := (.cons (.pur .bool) .nil)
def laws_eqInterval.ann : Ann := { loops := [], joins := [], keys := [] }
noncomputable def laws_eqInterval (k : Nat) : ((Int × Int × Unit) × (Int × Int × Unit) × Unit) → Option ((Bool × Unit) × (Unit × Unit × Unit)) := fun x => match x with
 | (a, b_, ()) =>
  br k (a.1 != b_.1)
  (some ((false, ()), ((), (), ())))
  (br k (a.2.1 != b_.2.1)
  (some ((false, ()), ((), (), ())))
  (some ((true, ()), ((), (), ()))))
noncomputable def laws_eqInterval.sg (k : Nat) : Sig := ⟨laws_eqInterval.A, laws_eqInterval.R, laws_eqInterval k⟩
noncomputable def laws_eqInterval.C (k : Nat) : Ctx := ⟨Tryz.prog, [], k⟩
theorem laws_eqInterval.ev (k : Nat) (x : laws_eqInterval.A.T) : evFunc (laws_eqInterval.C k) laws_eqInterval.ann Tryz.f149 laws_eqInterval.A laws_eqInterval.R x = laws_eqInterval k x := by kernel_rfl
theorem laws_eqInterval.ok {L : List (Nat × Obj)}  (k : Nat) : SigHolds Tryz.prog L 149 (laws_eqInterval.sg k) :=
  sig_of_ev (C := laws_eqInterval.C k) holds_nil (by kernel_rfl) Tryz.func149 (by kernel_rfl) laws_eqInterval.ann laws_eqInterval.A laws_eqInterval.R (fun x y h => (laws_eqInterval.ev k x).trans h) (by kernel_rfl)

/-! loop.example/g00719/laws.eqIntervalS -/
def laws_eqIntervalS.A : Sh := (.cons (.pur (.sl false (.cons (.int .i64) (.cons (.int .i64) .nil)))) (.cons (.pur (.sl false (.cons (.int .i64) (.cons (.int .i64) .nil)))) .nil))
def laws_eqIntervalS.R : Sh := (.cons (.pur .bool) .nil)
def laws_eqIntervalS.ann : Ann := { loops := [(0, [(0, (.pur (.sl false (.cons (.int .i64) (.cons (.int .i64) .nil))))), (1, (.pur (.sl false (.cons (.int .i64) (.cons (.int .i64) .nil))))), (5, (.pur (.int .i64)))])], joins := [], keys := [] }
noncomputable def laws_eqIntervalS.l0 (k : Nat)  (G0 : ((List (Int × Int × Unit)) × (List (Int × Int × Unit)) × Int × Unit) → Option ((Bool × Unit) × (Unit × Unit × Unit))) : ((List (Int × Int × Unit)) × (List (Int × Int × Unit)) × Int × Unit) → Option ((Bool × Unit) × (Unit × Unit × Unit)) := fun x => match x with
 | (a, b_, i, ()) =>
  br k (decide (i < (a.length : Int)))
  (br k (decide (0 ≤ i))
  (bd k (a[i.toNat]?) fun x1 =>
  br k (decide (0 ≤ i))
  (bd k (b_[i.toNat]?) fun x2 =>
  bd k (laws_eqInterval k (x1, x2, ())) fun y3 =>
  br k (!y3.1.1)
  (some ((false, ()), ((), (), ())))
  (G0 (a, b_, IntKind.wrap .i64 (i + 1), ())))
  none)
  none)
  (some ((true, ()), ((), (), ())))
noncomputable def laws_eqIntervalS (k : Nat) : ((List (Int × Int × Unit)) × (List (Int × Int × Unit)) × Unit) → Option ((Bool × Unit) × (Unit × Unit × Unit)) := fun x => match x with
 | (a, b_, ()) =>
  br k ((a.length : Int) != (b_.length : Int))
  (some ((false, ()), ((), (), ())))
  (iter (laws_eqIntervalS.l0 k) k (a, b_, 0, ()))
noncomputable def laws_eqIntervalS.sg (k : Nat) : Sig := ⟨laws_eqIntervalS.A, laws_eqIntervalS.R, laws_eqIntervalS k⟩
noncomputable def laws_eqIntervalS.C (k : Nat) : Ctx := ⟨Tryz.prog, [(149, [laws_eqInterval.sg k])], k⟩
theorem laws_eqIntervalS.ev (k : Nat) (x : laws_eqIntervalS.A.T) : evFunc (laws_eqIntervalS.C k) laws_eqIntervalS.ann Tryz.f118 laws_eqIntervalS.A laws_eqIntervalS.R x = laws_eqIntervalS k x := by kernel_rfl
theorem laws_eqIntervalS.ok {L : List (Nat × Obj)}  (k : Nat) : SigHolds Tryz.prog L 118 (laws_eqIntervalS.sg k) :=
  sig_of_ev (C := laws_eqIntervalS.C k) (holds_cons (allok_cons (laws_eqInterval.ok k) allok_nil) holds_nil) (by kernel_rfl) Tryz.func118 (by kernel_rfl) laws_eqIntervalS.ann laws_eqIntervalS.A laws_eqIntervalS.R (fun x y h => (laws_eqIntervalS.ev k x).trans h) (by kernel_rfl)

/-! loop.example/g00719/laws.eqEnv -/
def laws_eqEnv.A : Sh := (.cons (.pur (.cons .bool (.cons (.sl false (.cons (.int .i64) (.cons (.int .i64) .nil))) (.cons (.sl false (.cons (.int .i64) (.cons (.int .i64) .nil))) .nil)))) (.cons (.pur (.cons .bool (.cons (.sl false (.cons (.int .i64) (.cons (.int .i64) .nil))) (.cons (.sl false (.cons (.int .i64) (.cons (.int .i64) .nil))) .nil)))) .nil))
def laws_eqEnv.R : Sh := (.cons (.pur .bool) .nil)
def laws_eqEnv.ann : Ann := { loops := [], joins := [], keys := [] }
noncomputable def laws_eqEnv (k : Nat) : ((Bool × (List (Int × Int × Unit)) × (List (Int × Int × Unit)) × Unit) × (Bool × (List (Int × Int × Unit)) × (List (Int × Int × Unit)) × Unit) × Unit) → Option ((Bool × Unit) × (Unit × Unit × Unit)) := fun x => match x with
 | (a, b_, ()) =>
  br k (!(a.1 == b_.1))
  (some ((false, ()), ((), (), ())))
  (bd k (laws_eqIntervalS k (a.2.1, b_.2.1, ())) fun y1 =>
  br k (!y1.1.1)
  (some ((false, ()), ((), (), ())))
  (bd k (laws_eqIntervalS k (a.2.2.1, b_.2.2.1, ())) fun y2 =>
  br k (!y2.1.1)
  (some ((false, ()), ((), (), ())))
  (some ((true, ()), ((), (), ())))))
noncomputable def laws_eqEnv.sg (k : Nat) : Sig := ⟨laws_eqEnv.A, laws_eqEnv.R, laws_eqEnv k⟩
noncomputable def laws_eqEnv.C (k : Nat) : Ctx := ⟨Tryz.prog, [(118, [laws_eqIntervalS.sg k])], k⟩
theorem laws_eqEnv.ev (k : Nat) (x : laws_eqEnv.A.T) : evFunc (laws_eqEnv.C k) laws_eqEnv.ann Tryz.f86 laws_eqEnv.A laws_eqEnv.R x = laws_eqEnv k x := by kernel_rfl
theorem laws_eqEnv.ok {L : List (Nat × Obj)}  (k : Nat) : SigHolds Tryz.prog L 86 (laws_eqEnv.sg k) :=
  sig_of_ev (C := laws_eqEnv.C k) (holds_cons (allok_cons (laws_eqIntervalS.ok k) allok_nil) holds_nil) (by kernel_rfl) Tryz.func86 (by kernel_rfl) laws_eqEnv.ann laws_eqEnv.A laws_eqEnv.R (fun x y h => (laws_eqEnv.ev k x).trans h) (by kernel_rfl)

/-! loop.example/g00719/laws.eqNode -/
def laws_eqNode.A : Sh := (.cons (.pur (.cons (.int .i64) (.cons (.int .i64) (.cons (.int .i64) (.cons .bool (.cons (.sl false (.cons (.int .i64) (.cons (.int .i64) .nil))) (.cons (.sl false (.cons (.int .i64) (.cons (.int .i64) .nil))) .nil))))))) (.cons (.pur (.cons (.int .i64) (.cons (.int .i64) (.cons (.int .i64) (.cons .bool (.cons (.sl false (.cons (.int .i64) (.cons (.int .i64) .nil))) (.cons (.sl false (.cons (.int .i64) (.cons (.int .i64) .nil))) .nil))))))) .nil))
def laws_eqNode.R : Sh := (.cons (.pur .bool) .nil)
def laws_eqNode.ann : Ann := { loops := [], joins := [], keys := [] }
noncomputable def laws_eqNode (k : Nat) : ((Int × Int × Int × Bool × (List (Int × Int × Unit)) × (List (Int × Int × Unit)) × Unit) × (Int × Int × Int × Bool × (List (Int × Int × Unit)) × (List (Int × Int × Unit)) × Unit) × Unit) → Option ((Bool × Unit) × (Unit × Unit × Unit)) := fun x => match x with
 | (a, b_, ()) =>
  br k (a.1 != b_.1)
  (some ((false, ()), ((), (), ())))
  (br k (a.2.1 != b_.2.1)
  (some ((false, ()), ((), (), ())))
  (br k (a.2.2.1 != b_.2.2.1)
  (some ((false, ()), ((), (), ())))
  (bd k (laws_eqEnv k ((a.2.2.2.1, a.2.2.2.2.1, a.2.2.2.2.2.1, ()), (b_.2.2.2.1, b_.2.2.2.2.1, b_.2.2.2.2.2.1, ()), ())) fun y1 =>
  br k (!y1.1.1)
  (some ((false, ()), ((), (), ())))
  (some ((true, ()), ((), (), ()))))))
noncomputable def laws_eqNode.sg (k : Nat) : Sig := ⟨laws_eqNode.A, laws_eqNode.R, laws_eqNode k⟩
noncomputable def laws_eqNode.C (k : Nat) : Ctx := ⟨Tryz.prog, [(86, [laws_eqEnv.sg k])], k⟩
theorem laws_eqNode.ev (k : Nat) (x : laws_eqNode.A.T) : evFunc (laws_eqNode.C k) laws_eqNode.ann Tryz.f51 laws_eqNode.A laws_eqNode.R x = laws_eqNode k x := by kernel_rfl
theorem laws_eqNode.ok {L : List (Nat × Obj)}  (k : Nat) : SigHolds Tryz.prog L 51 (laws_eqNode.sg k) :=
  sig_of_ev (C := laws_eqNode.C k) (holds_cons (allok_cons (laws_eqEnv.ok k) allok_nil) holds_nil) (by kernel_rfl) Tryz.func51 (by kernel_rfl) laws_eqNode.ann laws_eqNode.A laws_eqNode.R (fun x y h => (laws_eqNode.ev k x).trans h) (by kernel_rfl)

/-! loop.example/g00719/laws.eqNodeS -/
def laws_eqNodeS.A : Sh := (.cons (.pur (.sl false (.cons (.int .i64) (.cons (.int .i64) (.cons (.int .i64) (.cons .bool (.cons (.sl false (.cons (.int .i64) (.cons (.int .i64) .nil))) (.cons (.sl false (.cons (.int .i64) (.cons (.int .i64) .nil))) .nil)))))))) (.cons (.pur (.sl false (.cons (.int .i64) (.cons (.int .i64) (.cons (.int .i64) (.cons .bool (.cons (.sl false (.cons (.int .i64) (.cons (.int .i64) .nil))) (.cons (.sl false (.cons (.int .i64) (.cons (.int .i64) .nil))) .nil)))))))) .nil))
def laws_eqNodeS.R : Sh := (.cons (.pur .bool) .nil)
def laws_eqNodeS.ann : Ann := { loops := [(0, [(0, (.pur (.sl false (.cons (.int .i64) (.cons (.int .i64) (.cons (.int .i64) (.cons .bool (.cons (.sl false (.cons (.int .i64) (.cons (.int .i64) .nil))) (.cons (.sl false (.cons (.int .i64) (.cons (.int .i64) .nil))) .nil))))))))), (1, (.pur (.sl false (.cons (.int .i64) (.cons (.int .i64) (.cons (.int .i64) (.cons .bool (.cons (.sl false (.cons (.int .i64) (.cons (.int .i64) .nil))) (.cons (.sl false (.cons (.int .i64) (.cons (.int .i64) .nil))) .nil))))))))), (5, (.pur (.int .i64)))])], joins := [], keys := [] }
noncomputable def laws_eqNodeS.l0 (k : Nat)  (G0 : ((List (Int × Int × Int × Bool × (List (Int × Int × Unit)) × (List (Int × Int × Unit)) × Unit)) × (List (Int × Int × Int × Bool × (List (Int × Int × Unit)) × (List (Int × Int × Unit)) × Unit)) × Int × Unit) → Option ((Bool × Unit) × (Unit × Unit × Unit))) : ((List (Int × Int × Int × Bool × (List (Int × Int × Unit)) × (List (Int × Int × Unit)) × Unit)) × (List (Int × Int × Int × Bool × (List (Int × Int × Unit)) × (List (Int × Int × Unit)) × Unit)) × Int × Unit) → Option ((Bool × Unit) × (Unit × Unit × Unit)) := fun x => match x with
 | (a, b_, i, ()) =>
  br k (decide (i < (a.length : Int)))
  (br k (decide (0 ≤ i))
  (bd k (a[i.toNat]?) fun x1 =>
  br k (decide (0 ≤ i))
  (bd k (b_[i.toNat]?) fun x2 =>
  bd k (laws_eqNode k (x1, x2, ())) fun y3 =>
  br k (!y3.1.1)
  (some ((false, ()), ((), (), ())))
  (G0 (a, b_, IntKind.wrap .i64 (i + 1), ())))
  none)
  none)
  (some ((true, ()), ((), (), ())))
noncomputable def laws_eqNodeS (k : Nat) : ((List (Int × Int × Int × Bool × (List (Int × Int × Unit)) × (List (Int × Int × Unit)) × Unit)) × (List (Int × Int × Int × Bool × (List (Int × Int × Unit)) × (List (Int × Int × Unit)) × Unit)) × Unit) → Option ((Bool × Unit) × (Unit × Unit × Unit)) := fun x => match x with
 | (a, b_, ()) =>
  br k ((a.length : Int) != (b_.length : Int))
  (some ((false, ()), ((), (), ())))
  (iter (laws_eqNodeS.l0 k) k (a, b_, 0, ()))
noncomputable def laws_eqNodeS.sg (k : Nat) : Sig := ⟨laws_eqNodeS.A, laws_eqNodeS.R, laws_eqNodeS k⟩
noncomputable def laws_eqNodeS.C (k : Nat) : Ctx := ⟨Tryz.prog, [(51, [laws_eqNode.sg k])], k⟩
theorem laws_eqNodeS.ev (k : Nat) (x : laws_eqNodeS.A.T) : evFunc (laws_eqNodeS.C k) laws_eqNodeS.ann Tryz.f30 laws_eqNodeS.A laws_eqNodeS.R x = laws_eqNodeS k x := by kernel_rfl
theorem laws_eqNodeS.ok {L : List (Nat × Obj)}  (k : Nat) : SigHolds Tryz.prog L 30 (laws_eqNodeS.sg k) :=
  sig_of_ev (C := laws_eqNodeS.C k) (holds_cons (allok_cons (laws_eqNode.ok k) allok_nil) holds_nil) (by kernel_rfl) Tryz.func30 (by kernel_rfl) laws_eqNodeS.ann laws_eqNodeS.A laws_eqNodeS.R (fun x y h => (laws_eqNodeS.ev k x).trans h) (by kernel_rfl)

/-! loop.example/g00719/laws.eqTree -/
def laws_eqTree.A : Sh := (.cons (.pur (.cons (.sl false (.cons (.int .i64) (.cons (.int .i64) (.cons (.int .i64) (.cons .bool (.cons (.sl false (.cons (.int .i64) (.cons (.int .i64) .nil))) (.cons (.sl false (.cons (.int .i64) (.cons (.int .i64) .nil))) .nil))))))) .nil)) (.cons (.pur (.cons (.sl false (.cons (.int .i64) (.cons (.int .i64) (.cons (.int .i64) (.cons .bool (.cons (.sl false (.cons (.int .i64) (.cons (.int .i64) .nil))) (.cons (.sl false (.cons (.int .i64) (.cons (.int .i64) .nil))) .nil))))))) .nil)) .nil))
def laws_eqTree.R : Sh := (.cons (.pur .bool) .nil)
def laws_eqTree.ann : Ann := { loops := [], joins := [], keys := [] }
noncomputable def laws_eqTree (k : Nat) : (((List (Int × Int × Int × Bool × (List (Int × Int × Unit)) × (List (Int × Int × Unit)) × Unit)) × Unit) × ((List (Int × Int × Int × Bool × (List (Int × Int × Unit)) × (List (Int × Int × Unit)) × Unit)) × Unit) × Unit) → Option ((Bool × Unit) × (Unit × Unit × Unit)) := fun x => match x with
 | (a, b_, ()) =>
  bd k (laws_eqNodeS k (a.1, b_.1, ())) fun y1 =>
  br k (!y1.1.1)
  (some ((false, ()), ((), (), ())))
  (some ((true, ()), ((), (), ())))
noncomputable def laws_eqTree.sg (k : Nat) : Sig := ⟨laws_eqTree.A, laws_eqTree.R, laws_eqTree k⟩
noncomputable def laws_eqTree.C (k : Nat) : Ctx := ⟨Tryz.prog, [(30, [laws_eqNodeS.sg k])], k⟩
theorem laws_eqTree.ev (k : Nat) (x : laws_eqTree.A.T) : evFunc (laws_eqTree.C k) laws_eqTree.ann Tryz.f12 laws_eqTree.A laws_eqTree.R x = laws_eqTree k x := by kernel_rfl
theorem laws_eqTree.ok {L : List (Nat × Obj)}  (k : Nat) : SigHolds Tryz.prog L 12 (laws_eqTree.sg k) :=
  sig_of_ev (C := laws_eqTree.C k) (holds_cons (allok_cons (laws_eqNodeS.ok k) allok_nil) holds_nil) (by kernel_rfl) Tryz.func12 (by kernel_rfl) laws_eqTree.ann laws_eqTree.A laws_eqTree.R (fun x y h => (laws_eqTree.ev k x).trans h) (by kernel_rfl)

/-! loop.example/g00719/laws.FnExactTreeText -/
def laws_FnExactTreeText.A : Sh := (.cons (.pur (.cons (.sl false .str) (.cons (.sl false .str) (.cons (.sl false (.cons .str (.cons (.int .i64) .nil))) .nil)))) (.cons (.pur (.cons (.sl false (.cons (.int .i64) (.cons (.int .i64) (.cons (.int .i64) (.cons .bool (.cons (.sl false (.cons (.int .i64) (.cons (.int .i64) .nil))) (.cons (.sl false (.cons (.int .i64) (.cons (.int .i64) .nil))) .nil))))))) .nil)) .nil))
def laws_FnExactTreeText.R : Sh := (.cons (.pur .bool) .nil)
def laws_FnExactTreeText.ann : Ann := { loops := [], joins := [], keys := [(8, [([2], false), ([21], true), ([3], false), ([23], true), ([21, 23], false), ([], false)]), (14, [([7, 26], false), ([2], false), ([37], true), ([26, 37], false), ([], false)]), (16, [([8, 28], false), ([3], false), ([42], true), ([28, 42], false), ([], false)])] }
noncomputable def laws_FnExactTreeText (k : Nat) : (((List (List UInt8)) × (List (List UInt8)) × (List ((List UInt8) × Int × Unit)) × Unit) × ((List (Int × Int × Int × Bool × (List (Int × Int × Unit)) × (List (Int × Int × Unit)) × Unit)) × Unit) × Unit) → Option ((Bool × Unit) × (Unit × Unit × Unit)) := fun x => match x with
 | (aD, aT, ()) =>
  bd k (laws_szDecl k (aD, 1048576, ())) fun y1 =>
  br k (decide (y1.1.1 < 0))
  (some ((true, ()), ((), (), ())))
  (bd k (laws_szTree k (aT, y1.1.1, ())) fun y2 =>
  br k (decide (y2.1.1 < 0))
  (some ((true, ()), ((), (), ())))
  (bd k (laws_toDecl k (aD, ())) fun y3 =>
  bd k (laws_toTree k (aT, ())) fun y4 =>
  bd k (spec_TreeText k ((y3.1.1.1, y3.1.1.2.1, y3.1.1.2.2.1, ()), (y4.1.1.1, ()), ())) fun y5 =>
  bd k (laws_toDecl k (aD, ())) fun y6 =>
  bd k (laws_toTree k (aT, ())) fun y7 =>
  bd k (impl_TreeText k ((y6.1.1.1, y6.1.1.2.1, y6.1.1.2.2.1, ()), (y7.1.1.1, ()), ())) fun y8 =>
  br k (!(y8.1.1 == y5.1.1))
  (some ((false, ()), ((), (), ())))
  (bd k (laws_toDecl k (aD, ())) fun y9 =>
  bd k (laws_eqDecl k ((y6.1.1.1, y6.1.1.2.1, y6.1.1.2.2.1, ()), (y9.1.1.1, y9.1.1.2.1, y9.1.1.2.2.1, ()), ())) fun y10 =>
  br k (!y10.1.1)
  (some ((false, ()), ((), (), ())))
  (bd k (laws_toTree k (aT, ())) fun y11 =>
  bd k (laws_eqTree k ((y7.1.1.1, ()), (y11.1.1.1, ()), ())) fun y12 =>
  br k (!y12.1.1)
  (some ((false, ()), ((), (), ())))
  (some ((true, ()), ((), (), ())))))))
noncomputable def laws_FnExactTreeText.sg (k : Nat) : Sig := ⟨laws_FnExactTreeText.A, laws_FnExactTreeText.R, laws_FnExactTreeText k⟩
noncomputable def laws_FnExactTreeText.C (k : Nat) : Ctx := ⟨Tryz.prog, [(5, [laws_szDecl.sg k]), (6, [laws_szTree.sg k]), (8, [laws_toDecl.sg k]), (9, [laws_toTree.sg k]), (7, [spec_TreeText.sg k]), (10, [impl_TreeText.sg k]), (11, [laws_eqDecl.sg k]), (12, [laws_eqTree.sg k])], k⟩
theorem laws_FnExactTreeText.ev (k : Nat) (x : laws_FnExactTreeText.A.T) : evFunc (laws_FnExactTreeText.C k) laws_FnExactTreeText.ann Tryz.f3 laws_FnExactTreeText.A laws_FnExactTreeText.R x = laws_FnExactTreeText k x := by kernel_rfl
theorem laws_FnExactTreeText.ok {L : List (Nat × Obj)} (hFmt : Lb.NeedFmt L) (hSp : Lb.NeedSp L) (k : Nat) : SigHolds Tryz.prog L 3 (laws_FnExactTreeText.sg k) :=
  sig_of_ev (C := laws_FnExactTreeText.C k) (holds_cons (allok_cons (laws_szDecl.ok k) allok_nil) (holds_cons (allok_cons (laws_szTree.ok k) allok_nil) (holds_cons (allok_cons (laws_toDecl.ok k) allok_nil) (holds_cons (allok_cons (laws_toTree.ok k) allok_nil) (holds_cons (allok_cons (spec_TreeText.ok k) allok_nil) (holds_cons (allok_cons (impl_TreeText.ok hFmt hSp k) allok_nil) (holds_cons (allok_cons (laws_eqDecl.ok k) allok_nil) (holds_cons (allok_cons (laws_eqTree.ok k) allok_nil) holds_nil)))))))) (by kernel_rfl) Tryz.func3 (by kernel_rfl) laws_FnExactTreeText.ann laws_FnExactTreeText.A laws_FnExactTreeText.R (fun x y h => (laws_FnExactTreeText.ev k x).trans h) (by kernel_rfl)

/-! loop.example/g00719/laws.szEntryS -/
def laws_szEntryS.A : Sh := (.cons (.pur (.sl false (.cons (.int .i64) (.cons (.int .i64) .nil)))) (.cons (.pur (.int .i64)) .nil))
def laws_szEntryS.R : Sh := (.cons (.pur (.int .i64)) .nil)
def laws_szEntryS.ann : Ann := { loops := [], joins := [], keys := [] }
noncomputable def laws_szEntryS (k : Nat) : ((List (Int × Int × Unit)) × Int × Unit) → Option ((Int × Unit) × (Unit × Unit × Unit)) := fun x => match x with
 | (a, left, ()) =>
  br k (decide ((IntKind.wrap .i64 (left - (a.length : Int))) < 0))
  (some (((-1), ()), ((), (), ())))
  (some ((IntKind.wrap .i64 (left - (a.length : Int)), ()), ((), (), ())))
noncomputable def laws_szEntryS.sg (k : Nat) : Sig := ⟨laws_szEntryS.A, laws_szEntryS.R, laws_szEntryS k⟩
noncomputable def laws_szEntryS.C (k : Nat) : Ctx := ⟨Tryz.prog, [], k⟩
theorem laws_szEntryS.ev (k : Nat) (x : laws_szEntryS.A.T) : evFunc (laws_szEntryS.C k) laws_szEntryS.ann Tryz.f52 laws_szEntryS.A laws_szEntryS.R x = laws_szEntryS k x := by kernel_rfl
theorem laws_szEntryS.ok {L : List (Nat × Obj)}  (k : Nat) : SigHolds Tryz.prog L 52 (laws_szEntryS.sg k) :=
  sig_of_ev (C := laws_szEntryS.C k) holds_nil (by kernel_rfl) Tryz.func52 (by kernel_rfl) laws_szEntryS.ann laws_szEntryS.A laws_szEntryS.R (fun x y h => (laws_szEntryS.ev k x).trans h) (by kernel_rfl)

/-! loop.example/g00719/laws.szEnvS -/
def laws_szEnvS.A : Sh := (.cons (.pur (.sl false (.cons .bool (.cons (.sl false (.cons (.int .i64) (.cons (.int .i64) .nil))) (.cons (.sl false (.cons (.int .i64) (.cons (.int .i64) .nil))) .nil))))) (.cons (.pur (.int .i64)) .nil))
def laws_szEnvS.R : Sh := (.cons (.pur (.int .i64)) .nil)
def laws_szEnvS.ann : Ann := { loops := [(0, [(0, (.pur (.sl false (.cons .bool (.cons (.sl false (.cons (.int .i64) (.cons (.int .i64) .nil))) (.cons (.sl false (.cons (.int .i64) (.cons (.int .i64) .nil))) .nil)))))), (1, (.pur (.int .i64))), (5, (.pur (.int .i64)))])], joins := [], keys := [] }
noncomputable def laws_szEnvS.l0 (k : Nat)  (G0 : ((List (Bool × (List (Int × Int × Unit)) × (List (Int × Int × Unit)) × Unit)) × Int × Int × Unit) → Option ((Int × Unit) × (Unit × Unit × Unit))) : ((List (Bool × (List (Int × Int × Unit)) × (List (Int × Int × Unit)) × Unit)) × Int × Int × Unit) → Option ((Int × Unit) × (Unit × Unit × Unit)) := fun x => match x with
 | (a, left, i, ()) =>
  br k (decide (i < (a.length : Int)))
  (br k (decide (0 ≤ i))
  (bd k (a[i.toNat]?) fun x1 =>
  bd k (laws_szEnv k (x1, left, ())) fun y2 =>
  br k (decide (y2.1.1 < 0))
  (some (((-1), ()), ((), (), ())))
  (G0 (a, y2.1.1, IntKind.wrap .i64 (i + 1), ())))
  none)
  (some ((left, ()), ((), (), ())))
noncomputable def laws_szEnvS (k : Nat) : ((List (Bool × (List (Int × Int × Unit)) × (List (Int × Int × Unit)) × Unit)) × Int × Unit) → Option ((Int × Unit) × (Unit × Unit × Unit)) := fun x => match x with
 | (a, left, ()) =>
  br k (decide ((IntKind.wrap .i64 (left - (a.length : Int))) < 0))
  (some (((-1), ()), ((), (), ())))
  (iter (laws_szEnvS.l0 k) k (a, IntKind.wrap .i64 (left - (a.length : Int)), 0, ()))
noncomputable def laws_szEnvS.sg (k : Nat) : Sig := ⟨laws_szEnvS.A, laws_szEnvS.R, laws_szEnvS k⟩
noncomputable def laws_szEnvS.C (k : Nat) : Ctx := ⟨Tryz.prog, [(72, [laws_szEnv.sg k])], k⟩
theorem laws_szEnvS.ev (k : Nat) (x : laws_szEnvS.A.T) : evFunc (laws_szEnvS.C k) laws_szEnvS.ann Tryz.f53 laws_szEnvS.A laws_szEnvS.R x = laws_szEnvS k x := by kernel_rfl
theorem laws_szEnvS.ok {L : List (Nat × Obj)}  (k : Nat) : SigHolds Tryz.prog L 53 (laws_szEnvS.sg k) :=
  sig_of_ev (C := laws_szEnvS.C k) (holds_cons (allok_cons (laws_szEnv.ok k) allok_nil) holds_nil) (by kernel_rfl) Tryz.func53 (by kernel_rfl) laws_szEnvS.ann laws_szEnvS.A laws_szEnvS.R (fun x y h => (laws_szEnvS.ev k x).trans h) (by kernel_rfl)

/-! loop.example/g00719/laws.szPart -/
def laws_szPart.A : Sh := (.cons (.pur (.cons (.sl false (.cons (.int .i64) (.cons (.int .i64) .nil))) (.cons (.sl false (.cons .bool (.cons (.sl false (.cons (.int .i64) (.cons (.int .i64) .nil))) (.cons (.sl false (.cons (.int .i64) (.cons (.int .i64) .nil))) .nil)))) .nil))) (.cons (.pur (.int .i64)) .nil))
def laws_szPart.R : Sh := (.cons (.pur (.int .i64)) .nil)
def laws_szPart.ann : Ann := { loops := [], joins := [], keys := [] }
noncomputable def laws_szPart (k : Nat) : (((List (Int × Int × Unit)) × (List (Bool × (List (Int × Int × Unit)) × (List (Int × Int × Unit)) × Unit)) × Unit) × Int × Unit) → Option ((Int × Unit) × (Unit × Unit × Unit)) := fun x => match x with
 | (a, left, ()) =>
  bd k (laws_szEntryS k (a.1, left, ())) fun y1 =>
  br k (decide (y1.1.1 < 0))
  (some (((-1), ()), ((), (), ())))
  (bd k (laws_szEnvS k (a.2.1, y1.1.1, ())) fun y2 =>
  br k (decide (y2.1.1 < 0))
  (some (((-1), ()), ((), (), ())))
  (some ((y2.1.1, ()), ((), (), ()))))
noncomputable def laws_szPart.sg (k : Nat) : Sig := ⟨laws_szPart.A, laws_szPart.R, laws_szPart k⟩
noncomputable def laws_szPart.C (k : Nat) : Ctx := ⟨Tryz.prog, [(52, [laws_szEntryS.sg k]), (53, [laws_szEnvS.sg k])], k⟩
theorem laws_szPart.ev (k : Nat) (x : laws_szPart.A.T) : evFunc (laws_szPart.C k) laws_szPart.ann Tryz.f31 laws_szPart.A laws_szPart.R x = laws_szPart k x := by kernel_rfl
theorem laws_szPart.ok {L : List (Nat × Obj)}  (k : Nat) : SigHolds Tryz.prog L 31 (laws_szPart.sg k) :=
  sig_of_ev (C := laws_szPart.C k) (holds_cons (allok_cons (laws_szEntryS.ok k) allok_nil) (holds_cons (allok_cons (laws_szEnvS.ok k) allok_nil) holds_nil)) (by kernel_rfl) Tryz.func31 (by kernel_rfl) laws_szPart.ann laws_szPart.A laws_szPart.R (fun x y h => (laws_szPart.ev k x).trans h) (by kernel_rfl)

/-! loop.example/g00719/laws.szPartS -/
def laws_szPartS.A : Sh := (.cons (.pur (.sl false (.cons (.sl false (.cons (.int .i64) (.cons (.int .i64) .nil))) (.cons (.sl false (.cons .bool (.cons (.sl false (.cons (.int .i64) (.cons (.int .i64) .nil))) (.cons (.sl false (.cons (.int .i64) (.cons (.int .i64) .nil))) .nil)))) .nil)))) (.cons (.pur (.int .i64)) .nil))
def laws_szPartS.R : Sh := (.cons (.pur (.int .i64)) .nil)
def laws_szPartS.ann : Ann := { loops := [(0, [(0, (.pur (.sl false (.cons (.sl false (.cons (.int .i64) (.cons (.int .i64) .nil))) (.cons (.sl false (.cons .bool (.cons (.sl false (.cons (.int .i64) (.cons (.int .i64) .nil))) (.cons (.sl false (.cons (.int .i64) (.cons (.int .i64) .nil))) .nil)))) .nil))))), (1, (.pur (.int .i64))), (5, (.pur (.int .i64)))])], joins := [], keys := [] }
noncomputable def laws_szPartS.l0 (k : Nat)  (G0 : ((List ((List (Int × Int × Unit)) × (List (Bool × (List (Int × Int × Unit)) × (List (Int × Int × Unit)) × Unit)) × Unit)) × Int × Int × Unit) → Option ((Int × Unit) × (Unit × Unit × Unit))) : ((List ((List (Int × Int × Unit)) × (List (Bool × (List (Int × Int × Unit)) × (List (Int × Int × Unit)) × Unit)) × Unit)) × Int × Int × Unit) → Option ((Int × Unit) × (Unit × Unit × Unit)) := fun x => match x with
 | (a, left, i, ()) =>
  br k (decide (i < (a.length : Int)))
  (br k (decide (0 ≤ i))
  (bd k (a[i.toNat]?) fun x1 =>
  bd k (laws_szPart k (x1, left, ())) fun y2 =>
  br k (decide (y2.1.1 < 0))
  (some (((-1), ()), ((), (), ())))
  (G0 (a, y2.1.1, IntKind.wrap .i64 (i + 1), ())))
  none)
  (some ((left, ()), ((), (), ())))
noncomputable def laws_szPartS (k : Nat) : ((List ((List (Int × Int × Unit)) × (List (Bool × (List (Int × Int × Unit)) × (List (Int × Int × Unit)) × Unit)) × Unit)) × Int × Unit) → Option ((Int × Unit) × (Unit × Unit × Unit)) := fun x => match x with
 | (a, left, ()) =>
  br k (decide ((IntKind.wrap .i64 (left - (a.length : Int))) < 0))
  (some (((-1), ()), ((), (), ())))
  (iter (laws_szPartS.l0 k) k (a, IntKind.wrap .i64 (left - (a.length : Int)), 0, ()))
noncomputable def laws_szPartS.sg (k : Nat) : Sig := ⟨laws_szPartS.A, laws_szPartS.R, laws_szPartS k⟩
noncomputable def laws_szPartS.C (k : Nat) : Ctx := ⟨Tryz.prog, [(31, [laws_szPart.sg k])], k⟩
theorem laws_szPartS.ev (k : Nat) (x : laws_szPartS.A.T) : evFunc (laws_szPartS.C k) laws_szPartS.ann Tryz.f13 laws_szPartS.A laws_szPartS.R x = laws_szPartS k x := by kernel_rfl
theorem laws_szPartS.ok {L : List (Nat × Obj)}  (k : Nat) : SigHolds Tryz.prog L 13 (laws_szPartS.sg k) :=
  sig_of_ev (C := laws_szPartS.C k) (holds_cons (allok_cons (laws_szPart.ok k) allok_nil) holds_nil) (by kernel_rfl) Tryz.func13 (by kernel_rfl) laws_szPartS.ann laws_szPartS.A laws_szPartS.R (fun x y h => (laws_szPartS.ev k x).trans h) (by kernel_rfl)

/-! loop.example/g00719/laws.toEntry -/
def laws_toEntry.A : Sh := (.cons (.pur (.cons (.int .i64) (.cons (.int .i64) .nil))) .nil)
def laws_toEntry.R : Sh := (.cons (.pur (.cons (.int .i64) (.cons (.int .i64) .nil))) .nil)
def laws_toEntry.ann : Ann := { loops := [], joins := [], keys := [] }
noncomputable def laws_toEntry (k : Nat) : ((Int × Int × Unit) × Unit) → Option (((Int × Int × Unit) × Unit) × (Unit × Unit)) := fun x => match x with
 | (a, ()) =>
  some ((a, ()), ((), ()))
noncomputable def laws_toEntry.sg (k : Nat) : Sig := ⟨laws_toEntry.A, laws_toEntry.R, laws_toEntry k⟩
noncomputable def laws_toEntry.C (k : Nat) : Ctx := ⟨Tryz.prog, [], k⟩
theorem laws_toEntry.ev (k : Nat) (x : laws_toEntry.A.T) : evFunc (laws_toEntry.C k) laws_toEntry.ann Tryz.f93 laws_toEntry.A laws_toEntry.R x = laws_toEntry k x := by kernel_rfl
theorem laws_toEntry.ok {L : List (Nat × Obj)}  (k : Nat) : SigHolds Tryz.prog L 93 (laws_toEntry.sg k) :=
  sig_of_ev (C := laws_toEntry.C k) holds_nil (by kernel_rfl) Tryz.func93 (by kernel_rfl) laws_toEntry.ann laws_toEntry.A laws_toEntry.R (fun x y h => (laws_toEntry.ev k x).trans h) (by kernel_rfl)

/-! loop.example/g00719/laws.toEntryS -/
def laws_toEntryS.A : Sh := (.cons (.pur (.sl false (.cons (.int .i64) (.cons (.int .i64) .nil)))) .nil)
def laws_toEntryS.R : Sh := (.cons (.own (.cons (.int .i64) (.cons (.int .i64) .nil))) .nil)
def laws_toEntryS.ann : Ann := { loops := [(0, [(0, (.pur (.sl false (.cons (.int .i64) (.cons (.int .i64) .nil))))), (3, (.own (.cons (.int .i64) (.cons (.int .i64) .nil)))), (4, (.pur (.int .i64)))])], joins := [], keys := [] }
noncomputable def laws_toEntryS.l0 (k : Nat)  (G0 : ((List (Int × Int × Unit)) × (List (Int × Int × Unit)) × Int × Unit) → Option (((List (Int × Int × Unit)) × Unit) × (Unit × Unit))) : ((List (Int × Int × Unit)) × (List (Int × Int × Unit)) × Int × Unit) → Option (((List (Int × Int × Unit)) × Unit) × (Unit × Unit)) := fun x => match x with
 | (a, out_, i, ()) =>
  br k (decide (i < (a.length : Int)))
  (br k (decide (0 ≤ i))
  (bd k (a[i.toNat]?) fun x1 =>
  bd k (laws_toEntry k (x1, ())) fun y2 =>
  br k (decide (0 ≤ i ∧ i < (out_.length : Int)))
  (bd k (out_[i.toNat]?) fun x3 =>
  G0 (a, out_.set i.toNat y2.1.1, IntKind.wrap .i64 (i + 1), ()))
  none)
  none)
  (some ((out_, ()), ((), ())))
noncomputable def laws_toEntryS (k : Nat) : ((List (Int × Int × Unit)) × Unit) → Option (((List (Int × Int × Unit)) × Unit) × (Unit × Unit)) := fun x => match x with
 | (a, ()) =>
  br k (decide (0 ≤ (a.length : Int) ∧ (a.length : Int) ≤ (a.length : Int) ∧ (a.length : Int) * 16 ≤ maxBytes))
  (iter (laws_toEntryS.l0 k) k (a, List.replicate (a.length : Int).toNat (Kd.z (.cons (.int .i64) (.cons (.int .i64) .nil))), 0, ()))
  none
noncomputable def laws_toEntryS.sg (k : Nat) : Sig := ⟨laws_toEntryS.A, laws_toEntryS.R, laws_toEntryS k⟩
noncomputable def laws_toEntryS.C (k : Nat) : Ctx := ⟨Tryz.prog, [(93, [laws_toEntry.sg k])], k⟩
theorem laws_toEntryS.ev (k : Nat) (x : laws_toEntryS.A.T) : evFunc (laws_toEntryS.C k) laws_toEntryS.ann Tryz.f62 laws_toEntryS.A laws_toEntryS.R x = laws_toEntryS k x := by kernel_rfl
theorem laws_toEntryS.ok {L : List (Nat × Obj)}  (k : Nat) : SigHolds Tryz.prog L 62 (laws_toEntryS.sg k) :=
  sig_of_ev (C := laws_toEntryS.C k) (holds_cons (allok_cons (laws_toEntry.ok k) allok_nil) holds_nil) (by kernel_rfl) Tryz.func62 (by kernel_rfl) laws_toEntryS.ann laws_toEntryS.A laws_toEntryS.R (fun x y h => (laws_toEntryS.ev k x).trans h) (by kernel_rfl)

/-! loop.example/g00719/laws.toEnvS -/
def laws_toEnvS.A : Sh := (.cons (.pur (.sl false (.cons .bool (.cons (.sl false (.cons (.int .i64) (.cons (.int .i64) .nil))) (.cons (.sl false (.cons (.int .i64) (.cons (.int .i64) .nil))) .nil))))) .nil)
def laws_toEnvS.R : Sh := (.cons (.own (.cons .bool (.cons (.sl false (.cons (.int .i64) (.cons (.int .i64) .nil))) (.cons (.sl false (.cons (.int .i64) (.cons (.int .i64) .nil))) .nil)))) .nil)
def laws_toEnvS.ann : Ann := { loops := [(0, [(0, (.pur (.sl false (.cons .bool (.cons (.sl false (.cons (.int .i64) (.cons (.int .i64) .nil))) (.cons (.sl false (.cons (.int .i64) (.cons (.int .i64) .nil))) .nil)))))), (3, (.own (.cons .bool (.cons (.sl false (.cons (.int .i64) (.cons (.int .i64) .nil))) (.cons (.sl false (.cons (.int .i64) (.cons (.int .i64) .nil))) .nil))))), (4, (.pur (.int .i64)))])], joins := [], keys := [] }
noncomputable def laws_toEnvS.l0 (k : Nat)  (G0 : ((List (Bool × (List (Int × Int × Unit)) × (List (Int × Int × Unit)) × Unit)) × (List (Bool × (List (Int × Int × Unit)) × (List (Int × Int × Unit)) × Unit)) × Int × Unit) → Option (((List (Bool × (List (Int × Int × Unit)) × (List (Int × Int × Unit)) × Unit)) × Unit) × (Unit × Unit))) : ((List (Bool × (List (Int × Int × Unit)) × (List (Int × Int × Unit)) × Unit)) × (List (Bool × (List (Int × Int × Unit)) × (List (Int × Int × Unit)) × Unit)) × Int × Unit) → Option (((List (Bool × (List (Int × Int × Unit)) × (List (Int × Int × Unit)) × Unit)) × Unit) × (Unit × Unit)) := fun x => match x with
 | (a, out_, i, ()) =>
  br k (decide (i < (a.length : Int)))
  (br k (decide (0 ≤ i))
  (bd k (a[i.toNat]?) fun x1 =>
  bd k (laws_toEnv k (x1, ())) fun y2 =>
  br k (decide (0 ≤ i ∧ i < (out_.length : Int)))
  (bd k (out_[i.toNat]?) fun x3 =>
  G0 (a, out_.set i.toNat (y2.1.1.1, y2.1.1.2.1, y2.1.1.2.2.1, ()), IntKind.wrap .i64 (i + 1), ()))
  none)
  none)
  (some ((out_, ()), ((), ())))
noncomputable def laws_toEnvS (k : Nat) : ((List (Bool × (List (Int × Int × Unit)) × (List (Int × Int × Unit)) × Unit)) × Unit) → Option (((List (Bool × (List (Int × Int × Unit)) × (List (Int × Int × Unit)) × Unit)) × Unit) × (Unit × Unit)) := fun x => match x with
 | (a, ()) =>
  br k (decide (0 ≤ (a.length : Int) ∧ (a.length : Int) ≤ (a.length : Int) ∧ (a.length : Int) * 56 ≤ maxBytes))
  (iter (laws_toEnvS.l0 k) k (a, List.replicate (a.length : Int).toNat (Kd.z (.cons .bool (.cons (.sl false (.cons (.int .i64) (.cons (.int .i64) .nil))) (.cons (.sl false (.cons (.int .i64) (.cons (.int .i64) .nil))) .nil)))), 0, ()))
  none
noncomputable def laws_toEnvS.sg (k : Nat) : Sig := ⟨laws_toEnvS.A, laws_toEnvS.R, laws_toEnvS k⟩
noncomputable def laws_toEnvS.C (k : Nat) : Ctx := ⟨Tryz.prog, [(78, [laws_toEnv.sg k])], k⟩
theorem laws_toEnvS.ev (k : Nat) (x : laws_toEnvS.A.T) : evFunc (laws_toEnvS.C k) laws_toEnvS.ann Tryz.f63 laws_toEnvS.A laws_toEnvS.R x = laws_toEnvS k x := by kernel_rfl
theorem laws_toEnvS.ok {L : List (Nat × Obj)}  (k : Nat) : SigHolds Tryz.prog L 63 (laws_toEnvS.sg k) :=
  sig_of_ev (C := laws_toEnvS.C k) (holds_cons (allok_cons (laws_toEnv.ok k) allok_nil) holds_nil) (by kernel_rfl) Tryz.func63 (by kernel_rfl) laws_toEnvS.ann laws_toEnvS.A laws_toEnvS.R (fun x y h => (laws_toEnvS.ev k x).trans h) (by kernel_rfl)

/-! loop.example/g00719/laws.toPart -/
def laws_toPart.A : Sh := (.cons (.pur (.cons (.sl false (.cons (.int .i64) (.cons (.int .i64) .nil))) (.cons (.sl false (.cons .bool (.cons (.sl false (.cons (.int .i64) (.cons (.int .i64) .nil))) (.cons (.sl false (.cons (.int .i64) (.cons (.int .i64) .nil))) .nil)))) .nil))) .nil)
def laws_toPart.R : Sh := (.cons (.agg (.cons (.own (.cons (.int .i64) (.cons (.int .i64) .nil))) (.cons (.own (.cons .bool (.cons (.sl false (.cons (.int .i64) (.cons (.int .i64) .nil))) (.cons (.sl false (.cons (.int .i64) (.cons (.int .i64) .nil))) .nil)))) .nil))) .nil)
def laws_toPart.ann : Ann := { loops := [], joins := [], keys := [] }
noncomputable def laws_toPart (k : Nat) : (((List (Int × Int × Unit)) × (List (Bool × (List (Int × Int × Unit)) × (List (Int × Int × Unit)) × Unit)) × Unit) × Unit) → Option ((((List (Int × Int × Unit)) × (List (Bool × (List (Int × Int × Unit)) × (List (Int × Int × Unit)) × Unit)) × Unit) × Unit) × (Unit × Unit)) := fun x => match x with
 | (a, ()) =>
  bd k (laws_toEntryS k (a.1, ())) fun y1 =>
  bd k (laws_toEnvS k (a.2.1, ())) fun y2 =>
  some (((y1.1.1, y2.1.1, ()), ()), ((), ()))
noncomputable def laws_toPart.sg (k : Nat) : Sig := ⟨laws_toPart.A, laws_toPart.R, laws_toPart k⟩
noncomputable def laws_toPart.C (k : Nat) : Ctx := ⟨Tryz.prog, [(62, [laws_toEntryS.sg k]), (63, [laws_toEnvS.sg k])], k⟩
theorem laws_toPart.ev (k : Nat) (x : laws_toPart.A.T) : evFunc (laws_toPart.C k) laws_toPart.ann Tryz.f34 laws_toPart.A laws_toPart.R x = laws_toPart k x := by kernel_rfl
theorem laws_toPart.ok {L : List (Nat × Obj)}  (k : Nat) : SigHolds Tryz.prog L 34 (laws_toPart.sg k) :=
  sig_of_ev (C := laws_toPart.C k) (holds_cons (allok_cons (laws_toEntryS.ok k) allok_nil) (holds_cons (allok_cons (laws_toEnvS.ok k) allok_nil) holds_nil)) (by kernel_rfl) Tryz.func34 (by kernel_rfl) laws_toPart.ann laws_toPart.A laws_toPart.R (fun x y h => (laws_toPart.ev k x).trans h) (by kernel_rfl)

/-! loop.example/g00719/laws.toPartS -/
def laws_toPartS.A : Sh := (.cons (.pur (.sl false (.cons (.sl false (.cons (.int .i64) (.cons (.int .i64) .nil))) (.cons (.sl false (.cons .bool (.cons (.sl false (.cons (.int .i64) (.cons (.int .i64) .nil))) (.cons (.sl false (.cons (.int .i64) (.cons (.int .i64) .nil))) .nil)))) .nil)))) .nil)
def laws_toPartS.R : Sh := (.cons (.own (.cons (.sl false (.cons (.int .i64) (.cons (.int .i64) .nil))) (.cons (.sl false (.cons .bool (.cons (.sl false (.cons (.int .i64) (.cons (.int .i64) .nil))) (.cons (.sl false (.cons (.int .i64) (.cons (.int .i64) .nil))) .nil)))) .nil))) .nil)
def laws_toPartS.ann : Ann := { loops := [(0, [(0, (.pur (.sl false (.cons (.sl false (.cons (.int .i64) (.cons (.int .i64) .nil))) (.cons (.sl false (.cons .bool (.cons (.sl false (.cons (.int .i64) (.cons (.int .i64) .nil))) (.cons (.sl false (.cons (.int .i64) (.cons (.int .i64) .nil))) .nil)))) .nil))))), (3, (.own (.cons (.sl false (.cons (.int .i64) (.cons (.int .i64) .nil))) (.cons (.sl false (.cons .bool (.cons (.sl false (.cons (.int .i64) (.cons (.int .i64) .nil))) (.cons (.sl false (.cons (.int .i64) (.cons (.int .i64) .nil))) .nil)))) .nil)))), (4, (.pur (.int .i64)))])], joins := [], keys := [] }
noncomputable def laws_toPartS.l0 (k : Nat)  (G0 : ((List ((List (Int × Int × Unit)) × (List (Bool × (List (Int × Int × Unit)) × (List (Int × Int × Unit)) × Unit)) × Unit)) × (List ((List (Int × Int × Unit)) × (List (Bool × (List (Int × Int × Unit)) × (List (Int × Int × Unit)) × Unit)) × Unit)) × Int × Unit) → Option (((List ((List (Int × Int × Unit)) × (List (Bool × (List (Int × Int × Unit)) × (List (Int × Int × Unit)) × Unit)) × Unit)) × Unit) × (Unit × Unit))) : ((List ((List (Int × Int × Unit)) × (List (Bool × (List (Int × Int × Unit)) × (List (Int × Int × Unit)) × Unit)) × Unit)) × (List ((List (Int × Int × Unit)) × (List (Bool × (List (Int × Int × Unit)) × (List (Int × Int × Unit)) × Unit)) × Unit)) × Int × Unit) → Option (((List ((List (Int × Int × Unit)) × (List (Bool × (List (Int × Int × Unit)) × (List (Int × Int × Unit)) × Unit)) × Unit)) × Unit) × (Unit × Unit)) := fun x => match x with
 | (a, out_, i, ()) =>
  br k (decide (i < (a.length : Int)))
  (br k (decide (0 ≤ i))
  (bd k (a[i.toNat]?) fun x1 =>
  bd k (laws_toPart k (x1, ())) fun y2 =>
  br k (decide (0 ≤ i ∧ i < (out_.length : Int)))
  (bd k (out_[i.toNat]?) fun x3 =>
  G0 (a, out_.set i.toNat y2.1.1, IntKind.wrap .i64 (i + 1), ()))
  none)
  none)
  (some ((out_, ()), ((), ())))
noncomputable def laws_toPartS (k : Nat) : ((List ((List (Int × Int × Unit)) × (List (Bool × (List (Int × Int × Unit)) × (List (Int × Int × Unit)) × Unit)) × Unit)) × Unit) → Option (((List ((List (Int × Int × Unit)) × (List (Bool × (List (Int × Int × Unit)) × (List (Int × Int × Unit)) × Unit)) × Unit)) × Unit) × (Unit × Unit)) := fun x => match x with
 | (a, ()) =>
  br k (decide (0 ≤ (a.length : Int) ∧ (a.length : Int) ≤ (a.length : Int) ∧ (a.length : Int) * 48 ≤ maxBytes))
  (iter (laws_toPartS.l0 k) k (a, List.replicate (a.length : Int).toNat (Kd.z (.cons (.sl false (.cons (.int .i64) (.cons (.int .i64) .nil))) (.cons (.sl false (.cons .bool (.cons (.sl false (.cons (.int .i64) (.cons (.int .i64) .nil))) (.cons (.sl false (.cons (.int .i64) (.cons (.int .i64) .nil))) .nil)))) .nil))), 0, ()))
  none
noncomputable def laws_toPartS.sg (k : Nat) : Sig := ⟨laws_toPartS.A, laws_toPartS.R, laws_toPartS k⟩
noncomputable def laws_toPartS.C (k : Nat) : Ctx := ⟨Tryz.prog, [(34, [laws_toPart.sg k])], k⟩
theorem laws_toPartS.ev (k : Nat) (x : laws_toPartS.A.T) : evFunc (laws_toPartS.C k) laws_toPartS.ann Tryz.f15 laws_toPartS.A laws_toPartS.R x = laws_toPartS k x := by kernel_rfl
theorem laws_toPartS.ok {L : List (Nat × Obj)}  (k : Nat) : SigHolds Tryz.prog L 15 (laws_toPartS.sg k) :=
  sig_of_ev (C := laws_toPartS.C k) (holds_cons (allok_cons (laws_toPart.ok k) allok_nil) holds_nil) (by kernel_rfl) Tryz.func15 (by kernel_rfl) laws_toPartS.ann laws_toPartS.A laws_toPartS.R (fun x y h => (laws_toPartS.ev k x).trans h) (by kernel_rfl)

/-! loop.example/g00719/spec.TokenOk -/
def spec_TokenOk.A : Sh := (.cons (.pur (.sl false (.cons (.int .i64) (.cons (.int .i64) .nil)))) .nil)
def spec_TokenOk.R : Sh := (.cons (.pur .bool) .nil)
def spec_TokenOk.ann : Ann := { loops := [(0, [(0, (.pur (.sl false (.cons (.int .i64) (.cons (.int .i64) .nil))))), (3, (.pur (.int .i64)))])], joins := [(6, [(28, .bool)])], keys := [] }
noncomputable def spec_TokenOk.l0 (k : Nat)  (G0 : ((List (Int × Int × Unit)) × Int × Unit) → Option ((Bool × Unit) × (Unit × Unit))) : ((List (Int × Int × Unit)) × Int × Unit) → Option ((Bool × Unit) × (Unit × Unit)) := fun x => match x with
 | (t, i, ()) =>
  br k (decide (i < (t.length : Int)))
  ((br k (decide (0 ≤ i))
  (bd k (t[i.toNat]?) fun x1 =>
  bd k (spec_l1In k (x1.1, 0, 29, ())) fun y2 =>
  br k (!y2.1.1)
  (some (true, ()))
  (br k (decide (0 ≤ i))
  (bd k (t[i.toNat]?) fun x3 =>
  bd k (spec_l1In k (x3.2.1, 0, 4, ())) fun y4 =>
  some (!y4.1.1, ()))
  none))
  none : Option (Bool × Unit)).bind fun j5 =>
  br k (j5.1)
  (some ((false, ()), ((), ())))
  (G0 (t, IntKind.wrap .i64 (i + 1), ())))
  (some ((true, ()), ((), ())))
noncomputable def spec_TokenOk (k : Nat) : ((List (Int × Int × Unit)) × Unit) → Option ((Bool × Unit) × (Unit × Unit)) := fun x => match x with
 | (t, ()) =>
  br k (decide ((t.length : Int) > 3))
  (some ((false, ()), ((), ())))
  (iter (spec_TokenOk.l0 k) k (t, 0, ()))
noncomputable def spec_TokenOk.sg (k : Nat) : Sig := ⟨spec_TokenOk.A, spec_TokenOk.R, spec_TokenOk k⟩
noncomputable def spec_TokenOk.C (k : Nat) : Ctx := ⟨Tryz.prog, [(87, [spec_l1In.sg k])], k⟩
theorem spec_TokenOk.ev (k : Nat) (x : spec_TokenOk.A.T) : evFunc (spec_TokenOk.C k) spec_TokenOk.ann Tryz.f55 spec_TokenOk.A spec_TokenOk.R x = spec_TokenOk k x := by kernel_rfl
theorem spec_TokenOk.ok {L : List (Nat × Obj)}  (k : Nat) : SigHolds Tryz.prog L 55 (spec_TokenOk.sg k) :=
  sig_of_ev (C := spec_TokenOk.C k) (holds_cons (allok_cons (spec_l1In.ok k) allok_nil) holds_nil) (by kernel_rfl) Tryz.func55 (by kernel_rfl) spec_TokenOk.ann spec_TokenOk.A spec_TokenOk.R (fun x y h => (spec_TokenOk.ev k x).trans h) (by kernel_rfl)

end Go.Pev.F
