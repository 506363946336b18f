/-
  Printed by gen.py: what functions of the program compute, and that they do.
-/
import Derived.Test.YtimiagnkcjfdhaaGreatDoorProg
import Derived.Test.YtimiagnkcjfdhaaGreatDoorK02
import Derived.KernelRfl
set_option linter.unusedSimpArgs false
set_option linter.unusedVariables false
open Go.Proofs Go.Pev
namespace Go.Pev.F
set_option maxRecDepth 100000
set_option linter.unusedVariables false

/-! loop.example/g00719/laws.szStringS -/
def laws_szStringS.A : Sh := (.cons (.pur (.sl false .str)) (.cons (.pur (.int .i64)) .nil))
def laws_szStringS.R : Sh := (.cons (.pur (.int .i64)) .nil)
def laws_szStringS.ann : Ann := { loops := [(0, [(0, (.pur (.sl false .str))), (1, (.pur (.int .i64))), (5, (.pur (.int .i64)))])], joins := [], keys := [] }
noncomputable def laws_szStringS.l0 (k : Nat)  (G0 : ((List (List UInt8)) × Int × Int × Unit) → Option ((Int × Unit) × (Unit × Unit × Unit))) : ((List (List UInt8)) × Int × Int × Unit) → Option ((Int × Unit) × (Unit × Unit × Unit)) := fun x => match x with
 | (a, left, i, ()) =>
  br k (decide (i < (a.length : Int)))
  (br k (decide (0 ≤ i))
  (bd k (a[i.toNat]?) fun x1 =>
  br k (decide ((IntKind.wrap .i64 (left - (x1.length : Int))) < 0))
  (some (((-1), ()), ((), (), ())))
  (G0 (a, IntKind.wrap .i64 (left - (x1.length : Int)), IntKind.wrap .i64 (i + 1), ())))
  none)
  (some ((left, ()), ((), (), ())))
noncomputable def laws_szStringS (k : Nat) : ((List (List UInt8)) × Int × Unit) → Option ((Int × Unit) × (Unit × Unit × Unit)) := fun x => match x with
 | (a, left, ()) =>
  br k (decide ((IntKind.wrap .i64 (left - (a.length : Int))) < 0))
  (some (((-1), ()), ((), (), ())))
  (iter (laws_szStringS.l0 k) k (a, IntKind.wrap .i64 (left - (a.length : Int)), 0, ()))
noncomputable def laws_szStringS.sg (k : Nat) : Sig := ⟨laws_szStringS.A, laws_szStringS.R, laws_szStringS k⟩
noncomputable def laws_szStringS.C (k : Nat) : Ctx := ⟨Tryz.prog, [], k⟩
theorem laws_szStringS.ev (k : Nat) (x : laws_szStringS.A.T) : evFunc (laws_szStringS.C k) laws_szStringS.ann Tryz.f18 laws_szStringS.A laws_szStringS.R x = laws_szStringS k x := by kernel_rfl
theorem laws_szStringS.ok {L : List (Nat × Obj)}  (k : Nat) : SigHolds Tryz.prog L 18 (laws_szStringS.sg k) :=
  sig_of_ev (C := laws_szStringS.C k) holds_nil (by kernel_rfl) Tryz.func18 (by kernel_rfl) laws_szStringS.ann laws_szStringS.A laws_szStringS.R (fun x y h => (laws_szStringS.ev k x).trans h) (by kernel_rfl)

/-! loop.example/g00719/laws.szArr -/
def laws_szArr.A : Sh := (.cons (.pur (.cons .str (.cons (.int .i64) .nil))) (.cons (.pur (.int .i64)) .nil))
def laws_szArr.R : Sh := (.cons (.pur (.int .i64)) .nil)
def laws_szArr.ann : Ann := { loops := [], joins := [], keys := [] }
noncomputable def laws_szArr (k : Nat) : (((List UInt8) × Int × Unit) × Int × Unit) → Option ((Int × Unit) × (Unit × Unit × Unit)) := fun x => match x with
 | (a, left, ()) =>
  br k (decide ((IntKind.wrap .i64 (left - (a.1.length : Int))) < 0))
  (some (((-1), ()), ((), (), ())))
  (some ((IntKind.wrap .i64 (left - (a.1.length : Int)), ()), ((), (), ())))
noncomputable def laws_szArr.sg (k : Nat) : Sig := ⟨laws_szArr.A, laws_szArr.R, laws_szArr k⟩
noncomputable def laws_szArr.C (k : Nat) : Ctx := ⟨Tryz.prog, [], k⟩
theorem laws_szArr.ev (k : Nat) (x : laws_szArr.A.T) : evFunc (laws_szArr.C k) laws_szArr.ann Tryz.f41 laws_szArr.A laws_szArr.R x = laws_szArr k x := by kernel_rfl
theorem laws_szArr.ok {L : List (Nat × Obj)}  (k : Nat) : SigHolds Tryz.prog L 41 (laws_szArr.sg k) :=
  sig_of_ev (C := laws_szArr.C k) holds_nil (by kernel_rfl) Tryz.func41 (by kernel_rfl) laws_szArr.ann laws_szArr.A laws_szArr.R (fun x y h => (laws_szArr.ev k x).trans h) (by kernel_rfl)

/-! loop.example/g00719/laws.szArrS -/
def laws_szArrS.A : Sh := (.cons (.pur (.sl false (.cons .str (.cons (.int .i64) .nil)))) (.cons (.pur (.int .i64)) .nil))
def laws_szArrS.R : Sh := (.cons (.pur (.int .i64)) .nil)
def laws_szArrS.ann : Ann := { loops := [(0, [(0, (.pur (.sl false (.cons .str (.cons (.int .i64) .nil))))), (1, (.pur (.int .i64))), (5, (.pur (.int .i64)))])], joins := [], keys := [] }
noncomputable def laws_szArrS.l0 (k : Nat)  (G0 : ((List ((List UInt8) × Int × Unit)) × Int × Int × Unit) → Option ((Int × Unit) × (Unit × Unit × Unit))) : ((List ((List UInt8) × Int × Unit)) × Int × Int × Unit) → Option ((Int × Unit) × (Unit × Unit × Unit)) := fun x => match x with
 | (a, left, i, ()) =>
  br k (decide (i < (a.length : Int)))
  (br k (decide (0 ≤ i))
  (bd k (a[i.toNat]?) fun x1 =>
  bd k (laws_szArr k (x1, left, ())) fun y2 =>
  br k (decide (y2.1.1 < 0))
  (some (((-1), ()), ((), (), ())))
  (G0 (a, y2.1.1, IntKind.wrap .i64 (i + 1), ())))
  none)
  (some ((left, ()), ((), (), ())))
noncomputable def laws_szArrS (k : Nat) : ((List ((List UInt8) × Int × Unit)) × Int × Unit) → Option ((Int × Unit) × (Unit × Unit × Unit)) := fun x => match x with
 | (a, left, ()) =>
  br k (decide ((IntKind.wrap .i64 (left - (a.length : Int))) < 0))
  (some (((-1), ()), ((), (), ())))
  (iter (laws_szArrS.l0 k) k (a, IntKind.wrap .i64 (left - (a.length : Int)), 0, ()))
noncomputable def laws_szArrS.sg (k : Nat) : Sig := ⟨laws_szArrS.A, laws_szArrS.R, laws_szArrS k⟩
noncomputable def laws_szArrS.C (k : Nat) : Ctx := ⟨Tryz.prog, [(41, [laws_szArr.sg k])], k⟩
theorem laws_szArrS.ev (k : Nat) (x : laws_szArrS.A.T) : evFunc (laws_szArrS.C k) laws_szArrS.ann Tryz.f19 laws_szArrS.A laws_szArrS.R x = laws_szArrS k x := by kernel_rfl
theorem laws_szArrS.ok {L : List (Nat × Obj)}  (k : Nat) : SigHolds Tryz.prog L 19 (laws_szArrS.sg k) :=
  sig_of_ev (C := laws_szArrS.C k) (holds_cons (allok_cons (laws_szArr.ok k) allok_nil) holds_nil) (by kernel_rfl) Tryz.func19 (by kernel_rfl) laws_szArrS.ann laws_szArrS.A laws_szArrS.R (fun x y h => (laws_szArrS.ev k x).trans h) (by kernel_rfl)

/-! loop.example/g00719/laws.szDecl -/
def laws_szDecl.A : Sh := (.cons (.pur (.cons (.sl false .str) (.cons (.sl false .str) (.cons (.sl false (.cons .str (.cons (.int .i64) .nil))) .nil)))) (.cons (.pur (.int .i64)) .nil))
def laws_szDecl.R : Sh := (.cons (.pur (.int .i64)) .nil)
def laws_szDecl.ann : Ann := { loops := [], joins := [], keys := [] }
noncomputable def laws_szDecl (k : Nat) : (((List (List UInt8)) × (List (List UInt8)) × (List ((List UInt8) × Int × Unit)) × Unit) × Int × Unit) → Option ((Int × Unit) × (Unit × Unit × Unit)) := fun x => match x with
 | (a, left, ()) =>
  bd k (laws_szStringS k (a.1, left, ())) fun y1 =>
  br k (decide (y1.1.1 < 0))
  (some (((-1), ()), ((), (), ())))
  (bd k (laws_szStringS k (a.2.1, y1.1.1, ())) fun y2 =>
  br k (decide (y2.1.1 < 0))
  (some (((-1), ()), ((), (), ())))
  (bd k (laws_szArrS k (a.2.2.1, y2.1.1, ())) fun y3 =>
  br k (decide (y3.1.1 < 0))
  (some (((-1), ()), ((), (), ())))
  (some ((y3.1.1, ()), ((), (), ())))))
noncomputable def laws_szDecl.sg (k : Nat) : Sig := ⟨laws_szDecl.A, laws_szDecl.R, laws_szDecl k⟩
noncomputable def laws_szDecl.C (k : Nat) : Ctx := ⟨Tryz.prog, [(18, [laws_szStringS.sg k]), (19, [laws_szArrS.sg k])], k⟩
theorem laws_szDecl.ev (k : Nat) (x : laws_szDecl.A.T) : evFunc (laws_szDecl.C k) laws_szDecl.ann Tryz.f5 laws_szDecl.A laws_szDecl.R x = laws_szDecl k x := by kernel_rfl
theorem laws_szDecl.ok {L : List (Nat × Obj)}  (k : Nat) : SigHolds Tryz.prog L 5 (laws_szDecl.sg k) :=
  sig_of_ev (C := laws_szDecl.C k) (holds_cons (allok_cons (laws_szStringS.ok k) allok_nil) (holds_cons (allok_cons (laws_szArrS.ok k) allok_nil) holds_nil)) (by kernel_rfl) Tryz.func5 (by kernel_rfl) laws_szDecl.ann laws_szDecl.A laws_szDecl.R (fun x y h => (laws_szDecl.ev k x).trans h) (by kernel_rfl)

/-! loop.example/g00719/laws.szIntervalS -/
def laws_szIntervalS.A : Sh := (.cons (.pur (.sl false (.cons (.int .i64) (.cons (.int .i64) .nil)))) (.cons (.pur (.int .i64)) .nil))
def laws_szIntervalS.R : Sh := (.cons (.pur (.int .i64)) .nil)
def laws_szIntervalS.ann : Ann := { loops := [], joins := [], keys := [] }
noncomputable def laws_szIntervalS (k : Nat) : ((List (Int × Int × Unit)) × Int × Unit) → Option ((Int × Unit) × (Unit × Unit × Unit)) := fun x => match x with
 | (a, left, ()) =>
  br k (decide ((IntKind.wrap .i64 (left - (a.length : Int))) < 0))
  (some (((-1), ()), ((), (), ())))
  (some ((IntKind.wrap .i64 (left - (a.length : Int)), ()), ((), (), ())))
noncomputable def laws_szIntervalS.sg (k : Nat) : Sig := ⟨laws_szIntervalS.A, laws_szIntervalS.R, laws_szIntervalS k⟩
noncomputable def laws_szIntervalS.C (k : Nat) : Ctx := ⟨Tryz.prog, [], k⟩
theorem laws_szIntervalS.ev (k : Nat) (x : laws_szIntervalS.A.T) : evFunc (laws_szIntervalS.C k) laws_szIntervalS.ann Tryz.f109 laws_szIntervalS.A laws_szIntervalS.R x = laws_szIntervalS k x := by kernel_rfl
theorem laws_szIntervalS.ok {L : List (Nat × Obj)}  (k : Nat) : SigHolds Tryz.prog L 109 (laws_szIntervalS.sg k) :=
  sig_of_ev (C := laws_szIntervalS.C k) holds_nil (by kernel_rfl) Tryz.func109 (by kernel_rfl) laws_szIntervalS.ann laws_szIntervalS.A laws_szIntervalS.R (fun x y h => (laws_szIntervalS.ev k x).trans h) (by kernel_rfl)

/-! loop.example/g00719/laws.szEnv -/
def laws_szEnv.A : Sh := (.cons (.pur (.cons .bool (.cons (.sl false (.cons (.int .i64) (.cons (.int .i64) .nil))) (.cons (.sl false (.cons (.int .i64) (.cons (.int .i64) .nil))) .nil)))) (.cons (.pur (.int .i64)) .nil))
def laws_szEnv.R : Sh := (.cons (.pur (.int .i64)) .nil)
def laws_szEnv.ann : Ann := { loops := [], joins := [], keys := [] }
noncomputable def laws_szEnv (k : Nat) : ((Bool × (List (Int × Int × Unit)) × (List (Int × Int × Unit)) × Unit) × Int × Unit) → Option ((Int × Unit) × (Unit × Unit × Unit)) := fun x => match x with
 | (a, left, ()) =>
  bd k (laws_szIntervalS k (a.2.1, left, ())) fun y1 =>
  br k (decide (y1.1.1 < 0))
  (some (((-1), ()), ((), (), ())))
  (bd k (laws_szIntervalS k (a.2.2.1, y1.1.1, ())) fun y2 =>
  br k (decide (y2.1.1 < 0))
  (some (((-1), ()), ((), (), ())))
  (some ((y2.1.1, ()), ((), (), ()))))
noncomputable def laws_szEnv.sg (k : Nat) : Sig := ⟨laws_szEnv.A, laws_szEnv.R, laws_szEnv k⟩
noncomputable def laws_szEnv.C (k : Nat) : Ctx := ⟨Tryz.prog, [(109, [laws_szIntervalS.sg k])], k⟩
theorem laws_szEnv.ev (k : Nat) (x : laws_szEnv.A.T) : evFunc (laws_szEnv.C k) laws_szEnv.ann Tryz.f72 laws_szEnv.A laws_szEnv.R x = laws_szEnv k x := by kernel_rfl
theorem laws_szEnv.ok {L : List (Nat × Obj)}  (k : Nat) : SigHolds Tryz.prog L 72 (laws_szEnv.sg k) :=
  sig_of_ev (C := laws_szEnv.C k) (holds_cons (allok_cons (laws_szIntervalS.ok k) allok_nil) holds_nil) (by kernel_rfl) Tryz.func72 (by kernel_rfl) laws_szEnv.ann laws_szEnv.A laws_szEnv.R (fun x y h => (laws_szEnv.ev k x).trans h) (by kernel_rfl)

/-! loop.example/g00719/laws.szNode -/
def laws_szNode.A : Sh := (.cons (.pur (.cons (.int .i64) (.cons (.int .i64) (.cons (.int .i64) (.cons .bool (.cons (.sl false (.cons (.int .i64) (.cons (.int .i64) .nil))) (.cons (.sl false (.cons (.int .i64) (.cons (.int .i64) .nil))) .nil))))))) (.cons (.pur (.int .i64)) .nil))
def laws_szNode.R : Sh := (.cons (.pur (.int .i64)) .nil)
def laws_szNode.ann : Ann := { loops := [], joins := [], keys := [] }
noncomputable def laws_szNode (k : Nat) : ((Int × Int × Int × Bool × (List (Int × Int × Unit)) × (List (Int × Int × Unit)) × Unit) × Int × Unit) → Option ((Int × Unit) × (Unit × Unit × Unit)) := fun x => match x with
 | (a, left, ()) =>
  bd k (laws_szEnv k ((a.2.2.2.1, a.2.2.2.2.1, a.2.2.2.2.2.1, ()), left, ())) fun y1 =>
  br k (decide (y1.1.1 < 0))
  (some (((-1), ()), ((), (), ())))
  (some ((y1.1.1, ()), ((), (), ())))
noncomputable def laws_szNode.sg (k : Nat) : Sig := ⟨laws_szNode.A, laws_szNode.R, laws_szNode k⟩
noncomputable def laws_szNode.C (k : Nat) : Ctx := ⟨Tryz.prog, [(72, [laws_szEnv.sg k])], k⟩
theorem laws_szNode.ev (k : Nat) (x : laws_szNode.A.T) : evFunc (laws_szNode.C k) laws_szNode.ann Tryz.f42 laws_szNode.A laws_szNode.R x = laws_szNode k x := by kernel_rfl
theorem laws_szNode.ok {L : List (Nat × Obj)}  (k : Nat) : SigHolds Tryz.prog L 42 (laws_szNode.sg k) :=
  sig_of_ev (C := laws_szNode.C k) (holds_cons (allok_cons (laws_szEnv.ok k) allok_nil) holds_nil) (by kernel_rfl) Tryz.func42 (by kernel_rfl) laws_szNode.ann laws_szNode.A laws_szNode.R (fun x y h => (laws_szNode.ev k x).trans h) (by kernel_rfl)

/-! loop.example/g00719/laws.szNodeS -/
def laws_szNodeS.A : Sh := (.cons (.pur (.sl false (.cons (.int .i64) (.cons (.int .i64) (.cons (.int .i64) (.cons .bool (.cons (.sl false (.cons (.int .i64) (.cons (.int .i64) .nil))) (.cons (.sl false (.cons (.int .i64) (.cons (.int .i64) .nil))) .nil)))))))) (.cons (.pur (.int .i64)) .nil))
def laws_szNodeS.R : Sh := (.cons (.pur (.int .i64)) .nil)
def laws_szNodeS.ann : Ann := { loops := [(0, [(0, (.pur (.sl false (.cons (.int .i64) (.cons (.int .i64) (.cons (.int .i64) (.cons .bool (.cons (.sl false (.cons (.int .i64) (.cons (.int .i64) .nil))) (.cons (.sl false (.cons (.int .i64) (.cons (.int .i64) .nil))) .nil))))))))), (1, (.pur (.int .i64))), (5, (.pur (.int .i64)))])], joins := [], keys := [] }
noncomputable def laws_szNodeS.l0 (k : Nat)  (G0 : ((List (Int × Int × Int × Bool × (List (Int × Int × Unit)) × (List (Int × Int × Unit)) × Unit)) × Int × Int × Unit) → Option ((Int × Unit) × (Unit × Unit × Unit))) : ((List (Int × Int × Int × Bool × (List (Int × Int × Unit)) × (List (Int × Int × Unit)) × Unit)) × Int × Int × Unit) → Option ((Int × Unit) × (Unit × Unit × Unit)) := fun x => match x with
 | (a, left, i, ()) =>
  br k (decide (i < (a.length : Int)))
  (br k (decide (0 ≤ i))
  (bd k (a[i.toNat]?) fun x1 =>
  bd k (laws_szNode k (x1, left, ())) fun y2 =>
  br k (decide (y2.1.1 < 0))
  (some (((-1), ()), ((), (), ())))
  (G0 (a, y2.1.1, IntKind.wrap .i64 (i + 1), ())))
  none)
  (some ((left, ()), ((), (), ())))
noncomputable def laws_szNodeS (k : Nat) : ((List (Int × Int × Int × Bool × (List (Int × Int × Unit)) × (List (Int × Int × Unit)) × Unit)) × Int × Unit) → Option ((Int × Unit) × (Unit × Unit × Unit)) := fun x => match x with
 | (a, left, ()) =>
  br k (decide ((IntKind.wrap .i64 (left - (a.length : Int))) < 0))
  (some (((-1), ()), ((), (), ())))
  (iter (laws_szNodeS.l0 k) k (a, IntKind.wrap .i64 (left - (a.length : Int)), 0, ()))
noncomputable def laws_szNodeS.sg (k : Nat) : Sig := ⟨laws_szNodeS.A, laws_szNodeS.R, laws_szNodeS k⟩
noncomputable def laws_szNodeS.C (k : Nat) : Ctx := ⟨Tryz.prog, [(42, [laws_szNode.sg k])], k⟩
theorem laws_szNodeS.ev (k : Nat) (x : laws_szNodeS.A.T) : evFunc (laws_szNodeS.C k) laws_szNodeS.ann Tryz.f20 laws_szNodeS.A laws_szNodeS.R x = laws_szNodeS k x := by kernel_rfl
theorem laws_szNodeS.ok {L : List (Nat × Obj)}  (k : Nat) : SigHolds Tryz.prog L 20 (laws_szNodeS.sg k) :=
  sig_of_ev (C := laws_szNodeS.C k) (holds_cons (allok_cons (laws_szNode.ok k) allok_nil) holds_nil) (by kernel_rfl) Tryz.func20 (by kernel_rfl) laws_szNodeS.ann laws_szNodeS.A laws_szNodeS.R (fun x y h => (laws_szNodeS.ev k x).trans h) (by kernel_rfl)

/-! loop.example/g00719/laws.szTree -/
def laws_szTree.A : Sh := (.cons (.pur (.cons (.sl false (.cons (.int .i64) (.cons (.int .i64) (.cons (.int .i64) (.cons .bool (.cons (.sl false (.cons (.int .i64) (.cons (.int .i64) .nil))) (.cons (.sl false (.cons (.int .i64) (.cons (.int .i64) .nil))) .nil))))))) .nil)) (.cons (.pur (.int .i64)) .nil))
def laws_szTree.R : Sh := (.cons (.pur (.int .i64)) .nil)
def laws_szTree.ann : Ann := { loops := [], joins := [], keys := [] }
noncomputable def laws_szTree (k : Nat) : (((List (Int × Int × Int × Bool × (List (Int × Int × Unit)) × (List (Int × Int × Unit)) × Unit)) × Unit) × Int × Unit) → Option ((Int × Unit) × (Unit × Unit × Unit)) := fun x => match x with
 | (a, left, ()) =>
  bd k (laws_szNodeS k (a.1, left, ())) fun y1 =>
  br k (decide (y1.1.1 < 0))
  (some (((-1), ()), ((), (), ())))
  (some ((y1.1.1, ()), ((), (), ())))
noncomputable def laws_szTree.sg (k : Nat) : Sig := ⟨laws_szTree.A, laws_szTree.R, laws_szTree k⟩
noncomputable def laws_szTree.C (k : Nat) : Ctx := ⟨Tryz.prog, [(20, [laws_szNodeS.sg k])], k⟩
theorem laws_szTree.ev (k : Nat) (x : laws_szTree.A.T) : evFunc (laws_szTree.C k) laws_szTree.ann Tryz.f6 laws_szTree.A laws_szTree.R x = laws_szTree k x := by kernel_rfl
theorem laws_szTree.ok {L : List (Nat × Obj)}  (k : Nat) : SigHolds Tryz.prog L 6 (laws_szTree.sg k) :=
  sig_of_ev (C := laws_szTree.C k) (holds_cons (allok_cons (laws_szNodeS.ok k) allok_nil) holds_nil) (by kernel_rfl) Tryz.func6 (by kernel_rfl) laws_szTree.ann laws_szTree.A laws_szTree.R (fun x y h => (laws_szTree.ev k x).trans h) (by kernel_rfl)

/-! loop.example/g00719/laws.toStringS -/
def laws_toStringS.A : Sh := (.cons (.pur (.sl false .str)) .nil)
def laws_toStringS.R : Sh := (.cons (.own .str) .nil)
def laws_toStringS.ann : Ann := { loops := [(0, [(0, (.pur (.sl false .str))), (3, (.own .str)), (4, (.pur (.int .i64)))])], joins := [], keys := [] }
noncomputable def laws_toStringS.l0 (k : Nat)  (G0 : ((List (List UInt8)) × (List (List UInt8)) × Int × Unit) → Option (((List (List UInt8)) × Unit) × (Unit × Unit))) : ((List (List UInt8)) × (List (List UInt8)) × Int × Unit) → Option (((List (List UInt8)) × Unit) × (Unit × Unit)) := fun x => match x with
 | (a, out_, i, ()) =>
  br k (decide (i < (a.length : Int)))
  (br k (decide (0 ≤ i))
  (bd k (a[i.toNat]?) fun x1 =>
  br k (decide (0 ≤ i ∧ i < (out_.length : Int)))
  (bd k (out_[i.toNat]?) fun x2 =>
  G0 (a, out_.set i.toNat x1, IntKind.wrap .i64 (i + 1), ()))
  none)
  none)
  (some ((out_, ()), ((), ())))
noncomputable def laws_toStringS (k : Nat) : ((List (List UInt8)) × Unit) → Option (((List (List UInt8)) × Unit) × (Unit × Unit)) := fun x => match x with
 | (a, ()) =>
  br k (decide (0 ≤ (a.length : Int) ∧ (a.length : Int) ≤ (a.length : Int) ∧ (a.length : Int) * 16 ≤ maxBytes))
  (iter (laws_toStringS.l0 k) k (a, List.replicate (a.length : Int).toNat (Kd.z .str), 0, ()))
  none
noncomputable def laws_toStringS.sg (k : Nat) : Sig := ⟨laws_toStringS.A, laws_toStringS.R, laws_toStringS k⟩
noncomputable def laws_toStringS.C (k : Nat) : Ctx := ⟨Tryz.prog, [], k⟩
theorem laws_toStringS.ev (k : Nat) (x : laws_toStringS.A.T) : evFunc (laws_toStringS.C k) laws_toStringS.ann Tryz.f23 laws_toStringS.A laws_toStringS.R x = laws_toStringS k x := by kernel_rfl
theorem laws_toStringS.ok {L : List (Nat × Obj)}  (k : Nat) : SigHolds Tryz.prog L 23 (laws_toStringS.sg k) :=
  sig_of_ev (C := laws_toStringS.C k) holds_nil (by kernel_rfl) Tryz.func23 (by kernel_rfl) laws_toStringS.ann laws_toStringS.A laws_toStringS.R (fun x y h => (laws_toStringS.ev k x).trans h) (by kernel_rfl)

/-! loop.example/g00719/laws.toArr -/
def laws_toArr.A : Sh := (.cons (.pur (.cons .str (.cons (.int .i64) .nil))) .nil)
def laws_toArr.R : Sh := (.cons (.pur (.cons .str (.cons (.int .i64) .nil))) .nil)
def laws_toArr.ann : Ann := { loops := [], joins := [], keys := [] }
noncomputable def laws_toArr (k : Nat) : (((List UInt8) × Int × Unit) × Unit) → Option ((((List UInt8) × Int × Unit) × Unit) × (Unit × Unit)) := fun x => match x with
 | (a, ()) =>
  some ((a, ()), ((), ()))
noncomputable def laws_toArr.sg (k : Nat) : Sig := ⟨laws_toArr.A, laws_toArr.R, laws_toArr k⟩
noncomputable def laws_toArr.C (k : Nat) : Ctx := ⟨Tryz.prog, [], k⟩
theorem laws_toArr.ev (k : Nat) (x : laws_toArr.A.T) : evFunc (laws_toArr.C k) laws_toArr.ann Tryz.f45 laws_toArr.A laws_toArr.R x = laws_toArr k x := by kernel_rfl
theorem laws_toArr.ok {L : List (Nat × Obj)}  (k : Nat) : SigHolds Tryz.prog L 45 (laws_toArr.sg k) :=
  sig_of_ev (C := laws_toArr.C k) holds_nil (by kernel_rfl) Tryz.func45 (by kernel_rfl) laws_toArr.ann laws_toArr.A laws_toArr.R (fun x y h => (laws_toArr.ev k x).trans h) (by kernel_rfl)

/-! loop.example/g00719/laws.toArrS -/
def laws_toArrS.A : Sh := (.cons (.pur (.sl false (.cons .str (.cons (.int .i64) .nil)))) .nil)
def laws_toArrS.R : Sh := (.cons (.own (.cons .str (.cons (.int .i64) .nil))) .nil)
def laws_toArrS.ann : Ann := { loops := [(0, [(0, (.pur (.sl false (.cons .str (.cons (.int .i64) .nil))))), (3, (.own (.cons .str (.cons (.int .i64) .nil)))), (4, (.pur (.int .i64)))])], joins := [], keys := [] }
noncomputable def laws_toArrS.l0 (k : Nat)  (G0 : ((List ((List UInt8) × Int × Unit)) × (List ((List UInt8) × Int × Unit)) × Int × Unit) → Option (((List ((List UInt8) × Int × Unit)) × Unit) × (Unit × Unit))) : ((List ((List UInt8) × Int × Unit)) × (List ((List UInt8) × Int × Unit)) × Int × Unit) → Option (((List ((List UInt8) × Int × Unit)) × Unit) × (Unit × Unit)) := fun x => match x with
 | (a, out_, i, ()) =>
  br k (decide (i < (a.length : Int)))
  (br k (decide (0 ≤ i))
  (bd k (a[i.toNat]?) fun x1 =>
  bd k (laws_toArr k (x1, ())) fun y2 =>
  br k (decide (0 ≤ i ∧ i < (out_.length : Int)))
  (bd k (out_[i.toNat]?) fun x3 =>
  G0 (a, out_.set i.toNat y2.1.1, IntKind.wrap .i64 (i + 1), ()))
  none)
  none)
  (some ((out_, ()), ((), ())))
noncomputable def laws_toArrS (k : Nat) : ((List ((List UInt8) × Int × Unit)) × Unit) → Option (((List ((List UInt8) × Int × Unit)) × Unit) × (Unit × Unit)) := fun x => match x with
 | (a, ()) =>
  br k (decide (0 ≤ (a.length : Int) ∧ (a.length : Int) ≤ (a.length : Int) ∧ (a.length : Int) * 24 ≤ maxBytes))
  (iter (laws_toArrS.l0 k) k (a, List.replicate (a.length : Int).toNat (Kd.z (.cons .str (.cons (.int .i64) .nil))), 0, ()))
  none
noncomputable def laws_toArrS.sg (k : Nat) : Sig := ⟨laws_toArrS.A, laws_toArrS.R, laws_toArrS k⟩
noncomputable def laws_toArrS.C (k : Nat) : Ctx := ⟨Tryz.prog, [(45, [laws_toArr.sg k])], k⟩
theorem laws_toArrS.ev (k : Nat) (x : laws_toArrS.A.T) : evFunc (laws_toArrS.C k) laws_toArrS.ann Tryz.f24 laws_toArrS.A laws_toArrS.R x = laws_toArrS k x := by kernel_rfl
theorem laws_toArrS.ok {L : List (Nat × Obj)}  (k : Nat) : SigHolds Tryz.prog L 24 (laws_toArrS.sg k) :=
  sig_of_ev (C := laws_toArrS.C k) (holds_cons (allok_cons (laws_toArr.ok k) allok_nil) holds_nil) (by kernel_rfl) Tryz.func24 (by kernel_rfl) laws_toArrS.ann laws_toArrS.A laws_toArrS.R (fun x y h => (laws_toArrS.ev k x).trans h) (by kernel_rfl)

/-! loop.example/g00719/laws.toDecl -/
def laws_toDecl.A : Sh := (.cons (.pur (.cons (.sl false .str) (.cons (.sl false .str) (.cons (.sl false (.cons .str (.cons (.int .i64) .nil))) .nil)))) .nil)
def laws_toDecl.R : Sh := (.cons (.agg (.cons (.own .str) (.cons (.own .str) (.cons (.own (.cons .str (.cons (.int .i64) .nil))) .nil)))) .nil)
def laws_toDecl.ann : Ann := { loops := [], joins := [], keys := [] }
noncomputable def laws_toDecl (k : Nat) : (((List (List UInt8)) × (List (List UInt8)) × (List ((List UInt8) × Int × Unit)) × Unit) × Unit) → Option ((((List (List UInt8)) × (List (List UInt8)) × (List ((List UInt8) × Int × Unit)) × Unit) × Unit) × (Unit × Unit)) := fun x => match x with
 | (a, ()) =>
  bd k (laws_toStringS k (a.1, ())) fun y1 =>
  bd k (laws_toStringS k (a.2.1, ())) fun y2 =>
  bd k (laws_toArrS k (a.2.2.1, ())) fun y3 =>
  some (((y1.1.1, y2.1.1, y3.1.1, ()), ()), ((), ()))
noncomputable def laws_toDecl.sg (k : Nat) : Sig := ⟨laws_toDecl.A, laws_toDecl.R, laws_toDecl k⟩
noncomputable def laws_toDecl.C (k : Nat) : Ctx := ⟨Tryz.prog, [(23, [laws_toStringS.sg k]), (24, [laws_toArrS.sg k])], k⟩
theorem laws_toDecl.ev (k : Nat) (x : laws_toDecl.A.T) : evFunc (laws_toDecl.C k) laws_toDecl.ann Tryz.f8 laws_toDecl.A laws_toDecl.R x = laws_toDecl k x := by kernel_rfl
theorem laws_toDecl.ok {L : List (Nat × Obj)}  (k : Nat) : SigHolds Tryz.prog L 8 (laws_toDecl.sg k) :=
  sig_of_ev (C := laws_toDecl.C k) (holds_cons (allok_cons (laws_toStringS.ok k) allok_nil) (holds_cons (allok_cons (laws_toArrS.ok k) allok_nil) holds_nil)) (by kernel_rfl) Tryz.func8 (by kernel_rfl) laws_toDecl.ann laws_toDecl.A laws_toDecl.R (fun x y h => (laws_toDecl.ev k x).trans h) (by kernel_rfl)

/-! loop.example/g00719/laws.toInterval -/
def laws_toInterval.A : Sh := (.cons (.pur (.cons (.int .i64) (.cons (.int .i64) .nil))) .nil)
def laws_toInterval.R : Sh := (.cons (.pur (.cons (.int .i64) (.cons (.int .i64) .nil))) .nil)
def laws_toInterval.ann : Ann := { loops := [], joins := [], keys := [] }
noncomputable def laws_toInterval (k : Nat) : ((Int × Int × Unit) × Unit) → Option (((Int × Int × Unit) × Unit) × (Unit × Unit)) := fun x => match x with
 | (a, ()) =>
  some ((a, ()), ((), ()))
noncomputable def laws_toInterval.sg (k : Nat) : Sig := ⟨laws_toInterval.A, laws_toInterval.R, laws_toInterval k⟩
noncomputable def laws_toInterval.C (k : Nat) : Ctx := ⟨Tryz.prog, [], k⟩
theorem laws_toInterval.ev (k : Nat) (x : laws_toInterval.A.T) : evFunc (laws_toInterval.C k) laws_toInterval.ann Tryz.f144 laws_toInterval.A laws_toInterval.R x = laws_toInterval k x := by kernel_rfl
theorem laws_toInterval.ok {L : List (Nat × Obj)}  (k : Nat) : SigHolds Tryz.prog L 144 (laws_toInterval.sg k) :=
  sig_of_ev (C := laws_toInterval.C k) holds_nil (by kernel_rfl) Tryz.func144 (by kernel_rfl) laws_toInterval.ann laws_toInterval.A laws_toInterval.R (fun x y h => (laws_toInterval.ev k x).trans h) (by kernel_rfl)

/-! loop.example/g00719/laws.toIntervalS -/
def laws_toIntervalS.A : Sh := (.cons (.pur (.sl false (.cons (.int .i64) (.cons (.int .i64) .nil)))) .nil)
def laws_toIntervalS.R : Sh := (.cons (.own (.cons (.int .i64) (.cons (.int .i64) .nil))) .nil)
def laws_toIntervalS.ann : Ann := { loops := [(0, [(0, (.pur (.sl false (.cons (.int .i64) (.cons (.int .i64) .nil))))), (3, (.own (.cons (.int .i64) (.cons (.int .i64) .nil)))), (4, (.pur (.int .i64)))])], joins := [], keys := [] }
noncomputable def laws_toIntervalS.l0 (k : Nat)  (G0 : ((List (Int × Int × Unit)) × (List (Int × Int × Unit)) × Int × Unit) → Option (((List (Int × Int × Unit)) × Unit) × (Unit × Unit))) : ((List (Int × Int × Unit)) × (List (Int × Int × Unit)) × Int × Unit) → Option (((List (Int × Int × Unit)) × Unit) × (Unit × Unit)) := fun x => match x with
 | (a, out_, i, ()) =>
  br k (decide (i < (a.length : Int)))
  (br k (decide (0 ≤ i))
  (bd k (a[i.toNat]?) fun x1 =>
  bd k (laws_toInterval k (x1, ())) fun y2 =>
  br k (decide (0 ≤ i ∧ i < (out_.length : Int)))
  (bd k (out_[i.toNat]?) fun x3 =>
  G0 (a, out_.set i.toNat y2.1.1, IntKind.wrap .i64 (i + 1), ()))
  none)
  none)
  (some ((out_, ()), ((), ())))
noncomputable def laws_toIntervalS (k : Nat) : ((List (Int × Int × Unit)) × Unit) → Option (((List (Int × Int × Unit)) × Unit) × (Unit × Unit)) := fun x => match x with
 | (a, ()) =>
  br k (decide (0 ≤ (a.length : Int) ∧ (a.length : Int) ≤ (a.length : Int) ∧ (a.length : Int) * 16 ≤ maxBytes))
  (iter (laws_toIntervalS.l0 k) k (a, List.replicate (a.length : Int).toNat (Kd.z (.cons (.int .i64) (.cons (.int .i64) .nil))), 0, ()))
  none
noncomputable def laws_toIntervalS.sg (k : Nat) : Sig := ⟨laws_toIntervalS.A, laws_toIntervalS.R, laws_toIntervalS k⟩
noncomputable def laws_toIntervalS.C (k : Nat) : Ctx := ⟨Tryz.prog, [(144, [laws_toInterval.sg k])], k⟩
theorem laws_toIntervalS.ev (k : Nat) (x : laws_toIntervalS.A.T) : evFunc (laws_toIntervalS.C k) laws_toIntervalS.ann Tryz.f111 laws_toIntervalS.A laws_toIntervalS.R x = laws_toIntervalS k x := by kernel_rfl
theorem laws_toIntervalS.ok {L : List (Nat × Obj)}  (k : Nat) : SigHolds Tryz.prog L 111 (laws_toIntervalS.sg k) :=
  sig_of_ev (C := laws_toIntervalS.C k) (holds_cons (allok_cons (laws_toInterval.ok k) allok_nil) holds_nil) (by kernel_rfl) Tryz.func111 (by kernel_rfl) laws_toIntervalS.ann laws_toIntervalS.A laws_toIntervalS.R (fun x y h => (laws_toIntervalS.ev k x).trans h) (by kernel_rfl)

/-! loop.example/g00719/laws.toEnv -/
def laws_toEnv.A : Sh := (.cons (.pur (.cons .bool (.cons (.sl false (.cons (.int .i64) (.cons (.int .i64) .nil))) (.cons (.sl false (.cons (.int .i64) (.cons (.int .i64) .nil))) .nil)))) .nil)
def laws_toEnv.R : Sh := (.cons (.agg (.cons (.pur .bool) (.cons (.own (.cons (.int .i64) (.cons (.int .i64) .nil))) (.cons (.own (.cons (.int .i64) (.cons (.int .i64) .nil))) .nil)))) .nil)
def laws_toEnv.ann : Ann := { loops := [], joins := [], keys := [] }
noncomputable def laws_toEnv (k : Nat) : ((Bool × (List (Int × Int × Unit)) × (List (Int × Int × Unit)) × Unit) × Unit) → Option (((Bool × (List (Int × Int × Unit)) × (List (Int × Int × Unit)) × Unit) × Unit) × (Unit × Unit)) := fun x => match x with
 | (a, ()) =>
  bd k (laws_toIntervalS k (a.2.1, ())) fun y1 =>
  bd k (laws_toIntervalS k (a.2.2.1, ())) fun y2 =>
  some (((a.1, y1.1.1, y2.1.1, ()), ()), ((), ()))
noncomputable def laws_toEnv.sg (k : Nat) : Sig := ⟨laws_toEnv.A, laws_toEnv.R, laws_toEnv k⟩
noncomputable def laws_toEnv.C (k : Nat) : Ctx := ⟨Tryz.prog, [(111, [laws_toIntervalS.sg k])], k⟩
theorem laws_toEnv.ev (k : Nat) (x : laws_toEnv.A.T) : evFunc (laws_toEnv.C k) laws_toEnv.ann Tryz.f78 laws_toEnv.A laws_toEnv.R x = laws_toEnv k x := by kernel_rfl
theorem laws_toEnv.ok {L : List (Nat × Obj)}  (k : Nat) : SigHolds Tryz.prog L 78 (laws_toEnv.sg k) :=
  sig_of_ev (C := laws_toEnv.C k) (holds_cons (allok_cons (laws_toIntervalS.ok k) allok_nil) holds_nil) (by kernel_rfl) Tryz.func78 (by kernel_rfl) laws_toEnv.ann laws_toEnv.A laws_toEnv.R (fun x y h => (laws_toEnv.ev k x).trans h) (by kernel_rfl)

/-! loop.example/g00719/laws.toNode -/
def laws_toNode.A : Sh := (.cons (.pur (.cons (.int .i64) (.cons (.int .i64) (.cons (.int .i64) (.cons .bool (.cons (.sl false (.cons (.int .i64) (.cons (.int .i64) .nil))) (.cons (.sl false (.cons (.int .i64) (.cons (.int .i64) .nil))) .nil))))))) .nil)
def laws_toNode.R : Sh := (.cons (.agg (.cons (.pur (.int .i64)) (.cons (.pur (.int .i64)) (.cons (.pur (.int .i64)) (.cons (.pur .bool) (.cons (.own (.cons (.int .i64) (.cons (.int .i64) .nil))) (.cons (.own (.cons (.int .i64) (.cons (.int .i64) .nil))) .nil))))))) .nil)
def laws_toNode.ann : Ann := { loops := [], joins := [], keys := [] }
noncomputable def laws_toNode (k : Nat) : ((Int × Int × Int × Bool × (List (Int × Int × Unit)) × (List (Int × Int × Unit)) × Unit) × Unit) → Option (((Int × Int × Int × Bool × (List (Int × Int × Unit)) × (List (Int × Int × Unit)) × Unit) × Unit) × (Unit × Unit)) := fun x => match x with
 | (a, ()) =>
  bd k (laws_toEnv k ((a.2.2.2.1, a.2.2.2.2.1, a.2.2.2.2.2.1, ()), ())) fun y1 =>
  some (((a.1, a.2.1, a.2.2.1, y1.1.1.1, y1.1.1.2.1, y1.1.1.2.2.1, ()), ()), ((), ()))
noncomputable def laws_toNode.sg (k : Nat) : Sig := ⟨laws_toNode.A, laws_toNode.R, laws_toNode k⟩
noncomputable def laws_toNode.C (k : Nat) : Ctx := ⟨Tryz.prog, [(78, [laws_toEnv.sg k])], k⟩
theorem laws_toNode.ev (k : Nat) (x : laws_toNode.A.T) : evFunc (laws_toNode.C k) laws_toNode.ann Tryz.f46 laws_toNode.A laws_toNode.R x = laws_toNode k x := by kernel_rfl
theorem laws_toNode.ok {L : List (Nat × Obj)}  (k : Nat) : SigHolds Tryz.prog L 46 (laws_toNode.sg k) :=
  sig_of_ev (C := laws_toNode.C k) (holds_cons (allok_cons (laws_toEnv.ok k) allok_nil) holds_nil) (by kernel_rfl) Tryz.func46 (by kernel_rfl) laws_toNode.ann laws_toNode.A laws_toNode.R (fun x y h => (laws_toNode.ev k x).trans h) (by kernel_rfl)

/-! loop.example/g00719/laws.toNodeS -/
def laws_toNodeS.A : Sh := (.cons (.pur (.sl false (.cons (.int .i64) (.cons (.int .i64) (.cons (.int .i64) (.cons .bool (.cons (.sl false (.cons (.int .i64) (.cons (.int .i64) .nil))) (.cons (.sl false (.cons (.int .i64) (.cons (.int .i64) .nil))) .nil)))))))) .nil)
def laws_toNodeS.R : Sh := (.cons (.own (.cons (.int .i64) (.cons (.int .i64) (.cons (.int .i64) (.cons .bool (.cons (.sl false (.cons (.int .i64) (.cons (.int .i64) .nil))) (.cons (.sl false (.cons (.int .i64) (.cons (.int .i64) .nil))) .nil))))))) .nil)
def laws_toNodeS.ann : Ann := { loops := [(0, [(0, (.pur (.sl false (.cons (.int .i64) (.cons (.int .i64) (.cons (.int .i64) (.cons .bool (.cons (.sl false (.cons (.int .i64) (.cons (.int .i64) .nil))) (.cons (.sl false (.cons (.int .i64) (.cons (.int .i64) .nil))) .nil))))))))), (3, (.own (.cons (.int .i64) (.cons (.int .i64) (.cons (.int .i64) (.cons .bool (.cons (.sl false (.cons (.int .i64) (.cons (.int .i64) .nil))) (.cons (.sl false (.cons (.int .i64) (.cons (.int .i64) .nil))) .nil)))))))), (4, (.pur (.int .i64)))])], joins := [], keys := [] }
noncomputable def laws_toNodeS.l0 (k : Nat)  (G0 : ((List (Int × Int × Int × Bool × (List (Int × Int × Unit)) × (List (Int × Int × Unit)) × Unit)) × (List (Int × Int × Int × Bool × (List (Int × Int × Unit)) × (List (Int × Int × Unit)) × Unit)) × Int × Unit) → Option (((List (Int × Int × Int × Bool × (List (Int × Int × Unit)) × (List (Int × Int × Unit)) × Unit)) × Unit) × (Unit × Unit))) : ((List (Int × Int × Int × Bool × (List (Int × Int × Unit)) × (List (Int × Int × Unit)) × Unit)) × (List (Int × Int × Int × Bool × (List (Int × Int × Unit)) × (List (Int × Int × Unit)) × Unit)) × Int × Unit) → Option (((List (Int × Int × Int × Bool × (List (Int × Int × Unit)) × (List (Int × Int × Unit)) × Unit)) × Unit) × (Unit × Unit)) := fun x => match x with
 | (a, out_, i, ()) =>
  br k (decide (i < (a.length : Int)))
  (br k (decide (0 ≤ i))
  (bd k (a[i.toNat]?) fun x1 =>
  bd k (laws_toNode k (x1, ())) fun y2 =>
  br k (decide (0 ≤ i ∧ i < (out_.length : Int)))
  (bd k (out_[i.toNat]?) fun x3 =>
  G0 (a, out_.set i.toNat (y2.1.1.1, y2.1.1.2.1, y2.1.1.2.2.1, y2.1.1.2.2.2.1, y2.1.1.2.2.2.2.1, y2.1.1.2.2.2.2.2.1, ()), IntKind.wrap .i64 (i + 1), ()))
  none)
  none)
  (some ((out_, ()), ((), ())))
noncomputable def laws_toNodeS (k : Nat) : ((List (Int × Int × Int × Bool × (List (Int × Int × Unit)) × (List (Int × Int × Unit)) × Unit)) × Unit) → Option (((List (Int × Int × Int × Bool × (List (Int × Int × Unit)) × (List (Int × Int × Unit)) × Unit)) × Unit) × (Unit × Unit)) := fun x => match x with
 | (a, ()) =>
  br k (decide (0 ≤ (a.length : Int) ∧ (a.length : Int) ≤ (a.length : Int) ∧ (a.length : Int) * 80 ≤ maxBytes))
  (iter (laws_toNodeS.l0 k) k (a, List.replicate (a.length : Int).toNat (Kd.z (.cons (.int .i64) (.cons (.int .i64) (.cons (.int .i64) (.cons .bool (.cons (.sl false (.cons (.int .i64) (.cons (.int .i64) .nil))) (.cons (.sl false (.cons (.int .i64) (.cons (.int .i64) .nil))) .nil))))))), 0, ()))
  none
noncomputable def laws_toNodeS.sg (k : Nat) : Sig := ⟨laws_toNodeS.A, laws_toNodeS.R, laws_toNodeS k⟩
noncomputable def laws_toNodeS.C (k : Nat) : Ctx := ⟨Tryz.prog, [(46, [laws_toNode.sg k])], k⟩
theorem laws_toNodeS.ev (k : Nat) (x : laws_toNodeS.A.T) : evFunc (laws_toNodeS.C k) laws_toNodeS.ann Tryz.f25 laws_toNodeS.A laws_toNodeS.R x = laws_toNodeS k x := by kernel_rfl
theorem laws_toNodeS.ok {L : List (Nat × Obj)}  (k : Nat) : SigHolds Tryz.prog L 25 (laws_toNodeS.sg k) :=
  sig_of_ev (C := laws_toNodeS.C k) (holds_cons (allok_cons (laws_toNode.ok k) allok_nil) holds_nil) (by kernel_rfl) Tryz.func25 (by kernel_rfl) laws_toNodeS.ann laws_toNodeS.A laws_toNodeS.R (fun x y h => (laws_toNodeS.ev k x).trans h) (by kernel_rfl)

/-! loop.example/g00719/laws.toTree -/
def laws_toTree.A : Sh := (.cons (.pur (.cons (.sl false (.cons (.int .i64) (.cons (.int .i64) (.cons (.int .i64) (.cons .bool (.cons (.sl false (.cons (.int .i64) (.cons (.int .i64) .nil))) (.cons (.sl false (.cons (.int .i64) (.cons (.int .i64) .nil))) .nil))))))) .nil)) .nil)
def laws_toTree.R : Sh := (.cons (.agg (.cons (.own (.cons (.int .i64) (.cons (.int .i64) (.cons (.int .i64) (.cons .bool (.cons (.sl false (.cons (.int .i64) (.cons (.int .i64) .nil))) (.cons (.sl false (.cons (.int .i64) (.cons (.int .i64) .nil))) .nil))))))) .nil)) .nil)
def laws_toTree.ann : Ann := { loops := [], joins := [], keys := [] }
noncomputable def laws_toTree (k : Nat) : (((List (Int × Int × Int × Bool × (List (Int × Int × Unit)) × (List (Int × Int × Unit)) × Unit)) × Unit) × Unit) → Option ((((List (Int × Int × Int × Bool × (List (Int × Int × Unit)) × (List (Int × Int × Unit)) × Unit)) × Unit) × Unit) × (Unit × Unit)) := fun x => match x with
 | (a, ()) =>
  bd k (laws_toNodeS k (a.1, ())) fun y1 =>
  some (((y1.1.1, ()), ()), ((), ()))
noncomputable def laws_toTree.sg (k : Nat) : Sig := ⟨laws_toTree.A, laws_toTree.R, laws_toTree k⟩
noncomputable def laws_toTree.C (k : Nat) : Ctx := ⟨Tryz.prog, [(25, [laws_toNodeS.sg k])], k⟩
theorem laws_toTree.ev (k : Nat) (x : laws_toTree.A.T) : evFunc (laws_toTree.C k) laws_toTree.ann Tryz.f9 laws_toTree.A laws_toTree.R x = laws_toTree k x := by kernel_rfl
theorem laws_toTree.ok {L : List (Nat × Obj)}  (k : Nat) : SigHolds Tryz.prog L 9 (laws_toTree.sg k) :=
  sig_of_ev (C := laws_toTree.C k) (holds_cons (allok_cons (laws_toNodeS.ok k) allok_nil) holds_nil) (by kernel_rfl) Tryz.func9 (by kernel_rfl) laws_toTree.ann laws_toTree.A laws_toTree.R (fun x y h => (laws_toTree.ev k x).trans h) (by kernel_rfl)

/-! loop.example/g00719/spec.l1In -/
def spec_l1In.A : Sh := (.cons (.pur (.int .i64)) (.cons (.pur (.int .i64)) (.cons (.pur (.int .i64)) .nil)))
def spec_l1In.R : Sh := (.cons (.pur .bool) .nil)
def spec_l1In.ann : Ann := { loops := [], joins := [(1, [(6, .bool)])], keys := [] }
noncomputable def spec_l1In (k : Nat) : (Int × Int × Int × Unit) → Option ((Bool × Unit) × (Unit × Unit × Unit × Unit)) := fun x => match x with
 | (n, low, high, ()) =>
  (br k (decide (n ≥ low))
  (some (decide (n ≤ high), ()))
  (some (false, ())) : Option (Bool × Unit)).bind fun j1 =>
  some ((j1.1, ()), ((), (), (), ()))
noncomputable def spec_l1In.sg (k : Nat) : Sig := ⟨spec_l1In.A, spec_l1In.R, spec_l1In k⟩
noncomputable def spec_l1In.C (k : Nat) : Ctx := ⟨Tryz.prog, [], k⟩
theorem spec_l1In.ev (k : Nat) (x : spec_l1In.A.T) : evFunc (spec_l1In.C k) spec_l1In.ann Tryz.f87 spec_l1In.A spec_l1In.R x = spec_l1In k x := by kernel_rfl
theorem spec_l1In.ok {L : List (Nat × Obj)}  (k : Nat) : SigHolds Tryz.prog L 87 (spec_l1In.sg k) :=
  sig_of_ev (C := spec_l1In.C k) holds_nil (by kernel_rfl) Tryz.func87 (by kernel_rfl) spec_l1In.ann spec_l1In.A spec_l1In.R (fun x y h => (spec_l1In.ev k x).trans h) (by kernel_rfl)

/-! loop.example/g00719/spec.l3Key -/
def spec_l3Key.A : Sh := (.cons (.pur .str) .nil)
def spec_l3Key.R : Sh := (.cons (.pur .bool) .nil)
def spec_l3Key.ann : Ann := { loops := [(0, [(0, (.pur .str)), (3, (.own .str)), (4, (.pur (.int .i64)))])], joins := [], keys := [] }
noncomputable def spec_l3Key.l0 (k : Nat)  (G0 : ((List UInt8) × (List (List UInt8)) × Int × Unit) → Option ((Bool × Unit) × (Unit × Unit))) : ((List UInt8) × (List (List UInt8)) × Int × Unit) → Option ((Bool × Unit) × (Unit × Unit)) := fun x => match x with
 | (s_, keys, i, ()) =>
  br k (decide (i < (keys.length : Int)))
  (br k (decide (0 ≤ i ∧ i < (keys.length : Int)))
  (bd k (keys[i.toNat]?) fun x1 =>
  br k (x1 == s_)
  (some ((true, ()), ((), ())))
  (G0 (s_, keys, IntKind.wrap .i64 (i + 1), ())))
  none)
  (some ((false, ()), ((), ())))
noncomputable def spec_l3Key (k : Nat) : ((List UInt8) × Unit) → Option ((Bool × Unit) × (Unit × Unit)) := fun x => match x with
 | (s_, ()) =>
  iter (spec_l3Key.l0 k) k (s_, ([[118, 97, 114], [102, 108, 97, 103], [97, 114, 114, 97, 121], [105, 102], [102, 111, 114, 107], [101, 108, 115, 101], [101, 110, 100], [119, 104, 105, 108, 101], [117, 110, 114, 111, 108, 108], [97, 115, 115, 101, 114, 116], [97, 115, 115, 117, 109, 101], [105, 110, 112, 117, 116], [115, 112, 108, 105, 116], [109, 101, 114, 103, 101], [116, 114, 117, 101], [102, 97, 108, 115, 101]] : List (List UInt8)), 0, ())
noncomputable def spec_l3Key.sg (k : Nat) : Sig := ⟨spec_l3Key.A, spec_l3Key.R, spec_l3Key k⟩
noncomputable def spec_l3Key.C (k : Nat) : Ctx := ⟨Tryz.prog, [], k⟩
theorem spec_l3Key.ev (k : Nat) (x : spec_l3Key.A.T) : evFunc (spec_l3Key.C k) spec_l3Key.ann Tryz.f119 spec_l3Key.A spec_l3Key.R x = spec_l3Key k x := by kernel_rfl
theorem spec_l3Key.ok {L : List (Nat × Obj)}  (k : Nat) : SigHolds Tryz.prog L 119 (spec_l3Key.sg k) :=
  sig_of_ev (C := spec_l3Key.C k) holds_nil (by kernel_rfl) Tryz.func119 (by kernel_rfl) spec_l3Key.ann spec_l3Key.A spec_l3Key.R (fun x y h => (spec_l3Key.ev k x).trans h) (by kernel_rfl)

/-! loop.example/g00719/spec.l3Name -/
def spec_l3Name.A : Sh := (.cons (.pur .str) .nil)
def spec_l3Name.R : Sh := (.cons (.pur .bool) .nil)
def spec_l3Name.ann : Ann := { loops := [(0, [(0, (.pur .str)), (3, (.pur (.int .i64)))])], joins := [(4, [(19, .bool)]), (6, [(2, .bool)])], keys := [] }
noncomputable def spec_l3Name.l0 (k : Nat)  (G0 : ((List UInt8) × Int × Unit) → Option ((Bool × Unit) × (Unit × Unit))) : ((List UInt8) × Int × Unit) → Option ((Bool × Unit) × (Unit × Unit)) := fun x => match x with
 | (s_, i, ()) =>
  br k (decide (i < (s_.length : Int)))
  ((br k (decide (0 ≤ i))
  (bd k (s_[i.toNat]?) fun b1 =>
  br k (decide ((b1.toNat : Int) < 97))
  (some (true, ()))
  (br k (decide (0 ≤ i))
  (bd k (s_[i.toNat]?) fun b2 =>
  some (decide ((b2.toNat : Int) > 122), ()))
  none))
  none : Option (Bool × Unit)).bind fun j3 =>
  br k (j3.1)
  (some ((false, ()), ((), ())))
  (G0 (s_, IntKind.wrap .i64 (i + 1), ())))
  ((bd k (spec_l1In k ((s_.length : Int), 1, 8, ())) fun y4 =>
  br k (y4.1.1)
  (bd k (spec_l3Key k (s_, ())) fun y5 =>
  some (!y5.1.1, ()))
  (some (false, ())) : Option (Bool × Unit)).bind fun j6 =>
  some ((j6.1, ()), ((), ())))
noncomputable def spec_l3Name (k : Nat) : ((List UInt8) × Unit) → Option ((Bool × Unit) × (Unit × Unit)) := fun x => match x with
 | (s_, ()) =>
  iter (spec_l3Name.l0 k) k (s_, 0, ())
noncomputable def spec_l3Name.sg (k : Nat) : Sig := ⟨spec_l3Name.A, spec_l3Name.R, spec_l3Name k⟩
noncomputable def spec_l3Name.C (k : Nat) : Ctx := ⟨Tryz.prog, [(87, [spec_l1In.sg k]), (119, [spec_l3Key.sg k])], k⟩
theorem spec_l3Name.ev (k : Nat) (x : spec_l3Name.A.T) : evFunc (spec_l3Name.C k) spec_l3Name.ann Tryz.f88 spec_l3Name.A spec_l3Name.R x = spec_l3Name k x := by kernel_rfl
theorem spec_l3Name.ok {L : List (Nat × Obj)}  (k : Nat) : SigHolds Tryz.prog L 88 (spec_l3Name.sg k) :=
  sig_of_ev (C := spec_l3Name.C k) (holds_cons (allok_cons (spec_l1In.ok k) allok_nil) (holds_cons (allok_cons (spec_l3Key.ok k) allok_nil) holds_nil)) (by kernel_rfl) Tryz.func88 (by kernel_rfl) spec_l3Name.ann spec_l3Name.A spec_l3Name.R (fun x y h => (spec_l3Name.ev k x).trans h) (by kernel_rfl)

/-! loop.example/g00719/spec.l3Place -/
def spec_l3Place.A : Sh := (.cons (.pur (.sl false .str)) (.cons (.pur .str) .nil))
def spec_l3Place.R : Sh := (.cons (.pur (.int .i64)) .nil)
def spec_l3Place.ann : Ann := { loops := [(0, [(0, (.pur (.sl false .str))), (1, (.pur .str)), (5, (.pur (.int .i64)))])], joins := [], keys := [] }
noncomputable def spec_l3Place.l0 (k : Nat)  (G0 : ((List (List UInt8)) × (List UInt8) × Int × Unit) → Option ((Int × Unit) × (Unit × Unit × Unit))) : ((List (List UInt8)) × (List UInt8) × Int × Unit) → Option ((Int × Unit) × (Unit × Unit × Unit)) := fun x => match x with
 | (l_, s_, i, ()) =>
  br k (decide (i < (l_.length : Int)))
  (br k (decide (0 ≤ i))
  (bd k (l_[i.toNat]?) fun x1 =>
  br k (x1 == s_)
  (some ((i, ()), ((), (), ())))
  (G0 (l_, s_, IntKind.wrap .i64 (i + 1), ())))
  none)
  (some (((-1), ()), ((), (), ())))
noncomputable def spec_l3Place (k : Nat) : ((List (List UInt8)) × (List UInt8) × Unit) → Option ((Int × Unit) × (Unit × Unit × Unit)) := fun x => match x with
 | (l_, s_, ()) =>
  iter (spec_l3Place.l0 k) k (l_, s_, 0, ())
noncomputable def spec_l3Place.sg (k : Nat) : Sig := ⟨spec_l3Place.A, spec_l3Place.R, spec_l3Place k⟩
noncomputable def spec_l3Place.C (k : Nat) : Ctx := ⟨Tryz.prog, [], k⟩
theorem spec_l3Place.ev (k : Nat) (x : spec_l3Place.A.T) : evFunc (spec_l3Place.C k) spec_l3Place.ann Tryz.f89 spec_l3Place.A spec_l3Place.R x = spec_l3Place k x := by kernel_rfl
theorem spec_l3Place.ok {L : List (Nat × Obj)}  (k : Nat) : SigHolds Tryz.prog L 89 (spec_l3Place.sg k) :=
  sig_of_ev (C := spec_l3Place.C k) holds_nil (by kernel_rfl) Tryz.func89 (by kernel_rfl) spec_l3Place.ann spec_l3Place.A spec_l3Place.R (fun x y h => (spec_l3Place.ev k x).trans h) (by kernel_rfl)

/-! loop.example/g00719/spec.DeclOk -/
def spec_DeclOk.A : Sh := (.cons (.pur (.cons (.sl false .str) (.cons (.sl false .str) (.cons (.sl false (.cons .str (.cons (.int .i64) .nil))) .nil)))) .nil)
def spec_DeclOk.R : Sh := (.cons (.pur .bool) .nil)
def spec_DeclOk.ann : Ann := { loops := [(0, [(1, (.box (.cons (.pur (.sl false .str)) (.cons (.pur (.sl false .str)) (.cons (.pur (.sl false (.cons .str (.cons (.int .i64) .nil)))) .nil))))), (3, (.own .str)), (4, (.pur (.int .i64)))]), (2, [(3, (.own .str)), (5, (.pur (.int .i64)))])], joins := [(1, [(21, .bool)]), (13, [(75, .bool)])], keys := [(3, [([22], true), ([1], false), ([1], false), ([22, 25], true), ([1], false), ([1], false), ([25, 28], true), ([], false)])] }
noncomputable def spec_DeclOk.l2 (k : Nat)  (G2 : ((List (List UInt8)) × Int × Unit) → Option ((Bool × Unit) × (Unit × Unit))) : ((List (List UInt8)) × Int × Unit) → Option ((Bool × Unit) × (Unit × Unit)) := fun x => match x with
 | (all, i, ()) =>
  br k (decide (i < (all.length : Int)))
  ((br k (decide (0 ≤ i ∧ i < (all.length : Int)))
  (bd k (all[i.toNat]?) fun x5 =>
  bd k (spec_l3Name k (x5, ())) fun y6 =>
  br k (!y6.1.1)
  (some (true, ()))
  (br k (decide (0 ≤ i ∧ i ≤ (all.length : Int)))
  (br k (decide (0 ≤ i ∧ i < (all.length : Int)))
  (bd k (all[i.toNat]?) fun x7 =>
  bd k (spec_l3Place k (subL all ((0 : Int).toNat) (i.toNat - (0 : Int).toNat), x7, ())) fun y8 =>
  some (decide (y8.1.1 ≥ 0), ()))
  none)
  none))
  none : Option (Bool × Unit)).bind fun j9 =>
  br k (j9.1)
  (some ((false, ()), ((), ())))
  (G2 (all, IntKind.wrap .i64 (i + 1), ())))
  (some ((true, ()), ((), ())))
noncomputable def spec_DeclOk.l0 (k : Nat)  (G0 : (((List (List UInt8)) × (List (List UInt8)) × (List ((List UInt8) × Int × Unit)) × Unit) × (List (List UInt8)) × Int × Unit) → Option ((Bool × Unit) × (Unit × Unit))) : (((List (List UInt8)) × (List (List UInt8)) × (List ((List UInt8) × Int × Unit)) × Unit) × (List (List UInt8)) × Int × Unit) → Option ((Bool × Unit) × (Unit × Unit)) := fun x => match x with
 | ((d__0, d__1, d__2, ()), all, i, ()) =>
  br k (decide (i < (d__2.length : Int)))
  (br k (decide (0 ≤ i))
  (bd k (d__2[i.toNat]?) fun x2 =>
  bd k (spec_l1In k (x2.2.1, 1, 16, ())) fun y3 =>
  br k (!y3.1.1)
  (some ((false, ()), ((), ())))
  (br k (decide (0 ≤ i))
  (bd k (d__2[i.toNat]?) fun x4 =>
  br k (decide ((all.length + ([x4.1] : List (List UInt8)).length) * 16 ≤ maxBytes))
  (G0 ((d__0, d__1, d__2, ()), all ++ ([x4.1] : List (List UInt8)), IntKind.wrap .i64 (i + 1), ()))
  none)
  none))
  none)
  (iter (spec_DeclOk.l2 k) k (all, 0, ()))
noncomputable def spec_DeclOk (k : Nat) : (((List (List UInt8)) × (List (List UInt8)) × (List ((List UInt8) × Int × Unit)) × Unit) × Unit) → Option ((Bool × Unit) × (Unit × Unit)) := fun x => match x with
 | (d_, ()) =>
  (br k (decide ((d_.1.length : Int) > 5))
  (some (true, ()))
  (br k (decide ((d_.2.1.length : Int) > 3))
  (some (true, ()))
  (some (decide ((d_.2.2.1.length : Int) > 2), ()))) : Option (Bool × Unit)).bind fun j1 =>
  br k (j1.1)
  (some ((false, ()), ((), ())))
  (br k (decide ((([] : List (List UInt8)).length + d_.1.length) * 16 ≤ maxBytes))
  (br k (decide (((([] : List (List UInt8)) ++ d_.1).length + d_.2.1.length) * 16 ≤ maxBytes))
  (iter (spec_DeclOk.l0 k) k ((d_.1, d_.2.1, d_.2.2.1, ()), (([] : List (List UInt8)) ++ d_.1) ++ d_.2.1, 0, ()))
  none)
  none)
noncomputable def spec_DeclOk.sg (k : Nat) : Sig := ⟨spec_DeclOk.A, spec_DeclOk.R, spec_DeclOk k⟩
noncomputable def spec_DeclOk.C (k : Nat) : Ctx := ⟨Tryz.prog, [(87, [spec_l1In.sg k]), (88, [spec_l3Name.sg k]), (89, [spec_l3Place.sg k])], k⟩
theorem spec_DeclOk.ev (k : Nat) (x : spec_DeclOk.A.T) : evFunc (spec_DeclOk.C k) spec_DeclOk.ann Tryz.f54 spec_DeclOk.A spec_DeclOk.R x = spec_DeclOk k x := by kernel_rfl
theorem spec_DeclOk.ok {L : List (Nat × Obj)}  (k : Nat) : SigHolds Tryz.prog L 54 (spec_DeclOk.sg k) :=
  sig_of_ev (C := spec_DeclOk.C k) (holds_cons (allok_cons (spec_l1In.ok k) allok_nil) (holds_cons (allok_cons (spec_l3Name.ok k) allok_nil) (holds_cons (allok_cons (spec_l3Place.ok k) allok_nil) holds_nil))) (by kernel_rfl) Tryz.func54 (by kernel_rfl) spec_DeclOk.ann spec_DeclOk.A spec_DeclOk.R (fun x y h => (spec_DeclOk.ev k x).trans h) (by kernel_rfl)

/-! loop.example/g00719/spec.l8Size -/
def spec_l8Size.A : Sh := (.cons (.pur (.cons (.sl false .str) (.cons (.sl false .str) (.cons (.sl false (.cons .str (.cons (.int .i64) .nil))) .nil)))) .nil)
def spec_l8Size.R : Sh := (.cons (.pur (.int .i64)) .nil)
def spec_l8Size.ann : Ann := { loops := [], joins := [], keys := [] }
noncomputable def spec_l8Size (k : Nat) : (((List (List UInt8)) × (List (List UInt8)) × (List ((List UInt8) × Int × Unit)) × Unit) × Unit) → Option ((Int × Unit) × (Unit × Unit)) := fun x => match x with
 | (d_, ()) =>
  br k (decide (0 ≤ (IntKind.wrap .u64 (d_.2.1.length : Int))))
  (some ((IntKind.wrap .i64 (1 * 2 ^ (min (IntKind.wrap .u64 (d_.2.1.length : Int)).toNat 64)), ()), ((), ())))
  none
noncomputable def spec_l8Size.sg (k : Nat) : Sig := ⟨spec_l8Size.A, spec_l8Size.R, spec_l8Size k⟩
noncomputable def spec_l8Size.C (k : Nat) : Ctx := ⟨Tryz.prog, [], k⟩
theorem spec_l8Size.ev (k : Nat) (x : spec_l8Size.A.T) : evFunc (spec_l8Size.C k) spec_l8Size.ann Tryz.f73 spec_l8Size.A spec_l8Size.R x = spec_l8Size k x := by kernel_rfl
theorem spec_l8Size.ok {L : List (Nat × Obj)}  (k : Nat) : SigHolds Tryz.prog L 73 (spec_l8Size.sg k) :=
  sig_of_ev (C := spec_l8Size.C k) holds_nil (by kernel_rfl) Tryz.func73 (by kernel_rfl) spec_l8Size.ann spec_l8Size.A spec_l8Size.R (fun x y h => (spec_l8Size.ev k x).trans h) (by kernel_rfl)

/-! loop.example/g00719/spec.l8Ask -/
def spec_l8Ask.A : Sh := (.cons (.pur (.cons (.sl false (.cons (.int .i64) (.cons (.int .i64) (.cons (.int .i64) (.cons .bool (.cons (.sl false (.cons (.int .i64) (.cons (.int .i64) .nil))) (.cons (.sl false (.cons (.int .i64) (.cons (.int .i64) .nil))) .nil))))))) .nil)) (.cons (.pur (.int .i64)) .nil))
def spec_l8Ask.R : Sh := (.cons (.pur (.cons .bool (.cons (.sl false (.cons (.int .i64) (.cons (.int .i64) .nil))) (.cons (.sl false (.cons (.int .i64) (.cons (.int .i64) .nil))) .nil)))) (.cons (.pur .bool) .nil))
def spec_l8Ask.ann : Ann := { loops := [(0, [(1, (.pur (.int .i64))), (2, (.box (.cons (.pur (.sl false (.cons (.int .i64) (.cons (.int .i64) (.cons (.int .i64) (.cons .bool (.cons (.sl false (.cons (.int .i64) (.cons (.int .i64) .nil))) (.cons (.sl false (.cons (.int .i64) (.cons (.int .i64) .nil))) .nil)))))))) .nil))), (4, (.box (.cons (.pur .bool) (.cons (.own (.cons (.int .i64) (.cons (.int .i64) .nil))) (.cons (.own (.cons (.int .i64) (.cons (.int .i64) .nil))) .nil))))), (6, (.pur (.int .i64))), (7, (.pur (.int .i64)))])], joins := [(3, [(22, .bool)])], keys := [] }
noncomputable def spec_l8Ask.l0 (k : Nat)  (G0 : (Int × ((List (Int × Int × Int × Bool × (List (Int × Int × Unit)) × (List (Int × Int × Unit)) × Unit)) × Unit) × (Bool × (List (Int × Int × Unit)) × (List (Int × Int × Unit)) × Unit) × Int × Int × Unit) → Option (((Bool × (List (Int × Int × Unit)) × (List (Int × Int × Unit)) × Unit) × Bool × Unit) × (Unit × Unit × Unit))) : (Int × ((List (Int × Int × Int × Bool × (List (Int × Int × Unit)) × (List (Int × Int × Unit)) × Unit)) × Unit) × (Bool × (List (Int × Int × Unit)) × (List (Int × Int × Unit)) × Unit) × Int × Int × Unit) → Option (((Bool × (List (Int × Int × Unit)) × (List (Int × Int × Unit)) × Unit) × Bool × Unit) × (Unit × Unit × Unit)) := fun x => match x with
 | (leaf, (t_0, ()), (t4_0, t4_1, t4_2, ()), at_, i, ()) =>
  (br k (decide (i < 5))
  (bd k (spec_l1In k (at_, 0, IntKind.wrap .i64 ((t_0.length : Int) - 1), ())) fun y1 =>
  some (y1.1.1, ()))
  (some (false, ())) : Option (Bool × Unit)).bind fun j2 =>
  br k (j2.1)
  (br k (decide (0 ≤ at_))
  (bd k (t_0[at_.toNat]?) fun x3 =>
  br k (x3.1 == (-1))
  (some (((x3.2.2.2.1, x3.2.2.2.2.1, x3.2.2.2.2.2.1, ()), true, ()), ((), (), ())))
  (bd k (spec_l1In k (x3.1, 0, 2, ())) fun y4 =>
  br k (!y4.1.1)
  (some (((false, [], [], ()), false, ()), ((), (), ())))
  (br k (decide (0 ≤ (IntKind.wrap .u64 x3.1)))
  (br k ((IntKind.wrap .i64 (((BitVec.ofInt 64 (leaf.fdiv (2 ^ (min (IntKind.wrap .u64 x3.1).toNat 64))) &&& BitVec.ofInt 64 1).toNat : Int))) == 1)
  (G0 (leaf, (t_0, ()), (t4_0, t4_1, t4_2, ()), x3.2.2.1, IntKind.wrap .i64 (i + 1), ()))
  (G0 (leaf, (t_0, ()), (t4_0, t4_1, t4_2, ()), x3.2.1, IntKind.wrap .i64 (i + 1), ())))
  none)))
  none)
  (some (((false, [], [], ()), false, ()), ((), (), ())))
noncomputable def spec_l8Ask (k : Nat) : (((List (Int × Int × Int × Bool × (List (Int × Int × Unit)) × (List (Int × Int × Unit)) × Unit)) × Unit) × Int × Unit) → Option (((Bool × (List (Int × Int × Unit)) × (List (Int × Int × Unit)) × Unit) × Bool × Unit) × (Unit × Unit × Unit)) := fun x => match x with
 | (t, leaf, ()) =>
  iter (spec_l8Ask.l0 k) k (leaf, (t.1, ()), (false, [], [], ()), IntKind.wrap .i64 ((t.1.length : Int) - 1), 0, ())
noncomputable def spec_l8Ask.sg (k : Nat) : Sig := ⟨spec_l8Ask.A, spec_l8Ask.R, spec_l8Ask k⟩
noncomputable def spec_l8Ask.C (k : Nat) : Ctx := ⟨Tryz.prog, [(87, [spec_l1In.sg k])], k⟩
theorem spec_l8Ask.ev (k : Nat) (x : spec_l8Ask.A.T) : evFunc (spec_l8Ask.C k) spec_l8Ask.ann Tryz.f74 spec_l8Ask.A spec_l8Ask.R x = spec_l8Ask k x := by kernel_rfl
theorem spec_l8Ask.ok {L : List (Nat × Obj)}  (k : Nat) : SigHolds Tryz.prog L 74 (spec_l8Ask.sg k) :=
  sig_of_ev (C := spec_l8Ask.C k) (holds_cons (allok_cons (spec_l1In.ok k) allok_nil) holds_nil) (by kernel_rfl) Tryz.func74 (by kernel_rfl) spec_l8Ask.ann spec_l8Ask.A spec_l8Ask.R (fun x y h => (spec_l8Ask.ev k x).trans h) (by kernel_rfl)

/-! loop.example/g00719/spec.l6Copy -/
def spec_l6Copy.A : Sh := (.cons (.pur (.cons .bool (.cons (.sl false (.cons (.int .i64) (.cons (.int .i64) .nil))) (.cons (.sl false (.cons (.int .i64) (.cons (.int .i64) .nil))) .nil)))) .nil)
def spec_l6Copy.R : Sh := (.cons (.agg (.cons (.pur .bool) (.cons (.own (.cons (.int .i64) (.cons (.int .i64) .nil))) (.cons (.own (.cons (.int .i64) (.cons (.int .i64) .nil))) .nil)))) .nil)
def spec_l6Copy.ann : Ann := { loops := [], joins := [], keys := [(1, [([1], false), ([1], false), ([5], true), ([1], false), ([1], false), ([5, 8], true), ([9], true), ([1], false), ([1], false), ([9, 12], true), ([8, 12], false), ([2, 8, 12], true)])] }
noncomputable def spec_l6Copy (k : Nat) : ((Bool × (List (Int × Int × Unit)) × (List (Int × Int × Unit)) × Unit) × Unit) → Option (((Bool × (List (Int × Int × Unit)) × (List (Int × Int × Unit)) × Unit) × Unit) × (Unit × Unit)) := fun x => match x with
 | (e_, ()) =>
  br k (decide ((([] : List (Int × Int × Unit)).length + e_.2.1.length) * 16 ≤ maxBytes))
  (br k (decide ((([] : List (Int × Int × Unit)).length + e_.2.2.1.length) * 16 ≤ maxBytes))
  (some (((e_.1, ([] : List (Int × Int × Unit)) ++ e_.2.1, ([] : List (Int × Int × Unit)) ++ e_.2.2.1, ()), ()), ((), ())))
  none)
  none
noncomputable def spec_l6Copy.sg (k : Nat) : Sig := ⟨spec_l6Copy.A, spec_l6Copy.R, spec_l6Copy k⟩
noncomputable def spec_l6Copy.C (k : Nat) : Ctx := ⟨Tryz.prog, [], k⟩
theorem spec_l6Copy.ev (k : Nat) (x : spec_l6Copy.A.T) : evFunc (spec_l6Copy.C k) spec_l6Copy.ann Tryz.f75 spec_l6Copy.A spec_l6Copy.R x = spec_l6Copy k x := by kernel_rfl
theorem spec_l6Copy.ok {L : List (Nat × Obj)}  (k : Nat) : SigHolds Tryz.prog L 75 (spec_l6Copy.sg k) :=
  sig_of_ev (C := spec_l6Copy.C k) holds_nil (by kernel_rfl) Tryz.func75 (by kernel_rfl) spec_l6Copy.ann spec_l6Copy.A spec_l6Copy.R (fun x y h => (spec_l6Copy.ev k x).trans h) (by kernel_rfl)

/-! loop.example/g00719/spec.l6List -/
def spec_l6List.A : Sh := (.cons (.pur (.cons .bool (.cons (.sl false (.cons (.int .i64) (.cons (.int .i64) .nil))) (.cons (.sl false (.cons (.int .i64) (.cons (.int .i64) .nil))) .nil)))) .nil)
def spec_l6List.R : Sh := (.cons (.own (.cons (.int .i64) (.cons (.int .i64) .nil))) .nil)
def spec_l6List.ann : Ann := { loops := [], joins := [], keys := [(1, [([3], true), ([1], false), ([1], false), ([3, 6], true), ([1], false), ([1], false), ([6, 9], true), ([], false)])] }
noncomputable def spec_l6List (k : Nat) : ((Bool × (List (Int × Int × Unit)) × (List (Int × Int × Unit)) × Unit) × Unit) → Option (((List (Int × Int × Unit)) × Unit) × (Unit × Unit)) := fun x => match x with
 | (e_, ()) =>
  br k (decide ((([] : List (Int × Int × Unit)).length + e_.2.1.length) * 16 ≤ maxBytes))
  (br k (decide (((([] : List (Int × Int × Unit)) ++ e_.2.1).length + e_.2.2.1.length) * 16 ≤ maxBytes))
  (some (((([] : List (Int × Int × Unit)) ++ e_.2.1) ++ e_.2.2.1, ()), ((), ())))
  none)
  none
noncomputable def spec_l6List.sg (k : Nat) : Sig := ⟨spec_l6List.A, spec_l6List.R, spec_l6List k⟩
noncomputable def spec_l6List.C (k : Nat) : Ctx := ⟨Tryz.prog, [], k⟩
theorem spec_l6List.ev (k : Nat) (x : spec_l6List.A.T) : evFunc (spec_l6List.C k) spec_l6List.ann Tryz.f120 spec_l6List.A spec_l6List.R x = spec_l6List k x := by kernel_rfl
theorem spec_l6List.ok {L : List (Nat × Obj)}  (k : Nat) : SigHolds Tryz.prog L 120 (spec_l6List.sg k) :=
  sig_of_ev (C := spec_l6List.C k) holds_nil (by kernel_rfl) Tryz.func120 (by kernel_rfl) spec_l6List.ann spec_l6List.A spec_l6List.R (fun x y h => (spec_l6List.ev k x).trans h) (by kernel_rfl)

/-! loop.example/g00719/spec.IvOk -/
def spec_IvOk.A : Sh := (.cons (.pur (.cons (.int .i64) (.cons (.int .i64) .nil))) .nil)
def spec_IvOk.R : Sh := (.cons (.pur .bool) .nil)
def spec_IvOk.ann : Ann := { loops := [], joins := [], keys := [] }
noncomputable def spec_IvOk (k : Nat) : ((Int × Int × Unit) × Unit) → Option ((Bool × Unit) × (Unit × Unit)) := fun x => match x with
 | (a, ()) =>
  some ((decide (a.1 ≤ a.2.1), ()), ((), ()))
noncomputable def spec_IvOk.sg (k : Nat) : Sig := ⟨spec_IvOk.A, spec_IvOk.R, spec_IvOk k⟩
noncomputable def spec_IvOk.C (k : Nat) : Ctx := ⟨Tryz.prog, [], k⟩
theorem spec_IvOk.ev (k : Nat) (x : spec_IvOk.A.T) : evFunc (spec_IvOk.C k) spec_IvOk.ann Tryz.f121 spec_IvOk.A spec_IvOk.R x = spec_IvOk k x := by kernel_rfl
theorem spec_IvOk.ok {L : List (Nat × Obj)}  (k : Nat) : SigHolds Tryz.prog L 121 (spec_IvOk.sg k) :=
  sig_of_ev (C := spec_IvOk.C k) holds_nil (by kernel_rfl) Tryz.func121 (by kernel_rfl) spec_IvOk.ann spec_IvOk.A spec_IvOk.R (fun x y h => (spec_IvOk.ev k x).trans h) (by kernel_rfl)

end Go.Pev.F
