/-
  Printed by gen.py: what functions of the program compute, and that they do.
-/
import Derived.Test.YtamhcmffadindaaGreatDoorK09
open Go.Proofs Go.Pev
namespace Go.Pev.F
set_option maxRecDepth 100000
set_option linter.unusedVariables false

/-! loop.example/g00719/laws.eqStringS -/
def laws_eqStringS.A : Sh := (.cons (.pur (.sl false .str)) (.cons (.pur (.sl false .str)) .nil))
def laws_eqStringS.R : Sh := (.cons (.pur .bool) .nil)
def laws_eqStringS.ann : Ann := { loops := [(0, [(0, (.pur (.sl false .str))), (1, (.pur (.sl false .str))), (5, (.pur (.int .i64)))])], joins := [], keys := [] }
noncomputable def laws_eqStringS.l0 (k : Nat)  (G0 : ((List (List UInt8)) × (List (List UInt8)) × Int × Unit) → Option ((Bool × Unit) × (Unit × Unit × Unit))) : ((List (List UInt8)) × (List (List UInt8)) × Int × Unit) → Option ((Bool × Unit) × (Unit × Unit × Unit)) := fun x => match x with
 | (a, b_, i, ()) =>
  br k (decide (i < (a.length : Int)))
  (br k (decide (0 ≤ i))
  (bd k (a[i.toNat]?) fun x1 =>
  br k (decide (0 ≤ i))
  (bd k (b_[i.toNat]?) fun x2 =>
  br k (!(x1 == x2))
  (some ((false, ()), ((), (), ())))
  (G0 (a, b_, IntKind.wrap .i64 (i + 1), ())))
  none)
  none)
  (some ((true, ()), ((), (), ())))
noncomputable def laws_eqStringS (k : Nat) : ((List (List UInt8)) × (List (List UInt8)) × Unit) → Option ((Bool × Unit) × (Unit × Unit × Unit)) := fun x => match x with
 | (a, b_, ()) =>
  br k ((a.length : Int) != (b_.length : Int))
  (some ((false, ()), ((), (), ())))
  (iter (laws_eqStringS.l0 k) k (a, b_, 0, ()))
noncomputable def laws_eqStringS.sg (k : Nat) : Sig := ⟨laws_eqStringS.A, laws_eqStringS.R, laws_eqStringS k⟩
noncomputable def laws_eqStringS.C (k : Nat) : Ctx := ⟨Tryz.prog, [], k⟩
theorem laws_eqStringS.ev (k : Nat) (x : laws_eqStringS.A.T) : evFunc (laws_eqStringS.C k) laws_eqStringS.ann Tryz.f68 laws_eqStringS.A laws_eqStringS.R x = laws_eqStringS k x := by kernel_rfl
theorem laws_eqStringS.ok {L : List (Nat × Obj)}  (k : Nat) : SigHolds Tryz.prog L 68 (laws_eqStringS.sg k) :=
  sig_of_ev (C := laws_eqStringS.C k) holds_nil (by kernel_rfl) Tryz.func68 (by kernel_rfl) laws_eqStringS.ann laws_eqStringS.A laws_eqStringS.R (fun x y h => (laws_eqStringS.ev k x).trans h) (by kernel_rfl)

/-! loop.example/g00719/laws.eqArr -/
def laws_eqArr.A : Sh := (.cons (.pur (.cons .str (.cons (.int .i64) .nil))) (.cons (.pur (.cons .str (.cons (.int .i64) .nil))) .nil))
def laws_eqArr.R : Sh := (.cons (.pur .bool) .nil)
def laws_eqArr.ann : Ann := { loops := [], joins := [], keys := [] }
noncomputable def laws_eqArr (k : Nat) : (((List UInt8) × Int × Unit) × ((List UInt8) × Int × Unit) × Unit) → Option ((Bool × Unit) × (Unit × Unit × Unit)) := fun x => match x with
 | (a, b_, ()) =>
  br k (!(a.1 == b_.1))
  (some ((false, ()), ((), (), ())))
  (br k (a.2.1 != b_.2.1)
  (some ((false, ()), ((), (), ())))
  (some ((true, ()), ((), (), ()))))
noncomputable def laws_eqArr.sg (k : Nat) : Sig := ⟨laws_eqArr.A, laws_eqArr.R, laws_eqArr k⟩
noncomputable def laws_eqArr.C (k : Nat) : Ctx := ⟨Tryz.prog, [], k⟩
theorem laws_eqArr.ev (k : Nat) (x : laws_eqArr.A.T) : evFunc (laws_eqArr.C k) laws_eqArr.ann Tryz.f116 laws_eqArr.A laws_eqArr.R x = laws_eqArr k x := by kernel_rfl
theorem laws_eqArr.ok {L : List (Nat × Obj)}  (k : Nat) : SigHolds Tryz.prog L 116 (laws_eqArr.sg k) :=
  sig_of_ev (C := laws_eqArr.C k) holds_nil (by kernel_rfl) Tryz.func116 (by kernel_rfl) laws_eqArr.ann laws_eqArr.A laws_eqArr.R (fun x y h => (laws_eqArr.ev k x).trans h) (by kernel_rfl)

/-! loop.example/g00719/laws.eqArrS -/
def laws_eqArrS.A : Sh := (.cons (.pur (.sl false (.cons .str (.cons (.int .i64) .nil)))) (.cons (.pur (.sl false (.cons .str (.cons (.int .i64) .nil)))) .nil))
def laws_eqArrS.R : Sh := (.cons (.pur .bool) .nil)
def laws_eqArrS.ann : Ann := { loops := [(0, [(0, (.pur (.sl false (.cons .str (.cons (.int .i64) .nil))))), (1, (.pur (.sl false (.cons .str (.cons (.int .i64) .nil))))), (5, (.pur (.int .i64)))])], joins := [], keys := [] }
noncomputable def laws_eqArrS.l0 (k : Nat)  (G0 : ((List ((List UInt8) × Int × Unit)) × (List ((List UInt8) × Int × Unit)) × Int × Unit) → Option ((Bool × Unit) × (Unit × Unit × Unit))) : ((List ((List UInt8) × Int × Unit)) × (List ((List UInt8) × Int × Unit)) × Int × Unit) → Option ((Bool × Unit) × (Unit × Unit × Unit)) := fun x => match x with
 | (a, b_, i, ()) =>
  br k (decide (i < (a.length : Int)))
  (br k (decide (0 ≤ i))
  (bd k (a[i.toNat]?) fun x1 =>
  br k (decide (0 ≤ i))
  (bd k (b_[i.toNat]?) fun x2 =>
  bd k (laws_eqArr k (x1, x2, ())) fun y3 =>
  br k (!y3.1.1)
  (some ((false, ()), ((), (), ())))
  (G0 (a, b_, IntKind.wrap .i64 (i + 1), ())))
  none)
  none)
  (some ((true, ()), ((), (), ())))
noncomputable def laws_eqArrS (k : Nat) : ((List ((List UInt8) × Int × Unit)) × (List ((List UInt8) × Int × Unit)) × Unit) → Option ((Bool × Unit) × (Unit × Unit × Unit)) := fun x => match x with
 | (a, b_, ()) =>
  br k ((a.length : Int) != (b_.length : Int))
  (some ((false, ()), ((), (), ())))
  (iter (laws_eqArrS.l0 k) k (a, b_, 0, ()))
noncomputable def laws_eqArrS.sg (k : Nat) : Sig := ⟨laws_eqArrS.A, laws_eqArrS.R, laws_eqArrS k⟩
noncomputable def laws_eqArrS.C (k : Nat) : Ctx := ⟨Tryz.prog, [(116, [laws_eqArr.sg k])], k⟩
theorem laws_eqArrS.ev (k : Nat) (x : laws_eqArrS.A.T) : evFunc (laws_eqArrS.C k) laws_eqArrS.ann Tryz.f69 laws_eqArrS.A laws_eqArrS.R x = laws_eqArrS k x := by kernel_rfl
theorem laws_eqArrS.ok {L : List (Nat × Obj)}  (k : Nat) : SigHolds Tryz.prog L 69 (laws_eqArrS.sg k) :=
  sig_of_ev (C := laws_eqArrS.C k) (holds_cons (allok_cons (laws_eqArr.ok k) allok_nil) holds_nil) (by kernel_rfl) Tryz.func69 (by kernel_rfl) laws_eqArrS.ann laws_eqArrS.A laws_eqArrS.R (fun x y h => (laws_eqArrS.ev k x).trans h) (by kernel_rfl)

/-! loop.example/g00719/laws.eqDecl -/
def laws_eqDecl.A : Sh := (.cons (.pur (.cons (.sl false .str) (.cons (.sl false .str) (.cons (.sl false (.cons .str (.cons (.int .i64) .nil))) .nil)))) (.cons (.pur (.cons (.sl false .str) (.cons (.sl false .str) (.cons (.sl false (.cons .str (.cons (.int .i64) .nil))) .nil)))) .nil))
def laws_eqDecl.R : Sh := (.cons (.pur .bool) .nil)
def laws_eqDecl.ann : Ann := { loops := [], joins := [], keys := [] }
noncomputable def laws_eqDecl (k : Nat) : (((List (List UInt8)) × (List (List UInt8)) × (List ((List UInt8) × Int × Unit)) × Unit) × ((List (List UInt8)) × (List (List UInt8)) × (List ((List UInt8) × Int × Unit)) × Unit) × Unit) → Option ((Bool × Unit) × (Unit × Unit × Unit)) := fun x => match x with
 | (a, b_, ()) =>
  bd k (laws_eqStringS k (a.1, b_.1, ())) fun y1 =>
  br k (!y1.1.1)
  (some ((false, ()), ((), (), ())))
  (bd k (laws_eqStringS k (a.2.1, b_.2.1, ())) fun y2 =>
  br k (!y2.1.1)
  (some ((false, ()), ((), (), ())))
  (bd k (laws_eqArrS k (a.2.2.1, b_.2.2.1, ())) fun y3 =>
  br k (!y3.1.1)
  (some ((false, ()), ((), (), ())))
  (some ((true, ()), ((), (), ())))))
noncomputable def laws_eqDecl.sg (k : Nat) : Sig := ⟨laws_eqDecl.A, laws_eqDecl.R, laws_eqDecl k⟩
noncomputable def laws_eqDecl.C (k : Nat) : Ctx := ⟨Tryz.prog, [(68, [laws_eqStringS.sg k]), (69, [laws_eqArrS.sg k])], k⟩
theorem laws_eqDecl.ev (k : Nat) (x : laws_eqDecl.A.T) : evFunc (laws_eqDecl.C k) laws_eqDecl.ann Tryz.f32 laws_eqDecl.A laws_eqDecl.R x = laws_eqDecl k x := by kernel_rfl
theorem laws_eqDecl.ok {L : List (Nat × Obj)}  (k : Nat) : SigHolds Tryz.prog L 32 (laws_eqDecl.sg k) :=
  sig_of_ev (C := laws_eqDecl.C k) (holds_cons (allok_cons (laws_eqStringS.ok k) allok_nil) (holds_cons (allok_cons (laws_eqArrS.ok k) allok_nil) holds_nil)) (by kernel_rfl) Tryz.func32 (by kernel_rfl) laws_eqDecl.ann laws_eqDecl.A laws_eqDecl.R (fun x y h => (laws_eqDecl.ev k x).trans h) (by kernel_rfl)

/-! loop.example/g00719/laws.eqTok -/
def laws_eqTok.A : Sh := (.cons (.pur (.cons (.int .i64) (.cons (.int .i64) .nil))) (.cons (.pur (.cons (.int .i64) (.cons (.int .i64) .nil))) .nil))
def laws_eqTok.R : Sh := (.cons (.pur .bool) .nil)
def laws_eqTok.ann : Ann := { loops := [], joins := [], keys := [] }
noncomputable def laws_eqTok (k : Nat) : ((Int × Int × Unit) × (Int × Int × Unit) × Unit) → Option ((Bool × Unit) × (Unit × Unit × Unit)) := fun x => match x with
 | (a, b_, ()) =>
  br k (a.1 != b_.1)
  (some ((false, ()), ((), (), ())))
  (br k (a.2.1 != b_.2.1)
  (some ((false, ()), ((), (), ())))
  (some ((true, ()), ((), (), ()))))
noncomputable def laws_eqTok.sg (k : Nat) : Sig := ⟨laws_eqTok.A, laws_eqTok.R, laws_eqTok k⟩
noncomputable def laws_eqTok.C (k : Nat) : Ctx := ⟨Tryz.prog, [], k⟩
theorem laws_eqTok.ev (k : Nat) (x : laws_eqTok.A.T) : evFunc (laws_eqTok.C k) laws_eqTok.ann Tryz.f153 laws_eqTok.A laws_eqTok.R x = laws_eqTok k x := by kernel_rfl
theorem laws_eqTok.ok {L : List (Nat × Obj)}  (k : Nat) : SigHolds Tryz.prog L 153 (laws_eqTok.sg k) :=
  sig_of_ev (C := laws_eqTok.C k) holds_nil (by kernel_rfl) Tryz.func153 (by kernel_rfl) laws_eqTok.ann laws_eqTok.A laws_eqTok.R (fun x y h => (laws_eqTok.ev k x).trans h) (by kernel_rfl)

/-! loop.example/g00719/laws.eqTokS -/
def laws_eqTokS.A : Sh := (.cons (.pur (.sl false (.cons (.int .i64) (.cons (.int .i64) .nil)))) (.cons (.pur (.sl false (.cons (.int .i64) (.cons (.int .i64) .nil)))) .nil))
def laws_eqTokS.R : Sh := (.cons (.pur .bool) .nil)
def laws_eqTokS.ann : Ann := { loops := [(0, [(0, (.pur (.sl false (.cons (.int .i64) (.cons (.int .i64) .nil))))), (1, (.pur (.sl false (.cons (.int .i64) (.cons (.int .i64) .nil))))), (5, (.pur (.int .i64)))])], joins := [], keys := [] }
noncomputable def laws_eqTokS.l0 (k : Nat)  (G0 : ((List (Int × Int × Unit)) × (List (Int × Int × Unit)) × Int × Unit) → Option ((Bool × Unit) × (Unit × Unit × Unit))) : ((List (Int × Int × Unit)) × (List (Int × Int × Unit)) × Int × Unit) → Option ((Bool × Unit) × (Unit × Unit × Unit)) := fun x => match x with
 | (a, b_, i, ()) =>
  br k (decide (i < (a.length : Int)))
  (br k (decide (0 ≤ i))
  (bd k (a[i.toNat]?) fun x1 =>
  br k (decide (0 ≤ i))
  (bd k (b_[i.toNat]?) fun x2 =>
  bd k (laws_eqTok k (x1, x2, ())) fun y3 =>
  br k (!y3.1.1)
  (some ((false, ()), ((), (), ())))
  (G0 (a, b_, IntKind.wrap .i64 (i + 1), ())))
  none)
  none)
  (some ((true, ()), ((), (), ())))
noncomputable def laws_eqTokS (k : Nat) : ((List (Int × Int × Unit)) × (List (Int × Int × Unit)) × Unit) → Option ((Bool × Unit) × (Unit × Unit × Unit)) := fun x => match x with
 | (a, b_, ()) =>
  br k ((a.length : Int) != (b_.length : Int))
  (some ((false, ()), ((), (), ())))
  (iter (laws_eqTokS.l0 k) k (a, b_, 0, ()))
noncomputable def laws_eqTokS.sg (k : Nat) : Sig := ⟨laws_eqTokS.A, laws_eqTokS.R, laws_eqTokS k⟩
noncomputable def laws_eqTokS.C (k : Nat) : Ctx := ⟨Tryz.prog, [(153, [laws_eqTok.sg k])], k⟩
theorem laws_eqTokS.ev (k : Nat) (x : laws_eqTokS.A.T) : evFunc (laws_eqTokS.C k) laws_eqTokS.ann Tryz.f117 laws_eqTokS.A laws_eqTokS.R x = laws_eqTokS k x := by kernel_rfl
theorem laws_eqTokS.ok {L : List (Nat × Obj)}  (k : Nat) : SigHolds Tryz.prog L 117 (laws_eqTokS.sg k) :=
  sig_of_ev (C := laws_eqTokS.C k) (holds_cons (allok_cons (laws_eqTok.ok k) allok_nil) holds_nil) (by kernel_rfl) Tryz.func117 (by kernel_rfl) laws_eqTokS.ann laws_eqTokS.A laws_eqTokS.R (fun x y h => (laws_eqTokS.ev k x).trans h) (by kernel_rfl)

/-! loop.example/g00719/laws.eqLine -/
def laws_eqLine.A : Sh := (.cons (.pur (.cons (.int .i64) (.cons (.int .i64) (.cons (.sl false (.cons (.int .i64) (.cons (.int .i64) .nil))) (.cons (.sl false (.cons (.int .i64) (.cons (.int .i64) .nil))) (.cons (.int .i64) (.cons (.int .i64) .nil))))))) (.cons (.pur (.cons (.int .i64) (.cons (.int .i64) (.cons (.sl false (.cons (.int .i64) (.cons (.int .i64) .nil))) (.cons (.sl false (.cons (.int .i64) (.cons (.int .i64) .nil))) (.cons (.int .i64) (.cons (.int .i64) .nil))))))) .nil))
def laws_eqLine.R : Sh := (.cons (.pur .bool) .nil)
def laws_eqLine.ann : Ann := { loops := [], joins := [], keys := [] }
noncomputable def laws_eqLine (k : Nat) : ((Int × Int × (List (Int × Int × Unit)) × (List (Int × Int × Unit)) × Int × Int × Unit) × (Int × Int × (List (Int × Int × Unit)) × (List (Int × Int × Unit)) × Int × Int × Unit) × Unit) → Option ((Bool × Unit) × (Unit × Unit × Unit)) := fun x => match x with
 | (a, b_, ()) =>
  br k (a.1 != b_.1)
  (some ((false, ()), ((), (), ())))
  (br k (a.2.1 != b_.2.1)
  (some ((false, ()), ((), (), ())))
  (bd k (laws_eqTokS k (a.2.2.1, b_.2.2.1, ())) fun y1 =>
  br k (!y1.1.1)
  (some ((false, ()), ((), (), ())))
  (bd k (laws_eqTokS k (a.2.2.2.1, b_.2.2.2.1, ())) fun y2 =>
  br k (!y2.1.1)
  (some ((false, ()), ((), (), ())))
  (br k (a.2.2.2.2.1 != b_.2.2.2.2.1)
  (some ((false, ()), ((), (), ())))
  (br k (a.2.2.2.2.2.1 != b_.2.2.2.2.2.1)
  (some ((false, ()), ((), (), ())))
  (some ((true, ()), ((), (), ()))))))))
noncomputable def laws_eqLine.sg (k : Nat) : Sig := ⟨laws_eqLine.A, laws_eqLine.R, laws_eqLine k⟩
noncomputable def laws_eqLine.C (k : Nat) : Ctx := ⟨Tryz.prog, [(117, [laws_eqTokS.sg k])], k⟩
theorem laws_eqLine.ev (k : Nat) (x : laws_eqLine.A.T) : evFunc (laws_eqLine.C k) laws_eqLine.ann Tryz.f70 laws_eqLine.A laws_eqLine.R x = laws_eqLine k x := by kernel_rfl
theorem laws_eqLine.ok {L : List (Nat × Obj)}  (k : Nat) : SigHolds Tryz.prog L 70 (laws_eqLine.sg k) :=
  sig_of_ev (C := laws_eqLine.C k) (holds_cons (allok_cons (laws_eqTokS.ok k) allok_nil) holds_nil) (by kernel_rfl) Tryz.func70 (by kernel_rfl) laws_eqLine.ann laws_eqLine.A laws_eqLine.R (fun x y h => (laws_eqLine.ev k x).trans h) (by kernel_rfl)

/-! loop.example/g00719/laws.eqLineS -/
def laws_eqLineS.A : Sh := (.cons (.pur (.sl false (.cons (.int .i64) (.cons (.int .i64) (.cons (.sl false (.cons (.int .i64) (.cons (.int .i64) .nil))) (.cons (.sl false (.cons (.int .i64) (.cons (.int .i64) .nil))) (.cons (.int .i64) (.cons (.int .i64) .nil)))))))) (.cons (.pur (.sl false (.cons (.int .i64) (.cons (.int .i64) (.cons (.sl false (.cons (.int .i64) (.cons (.int .i64) .nil))) (.cons (.sl false (.cons (.int .i64) (.cons (.int .i64) .nil))) (.cons (.int .i64) (.cons (.int .i64) .nil)))))))) .nil))
def laws_eqLineS.R : Sh := (.cons (.pur .bool) .nil)
def laws_eqLineS.ann : Ann := { loops := [(0, [(0, (.pur (.sl false (.cons (.int .i64) (.cons (.int .i64) (.cons (.sl false (.cons (.int .i64) (.cons (.int .i64) .nil))) (.cons (.sl false (.cons (.int .i64) (.cons (.int .i64) .nil))) (.cons (.int .i64) (.cons (.int .i64) .nil))))))))), (1, (.pur (.sl false (.cons (.int .i64) (.cons (.int .i64) (.cons (.sl false (.cons (.int .i64) (.cons (.int .i64) .nil))) (.cons (.sl false (.cons (.int .i64) (.cons (.int .i64) .nil))) (.cons (.int .i64) (.cons (.int .i64) .nil))))))))), (5, (.pur (.int .i64)))])], joins := [], keys := [] }
noncomputable def laws_eqLineS.l0 (k : Nat)  (G0 : ((List (Int × Int × (List (Int × Int × Unit)) × (List (Int × Int × Unit)) × Int × Int × Unit)) × (List (Int × Int × (List (Int × Int × Unit)) × (List (Int × Int × Unit)) × Int × Int × Unit)) × Int × Unit) → Option ((Bool × Unit) × (Unit × Unit × Unit))) : ((List (Int × Int × (List (Int × Int × Unit)) × (List (Int × Int × Unit)) × Int × Int × Unit)) × (List (Int × Int × (List (Int × Int × Unit)) × (List (Int × Int × Unit)) × Int × Int × Unit)) × Int × Unit) → Option ((Bool × Unit) × (Unit × Unit × Unit)) := fun x => match x with
 | (a, b_, i, ()) =>
  br k (decide (i < (a.length : Int)))
  (br k (decide (0 ≤ i))
  (bd k (a[i.toNat]?) fun x1 =>
  br k (decide (0 ≤ i))
  (bd k (b_[i.toNat]?) fun x2 =>
  bd k (laws_eqLine k (x1, x2, ())) fun y3 =>
  br k (!y3.1.1)
  (some ((false, ()), ((), (), ())))
  (G0 (a, b_, IntKind.wrap .i64 (i + 1), ())))
  none)
  none)
  (some ((true, ()), ((), (), ())))
noncomputable def laws_eqLineS (k : Nat) : ((List (Int × Int × (List (Int × Int × Unit)) × (List (Int × Int × Unit)) × Int × Int × Unit)) × (List (Int × Int × (List (Int × Int × Unit)) × (List (Int × Int × Unit)) × Int × Int × Unit)) × Unit) → Option ((Bool × Unit) × (Unit × Unit × Unit)) := fun x => match x with
 | (a, b_, ()) =>
  br k ((a.length : Int) != (b_.length : Int))
  (some ((false, ()), ((), (), ())))
  (iter (laws_eqLineS.l0 k) k (a, b_, 0, ()))
noncomputable def laws_eqLineS.sg (k : Nat) : Sig := ⟨laws_eqLineS.A, laws_eqLineS.R, laws_eqLineS k⟩
noncomputable def laws_eqLineS.C (k : Nat) : Ctx := ⟨Tryz.prog, [(70, [laws_eqLine.sg k])], k⟩
theorem laws_eqLineS.ev (k : Nat) (x : laws_eqLineS.A.T) : evFunc (laws_eqLineS.C k) laws_eqLineS.ann Tryz.f33 laws_eqLineS.A laws_eqLineS.R x = laws_eqLineS k x := by kernel_rfl
theorem laws_eqLineS.ok {L : List (Nat × Obj)}  (k : Nat) : SigHolds Tryz.prog L 33 (laws_eqLineS.sg k) :=
  sig_of_ev (C := laws_eqLineS.C k) (holds_cons (allok_cons (laws_eqLine.ok k) allok_nil) holds_nil) (by kernel_rfl) Tryz.func33 (by kernel_rfl) laws_eqLineS.ann laws_eqLineS.A laws_eqLineS.R (fun x y h => (laws_eqLineS.ev k x).trans h) (by kernel_rfl)

/-! loop.example/g00719/laws.eqProg -/
def laws_eqProg.A : Sh := (.cons (.pur (.cons (.sl false .str) (.cons (.sl false .str) (.cons (.sl false (.cons .str (.cons (.int .i64) .nil))) (.cons (.sl false (.cons (.int .i64) (.cons (.int .i64) (.cons (.sl false (.cons (.int .i64) (.cons (.int .i64) .nil))) (.cons (.sl false (.cons (.int .i64) (.cons (.int .i64) .nil))) (.cons (.int .i64) (.cons (.int .i64) .nil))))))) .nil))))) (.cons (.pur (.cons (.sl false .str) (.cons (.sl false .str) (.cons (.sl false (.cons .str (.cons (.int .i64) .nil))) (.cons (.sl false (.cons (.int .i64) (.cons (.int .i64) (.cons (.sl false (.cons (.int .i64) (.cons (.int .i64) .nil))) (.cons (.sl false (.cons (.int .i64) (.cons (.int .i64) .nil))) (.cons (.int .i64) (.cons (.int .i64) .nil))))))) .nil))))) .nil))
def laws_eqProg.R : Sh := (.cons (.pur .bool) .nil)
def laws_eqProg.ann : Ann := { loops := [], joins := [], keys := [] }
noncomputable def laws_eqProg (k : Nat) : (((List (List UInt8)) × (List (List UInt8)) × (List ((List UInt8) × Int × Unit)) × (List (Int × Int × (List (Int × Int × Unit)) × (List (Int × Int × Unit)) × Int × Int × Unit)) × Unit) × ((List (List UInt8)) × (List (List UInt8)) × (List ((List UInt8) × Int × Unit)) × (List (Int × Int × (List (Int × Int × Unit)) × (List (Int × Int × Unit)) × Int × Int × Unit)) × Unit) × Unit) → Option ((Bool × Unit) × (Unit × Unit × Unit)) := fun x => match x with
 | (a, b_, ()) =>
  bd k (laws_eqDecl k ((a.1, a.2.1, a.2.2.1, ()), (b_.1, b_.2.1, b_.2.2.1, ()), ())) fun y1 =>
  br k (!y1.1.1)
  (some ((false, ()), ((), (), ())))
  (bd k (laws_eqLineS k (a.2.2.2.1, b_.2.2.2.1, ())) fun y2 =>
  br k (!y2.1.1)
  (some ((false, ()), ((), (), ())))
  (some ((true, ()), ((), (), ()))))
noncomputable def laws_eqProg.sg (k : Nat) : Sig := ⟨laws_eqProg.A, laws_eqProg.R, laws_eqProg k⟩
noncomputable def laws_eqProg.C (k : Nat) : Ctx := ⟨Tryz.prog, [(32, [laws_eqDecl.sg k]), (33, [laws_eqLineS.sg k])], k⟩
theorem laws_eqProg.ev (k : Nat) (x : laws_eqProg.A.T) : evFunc (laws_eqProg.C k) laws_eqProg.ann Tryz.f12 laws_eqProg.A laws_eqProg.R x = laws_eqProg k x := by kernel_rfl
theorem laws_eqProg.ok {L : List (Nat × Obj)}  (k : Nat) : SigHolds Tryz.prog L 12 (laws_eqProg.sg k) :=
  sig_of_ev (C := laws_eqProg.C k) (holds_cons (allok_cons (laws_eqDecl.ok k) allok_nil) (holds_cons (allok_cons (laws_eqLineS.ok k) allok_nil) holds_nil)) (by kernel_rfl) Tryz.func12 (by kernel_rfl) laws_eqProg.ann laws_eqProg.A laws_eqProg.R (fun x y h => (laws_eqProg.ev k x).trans h) (by kernel_rfl)

/-! loop.example/g00719/laws.eqEntry -/
def laws_eqEntry.A : Sh := (.cons (.pur (.cons (.int .i64) (.cons (.int .i64) .nil))) (.cons (.pur (.cons (.int .i64) (.cons (.int .i64) .nil))) .nil))
def laws_eqEntry.R : Sh := (.cons (.pur .bool) .nil)
def laws_eqEntry.ann : Ann := { loops := [], joins := [], keys := [] }
noncomputable def laws_eqEntry (k : Nat) : ((Int × Int × Unit) × (Int × Int × Unit) × Unit) → Option ((Bool × Unit) × (Unit × Unit × Unit)) := fun x => match x with
 | (a, b_, ()) =>
  br k (a.1 != b_.1)
  (some ((false, ()), ((), (), ())))
  (br k (a.2.1 != b_.2.1)
  (some ((false, ()), ((), (), ())))
  (some ((true, ()), ((), (), ()))))
noncomputable def laws_eqEntry.sg (k : Nat) : Sig := ⟨laws_eqEntry.A, laws_eqEntry.R, laws_eqEntry k⟩
noncomputable def laws_eqEntry.C (k : Nat) : Ctx := ⟨Tryz.prog, [], k⟩
theorem laws_eqEntry.ev (k : Nat) (x : laws_eqEntry.A.T) : evFunc (laws_eqEntry.C k) laws_eqEntry.ann Tryz.f72 laws_eqEntry.A laws_eqEntry.R x = laws_eqEntry k x := by kernel_rfl
theorem laws_eqEntry.ok {L : List (Nat × Obj)}  (k : Nat) : SigHolds Tryz.prog L 72 (laws_eqEntry.sg k) :=
  sig_of_ev (C := laws_eqEntry.C k) holds_nil (by kernel_rfl) Tryz.func72 (by kernel_rfl) laws_eqEntry.ann laws_eqEntry.A laws_eqEntry.R (fun x y h => (laws_eqEntry.ev k x).trans h) (by kernel_rfl)

/-! loop.example/g00719/laws.eqEntryS -/
def laws_eqEntryS.A : Sh := (.cons (.pur (.sl false (.cons (.int .i64) (.cons (.int .i64) .nil)))) (.cons (.pur (.sl false (.cons (.int .i64) (.cons (.int .i64) .nil)))) .nil))
def laws_eqEntryS.R : Sh := (.cons (.pur .bool) .nil)
def laws_eqEntryS.ann : Ann := { loops := [(0, [(0, (.pur (.sl false (.cons (.int .i64) (.cons (.int .i64) .nil))))), (1, (.pur (.sl false (.cons (.int .i64) (.cons (.int .i64) .nil))))), (5, (.pur (.int .i64)))])], joins := [], keys := [] }
noncomputable def laws_eqEntryS.l0 (k : Nat)  (G0 : ((List (Int × Int × Unit)) × (List (Int × Int × Unit)) × Int × Unit) → Option ((Bool × Unit) × (Unit × Unit × Unit))) : ((List (Int × Int × Unit)) × (List (Int × Int × Unit)) × Int × Unit) → Option ((Bool × Unit) × (Unit × Unit × Unit)) := fun x => match x with
 | (a, b_, i, ()) =>
  br k (decide (i < (a.length : Int)))
  (br k (decide (0 ≤ i))
  (bd k (a[i.toNat]?) fun x1 =>
  br k (decide (0 ≤ i))
  (bd k (b_[i.toNat]?) fun x2 =>
  bd k (laws_eqEntry k (x1, x2, ())) fun y3 =>
  br k (!y3.1.1)
  (some ((false, ()), ((), (), ())))
  (G0 (a, b_, IntKind.wrap .i64 (i + 1), ())))
  none)
  none)
  (some ((true, ()), ((), (), ())))
noncomputable def laws_eqEntryS (k : Nat) : ((List (Int × Int × Unit)) × (List (Int × Int × Unit)) × Unit) → Option ((Bool × Unit) × (Unit × Unit × Unit)) := fun x => match x with
 | (a, b_, ()) =>
  br k ((a.length : Int) != (b_.length : Int))
  (some ((false, ()), ((), (), ())))
  (iter (laws_eqEntryS.l0 k) k (a, b_, 0, ()))
noncomputable def laws_eqEntryS.sg (k : Nat) : Sig := ⟨laws_eqEntryS.A, laws_eqEntryS.R, laws_eqEntryS k⟩
noncomputable def laws_eqEntryS.C (k : Nat) : Ctx := ⟨Tryz.prog, [(72, [laws_eqEntry.sg k])], k⟩
theorem laws_eqEntryS.ev (k : Nat) (x : laws_eqEntryS.A.T) : evFunc (laws_eqEntryS.C k) laws_eqEntryS.ann Tryz.f35 laws_eqEntryS.A laws_eqEntryS.R x = laws_eqEntryS k x := by kernel_rfl
theorem laws_eqEntryS.ok {L : List (Nat × Obj)}  (k : Nat) : SigHolds Tryz.prog L 35 (laws_eqEntryS.sg k) :=
  sig_of_ev (C := laws_eqEntryS.C k) (holds_cons (allok_cons (laws_eqEntry.ok k) allok_nil) holds_nil) (by kernel_rfl) Tryz.func35 (by kernel_rfl) laws_eqEntryS.ann laws_eqEntryS.A laws_eqEntryS.R (fun x y h => (laws_eqEntryS.ev k x).trans h) (by kernel_rfl)

/-! loop.example/g00719/laws.eqInterval -/
def laws_eqInterval.A : Sh := (.cons (.pur (.cons (.int .i64) (.cons (.int .i64) .nil))) (.cons (.pur (.cons (.int .i64) (.cons (.int .i64) .nil))) .nil))
def laws_eqInterval.R : Sh := (.cons (.pur .bool) .nil)
def laws_eqInterval.ann : Ann := { loops := [], joins := [], keys := [] }
noncomputable def laws_eqInterval (k : Nat) : ((Int × Int × Unit) × (Int × Int × Unit) × Unit) → Option ((Bool × Unit) × (Unit × Unit × Unit)) := fun x => match x with
 | (a, b_, ()) =>
  br k (a.1 != b_.1)
  (some ((false, ()), ((), (), ())))
  (br k (a.2.1 != b_.2.1)
  (some ((false, ()), ((), (), ())))
  (some ((true, ()), ((), (), ()))))
noncomputable def laws_eqInterval.sg (k : Nat) : Sig := ⟨laws_eqInterval.A, laws_eqInterval.R, laws_eqInterval k⟩
noncomputable def laws_eqInterval.C (k : Nat) : Ctx := ⟨Tryz.prog, [], k⟩
theorem laws_eqInterval.ev (k : Nat) (x : laws_eqInterval.A.T) : evFunc (laws_eqInterval.C k) laws_eqInterval.ann Tryz.f198 laws_eqInterval.A laws_eqInterval.R x = laws_eqInterval k x := by kernel_rfl
theorem laws_eqInterval.ok {L : List (Nat × Obj)}  (k : Nat) : SigHolds Tryz.prog L 198 (laws_eqInterval.sg k) :=
  sig_of_ev (C := laws_eqInterval.C k) holds_nil (by kernel_rfl) Tryz.func198 (by kernel_rfl) laws_eqInterval.ann laws_eqInterval.A laws_eqInterval.R (fun x y h => (laws_eqInterval.ev k x).trans h) (by kernel_rfl)

/-! loop.example/g00719/laws.eqIntervalS -/
def laws_eqIntervalS.A : Sh := (.cons (.pur (.sl false (.cons (.int .i64) (.cons (.int .i64) .nil)))) (.cons (.pur (.sl false (.cons (.int .i64) (.cons (.int .i64) .nil)))) .nil))
def laws_eqIntervalS.R : Sh := (.cons (.pur .bool) .nil)
def laws_eqIntervalS.ann : Ann := { loops := [(0, [(0, (.pur (.sl false (.cons (.int .i64) (.cons (.int .i64) .nil))))), (1, (.pur (.sl false (.cons (.int .i64) (.cons (.int .i64) .nil))))), (5, (.pur (.int .i64)))])], joins := [], keys := [] }
noncomputable def laws_eqIntervalS.l0 (k : Nat)  (G0 : ((List (Int × Int × Unit)) × (List (Int × Int × Unit)) × Int × Unit) → Option ((Bool × Unit) × (Unit × Unit × Unit))) : ((List (Int × Int × Unit)) × (List (Int × Int × Unit)) × Int × Unit) → Option ((Bool × Unit) × (Unit × Unit × Unit)) := fun x => match x with
 | (a, b_, i, ()) =>
  br k (decide (i < (a.length : Int)))
  (br k (decide (0 ≤ i))
  (bd k (a[i.toNat]?) fun x1 =>
  br k (decide (0 ≤ i))
  (bd k (b_[i.toNat]?) fun x2 =>
  bd k (laws_eqInterval k (x1, x2, ())) fun y3 =>
  br k (!y3.1.1)
  (some ((false, ()), ((), (), ())))
  (G0 (a, b_, IntKind.wrap .i64 (i + 1), ())))
  none)
  none)
  (some ((true, ()), ((), (), ())))
noncomputable def laws_eqIntervalS (k : Nat) : ((List (Int × Int × Unit)) × (List (Int × Int × Unit)) × Unit) → Option ((Bool × Unit) × (Unit × Unit × Unit)) := fun x => match x with
 | (a, b_, ()) =>
  br k ((a.length : Int) != (b_.length : Int))
  (some ((false, ()), ((), (), ())))
  (iter (laws_eqIntervalS.l0 k) k (a, b_, 0, ()))
noncomputable def laws_eqIntervalS.sg (k : Nat) : Sig := ⟨laws_eqIntervalS.A, laws_eqIntervalS.R, laws_eqIntervalS k⟩
noncomputable def laws_eqIntervalS.C (k : Nat) : Ctx := ⟨Tryz.prog, [(198, [laws_eqInterval.sg k])], k⟩
theorem laws_eqIntervalS.ev (k : Nat) (x : laws_eqIntervalS.A.T) : evFunc (laws_eqIntervalS.C k) laws_eqIntervalS.ann Tryz.f191 laws_eqIntervalS.A laws_eqIntervalS.R x = laws_eqIntervalS k x := by kernel_rfl
theorem laws_eqIntervalS.ok {L : List (Nat × Obj)}  (k : Nat) : SigHolds Tryz.prog L 191 (laws_eqIntervalS.sg k) :=
  sig_of_ev (C := laws_eqIntervalS.C k) (holds_cons (allok_cons (laws_eqInterval.ok k) allok_nil) holds_nil) (by kernel_rfl) Tryz.func191 (by kernel_rfl) laws_eqIntervalS.ann laws_eqIntervalS.A laws_eqIntervalS.R (fun x y h => (laws_eqIntervalS.ev k x).trans h) (by kernel_rfl)

/-! loop.example/g00719/laws.eqEnv -/
def laws_eqEnv.A : Sh := (.cons (.pur (.cons .bool (.cons (.sl false (.cons (.int .i64) (.cons (.int .i64) .nil))) (.cons (.sl false (.cons (.int .i64) (.cons (.int .i64) .nil))) .nil)))) (.cons (.pur (.cons .bool (.cons (.sl false (.cons (.int .i64) (.cons (.int .i64) .nil))) (.cons (.sl false (.cons (.int .i64) (.cons (.int .i64) .nil))) .nil)))) .nil))
def laws_eqEnv.R : Sh := (.cons (.pur .bool) .nil)
def laws_eqEnv.ann : Ann := { loops := [], joins := [], keys := [] }
noncomputable def laws_eqEnv (k : Nat) : ((Bool × (List (Int × Int × Unit)) × (List (Int × Int × Unit)) × Unit) × (Bool × (List (Int × Int × Unit)) × (List (Int × Int × Unit)) × Unit) × Unit) → Option ((Bool × Unit) × (Unit × Unit × Unit)) := fun x => match x with
 | (a, b_, ()) =>
  br k (!(a.1 == b_.1))
  (some ((false, ()), ((), (), ())))
  (bd k (laws_eqIntervalS k (a.2.1, b_.2.1, ())) fun y1 =>
  br k (!y1.1.1)
  (some ((false, ()), ((), (), ())))
  (bd k (laws_eqIntervalS k (a.2.2.1, b_.2.2.1, ())) fun y2 =>
  br k (!y2.1.1)
  (some ((false, ()), ((), (), ())))
  (some ((true, ()), ((), (), ())))))
noncomputable def laws_eqEnv.sg (k : Nat) : Sig := ⟨laws_eqEnv.A, laws_eqEnv.R, laws_eqEnv k⟩
noncomputable def laws_eqEnv.C (k : Nat) : Ctx := ⟨Tryz.prog, [(191, [laws_eqIntervalS.sg k])], k⟩
theorem laws_eqEnv.ev (k : Nat) (x : laws_eqEnv.A.T) : evFunc (laws_eqEnv.C k) laws_eqEnv.ann Tryz.f177 laws_eqEnv.A laws_eqEnv.R x = laws_eqEnv k x := by kernel_rfl
theorem laws_eqEnv.ok {L : List (Nat × Obj)}  (k : Nat) : SigHolds Tryz.prog L 177 (laws_eqEnv.sg k) :=
  sig_of_ev (C := laws_eqEnv.C k) (holds_cons (allok_cons (laws_eqIntervalS.ok k) allok_nil) holds_nil) (by kernel_rfl) Tryz.func177 (by kernel_rfl) laws_eqEnv.ann laws_eqEnv.A laws_eqEnv.R (fun x y h => (laws_eqEnv.ev k x).trans h) (by kernel_rfl)

/-! loop.example/g00719/laws.eqEnvS -/
def laws_eqEnvS.A : Sh := (.cons (.pur (.sl false (.cons .bool (.cons (.sl false (.cons (.int .i64) (.cons (.int .i64) .nil))) (.cons (.sl false (.cons (.int .i64) (.cons (.int .i64) .nil))) .nil))))) (.cons (.pur (.sl false (.cons .bool (.cons (.sl false (.cons (.int .i64) (.cons (.int .i64) .nil))) (.cons (.sl false (.cons (.int .i64) (.cons (.int .i64) .nil))) .nil))))) .nil))
def laws_eqEnvS.R : Sh := (.cons (.pur .bool) .nil)
def laws_eqEnvS.ann : Ann := { loops := [(0, [(0, (.pur (.sl false (.cons .bool (.cons (.sl false (.cons (.int .i64) (.cons (.int .i64) .nil))) (.cons (.sl false (.cons (.int .i64) (.cons (.int .i64) .nil))) .nil)))))), (1, (.pur (.sl false (.cons .bool (.cons (.sl false (.cons (.int .i64) (.cons (.int .i64) .nil))) (.cons (.sl false (.cons (.int .i64) (.cons (.int .i64) .nil))) .nil)))))), (5, (.pur (.int .i64)))])], joins := [], keys := [] }
noncomputable def laws_eqEnvS.l0 (k : Nat)  (G0 : ((List (Bool × (List (Int × Int × Unit)) × (List (Int × Int × Unit)) × Unit)) × (List (Bool × (List (Int × Int × Unit)) × (List (Int × Int × Unit)) × Unit)) × Int × Unit) → Option ((Bool × Unit) × (Unit × Unit × Unit))) : ((List (Bool × (List (Int × Int × Unit)) × (List (Int × Int × Unit)) × Unit)) × (List (Bool × (List (Int × Int × Unit)) × (List (Int × Int × Unit)) × Unit)) × Int × Unit) → Option ((Bool × Unit) × (Unit × Unit × Unit)) := fun x => match x with
 | (a, b_, i, ()) =>
  br k (decide (i < (a.length : Int)))
  (br k (decide (0 ≤ i))
  (bd k (a[i.toNat]?) fun x1 =>
  br k (decide (0 ≤ i))
  (bd k (b_[i.toNat]?) fun x2 =>
  bd k (laws_eqEnv k (x1, x2, ())) fun y3 =>
  br k (!y3.1.1)
  (some ((false, ()), ((), (), ())))
  (G0 (a, b_, IntKind.wrap .i64 (i + 1), ())))
  none)
  none)
  (some ((true, ()), ((), (), ())))
noncomputable def laws_eqEnvS (k : Nat) : ((List (Bool × (List (Int × Int × Unit)) × (List (Int × Int × Unit)) × Unit)) × (List (Bool × (List (Int × Int × Unit)) × (List (Int × Int × Unit)) × Unit)) × Unit) → Option ((Bool × Unit) × (Unit × Unit × Unit)) := fun x => match x with
 | (a, b_, ()) =>
  br k ((a.length : Int) != (b_.length : Int))
  (some ((false, ()), ((), (), ())))
  (iter (laws_eqEnvS.l0 k) k (a, b_, 0, ()))
noncomputable def laws_eqEnvS.sg (k : Nat) : Sig := ⟨laws_eqEnvS.A, laws_eqEnvS.R, laws_eqEnvS k⟩
noncomputable def laws_eqEnvS.C (k : Nat) : Ctx := ⟨Tryz.prog, [(177, [laws_eqEnv.sg k])], k⟩
theorem laws_eqEnvS.ev (k : Nat) (x : laws_eqEnvS.A.T) : evFunc (laws_eqEnvS.C k) laws_eqEnvS.ann Tryz.f154 laws_eqEnvS.A laws_eqEnvS.R x = laws_eqEnvS k x := by kernel_rfl
theorem laws_eqEnvS.ok {L : List (Nat × Obj)}  (k : Nat) : SigHolds Tryz.prog L 154 (laws_eqEnvS.sg k) :=
  sig_of_ev (C := laws_eqEnvS.C k) (holds_cons (allok_cons (laws_eqEnv.ok k) allok_nil) holds_nil) (by kernel_rfl) Tryz.func154 (by kernel_rfl) laws_eqEnvS.ann laws_eqEnvS.A laws_eqEnvS.R (fun x y h => (laws_eqEnvS.ev k x).trans h) (by kernel_rfl)

/-! loop.example/g00719/laws.eqPart -/
def laws_eqPart.A : Sh := (.cons (.pur (.cons (.sl false (.cons (.int .i64) (.cons (.int .i64) .nil))) (.cons (.sl false (.cons .bool (.cons (.sl false (.cons (.int .i64) (.cons (.int .i64) .nil))) (.cons (.sl false (.cons (.int .i64) (.cons (.int .i64) .nil))) .nil)))) .nil))) (.cons (.pur (.cons (.sl false (.cons (.int .i64) (.cons (.int .i64) .nil))) (.cons (.sl false (.cons .bool (.cons (.sl false (.cons (.int .i64) (.cons (.int .i64) .nil))) (.cons (.sl false (.cons (.int .i64) (.cons (.int .i64) .nil))) .nil)))) .nil))) .nil))
def laws_eqPart.R : Sh := (.cons (.pur .bool) .nil)
def laws_eqPart.ann : Ann := { loops := [], joins := [], keys := [] }
noncomputable def laws_eqPart (k : Nat) : (((List (Int × Int × Unit)) × (List (Bool × (List (Int × Int × Unit)) × (List (Int × Int × Unit)) × Unit)) × Unit) × ((List (Int × Int × Unit)) × (List (Bool × (List (Int × Int × Unit)) × (List (Int × Int × Unit)) × Unit)) × Unit) × Unit) → Option ((Bool × Unit) × (Unit × Unit × Unit)) := fun x => match x with
 | (a, b_, ()) =>
  bd k (laws_eqEntryS k (a.1, b_.1, ())) fun y1 =>
  br k (!y1.1.1)
  (some ((false, ()), ((), (), ())))
  (bd k (laws_eqEnvS k (a.2.1, b_.2.1, ())) fun y2 =>
  br k (!y2.1.1)
  (some ((false, ()), ((), (), ())))
  (some ((true, ()), ((), (), ()))))
noncomputable def laws_eqPart.sg (k : Nat) : Sig := ⟨laws_eqPart.A, laws_eqPart.R, laws_eqPart k⟩
noncomputable def laws_eqPart.C (k : Nat) : Ctx := ⟨Tryz.prog, [(35, [laws_eqEntryS.sg k]), (154, [laws_eqEnvS.sg k])], k⟩
theorem laws_eqPart.ev (k : Nat) (x : laws_eqPart.A.T) : evFunc (laws_eqPart.C k) laws_eqPart.ann Tryz.f118 laws_eqPart.A laws_eqPart.R x = laws_eqPart k x := by kernel_rfl
theorem laws_eqPart.ok {L : List (Nat × Obj)}  (k : Nat) : SigHolds Tryz.prog L 118 (laws_eqPart.sg k) :=
  sig_of_ev (C := laws_eqPart.C k) (holds_cons (allok_cons (laws_eqEntryS.ok k) allok_nil) (holds_cons (allok_cons (laws_eqEnvS.ok k) allok_nil) holds_nil)) (by kernel_rfl) Tryz.func118 (by kernel_rfl) laws_eqPart.ann laws_eqPart.A laws_eqPart.R (fun x y h => (laws_eqPart.ev k x).trans h) (by kernel_rfl)

/-! loop.example/g00719/laws.eqPartS -/
def laws_eqPartS.A : Sh := (.cons (.pur (.sl false (.cons (.sl false (.cons (.int .i64) (.cons (.int .i64) .nil))) (.cons (.sl false (.cons .bool (.cons (.sl false (.cons (.int .i64) (.cons (.int .i64) .nil))) (.cons (.sl false (.cons (.int .i64) (.cons (.int .i64) .nil))) .nil)))) .nil)))) (.cons (.pur (.sl false (.cons (.sl false (.cons (.int .i64) (.cons (.int .i64) .nil))) (.cons (.sl false (.cons .bool (.cons (.sl false (.cons (.int .i64) (.cons (.int .i64) .nil))) (.cons (.sl false (.cons (.int .i64) (.cons (.int .i64) .nil))) .nil)))) .nil)))) .nil))
def laws_eqPartS.R : Sh := (.cons (.pur .bool) .nil)
def laws_eqPartS.ann : Ann := { loops := [(0, [(0, (.pur (.sl false (.cons (.sl false (.cons (.int .i64) (.cons (.int .i64) .nil))) (.cons (.sl false (.cons .bool (.cons (.sl false (.cons (.int .i64) (.cons (.int .i64) .nil))) (.cons (.sl false (.cons (.int .i64) (.cons (.int .i64) .nil))) .nil)))) .nil))))), (1, (.pur (.sl false (.cons (.sl false (.cons (.int .i64) (.cons (.int .i64) .nil))) (.cons (.sl false (.cons .bool (.cons (.sl false (.cons (.int .i64) (.cons (.int .i64) .nil))) (.cons (.sl false (.cons (.int .i64) (.cons (.int .i64) .nil))) .nil)))) .nil))))), (5, (.pur (.int .i64)))])], joins := [], keys := [] }
noncomputable def laws_eqPartS.l0 (k : Nat)  (G0 : ((List ((List (Int × Int × Unit)) × (List (Bool × (List (Int × Int × Unit)) × (List (Int × Int × Unit)) × Unit)) × Unit)) × (List ((List (Int × Int × Unit)) × (List (Bool × (List (Int × Int × Unit)) × (List (Int × Int × Unit)) × Unit)) × Unit)) × Int × Unit) → Option ((Bool × Unit) × (Unit × Unit × Unit))) : ((List ((List (Int × Int × Unit)) × (List (Bool × (List (Int × Int × Unit)) × (List (Int × Int × Unit)) × Unit)) × Unit)) × (List ((List (Int × Int × Unit)) × (List (Bool × (List (Int × Int × Unit)) × (List (Int × Int × Unit)) × Unit)) × Unit)) × Int × Unit) → Option ((Bool × Unit) × (Unit × Unit × Unit)) := fun x => match x with
 | (a, b_, i, ()) =>
  br k (decide (i < (a.length : Int)))
  (br k (decide (0 ≤ i))
  (bd k (a[i.toNat]?) fun x1 =>
  br k (decide (0 ≤ i))
  (bd k (b_[i.toNat]?) fun x2 =>
  bd k (laws_eqPart k (x1, x2, ())) fun y3 =>
  br k (!y3.1.1)
  (some ((false, ()), ((), (), ())))
  (G0 (a, b_, IntKind.wrap .i64 (i + 1), ())))
  none)
  none)
  (some ((true, ()), ((), (), ())))
noncomputable def laws_eqPartS (k : Nat) : ((List ((List (Int × Int × Unit)) × (List (Bool × (List (Int × Int × Unit)) × (List (Int × Int × Unit)) × Unit)) × Unit)) × (List ((List (Int × Int × Unit)) × (List (Bool × (List (Int × Int × Unit)) × (List (Int × Int × Unit)) × Unit)) × Unit)) × Unit) → Option ((Bool × Unit) × (Unit × Unit × Unit)) := fun x => match x with
 | (a, b_, ()) =>
  br k ((a.length : Int) != (b_.length : Int))
  (some ((false, ()), ((), (), ())))
  (iter (laws_eqPartS.l0 k) k (a, b_, 0, ()))
noncomputable def laws_eqPartS.sg (k : Nat) : Sig := ⟨laws_eqPartS.A, laws_eqPartS.R, laws_eqPartS k⟩
noncomputable def laws_eqPartS.C (k : Nat) : Ctx := ⟨Tryz.prog, [(118, [laws_eqPart.sg k])], k⟩
theorem laws_eqPartS.ev (k : Nat) (x : laws_eqPartS.A.T) : evFunc (laws_eqPartS.C k) laws_eqPartS.ann Tryz.f71 laws_eqPartS.A laws_eqPartS.R x = laws_eqPartS k x := by kernel_rfl
theorem laws_eqPartS.ok {L : List (Nat × Obj)}  (k : Nat) : SigHolds Tryz.prog L 71 (laws_eqPartS.sg k) :=
  sig_of_ev (C := laws_eqPartS.C k) (holds_cons (allok_cons (laws_eqPart.ok k) allok_nil) holds_nil) (by kernel_rfl) Tryz.func71 (by kernel_rfl) laws_eqPartS.ann laws_eqPartS.A laws_eqPartS.R (fun x y h => (laws_eqPartS.ev k x).trans h) (by kernel_rfl)

/-! loop.example/g00719/laws.eqRow -/
def laws_eqRow.A : Sh := (.cons (.pur (.cons (.sl false (.cons (.sl false (.cons (.int .i64) (.cons (.int .i64) .nil))) (.cons (.sl false (.cons .bool (.cons (.sl false (.cons (.int .i64) (.cons (.int .i64) .nil))) (.cons (.sl false (.cons (.int .i64) (.cons (.int .i64) .nil))) .nil)))) .nil))) .nil)) (.cons (.pur (.cons (.sl false (.cons (.sl false (.cons (.int .i64) (.cons (.int .i64) .nil))) (.cons (.sl false (.cons .bool (.cons (.sl false (.cons (.int .i64) (.cons (.int .i64) .nil))) (.cons (.sl false (.cons (.int .i64) (.cons (.int .i64) .nil))) .nil)))) .nil))) .nil)) .nil))
def laws_eqRow.R : Sh := (.cons (.pur .bool) .nil)
def laws_eqRow.ann : Ann := { loops := [], joins := [], keys := [] }
noncomputable def laws_eqRow (k : Nat) : (((List ((List (Int × Int × Unit)) × (List (Bool × (List (Int × Int × Unit)) × (List (Int × Int × Unit)) × Unit)) × Unit)) × Unit) × ((List ((List (Int × Int × Unit)) × (List (Bool × (List (Int × Int × Unit)) × (List (Int × Int × Unit)) × Unit)) × Unit)) × Unit) × Unit) → Option ((Bool × Unit) × (Unit × Unit × Unit)) := fun x => match x with
 | (a, b_, ()) =>
  bd k (laws_eqPartS k (a.1, b_.1, ())) fun y1 =>
  br k (!y1.1.1)
  (some ((false, ()), ((), (), ())))
  (some ((true, ()), ((), (), ())))
noncomputable def laws_eqRow.sg (k : Nat) : Sig := ⟨laws_eqRow.A, laws_eqRow.R, laws_eqRow k⟩
noncomputable def laws_eqRow.C (k : Nat) : Ctx := ⟨Tryz.prog, [(71, [laws_eqPartS.sg k])], k⟩
theorem laws_eqRow.ev (k : Nat) (x : laws_eqRow.A.T) : evFunc (laws_eqRow.C k) laws_eqRow.ann Tryz.f34 laws_eqRow.A laws_eqRow.R x = laws_eqRow k x := by kernel_rfl
theorem laws_eqRow.ok {L : List (Nat × Obj)}  (k : Nat) : SigHolds Tryz.prog L 34 (laws_eqRow.sg k) :=
  sig_of_ev (C := laws_eqRow.C k) (holds_cons (allok_cons (laws_eqPartS.ok k) allok_nil) holds_nil) (by kernel_rfl) Tryz.func34 (by kernel_rfl) laws_eqRow.ann laws_eqRow.A laws_eqRow.R (fun x y h => (laws_eqRow.ev k x).trans h) (by kernel_rfl)

/-! loop.example/g00719/laws.eqRowS -/
def laws_eqRowS.A : Sh := (.cons (.pur (.sl false (.cons (.sl false (.cons (.sl false (.cons (.int .i64) (.cons (.int .i64) .nil))) (.cons (.sl false (.cons .bool (.cons (.sl false (.cons (.int .i64) (.cons (.int .i64) .nil))) (.cons (.sl false (.cons (.int .i64) (.cons (.int .i64) .nil))) .nil)))) .nil))) .nil))) (.cons (.pur (.sl false (.cons (.sl false (.cons (.sl false (.cons (.int .i64) (.cons (.int .i64) .nil))) (.cons (.sl false (.cons .bool (.cons (.sl false (.cons (.int .i64) (.cons (.int .i64) .nil))) (.cons (.sl false (.cons (.int .i64) (.cons (.int .i64) .nil))) .nil)))) .nil))) .nil))) .nil))
def laws_eqRowS.R : Sh := (.cons (.pur .bool) .nil)
def laws_eqRowS.ann : Ann := { loops := [(0, [(0, (.pur (.sl false (.cons (.sl false (.cons (.sl false (.cons (.int .i64) (.cons (.int .i64) .nil))) (.cons (.sl false (.cons .bool (.cons (.sl false (.cons (.int .i64) (.cons (.int .i64) .nil))) (.cons (.sl false (.cons (.int .i64) (.cons (.int .i64) .nil))) .nil)))) .nil))) .nil)))), (1, (.pur (.sl false (.cons (.sl false (.cons (.sl false (.cons (.int .i64) (.cons (.int .i64) .nil))) (.cons (.sl false (.cons .bool (.cons (.sl false (.cons (.int .i64) (.cons (.int .i64) .nil))) (.cons (.sl false (.cons (.int .i64) (.cons (.int .i64) .nil))) .nil)))) .nil))) .nil)))), (5, (.pur (.int .i64)))])], joins := [], keys := [] }
noncomputable def laws_eqRowS.l0 (k : Nat)  (G0 : ((List ((List ((List (Int × Int × Unit)) × (List (Bool × (List (Int × Int × Unit)) × (List (Int × Int × Unit)) × Unit)) × Unit)) × Unit)) × (List ((List ((List (Int × Int × Unit)) × (List (Bool × (List (Int × Int × Unit)) × (List (Int × Int × Unit)) × Unit)) × Unit)) × Unit)) × Int × Unit) → Option ((Bool × Unit) × (Unit × Unit × Unit))) : ((List ((List ((List (Int × Int × Unit)) × (List (Bool × (List (Int × Int × Unit)) × (List (Int × Int × Unit)) × Unit)) × Unit)) × Unit)) × (List ((List ((List (Int × Int × Unit)) × (List (Bool × (List (Int × Int × Unit)) × (List (Int × Int × Unit)) × Unit)) × Unit)) × Unit)) × Int × Unit) → Option ((Bool × Unit) × (Unit × Unit × Unit)) := fun x => match x with
 | (a, b_, i, ()) =>
  br k (decide (i < (a.length : Int)))
  (br k (decide (0 ≤ i))
  (bd k (a[i.toNat]?) fun x1 =>
  br k (decide (0 ≤ i))
  (bd k (b_[i.toNat]?) fun x2 =>
  bd k (laws_eqRow k (x1, x2, ())) fun y3 =>
  br k (!y3.1.1)
  (some ((false, ()), ((), (), ())))
  (G0 (a, b_, IntKind.wrap .i64 (i + 1), ())))
  none)
  none)
  (some ((true, ()), ((), (), ())))
noncomputable def laws_eqRowS (k : Nat) : ((List ((List ((List (Int × Int × Unit)) × (List (Bool × (List (Int × Int × Unit)) × (List (Int × Int × Unit)) × Unit)) × Unit)) × Unit)) × (List ((List ((List (Int × Int × Unit)) × (List (Bool × (List (Int × Int × Unit)) × (List (Int × Int × Unit)) × Unit)) × Unit)) × Unit)) × Unit) → Option ((Bool × Unit) × (Unit × Unit × Unit)) := fun x => match x with
 | (a, b_, ()) =>
  br k ((a.length : Int) != (b_.length : Int))
  (some ((false, ()), ((), (), ())))
  (iter (laws_eqRowS.l0 k) k (a, b_, 0, ()))
noncomputable def laws_eqRowS.sg (k : Nat) : Sig := ⟨laws_eqRowS.A, laws_eqRowS.R, laws_eqRowS k⟩
noncomputable def laws_eqRowS.C (k : Nat) : Ctx := ⟨Tryz.prog, [(34, [laws_eqRow.sg k])], k⟩
theorem laws_eqRowS.ev (k : Nat) (x : laws_eqRowS.A.T) : evFunc (laws_eqRowS.C k) laws_eqRowS.ann Tryz.f13 laws_eqRowS.A laws_eqRowS.R x = laws_eqRowS k x := by kernel_rfl
theorem laws_eqRowS.ok {L : List (Nat × Obj)}  (k : Nat) : SigHolds Tryz.prog L 13 (laws_eqRowS.sg k) :=
  sig_of_ev (C := laws_eqRowS.C k) (holds_cons (allok_cons (laws_eqRow.ok k) allok_nil) holds_nil) (by kernel_rfl) Tryz.func13 (by kernel_rfl) laws_eqRowS.ann laws_eqRowS.A laws_eqRowS.R (fun x y h => (laws_eqRowS.ev k x).trans h) (by kernel_rfl)

/-! loop.example/g00719/laws.eqInt64S -/
def laws_eqInt64S.A : Sh := (.cons (.pur (.sl false (.int .i64))) (.cons (.pur (.sl false (.int .i64))) .nil))
def laws_eqInt64S.R : Sh := (.cons (.pur .bool) .nil)
def laws_eqInt64S.ann : Ann := { loops := [(0, [(0, (.pur (.sl false (.int .i64)))), (1, (.pur (.sl false (.int .i64)))), (5, (.pur (.int .i64)))])], joins := [], keys := [] }
noncomputable def laws_eqInt64S.l0 (k : Nat)  (G0 : ((List Int) × (List Int) × Int × Unit) → Option ((Bool × Unit) × (Unit × Unit × Unit))) : ((List Int) × (List Int) × Int × Unit) → Option ((Bool × Unit) × (Unit × Unit × Unit)) := fun x => match x with
 | (a, b_, i, ()) =>
  br k (decide (i < (a.length : Int)))
  (br k (decide (0 ≤ i))
  (bd k (a[i.toNat]?) fun x1 =>
  br k (decide (0 ≤ i))
  (bd k (b_[i.toNat]?) fun x2 =>
  br k (x1 != x2)
  (some ((false, ()), ((), (), ())))
  (G0 (a, b_, IntKind.wrap .i64 (i + 1), ())))
  none)
  none)
  (some ((true, ()), ((), (), ())))
noncomputable def laws_eqInt64S (k : Nat) : ((List Int) × (List Int) × Unit) → Option ((Bool × Unit) × (Unit × Unit × Unit)) := fun x => match x with
 | (a, b_, ()) =>
  br k ((a.length : Int) != (b_.length : Int))
  (some ((false, ()), ((), (), ())))
  (iter (laws_eqInt64S.l0 k) k (a, b_, 0, ()))
noncomputable def laws_eqInt64S.sg (k : Nat) : Sig := ⟨laws_eqInt64S.A, laws_eqInt64S.R, laws_eqInt64S k⟩
noncomputable def laws_eqInt64S.C (k : Nat) : Ctx := ⟨Tryz.prog, [], k⟩
theorem laws_eqInt64S.ev (k : Nat) (x : laws_eqInt64S.A.T) : evFunc (laws_eqInt64S.C k) laws_eqInt64S.ann Tryz.f73 laws_eqInt64S.A laws_eqInt64S.R x = laws_eqInt64S k x := by kernel_rfl
theorem laws_eqInt64S.ok {L : List (Nat × Obj)}  (k : Nat) : SigHolds Tryz.prog L 73 (laws_eqInt64S.sg k) :=
  sig_of_ev (C := laws_eqInt64S.C k) holds_nil (by kernel_rfl) Tryz.func73 (by kernel_rfl) laws_eqInt64S.ann laws_eqInt64S.A laws_eqInt64S.R (fun x y h => (laws_eqInt64S.ev k x).trans h) (by kernel_rfl)

/-! loop.example/g00719/laws.eqBoolS -/
def laws_eqBoolS.A : Sh := (.cons (.pur (.sl false .bool)) (.cons (.pur (.sl false .bool)) .nil))
def laws_eqBoolS.R : Sh := (.cons (.pur .bool) .nil)
def laws_eqBoolS.ann : Ann := { loops := [(0, [(0, (.pur (.sl false .bool))), (1, (.pur (.sl false .bool))), (5, (.pur (.int .i64)))])], joins := [], keys := [] }
noncomputable def laws_eqBoolS.l0 (k : Nat)  (G0 : ((List Bool) × (List Bool) × Int × Unit) → Option ((Bool × Unit) × (Unit × Unit × Unit))) : ((List Bool) × (List Bool) × Int × Unit) → Option ((Bool × Unit) × (Unit × Unit × Unit)) := fun x => match x with
 | (a, b_, i, ()) =>
  br k (decide (i < (a.length : Int)))
  (br k (decide (0 ≤ i))
  (bd k (a[i.toNat]?) fun x1 =>
  br k (decide (0 ≤ i))
  (bd k (b_[i.toNat]?) fun x2 =>
  br k (!(x1 == x2))
  (some ((false, ()), ((), (), ())))
  (G0 (a, b_, IntKind.wrap .i64 (i + 1), ())))
  none)
  none)
  (some ((true, ()), ((), (), ())))
noncomputable def laws_eqBoolS (k : Nat) : ((List Bool) × (List Bool) × Unit) → Option ((Bool × Unit) × (Unit × Unit × Unit)) := fun x => match x with
 | (a, b_, ()) =>
  br k ((a.length : Int) != (b_.length : Int))
  (some ((false, ()), ((), (), ())))
  (iter (laws_eqBoolS.l0 k) k (a, b_, 0, ()))
noncomputable def laws_eqBoolS.sg (k : Nat) : Sig := ⟨laws_eqBoolS.A, laws_eqBoolS.R, laws_eqBoolS k⟩
noncomputable def laws_eqBoolS.C (k : Nat) : Ctx := ⟨Tryz.prog, [], k⟩
theorem laws_eqBoolS.ev (k : Nat) (x : laws_eqBoolS.A.T) : evFunc (laws_eqBoolS.C k) laws_eqBoolS.ann Tryz.f74 laws_eqBoolS.A laws_eqBoolS.R x = laws_eqBoolS k x := by kernel_rfl
theorem laws_eqBoolS.ok {L : List (Nat × Obj)}  (k : Nat) : SigHolds Tryz.prog L 74 (laws_eqBoolS.sg k) :=
  sig_of_ev (C := laws_eqBoolS.C k) holds_nil (by kernel_rfl) Tryz.func74 (by kernel_rfl) laws_eqBoolS.ann laws_eqBoolS.A laws_eqBoolS.R (fun x y h => (laws_eqBoolS.ev k x).trans h) (by kernel_rfl)

/-! loop.example/g00719/laws.eqInt64SS -/
def laws_eqInt64SS.A : Sh := (.cons (.pur (.sl false (.sl false (.int .i64)))) (.cons (.pur (.sl false (.sl false (.int .i64)))) .nil))
def laws_eqInt64SS.R : Sh := (.cons (.pur .bool) .nil)
def laws_eqInt64SS.ann : Ann := { loops := [(0, [(0, (.pur (.sl false (.sl false (.int .i64))))), (1, (.pur (.sl false (.sl false (.int .i64))))), (5, (.pur (.int .i64)))])], joins := [], keys := [] }
noncomputable def laws_eqInt64SS.l0 (k : Nat)  (G0 : ((List (List Int)) × (List (List Int)) × Int × Unit) → Option ((Bool × Unit) × (Unit × Unit × Unit))) : ((List (List Int)) × (List (List Int)) × Int × Unit) → Option ((Bool × Unit) × (Unit × Unit × Unit)) := fun x => match x with
 | (a, b_, i, ()) =>
  br k (decide (i < (a.length : Int)))
  (br k (decide (0 ≤ i))
  (bd k (a[i.toNat]?) fun x1 =>
  br k (decide (0 ≤ i))
  (bd k (b_[i.toNat]?) fun x2 =>
  bd k (laws_eqInt64S k (x1, x2, ())) fun y3 =>
  br k (!y3.1.1)
  (some ((false, ()), ((), (), ())))
  (G0 (a, b_, IntKind.wrap .i64 (i + 1), ())))
  none)
  none)
  (some ((true, ()), ((), (), ())))
noncomputable def laws_eqInt64SS (k : Nat) : ((List (List Int)) × (List (List Int)) × Unit) → Option ((Bool × Unit) × (Unit × Unit × Unit)) := fun x => match x with
 | (a, b_, ()) =>
  br k ((a.length : Int) != (b_.length : Int))
  (some ((false, ()), ((), (), ())))
  (iter (laws_eqInt64SS.l0 k) k (a, b_, 0, ()))
noncomputable def laws_eqInt64SS.sg (k : Nat) : Sig := ⟨laws_eqInt64SS.A, laws_eqInt64SS.R, laws_eqInt64SS k⟩
noncomputable def laws_eqInt64SS.C (k : Nat) : Ctx := ⟨Tryz.prog, [(73, [laws_eqInt64S.sg k])], k⟩
theorem laws_eqInt64SS.ev (k : Nat) (x : laws_eqInt64SS.A.T) : evFunc (laws_eqInt64SS.C k) laws_eqInt64SS.ann Tryz.f75 laws_eqInt64SS.A laws_eqInt64SS.R x = laws_eqInt64SS k x := by kernel_rfl
theorem laws_eqInt64SS.ok {L : List (Nat × Obj)}  (k : Nat) : SigHolds Tryz.prog L 75 (laws_eqInt64SS.sg k) :=
  sig_of_ev (C := laws_eqInt64SS.C k) (holds_cons (allok_cons (laws_eqInt64S.ok k) allok_nil) holds_nil) (by kernel_rfl) Tryz.func75 (by kernel_rfl) laws_eqInt64SS.ann laws_eqInt64SS.A laws_eqInt64SS.R (fun x y h => (laws_eqInt64SS.ev k x).trans h) (by kernel_rfl)

/-! loop.example/g00719/laws.eqStore -/
def laws_eqStore.A : Sh := (.cons (.pur (.cons (.sl false (.int .i64)) (.cons (.sl false .bool) (.cons (.sl false (.sl false (.int .i64))) .nil)))) (.cons (.pur (.cons (.sl false (.int .i64)) (.cons (.sl false .bool) (.cons (.sl false (.sl false (.int .i64))) .nil)))) .nil))
def laws_eqStore.R : Sh := (.cons (.pur .bool) .nil)
def laws_eqStore.ann : Ann := { loops := [], joins := [], keys := [] }
noncomputable def laws_eqStore (k : Nat) : (((List Int) × (List Bool) × (List (List Int)) × Unit) × ((List Int) × (List Bool) × (List (List Int)) × Unit) × Unit) → Option ((Bool × Unit) × (Unit × Unit × Unit)) := fun x => match x with
 | (a, b_, ()) =>
  bd k (laws_eqInt64S k (a.1, b_.1, ())) fun y1 =>
  br k (!y1.1.1)
  (some ((false, ()), ((), (), ())))
  (bd k (laws_eqBoolS k (a.2.1, b_.2.1, ())) fun y2 =>
  br k (!y2.1.1)
  (some ((false, ()), ((), (), ())))
  (bd k (laws_eqInt64SS k (a.2.2.1, b_.2.2.1, ())) fun y3 =>
  br k (!y3.1.1)
  (some ((false, ()), ((), (), ())))
  (some ((true, ()), ((), (), ())))))
noncomputable def laws_eqStore.sg (k : Nat) : Sig := ⟨laws_eqStore.A, laws_eqStore.R, laws_eqStore k⟩
noncomputable def laws_eqStore.C (k : Nat) : Ctx := ⟨Tryz.prog, [(73, [laws_eqInt64S.sg k]), (74, [laws_eqBoolS.sg k]), (75, [laws_eqInt64SS.sg k])], k⟩
theorem laws_eqStore.ev (k : Nat) (x : laws_eqStore.A.T) : evFunc (laws_eqStore.C k) laws_eqStore.ann Tryz.f36 laws_eqStore.A laws_eqStore.R x = laws_eqStore k x := by kernel_rfl
theorem laws_eqStore.ok {L : List (Nat × Obj)}  (k : Nat) : SigHolds Tryz.prog L 36 (laws_eqStore.sg k) :=
  sig_of_ev (C := laws_eqStore.C k) (holds_cons (allok_cons (laws_eqInt64S.ok k) allok_nil) (holds_cons (allok_cons (laws_eqBoolS.ok k) allok_nil) (holds_cons (allok_cons (laws_eqInt64SS.ok k) allok_nil) holds_nil))) (by kernel_rfl) Tryz.func36 (by kernel_rfl) laws_eqStore.ann laws_eqStore.A laws_eqStore.R (fun x y h => (laws_eqStore.ev k x).trans h) (by kernel_rfl)

/-! loop.example/g00719/laws.eqSnap -/
def laws_eqSnap.A : Sh := (.cons (.pur (.cons (.int .i64) (.cons (.sl false (.cons (.int .i64) (.cons (.int .i64) .nil))) (.cons (.sl false (.int .i64)) (.cons (.sl false .bool) (.cons (.sl false (.sl false (.int .i64))) .nil)))))) (.cons (.pur (.cons (.int .i64) (.cons (.sl false (.cons (.int .i64) (.cons (.int .i64) .nil))) (.cons (.sl false (.int .i64)) (.cons (.sl false .bool) (.cons (.sl false (.sl false (.int .i64))) .nil)))))) .nil))
def laws_eqSnap.R : Sh := (.cons (.pur .bool) .nil)
def laws_eqSnap.ann : Ann := { loops := [], joins := [], keys := [] }
noncomputable def laws_eqSnap (k : Nat) : ((Int × (List (Int × Int × Unit)) × (List Int) × (List Bool) × (List (List Int)) × Unit) × (Int × (List (Int × Int × Unit)) × (List Int) × (List Bool) × (List (List Int)) × Unit) × Unit) → Option ((Bool × Unit) × (Unit × Unit × Unit)) := fun x => match x with
 | (a, b_, ()) =>
  br k (a.1 != b_.1)
  (some ((false, ()), ((), (), ())))
  (bd k (laws_eqEntryS k (a.2.1, b_.2.1, ())) fun y1 =>
  br k (!y1.1.1)
  (some ((false, ()), ((), (), ())))
  (bd k (laws_eqStore k ((a.2.2.1, a.2.2.2.1, a.2.2.2.2.1, ()), (b_.2.2.1, b_.2.2.2.1, b_.2.2.2.2.1, ()), ())) fun y2 =>
  br k (!y2.1.1)
  (some ((false, ()), ((), (), ())))
  (some ((true, ()), ((), (), ())))))
noncomputable def laws_eqSnap.sg (k : Nat) : Sig := ⟨laws_eqSnap.A, laws_eqSnap.R, laws_eqSnap k⟩
noncomputable def laws_eqSnap.C (k : Nat) : Ctx := ⟨Tryz.prog, [(35, [laws_eqEntryS.sg k]), (36, [laws_eqStore.sg k])], k⟩
theorem laws_eqSnap.ev (k : Nat) (x : laws_eqSnap.A.T) : evFunc (laws_eqSnap.C k) laws_eqSnap.ann Tryz.f14 laws_eqSnap.A laws_eqSnap.R x = laws_eqSnap k x := by kernel_rfl
theorem laws_eqSnap.ok {L : List (Nat × Obj)}  (k : Nat) : SigHolds Tryz.prog L 14 (laws_eqSnap.sg k) :=
  sig_of_ev (C := laws_eqSnap.C k) (holds_cons (allok_cons (laws_eqEntryS.ok k) allok_nil) (holds_cons (allok_cons (laws_eqStore.ok k) allok_nil) holds_nil)) (by kernel_rfl) Tryz.func14 (by kernel_rfl) laws_eqSnap.ann laws_eqSnap.A laws_eqSnap.R (fun x y h => (laws_eqSnap.ev k x).trans h) (by kernel_rfl)

/-! loop.example/g00719/laws.FnExactCovers -/
def laws_FnExactCovers.A : Sh := (.cons (.pur (.cons (.sl false .str) (.cons (.sl false .str) (.cons (.sl false (.cons .str (.cons (.int .i64) .nil))) (.cons (.sl false (.cons (.int .i64) (.cons (.int .i64) (.cons (.sl false (.cons (.int .i64) (.cons (.int .i64) .nil))) (.cons (.sl false (.cons (.int .i64) (.cons (.int .i64) .nil))) (.cons (.int .i64) (.cons (.int .i64) .nil))))))) .nil))))) (.cons (.pur (.sl false (.cons (.sl false (.cons (.sl false (.cons (.int .i64) (.cons (.int .i64) .nil))) (.cons (.sl false (.cons .bool (.cons (.sl false (.cons (.int .i64) (.cons (.int .i64) .nil))) (.cons (.sl false (.cons (.int .i64) (.cons (.int .i64) .nil))) .nil)))) .nil))) .nil))) (.cons (.pur (.cons (.int .i64) (.cons (.sl false (.cons (.int .i64) (.cons (.int .i64) .nil))) (.cons (.sl false (.int .i64)) (.cons (.sl false .bool) (.cons (.sl false (.sl false (.int .i64))) .nil)))))) .nil)))
def laws_FnExactCovers.R : Sh := (.cons (.pur .bool) .nil)
def laws_FnExactCovers.ann : Ann := { loops := [], joins := [], keys := [(11, [([3], false), ([29], true), ([], false), ([31], true), ([5], false), ([33], true), ([29, 31, 33], false), ([], false)]), (18, [([9, 36], false), ([3], false), ([50], true), ([36, 50], false), ([], false)]), (22, [([11, 40], false), ([5], false), ([60], true), ([40, 60], false), ([], false)])] }
noncomputable def laws_FnExactCovers (k : Nat) : (((List (List UInt8)) × (List (List UInt8)) × (List ((List UInt8) × Int × Unit)) × (List (Int × Int × (List (Int × Int × Unit)) × (List (Int × Int × Unit)) × Int × Int × Unit)) × Unit) × (List ((List ((List (Int × Int × Unit)) × (List (Bool × (List (Int × Int × Unit)) × (List (Int × Int × Unit)) × Unit)) × Unit)) × Unit)) × (Int × (List (Int × Int × Unit)) × (List Int) × (List Bool) × (List (List Int)) × Unit) × Unit) → Option ((Bool × Unit) × (Unit × Unit × Unit × Unit)) := fun x => match x with
 | (aP, aRows, aS, ()) =>
  bd k (laws_szProg k (aP, 1048576, ())) fun y1 =>
  br k (decide (y1.1.1 < 0))
  (some ((true, ()), ((), (), (), ())))
  (bd k (laws_szRowS k (aRows, y1.1.1, ())) fun y2 =>
  br k (decide (y2.1.1 < 0))
  (some ((true, ()), ((), (), (), ())))
  (bd k (laws_szSnap k (aS, y2.1.1, ())) fun y3 =>
  br k (decide (y3.1.1 < 0))
  (some ((true, ()), ((), (), (), ())))
  (bd k (laws_toProg k (aP, ())) fun y4 =>
  bd k (laws_toRowS k (aRows, ())) fun y5 =>
  bd k (laws_toSnap k (aS, ())) fun y6 =>
  bd k (spec_Covers k ((y4.1.1.1, y4.1.1.2.1, y4.1.1.2.2.1, y4.1.1.2.2.2.1, ()), y5.1.1, (y6.1.1.1, y6.1.1.2.1, y6.1.1.2.2.1, y6.1.1.2.2.2.1, y6.1.1.2.2.2.2.1, ()), ())) fun y7 =>
  bd k (laws_toProg k (aP, ())) fun y8 =>
  bd k (laws_toRowS k (aRows, ())) fun y9 =>
  bd k (laws_toSnap k (aS, ())) fun y10 =>
  bd k (impl_Covers k ((y8.1.1.1, y8.1.1.2.1, y8.1.1.2.2.1, y8.1.1.2.2.2.1, ()), y9.1.1, (y10.1.1.1, y10.1.1.2.1, y10.1.1.2.2.1, y10.1.1.2.2.2.1, y10.1.1.2.2.2.2.1, ()), ())) fun y11 =>
  br k (!(y11.1.1 == y7.1.1))
  (some ((false, ()), ((), (), (), ())))
  (bd k (laws_toProg k (aP, ())) fun y12 =>
  bd k (laws_eqProg k ((y8.1.1.1, y8.1.1.2.1, y8.1.1.2.2.1, y8.1.1.2.2.2.1, ()), (y12.1.1.1, y12.1.1.2.1, y12.1.1.2.2.1, y12.1.1.2.2.2.1, ()), ())) fun y13 =>
  br k (!y13.1.1)
  (some ((false, ()), ((), (), (), ())))
  (bd k (laws_toRowS k (aRows, ())) fun y14 =>
  bd k (laws_eqRowS k (y9.1.1, y14.1.1, ())) fun y15 =>
  br k (!y15.1.1)
  (some ((false, ()), ((), (), (), ())))
  (bd k (laws_toSnap k (aS, ())) fun y16 =>
  bd k (laws_eqSnap k ((y10.1.1.1, y10.1.1.2.1, y10.1.1.2.2.1, y10.1.1.2.2.2.1, y10.1.1.2.2.2.2.1, ()), (y16.1.1.1, y16.1.1.2.1, y16.1.1.2.2.1, y16.1.1.2.2.2.1, y16.1.1.2.2.2.2.1, ()), ())) fun y17 =>
  br k (!y17.1.1)
  (some ((false, ()), ((), (), (), ())))
  (some ((true, ()), ((), (), (), ())))))))))
noncomputable def laws_FnExactCovers.sg (k : Nat) : Sig := ⟨laws_FnExactCovers.A, laws_FnExactCovers.R, laws_FnExactCovers k⟩
noncomputable def laws_FnExactCovers.C (k : Nat) : Ctx := ⟨Tryz.prog, [(4, [laws_szProg.sg k]), (5, [laws_szRowS.sg k]), (6, [laws_szSnap.sg k]), (8, [laws_toProg.sg k]), (9, [laws_toRowS.sg k]), (10, [laws_toSnap.sg k]), (7, [spec_Covers.sg k]), (11, [impl_Covers.sg k]), (12, [laws_eqProg.sg k]), (13, [laws_eqRowS.sg k]), (14, [laws_eqSnap.sg k])], k⟩
theorem laws_FnExactCovers.ev (k : Nat) (x : laws_FnExactCovers.A.T) : evFunc (laws_FnExactCovers.C k) laws_FnExactCovers.ann Tryz.f3 laws_FnExactCovers.A laws_FnExactCovers.R x = laws_FnExactCovers k x := by kernel_rfl
theorem laws_FnExactCovers.ok {L : List (Nat × Obj)} (hSp : Lb.NeedSp L) (k : Nat) : SigHolds Tryz.prog L 3 (laws_FnExactCovers.sg k) :=
  sig_of_ev (C := laws_FnExactCovers.C k) (holds_cons (allok_cons (laws_szProg.ok k) allok_nil) (holds_cons (allok_cons (laws_szRowS.ok k) allok_nil) (holds_cons (allok_cons (laws_szSnap.ok k) allok_nil) (holds_cons (allok_cons (laws_toProg.ok k) allok_nil) (holds_cons (allok_cons (laws_toRowS.ok k) allok_nil) (holds_cons (allok_cons (laws_toSnap.ok k) allok_nil) (holds_cons (allok_cons (spec_Covers.ok k) allok_nil) (holds_cons (allok_cons (impl_Covers.ok hSp k) allok_nil) (holds_cons (allok_cons (laws_eqProg.ok k) allok_nil) (holds_cons (allok_cons (laws_eqRowS.ok k) allok_nil) (holds_cons (allok_cons (laws_eqSnap.ok k) allok_nil) holds_nil))))))))))) (by kernel_rfl) Tryz.func3 (by kernel_rfl) laws_FnExactCovers.ann laws_FnExactCovers.A laws_FnExactCovers.R (fun x y h => (laws_FnExactCovers.ev k x).trans h) (by kernel_rfl)

end Go.Pev.F
