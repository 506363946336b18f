/-
  Printed by gen.py: what functions of the program compute, and that they do.
-/
import Derived.Test.YtamhcmffadindaaGreatDoorProg
import Derived.Test.YtamhcmffadindaaGreatDoorK02
import Derived.KernelRfl
open Go.Proofs Go.Pev
namespace Go.Pev.F
set_option maxRecDepth 100000
set_option linter.unusedVariables false

/-! loop.example/g00719/laws.szStringS -/
def laws_szStringS.A : Sh := (.cons (.pur (.sl false .str)) (.cons (.pur (.int .i64)) .nil))
def laws_szStringS.R : Sh := (.cons (.pur (.int .i64)) .nil)
def laws_szStringS.ann : Ann := { loops := [(0, [(0, (.pur (.sl false .str))), (1, (.pur (.int .i64))), (5, (.pur (.int .i64)))])], joins := [], keys := [] }
noncomputable def laws_szStringS.l0 (k : Nat)  (G0 : ((List (List UInt8)) × Int × Int × Unit) → Option ((Int × Unit) × (Unit × Unit × Unit))) : ((List (List UInt8)) × Int × Int × Unit) → Option ((Int × Unit) × (Unit × Unit × Unit)) := fun x => match x with
 | (a, left, i, ()) =>
  br k (decide (i < (a.length : Int)))
  (br k (decide (0 ≤ i))
  (bd k (a[i.toNat]?) fun x1 =>
  br k (decide ((IntKind.wrap .i64 (left - (x1.length : Int))) < 0))
  (some (((-1), ()), ((), (), ())))
  (G0 (a, IntKind.wrap .i64 (left - (x1.length : Int)), IntKind.wrap .i64 (i + 1), ())))
  none)
  (some ((left, ()), ((), (), ())))
noncomputable def laws_szStringS (k : Nat) : ((List (List UInt8)) × Int × Unit) → Option ((Int × Unit) × (Unit × Unit × Unit)) := fun x => match x with
 | (a, left, ()) =>
  br k (decide ((IntKind.wrap .i64 (left - (a.length : Int))) < 0))
  (some (((-1), ()), ((), (), ())))
  (iter (laws_szStringS.l0 k) k (a, IntKind.wrap .i64 (left - (a.length : Int)), 0, ()))
noncomputable def laws_szStringS.sg (k : Nat) : Sig := ⟨laws_szStringS.A, laws_szStringS.R, laws_szStringS k⟩
noncomputable def laws_szStringS.C (k : Nat) : Ctx := ⟨Tryz.prog, [], k⟩
theorem laws_szStringS.ev (k : Nat) (x : laws_szStringS.A.T) : evFunc (laws_szStringS.C k) laws_szStringS.ann Tryz.f37 laws_szStringS.A laws_szStringS.R x = laws_szStringS k x := by kernel_rfl
theorem laws_szStringS.ok {L : List (Nat × Obj)}  (k : Nat) : SigHolds Tryz.prog L 37 (laws_szStringS.sg k) :=
  sig_of_ev (C := laws_szStringS.C k) holds_nil (by kernel_rfl) Tryz.func37 (by kernel_rfl) laws_szStringS.ann laws_szStringS.A laws_szStringS.R (fun x y h => (laws_szStringS.ev k x).trans h) (by kernel_rfl)

/-! loop.example/g00719/laws.szArr -/
def laws_szArr.A : Sh := (.cons (.pur (.cons .str (.cons (.int .i64) .nil))) (.cons (.pur (.int .i64)) .nil))
def laws_szArr.R : Sh := (.cons (.pur (.int .i64)) .nil)
def laws_szArr.ann : Ann := { loops := [], joins := [], keys := [] }
noncomputable def laws_szArr (k : Nat) : (((List UInt8) × Int × Unit) × Int × Unit) → Option ((Int × Unit) × (Unit × Unit × Unit)) := fun x => match x with
 | (a, left, ()) =>
  br k (decide ((IntKind.wrap .i64 (left - (a.1.length : Int))) < 0))
  (some (((-1), ()), ((), (), ())))
  (some ((IntKind.wrap .i64 (left - (a.1.length : Int)), ()), ((), (), ())))
noncomputable def laws_szArr.sg (k : Nat) : Sig := ⟨laws_szArr.A, laws_szArr.R, laws_szArr k⟩
noncomputable def laws_szArr.C (k : Nat) : Ctx := ⟨Tryz.prog, [], k⟩
theorem laws_szArr.ev (k : Nat) (x : laws_szArr.A.T) : evFunc (laws_szArr.C k) laws_szArr.ann Tryz.f76 laws_szArr.A laws_szArr.R x = laws_szArr k x := by kernel_rfl
theorem laws_szArr.ok {L : List (Nat × Obj)}  (k : Nat) : SigHolds Tryz.prog L 76 (laws_szArr.sg k) :=
  sig_of_ev (C := laws_szArr.C k) holds_nil (by kernel_rfl) Tryz.func76 (by kernel_rfl) laws_szArr.ann laws_szArr.A laws_szArr.R (fun x y h => (laws_szArr.ev k x).trans h) (by kernel_rfl)

/-! loop.example/g00719/laws.szArrS -/
def laws_szArrS.A : Sh := (.cons (.pur (.sl false (.cons .str (.cons (.int .i64) .nil)))) (.cons (.pur (.int .i64)) .nil))
def laws_szArrS.R : Sh := (.cons (.pur (.int .i64)) .nil)
def laws_szArrS.ann : Ann := { loops := [(0, [(0, (.pur (.sl false (.cons .str (.cons (.int .i64) .nil))))), (1, (.pur (.int .i64))), (5, (.pur (.int .i64)))])], joins := [], keys := [] }
noncomputable def laws_szArrS.l0 (k : Nat)  (G0 : ((List ((List UInt8) × Int × Unit)) × Int × Int × Unit) → Option ((Int × Unit) × (Unit × Unit × Unit))) : ((List ((List UInt8) × Int × Unit)) × Int × Int × Unit) → Option ((Int × Unit) × (Unit × Unit × Unit)) := fun x => match x with
 | (a, left, i, ()) =>
  br k (decide (i < (a.length : Int)))
  (br k (decide (0 ≤ i))
  (bd k (a[i.toNat]?) fun x1 =>
  bd k (laws_szArr k (x1, left, ())) fun y2 =>
  br k (decide (y2.1.1 < 0))
  (some (((-1), ()), ((), (), ())))
  (G0 (a, y2.1.1, IntKind.wrap .i64 (i + 1), ())))
  none)
  (some ((left, ()), ((), (), ())))
noncomputable def laws_szArrS (k : Nat) : ((List ((List UInt8) × Int × Unit)) × Int × Unit) → Option ((Int × Unit) × (Unit × Unit × Unit)) := fun x => match x with
 | (a, left, ()) =>
  br k (decide ((IntKind.wrap .i64 (left - (a.length : Int))) < 0))
  (some (((-1), ()), ((), (), ())))
  (iter (laws_szArrS.l0 k) k (a, IntKind.wrap .i64 (left - (a.length : Int)), 0, ()))
noncomputable def laws_szArrS.sg (k : Nat) : Sig := ⟨laws_szArrS.A, laws_szArrS.R, laws_szArrS k⟩
noncomputable def laws_szArrS.C (k : Nat) : Ctx := ⟨Tryz.prog, [(76, [laws_szArr.sg k])], k⟩
theorem laws_szArrS.ev (k : Nat) (x : laws_szArrS.A.T) : evFunc (laws_szArrS.C k) laws_szArrS.ann Tryz.f38 laws_szArrS.A laws_szArrS.R x = laws_szArrS k x := by kernel_rfl
theorem laws_szArrS.ok {L : List (Nat × Obj)}  (k : Nat) : SigHolds Tryz.prog L 38 (laws_szArrS.sg k) :=
  sig_of_ev (C := laws_szArrS.C k) (holds_cons (allok_cons (laws_szArr.ok k) allok_nil) holds_nil) (by kernel_rfl) Tryz.func38 (by kernel_rfl) laws_szArrS.ann laws_szArrS.A laws_szArrS.R (fun x y h => (laws_szArrS.ev k x).trans h) (by kernel_rfl)

/-! loop.example/g00719/laws.szDecl -/
def laws_szDecl.A : Sh := (.cons (.pur (.cons (.sl false .str) (.cons (.sl false .str) (.cons (.sl false (.cons .str (.cons (.int .i64) .nil))) .nil)))) (.cons (.pur (.int .i64)) .nil))
def laws_szDecl.R : Sh := (.cons (.pur (.int .i64)) .nil)
def laws_szDecl.ann : Ann := { loops := [], joins := [], keys := [] }
noncomputable def laws_szDecl (k : Nat) : (((List (List UInt8)) × (List (List UInt8)) × (List ((List UInt8) × Int × Unit)) × Unit) × Int × Unit) → Option ((Int × Unit) × (Unit × Unit × Unit)) := fun x => match x with
 | (a, left, ()) =>
  bd k (laws_szStringS k (a.1, left, ())) fun y1 =>
  br k (decide (y1.1.1 < 0))
  (some (((-1), ()), ((), (), ())))
  (bd k (laws_szStringS k (a.2.1, y1.1.1, ())) fun y2 =>
  br k (decide (y2.1.1 < 0))
  (some (((-1), ()), ((), (), ())))
  (bd k (laws_szArrS k (a.2.2.1, y2.1.1, ())) fun y3 =>
  br k (decide (y3.1.1 < 0))
  (some (((-1), ()), ((), (), ())))
  (some ((y3.1.1, ()), ((), (), ())))))
noncomputable def laws_szDecl.sg (k : Nat) : Sig := ⟨laws_szDecl.A, laws_szDecl.R, laws_szDecl k⟩
noncomputable def laws_szDecl.C (k : Nat) : Ctx := ⟨Tryz.prog, [(37, [laws_szStringS.sg k]), (38, [laws_szArrS.sg k])], k⟩
theorem laws_szDecl.ev (k : Nat) (x : laws_szDecl.A.T) : evFunc (laws_szDecl.C k) laws_szDecl.ann Tryz.f15 laws_szDecl.A laws_szDecl.R x = laws_szDecl k x := by kernel_rfl
theorem laws_szDecl.ok {L : List (Nat × Obj)}  (k : Nat) : SigHolds Tryz.prog L 15 (laws_szDecl.sg k) :=
  sig_of_ev (C := laws_szDecl.C k) (holds_cons (allok_cons (laws_szStringS.ok k) allok_nil) (holds_cons (allok_cons (laws_szArrS.ok k) allok_nil) holds_nil)) (by kernel_rfl) Tryz.func15 (by kernel_rfl) laws_szDecl.ann laws_szDecl.A laws_szDecl.R (fun x y h => (laws_szDecl.ev k x).trans h) (by kernel_rfl)

/-! loop.example/g00719/laws.szTokS -/
def laws_szTokS.A : Sh := (.cons (.pur (.sl false (.cons (.int .i64) (.cons (.int .i64) .nil)))) (.cons (.pur (.int .i64)) .nil))
def laws_szTokS.R : Sh := (.cons (.pur (.int .i64)) .nil)
def laws_szTokS.ann : Ann := { loops := [], joins := [], keys := [] }
noncomputable def laws_szTokS (k : Nat) : ((List (Int × Int × Unit)) × Int × Unit) → Option ((Int × Unit) × (Unit × Unit × Unit)) := fun x => match x with
 | (a, left, ()) =>
  br k (decide ((IntKind.wrap .i64 (left - (a.length : Int))) < 0))
  (some (((-1), ()), ((), (), ())))
  (some ((IntKind.wrap .i64 (left - (a.length : Int)), ()), ((), (), ())))
noncomputable def laws_szTokS.sg (k : Nat) : Sig := ⟨laws_szTokS.A, laws_szTokS.R, laws_szTokS k⟩
noncomputable def laws_szTokS.C (k : Nat) : Ctx := ⟨Tryz.prog, [], k⟩
theorem laws_szTokS.ev (k : Nat) (x : laws_szTokS.A.T) : evFunc (laws_szTokS.C k) laws_szTokS.ann Tryz.f77 laws_szTokS.A laws_szTokS.R x = laws_szTokS k x := by kernel_rfl
theorem laws_szTokS.ok {L : List (Nat × Obj)}  (k : Nat) : SigHolds Tryz.prog L 77 (laws_szTokS.sg k) :=
  sig_of_ev (C := laws_szTokS.C k) holds_nil (by kernel_rfl) Tryz.func77 (by kernel_rfl) laws_szTokS.ann laws_szTokS.A laws_szTokS.R (fun x y h => (laws_szTokS.ev k x).trans h) (by kernel_rfl)

/-! loop.example/g00719/laws.szLine -/
def laws_szLine.A : Sh := (.cons (.pur (.cons (.int .i64) (.cons (.int .i64) (.cons (.sl false (.cons (.int .i64) (.cons (.int .i64) .nil))) (.cons (.sl false (.cons (.int .i64) (.cons (.int .i64) .nil))) (.cons (.int .i64) (.cons (.int .i64) .nil))))))) (.cons (.pur (.int .i64)) .nil))
def laws_szLine.R : Sh := (.cons (.pur (.int .i64)) .nil)
def laws_szLine.ann : Ann := { loops := [], joins := [], keys := [] }
noncomputable def laws_szLine (k : Nat) : ((Int × Int × (List (Int × Int × Unit)) × (List (Int × Int × Unit)) × Int × Int × Unit) × Int × Unit) → Option ((Int × Unit) × (Unit × Unit × Unit)) := fun x => match x with
 | (a, left, ()) =>
  bd k (laws_szTokS k (a.2.2.1, left, ())) fun y1 =>
  br k (decide (y1.1.1 < 0))
  (some (((-1), ()), ((), (), ())))
  (bd k (laws_szTokS k (a.2.2.2.1, y1.1.1, ())) fun y2 =>
  br k (decide (y2.1.1 < 0))
  (some (((-1), ()), ((), (), ())))
  (some ((y2.1.1, ()), ((), (), ()))))
noncomputable def laws_szLine.sg (k : Nat) : Sig := ⟨laws_szLine.A, laws_szLine.R, laws_szLine k⟩
noncomputable def laws_szLine.C (k : Nat) : Ctx := ⟨Tryz.prog, [(77, [laws_szTokS.sg k])], k⟩
theorem laws_szLine.ev (k : Nat) (x : laws_szLine.A.T) : evFunc (laws_szLine.C k) laws_szLine.ann Tryz.f39 laws_szLine.A laws_szLine.R x = laws_szLine k x := by kernel_rfl
theorem laws_szLine.ok {L : List (Nat × Obj)}  (k : Nat) : SigHolds Tryz.prog L 39 (laws_szLine.sg k) :=
  sig_of_ev (C := laws_szLine.C k) (holds_cons (allok_cons (laws_szTokS.ok k) allok_nil) holds_nil) (by kernel_rfl) Tryz.func39 (by kernel_rfl) laws_szLine.ann laws_szLine.A laws_szLine.R (fun x y h => (laws_szLine.ev k x).trans h) (by kernel_rfl)

/-! loop.example/g00719/laws.szLineS -/
def laws_szLineS.A : Sh := (.cons (.pur (.sl false (.cons (.int .i64) (.cons (.int .i64) (.cons (.sl false (.cons (.int .i64) (.cons (.int .i64) .nil))) (.cons (.sl false (.cons (.int .i64) (.cons (.int .i64) .nil))) (.cons (.int .i64) (.cons (.int .i64) .nil)))))))) (.cons (.pur (.int .i64)) .nil))
def laws_szLineS.R : Sh := (.cons (.pur (.int .i64)) .nil)
def laws_szLineS.ann : Ann := { loops := [(0, [(0, (.pur (.sl false (.cons (.int .i64) (.cons (.int .i64) (.cons (.sl false (.cons (.int .i64) (.cons (.int .i64) .nil))) (.cons (.sl false (.cons (.int .i64) (.cons (.int .i64) .nil))) (.cons (.int .i64) (.cons (.int .i64) .nil))))))))), (1, (.pur (.int .i64))), (5, (.pur (.int .i64)))])], joins := [], keys := [] }
noncomputable def laws_szLineS.l0 (k : Nat)  (G0 : ((List (Int × Int × (List (Int × Int × Unit)) × (List (Int × Int × Unit)) × Int × Int × Unit)) × Int × Int × Unit) → Option ((Int × Unit) × (Unit × Unit × Unit))) : ((List (Int × Int × (List (Int × Int × Unit)) × (List (Int × Int × Unit)) × Int × Int × Unit)) × Int × Int × Unit) → Option ((Int × Unit) × (Unit × Unit × Unit)) := fun x => match x with
 | (a, left, i, ()) =>
  br k (decide (i < (a.length : Int)))
  (br k (decide (0 ≤ i))
  (bd k (a[i.toNat]?) fun x1 =>
  bd k (laws_szLine k (x1, left, ())) fun y2 =>
  br k (decide (y2.1.1 < 0))
  (some (((-1), ()), ((), (), ())))
  (G0 (a, y2.1.1, IntKind.wrap .i64 (i + 1), ())))
  none)
  (some ((left, ()), ((), (), ())))
noncomputable def laws_szLineS (k : Nat) : ((List (Int × Int × (List (Int × Int × Unit)) × (List (Int × Int × Unit)) × Int × Int × Unit)) × Int × Unit) → Option ((Int × Unit) × (Unit × Unit × Unit)) := fun x => match x with
 | (a, left, ()) =>
  br k (decide ((IntKind.wrap .i64 (left - (a.length : Int))) < 0))
  (some (((-1), ()), ((), (), ())))
  (iter (laws_szLineS.l0 k) k (a, IntKind.wrap .i64 (left - (a.length : Int)), 0, ()))
noncomputable def laws_szLineS.sg (k : Nat) : Sig := ⟨laws_szLineS.A, laws_szLineS.R, laws_szLineS k⟩
noncomputable def laws_szLineS.C (k : Nat) : Ctx := ⟨Tryz.prog, [(39, [laws_szLine.sg k])], k⟩
theorem laws_szLineS.ev (k : Nat) (x : laws_szLineS.A.T) : evFunc (laws_szLineS.C k) laws_szLineS.ann Tryz.f16 laws_szLineS.A laws_szLineS.R x = laws_szLineS k x := by kernel_rfl
theorem laws_szLineS.ok {L : List (Nat × Obj)}  (k : Nat) : SigHolds Tryz.prog L 16 (laws_szLineS.sg k) :=
  sig_of_ev (C := laws_szLineS.C k) (holds_cons (allok_cons (laws_szLine.ok k) allok_nil) holds_nil) (by kernel_rfl) Tryz.func16 (by kernel_rfl) laws_szLineS.ann laws_szLineS.A laws_szLineS.R (fun x y h => (laws_szLineS.ev k x).trans h) (by kernel_rfl)

/-! loop.example/g00719/laws.szProg -/
def laws_szProg.A : Sh := (.cons (.pur (.cons (.sl false .str) (.cons (.sl false .str) (.cons (.sl false (.cons .str (.cons (.int .i64) .nil))) (.cons (.sl false (.cons (.int .i64) (.cons (.int .i64) (.cons (.sl false (.cons (.int .i64) (.cons (.int .i64) .nil))) (.cons (.sl false (.cons (.int .i64) (.cons (.int .i64) .nil))) (.cons (.int .i64) (.cons (.int .i64) .nil))))))) .nil))))) (.cons (.pur (.int .i64)) .nil))
def laws_szProg.R : Sh := (.cons (.pur (.int .i64)) .nil)
def laws_szProg.ann : Ann := { loops := [], joins := [], keys := [] }
noncomputable def laws_szProg (k : Nat) : (((List (List UInt8)) × (List (List UInt8)) × (List ((List UInt8) × Int × Unit)) × (List (Int × Int × (List (Int × Int × Unit)) × (List (Int × Int × Unit)) × Int × Int × Unit)) × Unit) × Int × Unit) → Option ((Int × Unit) × (Unit × Unit × Unit)) := fun x => match x with
 | (a, left, ()) =>
  bd k (laws_szDecl k ((a.1, a.2.1, a.2.2.1, ()), left, ())) fun y1 =>
  br k (decide (y1.1.1 < 0))
  (some (((-1), ()), ((), (), ())))
  (bd k (laws_szLineS k (a.2.2.2.1, y1.1.1, ())) fun y2 =>
  br k (decide (y2.1.1 < 0))
  (some (((-1), ()), ((), (), ())))
  (some ((y2.1.1, ()), ((), (), ()))))
noncomputable def laws_szProg.sg (k : Nat) : Sig := ⟨laws_szProg.A, laws_szProg.R, laws_szProg k⟩
noncomputable def laws_szProg.C (k : Nat) : Ctx := ⟨Tryz.prog, [(15, [laws_szDecl.sg k]), (16, [laws_szLineS.sg k])], k⟩
theorem laws_szProg.ev (k : Nat) (x : laws_szProg.A.T) : evFunc (laws_szProg.C k) laws_szProg.ann Tryz.f4 laws_szProg.A laws_szProg.R x = laws_szProg k x := by kernel_rfl
theorem laws_szProg.ok {L : List (Nat × Obj)}  (k : Nat) : SigHolds Tryz.prog L 4 (laws_szProg.sg k) :=
  sig_of_ev (C := laws_szProg.C k) (holds_cons (allok_cons (laws_szDecl.ok k) allok_nil) (holds_cons (allok_cons (laws_szLineS.ok k) allok_nil) holds_nil)) (by kernel_rfl) Tryz.func4 (by kernel_rfl) laws_szProg.ann laws_szProg.A laws_szProg.R (fun x y h => (laws_szProg.ev k x).trans h) (by kernel_rfl)

/-! loop.example/g00719/laws.szEntryS -/
def laws_szEntryS.A : Sh := (.cons (.pur (.sl false (.cons (.int .i64) (.cons (.int .i64) .nil)))) (.cons (.pur (.int .i64)) .nil))
def laws_szEntryS.R : Sh := (.cons (.pur (.int .i64)) .nil)
def laws_szEntryS.ann : Ann := { loops := [], joins := [], keys := [] }
noncomputable def laws_szEntryS (k : Nat) : ((List (Int × Int × Unit)) × Int × Unit) → Option ((Int × Unit) × (Unit × Unit × Unit)) := fun x => match x with
 | (a, left, ()) =>
  br k (decide ((IntKind.wrap .i64 (left - (a.length : Int))) < 0))
  (some (((-1), ()), ((), (), ())))
  (some ((IntKind.wrap .i64 (left - (a.length : Int)), ()), ((), (), ())))
noncomputable def laws_szEntryS.sg (k : Nat) : Sig := ⟨laws_szEntryS.A, laws_szEntryS.R, laws_szEntryS k⟩
noncomputable def laws_szEntryS.C (k : Nat) : Ctx := ⟨Tryz.prog, [], k⟩
theorem laws_szEntryS.ev (k : Nat) (x : laws_szEntryS.A.T) : evFunc (laws_szEntryS.C k) laws_szEntryS.ann Tryz.f18 laws_szEntryS.A laws_szEntryS.R x = laws_szEntryS k x := by kernel_rfl
theorem laws_szEntryS.ok {L : List (Nat × Obj)}  (k : Nat) : SigHolds Tryz.prog L 18 (laws_szEntryS.sg k) :=
  sig_of_ev (C := laws_szEntryS.C k) holds_nil (by kernel_rfl) Tryz.func18 (by kernel_rfl) laws_szEntryS.ann laws_szEntryS.A laws_szEntryS.R (fun x y h => (laws_szEntryS.ev k x).trans h) (by kernel_rfl)

/-! loop.example/g00719/laws.szIntervalS -/
def laws_szIntervalS.A : Sh := (.cons (.pur (.sl false (.cons (.int .i64) (.cons (.int .i64) .nil)))) (.cons (.pur (.int .i64)) .nil))
def laws_szIntervalS.R : Sh := (.cons (.pur (.int .i64)) .nil)
def laws_szIntervalS.ann : Ann := { loops := [], joins := [], keys := [] }
noncomputable def laws_szIntervalS (k : Nat) : ((List (Int × Int × Unit)) × Int × Unit) → Option ((Int × Unit) × (Unit × Unit × Unit)) := fun x => match x with
 | (a, left, ()) =>
  br k (decide ((IntKind.wrap .i64 (left - (a.length : Int))) < 0))
  (some (((-1), ()), ((), (), ())))
  (some ((IntKind.wrap .i64 (left - (a.length : Int)), ()), ((), (), ())))
noncomputable def laws_szIntervalS.sg (k : Nat) : Sig := ⟨laws_szIntervalS.A, laws_szIntervalS.R, laws_szIntervalS k⟩
noncomputable def laws_szIntervalS.C (k : Nat) : Ctx := ⟨Tryz.prog, [], k⟩
theorem laws_szIntervalS.ev (k : Nat) (x : laws_szIntervalS.A.T) : evFunc (laws_szIntervalS.C k) laws_szIntervalS.ann Tryz.f178 laws_szIntervalS.A laws_szIntervalS.R x = laws_szIntervalS k x := by kernel_rfl
theorem laws_szIntervalS.ok {L : List (Nat × Obj)}  (k : Nat) : SigHolds Tryz.prog L 178 (laws_szIntervalS.sg k) :=
  sig_of_ev (C := laws_szIntervalS.C k) holds_nil (by kernel_rfl) Tryz.func178 (by kernel_rfl) laws_szIntervalS.ann laws_szIntervalS.A laws_szIntervalS.R (fun x y h => (laws_szIntervalS.ev k x).trans h) (by kernel_rfl)

/-! loop.example/g00719/laws.szEnv -/
def laws_szEnv.A : Sh := (.cons (.pur (.cons .bool (.cons (.sl false (.cons (.int .i64) (.cons (.int .i64) .nil))) (.cons (.sl false (.cons (.int .i64) (.cons (.int .i64) .nil))) .nil)))) (.cons (.pur (.int .i64)) .nil))
def laws_szEnv.R : Sh := (.cons (.pur (.int .i64)) .nil)
def laws_szEnv.ann : Ann := { loops := [], joins := [], keys := [] }
noncomputable def laws_szEnv (k : Nat) : ((Bool × (List (Int × Int × Unit)) × (List (Int × Int × Unit)) × Unit) × Int × Unit) → Option ((Int × Unit) × (Unit × Unit × Unit)) := fun x => match x with
 | (a, left, ()) =>
  bd k (laws_szIntervalS k (a.2.1, left, ())) fun y1 =>
  br k (decide (y1.1.1 < 0))
  (some (((-1), ()), ((), (), ())))
  (bd k (laws_szIntervalS k (a.2.2.1, y1.1.1, ())) fun y2 =>
  br k (decide (y2.1.1 < 0))
  (some (((-1), ()), ((), (), ())))
  (some ((y2.1.1, ()), ((), (), ()))))
noncomputable def laws_szEnv.sg (k : Nat) : Sig := ⟨laws_szEnv.A, laws_szEnv.R, laws_szEnv k⟩
noncomputable def laws_szEnv.C (k : Nat) : Ctx := ⟨Tryz.prog, [(178, [laws_szIntervalS.sg k])], k⟩
theorem laws_szEnv.ev (k : Nat) (x : laws_szEnv.A.T) : evFunc (laws_szEnv.C k) laws_szEnv.ann Tryz.f155 laws_szEnv.A laws_szEnv.R x = laws_szEnv k x := by kernel_rfl
theorem laws_szEnv.ok {L : List (Nat × Obj)}  (k : Nat) : SigHolds Tryz.prog L 155 (laws_szEnv.sg k) :=
  sig_of_ev (C := laws_szEnv.C k) (holds_cons (allok_cons (laws_szIntervalS.ok k) allok_nil) holds_nil) (by kernel_rfl) Tryz.func155 (by kernel_rfl) laws_szEnv.ann laws_szEnv.A laws_szEnv.R (fun x y h => (laws_szEnv.ev k x).trans h) (by kernel_rfl)

/-! loop.example/g00719/laws.szEnvS -/
def laws_szEnvS.A : Sh := (.cons (.pur (.sl false (.cons .bool (.cons (.sl false (.cons (.int .i64) (.cons (.int .i64) .nil))) (.cons (.sl false (.cons (.int .i64) (.cons (.int .i64) .nil))) .nil))))) (.cons (.pur (.int .i64)) .nil))
def laws_szEnvS.R : Sh := (.cons (.pur (.int .i64)) .nil)
def laws_szEnvS.ann : Ann := { loops := [(0, [(0, (.pur (.sl false (.cons .bool (.cons (.sl false (.cons (.int .i64) (.cons (.int .i64) .nil))) (.cons (.sl false (.cons (.int .i64) (.cons (.int .i64) .nil))) .nil)))))), (1, (.pur (.int .i64))), (5, (.pur (.int .i64)))])], joins := [], keys := [] }
noncomputable def laws_szEnvS.l0 (k : Nat)  (G0 : ((List (Bool × (List (Int × Int × Unit)) × (List (Int × Int × Unit)) × Unit)) × Int × Int × Unit) → Option ((Int × Unit) × (Unit × Unit × Unit))) : ((List (Bool × (List (Int × Int × Unit)) × (List (Int × Int × Unit)) × Unit)) × Int × Int × Unit) → Option ((Int × Unit) × (Unit × Unit × Unit)) := fun x => match x with
 | (a, left, i, ()) =>
  br k (decide (i < (a.length : Int)))
  (br k (decide (0 ≤ i))
  (bd k (a[i.toNat]?) fun x1 =>
  bd k (laws_szEnv k (x1, left, ())) fun y2 =>
  br k (decide (y2.1.1 < 0))
  (some (((-1), ()), ((), (), ())))
  (G0 (a, y2.1.1, IntKind.wrap .i64 (i + 1), ())))
  none)
  (some ((left, ()), ((), (), ())))
noncomputable def laws_szEnvS (k : Nat) : ((List (Bool × (List (Int × Int × Unit)) × (List (Int × Int × Unit)) × Unit)) × Int × Unit) → Option ((Int × Unit) × (Unit × Unit × Unit)) := fun x => match x with
 | (a, left, ()) =>
  br k (decide ((IntKind.wrap .i64 (left - (a.length : Int))) < 0))
  (some (((-1), ()), ((), (), ())))
  (iter (laws_szEnvS.l0 k) k (a, IntKind.wrap .i64 (left - (a.length : Int)), 0, ()))
noncomputable def laws_szEnvS.sg (k : Nat) : Sig := ⟨laws_szEnvS.A, laws_szEnvS.R, laws_szEnvS k⟩
noncomputable def laws_szEnvS.C (k : Nat) : Ctx := ⟨Tryz.prog, [(155, [laws_szEnv.sg k])], k⟩
theorem laws_szEnvS.ev (k : Nat) (x : laws_szEnvS.A.T) : evFunc (laws_szEnvS.C k) laws_szEnvS.ann Tryz.f119 laws_szEnvS.A laws_szEnvS.R x = laws_szEnvS k x := by kernel_rfl
theorem laws_szEnvS.ok {L : List (Nat × Obj)}  (k : Nat) : SigHolds Tryz.prog L 119 (laws_szEnvS.sg k) :=
  sig_of_ev (C := laws_szEnvS.C k) (holds_cons (allok_cons (laws_szEnv.ok k) allok_nil) holds_nil) (by kernel_rfl) Tryz.func119 (by kernel_rfl) laws_szEnvS.ann laws_szEnvS.A laws_szEnvS.R (fun x y h => (laws_szEnvS.ev k x).trans h) (by kernel_rfl)

/-! loop.example/g00719/laws.szPart -/
def laws_szPart.A : Sh := (.cons (.pur (.cons (.sl false (.cons (.int .i64) (.cons (.int .i64) .nil))) (.cons (.sl false (.cons .bool (.cons (.sl false (.cons (.int .i64) (.cons (.int .i64) .nil))) (.cons (.sl false (.cons (.int .i64) (.cons (.int .i64) .nil))) .nil)))) .nil))) (.cons (.pur (.int .i64)) .nil))
def laws_szPart.R : Sh := (.cons (.pur (.int .i64)) .nil)
def laws_szPart.ann : Ann := { loops := [], joins := [], keys := [] }
noncomputable def laws_szPart (k : Nat) : (((List (Int × Int × Unit)) × (List (Bool × (List (Int × Int × Unit)) × (List (Int × Int × Unit)) × Unit)) × Unit) × Int × Unit) → Option ((Int × Unit) × (Unit × Unit × Unit)) := fun x => match x with
 | (a, left, ()) =>
  bd k (laws_szEntryS k (a.1, left, ())) fun y1 =>
  br k (decide (y1.1.1 < 0))
  (some (((-1), ()), ((), (), ())))
  (bd k (laws_szEnvS k (a.2.1, y1.1.1, ())) fun y2 =>
  br k (decide (y2.1.1 < 0))
  (some (((-1), ()), ((), (), ())))
  (some ((y2.1.1, ()), ((), (), ()))))
noncomputable def laws_szPart.sg (k : Nat) : Sig := ⟨laws_szPart.A, laws_szPart.R, laws_szPart k⟩
noncomputable def laws_szPart.C (k : Nat) : Ctx := ⟨Tryz.prog, [(18, [laws_szEntryS.sg k]), (119, [laws_szEnvS.sg k])], k⟩
theorem laws_szPart.ev (k : Nat) (x : laws_szPart.A.T) : evFunc (laws_szPart.C k) laws_szPart.ann Tryz.f78 laws_szPart.A laws_szPart.R x = laws_szPart k x := by kernel_rfl
theorem laws_szPart.ok {L : List (Nat × Obj)}  (k : Nat) : SigHolds Tryz.prog L 78 (laws_szPart.sg k) :=
  sig_of_ev (C := laws_szPart.C k) (holds_cons (allok_cons (laws_szEntryS.ok k) allok_nil) (holds_cons (allok_cons (laws_szEnvS.ok k) allok_nil) holds_nil)) (by kernel_rfl) Tryz.func78 (by kernel_rfl) laws_szPart.ann laws_szPart.A laws_szPart.R (fun x y h => (laws_szPart.ev k x).trans h) (by kernel_rfl)

/-! loop.example/g00719/laws.szPartS -/
def laws_szPartS.A : Sh := (.cons (.pur (.sl false (.cons (.sl false (.cons (.int .i64) (.cons (.int .i64) .nil))) (.cons (.sl false (.cons .bool (.cons (.sl false (.cons (.int .i64) (.cons (.int .i64) .nil))) (.cons (.sl false (.cons (.int .i64) (.cons (.int .i64) .nil))) .nil)))) .nil)))) (.cons (.pur (.int .i64)) .nil))
def laws_szPartS.R : Sh := (.cons (.pur (.int .i64)) .nil)
def laws_szPartS.ann : Ann := { loops := [(0, [(0, (.pur (.sl false (.cons (.sl false (.cons (.int .i64) (.cons (.int .i64) .nil))) (.cons (.sl false (.cons .bool (.cons (.sl false (.cons (.int .i64) (.cons (.int .i64) .nil))) (.cons (.sl false (.cons (.int .i64) (.cons (.int .i64) .nil))) .nil)))) .nil))))), (1, (.pur (.int .i64))), (5, (.pur (.int .i64)))])], joins := [], keys := [] }
noncomputable def laws_szPartS.l0 (k : Nat)  (G0 : ((List ((List (Int × Int × Unit)) × (List (Bool × (List (Int × Int × Unit)) × (List (Int × Int × Unit)) × Unit)) × Unit)) × Int × Int × Unit) → Option ((Int × Unit) × (Unit × Unit × Unit))) : ((List ((List (Int × Int × Unit)) × (List (Bool × (List (Int × Int × Unit)) × (List (Int × Int × Unit)) × Unit)) × Unit)) × Int × Int × Unit) → Option ((Int × Unit) × (Unit × Unit × Unit)) := fun x => match x with
 | (a, left, i, ()) =>
  br k (decide (i < (a.length : Int)))
  (br k (decide (0 ≤ i))
  (bd k (a[i.toNat]?) fun x1 =>
  bd k (laws_szPart k (x1, left, ())) fun y2 =>
  br k (decide (y2.1.1 < 0))
  (some (((-1), ()), ((), (), ())))
  (G0 (a, y2.1.1, IntKind.wrap .i64 (i + 1), ())))
  none)
  (some ((left, ()), ((), (), ())))
noncomputable def laws_szPartS (k : Nat) : ((List ((List (Int × Int × Unit)) × (List (Bool × (List (Int × Int × Unit)) × (List (Int × Int × Unit)) × Unit)) × Unit)) × Int × Unit) → Option ((Int × Unit) × (Unit × Unit × Unit)) := fun x => match x with
 | (a, left, ()) =>
  br k (decide ((IntKind.wrap .i64 (left - (a.length : Int))) < 0))
  (some (((-1), ()), ((), (), ())))
  (iter (laws_szPartS.l0 k) k (a, IntKind.wrap .i64 (left - (a.length : Int)), 0, ()))
noncomputable def laws_szPartS.sg (k : Nat) : Sig := ⟨laws_szPartS.A, laws_szPartS.R, laws_szPartS k⟩
noncomputable def laws_szPartS.C (k : Nat) : Ctx := ⟨Tryz.prog, [(78, [laws_szPart.sg k])], k⟩
theorem laws_szPartS.ev (k : Nat) (x : laws_szPartS.A.T) : evFunc (laws_szPartS.C k) laws_szPartS.ann Tryz.f40 laws_szPartS.A laws_szPartS.R x = laws_szPartS k x := by kernel_rfl
theorem laws_szPartS.ok {L : List (Nat × Obj)}  (k : Nat) : SigHolds Tryz.prog L 40 (laws_szPartS.sg k) :=
  sig_of_ev (C := laws_szPartS.C k) (holds_cons (allok_cons (laws_szPart.ok k) allok_nil) holds_nil) (by kernel_rfl) Tryz.func40 (by kernel_rfl) laws_szPartS.ann laws_szPartS.A laws_szPartS.R (fun x y h => (laws_szPartS.ev k x).trans h) (by kernel_rfl)

/-! loop.example/g00719/laws.szRow -/
def laws_szRow.A : Sh := (.cons (.pur (.cons (.sl false (.cons (.sl false (.cons (.int .i64) (.cons (.int .i64) .nil))) (.cons (.sl false (.cons .bool (.cons (.sl false (.cons (.int .i64) (.cons (.int .i64) .nil))) (.cons (.sl false (.cons (.int .i64) (.cons (.int .i64) .nil))) .nil)))) .nil))) .nil)) (.cons (.pur (.int .i64)) .nil))
def laws_szRow.R : Sh := (.cons (.pur (.int .i64)) .nil)
def laws_szRow.ann : Ann := { loops := [], joins := [], keys := [] }
noncomputable def laws_szRow (k : Nat) : (((List ((List (Int × Int × Unit)) × (List (Bool × (List (Int × Int × Unit)) × (List (Int × Int × Unit)) × Unit)) × Unit)) × Unit) × Int × Unit) → Option ((Int × Unit) × (Unit × Unit × Unit)) := fun x => match x with
 | (a, left, ()) =>
  bd k (laws_szPartS k (a.1, left, ())) fun y1 =>
  br k (decide (y1.1.1 < 0))
  (some (((-1), ()), ((), (), ())))
  (some ((y1.1.1, ()), ((), (), ())))
noncomputable def laws_szRow.sg (k : Nat) : Sig := ⟨laws_szRow.A, laws_szRow.R, laws_szRow k⟩
noncomputable def laws_szRow.C (k : Nat) : Ctx := ⟨Tryz.prog, [(40, [laws_szPartS.sg k])], k⟩
theorem laws_szRow.ev (k : Nat) (x : laws_szRow.A.T) : evFunc (laws_szRow.C k) laws_szRow.ann Tryz.f17 laws_szRow.A laws_szRow.R x = laws_szRow k x := by kernel_rfl
theorem laws_szRow.ok {L : List (Nat × Obj)}  (k : Nat) : SigHolds Tryz.prog L 17 (laws_szRow.sg k) :=
  sig_of_ev (C := laws_szRow.C k) (holds_cons (allok_cons (laws_szPartS.ok k) allok_nil) holds_nil) (by kernel_rfl) Tryz.func17 (by kernel_rfl) laws_szRow.ann laws_szRow.A laws_szRow.R (fun x y h => (laws_szRow.ev k x).trans h) (by kernel_rfl)

/-! loop.example/g00719/laws.szRowS -/
def laws_szRowS.A : Sh := (.cons (.pur (.sl false (.cons (.sl false (.cons (.sl false (.cons (.int .i64) (.cons (.int .i64) .nil))) (.cons (.sl false (.cons .bool (.cons (.sl false (.cons (.int .i64) (.cons (.int .i64) .nil))) (.cons (.sl false (.cons (.int .i64) (.cons (.int .i64) .nil))) .nil)))) .nil))) .nil))) (.cons (.pur (.int .i64)) .nil))
def laws_szRowS.R : Sh := (.cons (.pur (.int .i64)) .nil)
def laws_szRowS.ann : Ann := { loops := [(0, [(0, (.pur (.sl false (.cons (.sl false (.cons (.sl false (.cons (.int .i64) (.cons (.int .i64) .nil))) (.cons (.sl false (.cons .bool (.cons (.sl false (.cons (.int .i64) (.cons (.int .i64) .nil))) (.cons (.sl false (.cons (.int .i64) (.cons (.int .i64) .nil))) .nil)))) .nil))) .nil)))), (1, (.pur (.int .i64))), (5, (.pur (.int .i64)))])], joins := [], keys := [] }
noncomputable def laws_szRowS.l0 (k : Nat)  (G0 : ((List ((List ((List (Int × Int × Unit)) × (List (Bool × (List (Int × Int × Unit)) × (List (Int × Int × Unit)) × Unit)) × Unit)) × Unit)) × Int × Int × Unit) → Option ((Int × Unit) × (Unit × Unit × Unit))) : ((List ((List ((List (Int × Int × Unit)) × (List (Bool × (List (Int × Int × Unit)) × (List (Int × Int × Unit)) × Unit)) × Unit)) × Unit)) × Int × Int × Unit) → Option ((Int × Unit) × (Unit × Unit × Unit)) := fun x => match x with
 | (a, left, i, ()) =>
  br k (decide (i < (a.length : Int)))
  (br k (decide (0 ≤ i))
  (bd k (a[i.toNat]?) fun x1 =>
  bd k (laws_szRow k (x1, left, ())) fun y2 =>
  br k (decide (y2.1.1 < 0))
  (some (((-1), ()), ((), (), ())))
  (G0 (a, y2.1.1, IntKind.wrap .i64 (i + 1), ())))
  none)
  (some ((left, ()), ((), (), ())))
noncomputable def laws_szRowS (k : Nat) : ((List ((List ((List (Int × Int × Unit)) × (List (Bool × (List (Int × Int × Unit)) × (List (Int × Int × Unit)) × Unit)) × Unit)) × Unit)) × Int × Unit) → Option ((Int × Unit) × (Unit × Unit × Unit)) := fun x => match x with
 | (a, left, ()) =>
  br k (decide ((IntKind.wrap .i64 (left - (a.length : Int))) < 0))
  (some (((-1), ()), ((), (), ())))
  (iter (laws_szRowS.l0 k) k (a, IntKind.wrap .i64 (left - (a.length : Int)), 0, ()))
noncomputable def laws_szRowS.sg (k : Nat) : Sig := ⟨laws_szRowS.A, laws_szRowS.R, laws_szRowS k⟩
noncomputable def laws_szRowS.C (k : Nat) : Ctx := ⟨Tryz.prog, [(17, [laws_szRow.sg k])], k⟩
theorem laws_szRowS.ev (k : Nat) (x : laws_szRowS.A.T) : evFunc (laws_szRowS.C k) laws_szRowS.ann Tryz.f5 laws_szRowS.A laws_szRowS.R x = laws_szRowS k x := by kernel_rfl
theorem laws_szRowS.ok {L : List (Nat × Obj)}  (k : Nat) : SigHolds Tryz.prog L 5 (laws_szRowS.sg k) :=
  sig_of_ev (C := laws_szRowS.C k) (holds_cons (allok_cons (laws_szRow.ok k) allok_nil) holds_nil) (by kernel_rfl) Tryz.func5 (by kernel_rfl) laws_szRowS.ann laws_szRowS.A laws_szRowS.R (fun x y h => (laws_szRowS.ev k x).trans h) (by kernel_rfl)

/-! loop.example/g00719/laws.szInt64S -/
def laws_szInt64S.A : Sh := (.cons (.pur (.sl false (.int .i64))) (.cons (.pur (.int .i64)) .nil))
def laws_szInt64S.R : Sh := (.cons (.pur (.int .i64)) .nil)
def laws_szInt64S.ann : Ann := { loops := [], joins := [], keys := [] }
noncomputable def laws_szInt64S (k : Nat) : ((List Int) × Int × Unit) → Option ((Int × Unit) × (Unit × Unit × Unit)) := fun x => match x with
 | (a, left, ()) =>
  br k (decide ((IntKind.wrap .i64 (left - (a.length : Int))) < 0))
  (some (((-1), ()), ((), (), ())))
  (some ((IntKind.wrap .i64 (left - (a.length : Int)), ()), ((), (), ())))
noncomputable def laws_szInt64S.sg (k : Nat) : Sig := ⟨laws_szInt64S.A, laws_szInt64S.R, laws_szInt64S k⟩
noncomputable def laws_szInt64S.C (k : Nat) : Ctx := ⟨Tryz.prog, [], k⟩
theorem laws_szInt64S.ev (k : Nat) (x : laws_szInt64S.A.T) : evFunc (laws_szInt64S.C k) laws_szInt64S.ann Tryz.f41 laws_szInt64S.A laws_szInt64S.R x = laws_szInt64S k x := by kernel_rfl
theorem laws_szInt64S.ok {L : List (Nat × Obj)}  (k : Nat) : SigHolds Tryz.prog L 41 (laws_szInt64S.sg k) :=
  sig_of_ev (C := laws_szInt64S.C k) holds_nil (by kernel_rfl) Tryz.func41 (by kernel_rfl) laws_szInt64S.ann laws_szInt64S.A laws_szInt64S.R (fun x y h => (laws_szInt64S.ev k x).trans h) (by kernel_rfl)

/-! loop.example/g00719/laws.szBoolS -/
def laws_szBoolS.A : Sh := (.cons (.pur (.sl false .bool)) (.cons (.pur (.int .i64)) .nil))
def laws_szBoolS.R : Sh := (.cons (.pur (.int .i64)) .nil)
def laws_szBoolS.ann : Ann := { loops := [], joins := [], keys := [] }
noncomputable def laws_szBoolS (k : Nat) : ((List Bool) × Int × Unit) → Option ((Int × Unit) × (Unit × Unit × Unit)) := fun x => match x with
 | (a, left, ()) =>
  br k (decide ((IntKind.wrap .i64 (left - (a.length : Int))) < 0))
  (some (((-1), ()), ((), (), ())))
  (some ((IntKind.wrap .i64 (left - (a.length : Int)), ()), ((), (), ())))
noncomputable def laws_szBoolS.sg (k : Nat) : Sig := ⟨laws_szBoolS.A, laws_szBoolS.R, laws_szBoolS k⟩
noncomputable def laws_szBoolS.C (k : Nat) : Ctx := ⟨Tryz.prog, [], k⟩
theorem laws_szBoolS.ev (k : Nat) (x : laws_szBoolS.A.T) : evFunc (laws_szBoolS.C k) laws_szBoolS.ann Tryz.f42 laws_szBoolS.A laws_szBoolS.R x = laws_szBoolS k x := by kernel_rfl
theorem laws_szBoolS.ok {L : List (Nat × Obj)}  (k : Nat) : SigHolds Tryz.prog L 42 (laws_szBoolS.sg k) :=
  sig_of_ev (C := laws_szBoolS.C k) holds_nil (by kernel_rfl) Tryz.func42 (by kernel_rfl) laws_szBoolS.ann laws_szBoolS.A laws_szBoolS.R (fun x y h => (laws_szBoolS.ev k x).trans h) (by kernel_rfl)

/-! loop.example/g00719/laws.szInt64SS -/
def laws_szInt64SS.A : Sh := (.cons (.pur (.sl false (.sl false (.int .i64)))) (.cons (.pur (.int .i64)) .nil))
def laws_szInt64SS.R : Sh := (.cons (.pur (.int .i64)) .nil)
def laws_szInt64SS.ann : Ann := { loops := [(0, [(0, (.pur (.sl false (.sl false (.int .i64))))), (1, (.pur (.int .i64))), (5, (.pur (.int .i64)))])], joins := [], keys := [] }
noncomputable def laws_szInt64SS.l0 (k : Nat)  (G0 : ((List (List Int)) × Int × Int × Unit) → Option ((Int × Unit) × (Unit × Unit × Unit))) : ((List (List Int)) × Int × Int × Unit) → Option ((Int × Unit) × (Unit × Unit × Unit)) := fun x => match x with
 | (a, left, i, ()) =>
  br k (decide (i < (a.length : Int)))
  (br k (decide (0 ≤ i))
  (bd k (a[i.toNat]?) fun x1 =>
  bd k (laws_szInt64S k (x1, left, ())) fun y2 =>
  br k (decide (y2.1.1 < 0))
  (some (((-1), ()), ((), (), ())))
  (G0 (a, y2.1.1, IntKind.wrap .i64 (i + 1), ())))
  none)
  (some ((left, ()), ((), (), ())))
noncomputable def laws_szInt64SS (k : Nat) : ((List (List Int)) × Int × Unit) → Option ((Int × Unit) × (Unit × Unit × Unit)) := fun x => match x with
 | (a, left, ()) =>
  br k (decide ((IntKind.wrap .i64 (left - (a.length : Int))) < 0))
  (some (((-1), ()), ((), (), ())))
  (iter (laws_szInt64SS.l0 k) k (a, IntKind.wrap .i64 (left - (a.length : Int)), 0, ()))
noncomputable def laws_szInt64SS.sg (k : Nat) : Sig := ⟨laws_szInt64SS.A, laws_szInt64SS.R, laws_szInt64SS k⟩
noncomputable def laws_szInt64SS.C (k : Nat) : Ctx := ⟨Tryz.prog, [(41, [laws_szInt64S.sg k])], k⟩
theorem laws_szInt64SS.ev (k : Nat) (x : laws_szInt64SS.A.T) : evFunc (laws_szInt64SS.C k) laws_szInt64SS.ann Tryz.f43 laws_szInt64SS.A laws_szInt64SS.R x = laws_szInt64SS k x := by kernel_rfl
theorem laws_szInt64SS.ok {L : List (Nat × Obj)}  (k : Nat) : SigHolds Tryz.prog L 43 (laws_szInt64SS.sg k) :=
  sig_of_ev (C := laws_szInt64SS.C k) (holds_cons (allok_cons (laws_szInt64S.ok k) allok_nil) holds_nil) (by kernel_rfl) Tryz.func43 (by kernel_rfl) laws_szInt64SS.ann laws_szInt64SS.A laws_szInt64SS.R (fun x y h => (laws_szInt64SS.ev k x).trans h) (by kernel_rfl)

/-! loop.example/g00719/laws.szStore -/
def laws_szStore.A : Sh := (.cons (.pur (.cons (.sl false (.int .i64)) (.cons (.sl false .bool) (.cons (.sl false (.sl false (.int .i64))) .nil)))) (.cons (.pur (.int .i64)) .nil))
def laws_szStore.R : Sh := (.cons (.pur (.int .i64)) .nil)
def laws_szStore.ann : Ann := { loops := [], joins := [], keys := [] }
noncomputable def laws_szStore (k : Nat) : (((List Int) × (List Bool) × (List (List Int)) × Unit) × Int × Unit) → Option ((Int × Unit) × (Unit × Unit × Unit)) := fun x => match x with
 | (a, left, ()) =>
  bd k (laws_szInt64S k (a.1, left, ())) fun y1 =>
  br k (decide (y1.1.1 < 0))
  (some (((-1), ()), ((), (), ())))
  (bd k (laws_szBoolS k (a.2.1, y1.1.1, ())) fun y2 =>
  br k (decide (y2.1.1 < 0))
  (some (((-1), ()), ((), (), ())))
  (bd k (laws_szInt64SS k (a.2.2.1, y2.1.1, ())) fun y3 =>
  br k (decide (y3.1.1 < 0))
  (some (((-1), ()), ((), (), ())))
  (some ((y3.1.1, ()), ((), (), ())))))
noncomputable def laws_szStore.sg (k : Nat) : Sig := ⟨laws_szStore.A, laws_szStore.R, laws_szStore k⟩
noncomputable def laws_szStore.C (k : Nat) : Ctx := ⟨Tryz.prog, [(41, [laws_szInt64S.sg k]), (42, [laws_szBoolS.sg k]), (43, [laws_szInt64SS.sg k])], k⟩
theorem laws_szStore.ev (k : Nat) (x : laws_szStore.A.T) : evFunc (laws_szStore.C k) laws_szStore.ann Tryz.f19 laws_szStore.A laws_szStore.R x = laws_szStore k x := by kernel_rfl
theorem laws_szStore.ok {L : List (Nat × Obj)}  (k : Nat) : SigHolds Tryz.prog L 19 (laws_szStore.sg k) :=
  sig_of_ev (C := laws_szStore.C k) (holds_cons (allok_cons (laws_szInt64S.ok k) allok_nil) (holds_cons (allok_cons (laws_szBoolS.ok k) allok_nil) (holds_cons (allok_cons (laws_szInt64SS.ok k) allok_nil) holds_nil))) (by kernel_rfl) Tryz.func19 (by kernel_rfl) laws_szStore.ann laws_szStore.A laws_szStore.R (fun x y h => (laws_szStore.ev k x).trans h) (by kernel_rfl)

/-! loop.example/g00719/laws.szSnap -/
def laws_szSnap.A : Sh := (.cons (.pur (.cons (.int .i64) (.cons (.sl false (.cons (.int .i64) (.cons (.int .i64) .nil))) (.cons (.sl false (.int .i64)) (.cons (.sl false .bool) (.cons (.sl false (.sl false (.int .i64))) .nil)))))) (.cons (.pur (.int .i64)) .nil))
def laws_szSnap.R : Sh := (.cons (.pur (.int .i64)) .nil)
def laws_szSnap.ann : Ann := { loops := [], joins := [], keys := [] }
noncomputable def laws_szSnap (k : Nat) : ((Int × (List (Int × Int × Unit)) × (List Int) × (List Bool) × (List (List Int)) × Unit) × Int × Unit) → Option ((Int × Unit) × (Unit × Unit × Unit)) := fun x => match x with
 | (a, left, ()) =>
  bd k (laws_szEntryS k (a.2.1, left, ())) fun y1 =>
  br k (decide (y1.1.1 < 0))
  (some (((-1), ()), ((), (), ())))
  (bd k (laws_szStore k ((a.2.2.1, a.2.2.2.1, a.2.2.2.2.1, ()), y1.1.1, ())) fun y2 =>
  br k (decide (y2.1.1 < 0))
  (some (((-1), ()), ((), (), ())))
  (some ((y2.1.1, ()), ((), (), ()))))
noncomputable def laws_szSnap.sg (k : Nat) : Sig := ⟨laws_szSnap.A, laws_szSnap.R, laws_szSnap k⟩
noncomputable def laws_szSnap.C (k : Nat) : Ctx := ⟨Tryz.prog, [(18, [laws_szEntryS.sg k]), (19, [laws_szStore.sg k])], k⟩
theorem laws_szSnap.ev (k : Nat) (x : laws_szSnap.A.T) : evFunc (laws_szSnap.C k) laws_szSnap.ann Tryz.f6 laws_szSnap.A laws_szSnap.R x = laws_szSnap k x := by kernel_rfl
theorem laws_szSnap.ok {L : List (Nat × Obj)}  (k : Nat) : SigHolds Tryz.prog L 6 (laws_szSnap.sg k) :=
  sig_of_ev (C := laws_szSnap.C k) (holds_cons (allok_cons (laws_szEntryS.ok k) allok_nil) (holds_cons (allok_cons (laws_szStore.ok k) allok_nil) holds_nil)) (by kernel_rfl) Tryz.func6 (by kernel_rfl) laws_szSnap.ann laws_szSnap.A laws_szSnap.R (fun x y h => (laws_szSnap.ev k x).trans h) (by kernel_rfl)

/-! loop.example/g00719/laws.toStringS -/
def laws_toStringS.A : Sh := (.cons (.pur (.sl false .str)) .nil)
def laws_toStringS.R : Sh := (.cons (.own .str) .nil)
def laws_toStringS.ann : Ann := { loops := [(0, [(0, (.pur (.sl false .str))), (3, (.own .str)), (4, (.pur (.int .i64)))])], joins := [], keys := [] }
noncomputable def laws_toStringS.l0 (k : Nat)  (G0 : ((List (List UInt8)) × (List (List UInt8)) × Int × Unit) → Option (((List (List UInt8)) × Unit) × (Unit × Unit))) : ((List (List UInt8)) × (List (List UInt8)) × Int × Unit) → Option (((List (List UInt8)) × Unit) × (Unit × Unit)) := fun x => match x with
 | (a, out_, i, ()) =>
  br k (decide (i < (a.length : Int)))
  (br k (decide (0 ≤ i))
  (bd k (a[i.toNat]?) fun x1 =>
  br k (decide (0 ≤ i ∧ i < (out_.length : Int)))
  (bd k (out_[i.toNat]?) fun x2 =>
  G0 (a, out_.set i.toNat x1, IntKind.wrap .i64 (i + 1), ()))
  none)
  none)
  (some ((out_, ()), ((), ())))
noncomputable def laws_toStringS (k : Nat) : ((List (List UInt8)) × Unit) → Option (((List (List UInt8)) × Unit) × (Unit × Unit)) := fun x => match x with
 | (a, ()) =>
  br k (decide (0 ≤ (a.length : Int) ∧ (a.length : Int) ≤ (a.length : Int) ∧ (a.length : Int) * 16 ≤ maxBytes))
  (iter (laws_toStringS.l0 k) k (a, List.replicate (a.length : Int).toNat (Kd.z .str), 0, ()))
  none
noncomputable def laws_toStringS.sg (k : Nat) : Sig := ⟨laws_toStringS.A, laws_toStringS.R, laws_toStringS k⟩
noncomputable def laws_toStringS.C (k : Nat) : Ctx := ⟨Tryz.prog, [], k⟩
theorem laws_toStringS.ev (k : Nat) (x : laws_toStringS.A.T) : evFunc (laws_toStringS.C k) laws_toStringS.ann Tryz.f53 laws_toStringS.A laws_toStringS.R x = laws_toStringS k x := by kernel_rfl
theorem laws_toStringS.ok {L : List (Nat × Obj)}  (k : Nat) : SigHolds Tryz.prog L 53 (laws_toStringS.sg k) :=
  sig_of_ev (C := laws_toStringS.C k) holds_nil (by kernel_rfl) Tryz.func53 (by kernel_rfl) laws_toStringS.ann laws_toStringS.A laws_toStringS.R (fun x y h => (laws_toStringS.ev k x).trans h) (by kernel_rfl)

/-! loop.example/g00719/laws.toArr -/
def laws_toArr.A : Sh := (.cons (.pur (.cons .str (.cons (.int .i64) .nil))) .nil)
def laws_toArr.R : Sh := (.cons (.pur (.cons .str (.cons (.int .i64) .nil))) .nil)
def laws_toArr.ann : Ann := { loops := [], joins := [], keys := [] }
noncomputable def laws_toArr (k : Nat) : (((List UInt8) × Int × Unit) × Unit) → Option ((((List UInt8) × Int × Unit) × Unit) × (Unit × Unit)) := fun x => match x with
 | (a, ()) =>
  some ((a, ()), ((), ()))
noncomputable def laws_toArr.sg (k : Nat) : Sig := ⟨laws_toArr.A, laws_toArr.R, laws_toArr k⟩
noncomputable def laws_toArr.C (k : Nat) : Ctx := ⟨Tryz.prog, [], k⟩
theorem laws_toArr.ev (k : Nat) (x : laws_toArr.A.T) : evFunc (laws_toArr.C k) laws_toArr.ann Tryz.f90 laws_toArr.A laws_toArr.R x = laws_toArr k x := by kernel_rfl
theorem laws_toArr.ok {L : List (Nat × Obj)}  (k : Nat) : SigHolds Tryz.prog L 90 (laws_toArr.sg k) :=
  sig_of_ev (C := laws_toArr.C k) holds_nil (by kernel_rfl) Tryz.func90 (by kernel_rfl) laws_toArr.ann laws_toArr.A laws_toArr.R (fun x y h => (laws_toArr.ev k x).trans h) (by kernel_rfl)

/-! loop.example/g00719/laws.toArrS -/
def laws_toArrS.A : Sh := (.cons (.pur (.sl false (.cons .str (.cons (.int .i64) .nil)))) .nil)
def laws_toArrS.R : Sh := (.cons (.own (.cons .str (.cons (.int .i64) .nil))) .nil)
def laws_toArrS.ann : Ann := { loops := [(0, [(0, (.pur (.sl false (.cons .str (.cons (.int .i64) .nil))))), (3, (.own (.cons .str (.cons (.int .i64) .nil)))), (4, (.pur (.int .i64)))])], joins := [], keys := [] }
noncomputable def laws_toArrS.l0 (k : Nat)  (G0 : ((List ((List UInt8) × Int × Unit)) × (List ((List UInt8) × Int × Unit)) × Int × Unit) → Option (((List ((List UInt8) × Int × Unit)) × Unit) × (Unit × Unit))) : ((List ((List UInt8) × Int × Unit)) × (List ((List UInt8) × Int × Unit)) × Int × Unit) → Option (((List ((List UInt8) × Int × Unit)) × Unit) × (Unit × Unit)) := fun x => match x with
 | (a, out_, i, ()) =>
  br k (decide (i < (a.length : Int)))
  (br k (decide (0 ≤ i))
  (bd k (a[i.toNat]?) fun x1 =>
  bd k (laws_toArr k (x1, ())) fun y2 =>
  br k (decide (0 ≤ i ∧ i < (out_.length : Int)))
  (bd k (out_[i.toNat]?) fun x3 =>
  G0 (a, out_.set i.toNat y2.1.1, IntKind.wrap .i64 (i + 1), ()))
  none)
  none)
  (some ((out_, ()), ((), ())))
noncomputable def laws_toArrS (k : Nat) : ((List ((List UInt8) × Int × Unit)) × Unit) → Option (((List ((List UInt8) × Int × Unit)) × Unit) × (Unit × Unit)) := fun x => match x with
 | (a, ()) =>
  br k (decide (0 ≤ (a.length : Int) ∧ (a.length : Int) ≤ (a.length : Int) ∧ (a.length : Int) * 24 ≤ maxBytes))
  (iter (laws_toArrS.l0 k) k (a, List.replicate (a.length : Int).toNat (Kd.z (.cons .str (.cons (.int .i64) .nil))), 0, ()))
  none
noncomputable def laws_toArrS.sg (k : Nat) : Sig := ⟨laws_toArrS.A, laws_toArrS.R, laws_toArrS k⟩
noncomputable def laws_toArrS.C (k : Nat) : Ctx := ⟨Tryz.prog, [(90, [laws_toArr.sg k])], k⟩
theorem laws_toArrS.ev (k : Nat) (x : laws_toArrS.A.T) : evFunc (laws_toArrS.C k) laws_toArrS.ann Tryz.f54 laws_toArrS.A laws_toArrS.R x = laws_toArrS k x := by kernel_rfl
theorem laws_toArrS.ok {L : List (Nat × Obj)}  (k : Nat) : SigHolds Tryz.prog L 54 (laws_toArrS.sg k) :=
  sig_of_ev (C := laws_toArrS.C k) (holds_cons (allok_cons (laws_toArr.ok k) allok_nil) holds_nil) (by kernel_rfl) Tryz.func54 (by kernel_rfl) laws_toArrS.ann laws_toArrS.A laws_toArrS.R (fun x y h => (laws_toArrS.ev k x).trans h) (by kernel_rfl)

/-! loop.example/g00719/laws.toDecl -/
def laws_toDecl.A : Sh := (.cons (.pur (.cons (.sl false .str) (.cons (.sl false .str) (.cons (.sl false (.cons .str (.cons (.int .i64) .nil))) .nil)))) .nil)
def laws_toDecl.R : Sh := (.cons (.agg (.cons (.own .str) (.cons (.own .str) (.cons (.own (.cons .str (.cons (.int .i64) .nil))) .nil)))) .nil)
def laws_toDecl.ann : Ann := { loops := [], joins := [], keys := [] }
noncomputable def laws_toDecl (k : Nat) : (((List (List UInt8)) × (List (List UInt8)) × (List ((List UInt8) × Int × Unit)) × Unit) × Unit) → Option ((((List (List UInt8)) × (List (List UInt8)) × (List ((List UInt8) × Int × Unit)) × Unit) × Unit) × (Unit × Unit)) := fun x => match x with
 | (a, ()) =>
  bd k (laws_toStringS k (a.1, ())) fun y1 =>
  bd k (laws_toStringS k (a.2.1, ())) fun y2 =>
  bd k (laws_toArrS k (a.2.2.1, ())) fun y3 =>
  some (((y1.1.1, y2.1.1, y3.1.1, ()), ()), ((), ()))
noncomputable def laws_toDecl.sg (k : Nat) : Sig := ⟨laws_toDecl.A, laws_toDecl.R, laws_toDecl k⟩
noncomputable def laws_toDecl.C (k : Nat) : Ctx := ⟨Tryz.prog, [(53, [laws_toStringS.sg k]), (54, [laws_toArrS.sg k])], k⟩
theorem laws_toDecl.ev (k : Nat) (x : laws_toDecl.A.T) : evFunc (laws_toDecl.C k) laws_toDecl.ann Tryz.f23 laws_toDecl.A laws_toDecl.R x = laws_toDecl k x := by kernel_rfl
theorem laws_toDecl.ok {L : List (Nat × Obj)}  (k : Nat) : SigHolds Tryz.prog L 23 (laws_toDecl.sg k) :=
  sig_of_ev (C := laws_toDecl.C k) (holds_cons (allok_cons (laws_toStringS.ok k) allok_nil) (holds_cons (allok_cons (laws_toArrS.ok k) allok_nil) holds_nil)) (by kernel_rfl) Tryz.func23 (by kernel_rfl) laws_toDecl.ann laws_toDecl.A laws_toDecl.R (fun x y h => (laws_toDecl.ev k x).trans h) (by kernel_rfl)

/-! loop.example/g00719/laws.toTok -/
def laws_toTok.A : Sh := (.cons (.pur (.cons (.int .i64) (.cons (.int .i64) .nil))) .nil)
def laws_toTok.R : Sh := (.cons (.pur (.cons (.int .i64) (.cons (.int .i64) .nil))) .nil)
def laws_toTok.ann : Ann := { loops := [], joins := [], keys := [] }
noncomputable def laws_toTok (k : Nat) : ((Int × Int × Unit) × Unit) → Option (((Int × Int × Unit) × Unit) × (Unit × Unit)) := fun x => match x with
 | (a, ()) =>
  some ((a, ()), ((), ()))
noncomputable def laws_toTok.sg (k : Nat) : Sig := ⟨laws_toTok.A, laws_toTok.R, laws_toTok k⟩
noncomputable def laws_toTok.C (k : Nat) : Ctx := ⟨Tryz.prog, [], k⟩
theorem laws_toTok.ev (k : Nat) (x : laws_toTok.A.T) : evFunc (laws_toTok.C k) laws_toTok.ann Tryz.f126 laws_toTok.A laws_toTok.R x = laws_toTok k x := by kernel_rfl
theorem laws_toTok.ok {L : List (Nat × Obj)}  (k : Nat) : SigHolds Tryz.prog L 126 (laws_toTok.sg k) :=
  sig_of_ev (C := laws_toTok.C k) holds_nil (by kernel_rfl) Tryz.func126 (by kernel_rfl) laws_toTok.ann laws_toTok.A laws_toTok.R (fun x y h => (laws_toTok.ev k x).trans h) (by kernel_rfl)

/-! loop.example/g00719/laws.toTokS -/
def laws_toTokS.A : Sh := (.cons (.pur (.sl false (.cons (.int .i64) (.cons (.int .i64) .nil)))) .nil)
def laws_toTokS.R : Sh := (.cons (.own (.cons (.int .i64) (.cons (.int .i64) .nil))) .nil)
def laws_toTokS.ann : Ann := { loops := [(0, [(0, (.pur (.sl false (.cons (.int .i64) (.cons (.int .i64) .nil))))), (3, (.own (.cons (.int .i64) (.cons (.int .i64) .nil)))), (4, (.pur (.int .i64)))])], joins := [], keys := [] }
noncomputable def laws_toTokS.l0 (k : Nat)  (G0 : ((List (Int × Int × Unit)) × (List (Int × Int × Unit)) × Int × Unit) → Option (((List (Int × Int × Unit)) × Unit) × (Unit × Unit))) : ((List (Int × Int × Unit)) × (List (Int × Int × Unit)) × Int × Unit) → Option (((List (Int × Int × Unit)) × Unit) × (Unit × Unit)) := fun x => match x with
 | (a, out_, i, ()) =>
  br k (decide (i < (a.length : Int)))
  (br k (decide (0 ≤ i))
  (bd k (a[i.toNat]?) fun x1 =>
  bd k (laws_toTok k (x1, ())) fun y2 =>
  br k (decide (0 ≤ i ∧ i < (out_.length : Int)))
  (bd k (out_[i.toNat]?) fun x3 =>
  G0 (a, out_.set i.toNat y2.1.1, IntKind.wrap .i64 (i + 1), ()))
  none)
  none)
  (some ((out_, ()), ((), ())))
noncomputable def laws_toTokS (k : Nat) : ((List (Int × Int × Unit)) × Unit) → Option (((List (Int × Int × Unit)) × Unit) × (Unit × Unit)) := fun x => match x with
 | (a, ()) =>
  br k (decide (0 ≤ (a.length : Int) ∧ (a.length : Int) ≤ (a.length : Int) ∧ (a.length : Int) * 16 ≤ maxBytes))
  (iter (laws_toTokS.l0 k) k (a, List.replicate (a.length : Int).toNat (Kd.z (.cons (.int .i64) (.cons (.int .i64) .nil))), 0, ()))
  none
noncomputable def laws_toTokS.sg (k : Nat) : Sig := ⟨laws_toTokS.A, laws_toTokS.R, laws_toTokS k⟩
noncomputable def laws_toTokS.C (k : Nat) : Ctx := ⟨Tryz.prog, [(126, [laws_toTok.sg k])], k⟩
theorem laws_toTokS.ev (k : Nat) (x : laws_toTokS.A.T) : evFunc (laws_toTokS.C k) laws_toTokS.ann Tryz.f91 laws_toTokS.A laws_toTokS.R x = laws_toTokS k x := by kernel_rfl
theorem laws_toTokS.ok {L : List (Nat × Obj)}  (k : Nat) : SigHolds Tryz.prog L 91 (laws_toTokS.sg k) :=
  sig_of_ev (C := laws_toTokS.C k) (holds_cons (allok_cons (laws_toTok.ok k) allok_nil) holds_nil) (by kernel_rfl) Tryz.func91 (by kernel_rfl) laws_toTokS.ann laws_toTokS.A laws_toTokS.R (fun x y h => (laws_toTokS.ev k x).trans h) (by kernel_rfl)

/-! loop.example/g00719/laws.toLine -/
def laws_toLine.A : Sh := (.cons (.pur (.cons (.int .i64) (.cons (.int .i64) (.cons (.sl false (.cons (.int .i64) (.cons (.int .i64) .nil))) (.cons (.sl false (.cons (.int .i64) (.cons (.int .i64) .nil))) (.cons (.int .i64) (.cons (.int .i64) .nil))))))) .nil)
def laws_toLine.R : Sh := (.cons (.agg (.cons (.pur (.int .i64)) (.cons (.pur (.int .i64)) (.cons (.own (.cons (.int .i64) (.cons (.int .i64) .nil))) (.cons (.own (.cons (.int .i64) (.cons (.int .i64) .nil))) (.cons (.pur (.int .i64)) (.cons (.pur (.int .i64)) .nil))))))) .nil)
def laws_toLine.ann : Ann := { loops := [], joins := [], keys := [] }
noncomputable def laws_toLine (k : Nat) : ((Int × Int × (List (Int × Int × Unit)) × (List (Int × Int × Unit)) × Int × Int × Unit) × Unit) → Option (((Int × Int × (List (Int × Int × Unit)) × (List (Int × Int × Unit)) × Int × Int × Unit) × Unit) × (Unit × Unit)) := fun x => match x with
 | (a, ()) =>
  bd k (laws_toTokS k (a.2.2.1, ())) fun y1 =>
  bd k (laws_toTokS k (a.2.2.2.1, ())) fun y2 =>
  some (((a.1, a.2.1, y1.1.1, y2.1.1, a.2.2.2.2.1, a.2.2.2.2.2.1, ()), ()), ((), ()))
noncomputable def laws_toLine.sg (k : Nat) : Sig := ⟨laws_toLine.A, laws_toLine.R, laws_toLine k⟩
noncomputable def laws_toLine.C (k : Nat) : Ctx := ⟨Tryz.prog, [(91, [laws_toTokS.sg k])], k⟩
theorem laws_toLine.ev (k : Nat) (x : laws_toLine.A.T) : evFunc (laws_toLine.C k) laws_toLine.ann Tryz.f55 laws_toLine.A laws_toLine.R x = laws_toLine k x := by kernel_rfl
theorem laws_toLine.ok {L : List (Nat × Obj)}  (k : Nat) : SigHolds Tryz.prog L 55 (laws_toLine.sg k) :=
  sig_of_ev (C := laws_toLine.C k) (holds_cons (allok_cons (laws_toTokS.ok k) allok_nil) holds_nil) (by kernel_rfl) Tryz.func55 (by kernel_rfl) laws_toLine.ann laws_toLine.A laws_toLine.R (fun x y h => (laws_toLine.ev k x).trans h) (by kernel_rfl)

/-! loop.example/g00719/laws.toLineS -/
def laws_toLineS.A : Sh := (.cons (.pur (.sl false (.cons (.int .i64) (.cons (.int .i64) (.cons (.sl false (.cons (.int .i64) (.cons (.int .i64) .nil))) (.cons (.sl false (.cons (.int .i64) (.cons (.int .i64) .nil))) (.cons (.int .i64) (.cons (.int .i64) .nil)))))))) .nil)
def laws_toLineS.R : Sh := (.cons (.own (.cons (.int .i64) (.cons (.int .i64) (.cons (.sl false (.cons (.int .i64) (.cons (.int .i64) .nil))) (.cons (.sl false (.cons (.int .i64) (.cons (.int .i64) .nil))) (.cons (.int .i64) (.cons (.int .i64) .nil))))))) .nil)
def laws_toLineS.ann : Ann := { loops := [(0, [(0, (.pur (.sl false (.cons (.int .i64) (.cons (.int .i64) (.cons (.sl false (.cons (.int .i64) (.cons (.int .i64) .nil))) (.cons (.sl false (.cons (.int .i64) (.cons (.int .i64) .nil))) (.cons (.int .i64) (.cons (.int .i64) .nil))))))))), (3, (.own (.cons (.int .i64) (.cons (.int .i64) (.cons (.sl false (.cons (.int .i64) (.cons (.int .i64) .nil))) (.cons (.sl false (.cons (.int .i64) (.cons (.int .i64) .nil))) (.cons (.int .i64) (.cons (.int .i64) .nil)))))))), (4, (.pur (.int .i64)))])], joins := [], keys := [] }
noncomputable def laws_toLineS.l0 (k : Nat)  (G0 : ((List (Int × Int × (List (Int × Int × Unit)) × (List (Int × Int × Unit)) × Int × Int × Unit)) × (List (Int × Int × (List (Int × Int × Unit)) × (List (Int × Int × Unit)) × Int × Int × Unit)) × Int × Unit) → Option (((List (Int × Int × (List (Int × Int × Unit)) × (List (Int × Int × Unit)) × Int × Int × Unit)) × Unit) × (Unit × Unit))) : ((List (Int × Int × (List (Int × Int × Unit)) × (List (Int × Int × Unit)) × Int × Int × Unit)) × (List (Int × Int × (List (Int × Int × Unit)) × (List (Int × Int × Unit)) × Int × Int × Unit)) × Int × Unit) → Option (((List (Int × Int × (List (Int × Int × Unit)) × (List (Int × Int × Unit)) × Int × Int × Unit)) × Unit) × (Unit × Unit)) := fun x => match x with
 | (a, out_, i, ()) =>
  br k (decide (i < (a.length : Int)))
  (br k (decide (0 ≤ i))
  (bd k (a[i.toNat]?) fun x1 =>
  bd k (laws_toLine k (x1, ())) fun y2 =>
  br k (decide (0 ≤ i ∧ i < (out_.length : Int)))
  (bd k (out_[i.toNat]?) fun x3 =>
  G0 (a, out_.set i.toNat (y2.1.1.1, y2.1.1.2.1, y2.1.1.2.2.1, y2.1.1.2.2.2.1, y2.1.1.2.2.2.2.1, y2.1.1.2.2.2.2.2.1, ()), IntKind.wrap .i64 (i + 1), ()))
  none)
  none)
  (some ((out_, ()), ((), ())))
noncomputable def laws_toLineS (k : Nat) : ((List (Int × Int × (List (Int × Int × Unit)) × (List (Int × Int × Unit)) × Int × Int × Unit)) × Unit) → Option (((List (Int × Int × (List (Int × Int × Unit)) × (List (Int × Int × Unit)) × Int × Int × Unit)) × Unit) × (Unit × Unit)) := fun x => match x with
 | (a, ()) =>
  br k (decide (0 ≤ (a.length : Int) ∧ (a.length : Int) ≤ (a.length : Int) ∧ (a.length : Int) * 80 ≤ maxBytes))
  (iter (laws_toLineS.l0 k) k (a, List.replicate (a.length : Int).toNat (Kd.z (.cons (.int .i64) (.cons (.int .i64) (.cons (.sl false (.cons (.int .i64) (.cons (.int .i64) .nil))) (.cons (.sl false (.cons (.int .i64) (.cons (.int .i64) .nil))) (.cons (.int .i64) (.cons (.int .i64) .nil))))))), 0, ()))
  none
noncomputable def laws_toLineS.sg (k : Nat) : Sig := ⟨laws_toLineS.A, laws_toLineS.R, laws_toLineS k⟩
noncomputable def laws_toLineS.C (k : Nat) : Ctx := ⟨Tryz.prog, [(55, [laws_toLine.sg k])], k⟩
theorem laws_toLineS.ev (k : Nat) (x : laws_toLineS.A.T) : evFunc (laws_toLineS.C k) laws_toLineS.ann Tryz.f24 laws_toLineS.A laws_toLineS.R x = laws_toLineS k x := by kernel_rfl
theorem laws_toLineS.ok {L : List (Nat × Obj)}  (k : Nat) : SigHolds Tryz.prog L 24 (laws_toLineS.sg k) :=
  sig_of_ev (C := laws_toLineS.C k) (holds_cons (allok_cons (laws_toLine.ok k) allok_nil) holds_nil) (by kernel_rfl) Tryz.func24 (by kernel_rfl) laws_toLineS.ann laws_toLineS.A laws_toLineS.R (fun x y h => (laws_toLineS.ev k x).trans h) (by kernel_rfl)

/-! loop.example/g00719/laws.toProg -/
def laws_toProg.A : Sh := (.cons (.pur (.cons (.sl false .str) (.cons (.sl false .str) (.cons (.sl false (.cons .str (.cons (.int .i64) .nil))) (.cons (.sl false (.cons (.int .i64) (.cons (.int .i64) (.cons (.sl false (.cons (.int .i64) (.cons (.int .i64) .nil))) (.cons (.sl false (.cons (.int .i64) (.cons (.int .i64) .nil))) (.cons (.int .i64) (.cons (.int .i64) .nil))))))) .nil))))) .nil)
def laws_toProg.R : Sh := (.cons (.agg (.cons (.own .str) (.cons (.own .str) (.cons (.own (.cons .str (.cons (.int .i64) .nil))) (.cons (.own (.cons (.int .i64) (.cons (.int .i64) (.cons (.sl false (.cons (.int .i64) (.cons (.int .i64) .nil))) (.cons (.sl false (.cons (.int .i64) (.cons (.int .i64) .nil))) (.cons (.int .i64) (.cons (.int .i64) .nil))))))) .nil))))) .nil)
def laws_toProg.ann : Ann := { loops := [], joins := [], keys := [] }
noncomputable def laws_toProg (k : Nat) : (((List (List UInt8)) × (List (List UInt8)) × (List ((List UInt8) × Int × Unit)) × (List (Int × Int × (List (Int × Int × Unit)) × (List (Int × Int × Unit)) × Int × Int × Unit)) × Unit) × Unit) → Option ((((List (List UInt8)) × (List (List UInt8)) × (List ((List UInt8) × Int × Unit)) × (List (Int × Int × (List (Int × Int × Unit)) × (List (Int × Int × Unit)) × Int × Int × Unit)) × Unit) × Unit) × (Unit × Unit)) := fun x => match x with
 | (a, ()) =>
  bd k (laws_toDecl k ((a.1, a.2.1, a.2.2.1, ()), ())) fun y1 =>
  bd k (laws_toLineS k (a.2.2.2.1, ())) fun y2 =>
  some (((y1.1.1.1, y1.1.1.2.1, y1.1.1.2.2.1, y2.1.1, ()), ()), ((), ()))
noncomputable def laws_toProg.sg (k : Nat) : Sig := ⟨laws_toProg.A, laws_toProg.R, laws_toProg k⟩
noncomputable def laws_toProg.C (k : Nat) : Ctx := ⟨Tryz.prog, [(23, [laws_toDecl.sg k]), (24, [laws_toLineS.sg k])], k⟩
theorem laws_toProg.ev (k : Nat) (x : laws_toProg.A.T) : evFunc (laws_toProg.C k) laws_toProg.ann Tryz.f8 laws_toProg.A laws_toProg.R x = laws_toProg k x := by kernel_rfl
theorem laws_toProg.ok {L : List (Nat × Obj)}  (k : Nat) : SigHolds Tryz.prog L 8 (laws_toProg.sg k) :=
  sig_of_ev (C := laws_toProg.C k) (holds_cons (allok_cons (laws_toDecl.ok k) allok_nil) (holds_cons (allok_cons (laws_toLineS.ok k) allok_nil) holds_nil)) (by kernel_rfl) Tryz.func8 (by kernel_rfl) laws_toProg.ann laws_toProg.A laws_toProg.R (fun x y h => (laws_toProg.ev k x).trans h) (by kernel_rfl)

/-! loop.example/g00719/laws.toEntry -/
def laws_toEntry.A : Sh := (.cons (.pur (.cons (.int .i64) (.cons (.int .i64) .nil))) .nil)
def laws_toEntry.R : Sh := (.cons (.pur (.cons (.int .i64) (.cons (.int .i64) .nil))) .nil)
def laws_toEntry.ann : Ann := { loops := [], joins := [], keys := [] }
noncomputable def laws_toEntry (k : Nat) : ((Int × Int × Unit) × Unit) → Option (((Int × Int × Unit) × Unit) × (Unit × Unit)) := fun x => match x with
 | (a, ()) =>
  some ((a, ()), ((), ()))
noncomputable def laws_toEntry.sg (k : Nat) : Sig := ⟨laws_toEntry.A, laws_toEntry.R, laws_toEntry k⟩
noncomputable def laws_toEntry.C (k : Nat) : Ctx := ⟨Tryz.prog, [], k⟩
theorem laws_toEntry.ev (k : Nat) (x : laws_toEntry.A.T) : evFunc (laws_toEntry.C k) laws_toEntry.ann Tryz.f57 laws_toEntry.A laws_toEntry.R x = laws_toEntry k x := by kernel_rfl
theorem laws_toEntry.ok {L : List (Nat × Obj)}  (k : Nat) : SigHolds Tryz.prog L 57 (laws_toEntry.sg k) :=
  sig_of_ev (C := laws_toEntry.C k) holds_nil (by kernel_rfl) Tryz.func57 (by kernel_rfl) laws_toEntry.ann laws_toEntry.A laws_toEntry.R (fun x y h => (laws_toEntry.ev k x).trans h) (by kernel_rfl)

end Go.Pev.F
