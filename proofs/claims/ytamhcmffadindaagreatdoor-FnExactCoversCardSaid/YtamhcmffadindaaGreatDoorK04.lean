/-
  Printed by gen.py: what functions of the program compute, and that they do.
-/
import Derived.Test.YtamhcmffadindaaGreatDoorK03
open Go.Proofs Go.Pev
namespace Go.Pev.F
set_option maxRecDepth 100000
set_option linter.unusedVariables false

/-! loop.example/g00719/laws.toEntryS -/
def laws_toEntryS.A : Sh := (.cons (.pur (.sl false (.cons (.int .i64) (.cons (.int .i64) .nil)))) .nil)
def laws_toEntryS.R : Sh := (.cons (.own (.cons (.int .i64) (.cons (.int .i64) .nil))) .nil)
def laws_toEntryS.ann : Ann := { loops := [(0, [(0, (.pur (.sl false (.cons (.int .i64) (.cons (.int .i64) .nil))))), (3, (.own (.cons (.int .i64) (.cons (.int .i64) .nil)))), (4, (.pur (.int .i64)))])], joins := [], keys := [] }
noncomputable def laws_toEntryS.l0 (k : Nat)  (G0 : ((List (Int × Int × Unit)) × (List (Int × Int × Unit)) × Int × Unit) → Option (((List (Int × Int × Unit)) × Unit) × (Unit × Unit))) : ((List (Int × Int × Unit)) × (List (Int × Int × Unit)) × Int × Unit) → Option (((List (Int × Int × Unit)) × Unit) × (Unit × Unit)) := fun x => match x with
 | (a, out_, i, ()) =>
  br k (decide (i < (a.length : Int)))
  (br k (decide (0 ≤ i))
  (bd k (a[i.toNat]?) fun x1 =>
  bd k (laws_toEntry k (x1, ())) fun y2 =>
  br k (decide (0 ≤ i ∧ i < (out_.length : Int)))
  (bd k (out_[i.toNat]?) fun x3 =>
  G0 (a, out_.set i.toNat y2.1.1, IntKind.wrap .i64 (i + 1), ()))
  none)
  none)
  (some ((out_, ()), ((), ())))
noncomputable def laws_toEntryS (k : Nat) : ((List (Int × Int × Unit)) × Unit) → Option (((List (Int × Int × Unit)) × Unit) × (Unit × Unit)) := fun x => match x with
 | (a, ()) =>
  br k (decide (0 ≤ (a.length : Int) ∧ (a.length : Int) ≤ (a.length : Int) ∧ (a.length : Int) * 16 ≤ maxBytes))
  (iter (laws_toEntryS.l0 k) k (a, List.replicate (a.length : Int).toNat (Kd.z (.cons (.int .i64) (.cons (.int .i64) .nil))), 0, ()))
  none
noncomputable def laws_toEntryS.sg (k : Nat) : Sig := ⟨laws_toEntryS.A, laws_toEntryS.R, laws_toEntryS k⟩
noncomputable def laws_toEntryS.C (k : Nat) : Ctx := ⟨Tryz.prog, [(57, [laws_toEntry.sg k])], k⟩
theorem laws_toEntryS.ev (k : Nat) (x : laws_toEntryS.A.T) : evFunc (laws_toEntryS.C k) laws_toEntryS.ann Tryz.f26 laws_toEntryS.A laws_toEntryS.R x = laws_toEntryS k x := by kernel_rfl
theorem laws_toEntryS.ok {L : List (Nat × Obj)}  (k : Nat) : SigHolds Tryz.prog L 26 (laws_toEntryS.sg k) :=
  sig_of_ev (C := laws_toEntryS.C k) (holds_cons (allok_cons (laws_toEntry.ok k) allok_nil) holds_nil) (by kernel_rfl) Tryz.func26 (by kernel_rfl) laws_toEntryS.ann laws_toEntryS.A laws_toEntryS.R (fun x y h => (laws_toEntryS.ev k x).trans h) (by kernel_rfl)

/-! loop.example/g00719/laws.toInterval -/
def laws_toInterval.A : Sh := (.cons (.pur (.cons (.int .i64) (.cons (.int .i64) .nil))) .nil)
def laws_toInterval.R : Sh := (.cons (.pur (.cons (.int .i64) (.cons (.int .i64) .nil))) .nil)
def laws_toInterval.ann : Ann := { loops := [], joins := [], keys := [] }
noncomputable def laws_toInterval (k : Nat) : ((Int × Int × Unit) × Unit) → Option (((Int × Int × Unit) × Unit) × (Unit × Unit)) := fun x => match x with
 | (a, ()) =>
  some ((a, ()), ((), ()))
noncomputable def laws_toInterval.sg (k : Nat) : Sig := ⟨laws_toInterval.A, laws_toInterval.R, laws_toInterval k⟩
noncomputable def laws_toInterval.C (k : Nat) : Ctx := ⟨Tryz.prog, [], k⟩
theorem laws_toInterval.ev (k : Nat) (x : laws_toInterval.A.T) : evFunc (laws_toInterval.C k) laws_toInterval.ann Tryz.f192 laws_toInterval.A laws_toInterval.R x = laws_toInterval k x := by kernel_rfl
theorem laws_toInterval.ok {L : List (Nat × Obj)}  (k : Nat) : SigHolds Tryz.prog L 192 (laws_toInterval.sg k) :=
  sig_of_ev (C := laws_toInterval.C k) holds_nil (by kernel_rfl) Tryz.func192 (by kernel_rfl) laws_toInterval.ann laws_toInterval.A laws_toInterval.R (fun x y h => (laws_toInterval.ev k x).trans h) (by kernel_rfl)

/-! loop.example/g00719/laws.toIntervalS -/
def laws_toIntervalS.A : Sh := (.cons (.pur (.sl false (.cons (.int .i64) (.cons (.int .i64) .nil)))) .nil)
def laws_toIntervalS.R : Sh := (.cons (.own (.cons (.int .i64) (.cons (.int .i64) .nil))) .nil)
def laws_toIntervalS.ann : Ann := { loops := [(0, [(0, (.pur (.sl false (.cons (.int .i64) (.cons (.int .i64) .nil))))), (3, (.own (.cons (.int .i64) (.cons (.int .i64) .nil)))), (4, (.pur (.int .i64)))])], joins := [], keys := [] }
noncomputable def laws_toIntervalS.l0 (k : Nat)  (G0 : ((List (Int × Int × Unit)) × (List (Int × Int × Unit)) × Int × Unit) → Option (((List (Int × Int × Unit)) × Unit) × (Unit × Unit))) : ((List (Int × Int × Unit)) × (List (Int × Int × Unit)) × Int × Unit) → Option (((List (Int × Int × Unit)) × Unit) × (Unit × Unit)) := fun x => match x with
 | (a, out_, i, ()) =>
  br k (decide (i < (a.length : Int)))
  (br k (decide (0 ≤ i))
  (bd k (a[i.toNat]?) fun x1 =>
  bd k (laws_toInterval k (x1, ())) fun y2 =>
  br k (decide (0 ≤ i ∧ i < (out_.length : Int)))
  (bd k (out_[i.toNat]?) fun x3 =>
  G0 (a, out_.set i.toNat y2.1.1, IntKind.wrap .i64 (i + 1), ()))
  none)
  none)
  (some ((out_, ()), ((), ())))
noncomputable def laws_toIntervalS (k : Nat) : ((List (Int × Int × Unit)) × Unit) → Option (((List (Int × Int × Unit)) × Unit) × (Unit × Unit)) := fun x => match x with
 | (a, ()) =>
  br k (decide (0 ≤ (a.length : Int) ∧ (a.length : Int) ≤ (a.length : Int) ∧ (a.length : Int) * 16 ≤ maxBytes))
  (iter (laws_toIntervalS.l0 k) k (a, List.replicate (a.length : Int).toNat (Kd.z (.cons (.int .i64) (.cons (.int .i64) .nil))), 0, ()))
  none
noncomputable def laws_toIntervalS.sg (k : Nat) : Sig := ⟨laws_toIntervalS.A, laws_toIntervalS.R, laws_toIntervalS k⟩
noncomputable def laws_toIntervalS.C (k : Nat) : Ctx := ⟨Tryz.prog, [(192, [laws_toInterval.sg k])], k⟩
theorem laws_toIntervalS.ev (k : Nat) (x : laws_toIntervalS.A.T) : evFunc (laws_toIntervalS.C k) laws_toIntervalS.ann Tryz.f179 laws_toIntervalS.A laws_toIntervalS.R x = laws_toIntervalS k x := by kernel_rfl
theorem laws_toIntervalS.ok {L : List (Nat × Obj)}  (k : Nat) : SigHolds Tryz.prog L 179 (laws_toIntervalS.sg k) :=
  sig_of_ev (C := laws_toIntervalS.C k) (holds_cons (allok_cons (laws_toInterval.ok k) allok_nil) holds_nil) (by kernel_rfl) Tryz.func179 (by kernel_rfl) laws_toIntervalS.ann laws_toIntervalS.A laws_toIntervalS.R (fun x y h => (laws_toIntervalS.ev k x).trans h) (by kernel_rfl)

/-! loop.example/g00719/laws.toEnv -/
def laws_toEnv.A : Sh := (.cons (.pur (.cons .bool (.cons (.sl false (.cons (.int .i64) (.cons (.int .i64) .nil))) (.cons (.sl false (.cons (.int .i64) (.cons (.int .i64) .nil))) .nil)))) .nil)
def laws_toEnv.R : Sh := (.cons (.agg (.cons (.pur .bool) (.cons (.own (.cons (.int .i64) (.cons (.int .i64) .nil))) (.cons (.own (.cons (.int .i64) (.cons (.int .i64) .nil))) .nil)))) .nil)
def laws_toEnv.ann : Ann := { loops := [], joins := [], keys := [] }
noncomputable def laws_toEnv (k : Nat) : ((Bool × (List (Int × Int × Unit)) × (List (Int × Int × Unit)) × Unit) × Unit) → Option (((Bool × (List (Int × Int × Unit)) × (List (Int × Int × Unit)) × Unit) × Unit) × (Unit × Unit)) := fun x => match x with
 | (a, ()) =>
  bd k (laws_toIntervalS k (a.2.1, ())) fun y1 =>
  bd k (laws_toIntervalS k (a.2.2.1, ())) fun y2 =>
  some (((a.1, y1.1.1, y2.1.1, ()), ()), ((), ()))
noncomputable def laws_toEnv.sg (k : Nat) : Sig := ⟨laws_toEnv.A, laws_toEnv.R, laws_toEnv k⟩
noncomputable def laws_toEnv.C (k : Nat) : Ctx := ⟨Tryz.prog, [(179, [laws_toIntervalS.sg k])], k⟩
theorem laws_toEnv.ev (k : Nat) (x : laws_toEnv.A.T) : evFunc (laws_toEnv.C k) laws_toEnv.ann Tryz.f158 laws_toEnv.A laws_toEnv.R x = laws_toEnv k x := by kernel_rfl
theorem laws_toEnv.ok {L : List (Nat × Obj)}  (k : Nat) : SigHolds Tryz.prog L 158 (laws_toEnv.sg k) :=
  sig_of_ev (C := laws_toEnv.C k) (holds_cons (allok_cons (laws_toIntervalS.ok k) allok_nil) holds_nil) (by kernel_rfl) Tryz.func158 (by kernel_rfl) laws_toEnv.ann laws_toEnv.A laws_toEnv.R (fun x y h => (laws_toEnv.ev k x).trans h) (by kernel_rfl)

/-! loop.example/g00719/laws.toEnvS -/
def laws_toEnvS.A : Sh := (.cons (.pur (.sl false (.cons .bool (.cons (.sl false (.cons (.int .i64) (.cons (.int .i64) .nil))) (.cons (.sl false (.cons (.int .i64) (.cons (.int .i64) .nil))) .nil))))) .nil)
def laws_toEnvS.R : Sh := (.cons (.own (.cons .bool (.cons (.sl false (.cons (.int .i64) (.cons (.int .i64) .nil))) (.cons (.sl false (.cons (.int .i64) (.cons (.int .i64) .nil))) .nil)))) .nil)
def laws_toEnvS.ann : Ann := { loops := [(0, [(0, (.pur (.sl false (.cons .bool (.cons (.sl false (.cons (.int .i64) (.cons (.int .i64) .nil))) (.cons (.sl false (.cons (.int .i64) (.cons (.int .i64) .nil))) .nil)))))), (3, (.own (.cons .bool (.cons (.sl false (.cons (.int .i64) (.cons (.int .i64) .nil))) (.cons (.sl false (.cons (.int .i64) (.cons (.int .i64) .nil))) .nil))))), (4, (.pur (.int .i64)))])], joins := [], keys := [] }
noncomputable def laws_toEnvS.l0 (k : Nat)  (G0 : ((List (Bool × (List (Int × Int × Unit)) × (List (Int × Int × Unit)) × Unit)) × (List (Bool × (List (Int × Int × Unit)) × (List (Int × Int × Unit)) × Unit)) × Int × Unit) → Option (((List (Bool × (List (Int × Int × Unit)) × (List (Int × Int × Unit)) × Unit)) × Unit) × (Unit × Unit))) : ((List (Bool × (List (Int × Int × Unit)) × (List (Int × Int × Unit)) × Unit)) × (List (Bool × (List (Int × Int × Unit)) × (List (Int × Int × Unit)) × Unit)) × Int × Unit) → Option (((List (Bool × (List (Int × Int × Unit)) × (List (Int × Int × Unit)) × Unit)) × Unit) × (Unit × Unit)) := fun x => match x with
 | (a, out_, i, ()) =>
  br k (decide (i < (a.length : Int)))
  (br k (decide (0 ≤ i))
  (bd k (a[i.toNat]?) fun x1 =>
  bd k (laws_toEnv k (x1, ())) fun y2 =>
  br k (decide (0 ≤ i ∧ i < (out_.length : Int)))
  (bd k (out_[i.toNat]?) fun x3 =>
  G0 (a, out_.set i.toNat (y2.1.1.1, y2.1.1.2.1, y2.1.1.2.2.1, ()), IntKind.wrap .i64 (i + 1), ()))
  none)
  none)
  (some ((out_, ()), ((), ())))
noncomputable def laws_toEnvS (k : Nat) : ((List (Bool × (List (Int × Int × Unit)) × (List (Int × Int × Unit)) × Unit)) × Unit) → Option (((List (Bool × (List (Int × Int × Unit)) × (List (Int × Int × Unit)) × Unit)) × Unit) × (Unit × Unit)) := fun x => match x with
 | (a, ()) =>
  br k (decide (0 ≤ (a.length : Int) ∧ (a.length : Int) ≤ (a.length : Int) ∧ (a.length : Int) * 56 ≤ maxBytes))
  (iter (laws_toEnvS.l0 k) k (a, List.replicate (a.length : Int).toNat (Kd.z (.cons .bool (.cons (.sl false (.cons (.int .i64) (.cons (.int .i64) .nil))) (.cons (.sl false (.cons (.int .i64) (.cons (.int .i64) .nil))) .nil)))), 0, ()))
  none
noncomputable def laws_toEnvS.sg (k : Nat) : Sig := ⟨laws_toEnvS.A, laws_toEnvS.R, laws_toEnvS k⟩
noncomputable def laws_toEnvS.C (k : Nat) : Ctx := ⟨Tryz.prog, [(158, [laws_toEnv.sg k])], k⟩
theorem laws_toEnvS.ev (k : Nat) (x : laws_toEnvS.A.T) : evFunc (laws_toEnvS.C k) laws_toEnvS.ann Tryz.f127 laws_toEnvS.A laws_toEnvS.R x = laws_toEnvS k x := by kernel_rfl
theorem laws_toEnvS.ok {L : List (Nat × Obj)}  (k : Nat) : SigHolds Tryz.prog L 127 (laws_toEnvS.sg k) :=
  sig_of_ev (C := laws_toEnvS.C k) (holds_cons (allok_cons (laws_toEnv.ok k) allok_nil) holds_nil) (by kernel_rfl) Tryz.func127 (by kernel_rfl) laws_toEnvS.ann laws_toEnvS.A laws_toEnvS.R (fun x y h => (laws_toEnvS.ev k x).trans h) (by kernel_rfl)

/-! loop.example/g00719/laws.toPart -/
def laws_toPart.A : Sh := (.cons (.pur (.cons (.sl false (.cons (.int .i64) (.cons (.int .i64) .nil))) (.cons (.sl false (.cons .bool (.cons (.sl false (.cons (.int .i64) (.cons (.int .i64) .nil))) (.cons (.sl false (.cons (.int .i64) (.cons (.int .i64) .nil))) .nil)))) .nil))) .nil)
def laws_toPart.R : Sh := (.cons (.agg (.cons (.own (.cons (.int .i64) (.cons (.int .i64) .nil))) (.cons (.own (.cons .bool (.cons (.sl false (.cons (.int .i64) (.cons (.int .i64) .nil))) (.cons (.sl false (.cons (.int .i64) (.cons (.int .i64) .nil))) .nil)))) .nil))) .nil)
def laws_toPart.ann : Ann := { loops := [], joins := [], keys := [] }
noncomputable def laws_toPart (k : Nat) : (((List (Int × Int × Unit)) × (List (Bool × (List (Int × Int × Unit)) × (List (Int × Int × Unit)) × Unit)) × Unit) × Unit) → Option ((((List (Int × Int × Unit)) × (List (Bool × (List (Int × Int × Unit)) × (List (Int × Int × Unit)) × Unit)) × Unit) × Unit) × (Unit × Unit)) := fun x => match x with
 | (a, ()) =>
  bd k (laws_toEntryS k (a.1, ())) fun y1 =>
  bd k (laws_toEnvS k (a.2.1, ())) fun y2 =>
  some (((y1.1.1, y2.1.1, ()), ()), ((), ()))
noncomputable def laws_toPart.sg (k : Nat) : Sig := ⟨laws_toPart.A, laws_toPart.R, laws_toPart k⟩
noncomputable def laws_toPart.C (k : Nat) : Ctx := ⟨Tryz.prog, [(26, [laws_toEntryS.sg k]), (127, [laws_toEnvS.sg k])], k⟩
theorem laws_toPart.ev (k : Nat) (x : laws_toPart.A.T) : evFunc (laws_toPart.C k) laws_toPart.ann Tryz.f92 laws_toPart.A laws_toPart.R x = laws_toPart k x := by kernel_rfl
theorem laws_toPart.ok {L : List (Nat × Obj)}  (k : Nat) : SigHolds Tryz.prog L 92 (laws_toPart.sg k) :=
  sig_of_ev (C := laws_toPart.C k) (holds_cons (allok_cons (laws_toEntryS.ok k) allok_nil) (holds_cons (allok_cons (laws_toEnvS.ok k) allok_nil) holds_nil)) (by kernel_rfl) Tryz.func92 (by kernel_rfl) laws_toPart.ann laws_toPart.A laws_toPart.R (fun x y h => (laws_toPart.ev k x).trans h) (by kernel_rfl)

/-! loop.example/g00719/laws.toPartS -/
def laws_toPartS.A : Sh := (.cons (.pur (.sl false (.cons (.sl false (.cons (.int .i64) (.cons (.int .i64) .nil))) (.cons (.sl false (.cons .bool (.cons (.sl false (.cons (.int .i64) (.cons (.int .i64) .nil))) (.cons (.sl false (.cons (.int .i64) (.cons (.int .i64) .nil))) .nil)))) .nil)))) .nil)
def laws_toPartS.R : Sh := (.cons (.own (.cons (.sl false (.cons (.int .i64) (.cons (.int .i64) .nil))) (.cons (.sl false (.cons .bool (.cons (.sl false (.cons (.int .i64) (.cons (.int .i64) .nil))) (.cons (.sl false (.cons (.int .i64) (.cons (.int .i64) .nil))) .nil)))) .nil))) .nil)
def laws_toPartS.ann : Ann := { loops := [(0, [(0, (.pur (.sl false (.cons (.sl false (.cons (.int .i64) (.cons (.int .i64) .nil))) (.cons (.sl false (.cons .bool (.cons (.sl false (.cons (.int .i64) (.cons (.int .i64) .nil))) (.cons (.sl false (.cons (.int .i64) (.cons (.int .i64) .nil))) .nil)))) .nil))))), (3, (.own (.cons (.sl false (.cons (.int .i64) (.cons (.int .i64) .nil))) (.cons (.sl false (.cons .bool (.cons (.sl false (.cons (.int .i64) (.cons (.int .i64) .nil))) (.cons (.sl false (.cons (.int .i64) (.cons (.int .i64) .nil))) .nil)))) .nil)))), (4, (.pur (.int .i64)))])], joins := [], keys := [] }
noncomputable def laws_toPartS.l0 (k : Nat)  (G0 : ((List ((List (Int × Int × Unit)) × (List (Bool × (List (Int × Int × Unit)) × (List (Int × Int × Unit)) × Unit)) × Unit)) × (List ((List (Int × Int × Unit)) × (List (Bool × (List (Int × Int × Unit)) × (List (Int × Int × Unit)) × Unit)) × Unit)) × Int × Unit) → Option (((List ((List (Int × Int × Unit)) × (List (Bool × (List (Int × Int × Unit)) × (List (Int × Int × Unit)) × Unit)) × Unit)) × Unit) × (Unit × Unit))) : ((List ((List (Int × Int × Unit)) × (List (Bool × (List (Int × Int × Unit)) × (List (Int × Int × Unit)) × Unit)) × Unit)) × (List ((List (Int × Int × Unit)) × (List (Bool × (List (Int × Int × Unit)) × (List (Int × Int × Unit)) × Unit)) × Unit)) × Int × Unit) → Option (((List ((List (Int × Int × Unit)) × (List (Bool × (List (Int × Int × Unit)) × (List (Int × Int × Unit)) × Unit)) × Unit)) × Unit) × (Unit × Unit)) := fun x => match x with
 | (a, out_, i, ()) =>
  br k (decide (i < (a.length : Int)))
  (br k (decide (0 ≤ i))
  (bd k (a[i.toNat]?) fun x1 =>
  bd k (laws_toPart k (x1, ())) fun y2 =>
  br k (decide (0 ≤ i ∧ i < (out_.length : Int)))
  (bd k (out_[i.toNat]?) fun x3 =>
  G0 (a, out_.set i.toNat y2.1.1, IntKind.wrap .i64 (i + 1), ()))
  none)
  none)
  (some ((out_, ()), ((), ())))
noncomputable def laws_toPartS (k : Nat) : ((List ((List (Int × Int × Unit)) × (List (Bool × (List (Int × Int × Unit)) × (List (Int × Int × Unit)) × Unit)) × Unit)) × Unit) → Option (((List ((List (Int × Int × Unit)) × (List (Bool × (List (Int × Int × Unit)) × (List (Int × Int × Unit)) × Unit)) × Unit)) × Unit) × (Unit × Unit)) := fun x => match x with
 | (a, ()) =>
  br k (decide (0 ≤ (a.length : Int) ∧ (a.length : Int) ≤ (a.length : Int) ∧ (a.length : Int) * 48 ≤ maxBytes))
  (iter (laws_toPartS.l0 k) k (a, List.replicate (a.length : Int).toNat (Kd.z (.cons (.sl false (.cons (.int .i64) (.cons (.int .i64) .nil))) (.cons (.sl false (.cons .bool (.cons (.sl false (.cons (.int .i64) (.cons (.int .i64) .nil))) (.cons (.sl false (.cons (.int .i64) (.cons (.int .i64) .nil))) .nil)))) .nil))), 0, ()))
  none
noncomputable def laws_toPartS.sg (k : Nat) : Sig := ⟨laws_toPartS.A, laws_toPartS.R, laws_toPartS k⟩
noncomputable def laws_toPartS.C (k : Nat) : Ctx := ⟨Tryz.prog, [(92, [laws_toPart.sg k])], k⟩
theorem laws_toPartS.ev (k : Nat) (x : laws_toPartS.A.T) : evFunc (laws_toPartS.C k) laws_toPartS.ann Tryz.f56 laws_toPartS.A laws_toPartS.R x = laws_toPartS k x := by kernel_rfl
theorem laws_toPartS.ok {L : List (Nat × Obj)}  (k : Nat) : SigHolds Tryz.prog L 56 (laws_toPartS.sg k) :=
  sig_of_ev (C := laws_toPartS.C k) (holds_cons (allok_cons (laws_toPart.ok k) allok_nil) holds_nil) (by kernel_rfl) Tryz.func56 (by kernel_rfl) laws_toPartS.ann laws_toPartS.A laws_toPartS.R (fun x y h => (laws_toPartS.ev k x).trans h) (by kernel_rfl)

/-! loop.example/g00719/laws.toRow -/
def laws_toRow.A : Sh := (.cons (.pur (.cons (.sl false (.cons (.sl false (.cons (.int .i64) (.cons (.int .i64) .nil))) (.cons (.sl false (.cons .bool (.cons (.sl false (.cons (.int .i64) (.cons (.int .i64) .nil))) (.cons (.sl false (.cons (.int .i64) (.cons (.int .i64) .nil))) .nil)))) .nil))) .nil)) .nil)
def laws_toRow.R : Sh := (.cons (.agg (.cons (.own (.cons (.sl false (.cons (.int .i64) (.cons (.int .i64) .nil))) (.cons (.sl false (.cons .bool (.cons (.sl false (.cons (.int .i64) (.cons (.int .i64) .nil))) (.cons (.sl false (.cons (.int .i64) (.cons (.int .i64) .nil))) .nil)))) .nil))) .nil)) .nil)
def laws_toRow.ann : Ann := { loops := [], joins := [], keys := [] }
noncomputable def laws_toRow (k : Nat) : (((List ((List (Int × Int × Unit)) × (List (Bool × (List (Int × Int × Unit)) × (List (Int × Int × Unit)) × Unit)) × Unit)) × Unit) × Unit) → Option ((((List ((List (Int × Int × Unit)) × (List (Bool × (List (Int × Int × Unit)) × (List (Int × Int × Unit)) × Unit)) × Unit)) × Unit) × Unit) × (Unit × Unit)) := fun x => match x with
 | (a, ()) =>
  bd k (laws_toPartS k (a.1, ())) fun y1 =>
  some (((y1.1.1, ()), ()), ((), ()))
noncomputable def laws_toRow.sg (k : Nat) : Sig := ⟨laws_toRow.A, laws_toRow.R, laws_toRow k⟩
noncomputable def laws_toRow.C (k : Nat) : Ctx := ⟨Tryz.prog, [(56, [laws_toPartS.sg k])], k⟩
theorem laws_toRow.ev (k : Nat) (x : laws_toRow.A.T) : evFunc (laws_toRow.C k) laws_toRow.ann Tryz.f25 laws_toRow.A laws_toRow.R x = laws_toRow k x := by kernel_rfl
theorem laws_toRow.ok {L : List (Nat × Obj)}  (k : Nat) : SigHolds Tryz.prog L 25 (laws_toRow.sg k) :=
  sig_of_ev (C := laws_toRow.C k) (holds_cons (allok_cons (laws_toPartS.ok k) allok_nil) holds_nil) (by kernel_rfl) Tryz.func25 (by kernel_rfl) laws_toRow.ann laws_toRow.A laws_toRow.R (fun x y h => (laws_toRow.ev k x).trans h) (by kernel_rfl)

/-! loop.example/g00719/laws.toRowS -/
def laws_toRowS.A : Sh := (.cons (.pur (.sl false (.cons (.sl false (.cons (.sl false (.cons (.int .i64) (.cons (.int .i64) .nil))) (.cons (.sl false (.cons .bool (.cons (.sl false (.cons (.int .i64) (.cons (.int .i64) .nil))) (.cons (.sl false (.cons (.int .i64) (.cons (.int .i64) .nil))) .nil)))) .nil))) .nil))) .nil)
def laws_toRowS.R : Sh := (.cons (.own (.cons (.sl false (.cons (.sl false (.cons (.int .i64) (.cons (.int .i64) .nil))) (.cons (.sl false (.cons .bool (.cons (.sl false (.cons (.int .i64) (.cons (.int .i64) .nil))) (.cons (.sl false (.cons (.int .i64) (.cons (.int .i64) .nil))) .nil)))) .nil))) .nil)) .nil)
def laws_toRowS.ann : Ann := { loops := [(0, [(0, (.pur (.sl false (.cons (.sl false (.cons (.sl false (.cons (.int .i64) (.cons (.int .i64) .nil))) (.cons (.sl false (.cons .bool (.cons (.sl false (.cons (.int .i64) (.cons (.int .i64) .nil))) (.cons (.sl false (.cons (.int .i64) (.cons (.int .i64) .nil))) .nil)))) .nil))) .nil)))), (3, (.own (.cons (.sl false (.cons (.sl false (.cons (.int .i64) (.cons (.int .i64) .nil))) (.cons (.sl false (.cons .bool (.cons (.sl false (.cons (.int .i64) (.cons (.int .i64) .nil))) (.cons (.sl false (.cons (.int .i64) (.cons (.int .i64) .nil))) .nil)))) .nil))) .nil))), (4, (.pur (.int .i64)))])], joins := [], keys := [] }
noncomputable def laws_toRowS.l0 (k : Nat)  (G0 : ((List ((List ((List (Int × Int × Unit)) × (List (Bool × (List (Int × Int × Unit)) × (List (Int × Int × Unit)) × Unit)) × Unit)) × Unit)) × (List ((List ((List (Int × Int × Unit)) × (List (Bool × (List (Int × Int × Unit)) × (List (Int × Int × Unit)) × Unit)) × Unit)) × Unit)) × Int × Unit) → Option (((List ((List ((List (Int × Int × Unit)) × (List (Bool × (List (Int × Int × Unit)) × (List (Int × Int × Unit)) × Unit)) × Unit)) × Unit)) × Unit) × (Unit × Unit))) : ((List ((List ((List (Int × Int × Unit)) × (List (Bool × (List (Int × Int × Unit)) × (List (Int × Int × Unit)) × Unit)) × Unit)) × Unit)) × (List ((List ((List (Int × Int × Unit)) × (List (Bool × (List (Int × Int × Unit)) × (List (Int × Int × Unit)) × Unit)) × Unit)) × Unit)) × Int × Unit) → Option (((List ((List ((List (Int × Int × Unit)) × (List (Bool × (List (Int × Int × Unit)) × (List (Int × Int × Unit)) × Unit)) × Unit)) × Unit)) × Unit) × (Unit × Unit)) := fun x => match x with
 | (a, out_, i, ()) =>
  br k (decide (i < (a.length : Int)))
  (br k (decide (0 ≤ i))
  (bd k (a[i.toNat]?) fun x1 =>
  bd k (laws_toRow k (x1, ())) fun y2 =>
  br k (decide (0 ≤ i ∧ i < (out_.length : Int)))
  (bd k (out_[i.toNat]?) fun x3 =>
  G0 (a, out_.set i.toNat (y2.1.1.1, ()), IntKind.wrap .i64 (i + 1), ()))
  none)
  none)
  (some ((out_, ()), ((), ())))
noncomputable def laws_toRowS (k : Nat) : ((List ((List ((List (Int × Int × Unit)) × (List (Bool × (List (Int × Int × Unit)) × (List (Int × Int × Unit)) × Unit)) × Unit)) × Unit)) × Unit) → Option (((List ((List ((List (Int × Int × Unit)) × (List (Bool × (List (Int × Int × Unit)) × (List (Int × Int × Unit)) × Unit)) × Unit)) × Unit)) × Unit) × (Unit × Unit)) := fun x => match x with
 | (a, ()) =>
  br k (decide (0 ≤ (a.length : Int) ∧ (a.length : Int) ≤ (a.length : Int) ∧ (a.length : Int) * 24 ≤ maxBytes))
  (iter (laws_toRowS.l0 k) k (a, List.replicate (a.length : Int).toNat (Kd.z (.cons (.sl false (.cons (.sl false (.cons (.int .i64) (.cons (.int .i64) .nil))) (.cons (.sl false (.cons .bool (.cons (.sl false (.cons (.int .i64) (.cons (.int .i64) .nil))) (.cons (.sl false (.cons (.int .i64) (.cons (.int .i64) .nil))) .nil)))) .nil))) .nil)), 0, ()))
  none
noncomputable def laws_toRowS.sg (k : Nat) : Sig := ⟨laws_toRowS.A, laws_toRowS.R, laws_toRowS k⟩
noncomputable def laws_toRowS.C (k : Nat) : Ctx := ⟨Tryz.prog, [(25, [laws_toRow.sg k])], k⟩
theorem laws_toRowS.ev (k : Nat) (x : laws_toRowS.A.T) : evFunc (laws_toRowS.C k) laws_toRowS.ann Tryz.f9 laws_toRowS.A laws_toRowS.R x = laws_toRowS k x := by kernel_rfl
theorem laws_toRowS.ok {L : List (Nat × Obj)}  (k : Nat) : SigHolds Tryz.prog L 9 (laws_toRowS.sg k) :=
  sig_of_ev (C := laws_toRowS.C k) (holds_cons (allok_cons (laws_toRow.ok k) allok_nil) holds_nil) (by kernel_rfl) Tryz.func9 (by kernel_rfl) laws_toRowS.ann laws_toRowS.A laws_toRowS.R (fun x y h => (laws_toRowS.ev k x).trans h) (by kernel_rfl)

/-! loop.example/g00719/laws.toInt64S -/
def laws_toInt64S.A : Sh := (.cons (.pur (.sl false (.int .i64))) .nil)
def laws_toInt64S.R : Sh := (.cons (.own (.int .i64)) .nil)
def laws_toInt64S.ann : Ann := { loops := [(0, [(0, (.pur (.sl false (.int .i64)))), (3, (.own (.int .i64))), (4, (.pur (.int .i64)))])], joins := [], keys := [] }
noncomputable def laws_toInt64S.l0 (k : Nat)  (G0 : ((List Int) × (List Int) × Int × Unit) → Option (((List Int) × Unit) × (Unit × Unit))) : ((List Int) × (List Int) × Int × Unit) → Option (((List Int) × Unit) × (Unit × Unit)) := fun x => match x with
 | (a, out_, i, ()) =>
  br k (decide (i < (a.length : Int)))
  (br k (decide (0 ≤ i))
  (bd k (a[i.toNat]?) fun x1 =>
  br k (decide (0 ≤ i ∧ i < (out_.length : Int)))
  (bd k (out_[i.toNat]?) fun x2 =>
  G0 (a, out_.set i.toNat x1, IntKind.wrap .i64 (i + 1), ()))
  none)
  none)
  (some ((out_, ()), ((), ())))
noncomputable def laws_toInt64S (k : Nat) : ((List Int) × Unit) → Option (((List Int) × Unit) × (Unit × Unit)) := fun x => match x with
 | (a, ()) =>
  br k (decide (0 ≤ (a.length : Int) ∧ (a.length : Int) ≤ (a.length : Int) ∧ (a.length : Int) * 8 ≤ maxBytes))
  (iter (laws_toInt64S.l0 k) k (a, List.replicate (a.length : Int).toNat (Kd.z (.int .i64)), 0, ()))
  none
noncomputable def laws_toInt64S.sg (k : Nat) : Sig := ⟨laws_toInt64S.A, laws_toInt64S.R, laws_toInt64S k⟩
noncomputable def laws_toInt64S.C (k : Nat) : Ctx := ⟨Tryz.prog, [], k⟩
theorem laws_toInt64S.ev (k : Nat) (x : laws_toInt64S.A.T) : evFunc (laws_toInt64S.C k) laws_toInt64S.ann Tryz.f58 laws_toInt64S.A laws_toInt64S.R x = laws_toInt64S k x := by kernel_rfl
theorem laws_toInt64S.ok {L : List (Nat × Obj)}  (k : Nat) : SigHolds Tryz.prog L 58 (laws_toInt64S.sg k) :=
  sig_of_ev (C := laws_toInt64S.C k) holds_nil (by kernel_rfl) Tryz.func58 (by kernel_rfl) laws_toInt64S.ann laws_toInt64S.A laws_toInt64S.R (fun x y h => (laws_toInt64S.ev k x).trans h) (by kernel_rfl)

/-! loop.example/g00719/laws.toBoolS -/
def laws_toBoolS.A : Sh := (.cons (.pur (.sl false .bool)) .nil)
def laws_toBoolS.R : Sh := (.cons (.own .bool) .nil)
def laws_toBoolS.ann : Ann := { loops := [(0, [(0, (.pur (.sl false .bool))), (3, (.own .bool)), (4, (.pur (.int .i64)))])], joins := [], keys := [] }
noncomputable def laws_toBoolS.l0 (k : Nat)  (G0 : ((List Bool) × (List Bool) × Int × Unit) → Option (((List Bool) × Unit) × (Unit × Unit))) : ((List Bool) × (List Bool) × Int × Unit) → Option (((List Bool) × Unit) × (Unit × Unit)) := fun x => match x with
 | (a, out_, i, ()) =>
  br k (decide (i < (a.length : Int)))
  (br k (decide (0 ≤ i))
  (bd k (a[i.toNat]?) fun x1 =>
  br k (decide (0 ≤ i ∧ i < (out_.length : Int)))
  (bd k (out_[i.toNat]?) fun x2 =>
  G0 (a, out_.set i.toNat x1, IntKind.wrap .i64 (i + 1), ()))
  none)
  none)
  (some ((out_, ()), ((), ())))
noncomputable def laws_toBoolS (k : Nat) : ((List Bool) × Unit) → Option (((List Bool) × Unit) × (Unit × Unit)) := fun x => match x with
 | (a, ()) =>
  br k (decide (0 ≤ (a.length : Int) ∧ (a.length : Int) ≤ (a.length : Int) ∧ (a.length : Int) * 1 ≤ maxBytes))
  (iter (laws_toBoolS.l0 k) k (a, List.replicate (a.length : Int).toNat (Kd.z .bool), 0, ()))
  none
noncomputable def laws_toBoolS.sg (k : Nat) : Sig := ⟨laws_toBoolS.A, laws_toBoolS.R, laws_toBoolS k⟩
noncomputable def laws_toBoolS.C (k : Nat) : Ctx := ⟨Tryz.prog, [], k⟩
theorem laws_toBoolS.ev (k : Nat) (x : laws_toBoolS.A.T) : evFunc (laws_toBoolS.C k) laws_toBoolS.ann Tryz.f59 laws_toBoolS.A laws_toBoolS.R x = laws_toBoolS k x := by kernel_rfl
theorem laws_toBoolS.ok {L : List (Nat × Obj)}  (k : Nat) : SigHolds Tryz.prog L 59 (laws_toBoolS.sg k) :=
  sig_of_ev (C := laws_toBoolS.C k) holds_nil (by kernel_rfl) Tryz.func59 (by kernel_rfl) laws_toBoolS.ann laws_toBoolS.A laws_toBoolS.R (fun x y h => (laws_toBoolS.ev k x).trans h) (by kernel_rfl)

/-! loop.example/g00719/laws.toInt64SS -/
def laws_toInt64SS.A : Sh := (.cons (.pur (.sl false (.sl false (.int .i64)))) .nil)
def laws_toInt64SS.R : Sh := (.cons (.own (.sl false (.int .i64))) .nil)
def laws_toInt64SS.ann : Ann := { loops := [(0, [(0, (.pur (.sl false (.sl false (.int .i64))))), (3, (.own (.sl false (.int .i64)))), (4, (.pur (.int .i64)))])], joins := [], keys := [] }
noncomputable def laws_toInt64SS.l0 (k : Nat)  (G0 : ((List (List Int)) × (List (List Int)) × Int × Unit) → Option (((List (List Int)) × Unit) × (Unit × Unit))) : ((List (List Int)) × (List (List Int)) × Int × Unit) → Option (((List (List Int)) × Unit) × (Unit × Unit)) := fun x => match x with
 | (a, out_, i, ()) =>
  br k (decide (i < (a.length : Int)))
  (br k (decide (0 ≤ i))
  (bd k (a[i.toNat]?) fun x1 =>
  bd k (laws_toInt64S k (x1, ())) fun y2 =>
  br k (decide (0 ≤ i ∧ i < (out_.length : Int)))
  (bd k (out_[i.toNat]?) fun x3 =>
  G0 (a, out_.set i.toNat y2.1.1, IntKind.wrap .i64 (i + 1), ()))
  none)
  none)
  (some ((out_, ()), ((), ())))
noncomputable def laws_toInt64SS (k : Nat) : ((List (List Int)) × Unit) → Option (((List (List Int)) × Unit) × (Unit × Unit)) := fun x => match x with
 | (a, ()) =>
  br k (decide (0 ≤ (a.length : Int) ∧ (a.length : Int) ≤ (a.length : Int) ∧ (a.length : Int) * 24 ≤ maxBytes))
  (iter (laws_toInt64SS.l0 k) k (a, List.replicate (a.length : Int).toNat (Kd.z (.sl false (.int .i64))), 0, ()))
  none
noncomputable def laws_toInt64SS.sg (k : Nat) : Sig := ⟨laws_toInt64SS.A, laws_toInt64SS.R, laws_toInt64SS k⟩
noncomputable def laws_toInt64SS.C (k : Nat) : Ctx := ⟨Tryz.prog, [(58, [laws_toInt64S.sg k])], k⟩
theorem laws_toInt64SS.ev (k : Nat) (x : laws_toInt64SS.A.T) : evFunc (laws_toInt64SS.C k) laws_toInt64SS.ann Tryz.f60 laws_toInt64SS.A laws_toInt64SS.R x = laws_toInt64SS k x := by kernel_rfl
theorem laws_toInt64SS.ok {L : List (Nat × Obj)}  (k : Nat) : SigHolds Tryz.prog L 60 (laws_toInt64SS.sg k) :=
  sig_of_ev (C := laws_toInt64SS.C k) (holds_cons (allok_cons (laws_toInt64S.ok k) allok_nil) holds_nil) (by kernel_rfl) Tryz.func60 (by kernel_rfl) laws_toInt64SS.ann laws_toInt64SS.A laws_toInt64SS.R (fun x y h => (laws_toInt64SS.ev k x).trans h) (by kernel_rfl)

/-! loop.example/g00719/laws.toStore -/
def laws_toStore.A : Sh := (.cons (.pur (.cons (.sl false (.int .i64)) (.cons (.sl false .bool) (.cons (.sl false (.sl false (.int .i64))) .nil)))) .nil)
def laws_toStore.R : Sh := (.cons (.agg (.cons (.own (.int .i64)) (.cons (.own .bool) (.cons (.own (.sl false (.int .i64))) .nil)))) .nil)
def laws_toStore.ann : Ann := { loops := [], joins := [], keys := [] }
noncomputable def laws_toStore (k : Nat) : (((List Int) × (List Bool) × (List (List Int)) × Unit) × Unit) → Option ((((List Int) × (List Bool) × (List (List Int)) × Unit) × Unit) × (Unit × Unit)) := fun x => match x with
 | (a, ()) =>
  bd k (laws_toInt64S k (a.1, ())) fun y1 =>
  bd k (laws_toBoolS k (a.2.1, ())) fun y2 =>
  bd k (laws_toInt64SS k (a.2.2.1, ())) fun y3 =>
  some (((y1.1.1, y2.1.1, y3.1.1, ()), ()), ((), ()))
noncomputable def laws_toStore.sg (k : Nat) : Sig := ⟨laws_toStore.A, laws_toStore.R, laws_toStore k⟩
noncomputable def laws_toStore.C (k : Nat) : Ctx := ⟨Tryz.prog, [(58, [laws_toInt64S.sg k]), (59, [laws_toBoolS.sg k]), (60, [laws_toInt64SS.sg k])], k⟩
theorem laws_toStore.ev (k : Nat) (x : laws_toStore.A.T) : evFunc (laws_toStore.C k) laws_toStore.ann Tryz.f27 laws_toStore.A laws_toStore.R x = laws_toStore k x := by kernel_rfl
theorem laws_toStore.ok {L : List (Nat × Obj)}  (k : Nat) : SigHolds Tryz.prog L 27 (laws_toStore.sg k) :=
  sig_of_ev (C := laws_toStore.C k) (holds_cons (allok_cons (laws_toInt64S.ok k) allok_nil) (holds_cons (allok_cons (laws_toBoolS.ok k) allok_nil) (holds_cons (allok_cons (laws_toInt64SS.ok k) allok_nil) holds_nil))) (by kernel_rfl) Tryz.func27 (by kernel_rfl) laws_toStore.ann laws_toStore.A laws_toStore.R (fun x y h => (laws_toStore.ev k x).trans h) (by kernel_rfl)

/-! loop.example/g00719/laws.toSnap -/
def laws_toSnap.A : Sh := (.cons (.pur (.cons (.int .i64) (.cons (.sl false (.cons (.int .i64) (.cons (.int .i64) .nil))) (.cons (.sl false (.int .i64)) (.cons (.sl false .bool) (.cons (.sl false (.sl false (.int .i64))) .nil)))))) .nil)
def laws_toSnap.R : Sh := (.cons (.agg (.cons (.pur (.int .i64)) (.cons (.own (.cons (.int .i64) (.cons (.int .i64) .nil))) (.cons (.own (.int .i64)) (.cons (.own .bool) (.cons (.own (.sl false (.int .i64))) .nil)))))) .nil)
def laws_toSnap.ann : Ann := { loops := [], joins := [], keys := [] }
noncomputable def laws_toSnap (k : Nat) : ((Int × (List (Int × Int × Unit)) × (List Int) × (List Bool) × (List (List Int)) × Unit) × Unit) → Option (((Int × (List (Int × Int × Unit)) × (List Int) × (List Bool) × (List (List Int)) × Unit) × Unit) × (Unit × Unit)) := fun x => match x with
 | (a, ()) =>
  bd k (laws_toEntryS k (a.2.1, ())) fun y1 =>
  bd k (laws_toStore k ((a.2.2.1, a.2.2.2.1, a.2.2.2.2.1, ()), ())) fun y2 =>
  some (((a.1, y1.1.1, y2.1.1.1, y2.1.1.2.1, y2.1.1.2.2.1, ()), ()), ((), ()))
noncomputable def laws_toSnap.sg (k : Nat) : Sig := ⟨laws_toSnap.A, laws_toSnap.R, laws_toSnap k⟩
noncomputable def laws_toSnap.C (k : Nat) : Ctx := ⟨Tryz.prog, [(26, [laws_toEntryS.sg k]), (27, [laws_toStore.sg k])], k⟩
theorem laws_toSnap.ev (k : Nat) (x : laws_toSnap.A.T) : evFunc (laws_toSnap.C k) laws_toSnap.ann Tryz.f10 laws_toSnap.A laws_toSnap.R x = laws_toSnap k x := by kernel_rfl
theorem laws_toSnap.ok {L : List (Nat × Obj)}  (k : Nat) : SigHolds Tryz.prog L 10 (laws_toSnap.sg k) :=
  sig_of_ev (C := laws_toSnap.C k) (holds_cons (allok_cons (laws_toEntryS.ok k) allok_nil) (holds_cons (allok_cons (laws_toStore.ok k) allok_nil) holds_nil)) (by kernel_rfl) Tryz.func10 (by kernel_rfl) laws_toSnap.ann laws_toSnap.A laws_toSnap.R (fun x y h => (laws_toSnap.ev k x).trans h) (by kernel_rfl)

/-! loop.example/g00719/spec.l1In -/
def spec_l1In.A : Sh := (.cons (.pur (.int .i64)) (.cons (.pur (.int .i64)) (.cons (.pur (.int .i64)) .nil)))
def spec_l1In.R : Sh := (.cons (.pur .bool) .nil)
def spec_l1In.ann : Ann := { loops := [], joins := [(1, [(6, .bool)])], keys := [] }
noncomputable def spec_l1In (k : Nat) : (Int × Int × Int × Unit) → Option ((Bool × Unit) × (Unit × Unit × Unit × Unit)) := fun x => match x with
 | (n, low, high, ()) =>
  (br k (decide (n ≥ low))
  (some (decide (n ≤ high), ()))
  (some (false, ())) : Option (Bool × Unit)).bind fun j1 =>
  some ((j1.1, ()), ((), (), (), ()))
noncomputable def spec_l1In.sg (k : Nat) : Sig := ⟨spec_l1In.A, spec_l1In.R, spec_l1In k⟩
noncomputable def spec_l1In.C (k : Nat) : Ctx := ⟨Tryz.prog, [], k⟩
theorem spec_l1In.ev (k : Nat) (x : spec_l1In.A.T) : evFunc (spec_l1In.C k) spec_l1In.ann Tryz.f21 spec_l1In.A spec_l1In.R x = spec_l1In k x := by kernel_rfl
theorem spec_l1In.ok {L : List (Nat × Obj)}  (k : Nat) : SigHolds Tryz.prog L 21 (spec_l1In.sg k) :=
  sig_of_ev (C := spec_l1In.C k) holds_nil (by kernel_rfl) Tryz.func21 (by kernel_rfl) spec_l1In.ann spec_l1In.A spec_l1In.R (fun x y h => (spec_l1In.ev k x).trans h) (by kernel_rfl)

/-! loop.example/g00719/spec.l3Key -/
def spec_l3Key.A : Sh := (.cons (.pur .str) .nil)
def spec_l3Key.R : Sh := (.cons (.pur .bool) .nil)
def spec_l3Key.ann : Ann := { loops := [(0, [(0, (.pur .str)), (3, (.own .str)), (4, (.pur (.int .i64)))])], joins := [], keys := [] }
noncomputable def spec_l3Key.l0 (k : Nat)  (G0 : ((List UInt8) × (List (List UInt8)) × Int × Unit) → Option ((Bool × Unit) × (Unit × Unit))) : ((List UInt8) × (List (List UInt8)) × Int × Unit) → Option ((Bool × Unit) × (Unit × Unit)) := fun x => match x with
 | (s_, keys, i, ()) =>
  br k (decide (i < (keys.length : Int)))
  (br k (decide (0 ≤ i ∧ i < (keys.length : Int)))
  (bd k (keys[i.toNat]?) fun x1 =>
  br k (x1 == s_)
  (some ((true, ()), ((), ())))
  (G0 (s_, keys, IntKind.wrap .i64 (i + 1), ())))
  none)
  (some ((false, ()), ((), ())))
noncomputable def spec_l3Key (k : Nat) : ((List UInt8) × Unit) → Option ((Bool × Unit) × (Unit × Unit)) := fun x => match x with
 | (s_, ()) =>
  iter (spec_l3Key.l0 k) k (s_, ([[118, 97, 114], [102, 108, 97, 103], [97, 114, 114, 97, 121], [105, 102], [102, 111, 114, 107], [101, 108, 115, 101], [101, 110, 100], [119, 104, 105, 108, 101], [117, 110, 114, 111, 108, 108], [97, 115, 115, 101, 114, 116], [97, 115, 115, 117, 109, 101], [105, 110, 112, 117, 116], [115, 112, 108, 105, 116], [109, 101, 114, 103, 101], [116, 114, 117, 101], [102, 97, 108, 115, 101]] : List (List UInt8)), 0, ())
noncomputable def spec_l3Key.sg (k : Nat) : Sig := ⟨spec_l3Key.A, spec_l3Key.R, spec_l3Key k⟩
noncomputable def spec_l3Key.C (k : Nat) : Ctx := ⟨Tryz.prog, [], k⟩
theorem spec_l3Key.ev (k : Nat) (x : spec_l3Key.A.T) : evFunc (spec_l3Key.C k) spec_l3Key.ann Tryz.f120 spec_l3Key.A spec_l3Key.R x = spec_l3Key k x := by kernel_rfl
theorem spec_l3Key.ok {L : List (Nat × Obj)}  (k : Nat) : SigHolds Tryz.prog L 120 (spec_l3Key.sg k) :=
  sig_of_ev (C := spec_l3Key.C k) holds_nil (by kernel_rfl) Tryz.func120 (by kernel_rfl) spec_l3Key.ann spec_l3Key.A spec_l3Key.R (fun x y h => (spec_l3Key.ev k x).trans h) (by kernel_rfl)

/-! loop.example/g00719/spec.l3Name -/
def spec_l3Name.A : Sh := (.cons (.pur .str) .nil)
def spec_l3Name.R : Sh := (.cons (.pur .bool) .nil)
def spec_l3Name.ann : Ann := { loops := [(0, [(0, (.pur .str)), (3, (.pur (.int .i64)))])], joins := [(4, [(19, .bool)]), (6, [(2, .bool)])], keys := [] }
noncomputable def spec_l3Name.l0 (k : Nat)  (G0 : ((List UInt8) × Int × Unit) → Option ((Bool × Unit) × (Unit × Unit))) : ((List UInt8) × Int × Unit) → Option ((Bool × Unit) × (Unit × Unit)) := fun x => match x with
 | (s_, i, ()) =>
  br k (decide (i < (s_.length : Int)))
  ((br k (decide (0 ≤ i))
  (bd k (s_[i.toNat]?) fun b1 =>
  br k (decide ((b1.toNat : Int) < 97))
  (some (true, ()))
  (br k (decide (0 ≤ i))
  (bd k (s_[i.toNat]?) fun b2 =>
  some (decide ((b2.toNat : Int) > 122), ()))
  none))
  none : Option (Bool × Unit)).bind fun j3 =>
  br k (j3.1)
  (some ((false, ()), ((), ())))
  (G0 (s_, IntKind.wrap .i64 (i + 1), ())))
  ((bd k (spec_l1In k ((s_.length : Int), 1, 8, ())) fun y4 =>
  br k (y4.1.1)
  (bd k (spec_l3Key k (s_, ())) fun y5 =>
  some (!y5.1.1, ()))
  (some (false, ())) : Option (Bool × Unit)).bind fun j6 =>
  some ((j6.1, ()), ((), ())))
noncomputable def spec_l3Name (k : Nat) : ((List UInt8) × Unit) → Option ((Bool × Unit) × (Unit × Unit)) := fun x => match x with
 | (s_, ()) =>
  iter (spec_l3Name.l0 k) k (s_, 0, ())
noncomputable def spec_l3Name.sg (k : Nat) : Sig := ⟨spec_l3Name.A, spec_l3Name.R, spec_l3Name k⟩
noncomputable def spec_l3Name.C (k : Nat) : Ctx := ⟨Tryz.prog, [(21, [spec_l1In.sg k]), (120, [spec_l3Key.sg k])], k⟩
theorem spec_l3Name.ev (k : Nat) (x : spec_l3Name.A.T) : evFunc (spec_l3Name.C k) spec_l3Name.ann Tryz.f79 spec_l3Name.A spec_l3Name.R x = spec_l3Name k x := by kernel_rfl
theorem spec_l3Name.ok {L : List (Nat × Obj)}  (k : Nat) : SigHolds Tryz.prog L 79 (spec_l3Name.sg k) :=
  sig_of_ev (C := spec_l3Name.C k) (holds_cons (allok_cons (spec_l1In.ok k) allok_nil) (holds_cons (allok_cons (spec_l3Key.ok k) allok_nil) holds_nil)) (by kernel_rfl) Tryz.func79 (by kernel_rfl) spec_l3Name.ann spec_l3Name.A spec_l3Name.R (fun x y h => (spec_l3Name.ev k x).trans h) (by kernel_rfl)

/-! loop.example/g00719/spec.l3Place -/
def spec_l3Place.A : Sh := (.cons (.pur (.sl false .str)) (.cons (.pur .str) .nil))
def spec_l3Place.R : Sh := (.cons (.pur (.int .i64)) .nil)
def spec_l3Place.ann : Ann := { loops := [(0, [(0, (.pur (.sl false .str))), (1, (.pur .str)), (5, (.pur (.int .i64)))])], joins := [], keys := [] }
noncomputable def spec_l3Place.l0 (k : Nat)  (G0 : ((List (List UInt8)) × (List UInt8) × Int × Unit) → Option ((Int × Unit) × (Unit × Unit × Unit))) : ((List (List UInt8)) × (List UInt8) × Int × Unit) → Option ((Int × Unit) × (Unit × Unit × Unit)) := fun x => match x with
 | (l_, s_, i, ()) =>
  br k (decide (i < (l_.length : Int)))
  (br k (decide (0 ≤ i))
  (bd k (l_[i.toNat]?) fun x1 =>
  br k (x1 == s_)
  (some ((i, ()), ((), (), ())))
  (G0 (l_, s_, IntKind.wrap .i64 (i + 1), ())))
  none)
  (some (((-1), ()), ((), (), ())))
noncomputable def spec_l3Place (k : Nat) : ((List (List UInt8)) × (List UInt8) × Unit) → Option ((Int × Unit) × (Unit × Unit × Unit)) := fun x => match x with
 | (l_, s_, ()) =>
  iter (spec_l3Place.l0 k) k (l_, s_, 0, ())
noncomputable def spec_l3Place.sg (k : Nat) : Sig := ⟨spec_l3Place.A, spec_l3Place.R, spec_l3Place k⟩
noncomputable def spec_l3Place.C (k : Nat) : Ctx := ⟨Tryz.prog, [], k⟩
theorem spec_l3Place.ev (k : Nat) (x : spec_l3Place.A.T) : evFunc (spec_l3Place.C k) spec_l3Place.ann Tryz.f80 spec_l3Place.A spec_l3Place.R x = spec_l3Place k x := by kernel_rfl
theorem spec_l3Place.ok {L : List (Nat × Obj)}  (k : Nat) : SigHolds Tryz.prog L 80 (spec_l3Place.sg k) :=
  sig_of_ev (C := spec_l3Place.C k) holds_nil (by kernel_rfl) Tryz.func80 (by kernel_rfl) spec_l3Place.ann spec_l3Place.A spec_l3Place.R (fun x y h => (spec_l3Place.ev k x).trans h) (by kernel_rfl)

/-! loop.example/g00719/spec.DeclOk -/
def spec_DeclOk.A : Sh := (.cons (.pur (.cons (.sl false .str) (.cons (.sl false .str) (.cons (.sl false (.cons .str (.cons (.int .i64) .nil))) .nil)))) .nil)
def spec_DeclOk.R : Sh := (.cons (.pur .bool) .nil)
def spec_DeclOk.ann : Ann := { loops := [(0, [(1, (.box (.cons (.pur (.sl false .str)) (.cons (.pur (.sl false .str)) (.cons (.pur (.sl false (.cons .str (.cons (.int .i64) .nil)))) .nil))))), (3, (.own .str)), (4, (.pur (.int .i64)))]), (2, [(3, (.own .str)), (5, (.pur (.int .i64)))])], joins := [(1, [(21, .bool)]), (13, [(75, .bool)])], keys := [(3, [([22], true), ([1], false), ([1], false), ([22, 25], true), ([1], false), ([1], false), ([25, 28], true), ([], false)])] }
noncomputable def spec_DeclOk.l2 (k : Nat)  (G2 : ((List (List UInt8)) × Int × Unit) → Option ((Bool × Unit) × (Unit × Unit))) : ((List (List UInt8)) × Int × Unit) → Option ((Bool × Unit) × (Unit × Unit)) := fun x => match x with
 | (all, i, ()) =>
  br k (decide (i < (all.length : Int)))
  ((br k (decide (0 ≤ i ∧ i < (all.length : Int)))
  (bd k (all[i.toNat]?) fun x5 =>
  bd k (spec_l3Name k (x5, ())) fun y6 =>
  br k (!y6.1.1)
  (some (true, ()))
  (br k (decide (0 ≤ i ∧ i ≤ (all.length : Int)))
  (br k (decide (0 ≤ i ∧ i < (all.length : Int)))
  (bd k (all[i.toNat]?) fun x7 =>
  bd k (spec_l3Place k (subL all ((0 : Int).toNat) (i.toNat - (0 : Int).toNat), x7, ())) fun y8 =>
  some (decide (y8.1.1 ≥ 0), ()))
  none)
  none))
  none : Option (Bool × Unit)).bind fun j9 =>
  br k (j9.1)
  (some ((false, ()), ((), ())))
  (G2 (all, IntKind.wrap .i64 (i + 1), ())))
  (some ((true, ()), ((), ())))
noncomputable def spec_DeclOk.l0 (k : Nat)  (G0 : (((List (List UInt8)) × (List (List UInt8)) × (List ((List UInt8) × Int × Unit)) × Unit) × (List (List UInt8)) × Int × Unit) → Option ((Bool × Unit) × (Unit × Unit))) : (((List (List UInt8)) × (List (List UInt8)) × (List ((List UInt8) × Int × Unit)) × Unit) × (List (List UInt8)) × Int × Unit) → Option ((Bool × Unit) × (Unit × Unit)) := fun x => match x with
 | ((d__0, d__1, d__2, ()), all, i, ()) =>
  br k (decide (i < (d__2.length : Int)))
  (br k (decide (0 ≤ i))
  (bd k (d__2[i.toNat]?) fun x2 =>
  bd k (spec_l1In k (x2.2.1, 1, 16, ())) fun y3 =>
  br k (!y3.1.1)
  (some ((false, ()), ((), ())))
  (br k (decide (0 ≤ i))
  (bd k (d__2[i.toNat]?) fun x4 =>
  br k (decide ((all.length + ([x4.1] : List (List UInt8)).length) * 16 ≤ maxBytes))
  (G0 ((d__0, d__1, d__2, ()), all ++ ([x4.1] : List (List UInt8)), IntKind.wrap .i64 (i + 1), ()))
  none)
  none))
  none)
  (iter (spec_DeclOk.l2 k) k (all, 0, ()))
noncomputable def spec_DeclOk (k : Nat) : (((List (List UInt8)) × (List (List UInt8)) × (List ((List UInt8) × Int × Unit)) × Unit) × Unit) → Option ((Bool × Unit) × (Unit × Unit)) := fun x => match x with
 | (d_, ()) =>
  (br k (decide ((d_.1.length : Int) > 5))
  (some (true, ()))
  (br k (decide ((d_.2.1.length : Int) > 3))
  (some (true, ()))
  (some (decide ((d_.2.2.1.length : Int) > 2), ()))) : Option (Bool × Unit)).bind fun j1 =>
  br k (j1.1)
  (some ((false, ()), ((), ())))
  (br k (decide ((([] : List (List UInt8)).length + d_.1.length) * 16 ≤ maxBytes))
  (br k (decide (((([] : List (List UInt8)) ++ d_.1).length + d_.2.1.length) * 16 ≤ maxBytes))
  (iter (spec_DeclOk.l0 k) k ((d_.1, d_.2.1, d_.2.2.1, ()), (([] : List (List UInt8)) ++ d_.1) ++ d_.2.1, 0, ()))
  none)
  none)
noncomputable def spec_DeclOk.sg (k : Nat) : Sig := ⟨spec_DeclOk.A, spec_DeclOk.R, spec_DeclOk k⟩
noncomputable def spec_DeclOk.C (k : Nat) : Ctx := ⟨Tryz.prog, [(21, [spec_l1In.sg k]), (79, [spec_l3Name.sg k]), (80, [spec_l3Place.sg k])], k⟩
theorem spec_DeclOk.ev (k : Nat) (x : spec_DeclOk.A.T) : evFunc (spec_DeclOk.C k) spec_DeclOk.ann Tryz.f44 spec_DeclOk.A spec_DeclOk.R x = spec_DeclOk k x := by kernel_rfl
theorem spec_DeclOk.ok {L : List (Nat × Obj)}  (k : Nat) : SigHolds Tryz.prog L 44 (spec_DeclOk.sg k) :=
  sig_of_ev (C := spec_DeclOk.C k) (holds_cons (allok_cons (spec_l1In.ok k) allok_nil) (holds_cons (allok_cons (spec_l3Name.ok k) allok_nil) (holds_cons (allok_cons (spec_l3Place.ok k) allok_nil) holds_nil))) (by kernel_rfl) Tryz.func44 (by kernel_rfl) spec_DeclOk.ann spec_DeclOk.A spec_DeclOk.R (fun x y h => (spec_DeclOk.ev k x).trans h) (by kernel_rfl)

/-! loop.example/g00719/spec.l4Uses -/
def spec_l4Uses.A : Sh := (.cons (.pur (.cons (.sl false .str) (.cons (.sl false .str) (.cons (.sl false (.cons .str (.cons (.int .i64) .nil))) .nil)))) (.cons (.pur (.int .i64)) .nil))
def spec_l4Uses.R : Sh := (.cons (.pur (.int .i64)) (.cons (.pur .bool) (.cons (.pur (.int .i64)) (.cons (.pur .bool) .nil))))
def spec_l4Uses.ann : Ann := { loops := [], joins := [], keys := [] }
noncomputable def spec_l4Uses (k : Nat) : (((List (List UInt8)) × (List (List UInt8)) × (List ((List UInt8) × Int × Unit)) × Unit) × Int × Unit) → Option ((Int × Bool × Int × Bool × Unit) × (Unit × Unit × Unit)) := fun x => match x with
 | (d_, kind, ()) =>
  br k (kind == 1)
  (some (((d_.1.length : Int), false, 1, false, ()), ((), (), ())))
  (br k (kind == 2)
  (some (((d_.2.1.length : Int), false, 2, false, ()), ((), (), ())))
  (br k (kind == 3)
  (some (((d_.2.2.1.length : Int), true, 1, false, ()), ((), (), ())))
  (br k (kind == 4)
  (br k (kind == 4)
  (some (((d_.1.length : Int), false, 0, true, ()), ((), (), ())))
  (br k (kind == 5)
  (br k (kind == 5)
  (some (((-1), false, 2, kind == 10, ()), ((), (), ())))
  (some (((-1), false, 0, false, ()), ((), (), ()))))
  (br k (kind == 6)
  (br k (kind == 6)
  (some (((-1), false, 2, kind == 10, ()), ((), (), ())))
  (some (((-1), false, 0, false, ()), ((), (), ()))))
  (br k (kind == 9)
  (br k (kind == 9)
  (some (((-1), false, 2, kind == 10, ()), ((), (), ())))
  (some (((-1), false, 0, false, ()), ((), (), ()))))
  (br k (kind == 10)
  (br k (kind == 10)
  (some (((-1), false, 2, kind == 10, ()), ((), (), ())))
  (some (((-1), false, 0, false, ()), ((), (), ()))))
  (br k (kind == 11)
  (br k (kind == 11)
  (some (((-1), false, 2, kind == 10, ()), ((), (), ())))
  (some (((-1), false, 0, false, ()), ((), (), ()))))
  (br k (kind == 12)
  (some (((-1), false, 2, kind == 10, ()), ((), (), ())))
  (some (((-1), false, 0, false, ()), ((), (), ()))))))))))
  (br k (kind == 13)
  (some (((d_.1.length : Int), false, 0, true, ()), ((), (), ())))
  (br k (kind == 5)
  (br k (kind == 5)
  (some (((-1), false, 2, kind == 10, ()), ((), (), ())))
  (some (((-1), false, 0, false, ()), ((), (), ()))))
  (br k (kind == 6)
  (br k (kind == 6)
  (some (((-1), false, 2, kind == 10, ()), ((), (), ())))
  (some (((-1), false, 0, false, ()), ((), (), ()))))
  (br k (kind == 9)
  (br k (kind == 9)
  (some (((-1), false, 2, kind == 10, ()), ((), (), ())))
  (some (((-1), false, 0, false, ()), ((), (), ()))))
  (br k (kind == 10)
  (br k (kind == 10)
  (some (((-1), false, 2, kind == 10, ()), ((), (), ())))
  (some (((-1), false, 0, false, ()), ((), (), ()))))
  (br k (kind == 11)
  (br k (kind == 11)
  (some (((-1), false, 2, kind == 10, ()), ((), (), ())))
  (some (((-1), false, 0, false, ()), ((), (), ()))))
  (br k (kind == 12)
  (some (((-1), false, 2, kind == 10, ()), ((), (), ())))
  (some (((-1), false, 0, false, ()), ((), (), ())))))))))))))
noncomputable def spec_l4Uses.sg (k : Nat) : Sig := ⟨spec_l4Uses.A, spec_l4Uses.R, spec_l4Uses k⟩
noncomputable def spec_l4Uses.C (k : Nat) : Ctx := ⟨Tryz.prog, [], k⟩
theorem spec_l4Uses.ev (k : Nat) (x : spec_l4Uses.A.T) : evFunc (spec_l4Uses.C k) spec_l4Uses.ann Tryz.f81 spec_l4Uses.A spec_l4Uses.R x = spec_l4Uses k x := by kernel_rfl
theorem spec_l4Uses.ok {L : List (Nat × Obj)}  (k : Nat) : SigHolds Tryz.prog L 81 (spec_l4Uses.sg k) :=
  sig_of_ev (C := spec_l4Uses.C k) holds_nil (by kernel_rfl) Tryz.func81 (by kernel_rfl) spec_l4Uses.ann spec_l4Uses.A spec_l4Uses.R (fun x y h => (spec_l4Uses.ev k x).trans h) (by kernel_rfl)

/-! loop.example/g00719/spec.l3Takes -/
def spec_l3Takes.A : Sh := (.cons (.pur (.int .i64)) .nil)
def spec_l3Takes.R : Sh := (.cons (.pur (.int .i64)) .nil)
def spec_l3Takes.ann : Ann := { loops := [], joins := [(3, [(6, .bool)])], keys := [] }
noncomputable def spec_l3Takes (k : Nat) : (Int × Unit) → Option ((Int × Unit) × (Unit × Unit)) := fun x => match x with
 | (op, ()) =>
  br k (decide (op ≤ 5))
  (some ((0, ()), ((), ())))
  ((br k (decide (op ≤ 7))
  (some (true, ()))
  (some (op == 19, ())) : Option (Bool × Unit)).bind fun j1 =>
  br k (j1.1)
  (some ((1, ()), ((), ())))
  (some ((2, ()), ((), ()))))
noncomputable def spec_l3Takes.sg (k : Nat) : Sig := ⟨spec_l3Takes.A, spec_l3Takes.R, spec_l3Takes k⟩
noncomputable def spec_l3Takes.C (k : Nat) : Ctx := ⟨Tryz.prog, [], k⟩
theorem spec_l3Takes.ev (k : Nat) (x : spec_l3Takes.A.T) : evFunc (spec_l3Takes.C k) spec_l3Takes.ann Tryz.f121 spec_l3Takes.A spec_l3Takes.R x = spec_l3Takes k x := by kernel_rfl
theorem spec_l3Takes.ok {L : List (Nat × Obj)}  (k : Nat) : SigHolds Tryz.prog L 121 (spec_l3Takes.sg k) :=
  sig_of_ev (C := spec_l3Takes.C k) holds_nil (by kernel_rfl) Tryz.func121 (by kernel_rfl) spec_l3Takes.ann spec_l3Takes.A spec_l3Takes.R (fun x y h => (spec_l3Takes.ev k x).trans h) (by kernel_rfl)

/-! loop.example/g00719/spec.l3Kinds -/
def spec_l3Kinds.A : Sh := (.cons (.pur (.int .i64)) .nil)
def spec_l3Kinds.R : Sh := (.cons (.pur (.int .i64)) (.cons (.pur (.int .i64)) .nil))
def spec_l3Kinds.ann : Ann := { loops := [], joins := [(1, [(4, .bool)])], keys := [] }
noncomputable def spec_l3Kinds (k : Nat) : (Int × Unit) → Option ((Int × Int × Unit) × (Unit × Unit)) := fun x => match x with
 | (op, ()) =>
  (br k (op == 3)
  (some (true, ()))
  (br k (op == 4)
  (some (true, ()))
  (some (op == 5, ()))) : Option (Bool × Unit)).bind fun j1 =>
  br k (j1.1)
  (some ((0, 2, ()), ((), ())))
  (br k (decide (op ≤ 12))
  (some ((1, 1, ()), ((), ())))
  (br k (decide (op ≤ 18))
  (some ((1, 2, ()), ((), ())))
  (some ((2, 2, ()), ((), ())))))
noncomputable def spec_l3Kinds.sg (k : Nat) : Sig := ⟨spec_l3Kinds.A, spec_l3Kinds.R, spec_l3Kinds k⟩
noncomputable def spec_l3Kinds.C (k : Nat) : Ctx := ⟨Tryz.prog, [], k⟩
theorem spec_l3Kinds.ev (k : Nat) (x : spec_l3Kinds.A.T) : evFunc (spec_l3Kinds.C k) spec_l3Kinds.ann Tryz.f122 spec_l3Kinds.A spec_l3Kinds.R x = spec_l3Kinds k x := by kernel_rfl
theorem spec_l3Kinds.ok {L : List (Nat × Obj)}  (k : Nat) : SigHolds Tryz.prog L 122 (spec_l3Kinds.sg k) :=
  sig_of_ev (C := spec_l3Kinds.C k) holds_nil (by kernel_rfl) Tryz.func122 (by kernel_rfl) spec_l3Kinds.ann spec_l3Kinds.A spec_l3Kinds.R (fun x y h => (spec_l3Kinds.ev k x).trans h) (by kernel_rfl)

/-! loop.example/g00719/spec.l3Tok -/
def spec_l3Tok.A : Sh := (.cons (.pur (.cons (.sl false .str) (.cons (.sl false .str) (.cons (.sl false (.cons .str (.cons (.int .i64) .nil))) .nil)))) (.cons (.pur (.cons (.int .i64) (.cons (.int .i64) .nil))) .nil))
def spec_l3Tok.R : Sh := (.cons (.pur .bool) .nil)
def spec_l3Tok.ann : Ann := { loops := [], joins := [(10, [(4, .bool)])], keys := [] }
noncomputable def spec_l3Tok (k : Nat) : (((List (List UInt8)) × (List (List UInt8)) × (List ((List UInt8) × Int × Unit)) × Unit) × (Int × Int × Unit) × Unit) → Option ((Bool × Unit) × (Unit × Unit × Unit)) := fun x => match x with
 | (d_, t, ()) =>
  br k (t.1 == 1)
  (bd k (spec_l1In k (t.2.1, 0, 999999999999999999, ())) fun y1 =>
  some ((y1.1.1, ()), ((), (), ())))
  (br k (t.1 == 2)
  (bd k (spec_l1In k (t.2.1, 0, IntKind.wrap .i64 ((d_.1.length : Int) - 1), ())) fun y2 =>
  some ((y2.1.1, ()), ((), (), ())))
  (br k (t.1 == 3)
  (bd k (spec_l1In k (t.2.1, 0, IntKind.wrap .i64 ((d_.2.1.length : Int) - 1), ())) fun y3 =>
  some ((y3.1.1, ()), ((), (), ())))
  (br k (t.1 == 6)
  (bd k (spec_l1In k (t.2.1, 0, IntKind.wrap .i64 ((d_.2.2.1.length : Int) - 1), ())) fun y4 =>
  some ((y4.1.1, ()), ((), (), ())))
  ((bd k (spec_l1In k (t.1, 4, 21, ())) fun y5 =>
  br k (y5.1.1)
  (some (t.2.1 == 0, ()))
  (some (false, ())) : Option (Bool × Unit)).bind fun j6 =>
  some ((j6.1, ()), ((), (), ()))))))
noncomputable def spec_l3Tok.sg (k : Nat) : Sig := ⟨spec_l3Tok.A, spec_l3Tok.R, spec_l3Tok k⟩
noncomputable def spec_l3Tok.C (k : Nat) : Ctx := ⟨Tryz.prog, [(21, [spec_l1In.sg k])], k⟩
theorem spec_l3Tok.ev (k : Nat) (x : spec_l3Tok.A.T) : evFunc (spec_l3Tok.C k) spec_l3Tok.ann Tryz.f123 spec_l3Tok.A spec_l3Tok.R x = spec_l3Tok k x := by kernel_rfl
theorem spec_l3Tok.ok {L : List (Nat × Obj)}  (k : Nat) : SigHolds Tryz.prog L 123 (spec_l3Tok.sg k) :=
  sig_of_ev (C := spec_l3Tok.C k) (holds_cons (allok_cons (spec_l1In.ok k) allok_nil) holds_nil) (by kernel_rfl) Tryz.func123 (by kernel_rfl) spec_l3Tok.ann spec_l3Tok.A spec_l3Tok.R (fun x y h => (spec_l3Tok.ev k x).trans h) (by kernel_rfl)

/-! loop.example/g00719/spec.ExprOk -/
def spec_ExprOk.A : Sh := (.cons (.pur (.cons (.sl false .str) (.cons (.sl false .str) (.cons (.sl false (.cons .str (.cons (.int .i64) .nil))) .nil)))) (.cons (.pur (.sl false (.cons (.int .i64) (.cons (.int .i64) .nil)))) .nil))
def spec_ExprOk.R : Sh := (.cons (.pur (.int .i64)) .nil)
def spec_ExprOk.ann : Ann := { loops := [(0, [(1, (.pur (.sl false (.cons (.int .i64) (.cons (.int .i64) .nil))))), (2, (.box (.cons (.pur (.sl false .str)) (.cons (.pur (.sl false .str)) (.cons (.pur (.sl false (.cons .str (.cons (.int .i64) .nil)))) .nil))))), (5, (.own (.int .i64))), (6, (.pur (.int .i64)))]), (2, [(1, (.pur (.sl false (.cons (.int .i64) (.cons (.int .i64) .nil))))), (2, (.box (.cons (.pur (.sl false .str)) (.cons (.pur (.sl false .str)) (.cons (.pur (.sl false (.cons .str (.cons (.int .i64) .nil)))) .nil))))), (5, (.own (.int .i64))), (6, (.pur (.int .i64))), (7, (.pur (.int .i64))), (8, (.pur (.int .i64))), (9, (.pur (.int .i64))), (10, (.pur (.int .i64)))])], joins := [(1, [(18, .bool)]), (9, [(53, .bool)])], keys := [] }
noncomputable def spec_ExprOk.l2 (k : Nat) (G0 : ((List (Int × Int × Unit)) × ((List (List UInt8)) × (List (List UInt8)) × (List ((List UInt8) × Int × Unit)) × Unit) × (List Int) × Int × Unit) → Option ((Int × Unit) × (Unit × Unit × Unit))) (G2 : ((List (Int × Int × Unit)) × ((List (List UInt8)) × (List (List UInt8)) × (List ((List UInt8) × Int × Unit)) × Unit) × (List Int) × Int × Int × Int × Int × Int × Unit) → Option ((Int × Unit) × (Unit × Unit × Unit))) : ((List (Int × Int × Unit)) × ((List (List UInt8)) × (List (List UInt8)) × (List ((List UInt8) × Int × Unit)) × Unit) × (List Int) × Int × Int × Int × Int × Int × Unit) → Option ((Int × Unit) × (Unit × Unit × Unit)) := fun x => match x with
 | (l_, (d__0, d__1, d__2, ()), pile, i, n, takes, leaves, k_, ()) =>
  br k (decide (k_ < (pile.length : Int)))
  (br k (decide (0 ≤ k_ ∧ k_ < (pile.length : Int)))
  (bd k (pile[k_.toNat]?) fun x10 =>
  br k (x10 != takes)
  (some ((0, ()), ((), (), ())))
  (G2 (l_, (d__0, d__1, d__2, ()), pile, i, n, takes, leaves, IntKind.wrap .i64 (k_ + 1), ())))
  none)
  (br k (decide (0 ≤ (IntKind.wrap .i64 ((pile.length : Int) - n)) ∧ (IntKind.wrap .i64 ((pile.length : Int) - n)) ≤ (pile.length : Int)))
  (br k (decide (((subL pile ((0 : Int).toNat) ((IntKind.wrap .i64 ((pile.length : Int) - n)).toNat - (0 : Int).toNat)).length + ([leaves] : List Int).length) * 8 ≤ maxBytes))
  (G0 (l_, (d__0, d__1, d__2, ()), (subL pile ((0 : Int).toNat) ((IntKind.wrap .i64 ((pile.length : Int) - n)).toNat - (0 : Int).toNat)) ++ ([leaves] : List Int), IntKind.wrap .i64 (i + 1), ()))
  none)
  none)
noncomputable def spec_ExprOk.l0 (k : Nat)  (G0 : ((List (Int × Int × Unit)) × ((List (List UInt8)) × (List (List UInt8)) × (List ((List UInt8) × Int × Unit)) × Unit) × (List Int) × Int × Unit) → Option ((Int × Unit) × (Unit × Unit × Unit))) : ((List (Int × Int × Unit)) × ((List (List UInt8)) × (List (List UInt8)) × (List ((List UInt8) × Int × Unit)) × Unit) × (List Int) × Int × Unit) → Option ((Int × Unit) × (Unit × Unit × Unit)) := fun x => match x with
 | (l_, (d__0, d__1, d__2, ()), pile, i, ()) =>
  br k (decide (i < (l_.length : Int)))
  (br k (decide (0 ≤ i))
  (bd k (l_[i.toNat]?) fun x3 =>
  bd k (spec_l3Takes k (x3.1, ())) fun y4 =>
  br k (decide (0 ≤ i))
  (bd k (l_[i.toNat]?) fun x5 =>
  bd k (spec_l3Kinds k (x5.1, ())) fun y6 =>
  (br k (decide (0 ≤ i))
  (bd k (l_[i.toNat]?) fun x7 =>
  bd k (spec_l3Tok k ((d__0, d__1, d__2, ()), x7, ())) fun y8 =>
  br k (!y8.1.1)
  (some (true, ()))
  (some (decide ((pile.length : Int) < y4.1.1), ())))
  none : Option (Bool × Unit)).bind fun j9 =>
  br k (j9.1)
  (some ((0, ()), ((), (), ())))
  (iter (spec_ExprOk.l2 k G0) k (l_, (d__0, d__1, d__2, ()), pile, i, y4.1.1, y6.1.1, y6.1.2.1, IntKind.wrap .i64 ((pile.length : Int) - y4.1.1), ())))
  none)
  none)
  (br k ((pile.length : Int) != 1)
  (some ((0, ()), ((), (), ())))
  (br k (decide (0 ≤ (0 : Int) ∧ (0 : Int) < (pile.length : Int)))
  (bd k (pile[(0 : Int).toNat]?) fun x11 =>
  some ((x11, ()), ((), (), ())))
  none))
noncomputable def spec_ExprOk (k : Nat) : (((List (List UInt8)) × (List (List UInt8)) × (List ((List UInt8) × Int × Unit)) × Unit) × (List (Int × Int × Unit)) × Unit) → Option ((Int × Unit) × (Unit × Unit × Unit)) := fun x => match x with
 | (d_, l_, ()) =>
  (bd k (spec_DeclOk k (d_, ())) fun y1 =>
  br k (!y1.1.1)
  (some (true, ()))
  (some (decide ((l_.length : Int) > 40), ())) : Option (Bool × Unit)).bind fun j2 =>
  br k (j2.1)
  (some ((0, ()), ((), (), ())))
  (iter (spec_ExprOk.l0 k) k (l_, (d_.1, d_.2.1, d_.2.2.1, ()), ([] : List Int), 0, ()))
noncomputable def spec_ExprOk.sg (k : Nat) : Sig := ⟨spec_ExprOk.A, spec_ExprOk.R, spec_ExprOk k⟩
noncomputable def spec_ExprOk.C (k : Nat) : Ctx := ⟨Tryz.prog, [(44, [spec_DeclOk.sg k]), (121, [spec_l3Takes.sg k]), (122, [spec_l3Kinds.sg k]), (123, [spec_l3Tok.sg k])], k⟩
theorem spec_ExprOk.ev (k : Nat) (x : spec_ExprOk.A.T) : evFunc (spec_ExprOk.C k) spec_ExprOk.ann Tryz.f82 spec_ExprOk.A spec_ExprOk.R x = spec_ExprOk k x := by kernel_rfl
theorem spec_ExprOk.ok {L : List (Nat × Obj)}  (k : Nat) : SigHolds Tryz.prog L 82 (spec_ExprOk.sg k) :=
  sig_of_ev (C := spec_ExprOk.C k) (holds_cons (allok_cons (spec_DeclOk.ok k) allok_nil) (holds_cons (allok_cons (spec_l3Takes.ok k) allok_nil) (holds_cons (allok_cons (spec_l3Kinds.ok k) allok_nil) (holds_cons (allok_cons (spec_l3Tok.ok k) allok_nil) holds_nil)))) (by kernel_rfl) Tryz.func82 (by kernel_rfl) spec_ExprOk.ann spec_ExprOk.A spec_ExprOk.R (fun x y h => (spec_ExprOk.ev k x).trans h) (by kernel_rfl)

end Go.Pev.F
