/-
  Printed by gen.py: what functions of the program compute, and that they do.
-/
import Derived.Test.YthjihnplkkhpmaaGreatDoorK08
set_option linter.unusedSimpArgs false
set_option linter.unusedVariables false
open Go.Proofs Go.Pev
namespace Go.Pev.F
set_option maxRecDepth 100000
set_option linter.unusedVariables false













/-! loop.example/g00719/spec.TableOk -/
def spec_TableOk.A : Sh := (.cons (.pur (.cons (.sl false .str) (.cons (.sl false .str) (.cons (.sl false (.cons .str (.cons (.int .i64) .nil))) .nil)))) (.cons (.pur (.sl false (.cons .bool (.cons (.sl false (.cons (.int .i64) (.cons (.int .i64) .nil))) (.cons (.sl false (.cons (.int .i64) (.cons (.int .i64) .nil))) .nil))))) .nil))
def spec_TableOk.R : Sh := (.cons (.pur .bool) .nil)
def spec_TableOk.ann : Ann := { loops := [(0, [(1, (.pur (.sl false (.cons .bool (.cons (.sl false (.cons (.int .i64) (.cons (.int .i64) .nil))) (.cons (.sl false (.cons (.int .i64) (.cons (.int .i64) .nil))) .nil)))))), (2, (.box (.cons (.pur (.sl false .str)) (.cons (.pur (.sl false .str)) (.cons (.pur (.sl false (.cons .str (.cons (.int .i64) .nil)))) .nil))))), (5, (.pur (.int .i64)))])], joins := [(1, [(15, .bool)])], keys := [] }
noncomputable def spec_TableOk.l0 (k : Nat)  (G0 : ((List (Bool × (List (Int × Int × Unit)) × (List (Int × Int × Unit)) × Unit)) × ((List (List UInt8)) × (List (List UInt8)) × (List ((List UInt8) × Int × Unit)) × Unit) × Int × Unit) → Option ((Bool × Unit) × (Unit × Unit × Unit))) : ((List (Bool × (List (Int × Int × Unit)) × (List (Int × Int × Unit)) × Unit)) × ((List (List UInt8)) × (List (List UInt8)) × (List ((List UInt8) × Int × Unit)) × Unit) × Int × Unit) → Option ((Bool × Unit) × (Unit × Unit × Unit)) := fun x => match x with
 | (t, (d__0, d__1, d__2, ()), i, ()) =>
  br k (decide (i < (t.length : Int)))
  (br k (decide (0 ≤ i))
  (bd k (t[i.toNat]?) fun x4 =>
  bd k (spec_EnvOk k ((d__0, d__1, d__2, ()), x4, ())) fun y5 =>
  br k (!y5.1.1)
  (some ((false, ()), ((), (), ())))
  (G0 (t, (d__0, d__1, d__2, ()), IntKind.wrap .i64 (i + 1), ())))
  none)
  (some ((true, ()), ((), (), ())))
noncomputable def spec_TableOk (k : Nat) : (((List (List UInt8)) × (List (List UInt8)) × (List ((List UInt8) × Int × Unit)) × Unit) × (List (Bool × (List (Int × Int × Unit)) × (List (Int × Int × Unit)) × Unit)) × Unit) → Option ((Bool × Unit) × (Unit × Unit × Unit)) := fun x => match x with
 | (d_, t, ()) =>
  (bd k (spec_DeclOk k (d_, ())) fun y1 =>
  br k (!y1.1.1)
  (some (true, ()))
  (bd k (spec_l8Size k (d_, ())) fun y2 =>
  some ((t.length : Int) != y2.1.1, ())) : Option (Bool × Unit)).bind fun j3 =>
  br k (j3.1)
  (some ((false, ()), ((), (), ())))
  (iter (spec_TableOk.l0 k) k (t, (d_.1, d_.2.1, d_.2.2.1, ()), 0, ()))
noncomputable def spec_TableOk.sg (k : Nat) : Sig := ⟨spec_TableOk.A, spec_TableOk.R, spec_TableOk k⟩
noncomputable def spec_TableOk.C (k : Nat) : Ctx := ⟨Tryz.prog, [(45, [spec_DeclOk.sg k]), (60, [spec_l8Size.sg k]), (13, [spec_EnvOk.sg k])], k, []⟩
theorem spec_TableOk.ev (k : Nat) (x : spec_TableOk.A.T) : evFunc (spec_TableOk.C k) spec_TableOk.ann Tryz.f22 spec_TableOk.A spec_TableOk.R x = spec_TableOk k x := by kernel_rfl
theorem spec_TableOk.ok {L : List (Nat × Obj)}  (k : Nat) : SigHolds Tryz.prog L 22 (spec_TableOk.sg k) :=
  sig_of_ev (C := spec_TableOk.C k) (holds_cons (allok_cons (spec_DeclOk.ok k) allok_nil) (holds_cons (allok_cons (spec_l8Size.ok k) allok_nil) (holds_cons (allok_cons (spec_EnvOk.ok k) allok_nil) holds_nil))) (by kernel_rfl) Tryz.func22 (by kernel_rfl) spec_TableOk.ann spec_TableOk.A spec_TableOk.R (fun x y h => (spec_TableOk.ev k x).trans h) (by kernel_rfl)

/-! loop.example/g00719/spec.l8Same -/
def spec_l8Same.A : Sh := (.cons (.pur (.cons .bool (.cons (.sl false (.cons (.int .i64) (.cons (.int .i64) .nil))) (.cons (.sl false (.cons (.int .i64) (.cons (.int .i64) .nil))) .nil)))) (.cons (.pur (.cons .bool (.cons (.sl false (.cons (.int .i64) (.cons (.int .i64) .nil))) (.cons (.sl false (.cons (.int .i64) (.cons (.int .i64) .nil))) .nil)))) .nil))
def spec_l8Same.R : Sh := (.cons (.pur .bool) .nil)
def spec_l8Same.ann : Ann := { loops := [(0, [(5, (.own (.cons (.int .i64) (.cons (.int .i64) .nil)))), (6, (.own (.cons (.int .i64) (.cons (.int .i64) .nil)))), (7, (.pur (.int .i64)))])], joins := [(1, [(30, .bool)])], keys := [] }
noncomputable def spec_l8Same.l0 (k : Nat)  (G0 : ((List (Int × Int × Unit)) × (List (Int × Int × Unit)) × Int × Unit) → Option ((Bool × Unit) × (Unit × Unit × Unit))) : ((List (Int × Int × Unit)) × (List (Int × Int × Unit)) × Int × Unit) → Option ((Bool × Unit) × (Unit × Unit × Unit)) := fun x => match x with
 | (x_, y_, i, ()) =>
  br k (decide (i < (x_.length : Int)))
  (br k (decide (0 ≤ i ∧ i < (x_.length : Int)))
  (bd k (x_[i.toNat]?) fun x4 =>
  br k (decide (0 ≤ i ∧ i < (y_.length : Int)))
  (bd k (y_[i.toNat]?) fun x5 =>
  br k (!((x4.1 == x5.1) && ((x4.2.1 == x5.2.1) && true)))
  (some ((false, ()), ((), (), ())))
  (G0 (x_, y_, IntKind.wrap .i64 (i + 1), ())))
  none)
  none)
  (some ((true, ()), ((), (), ())))
noncomputable def spec_l8Same (k : Nat) : ((Bool × (List (Int × Int × Unit)) × (List (Int × Int × Unit)) × Unit) × (Bool × (List (Int × Int × Unit)) × (List (Int × Int × Unit)) × Unit) × Unit) → Option ((Bool × Unit) × (Unit × Unit × Unit)) := fun x => match x with
 | (a, b_, ()) =>
  (br k (!(a.1 == b_.1))
  (some (true, ()))
  (br k ((a.2.1.length : Int) != (b_.2.1.length : Int))
  (some (true, ()))
  (some ((a.2.2.1.length : Int) != (b_.2.2.1.length : Int), ()))) : Option (Bool × Unit)).bind fun j1 =>
  br k (j1.1)
  (some ((false, ()), ((), (), ())))
  (bd k (spec_l6List k (a, ())) fun y2 =>
  bd k (spec_l6List k (b_, ())) fun y3 =>
  iter (spec_l8Same.l0 k) k (y2.1.1, y3.1.1, 0, ()))
noncomputable def spec_l8Same.sg (k : Nat) : Sig := ⟨spec_l8Same.A, spec_l8Same.R, spec_l8Same k⟩
noncomputable def spec_l8Same.C (k : Nat) : Ctx := ⟨Tryz.prog, [(46, [spec_l6List.sg k])], k, []⟩
theorem spec_l8Same.ev (k : Nat) (x : spec_l8Same.A.T) : evFunc (spec_l8Same.C k) spec_l8Same.ann Tryz.f163 spec_l8Same.A spec_l8Same.R x = spec_l8Same k x := by kernel_rfl
theorem spec_l8Same.ok {L : List (Nat × Obj)}  (k : Nat) : SigHolds Tryz.prog L 163 (spec_l8Same.sg k) :=
  sig_of_ev (C := spec_l8Same.C k) (holds_cons (allok_cons (spec_l6List.ok k) allok_nil) holds_nil) (by kernel_rfl) Tryz.func163 (by kernel_rfl) spec_l8Same.ann spec_l8Same.A spec_l8Same.R (fun x y h => (spec_l8Same.ev k x).trans h) (by kernel_rfl)

/-! loop.example/g00719/spec.l8Node -/
def spec_l8Node.A : Sh := (.cons (.pur (.cons (.int .i64) (.cons (.int .i64) (.cons (.int .i64) (.cons .bool (.cons (.sl false (.cons (.int .i64) (.cons (.int .i64) .nil))) (.cons (.sl false (.cons (.int .i64) (.cons (.int .i64) .nil))) .nil))))))) (.cons (.pur (.cons (.int .i64) (.cons (.int .i64) (.cons (.int .i64) (.cons .bool (.cons (.sl false (.cons (.int .i64) (.cons (.int .i64) .nil))) (.cons (.sl false (.cons (.int .i64) (.cons (.int .i64) .nil))) .nil))))))) .nil))
def spec_l8Node.R : Sh := (.cons (.pur .bool) .nil)
def spec_l8Node.ann : Ann := { loops := [], joins := [(1, [(4, .bool)])], keys := [] }
noncomputable def spec_l8Node (k : Nat) : ((Int × Int × Int × Bool × (List (Int × Int × Unit)) × (List (Int × Int × Unit)) × Unit) × (Int × Int × Int × Bool × (List (Int × Int × Unit)) × (List (Int × Int × Unit)) × Unit) × Unit) → Option ((Bool × Unit) × (Unit × Unit × Unit)) := fun x => match x with
 | (a, b_, ()) =>
  (br k (a.1 == b_.1)
  (br k (a.2.1 == b_.2.1)
  (br k (a.2.2.1 == b_.2.2.1)
  (bd k (spec_l8Same k ((a.2.2.2.1, a.2.2.2.2.1, a.2.2.2.2.2.1, ()), (b_.2.2.2.1, b_.2.2.2.2.1, b_.2.2.2.2.2.1, ()), ())) fun y1 =>
  some (y1.1.1, ()))
  (some (false, ())))
  (some (false, ())))
  (some (false, ())) : Option (Bool × Unit)).bind fun j2 =>
  some ((j2.1, ()), ((), (), ()))
noncomputable def spec_l8Node.sg (k : Nat) : Sig := ⟨spec_l8Node.A, spec_l8Node.R, spec_l8Node k⟩
noncomputable def spec_l8Node.C (k : Nat) : Ctx := ⟨Tryz.prog, [(163, [spec_l8Same.sg k])], k, []⟩
theorem spec_l8Node.ev (k : Nat) (x : spec_l8Node.A.T) : evFunc (spec_l8Node.C k) spec_l8Node.ann Tryz.f133 spec_l8Node.A spec_l8Node.R x = spec_l8Node k x := by kernel_rfl
theorem spec_l8Node.ok {L : List (Nat × Obj)}  (k : Nat) : SigHolds Tryz.prog L 133 (spec_l8Node.sg k) :=
  sig_of_ev (C := spec_l8Node.C k) (holds_cons (allok_cons (spec_l8Same.ok k) allok_nil) holds_nil) (by kernel_rfl) Tryz.func133 (by kernel_rfl) spec_l8Node.ann spec_l8Node.A spec_l8Node.R (fun x y h => (spec_l8Node.ev k x).trans h) (by kernel_rfl)



end Go.Pev.F
