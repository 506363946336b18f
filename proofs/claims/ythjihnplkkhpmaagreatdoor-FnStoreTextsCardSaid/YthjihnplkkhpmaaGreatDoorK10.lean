/-
  Printed by gen.py: what functions of the program compute, and that they do.
-/
import Derived.Test.YthjihnplkkhpmaaGreatDoorK09
set_option linter.unusedSimpArgs false
set_option linter.unusedVariables false
open Go.Proofs Go.Pev
namespace Go.Pev.F
set_option maxRecDepth 100000
set_option linter.unusedVariables false







/-! loop.example/g00719/laws.sameTable -/
def laws_sameTable.A : Sh := (.cons (.pur (.sl false (.cons .bool (.cons (.sl false (.cons (.int .i64) (.cons (.int .i64) .nil))) (.cons (.sl false (.cons (.int .i64) (.cons (.int .i64) .nil))) .nil))))) (.cons (.pur (.sl false (.cons .bool (.cons (.sl false (.cons (.int .i64) (.cons (.int .i64) .nil))) (.cons (.sl false (.cons (.int .i64) (.cons (.int .i64) .nil))) .nil))))) .nil))
def laws_sameTable.R : Sh := (.cons (.pur .bool) .nil)
def laws_sameTable.ann : Ann := { loops := [(0, [(0, (.pur (.sl false (.cons .bool (.cons (.sl false (.cons (.int .i64) (.cons (.int .i64) .nil))) (.cons (.sl false (.cons (.int .i64) (.cons (.int .i64) .nil))) .nil)))))), (1, (.pur (.sl false (.cons .bool (.cons (.sl false (.cons (.int .i64) (.cons (.int .i64) .nil))) (.cons (.sl false (.cons (.int .i64) (.cons (.int .i64) .nil))) .nil)))))), (5, (.pur (.int .i64)))])], joins := [], keys := [] }
noncomputable def laws_sameTable.l0 (k : Nat)  (G0 : ((List (Bool × (List (Int × Int × Unit)) × (List (Int × Int × Unit)) × Unit)) × (List (Bool × (List (Int × Int × Unit)) × (List (Int × Int × Unit)) × Unit)) × Int × Unit) → Option ((Bool × Unit) × (Unit × Unit × Unit))) : ((List (Bool × (List (Int × Int × Unit)) × (List (Int × Int × Unit)) × Unit)) × (List (Bool × (List (Int × Int × Unit)) × (List (Int × Int × Unit)) × Unit)) × Int × Unit) → Option ((Bool × Unit) × (Unit × Unit × Unit)) := fun x => match x with
 | (a, b_, i, ()) =>
  br k (decide (i < (a.length : Int)))
  (br k (decide (0 ≤ i))
  (bd k (a[i.toNat]?) fun x1 =>
  br k (decide (0 ≤ i))
  (bd k (b_[i.toNat]?) fun x2 =>
  bd k (laws_sameEnv k (x1, x2, ())) fun y3 =>
  br k (!y3.1.1)
  (some ((false, ()), ((), (), ())))
  (G0 (a, b_, IntKind.wrap .i64 (i + 1), ())))
  none)
  none)
  (some ((true, ()), ((), (), ())))
noncomputable def laws_sameTable (k : Nat) : ((List (Bool × (List (Int × Int × Unit)) × (List (Int × Int × Unit)) × Unit)) × (List (Bool × (List (Int × Int × Unit)) × (List (Int × Int × Unit)) × Unit)) × Unit) → Option ((Bool × Unit) × (Unit × Unit × Unit)) := fun x => match x with
 | (a, b_, ()) =>
  br k ((a.length : Int) != (b_.length : Int))
  (some ((false, ()), ((), (), ())))
  (iter (laws_sameTable.l0 k) k (a, b_, 0, ()))
noncomputable def laws_sameTable.sg (k : Nat) : Sig := ⟨laws_sameTable.A, laws_sameTable.R, laws_sameTable k⟩
noncomputable def laws_sameTable.C (k : Nat) : Ctx := ⟨Tryz.prog, [(15, [laws_sameEnv.sg k])], k, []⟩
theorem laws_sameTable.ev (k : Nat) (x : laws_sameTable.A.T) : evFunc (laws_sameTable.C k) laws_sameTable.ann Tryz.f23 laws_sameTable.A laws_sameTable.R x = laws_sameTable k x := by kernel_rfl
theorem laws_sameTable.ok {L : List (Nat × Obj)}  (k : Nat) : SigHolds Tryz.prog L 23 (laws_sameTable.sg k) :=
  sig_of_ev (C := laws_sameTable.C k) (holds_cons (allok_cons (laws_sameEnv.ok k) allok_nil) holds_nil) (by kernel_rfl) Tryz.func23 (by kernel_rfl) laws_sameTable.ann laws_sameTable.A laws_sameTable.R (fun x y h => (laws_sameTable.ev k x).trans h) (by kernel_rfl)


/-! (*loop.example/g00719/spec.l1Rd).token -/
def spec_l1Rd_token.A : Sh := (.cons (.box (.cons (.pur (.sl false (.int .u8))) (.cons (.pur (.int .i64)) .nil))) .nil)
def spec_l1Rd_token.R : Sh := (.cons (.own (.cons (.int .i64) (.cons (.int .i64) .nil))) .nil)
def spec_l1Rd_token.ann : Ann := { loops := [(0, [(0, (.box (.cons (.pur (.sl false (.int .u8))) (.cons (.pur (.int .i64)) .nil)))), (3, (.own (.cons (.int .i64) (.cons (.int .i64) .nil)))), (4, (.pur (.int .i64)))])], joins := [], keys := [] }
noncomputable def spec_l1Rd_token.l0 (k : Nat)  (G0 : (((List Int) × Int × Unit) × (List (Int × Int × Unit)) × Int × Unit) → Option (((List (Int × Int × Unit)) × Unit) × (((List Int) × Int × Unit) × Unit))) : (((List Int) × Int × Unit) × (List (Int × Int × Unit)) × Int × Unit) → Option (((List (Int × Int × Unit)) × Unit) × (((List Int) × Int × Unit) × Unit)) := fun x => match x with
 | ((r_0, r_1, ()), out_, i, ()) =>
  br k (decide (i > 0))
  (bd k (spec_l1Rd_below k ((r_0, r_1, ()), 4, ())) fun y2 =>
  bd k (spec_l1Rd_below k ((y2.2.1.1, y2.2.1.2.1, ()), 3, ())) fun y3 =>
  br k (decide ((out_.length + ([(y2.1.1, y3.1.1, ())] : List (Int × Int × Unit)).length) * 16 ≤ maxBytes))
  (G0 ((y3.2.1.1, y3.2.1.2.1, ()), out_ ++ ([(y2.1.1, y3.1.1, ())] : List (Int × Int × Unit)), IntKind.wrap .i64 (i - 1), ()))
  none)
  (bd k (spec_l1Rd_below k ((r_0, r_1, ()), 40, ())) fun y4 =>
  br k (y4.1.1 == 0)
  (bd k (spec_l1Rd_off k ((y4.2.1.1, y4.2.1.2.1, ()), 0, 29, ())) fun y5 =>
  bd k (spec_l1Rd_off k ((y5.2.1.1, y5.2.1.2.1, ()), 0, 4, ())) fun y6 =>
  br k (decide ((out_.length + ([(y5.1.1, y6.1.1, ())] : List (Int × Int × Unit)).length) * 16 ≤ maxBytes))
  (some ((out_ ++ ([(y5.1.1, y6.1.1, ())] : List (Int × Int × Unit)), ()), ((y6.2.1.1, y6.2.1.2.1, ()), ())))
  none)
  (br k (y4.1.1 == 1)
  (bd k (spec_l1Rd_off k ((y4.2.1.1, y4.2.1.2.1, ()), 0, 29, ())) fun y7 =>
  bd k (spec_l1Rd_off k ((y7.2.1.1, y7.2.1.2.1, ()), 0, 4, ())) fun y8 =>
  some ((([(y7.1.1, y8.1.1, ())] : List (Int × Int × Unit)), ()), ((y8.2.1.1, y8.2.1.2.1, ()), ())))
  (some ((out_, ()), ((y4.2.1.1, y4.2.1.2.1, ()), ())))))
noncomputable def spec_l1Rd_token (k : Nat) : (((List Int) × Int × Unit) × Unit) → Option (((List (Int × Int × Unit)) × Unit) × (((List Int) × Int × Unit) × Unit)) := fun x => match x with
 | ((r_0, r_1, ()), ()) =>
  bd k (spec_l1Rd_below k ((r_0, r_1, ()), 4, ())) fun y1 =>
  iter (spec_l1Rd_token.l0 k) k ((y1.2.1.1, y1.2.1.2.1, ()), ([] : List (Int × Int × Unit)), y1.1.1, ())
noncomputable def spec_l1Rd_token.sg (k : Nat) : Sig := ⟨spec_l1Rd_token.A, spec_l1Rd_token.R, spec_l1Rd_token k⟩
noncomputable def spec_l1Rd_token.C (k : Nat) : Ctx := ⟨Tryz.prog, [(70, [spec_l1Rd_below.sg k]), (110, [spec_l1Rd_off.sg k])], k, []⟩
theorem spec_l1Rd_token.ev (k : Nat) (x : spec_l1Rd_token.A.T) : evFunc (spec_l1Rd_token.C k) spec_l1Rd_token.ann Tryz.f134 spec_l1Rd_token.A spec_l1Rd_token.R x = spec_l1Rd_token k x := by kernel_rfl
theorem spec_l1Rd_token.ok {L : List (Nat × Obj)}  (k : Nat) : SigHolds Tryz.prog L 134 (spec_l1Rd_token.sg k) :=
  sig_of_ev (C := spec_l1Rd_token.C k) (holds_cons (allok_cons (spec_l1Rd_below.ok k) allok_nil) (holds_cons (allok_cons (spec_l1Rd_off.ok k) allok_nil) holds_nil)) (by kernel_rfl) Tryz.func134 (by kernel_rfl) spec_l1Rd_token.ann spec_l1Rd_token.A spec_l1Rd_token.R (fun x y h => (spec_l1Rd_token.ev k x).trans h) (by kernel_rfl)

/-! loop.example/g00719/spec.TokenOk -/
def spec_TokenOk.A : Sh := (.cons (.pur (.sl false (.cons (.int .i64) (.cons (.int .i64) .nil)))) .nil)
def spec_TokenOk.R : Sh := (.cons (.pur .bool) .nil)
def spec_TokenOk.ann : Ann := { loops := [(0, [(0, (.pur (.sl false (.cons (.int .i64) (.cons (.int .i64) .nil))))), (3, (.pur (.int .i64)))])], joins := [(6, [(28, .bool)])], keys := [] }
noncomputable def spec_TokenOk.l0 (k : Nat)  (G0 : ((List (Int × Int × Unit)) × Int × Unit) → Option ((Bool × Unit) × (Unit × Unit))) : ((List (Int × Int × Unit)) × Int × Unit) → Option ((Bool × Unit) × (Unit × Unit)) := fun x => match x with
 | (t, i, ()) =>
  br k (decide (i < (t.length : Int)))
  ((br k (decide (0 ≤ i))
  (bd k (t[i.toNat]?) fun x1 =>
  bd k (spec_l1In k (x1.1, 0, 29, ())) fun y2 =>
  br k (!y2.1.1)
  (some (true, ()))
  (br k (decide (0 ≤ i))
  (bd k (t[i.toNat]?) fun x3 =>
  bd k (spec_l1In k (x3.2.1, 0, 4, ())) fun y4 =>
  some (!y4.1.1, ()))
  none))
  none : Option (Bool × Unit)).bind fun j5 =>
  br k (j5.1)
  (some ((false, ()), ((), ())))
  (G0 (t, IntKind.wrap .i64 (i + 1), ())))
  (some ((true, ()), ((), ())))
noncomputable def spec_TokenOk (k : Nat) : ((List (Int × Int × Unit)) × Unit) → Option ((Bool × Unit) × (Unit × Unit)) := fun x => match x with
 | (t, ()) =>
  br k (decide ((t.length : Int) > 3))
  (some ((false, ()), ((), ())))
  (iter (spec_TokenOk.l0 k) k (t, 0, ()))
noncomputable def spec_TokenOk.sg (k : Nat) : Sig := ⟨spec_TokenOk.A, spec_TokenOk.R, spec_TokenOk k⟩
noncomputable def spec_TokenOk.C (k : Nat) : Ctx := ⟨Tryz.prog, [(88, [spec_l1In.sg k])], k, []⟩
theorem spec_TokenOk.ev (k : Nat) (x : spec_TokenOk.A.T) : evFunc (spec_TokenOk.C k) spec_TokenOk.ann Tryz.f67 spec_TokenOk.A spec_TokenOk.R x = spec_TokenOk k x := by kernel_rfl
theorem spec_TokenOk.ok {L : List (Nat × Obj)}  (k : Nat) : SigHolds Tryz.prog L 67 (spec_TokenOk.sg k) :=
  sig_of_ev (C := spec_TokenOk.C k) (holds_cons (allok_cons (spec_l1In.ok k) allok_nil) holds_nil) (by kernel_rfl) Tryz.func67 (by kernel_rfl) spec_TokenOk.ann spec_TokenOk.A spec_TokenOk.R (fun x y h => (spec_TokenOk.ev k x).trans h) (by kernel_rfl)

/-! loop.example/g00719/spec.l9Live -/
def spec_l9Live.A : Sh := (.cons (.pur (.sl false (.cons .bool (.cons (.sl false (.cons (.int .i64) (.cons (.int .i64) .nil))) (.cons (.sl false (.cons (.int .i64) (.cons (.int .i64) .nil))) .nil))))) .nil)
def spec_l9Live.R : Sh := (.cons (.pur .bool) .nil)
def spec_l9Live.ann : Ann := { loops := [(0, [(0, (.pur (.sl false (.cons .bool (.cons (.sl false (.cons (.int .i64) (.cons (.int .i64) .nil))) (.cons (.sl false (.cons (.int .i64) (.cons (.int .i64) .nil))) .nil)))))), (3, (.pur (.int .i64)))])], joins := [], keys := [] }
noncomputable def spec_l9Live.l0 (k : Nat)  (G0 : ((List (Bool × (List (Int × Int × Unit)) × (List (Int × Int × Unit)) × Unit)) × Int × Unit) → Option ((Bool × Unit) × (Unit × Unit))) : ((List (Bool × (List (Int × Int × Unit)) × (List (Int × Int × Unit)) × Unit)) × Int × Unit) → Option ((Bool × Unit) × (Unit × Unit)) := fun x => match x with
 | (t, i, ()) =>
  br k (decide (i < (t.length : Int)))
  (br k (decide (0 ≤ i))
  (bd k (t[i.toNat]?) fun x1 =>
  br k (x1.1)
  (some ((true, ()), ((), ())))
  (G0 (t, IntKind.wrap .i64 (i + 1), ())))
  none)
  (some ((false, ()), ((), ())))
noncomputable def spec_l9Live (k : Nat) : ((List (Bool × (List (Int × Int × Unit)) × (List (Int × Int × Unit)) × Unit)) × Unit) → Option ((Bool × Unit) × (Unit × Unit)) := fun x => match x with
 | (t, ()) =>
  iter (spec_l9Live.l0 k) k (t, 0, ())
noncomputable def spec_l9Live.sg (k : Nat) : Sig := ⟨spec_l9Live.A, spec_l9Live.R, spec_l9Live k⟩
noncomputable def spec_l9Live.C (k : Nat) : Ctx := ⟨Tryz.prog, [], k, []⟩
theorem spec_l9Live.ev (k : Nat) (x : spec_l9Live.A.T) : evFunc (spec_l9Live.C k) spec_l9Live.ann Tryz.f69 spec_l9Live.A spec_l9Live.R x = spec_l9Live k x := by kernel_rfl
theorem spec_l9Live.ok {L : List (Nat × Obj)}  (k : Nat) : SigHolds Tryz.prog L 69 (spec_l9Live.sg k) :=
  sig_of_ev (C := spec_l9Live.C k) holds_nil (by kernel_rfl) Tryz.func69 (by kernel_rfl) spec_l9Live.ann spec_l9Live.A spec_l9Live.R (fun x y h => (spec_l9Live.ev k x).trans h) (by kernel_rfl)

/-! loop.example/g00719/spec.l9Cmp -/
def spec_l9Cmp.A : Sh := (.cons (.pur (.sl false (.cons (.int .i64) (.cons (.int .i64) .nil)))) (.cons (.pur (.sl false (.cons (.int .i64) (.cons (.int .i64) .nil)))) .nil))
def spec_l9Cmp.R : Sh := (.cons (.pur (.int .i64)) .nil)
def spec_l9Cmp.ann : Ann := { loops := [(0, [(0, (.pur (.sl false (.cons (.int .i64) (.cons (.int .i64) .nil))))), (1, (.pur (.sl false (.cons (.int .i64) (.cons (.int .i64) .nil))))), (5, (.pur (.int .i64)))])], joins := [], keys := [] }
noncomputable def spec_l9Cmp.l0 (k : Nat)  (G0 : ((List (Int × Int × Unit)) × (List (Int × Int × Unit)) × Int × Unit) → Option ((Int × Unit) × (Unit × Unit × Unit))) : ((List (Int × Int × Unit)) × (List (Int × Int × Unit)) × Int × Unit) → Option ((Int × Unit) × (Unit × Unit × Unit)) := fun x => match x with
 | (a, b_, i, ()) =>
  br k (decide (i < (a.length : Int)))
  (br k (decide (0 ≤ i))
  (bd k (a[i.toNat]?) fun x1 =>
  br k (decide (0 ≤ i))
  (bd k (a[i.toNat]?) fun x2 =>
  br k (decide (0 ≤ i))
  (bd k (b_[i.toNat]?) fun x3 =>
  br k (decide (0 ≤ i))
  (bd k (b_[i.toNat]?) fun x4 =>
  br k (decide ((IntKind.wrap .i64 ((IntKind.wrap .i64 (10 * x1.1)) + x2.2.1)) < (IntKind.wrap .i64 ((IntKind.wrap .i64 (10 * x3.1)) + x4.2.1))))
  (some (((-1), ()), ((), (), ())))
  (br k (decide ((IntKind.wrap .i64 ((IntKind.wrap .i64 (10 * x1.1)) + x2.2.1)) > (IntKind.wrap .i64 ((IntKind.wrap .i64 (10 * x3.1)) + x4.2.1))))
  (some ((1, ()), ((), (), ())))
  (G0 (a, b_, IntKind.wrap .i64 (i + 1), ()))))
  none)
  none)
  none)
  none)
  (some ((0, ()), ((), (), ())))
noncomputable def spec_l9Cmp (k : Nat) : ((List (Int × Int × Unit)) × (List (Int × Int × Unit)) × Unit) → Option ((Int × Unit) × (Unit × Unit × Unit)) := fun x => match x with
 | (a, b_, ()) =>
  br k ((a.length : Int) != (b_.length : Int))
  (br k (decide ((a.length : Int) < (b_.length : Int)))
  (some (((-1), ()), ((), (), ())))
  (some ((1, ()), ((), (), ()))))
  (iter (spec_l9Cmp.l0 k) k (a, b_, 0, ()))
noncomputable def spec_l9Cmp.sg (k : Nat) : Sig := ⟨spec_l9Cmp.A, spec_l9Cmp.R, spec_l9Cmp k⟩
noncomputable def spec_l9Cmp.C (k : Nat) : Ctx := ⟨Tryz.prog, [], k, []⟩
theorem spec_l9Cmp.ev (k : Nat) (x : spec_l9Cmp.A.T) : evFunc (spec_l9Cmp.C k) spec_l9Cmp.ann Tryz.f68 spec_l9Cmp.A spec_l9Cmp.R x = spec_l9Cmp k x := by kernel_rfl
theorem spec_l9Cmp.ok {L : List (Nat × Obj)}  (k : Nat) : SigHolds Tryz.prog L 68 (spec_l9Cmp.sg k) :=
  sig_of_ev (C := spec_l9Cmp.C k) holds_nil (by kernel_rfl) Tryz.func68 (by kernel_rfl) spec_l9Cmp.ann spec_l9Cmp.A spec_l9Cmp.R (fun x y h => (spec_l9Cmp.ev k x).trans h) (by kernel_rfl)

/-! loop.example/g00719/spec.IvWiden -/
def spec_IvWiden.A : Sh := (.cons (.pur (.cons (.int .i64) (.cons (.int .i64) .nil))) (.cons (.pur (.cons (.int .i64) (.cons (.int .i64) .nil))) (.cons (.pur (.sl false (.int .i64))) .nil)))
def spec_IvWiden.R : Sh := (.cons (.pur (.cons (.int .i64) (.cons (.int .i64) .nil))) .nil)
def spec_IvWiden.ann : Ann := { loops := [(0, [(2, (.pur (.sl false (.int .i64)))), (3, (.box (.cons (.pur (.int .i64)) (.cons (.pur (.int .i64)) .nil)))), (4, (.box (.cons (.pur (.int .i64)) (.cons (.pur (.int .i64)) .nil)))), (6, (.box (.cons (.pur (.int .i64)) (.cons (.pur (.int .i64)) .nil)))), (7, (.box (.cons (.pur (.int .i64)) (.cons (.pur (.int .i64)) .nil)))), (8, (.pur (.int .i64)))]), (2, [(2, (.pur (.sl false (.int .i64)))), (4, (.box (.cons (.pur (.int .i64)) (.cons (.pur (.int .i64)) .nil)))), (6, (.box (.cons (.pur (.int .i64)) (.cons (.pur (.int .i64)) .nil)))), (7, (.box (.cons (.pur (.int .i64)) (.cons (.pur (.int .i64)) .nil)))), (9, (.pur (.int .i64)))])], joins := [(1, [(22, .bool)])], keys := [(10, [([7], false), ([7], false), ([], false), ([], false), ([], false), ([], false), ([], false), ([7], false), ([7], true)]), (17, [([7], false), ([7], false), ([], false), ([], false), ([], false), ([], false), ([], false), ([7], false), ([7], true)])] }
noncomputable def spec_IvWiden.l2 (k : Nat)  (G2 : ((List Int) × (Int × Int × Unit) × (Int × Int × Unit) × (Int × Int × Unit) × Int × Unit) → Option (((Int × Int × Unit) × Unit) × (Unit × Unit × Unit × Unit))) : ((List Int) × (Int × Int × Unit) × (Int × Int × Unit) × (Int × Int × Unit) × Int × Unit) → Option (((Int × Int × Unit) × Unit) × (Unit × Unit × Unit × Unit)) := fun x => match x with
 | (steps, (b__0, b__1, ()), (t6_0, t6_1, ()), (out__0, out__1, ()), i, ()) =>
  br k (decide (i < (steps.length : Int)))
  (br k (decide (0 ≤ i))
  (bd k (steps[i.toNat]?) fun x6 =>
  br k (decide (x6 ≥ b__1))
  (br k (decide (0 ≤ i))
  (bd k (steps[i.toNat]?) fun x7 =>
  G2 (steps, (b__0, b__1, ()), (t6_0, t6_1, ()), (out__0, if x7 < out__1 then x7 else out__1, ()), IntKind.wrap .i64 (i + 1), ()))
  none)
  (G2 (steps, (b__0, b__1, ()), (t6_0, t6_1, ()), (out__0, out__1, ()), IntKind.wrap .i64 (i + 1), ())))
  none)
  (some (((out__0, out__1, ()), ()), ((), (), (), ())))
noncomputable def spec_IvWiden.l0 (k : Nat)  (G0 : ((List Int) × (Int × Int × Unit) × (Int × Int × Unit) × (Int × Int × Unit) × (Int × Int × Unit) × Int × Unit) → Option (((Int × Int × Unit) × Unit) × (Unit × Unit × Unit × Unit))) : ((List Int) × (Int × Int × Unit) × (Int × Int × Unit) × (Int × Int × Unit) × (Int × Int × Unit) × Int × Unit) → Option (((Int × Int × Unit) × Unit) × (Unit × Unit × Unit × Unit)) := fun x => match x with
 | (steps, (a_0, a_1, ()), (b__0, b__1, ()), (t6_0, t6_1, ()), (out__0, out__1, ()), i, ()) =>
  br k (decide (i < (steps.length : Int)))
  (br k (decide (0 ≤ i))
  (bd k (steps[i.toNat]?) fun x4 =>
  br k (decide (x4 ≤ b__0))
  (br k (decide (0 ≤ i))
  (bd k (steps[i.toNat]?) fun x5 =>
  G0 (steps, (a_0, a_1, ()), (b__0, b__1, ()), (t6_0, t6_1, ()), (if x5 > out__0 then x5 else out__0, out__1, ()), IntKind.wrap .i64 (i + 1), ()))
  none)
  (G0 (steps, (a_0, a_1, ()), (b__0, b__1, ()), (t6_0, t6_1, ()), (out__0, out__1, ()), IntKind.wrap .i64 (i + 1), ())))
  none)
  (br k (decide (b__1 > a_1))
  (iter (spec_IvWiden.l2 k) k (steps, (b__0, b__1, ()), (t6_0, t6_1, ()), (out__0, 9223372036854775807, ()), 0, ()))
  (some (((out__0, out__1, ()), ()), ((), (), (), ()))))
noncomputable def spec_IvWiden (k : Nat) : ((Int × Int × Unit) × (Int × Int × Unit) × (List Int) × Unit) → Option (((Int × Int × Unit) × Unit) × (Unit × Unit × Unit × Unit)) := fun x => match x with
 | (a, b_, steps, ()) =>
  (bd k (spec_IvOk k (a, ())) fun y1 =>
  br k (!y1.1.1)
  (some (true, ()))
  (bd k (spec_IvOk k (b_, ())) fun y2 =>
  br k (!y2.1.1)
  (some (true, ()))
  (some (decide ((steps.length : Int) > 100), ()))) : Option (Bool × Unit)).bind fun j3 =>
  br k (j3.1)
  (some (((0, 0, ()), ()), ((), (), (), ())))
  (br k (decide (b_.1 < a.1))
  (iter (spec_IvWiden.l0 k) k (steps, (a.1, a.2.1, ()), (b_.1, b_.2.1, ()), (0, 0, ()), ((-9223372036854775808), a.2.1, ()), 0, ()))
  (br k (decide (b_.2.1 > a.2.1))
  (iter (spec_IvWiden.l2 k) k (steps, (b_.1, b_.2.1, ()), (0, 0, ()), (a.1, 9223372036854775807, ()), 0, ()))
  (some ((a, ()), ((), (), (), ())))))
noncomputable def spec_IvWiden.sg (k : Nat) : Sig := ⟨spec_IvWiden.A, spec_IvWiden.R, spec_IvWiden k⟩
noncomputable def spec_IvWiden.C (k : Nat) : Ctx := ⟨Tryz.prog, [(47, [spec_IvOk.sg k])], k, []⟩
theorem spec_IvWiden.ev (k : Nat) (x : spec_IvWiden.A.T) : evFunc (spec_IvWiden.C k) spec_IvWiden.ann Tryz.f195 spec_IvWiden.A spec_IvWiden.R x = spec_IvWiden k x := by kernel_rfl
theorem spec_IvWiden.ok {L : List (Nat × Obj)}  (k : Nat) : SigHolds Tryz.prog L 195 (spec_IvWiden.sg k) :=
  sig_of_ev (C := spec_IvWiden.C k) (holds_cons (allok_cons (spec_IvOk.ok k) allok_nil) holds_nil) (by kernel_rfl) Tryz.func195 (by kernel_rfl) spec_IvWiden.ann spec_IvWiden.A spec_IvWiden.R (fun x y h => (spec_IvWiden.ev k x).trans h) (by kernel_rfl)

/-! loop.example/g00719/spec.l6Widen -/
def spec_l6Widen.A : Sh := (.cons (.pur (.cons .bool (.cons (.sl false (.cons (.int .i64) (.cons (.int .i64) .nil))) (.cons (.sl false (.cons (.int .i64) (.cons (.int .i64) .nil))) .nil)))) (.cons (.pur (.cons .bool (.cons (.sl false (.cons (.int .i64) (.cons (.int .i64) .nil))) (.cons (.sl false (.cons (.int .i64) (.cons (.int .i64) .nil))) .nil)))) (.cons (.pur (.sl false (.int .i64))) .nil)))
def spec_l6Widen.R : Sh := (.cons (.agg (.cons (.pur .bool) (.cons (.own (.cons (.int .i64) (.cons (.int .i64) .nil))) (.cons (.own (.cons (.int .i64) (.cons (.int .i64) .nil))) .nil)))) .nil)
def spec_l6Widen.ann : Ann := { loops := [(0, [(2, (.pur (.sl false (.int .i64)))), (3, (.box (.cons (.pur .bool) (.cons (.pur (.sl false (.cons (.int .i64) (.cons (.int .i64) .nil)))) (.cons (.pur (.sl false (.cons (.int .i64) (.cons (.int .i64) .nil)))) .nil))))), (6, (.box (.cons (.pur .bool) (.cons (.own (.cons (.int .i64) (.cons (.int .i64) .nil))) (.cons (.own (.cons (.int .i64) (.cons (.int .i64) .nil))) .nil))))), (7, (.own (.cons (.int .i64) (.cons (.int .i64) .nil)))), (8, (.own (.cons (.int .i64) (.cons (.int .i64) .nil)))), (9, (.own (.cons (.int .i64) (.cons (.int .i64) .nil)))), (10, (.pur (.int .i64)))])], joins := [(1, [(18, .bool)])], keys := [(9, [([], false), ([], false), ([], false), ([7], false), ([7], false), ([], false), ([], false), ([8], false), ([8], false), ([], false), ([], false), ([44], true), ([9, 44, 45], true), ([], false)])] }
noncomputable def spec_l6Widen.l0 (k : Nat)  (G0 : ((List Int) × (Bool × (List (Int × Int × Unit)) × (List (Int × Int × Unit)) × Unit) × (Bool × (List (Int × Int × Unit)) × (List (Int × Int × Unit)) × Unit) × (List (Int × Int × Unit)) × (List (Int × Int × Unit)) × (List (Int × Int × Unit)) × Int × Unit) → Option (((Bool × (List (Int × Int × Unit)) × (List (Int × Int × Unit)) × Unit) × Unit) × (Unit × Unit × Unit × Unit))) : ((List Int) × (Bool × (List (Int × Int × Unit)) × (List (Int × Int × Unit)) × Unit) × (Bool × (List (Int × Int × Unit)) × (List (Int × Int × Unit)) × Unit) × (List (Int × Int × Unit)) × (List (Int × Int × Unit)) × (List (Int × Int × Unit)) × Int × Unit) → Option (((Bool × (List (Int × Int × Unit)) × (List (Int × Int × Unit)) × Unit) × Unit) × (Unit × Unit × Unit × Unit)) := fun x => match x with
 | (steps, (a_0, a_1, a_2, ()), (t6_0, t6_1, t6_2, ()), x_, y_, out_, i, ()) =>
  br k (decide (i < (x_.length : Int)))
  (br k (decide (0 ≤ i ∧ i < (x_.length : Int)))
  (bd k (x_[i.toNat]?) fun x5 =>
  br k (decide (0 ≤ i ∧ i < (y_.length : Int)))
  (bd k (y_[i.toNat]?) fun x6 =>
  bd k (spec_IvWiden k (x5, x6, steps, ())) fun y7 =>
  br k (decide ((out_.length + ([y7.1.1] : List (Int × Int × Unit)).length) * 16 ≤ maxBytes))
  (G0 (steps, (a_0, a_1, a_2, ()), (t6_0, t6_1, t6_2, ()), x_, y_, out_ ++ ([y7.1.1] : List (Int × Int × Unit)), IntKind.wrap .i64 (i + 1), ()))
  none)
  none)
  none)
  (bd k (spec_l6Of k (out_, (a_1.length : Int), ())) fun y8 =>
  some (((y8.1.1.1, y8.1.1.2.1, y8.1.1.2.2.1, ()), ()), ((), (), (), ())))
noncomputable def spec_l6Widen (k : Nat) : ((Bool × (List (Int × Int × Unit)) × (List (Int × Int × Unit)) × Unit) × (Bool × (List (Int × Int × Unit)) × (List (Int × Int × Unit)) × Unit) × (List Int) × Unit) → Option (((Bool × (List (Int × Int × Unit)) × (List (Int × Int × Unit)) × Unit) × Unit) × (Unit × Unit × Unit × Unit)) := fun x => match x with
 | (a, b_, steps, ()) =>
  (br k (!a.1)
  (some (true, ()))
  (some (!b_.1, ())) : Option (Bool × Unit)).bind fun j1 =>
  br k (j1.1)
  (bd k (spec_l6Join k (a, b_, ())) fun y2 =>
  some (((y2.1.1.1, y2.1.1.2.1, y2.1.1.2.2.1, ()), ()), ((), (), (), ())))
  (bd k (spec_l6List k (a, ())) fun y3 =>
  bd k (spec_l6List k (b_, ())) fun y4 =>
  iter (spec_l6Widen.l0 k) k (steps, (a.1, a.2.1, a.2.2.1, ()), (false, [], [], ()), y3.1.1, y4.1.1, ([] : List (Int × Int × Unit)), 0, ()))
noncomputable def spec_l6Widen.sg (k : Nat) : Sig := ⟨spec_l6Widen.A, spec_l6Widen.R, spec_l6Widen k⟩
noncomputable def spec_l6Widen.C (k : Nat) : Ctx := ⟨Tryz.prog, [(32, [spec_l6Join.sg k]), (46, [spec_l6List.sg k]), (195, [spec_IvWiden.sg k]), (74, [spec_l6Of.sg k])], k, []⟩
theorem spec_l6Widen.ev (k : Nat) (x : spec_l6Widen.A.T) : evFunc (spec_l6Widen.C k) spec_l6Widen.ann Tryz.f185 spec_l6Widen.A spec_l6Widen.R x = spec_l6Widen k x := by kernel_rfl
theorem spec_l6Widen.ok {L : List (Nat × Obj)}  (k : Nat) : SigHolds Tryz.prog L 185 (spec_l6Widen.sg k) :=
  sig_of_ev (C := spec_l6Widen.C k) (holds_cons (allok_cons (spec_l6Join.ok k) allok_nil) (holds_cons (allok_cons (spec_l6List.ok k) allok_nil) (holds_cons (allok_cons (spec_IvWiden.ok k) allok_nil) (holds_cons (allok_cons (spec_l6Of.ok k) allok_nil) holds_nil)))) (by kernel_rfl) Tryz.func185 (by kernel_rfl) spec_l6Widen.ann spec_l6Widen.A spec_l6Widen.R (fun x y h => (spec_l6Widen.ev k x).trans h) (by kernel_rfl)

/-! loop.example/g00719/spec.l8Widen -/
def spec_l8Widen.A : Sh := (.cons (.pur (.sl false (.cons .bool (.cons (.sl false (.cons (.int .i64) (.cons (.int .i64) .nil))) (.cons (.sl false (.cons (.int .i64) (.cons (.int .i64) .nil))) .nil))))) (.cons (.pur (.sl false (.cons .bool (.cons (.sl false (.cons (.int .i64) (.cons (.int .i64) .nil))) (.cons (.sl false (.cons (.int .i64) (.cons (.int .i64) .nil))) .nil))))) (.cons (.pur (.sl false (.int .i64))) .nil)))
def spec_l8Widen.R : Sh := (.cons (.own (.cons .bool (.cons (.sl false (.cons (.int .i64) (.cons (.int .i64) .nil))) (.cons (.sl false (.cons (.int .i64) (.cons (.int .i64) .nil))) .nil)))) .nil)
def spec_l8Widen.ann : Ann := { loops := [(0, [(0, (.pur (.sl false (.cons .bool (.cons (.sl false (.cons (.int .i64) (.cons (.int .i64) .nil))) (.cons (.sl false (.cons (.int .i64) (.cons (.int .i64) .nil))) .nil)))))), (1, (.pur (.sl false (.cons .bool (.cons (.sl false (.cons (.int .i64) (.cons (.int .i64) .nil))) (.cons (.sl false (.cons (.int .i64) (.cons (.int .i64) .nil))) .nil)))))), (2, (.pur (.sl false (.int .i64)))), (7, (.own (.cons .bool (.cons (.sl false (.cons (.int .i64) (.cons (.int .i64) .nil))) (.cons (.sl false (.cons (.int .i64) (.cons (.int .i64) .nil))) .nil))))), (8, (.pur (.int .i64)))])], joins := [], keys := [(5, [([], false), ([], false), ([], false), ([], false), ([], false), ([], false), ([], false), ([], false), ([], false), ([], false), ([26], true), ([26, 27], true), ([7, 27, 28], true), ([], false)])] }
noncomputable def spec_l8Widen.l0 (k : Nat)  (G0 : ((List (Bool × (List (Int × Int × Unit)) × (List (Int × Int × Unit)) × Unit)) × (List (Bool × (List (Int × Int × Unit)) × (List (Int × Int × Unit)) × Unit)) × (List Int) × (List (Bool × (List (Int × Int × Unit)) × (List (Int × Int × Unit)) × Unit)) × Int × Unit) → Option (((List (Bool × (List (Int × Int × Unit)) × (List (Int × Int × Unit)) × Unit)) × Unit) × (Unit × Unit × Unit × Unit))) : ((List (Bool × (List (Int × Int × Unit)) × (List (Int × Int × Unit)) × Unit)) × (List (Bool × (List (Int × Int × Unit)) × (List (Int × Int × Unit)) × Unit)) × (List Int) × (List (Bool × (List (Int × Int × Unit)) × (List (Int × Int × Unit)) × Unit)) × Int × Unit) → Option (((List (Bool × (List (Int × Int × Unit)) × (List (Int × Int × Unit)) × Unit)) × Unit) × (Unit × Unit × Unit × Unit)) := fun x => match x with
 | (a, b_, steps, out_, i, ()) =>
  br k (decide (i < (a.length : Int)))
  (br k (decide (0 ≤ i))
  (bd k (a[i.toNat]?) fun x1 =>
  br k (decide (0 ≤ i))
  (bd k (b_[i.toNat]?) fun x2 =>
  bd k (spec_l6Widen k (x1, x2, steps, ())) fun y3 =>
  br k (decide ((out_.length + ([(y3.1.1.1, y3.1.1.2.1, y3.1.1.2.2.1, ())] : List (Bool × (List (Int × Int × Unit)) × (List (Int × Int × Unit)) × Unit)).length) * 56 ≤ maxBytes))
  (G0 (a, b_, steps, out_ ++ ([(y3.1.1.1, y3.1.1.2.1, y3.1.1.2.2.1, ())] : List (Bool × (List (Int × Int × Unit)) × (List (Int × Int × Unit)) × Unit)), IntKind.wrap .i64 (i + 1), ()))
  none)
  none)
  none)
  (some ((out_, ()), ((), (), (), ())))
noncomputable def spec_l8Widen (k : Nat) : ((List (Bool × (List (Int × Int × Unit)) × (List (Int × Int × Unit)) × Unit)) × (List (Bool × (List (Int × Int × Unit)) × (List (Int × Int × Unit)) × Unit)) × (List Int) × Unit) → Option (((List (Bool × (List (Int × Int × Unit)) × (List (Int × Int × Unit)) × Unit)) × Unit) × (Unit × Unit × Unit × Unit)) := fun x => match x with
 | (a, b_, steps, ()) =>
  iter (spec_l8Widen.l0 k) k (a, b_, steps, ([] : List (Bool × (List (Int × Int × Unit)) × (List (Int × Int × Unit)) × Unit)), 0, ())
noncomputable def spec_l8Widen.sg (k : Nat) : Sig := ⟨spec_l8Widen.A, spec_l8Widen.R, spec_l8Widen k⟩
noncomputable def spec_l8Widen.C (k : Nat) : Ctx := ⟨Tryz.prog, [(185, [spec_l6Widen.sg k])], k, []⟩
theorem spec_l8Widen.ev (k : Nat) (x : spec_l8Widen.A.T) : evFunc (spec_l8Widen.C k) spec_l8Widen.ann Tryz.f164 spec_l8Widen.A spec_l8Widen.R x = spec_l8Widen k x := by kernel_rfl
theorem spec_l8Widen.ok {L : List (Nat × Obj)}  (k : Nat) : SigHolds Tryz.prog L 164 (spec_l8Widen.sg k) :=
  sig_of_ev (C := spec_l8Widen.C k) (holds_cons (allok_cons (spec_l6Widen.ok k) allok_nil) holds_nil) (by kernel_rfl) Tryz.func164 (by kernel_rfl) spec_l8Widen.ann spec_l8Widen.A spec_l8Widen.R (fun x y h => (spec_l8Widen.ev k x).trans h) (by kernel_rfl)

end Go.Pev.F
