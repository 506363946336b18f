/-
  Printed by gen.py: what functions of the program compute, and that they do.
-/
import Derived.Test.YthjihnplkkhpmaaGreatDoorK09
set_option linter.unusedSimpArgs false
set_option linter.unusedVariables false
open Go.Proofs Go.Pev
namespace Go.Pev.F
set_option maxRecDepth 100000
set_option linter.unusedVariables false

/-! loop.example/g00719/spec.TreeOf -/
def spec_TreeOf.A : Sh := (.cons (.pur (.cons (.sl false .str) (.cons (.sl false .str) (.cons (.sl false (.cons .str (.cons (.int .i64) .nil))) .nil)))) (.cons (.pur (.sl false (.cons .bool (.cons (.sl false (.cons (.int .i64) (.cons (.int .i64) .nil))) (.cons (.sl false (.cons (.int .i64) (.cons (.int .i64) .nil))) .nil))))) .nil))
def spec_TreeOf.R : Sh := (.cons (.agg (.cons (.own (.cons (.int .i64) (.cons (.int .i64) (.cons (.int .i64) (.cons .bool (.cons (.sl false (.cons (.int .i64) (.cons (.int .i64) .nil))) (.cons (.sl false (.cons (.int .i64) (.cons (.int .i64) .nil))) .nil))))))) .nil)) .nil)
def spec_TreeOf.ann : Ann := { loops := [], joins := [], keys := [] }
noncomputable def spec_TreeOf (k : Nat) : (((List (List UInt8)) × (List (List UInt8)) × (List ((List UInt8) × Int × Unit)) × Unit) × (List (Bool × (List (Int × Int × Unit)) × (List (Int × Int × Unit)) × Unit)) × Unit) → Option ((((List (Int × Int × Int × Bool × (List (Int × Int × Unit)) × (List (Int × Int × Unit)) × Unit)) × Unit) × Unit) × (Unit × Unit × Unit)) := fun x => match x with
 | (d_, t, ()) =>
  bd k (spec_TableOk k (d_, t, ())) fun y1 =>
  br k (!y1.1.1)
  (some ((([], ()), ()), ((), (), ())))
  (bd k (spec_l8Build k (t, [], 0, 0, ())) fun y2 =>
  some (((y2.1.1, ()), ()), ((), (), ())))
noncomputable def spec_TreeOf.sg (k : Nat) : Sig := ⟨spec_TreeOf.A, spec_TreeOf.R, spec_TreeOf k⟩
noncomputable def spec_TreeOf.C (k : Nat) : Ctx := ⟨Tryz.prog, [(22, [spec_TableOk.sg k]), (59, [spec_l8Build.sg k])], k, []⟩
theorem spec_TreeOf.ev (k : Nat) (x : spec_TreeOf.A.T) : evFunc (spec_TreeOf.C k) spec_TreeOf.ann Tryz.f21 spec_TreeOf.A spec_TreeOf.R x = spec_TreeOf k x := by kernel_rfl
theorem spec_TreeOf.ok {L : List (Nat × Obj)}  (k : Nat) : SigHolds Tryz.prog L 21 (spec_TreeOf.sg k) :=
  sig_of_ev (C := spec_TreeOf.C k) (holds_cons (allok_cons (spec_TableOk.ok k) allok_nil) (holds_cons (allok_cons (spec_l8Build.ok k) allok_nil) holds_nil)) (by kernel_rfl) Tryz.func21 (by kernel_rfl) spec_TreeOf.ann spec_TreeOf.A spec_TreeOf.R (fun x y h => (spec_TreeOf.ev k x).trans h) (by kernel_rfl)

/-! loop.example/g00719/spec.l8Ask -/
def spec_l8Ask.A : Sh := (.cons (.pur (.cons (.sl false (.cons (.int .i64) (.cons (.int .i64) (.cons (.int .i64) (.cons .bool (.cons (.sl false (.cons (.int .i64) (.cons (.int .i64) .nil))) (.cons (.sl false (.cons (.int .i64) (.cons (.int .i64) .nil))) .nil))))))) .nil)) (.cons (.pur (.int .i64)) .nil))
def spec_l8Ask.R : Sh := (.cons (.pur (.cons .bool (.cons (.sl false (.cons (.int .i64) (.cons (.int .i64) .nil))) (.cons (.sl false (.cons (.int .i64) (.cons (.int .i64) .nil))) .nil)))) (.cons (.pur .bool) .nil))
def spec_l8Ask.ann : Ann := { loops := [(0, [(1, (.pur (.int .i64))), (2, (.box (.cons (.pur (.sl false (.cons (.int .i64) (.cons (.int .i64) (.cons (.int .i64) (.cons .bool (.cons (.sl false (.cons (.int .i64) (.cons (.int .i64) .nil))) (.cons (.sl false (.cons (.int .i64) (.cons (.int .i64) .nil))) .nil)))))))) .nil))), (4, (.box (.cons (.pur .bool) (.cons (.own (.cons (.int .i64) (.cons (.int .i64) .nil))) (.cons (.own (.cons (.int .i64) (.cons (.int .i64) .nil))) .nil))))), (6, (.pur (.int .i64))), (7, (.pur (.int .i64)))])], joins := [(3, [(22, .bool)])], keys := [] }
noncomputable def spec_l8Ask.l0 (k : Nat)  (G0 : (Int × ((List (Int × Int × Int × Bool × (List (Int × Int × Unit)) × (List (Int × Int × Unit)) × Unit)) × Unit) × (Bool × (List (Int × Int × Unit)) × (List (Int × Int × Unit)) × Unit) × Int × Int × Unit) → Option (((Bool × (List (Int × Int × Unit)) × (List (Int × Int × Unit)) × Unit) × Bool × Unit) × (Unit × Unit × Unit))) : (Int × ((List (Int × Int × Int × Bool × (List (Int × Int × Unit)) × (List (Int × Int × Unit)) × Unit)) × Unit) × (Bool × (List (Int × Int × Unit)) × (List (Int × Int × Unit)) × Unit) × Int × Int × Unit) → Option (((Bool × (List (Int × Int × Unit)) × (List (Int × Int × Unit)) × Unit) × Bool × Unit) × (Unit × Unit × Unit)) := fun x => match x with
 | (leaf, (t_0, ()), (t4_0, t4_1, t4_2, ()), at_, i, ()) =>
  (br k (decide (i < 5))
  (bd k (spec_l1In k (at_, 0, IntKind.wrap .i64 ((t_0.length : Int) - 1), ())) fun y1 =>
  some (y1.1.1, ()))
  (some (false, ())) : Option (Bool × Unit)).bind fun j2 =>
  br k (j2.1)
  (br k (decide (0 ≤ at_))
  (bd k (t_0[at_.toNat]?) fun x3 =>
  br k (x3.1 == (-1))
  (some (((x3.2.2.2.1, x3.2.2.2.2.1, x3.2.2.2.2.2.1, ()), true, ()), ((), (), ())))
  (bd k (spec_l1In k (x3.1, 0, 2, ())) fun y4 =>
  br k (!y4.1.1)
  (some (((false, [], [], ()), false, ()), ((), (), ())))
  (br k (decide (0 ≤ (IntKind.wrap .u64 x3.1)))
  (br k ((IntKind.wrap .i64 (((BitVec.ofInt 64 (leaf.fdiv (2 ^ (min (IntKind.wrap .u64 x3.1).toNat 64))) &&& BitVec.ofInt 64 1).toNat : Int))) == 1)
  (G0 (leaf, (t_0, ()), (t4_0, t4_1, t4_2, ()), x3.2.2.1, IntKind.wrap .i64 (i + 1), ()))
  (G0 (leaf, (t_0, ()), (t4_0, t4_1, t4_2, ()), x3.2.1, IntKind.wrap .i64 (i + 1), ())))
  none)))
  none)
  (some (((false, [], [], ()), false, ()), ((), (), ())))
noncomputable def spec_l8Ask (k : Nat) : (((List (Int × Int × Int × Bool × (List (Int × Int × Unit)) × (List (Int × Int × Unit)) × Unit)) × Unit) × Int × Unit) → Option (((Bool × (List (Int × Int × Unit)) × (List (Int × Int × Unit)) × Unit) × Bool × Unit) × (Unit × Unit × Unit)) := fun x => match x with
 | (t, leaf, ()) =>
  iter (spec_l8Ask.l0 k) k (leaf, (t.1, ()), (false, [], [], ()), IntKind.wrap .i64 ((t.1.length : Int) - 1), 0, ())
noncomputable def spec_l8Ask.sg (k : Nat) : Sig := ⟨spec_l8Ask.A, spec_l8Ask.R, spec_l8Ask k⟩
noncomputable def spec_l8Ask.C (k : Nat) : Ctx := ⟨Tryz.prog, [(88, [spec_l1In.sg k])], k, []⟩
theorem spec_l8Ask.ev (k : Nat) (x : spec_l8Ask.A.T) : evFunc (spec_l8Ask.C k) spec_l8Ask.ann Tryz.f132 spec_l8Ask.A spec_l8Ask.R x = spec_l8Ask k x := by kernel_rfl
theorem spec_l8Ask.ok {L : List (Nat × Obj)}  (k : Nat) : SigHolds Tryz.prog L 132 (spec_l8Ask.sg k) :=
  sig_of_ev (C := spec_l8Ask.C k) (holds_cons (allok_cons (spec_l1In.ok k) allok_nil) holds_nil) (by kernel_rfl) Tryz.func132 (by kernel_rfl) spec_l8Ask.ann spec_l8Ask.A spec_l8Ask.R (fun x y h => (spec_l8Ask.ev k x).trans h) (by kernel_rfl)

/-! loop.example/g00719/spec.TableOf -/
def spec_TableOf.A : Sh := (.cons (.pur (.cons (.sl false .str) (.cons (.sl false .str) (.cons (.sl false (.cons .str (.cons (.int .i64) .nil))) .nil)))) (.cons (.pur (.cons (.sl false (.cons (.int .i64) (.cons (.int .i64) (.cons (.int .i64) (.cons .bool (.cons (.sl false (.cons (.int .i64) (.cons (.int .i64) .nil))) (.cons (.sl false (.cons (.int .i64) (.cons (.int .i64) .nil))) .nil))))))) .nil)) .nil))
def spec_TableOf.R : Sh := (.cons (.pur (.sl false (.cons .bool (.cons (.sl false (.cons (.int .i64) (.cons (.int .i64) .nil))) (.cons (.sl false (.cons (.int .i64) (.cons (.int .i64) .nil))) .nil))))) (.cons (.pur .bool) .nil))
def spec_TableOf.ann : Ann := { loops := [(0, [(2, (.box (.cons (.pur (.sl false .str)) (.cons (.pur (.sl false .str)) (.cons (.pur (.sl false (.cons .str (.cons (.int .i64) .nil)))) .nil))))), (3, (.box (.cons (.pur (.sl false (.cons (.int .i64) (.cons (.int .i64) (.cons (.int .i64) (.cons .bool (.cons (.sl false (.cons (.int .i64) (.cons (.int .i64) .nil))) (.cons (.sl false (.cons (.int .i64) (.cons (.int .i64) .nil))) .nil)))))))) .nil))), (6, (.own (.cons .bool (.cons (.sl false (.cons (.int .i64) (.cons (.int .i64) .nil))) (.cons (.sl false (.cons (.int .i64) (.cons (.int .i64) .nil))) .nil))))), (7, (.pur (.int .i64)))]), (2, [(3, (.box (.cons (.pur (.sl false (.cons (.int .i64) (.cons (.int .i64) (.cons (.int .i64) (.cons .bool (.cons (.sl false (.cons (.int .i64) (.cons (.int .i64) .nil))) (.cons (.sl false (.cons (.int .i64) (.cons (.int .i64) .nil))) .nil)))))))) .nil))), (6, (.pur (.sl false (.cons .bool (.cons (.sl false (.cons (.int .i64) (.cons (.int .i64) .nil))) (.cons (.sl false (.cons (.int .i64) (.cons (.int .i64) .nil))) .nil)))))), (10, (.box (.cons (.own (.cons (.int .i64) (.cons (.int .i64) (.cons (.int .i64) (.cons .bool (.cons (.sl false (.cons (.int .i64) (.cons (.int .i64) .nil))) (.cons (.sl false (.cons (.int .i64) (.cons (.int .i64) .nil))) .nil))))))) .nil))), (11, (.pur (.int .i64)))])], joins := [(1, [(20, .bool)]), (12, [(56, .bool)])], keys := [] }
noncomputable def spec_TableOf.l2 (k : Nat)  (G2 : (((List (Int × Int × Int × Bool × (List (Int × Int × Unit)) × (List (Int × Int × Unit)) × Unit)) × Unit) × (List (Bool × (List (Int × Int × Unit)) × (List (Int × Int × Unit)) × Unit)) × ((List (Int × Int × Int × Bool × (List (Int × Int × Unit)) × (List (Int × Int × Unit)) × Unit)) × Unit) × Int × Unit) → Option (((List (Bool × (List (Int × Int × Unit)) × (List (Int × Int × Unit)) × Unit)) × Bool × Unit) × (Unit × Unit × Unit))) : (((List (Int × Int × Int × Bool × (List (Int × Int × Unit)) × (List (Int × Int × Unit)) × Unit)) × Unit) × (List (Bool × (List (Int × Int × Unit)) × (List (Int × Int × Unit)) × Unit)) × ((List (Int × Int × Int × Bool × (List (Int × Int × Unit)) × (List (Int × Int × Unit)) × Unit)) × Unit) × Int × Unit) → Option (((List (Bool × (List (Int × Int × Unit)) × (List (Int × Int × Unit)) × Unit)) × Bool × Unit) × (Unit × Unit × Unit)) := fun x => match x with
 | ((t_0, ()), out_, (again_0, ()), i, ()) =>
  br k (decide (i < (t_0.length : Int)))
  (br k (decide (0 ≤ i ∧ i < (again_0.length : Int)))
  (bd k (again_0[i.toNat]?) fun x8 =>
  br k (decide (0 ≤ i))
  (bd k (t_0[i.toNat]?) fun x9 =>
  bd k (spec_l8Node k (x8, x9, ())) fun y10 =>
  br k (!y10.1.1)
  (some (([], false, ()), ((), (), ())))
  (G2 ((t_0, ()), out_, (again_0, ()), IntKind.wrap .i64 (i + 1), ())))
  none)
  none)
  (some ((out_, true, ()), ((), (), ())))
noncomputable def spec_TableOf.l0 (k : Nat)  (G0 : (((List (List UInt8)) × (List (List UInt8)) × (List ((List UInt8) × Int × Unit)) × Unit) × ((List (Int × Int × Int × Bool × (List (Int × Int × Unit)) × (List (Int × Int × Unit)) × Unit)) × Unit) × (List (Bool × (List (Int × Int × Unit)) × (List (Int × Int × Unit)) × Unit)) × Int × Unit) → Option (((List (Bool × (List (Int × Int × Unit)) × (List (Int × Int × Unit)) × Unit)) × Bool × Unit) × (Unit × Unit × Unit))) : (((List (List UInt8)) × (List (List UInt8)) × (List ((List UInt8) × Int × Unit)) × Unit) × ((List (Int × Int × Int × Bool × (List (Int × Int × Unit)) × (List (Int × Int × Unit)) × Unit)) × Unit) × (List (Bool × (List (Int × Int × Unit)) × (List (Int × Int × Unit)) × Unit)) × Int × Unit) → Option (((List (Bool × (List (Int × Int × Unit)) × (List (Int × Int × Unit)) × Unit)) × Bool × Unit) × (Unit × Unit × Unit)) := fun x => match x with
 | ((d__0, d__1, d__2, ()), (t_0, ()), out_, leaf, ()) =>
  bd k (spec_l8Size k ((d__0, d__1, d__2, ()), ())) fun y3 =>
  br k (decide (leaf < y3.1.1))
  (bd k (spec_l8Ask k ((t_0, ()), leaf, ())) fun y4 =>
  br k (!y4.1.2.1)
  (some (([], false, ()), ((), (), ())))
  (bd k (spec_l6Copy k (y4.1.1, ())) fun y5 =>
  br k (decide ((out_.length + ([y5.1.1] : List (Bool × (List (Int × Int × Unit)) × (List (Int × Int × Unit)) × Unit)).length) * 56 ≤ maxBytes))
  (G0 ((d__0, d__1, d__2, ()), (t_0, ()), out_ ++ ([y5.1.1] : List (Bool × (List (Int × Int × Unit)) × (List (Int × Int × Unit)) × Unit)), IntKind.wrap .i64 (leaf + 1), ()))
  none))
  (bd k (spec_TreeOf k ((d__0, d__1, d__2, ()), out_, ())) fun y6 =>
  (br k ((y6.1.1.1.length : Int) != (t_0.length : Int))
  (some (true, ()))
  (some ((t_0.length : Int) == 0, ())) : Option (Bool × Unit)).bind fun j7 =>
  br k (j7.1)
  (some (([], false, ()), ((), (), ())))
  (iter (spec_TableOf.l2 k) k ((t_0, ()), out_, (y6.1.1.1, ()), 0, ())))
noncomputable def spec_TableOf (k : Nat) : (((List (List UInt8)) × (List (List UInt8)) × (List ((List UInt8) × Int × Unit)) × Unit) × ((List (Int × Int × Int × Bool × (List (Int × Int × Unit)) × (List (Int × Int × Unit)) × Unit)) × Unit) × Unit) → Option (((List (Bool × (List (Int × Int × Unit)) × (List (Int × Int × Unit)) × Unit)) × Bool × Unit) × (Unit × Unit × Unit)) := fun x => match x with
 | (d_, t, ()) =>
  (bd k (spec_DeclOk k (d_, ())) fun y1 =>
  br k (!y1.1.1)
  (some (true, ()))
  (some (decide ((t.1.length : Int) > 15), ())) : Option (Bool × Unit)).bind fun j2 =>
  br k (j2.1)
  (some (([], false, ()), ((), (), ())))
  (iter (spec_TableOf.l0 k) k ((d_.1, d_.2.1, d_.2.2.1, ()), (t.1, ()), ([] : List (Bool × (List (Int × Int × Unit)) × (List (Int × Int × Unit)) × Unit)), 0, ()))
noncomputable def spec_TableOf.sg (k : Nat) : Sig := ⟨spec_TableOf.A, spec_TableOf.R, spec_TableOf k⟩
noncomputable def spec_TableOf.C (k : Nat) : Ctx := ⟨Tryz.prog, [(45, [spec_DeclOk.sg k]), (60, [spec_l8Size.sg k]), (132, [spec_l8Ask.sg k]), (72, [spec_l6Copy.sg k]), (21, [spec_TreeOf.sg k]), (133, [spec_l8Node.sg k])], k, []⟩
theorem spec_TableOf.ev (k : Nat) (x : spec_TableOf.A.T) : evFunc (spec_TableOf.C k) spec_TableOf.ann Tryz.f101 spec_TableOf.A spec_TableOf.R x = spec_TableOf k x := by kernel_rfl
theorem spec_TableOf.ok {L : List (Nat × Obj)}  (k : Nat) : SigHolds Tryz.prog L 101 (spec_TableOf.sg k) :=
  sig_of_ev (C := spec_TableOf.C k) (holds_cons (allok_cons (spec_DeclOk.ok k) allok_nil) (holds_cons (allok_cons (spec_l8Size.ok k) allok_nil) (holds_cons (allok_cons (spec_l8Ask.ok k) allok_nil) (holds_cons (allok_cons (spec_l6Copy.ok k) allok_nil) (holds_cons (allok_cons (spec_TreeOf.ok k) allok_nil) (holds_cons (allok_cons (spec_l8Node.ok k) allok_nil) holds_nil)))))) (by kernel_rfl) Tryz.func101 (by kernel_rfl) spec_TableOf.ann spec_TableOf.A spec_TableOf.R (fun x y h => (spec_TableOf.ev k x).trans h) (by kernel_rfl)

/-! loop.example/g00719/spec.TreeOk -/
def spec_TreeOk.A : Sh := (.cons (.pur (.cons (.sl false .str) (.cons (.sl false .str) (.cons (.sl false (.cons .str (.cons (.int .i64) .nil))) .nil)))) (.cons (.pur (.cons (.sl false (.cons (.int .i64) (.cons (.int .i64) (.cons (.int .i64) (.cons .bool (.cons (.sl false (.cons (.int .i64) (.cons (.int .i64) .nil))) (.cons (.sl false (.cons (.int .i64) (.cons (.int .i64) .nil))) .nil))))))) .nil)) .nil))
def spec_TreeOk.R : Sh := (.cons (.pur .bool) .nil)
def spec_TreeOk.ann : Ann := { loops := [], joins := [], keys := [] }
noncomputable def spec_TreeOk (k : Nat) : (((List (List UInt8)) × (List (List UInt8)) × (List ((List UInt8) × Int × Unit)) × Unit) × ((List (Int × Int × Int × Bool × (List (Int × Int × Unit)) × (List (Int × Int × Unit)) × Unit)) × Unit) × Unit) → Option ((Bool × Unit) × (Unit × Unit × Unit)) := fun x => match x with
 | (d_, t, ()) =>
  bd k (spec_TableOf k (d_, t, ())) fun y1 =>
  some ((y1.1.2.1, ()), ((), (), ()))
noncomputable def spec_TreeOk.sg (k : Nat) : Sig := ⟨spec_TreeOk.A, spec_TreeOk.R, spec_TreeOk k⟩
noncomputable def spec_TreeOk.C (k : Nat) : Ctx := ⟨Tryz.prog, [(101, [spec_TableOf.sg k])], k, []⟩
theorem spec_TreeOk.ev (k : Nat) (x : spec_TreeOk.A.T) : evFunc (spec_TreeOk.C k) spec_TreeOk.ann Tryz.f57 spec_TreeOk.A spec_TreeOk.R x = spec_TreeOk k x := by kernel_rfl
theorem spec_TreeOk.ok {L : List (Nat × Obj)}  (k : Nat) : SigHolds Tryz.prog L 57 (spec_TreeOk.sg k) :=
  sig_of_ev (C := spec_TreeOk.C k) (holds_cons (allok_cons (spec_TableOf.ok k) allok_nil) holds_nil) (by kernel_rfl) Tryz.func57 (by kernel_rfl) spec_TreeOk.ann spec_TreeOk.A spec_TreeOk.R (fun x y h => (spec_TreeOk.ev k x).trans h) (by kernel_rfl)

/-! loop.example/g00719/spec.l13Node -/
def spec_l13Node.A : Sh := (.cons (.pur (.cons (.sl false .str) (.cons (.sl false .str) (.cons (.sl false (.cons .str (.cons (.int .i64) .nil))) .nil)))) (.cons (.pur (.cons (.sl false (.cons (.int .i64) (.cons (.int .i64) (.cons (.int .i64) (.cons .bool (.cons (.sl false (.cons (.int .i64) (.cons (.int .i64) .nil))) (.cons (.sl false (.cons (.int .i64) (.cons (.int .i64) .nil))) .nil))))))) .nil)) (.cons (.pur (.int .i64)) .nil)))
def spec_l13Node.R : Sh := (.cons (.pur .str) .nil)
def spec_l13Node.ann : Ann := { loops := [], joins := [], keys := [] }
noncomputable def spec_l13Node.f (k : Nat) (R_ : (((List (List UInt8)) × (List (List UInt8)) × (List ((List UInt8) × Int × Unit)) × Unit) × ((List (Int × Int × Int × Bool × (List (Int × Int × Unit)) × (List (Int × Int × Unit)) × Unit)) × Unit) × Int × Unit) → Option (((List UInt8) × Unit) × (Unit × Unit × Unit × Unit))) : (((List (List UInt8)) × (List (List UInt8)) × (List ((List UInt8) × Int × Unit)) × Unit) × ((List (Int × Int × Int × Bool × (List (Int × Int × Unit)) × (List (Int × Int × Unit)) × Unit)) × Unit) × Int × Unit) → Option (((List UInt8) × Unit) × (Unit × Unit × Unit × Unit)) := fun x => match x with
 | (d_, t, at_, ()) =>
  br k (decide (0 ≤ at_))
  (bd k (t.1[at_.toNat]?) fun x1 =>
  br k (decide (x1.1 < 0))
  (bd k (spec_l13Env k (d_, (x1.2.2.2.1, x1.2.2.2.2.1, x1.2.2.2.2.2.1, ()), ())) fun y2 =>
  br k (decide (((([91] : List UInt8).length + y2.1.1.length : Nat) : Int) ≤ maxInt64))
  (br k (decide ((((([91] : List UInt8) ++ y2.1.1).length + ([93] : List UInt8).length : Nat) : Int) ≤ maxInt64))
  (some (((([91] : List UInt8) ++ y2.1.1) ++ [93], ()), ((), (), (), ())))
  none)
  none)
  (br k (decide (0 ≤ x1.1))
  (bd k (d_.2.1[x1.1.toNat]?) fun x3 =>
  br k (decide (((x3.length + ([40] : List UInt8).length : Nat) : Int) ≤ maxInt64))
  (bd k (R_ (d_, t, x1.2.2.1, ())) fun y4 =>
  br k (decide ((((x3 ++ [40]).length + y4.1.1.length : Nat) : Int) ≤ maxInt64))
  (br k (decide (((((x3 ++ [40]) ++ y4.1.1).length + ([32, 124, 32] : List UInt8).length : Nat) : Int) ≤ maxInt64))
  (bd k (R_ (d_, t, x1.2.1, ())) fun y5 =>
  br k (decide ((((((x3 ++ [40]) ++ y4.1.1) ++ [32, 124, 32]).length + y5.1.1.length : Nat) : Int) ≤ maxInt64))
  (br k (decide (((((((x3 ++ [40]) ++ y4.1.1) ++ [32, 124, 32]) ++ y5.1.1).length + ([41] : List UInt8).length : Nat) : Int) ≤ maxInt64))
  (some ((((((x3 ++ [40]) ++ y4.1.1) ++ [32, 124, 32]) ++ y5.1.1) ++ [41], ()), ((), (), (), ())))
  none)
  none)
  none)
  none)
  none)
  none))
  none
noncomputable def spec_l13Node (k : Nat) : (((List (List UInt8)) × (List (List UInt8)) × (List ((List UInt8) × Int × Unit)) × Unit) × ((List (Int × Int × Int × Bool × (List (Int × Int × Unit)) × (List (Int × Int × Unit)) × Unit)) × Unit) × Int × Unit) → Option (((List UInt8) × Unit) × (Unit × Unit × Unit × Unit)) := iter (spec_l13Node.f k) k
noncomputable def spec_l13Node.sg (k : Nat) : Sig := ⟨spec_l13Node.A, spec_l13Node.R, spec_l13Node k⟩
noncomputable def spec_l13Node.C (k : Nat) (R_ : (((List (List UInt8)) × (List (List UInt8)) × (List ((List UInt8) × Int × Unit)) × Unit) × ((List (Int × Int × Int × Bool × (List (Int × Int × Unit)) × (List (Int × Int × Unit)) × Unit)) × Unit) × Int × Unit) → Option (((List UInt8) × Unit) × (Unit × Unit × Unit × Unit))) : Ctx := ⟨Tryz.prog, [(37, [spec_l13Env.sg k]), (58, [⟨spec_l13Node.A, spec_l13Node.R, R_⟩])], k, []⟩
theorem spec_l13Node.ev (k : Nat) (R_ : (((List (List UInt8)) × (List (List UInt8)) × (List ((List UInt8) × Int × Unit)) × Unit) × ((List (Int × Int × Int × Bool × (List (Int × Int × Unit)) × (List (Int × Int × Unit)) × Unit)) × Unit) × Int × Unit) → Option (((List UInt8) × Unit) × (Unit × Unit × Unit × Unit))) (x : spec_l13Node.A.T) : evFunc (spec_l13Node.C k R_) spec_l13Node.ann Tryz.f58 spec_l13Node.A spec_l13Node.R x = spec_l13Node.f k R_ x := by kernel_rfl
theorem spec_l13Node.oks {L : List (Nat × Obj)}  (k : Nat) : (n : Nat) → SigHolds Tryz.prog L 58 ⟨spec_l13Node.A, spec_l13Node.R, iter (spec_l13Node.f k) n⟩
  | 0 => sig_zero Tryz.func58 (by kernel_rfl) (by kernel_rfl)
  | n + 1 => have ih := spec_l13Node.oks  k n
    sig_of_ev (C := spec_l13Node.C k (iter (spec_l13Node.f k) n)) (holds_cons (allok_cons (spec_l13Env.ok k) allok_nil) (holds_cons (allok_cons (ih) allok_nil) holds_nil)) (by kernel_rfl) Tryz.func58 (by kernel_rfl) spec_l13Node.ann spec_l13Node.A spec_l13Node.R (fun x y h => (spec_l13Node.ev k _ x).trans h) (by kernel_rfl)
theorem spec_l13Node.ok {L : List (Nat × Obj)}  (k : Nat) : SigHolds Tryz.prog L 58 (spec_l13Node.sg k) := spec_l13Node.oks  k k

/-! loop.example/g00719/spec.TreeText -/
def spec_TreeText.A : Sh := (.cons (.pur (.cons (.sl false .str) (.cons (.sl false .str) (.cons (.sl false (.cons .str (.cons (.int .i64) .nil))) .nil)))) (.cons (.pur (.cons (.sl false (.cons (.int .i64) (.cons (.int .i64) (.cons (.int .i64) (.cons .bool (.cons (.sl false (.cons (.int .i64) (.cons (.int .i64) .nil))) (.cons (.sl false (.cons (.int .i64) (.cons (.int .i64) .nil))) .nil))))))) .nil)) .nil))
def spec_TreeText.R : Sh := (.cons (.pur .str) .nil)
def spec_TreeText.ann : Ann := { loops := [], joins := [], keys := [] }
noncomputable def spec_TreeText (k : Nat) : (((List (List UInt8)) × (List (List UInt8)) × (List ((List UInt8) × Int × Unit)) × Unit) × ((List (Int × Int × Int × Bool × (List (Int × Int × Unit)) × (List (Int × Int × Unit)) × Unit)) × Unit) × Unit) → Option (((List UInt8) × Unit) × (Unit × Unit × Unit)) := fun x => match x with
 | (d_, t, ()) =>
  bd k (spec_TreeOk k (d_, t, ())) fun y1 =>
  br k (!y1.1.1)
  (some (([], ()), ((), (), ())))
  (bd k (spec_l13Node k (d_, t, IntKind.wrap .i64 ((t.1.length : Int) - 1), ())) fun y2 =>
  some ((y2.1.1, ()), ((), (), ())))
noncomputable def spec_TreeText.sg (k : Nat) : Sig := ⟨spec_TreeText.A, spec_TreeText.R, spec_TreeText k⟩
noncomputable def spec_TreeText.C (k : Nat) : Ctx := ⟨Tryz.prog, [(57, [spec_TreeOk.sg k]), (58, [spec_l13Node.sg k])], k, []⟩
theorem spec_TreeText.ev (k : Nat) (x : spec_TreeText.A.T) : evFunc (spec_TreeText.C k) spec_TreeText.ann Tryz.f20 spec_TreeText.A spec_TreeText.R x = spec_TreeText k x := by kernel_rfl
theorem spec_TreeText.ok {L : List (Nat × Obj)}  (k : Nat) : SigHolds Tryz.prog L 20 (spec_TreeText.sg k) :=
  sig_of_ev (C := spec_TreeText.C k) (holds_cons (allok_cons (spec_TreeOk.ok k) allok_nil) (holds_cons (allok_cons (spec_l13Node.ok k) allok_nil) holds_nil)) (by kernel_rfl) Tryz.func20 (by kernel_rfl) spec_TreeText.ann spec_TreeText.A spec_TreeText.R (fun x y h => (spec_TreeText.ev k x).trans h) (by kernel_rfl)

/-! loop.example/g00719/laws.sameTable -/
def laws_sameTable.A : Sh := (.cons (.pur (.sl false (.cons .bool (.cons (.sl false (.cons (.int .i64) (.cons (.int .i64) .nil))) (.cons (.sl false (.cons (.int .i64) (.cons (.int .i64) .nil))) .nil))))) (.cons (.pur (.sl false (.cons .bool (.cons (.sl false (.cons (.int .i64) (.cons (.int .i64) .nil))) (.cons (.sl false (.cons (.int .i64) (.cons (.int .i64) .nil))) .nil))))) .nil))
def laws_sameTable.R : Sh := (.cons (.pur .bool) .nil)
def laws_sameTable.ann : Ann := { loops := [(0, [(0, (.pur (.sl false (.cons .bool (.cons (.sl false (.cons (.int .i64) (.cons (.int .i64) .nil))) (.cons (.sl false (.cons (.int .i64) (.cons (.int .i64) .nil))) .nil)))))), (1, (.pur (.sl false (.cons .bool (.cons (.sl false (.cons (.int .i64) (.cons (.int .i64) .nil))) (.cons (.sl false (.cons (.int .i64) (.cons (.int .i64) .nil))) .nil)))))), (5, (.pur (.int .i64)))])], joins := [], keys := [] }
noncomputable def laws_sameTable.l0 (k : Nat)  (G0 : ((List (Bool × (List (Int × Int × Unit)) × (List (Int × Int × Unit)) × Unit)) × (List (Bool × (List (Int × Int × Unit)) × (List (Int × Int × Unit)) × Unit)) × Int × Unit) → Option ((Bool × Unit) × (Unit × Unit × Unit))) : ((List (Bool × (List (Int × Int × Unit)) × (List (Int × Int × Unit)) × Unit)) × (List (Bool × (List (Int × Int × Unit)) × (List (Int × Int × Unit)) × Unit)) × Int × Unit) → Option ((Bool × Unit) × (Unit × Unit × Unit)) := fun x => match x with
 | (a, b_, i, ()) =>
  br k (decide (i < (a.length : Int)))
  (br k (decide (0 ≤ i))
  (bd k (a[i.toNat]?) fun x1 =>
  br k (decide (0 ≤ i))
  (bd k (b_[i.toNat]?) fun x2 =>
  bd k (laws_sameEnv k (x1, x2, ())) fun y3 =>
  br k (!y3.1.1)
  (some ((false, ()), ((), (), ())))
  (G0 (a, b_, IntKind.wrap .i64 (i + 1), ())))
  none)
  none)
  (some ((true, ()), ((), (), ())))
noncomputable def laws_sameTable (k : Nat) : ((List (Bool × (List (Int × Int × Unit)) × (List (Int × Int × Unit)) × Unit)) × (List (Bool × (List (Int × Int × Unit)) × (List (Int × Int × Unit)) × Unit)) × Unit) → Option ((Bool × Unit) × (Unit × Unit × Unit)) := fun x => match x with
 | (a, b_, ()) =>
  br k ((a.length : Int) != (b_.length : Int))
  (some ((false, ()), ((), (), ())))
  (iter (laws_sameTable.l0 k) k (a, b_, 0, ()))
noncomputable def laws_sameTable.sg (k : Nat) : Sig := ⟨laws_sameTable.A, laws_sameTable.R, laws_sameTable k⟩
noncomputable def laws_sameTable.C (k : Nat) : Ctx := ⟨Tryz.prog, [(15, [laws_sameEnv.sg k])], k, []⟩
theorem laws_sameTable.ev (k : Nat) (x : laws_sameTable.A.T) : evFunc (laws_sameTable.C k) laws_sameTable.ann Tryz.f23 laws_sameTable.A laws_sameTable.R x = laws_sameTable k x := by kernel_rfl
theorem laws_sameTable.ok {L : List (Nat × Obj)}  (k : Nat) : SigHolds Tryz.prog L 23 (laws_sameTable.sg k) :=
  sig_of_ev (C := laws_sameTable.C k) (holds_cons (allok_cons (laws_sameEnv.ok k) allok_nil) holds_nil) (by kernel_rfl) Tryz.func23 (by kernel_rfl) laws_sameTable.ann laws_sameTable.A laws_sameTable.R (fun x y h => (laws_sameTable.ev k x).trans h) (by kernel_rfl)

/-! loop.example/g00719/laws.FnTreeTexts -/
def laws_FnTreeTexts.A : Sh := (.cons (.pur (.sl false (.int .u8))) .nil)
def laws_FnTreeTexts.R : Sh := (.cons (.pur .bool) .nil)
def laws_FnTreeTexts.ann : Ann := { loops := [], joins := [(8, [(2, .bool)])], keys := [(4, [([3], false), ([3], false), ([], false), ([12, 19], true), ([19], false), ([], false)]), (5, [([3], false), ([3], false), ([], false), ([12, 24], true), ([24], false), ([], false)]), (6, [([], false), ([3], false), ([3], false), ([], false), ([12, 30], true), ([30], false), ([], false), ([], false), ([3], false), ([], false), ([12], false), ([], false), ([], false), ([], false), ([3], false), ([], false), ([12], false), ([], false), ([], false)]), (7, [([], false), ([3], false), ([3], false), ([], false), ([12, 49], true), ([49], false), ([], false), ([], false)])] }
noncomputable def laws_FnTreeTexts (k : Nat) : ((List Int) × Unit) → Option ((Bool × Unit) × (Unit × Unit)) := fun x => match x with
 | (code, ()) =>
  bd k (laws_big k (code, ())) fun y1 =>
  br k (y1.1.1)
  (some ((true, ()), ((), ())))
  (bd k (spec_DrawTableJoin k (code, ())) fun y2 =>
  bd k (impl_TreeOf k (y2.1.1, y2.1.2.1, ())) fun y3 =>
  bd k (impl_TreeText k (y2.1.1, (y3.1.1.1, ()), ())) fun y4 =>
  bd k (impl_TreeOf k (y2.1.1, y2.1.2.2.1, ())) fun y5 =>
  bd k (impl_TreeText k (y2.1.1, (y5.1.1.1, ()), ())) fun y6 =>
  bd k (spec_TreeOf k (y2.1.1, y2.1.2.1, ())) fun y7 =>
  bd k (spec_TreeText k (y2.1.1, (y7.1.1.1, ()), ())) fun y8 =>
  br k (!(y4.1.1 == y8.1.1))
  (bd k (spec_TreeOf k (y2.1.1, y2.1.2.1, ())) fun y9 =>
  bd k (spec_TreeText k (y2.1.1, (y9.1.1.1, ()), ())) fun y10 =>
  some ((y4.1.1 == y10.1.1, ()), ((), ())))
  (bd k (spec_TableOk k (y2.1.1, y2.1.2.1, ())) fun y11 =>
  br k (!y11.1.1)
  (bd k (spec_TreeOf k (y2.1.1, y2.1.2.1, ())) fun y12 =>
  bd k (spec_TreeText k (y2.1.1, (y12.1.1.1, ()), ())) fun y13 =>
  some ((y4.1.1 == y13.1.1, ()), ((), ())))
  (bd k (spec_TableOk k (y2.1.1, y2.1.2.2.1, ())) fun y14 =>
  br k (!y14.1.1)
  (bd k (spec_TreeOf k (y2.1.1, y2.1.2.1, ())) fun y15 =>
  bd k (spec_TreeText k (y2.1.1, (y15.1.1.1, ()), ())) fun y16 =>
  some ((y4.1.1 == y16.1.1, ()), ((), ())))
  ((br k (!(y4.1.1 == []))
  (br k (!(y6.1.1 == []))
  (bd k (laws_sameTable k (y2.1.2.1, y2.1.2.2.1, ())) fun y17 =>
  some ((y4.1.1 == y6.1.1) == y17.1.1, ()))
  (some (false, ())))
  (some (false, ())) : Option (Bool × Unit)).bind fun j18 =>
  some ((j18.1, ()), ((), ()))))))
noncomputable def laws_FnTreeTexts.sg (k : Nat) : Sig := ⟨laws_FnTreeTexts.A, laws_FnTreeTexts.R, laws_FnTreeTexts k⟩
noncomputable def laws_FnTreeTexts.C (k : Nat) : Ctx := ⟨Tryz.prog, [(6, [laws_big.sg k]), (17, [spec_DrawTableJoin.sg k]), (19, [impl_TreeOf.sg k]), (18, [impl_TreeText.sg k]), (21, [spec_TreeOf.sg k]), (20, [spec_TreeText.sg k]), (22, [spec_TableOk.sg k]), (23, [laws_sameTable.sg k])], k, []⟩
theorem laws_FnTreeTexts.ev (k : Nat) (x : laws_FnTreeTexts.A.T) : evFunc (laws_FnTreeTexts.C k) laws_FnTreeTexts.ann Tryz.f4 laws_FnTreeTexts.A laws_FnTreeTexts.R x = laws_FnTreeTexts k x := by kernel_rfl
theorem laws_FnTreeTexts.ok {L : List (Nat × Obj)} (hFmt : Lb.NeedFmt L) (hSp : Lb.NeedSp L) (k : Nat) : SigHolds Tryz.prog L 4 (laws_FnTreeTexts.sg k) :=
  sig_of_ev (C := laws_FnTreeTexts.C k) (holds_cons (allok_cons (laws_big.ok k) allok_nil) (holds_cons (allok_cons (spec_DrawTableJoin.ok k) allok_nil) (holds_cons (allok_cons (impl_TreeOf.ok hSp k) allok_nil) (holds_cons (allok_cons (impl_TreeText.ok hFmt hSp k) allok_nil) (holds_cons (allok_cons (spec_TreeOf.ok k) allok_nil) (holds_cons (allok_cons (spec_TreeText.ok k) allok_nil) (holds_cons (allok_cons (spec_TableOk.ok k) allok_nil) (holds_cons (allok_cons (laws_sameTable.ok k) allok_nil) holds_nil)))))))) (by kernel_rfl) Tryz.func4 (by kernel_rfl) laws_FnTreeTexts.ann laws_FnTreeTexts.A laws_FnTreeTexts.R (fun x y h => (laws_FnTreeTexts.ev k x).trans h) (by kernel_rfl)

/-! (*loop.example/g00719/spec.l1Rd).token -/
def spec_l1Rd_token.A : Sh := (.cons (.box (.cons (.pur (.sl false (.int .u8))) (.cons (.pur (.int .i64)) .nil))) .nil)
def spec_l1Rd_token.R : Sh := (.cons (.own (.cons (.int .i64) (.cons (.int .i64) .nil))) .nil)
def spec_l1Rd_token.ann : Ann := { loops := [(0, [(0, (.box (.cons (.pur (.sl false (.int .u8))) (.cons (.pur (.int .i64)) .nil)))), (3, (.own (.cons (.int .i64) (.cons (.int .i64) .nil)))), (4, (.pur (.int .i64)))])], joins := [], keys := [] }
noncomputable def spec_l1Rd_token.l0 (k : Nat)  (G0 : (((List Int) × Int × Unit) × (List (Int × Int × Unit)) × Int × Unit) → Option (((List (Int × Int × Unit)) × Unit) × (((List Int) × Int × Unit) × Unit))) : (((List Int) × Int × Unit) × (List (Int × Int × Unit)) × Int × Unit) → Option (((List (Int × Int × Unit)) × Unit) × (((List Int) × Int × Unit) × Unit)) := fun x => match x with
 | ((r_0, r_1, ()), out_, i, ()) =>
  br k (decide (i > 0))
  (bd k (spec_l1Rd_below k ((r_0, r_1, ()), 4, ())) fun y2 =>
  bd k (spec_l1Rd_below k ((y2.2.1.1, y2.2.1.2.1, ()), 3, ())) fun y3 =>
  br k (decide ((out_.length + ([(y2.1.1, y3.1.1, ())] : List (Int × Int × Unit)).length) * 16 ≤ maxBytes))
  (G0 ((y3.2.1.1, y3.2.1.2.1, ()), out_ ++ ([(y2.1.1, y3.1.1, ())] : List (Int × Int × Unit)), IntKind.wrap .i64 (i - 1), ()))
  none)
  (bd k (spec_l1Rd_below k ((r_0, r_1, ()), 40, ())) fun y4 =>
  br k (y4.1.1 == 0)
  (bd k (spec_l1Rd_off k ((y4.2.1.1, y4.2.1.2.1, ()), 0, 29, ())) fun y5 =>
  bd k (spec_l1Rd_off k ((y5.2.1.1, y5.2.1.2.1, ()), 0, 4, ())) fun y6 =>
  br k (decide ((out_.length + ([(y5.1.1, y6.1.1, ())] : List (Int × Int × Unit)).length) * 16 ≤ maxBytes))
  (some ((out_ ++ ([(y5.1.1, y6.1.1, ())] : List (Int × Int × Unit)), ()), ((y6.2.1.1, y6.2.1.2.1, ()), ())))
  none)
  (br k (y4.1.1 == 1)
  (bd k (spec_l1Rd_off k ((y4.2.1.1, y4.2.1.2.1, ()), 0, 29, ())) fun y7 =>
  bd k (spec_l1Rd_off k ((y7.2.1.1, y7.2.1.2.1, ()), 0, 4, ())) fun y8 =>
  some ((([(y7.1.1, y8.1.1, ())] : List (Int × Int × Unit)), ()), ((y8.2.1.1, y8.2.1.2.1, ()), ())))
  (some ((out_, ()), ((y4.2.1.1, y4.2.1.2.1, ()), ())))))
noncomputable def spec_l1Rd_token (k : Nat) : (((List Int) × Int × Unit) × Unit) → Option (((List (Int × Int × Unit)) × Unit) × (((List Int) × Int × Unit) × Unit)) := fun x => match x with
 | ((r_0, r_1, ()), ()) =>
  bd k (spec_l1Rd_below k ((r_0, r_1, ()), 4, ())) fun y1 =>
  iter (spec_l1Rd_token.l0 k) k ((y1.2.1.1, y1.2.1.2.1, ()), ([] : List (Int × Int × Unit)), y1.1.1, ())
noncomputable def spec_l1Rd_token.sg (k : Nat) : Sig := ⟨spec_l1Rd_token.A, spec_l1Rd_token.R, spec_l1Rd_token k⟩
noncomputable def spec_l1Rd_token.C (k : Nat) : Ctx := ⟨Tryz.prog, [(70, [spec_l1Rd_below.sg k]), (110, [spec_l1Rd_off.sg k])], k, []⟩
theorem spec_l1Rd_token.ev (k : Nat) (x : spec_l1Rd_token.A.T) : evFunc (spec_l1Rd_token.C k) spec_l1Rd_token.ann Tryz.f134 spec_l1Rd_token.A spec_l1Rd_token.R x = spec_l1Rd_token k x := by kernel_rfl
theorem spec_l1Rd_token.ok {L : List (Nat × Obj)}  (k : Nat) : SigHolds Tryz.prog L 134 (spec_l1Rd_token.sg k) :=
  sig_of_ev (C := spec_l1Rd_token.C k) (holds_cons (allok_cons (spec_l1Rd_below.ok k) allok_nil) (holds_cons (allok_cons (spec_l1Rd_off.ok k) allok_nil) holds_nil)) (by kernel_rfl) Tryz.func134 (by kernel_rfl) spec_l1Rd_token.ann spec_l1Rd_token.A spec_l1Rd_token.R (fun x y h => (spec_l1Rd_token.ev k x).trans h) (by kernel_rfl)

/-! loop.example/g00719/spec.TokenOk -/
def spec_TokenOk.A : Sh := (.cons (.pur (.sl false (.cons (.int .i64) (.cons (.int .i64) .nil)))) .nil)
def spec_TokenOk.R : Sh := (.cons (.pur .bool) .nil)
def spec_TokenOk.ann : Ann := { loops := [(0, [(0, (.pur (.sl false (.cons (.int .i64) (.cons (.int .i64) .nil))))), (3, (.pur (.int .i64)))])], joins := [(6, [(28, .bool)])], keys := [] }
noncomputable def spec_TokenOk.l0 (k : Nat)  (G0 : ((List (Int × Int × Unit)) × Int × Unit) → Option ((Bool × Unit) × (Unit × Unit))) : ((List (Int × Int × Unit)) × Int × Unit) → Option ((Bool × Unit) × (Unit × Unit)) := fun x => match x with
 | (t, i, ()) =>
  br k (decide (i < (t.length : Int)))
  ((br k (decide (0 ≤ i))
  (bd k (t[i.toNat]?) fun x1 =>
  bd k (spec_l1In k (x1.1, 0, 29, ())) fun y2 =>
  br k (!y2.1.1)
  (some (true, ()))
  (br k (decide (0 ≤ i))
  (bd k (t[i.toNat]?) fun x3 =>
  bd k (spec_l1In k (x3.2.1, 0, 4, ())) fun y4 =>
  some (!y4.1.1, ()))
  none))
  none : Option (Bool × Unit)).bind fun j5 =>
  br k (j5.1)
  (some ((false, ()), ((), ())))
  (G0 (t, IntKind.wrap .i64 (i + 1), ())))
  (some ((true, ()), ((), ())))
noncomputable def spec_TokenOk (k : Nat) : ((List (Int × Int × Unit)) × Unit) → Option ((Bool × Unit) × (Unit × Unit)) := fun x => match x with
 | (t, ()) =>
  br k (decide ((t.length : Int) > 3))
  (some ((false, ()), ((), ())))
  (iter (spec_TokenOk.l0 k) k (t, 0, ()))
noncomputable def spec_TokenOk.sg (k : Nat) : Sig := ⟨spec_TokenOk.A, spec_TokenOk.R, spec_TokenOk k⟩
noncomputable def spec_TokenOk.C (k : Nat) : Ctx := ⟨Tryz.prog, [(88, [spec_l1In.sg k])], k, []⟩
theorem spec_TokenOk.ev (k : Nat) (x : spec_TokenOk.A.T) : evFunc (spec_TokenOk.C k) spec_TokenOk.ann Tryz.f67 spec_TokenOk.A spec_TokenOk.R x = spec_TokenOk k x := by kernel_rfl
theorem spec_TokenOk.ok {L : List (Nat × Obj)}  (k : Nat) : SigHolds Tryz.prog L 67 (spec_TokenOk.sg k) :=
  sig_of_ev (C := spec_TokenOk.C k) (holds_cons (allok_cons (spec_l1In.ok k) allok_nil) holds_nil) (by kernel_rfl) Tryz.func67 (by kernel_rfl) spec_TokenOk.ann spec_TokenOk.A spec_TokenOk.R (fun x y h => (spec_TokenOk.ev k x).trans h) (by kernel_rfl)

/-! loop.example/g00719/spec.l9Live -/
def spec_l9Live.A : Sh := (.cons (.pur (.sl false (.cons .bool (.cons (.sl false (.cons (.int .i64) (.cons (.int .i64) .nil))) (.cons (.sl false (.cons (.int .i64) (.cons (.int .i64) .nil))) .nil))))) .nil)
def spec_l9Live.R : Sh := (.cons (.pur .bool) .nil)
def spec_l9Live.ann : Ann := { loops := [(0, [(0, (.pur (.sl false (.cons .bool (.cons (.sl false (.cons (.int .i64) (.cons (.int .i64) .nil))) (.cons (.sl false (.cons (.int .i64) (.cons (.int .i64) .nil))) .nil)))))), (3, (.pur (.int .i64)))])], joins := [], keys := [] }
noncomputable def spec_l9Live.l0 (k : Nat)  (G0 : ((List (Bool × (List (Int × Int × Unit)) × (List (Int × Int × Unit)) × Unit)) × Int × Unit) → Option ((Bool × Unit) × (Unit × Unit))) : ((List (Bool × (List (Int × Int × Unit)) × (List (Int × Int × Unit)) × Unit)) × Int × Unit) → Option ((Bool × Unit) × (Unit × Unit)) := fun x => match x with
 | (t, i, ()) =>
  br k (decide (i < (t.length : Int)))
  (br k (decide (0 ≤ i))
  (bd k (t[i.toNat]?) fun x1 =>
  br k (x1.1)
  (some ((true, ()), ((), ())))
  (G0 (t, IntKind.wrap .i64 (i + 1), ())))
  none)
  (some ((false, ()), ((), ())))
noncomputable def spec_l9Live (k : Nat) : ((List (Bool × (List (Int × Int × Unit)) × (List (Int × Int × Unit)) × Unit)) × Unit) → Option ((Bool × Unit) × (Unit × Unit)) := fun x => match x with
 | (t, ()) =>
  iter (spec_l9Live.l0 k) k (t, 0, ())
noncomputable def spec_l9Live.sg (k : Nat) : Sig := ⟨spec_l9Live.A, spec_l9Live.R, spec_l9Live k⟩
noncomputable def spec_l9Live.C (k : Nat) : Ctx := ⟨Tryz.prog, [], k, []⟩
theorem spec_l9Live.ev (k : Nat) (x : spec_l9Live.A.T) : evFunc (spec_l9Live.C k) spec_l9Live.ann Tryz.f69 spec_l9Live.A spec_l9Live.R x = spec_l9Live k x := by kernel_rfl
theorem spec_l9Live.ok {L : List (Nat × Obj)}  (k : Nat) : SigHolds Tryz.prog L 69 (spec_l9Live.sg k) :=
  sig_of_ev (C := spec_l9Live.C k) holds_nil (by kernel_rfl) Tryz.func69 (by kernel_rfl) spec_l9Live.ann spec_l9Live.A spec_l9Live.R (fun x y h => (spec_l9Live.ev k x).trans h) (by kernel_rfl)

/-! loop.example/g00719/spec.l9Cmp -/
def spec_l9Cmp.A : Sh := (.cons (.pur (.sl false (.cons (.int .i64) (.cons (.int .i64) .nil)))) (.cons (.pur (.sl false (.cons (.int .i64) (.cons (.int .i64) .nil)))) .nil))
def spec_l9Cmp.R : Sh := (.cons (.pur (.int .i64)) .nil)
def spec_l9Cmp.ann : Ann := { loops := [(0, [(0, (.pur (.sl false (.cons (.int .i64) (.cons (.int .i64) .nil))))), (1, (.pur (.sl false (.cons (.int .i64) (.cons (.int .i64) .nil))))), (5, (.pur (.int .i64)))])], joins := [], keys := [] }
noncomputable def spec_l9Cmp.l0 (k : Nat)  (G0 : ((List (Int × Int × Unit)) × (List (Int × Int × Unit)) × Int × Unit) → Option ((Int × Unit) × (Unit × Unit × Unit))) : ((List (Int × Int × Unit)) × (List (Int × Int × Unit)) × Int × Unit) → Option ((Int × Unit) × (Unit × Unit × Unit)) := fun x => match x with
 | (a, b_, i, ()) =>
  br k (decide (i < (a.length : Int)))
  (br k (decide (0 ≤ i))
  (bd k (a[i.toNat]?) fun x1 =>
  br k (decide (0 ≤ i))
  (bd k (a[i.toNat]?) fun x2 =>
  br k (decide (0 ≤ i))
  (bd k (b_[i.toNat]?) fun x3 =>
  br k (decide (0 ≤ i))
  (bd k (b_[i.toNat]?) fun x4 =>
  br k (decide ((IntKind.wrap .i64 ((IntKind.wrap .i64 (10 * x1.1)) + x2.2.1)) < (IntKind.wrap .i64 ((IntKind.wrap .i64 (10 * x3.1)) + x4.2.1))))
  (some (((-1), ()), ((), (), ())))
  (br k (decide ((IntKind.wrap .i64 ((IntKind.wrap .i64 (10 * x1.1)) + x2.2.1)) > (IntKind.wrap .i64 ((IntKind.wrap .i64 (10 * x3.1)) + x4.2.1))))
  (some ((1, ()), ((), (), ())))
  (G0 (a, b_, IntKind.wrap .i64 (i + 1), ()))))
  none)
  none)
  none)
  none)
  (some ((0, ()), ((), (), ())))
noncomputable def spec_l9Cmp (k : Nat) : ((List (Int × Int × Unit)) × (List (Int × Int × Unit)) × Unit) → Option ((Int × Unit) × (Unit × Unit × Unit)) := fun x => match x with
 | (a, b_, ()) =>
  br k ((a.length : Int) != (b_.length : Int))
  (br k (decide ((a.length : Int) < (b_.length : Int)))
  (some (((-1), ()), ((), (), ())))
  (some ((1, ()), ((), (), ()))))
  (iter (spec_l9Cmp.l0 k) k (a, b_, 0, ()))
noncomputable def spec_l9Cmp.sg (k : Nat) : Sig := ⟨spec_l9Cmp.A, spec_l9Cmp.R, spec_l9Cmp k⟩
noncomputable def spec_l9Cmp.C (k : Nat) : Ctx := ⟨Tryz.prog, [], k, []⟩
theorem spec_l9Cmp.ev (k : Nat) (x : spec_l9Cmp.A.T) : evFunc (spec_l9Cmp.C k) spec_l9Cmp.ann Tryz.f68 spec_l9Cmp.A spec_l9Cmp.R x = spec_l9Cmp k x := by kernel_rfl
theorem spec_l9Cmp.ok {L : List (Nat × Obj)}  (k : Nat) : SigHolds Tryz.prog L 68 (spec_l9Cmp.sg k) :=
  sig_of_ev (C := spec_l9Cmp.C k) holds_nil (by kernel_rfl) Tryz.func68 (by kernel_rfl) spec_l9Cmp.ann spec_l9Cmp.A spec_l9Cmp.R (fun x y h => (spec_l9Cmp.ev k x).trans h) (by kernel_rfl)

/-! loop.example/g00719/spec.IvWiden -/
def spec_IvWiden.A : Sh := (.cons (.pur (.cons (.int .i64) (.cons (.int .i64) .nil))) (.cons (.pur (.cons (.int .i64) (.cons (.int .i64) .nil))) (.cons (.pur (.sl false (.int .i64))) .nil)))
def spec_IvWiden.R : Sh := (.cons (.pur (.cons (.int .i64) (.cons (.int .i64) .nil))) .nil)
def spec_IvWiden.ann : Ann := { loops := [(0, [(2, (.pur (.sl false (.int .i64)))), (3, (.box (.cons (.pur (.int .i64)) (.cons (.pur (.int .i64)) .nil)))), (4, (.box (.cons (.pur (.int .i64)) (.cons (.pur (.int .i64)) .nil)))), (6, (.box (.cons (.pur (.int .i64)) (.cons (.pur (.int .i64)) .nil)))), (7, (.box (.cons (.pur (.int .i64)) (.cons (.pur (.int .i64)) .nil)))), (8, (.pur (.int .i64)))]), (2, [(2, (.pur (.sl false (.int .i64)))), (4, (.box (.cons (.pur (.int .i64)) (.cons (.pur (.int .i64)) .nil)))), (6, (.box (.cons (.pur (.int .i64)) (.cons (.pur (.int .i64)) .nil)))), (7, (.box (.cons (.pur (.int .i64)) (.cons (.pur (.int .i64)) .nil)))), (9, (.pur (.int .i64)))])], joins := [(1, [(22, .bool)])], keys := [(10, [([7], false), ([7], false), ([], false), ([], false), ([], false), ([], false), ([], false), ([7], false), ([7], true)]), (17, [([7], false), ([7], false), ([], false), ([], false), ([], false), ([], false), ([], false), ([7], false), ([7], true)])] }
noncomputable def spec_IvWiden.l2 (k : Nat)  (G2 : ((List Int) × (Int × Int × Unit) × (Int × Int × Unit) × (Int × Int × Unit) × Int × Unit) → Option (((Int × Int × Unit) × Unit) × (Unit × Unit × Unit × Unit))) : ((List Int) × (Int × Int × Unit) × (Int × Int × Unit) × (Int × Int × Unit) × Int × Unit) → Option (((Int × Int × Unit) × Unit) × (Unit × Unit × Unit × Unit)) := fun x => match x with
 | (steps, (b__0, b__1, ()), (t6_0, t6_1, ()), (out__0, out__1, ()), i, ()) =>
  br k (decide (i < (steps.length : Int)))
  (br k (decide (0 ≤ i))
  (bd k (steps[i.toNat]?) fun x6 =>
  br k (decide (x6 ≥ b__1))
  (br k (decide (0 ≤ i))
  (bd k (steps[i.toNat]?) fun x7 =>
  G2 (steps, (b__0, b__1, ()), (t6_0, t6_1, ()), (out__0, if x7 < out__1 then x7 else out__1, ()), IntKind.wrap .i64 (i + 1), ()))
  none)
  (G2 (steps, (b__0, b__1, ()), (t6_0, t6_1, ()), (out__0, out__1, ()), IntKind.wrap .i64 (i + 1), ())))
  none)
  (some (((out__0, out__1, ()), ()), ((), (), (), ())))
noncomputable def spec_IvWiden.l0 (k : Nat)  (G0 : ((List Int) × (Int × Int × Unit) × (Int × Int × Unit) × (Int × Int × Unit) × (Int × Int × Unit) × Int × Unit) → Option (((Int × Int × Unit) × Unit) × (Unit × Unit × Unit × Unit))) : ((List Int) × (Int × Int × Unit) × (Int × Int × Unit) × (Int × Int × Unit) × (Int × Int × Unit) × Int × Unit) → Option (((Int × Int × Unit) × Unit) × (Unit × Unit × Unit × Unit)) := fun x => match x with
 | (steps, (a_0, a_1, ()), (b__0, b__1, ()), (t6_0, t6_1, ()), (out__0, out__1, ()), i, ()) =>
  br k (decide (i < (steps.length : Int)))
  (br k (decide (0 ≤ i))
  (bd k (steps[i.toNat]?) fun x4 =>
  br k (decide (x4 ≤ b__0))
  (br k (decide (0 ≤ i))
  (bd k (steps[i.toNat]?) fun x5 =>
  G0 (steps, (a_0, a_1, ()), (b__0, b__1, ()), (t6_0, t6_1, ()), (if x5 > out__0 then x5 else out__0, out__1, ()), IntKind.wrap .i64 (i + 1), ()))
  none)
  (G0 (steps, (a_0, a_1, ()), (b__0, b__1, ()), (t6_0, t6_1, ()), (out__0, out__1, ()), IntKind.wrap .i64 (i + 1), ())))
  none)
  (br k (decide (b__1 > a_1))
  (iter (spec_IvWiden.l2 k) k (steps, (b__0, b__1, ()), (t6_0, t6_1, ()), (out__0, 9223372036854775807, ()), 0, ()))
  (some (((out__0, out__1, ()), ()), ((), (), (), ()))))
noncomputable def spec_IvWiden (k : Nat) : ((Int × Int × Unit) × (Int × Int × Unit) × (List Int) × Unit) → Option (((Int × Int × Unit) × Unit) × (Unit × Unit × Unit × Unit)) := fun x => match x with
 | (a, b_, steps, ()) =>
  (bd k (spec_IvOk k (a, ())) fun y1 =>
  br k (!y1.1.1)
  (some (true, ()))
  (bd k (spec_IvOk k (b_, ())) fun y2 =>
  br k (!y2.1.1)
  (some (true, ()))
  (some (decide ((steps.length : Int) > 100), ()))) : Option (Bool × Unit)).bind fun j3 =>
  br k (j3.1)
  (some (((0, 0, ()), ()), ((), (), (), ())))
  (br k (decide (b_.1 < a.1))
  (iter (spec_IvWiden.l0 k) k (steps, (a.1, a.2.1, ()), (b_.1, b_.2.1, ()), (0, 0, ()), ((-9223372036854775808), a.2.1, ()), 0, ()))
  (br k (decide (b_.2.1 > a.2.1))
  (iter (spec_IvWiden.l2 k) k (steps, (b_.1, b_.2.1, ()), (0, 0, ()), (a.1, 9223372036854775807, ()), 0, ()))
  (some ((a, ()), ((), (), (), ())))))
noncomputable def spec_IvWiden.sg (k : Nat) : Sig := ⟨spec_IvWiden.A, spec_IvWiden.R, spec_IvWiden k⟩
noncomputable def spec_IvWiden.C (k : Nat) : Ctx := ⟨Tryz.prog, [(47, [spec_IvOk.sg k])], k, []⟩
theorem spec_IvWiden.ev (k : Nat) (x : spec_IvWiden.A.T) : evFunc (spec_IvWiden.C k) spec_IvWiden.ann Tryz.f195 spec_IvWiden.A spec_IvWiden.R x = spec_IvWiden k x := by kernel_rfl
theorem spec_IvWiden.ok {L : List (Nat × Obj)}  (k : Nat) : SigHolds Tryz.prog L 195 (spec_IvWiden.sg k) :=
  sig_of_ev (C := spec_IvWiden.C k) (holds_cons (allok_cons (spec_IvOk.ok k) allok_nil) holds_nil) (by kernel_rfl) Tryz.func195 (by kernel_rfl) spec_IvWiden.ann spec_IvWiden.A spec_IvWiden.R (fun x y h => (spec_IvWiden.ev k x).trans h) (by kernel_rfl)

/-! loop.example/g00719/spec.l6Widen -/
def spec_l6Widen.A : Sh := (.cons (.pur (.cons .bool (.cons (.sl false (.cons (.int .i64) (.cons (.int .i64) .nil))) (.cons (.sl false (.cons (.int .i64) (.cons (.int .i64) .nil))) .nil)))) (.cons (.pur (.cons .bool (.cons (.sl false (.cons (.int .i64) (.cons (.int .i64) .nil))) (.cons (.sl false (.cons (.int .i64) (.cons (.int .i64) .nil))) .nil)))) (.cons (.pur (.sl false (.int .i64))) .nil)))
def spec_l6Widen.R : Sh := (.cons (.agg (.cons (.pur .bool) (.cons (.own (.cons (.int .i64) (.cons (.int .i64) .nil))) (.cons (.own (.cons (.int .i64) (.cons (.int .i64) .nil))) .nil)))) .nil)
def spec_l6Widen.ann : Ann := { loops := [(0, [(2, (.pur (.sl false (.int .i64)))), (3, (.box (.cons (.pur .bool) (.cons (.pur (.sl false (.cons (.int .i64) (.cons (.int .i64) .nil)))) (.cons (.pur (.sl false (.cons (.int .i64) (.cons (.int .i64) .nil)))) .nil))))), (6, (.box (.cons (.pur .bool) (.cons (.own (.cons (.int .i64) (.cons (.int .i64) .nil))) (.cons (.own (.cons (.int .i64) (.cons (.int .i64) .nil))) .nil))))), (7, (.own (.cons (.int .i64) (.cons (.int .i64) .nil)))), (8, (.own (.cons (.int .i64) (.cons (.int .i64) .nil)))), (9, (.own (.cons (.int .i64) (.cons (.int .i64) .nil)))), (10, (.pur (.int .i64)))])], joins := [(1, [(18, .bool)])], keys := [(9, [([], false), ([], false), ([], false), ([7], false), ([7], false), ([], false), ([], false), ([8], false), ([8], false), ([], false), ([], false), ([44], true), ([9, 44, 45], true), ([], false)])] }
noncomputable def spec_l6Widen.l0 (k : Nat)  (G0 : ((List Int) × (Bool × (List (Int × Int × Unit)) × (List (Int × Int × Unit)) × Unit) × (Bool × (List (Int × Int × Unit)) × (List (Int × Int × Unit)) × Unit) × (List (Int × Int × Unit)) × (List (Int × Int × Unit)) × (List (Int × Int × Unit)) × Int × Unit) → Option (((Bool × (List (Int × Int × Unit)) × (List (Int × Int × Unit)) × Unit) × Unit) × (Unit × Unit × Unit × Unit))) : ((List Int) × (Bool × (List (Int × Int × Unit)) × (List (Int × Int × Unit)) × Unit) × (Bool × (List (Int × Int × Unit)) × (List (Int × Int × Unit)) × Unit) × (List (Int × Int × Unit)) × (List (Int × Int × Unit)) × (List (Int × Int × Unit)) × Int × Unit) → Option (((Bool × (List (Int × Int × Unit)) × (List (Int × Int × Unit)) × Unit) × Unit) × (Unit × Unit × Unit × Unit)) := fun x => match x with
 | (steps, (a_0, a_1, a_2, ()), (t6_0, t6_1, t6_2, ()), x_, y_, out_, i, ()) =>
  br k (decide (i < (x_.length : Int)))
  (br k (decide (0 ≤ i ∧ i < (x_.length : Int)))
  (bd k (x_[i.toNat]?) fun x5 =>
  br k (decide (0 ≤ i ∧ i < (y_.length : Int)))
  (bd k (y_[i.toNat]?) fun x6 =>
  bd k (spec_IvWiden k (x5, x6, steps, ())) fun y7 =>
  br k (decide ((out_.length + ([y7.1.1] : List (Int × Int × Unit)).length) * 16 ≤ maxBytes))
  (G0 (steps, (a_0, a_1, a_2, ()), (t6_0, t6_1, t6_2, ()), x_, y_, out_ ++ ([y7.1.1] : List (Int × Int × Unit)), IntKind.wrap .i64 (i + 1), ()))
  none)
  none)
  none)
  (bd k (spec_l6Of k (out_, (a_1.length : Int), ())) fun y8 =>
  some (((y8.1.1.1, y8.1.1.2.1, y8.1.1.2.2.1, ()), ()), ((), (), (), ())))
noncomputable def spec_l6Widen (k : Nat) : ((Bool × (List (Int × Int × Unit)) × (List (Int × Int × Unit)) × Unit) × (Bool × (List (Int × Int × Unit)) × (List (Int × Int × Unit)) × Unit) × (List Int) × Unit) → Option (((Bool × (List (Int × Int × Unit)) × (List (Int × Int × Unit)) × Unit) × Unit) × (Unit × Unit × Unit × Unit)) := fun x => match x with
 | (a, b_, steps, ()) =>
  (br k (!a.1)
  (some (true, ()))
  (some (!b_.1, ())) : Option (Bool × Unit)).bind fun j1 =>
  br k (j1.1)
  (bd k (spec_l6Join k (a, b_, ())) fun y2 =>
  some (((y2.1.1.1, y2.1.1.2.1, y2.1.1.2.2.1, ()), ()), ((), (), (), ())))
  (bd k (spec_l6List k (a, ())) fun y3 =>
  bd k (spec_l6List k (b_, ())) fun y4 =>
  iter (spec_l6Widen.l0 k) k (steps, (a.1, a.2.1, a.2.2.1, ()), (false, [], [], ()), y3.1.1, y4.1.1, ([] : List (Int × Int × Unit)), 0, ()))
noncomputable def spec_l6Widen.sg (k : Nat) : Sig := ⟨spec_l6Widen.A, spec_l6Widen.R, spec_l6Widen k⟩
noncomputable def spec_l6Widen.C (k : Nat) : Ctx := ⟨Tryz.prog, [(32, [spec_l6Join.sg k]), (46, [spec_l6List.sg k]), (195, [spec_IvWiden.sg k]), (74, [spec_l6Of.sg k])], k, []⟩
theorem spec_l6Widen.ev (k : Nat) (x : spec_l6Widen.A.T) : evFunc (spec_l6Widen.C k) spec_l6Widen.ann Tryz.f185 spec_l6Widen.A spec_l6Widen.R x = spec_l6Widen k x := by kernel_rfl
theorem spec_l6Widen.ok {L : List (Nat × Obj)}  (k : Nat) : SigHolds Tryz.prog L 185 (spec_l6Widen.sg k) :=
  sig_of_ev (C := spec_l6Widen.C k) (holds_cons (allok_cons (spec_l6Join.ok k) allok_nil) (holds_cons (allok_cons (spec_l6List.ok k) allok_nil) (holds_cons (allok_cons (spec_IvWiden.ok k) allok_nil) (holds_cons (allok_cons (spec_l6Of.ok k) allok_nil) holds_nil)))) (by kernel_rfl) Tryz.func185 (by kernel_rfl) spec_l6Widen.ann spec_l6Widen.A spec_l6Widen.R (fun x y h => (spec_l6Widen.ev k x).trans h) (by kernel_rfl)

/-! loop.example/g00719/spec.l8Widen -/
def spec_l8Widen.A : Sh := (.cons (.pur (.sl false (.cons .bool (.cons (.sl false (.cons (.int .i64) (.cons (.int .i64) .nil))) (.cons (.sl false (.cons (.int .i64) (.cons (.int .i64) .nil))) .nil))))) (.cons (.pur (.sl false (.cons .bool (.cons (.sl false (.cons (.int .i64) (.cons (.int .i64) .nil))) (.cons (.sl false (.cons (.int .i64) (.cons (.int .i64) .nil))) .nil))))) (.cons (.pur (.sl false (.int .i64))) .nil)))
def spec_l8Widen.R : Sh := (.cons (.own (.cons .bool (.cons (.sl false (.cons (.int .i64) (.cons (.int .i64) .nil))) (.cons (.sl false (.cons (.int .i64) (.cons (.int .i64) .nil))) .nil)))) .nil)
def spec_l8Widen.ann : Ann := { loops := [(0, [(0, (.pur (.sl false (.cons .bool (.cons (.sl false (.cons (.int .i64) (.cons (.int .i64) .nil))) (.cons (.sl false (.cons (.int .i64) (.cons (.int .i64) .nil))) .nil)))))), (1, (.pur (.sl false (.cons .bool (.cons (.sl false (.cons (.int .i64) (.cons (.int .i64) .nil))) (.cons (.sl false (.cons (.int .i64) (.cons (.int .i64) .nil))) .nil)))))), (2, (.pur (.sl false (.int .i64)))), (7, (.own (.cons .bool (.cons (.sl false (.cons (.int .i64) (.cons (.int .i64) .nil))) (.cons (.sl false (.cons (.int .i64) (.cons (.int .i64) .nil))) .nil))))), (8, (.pur (.int .i64)))])], joins := [], keys := [(5, [([], false), ([], false), ([], false), ([], false), ([], false), ([], false), ([], false), ([], false), ([], false), ([], false), ([26], true), ([26, 27], true), ([7, 27, 28], true), ([], false)])] }
noncomputable def spec_l8Widen.l0 (k : Nat)  (G0 : ((List (Bool × (List (Int × Int × Unit)) × (List (Int × Int × Unit)) × Unit)) × (List (Bool × (List (Int × Int × Unit)) × (List (Int × Int × Unit)) × Unit)) × (List Int) × (List (Bool × (List (Int × Int × Unit)) × (List (Int × Int × Unit)) × Unit)) × Int × Unit) → Option (((List (Bool × (List (Int × Int × Unit)) × (List (Int × Int × Unit)) × Unit)) × Unit) × (Unit × Unit × Unit × Unit))) : ((List (Bool × (List (Int × Int × Unit)) × (List (Int × Int × Unit)) × Unit)) × (List (Bool × (List (Int × Int × Unit)) × (List (Int × Int × Unit)) × Unit)) × (List Int) × (List (Bool × (List (Int × Int × Unit)) × (List (Int × Int × Unit)) × Unit)) × Int × Unit) → Option (((List (Bool × (List (Int × Int × Unit)) × (List (Int × Int × Unit)) × Unit)) × Unit) × (Unit × Unit × Unit × Unit)) := fun x => match x with
 | (a, b_, steps, out_, i, ()) =>
  br k (decide (i < (a.length : Int)))
  (br k (decide (0 ≤ i))
  (bd k (a[i.toNat]?) fun x1 =>
  br k (decide (0 ≤ i))
  (bd k (b_[i.toNat]?) fun x2 =>
  bd k (spec_l6Widen k (x1, x2, steps, ())) fun y3 =>
  br k (decide ((out_.length + ([(y3.1.1.1, y3.1.1.2.1, y3.1.1.2.2.1, ())] : List (Bool × (List (Int × Int × Unit)) × (List (Int × Int × Unit)) × Unit)).length) * 56 ≤ maxBytes))
  (G0 (a, b_, steps, out_ ++ ([(y3.1.1.1, y3.1.1.2.1, y3.1.1.2.2.1, ())] : List (Bool × (List (Int × Int × Unit)) × (List (Int × Int × Unit)) × Unit)), IntKind.wrap .i64 (i + 1), ()))
  none)
  none)
  none)
  (some ((out_, ()), ((), (), (), ())))
noncomputable def spec_l8Widen (k : Nat) : ((List (Bool × (List (Int × Int × Unit)) × (List (Int × Int × Unit)) × Unit)) × (List (Bool × (List (Int × Int × Unit)) × (List (Int × Int × Unit)) × Unit)) × (List Int) × Unit) → Option (((List (Bool × (List (Int × Int × Unit)) × (List (Int × Int × Unit)) × Unit)) × Unit) × (Unit × Unit × Unit × Unit)) := fun x => match x with
 | (a, b_, steps, ()) =>
  iter (spec_l8Widen.l0 k) k (a, b_, steps, ([] : List (Bool × (List (Int × Int × Unit)) × (List (Int × Int × Unit)) × Unit)), 0, ())
noncomputable def spec_l8Widen.sg (k : Nat) : Sig := ⟨spec_l8Widen.A, spec_l8Widen.R, spec_l8Widen k⟩
noncomputable def spec_l8Widen.C (k : Nat) : Ctx := ⟨Tryz.prog, [(185, [spec_l6Widen.sg k])], k, []⟩
theorem spec_l8Widen.ev (k : Nat) (x : spec_l8Widen.A.T) : evFunc (spec_l8Widen.C k) spec_l8Widen.ann Tryz.f164 spec_l8Widen.A spec_l8Widen.R x = spec_l8Widen k x := by kernel_rfl
theorem spec_l8Widen.ok {L : List (Nat × Obj)}  (k : Nat) : SigHolds Tryz.prog L 164 (spec_l8Widen.sg k) :=
  sig_of_ev (C := spec_l8Widen.C k) (holds_cons (allok_cons (spec_l6Widen.ok k) allok_nil) holds_nil) (by kernel_rfl) Tryz.func164 (by kernel_rfl) spec_l8Widen.ann spec_l8Widen.A spec_l8Widen.R (fun x y h => (spec_l8Widen.ev k x).trans h) (by kernel_rfl)

end Go.Pev.F
