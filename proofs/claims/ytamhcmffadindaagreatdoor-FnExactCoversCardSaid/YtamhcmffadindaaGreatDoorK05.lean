/-
  Printed by gen.py: what functions of the program compute, and that they do.
-/
import Derived.Test.YtamhcmffadindaaGreatDoorK04
open Go.Proofs Go.Pev
namespace Go.Pev.F
set_option maxRecDepth 100000
set_option linter.unusedVariables false

/-! loop.example/g00719/spec.l4Line -/
def spec_l4Line.A : Sh := (.cons (.pur (.cons (.sl false .str) (.cons (.sl false .str) (.cons (.sl false (.cons .str (.cons (.int .i64) .nil))) .nil)))) (.cons (.pur (.cons (.int .i64) (.cons (.int .i64) (.cons (.sl false (.cons (.int .i64) (.cons (.int .i64) .nil))) (.cons (.sl false (.cons (.int .i64) (.cons (.int .i64) .nil))) (.cons (.int .i64) (.cons (.int .i64) .nil))))))) .nil))
def spec_l4Line.R : Sh := (.cons (.pur .bool) .nil)
def spec_l4Line.ann : Ann := { loops := [], joins := [(4, [(23, .bool)]), (6, [(43, .bool)]), (8, [(62, .bool)]), (10, [(83, .bool)]), (13, [(4, .bool)]), (14, [(108, .bool)]), (16, [(4, .bool)])], keys := [] }
noncomputable def spec_l4Line (k : Nat) : (((List (List UInt8)) × (List (List UInt8)) × (List ((List UInt8) × Int × Unit)) × Unit) × (Int × Int × (List (Int × Int × Unit)) × (List (Int × Int × Unit)) × Int × Int × Unit) × Unit) → Option ((Bool × Unit) × (Unit × Unit × Unit)) := fun x => match x with
 | (d_, l_, ()) =>
  bd k (spec_l4Uses k (d_, l_.1, ())) fun y1 =>
  bd k (spec_l1In k (l_.1, 1, 14, ())) fun y2 =>
  br k (!y2.1.1)
  (some ((false, ()), ((), (), ())))
  ((br k (decide (y1.1.1 < 0))
  (br k (l_.2.1 != 0)
  (some (true, ()))
  (br k (decide (y1.1.1 ≥ 0))
  (bd k (spec_l1In k (l_.2.1, 0, IntKind.wrap .i64 (y1.1.1 - 1), ())) fun y3 =>
  some (!y3.1.1, ()))
  (some (false, ()))))
  (br k (decide (y1.1.1 ≥ 0))
  (bd k (spec_l1In k (l_.2.1, 0, IntKind.wrap .i64 (y1.1.1 - 1), ())) fun y4 =>
  some (!y4.1.1, ()))
  (some (false, ()))) : Option (Bool × Unit)).bind fun j5 =>
  br k (j5.1)
  (some ((false, ()), ((), (), ())))
  ((br k (y1.1.2.1)
  (bd k (spec_ExprOk k (d_, l_.2.2.1, ())) fun y6 =>
  br k (y6.1.1 != 1)
  (some (true, ()))
  (br k (!y1.1.2.1)
  (some (decide ((l_.2.2.1.length : Int) > 0), ()))
  (some (false, ()))))
  (br k (!y1.1.2.1)
  (some (decide ((l_.2.2.1.length : Int) > 0), ()))
  (some (false, ()))) : Option (Bool × Unit)).bind fun j7 =>
  br k (j7.1)
  (some ((false, ()), ((), (), ())))
  ((br k (decide (y1.1.2.2.1 > 0))
  (bd k (spec_ExprOk k (d_, l_.2.2.2.1, ())) fun y8 =>
  br k (y8.1.1 != y1.1.2.2.1)
  (some (true, ()))
  (br k (y1.1.2.2.1 == 0)
  (some (decide ((l_.2.2.2.1.length : Int) > 0), ()))
  (some (false, ()))))
  (br k (y1.1.2.2.1 == 0)
  (some (decide ((l_.2.2.2.1.length : Int) > 0), ()))
  (some (false, ()))) : Option (Bool × Unit)).bind fun j9 =>
  br k (j9.1)
  (some ((false, ()), ((), (), ())))
  ((br k (!y1.1.2.2.2.1)
  (br k (l_.2.2.2.2.1 != 0)
  (some (true, ()))
  (some (l_.2.2.2.2.2.1 != 0, ())))
  (some (false, ())) : Option (Bool × Unit)).bind fun j10 =>
  br k (j10.1)
  (some ((false, ()), ((), (), ())))
  (br k (l_.1 == 10)
  ((bd k (spec_l1In k (l_.2.2.2.2.1, 1, 3, ())) fun y11 =>
  br k (y11.1.1)
  (some (l_.2.2.2.2.2.1 == 0, ()))
  (some (false, ())) : Option (Bool × Unit)).bind fun j12 =>
  some ((j12.1, ()), ((), (), ())))
  ((br k (y1.1.2.2.2.1)
  (bd k (spec_l1In k (l_.2.2.2.2.1, (-999999999999999999), 999999999999999999, ())) fun y13 =>
  br k (!y13.1.1)
  (some (true, ()))
  (bd k (spec_l1In k (l_.2.2.2.2.2.1, l_.2.2.2.2.1, 999999999999999999, ())) fun y14 =>
  some (!y14.1.1, ())))
  (some (false, ())) : Option (Bool × Unit)).bind fun j15 =>
  br k (j15.1)
  (some ((false, ()), ((), (), ())))
  ((br k (l_.1 != 13)
  (some (true, ()))
  (some (decide (l_.2.2.2.2.2.1 ≤ (IntKind.wrap .i64 (l_.2.2.2.2.1 + 3))), ())) : Option (Bool × Unit)).bind fun j16 =>
  some ((j16.1, ()), ((), (), ())))))))))
noncomputable def spec_l4Line.sg (k : Nat) : Sig := ⟨spec_l4Line.A, spec_l4Line.R, spec_l4Line k⟩
noncomputable def spec_l4Line.C (k : Nat) : Ctx := ⟨Tryz.prog, [(81, [spec_l4Uses.sg k]), (21, [spec_l1In.sg k]), (82, [spec_ExprOk.sg k])], k⟩
theorem spec_l4Line.ev (k : Nat) (x : spec_l4Line.A.T) : evFunc (spec_l4Line.C k) spec_l4Line.ann Tryz.f45 spec_l4Line.A spec_l4Line.R x = spec_l4Line k x := by kernel_rfl
theorem spec_l4Line.ok {L : List (Nat × Obj)}  (k : Nat) : SigHolds Tryz.prog L 45 (spec_l4Line.sg k) :=
  sig_of_ev (C := spec_l4Line.C k) (holds_cons (allok_cons (spec_l4Uses.ok k) allok_nil) (holds_cons (allok_cons (spec_l1In.ok k) allok_nil) (holds_cons (allok_cons (spec_ExprOk.ok k) allok_nil) holds_nil))) (by kernel_rfl) Tryz.func45 (by kernel_rfl) spec_l4Line.ann spec_l4Line.A spec_l4Line.R (fun x y h => (spec_l4Line.ev k x).trans h) (by kernel_rfl)

/-! loop.example/g00719/spec.l4Loops -/
def spec_l4Loops.A : Sh := (.cons (.pur (.int .i64)) .nil)
def spec_l4Loops.R : Sh := (.cons (.pur .bool) .nil)
def spec_l4Loops.ann : Ann := { loops := [], joins := [(1, [(2, .bool)])], keys := [] }
noncomputable def spec_l4Loops (k : Nat) : (Int × Unit) → Option ((Bool × Unit) × (Unit × Unit)) := fun x => match x with
 | (kind, ()) =>
  (br k (kind == 9)
  (some (true, ()))
  (some (kind == 10, ())) : Option (Bool × Unit)).bind fun j1 =>
  some ((j1.1, ()), ((), ()))
noncomputable def spec_l4Loops.sg (k : Nat) : Sig := ⟨spec_l4Loops.A, spec_l4Loops.R, spec_l4Loops k⟩
noncomputable def spec_l4Loops.C (k : Nat) : Ctx := ⟨Tryz.prog, [], k⟩
theorem spec_l4Loops.ev (k : Nat) (x : spec_l4Loops.A.T) : evFunc (spec_l4Loops.C k) spec_l4Loops.ann Tryz.f84 spec_l4Loops.A spec_l4Loops.R x = spec_l4Loops k x := by kernel_rfl
theorem spec_l4Loops.ok {L : List (Nat × Obj)}  (k : Nat) : SigHolds Tryz.prog L 84 (spec_l4Loops.sg k) :=
  sig_of_ev (C := spec_l4Loops.C k) holds_nil (by kernel_rfl) Tryz.func84 (by kernel_rfl) spec_l4Loops.ann spec_l4Loops.A spec_l4Loops.R (fun x y h => (spec_l4Loops.ev k x).trans h) (by kernel_rfl)

/-! loop.example/g00719/spec.l4Opens -/
def spec_l4Opens.A : Sh := (.cons (.pur (.int .i64)) .nil)
def spec_l4Opens.R : Sh := (.cons (.pur .bool) .nil)
def spec_l4Opens.ann : Ann := { loops := [], joins := [(1, [(2, .bool)])], keys := [] }
noncomputable def spec_l4Opens (k : Nat) : (Int × Unit) → Option ((Bool × Unit) × (Unit × Unit)) := fun x => match x with
 | (kind, ()) =>
  (br k (kind == 5)
  (some (true, ()))
  (br k (kind == 6)
  (some (true, ()))
  (bd k (spec_l4Loops k (kind, ())) fun y1 =>
  some (y1.1.1, ()))) : Option (Bool × Unit)).bind fun j2 =>
  some ((j2.1, ()), ((), ()))
noncomputable def spec_l4Opens.sg (k : Nat) : Sig := ⟨spec_l4Opens.A, spec_l4Opens.R, spec_l4Opens k⟩
noncomputable def spec_l4Opens.C (k : Nat) : Ctx := ⟨Tryz.prog, [(84, [spec_l4Loops.sg k])], k⟩
theorem spec_l4Opens.ev (k : Nat) (x : spec_l4Opens.A.T) : evFunc (spec_l4Opens.C k) spec_l4Opens.ann Tryz.f83 spec_l4Opens.A spec_l4Opens.R x = spec_l4Opens k x := by kernel_rfl
theorem spec_l4Opens.ok {L : List (Nat × Obj)}  (k : Nat) : SigHolds Tryz.prog L 83 (spec_l4Opens.sg k) :=
  sig_of_ev (C := spec_l4Opens.C k) (holds_cons (allok_cons (spec_l4Loops.ok k) allok_nil) holds_nil) (by kernel_rfl) Tryz.func83 (by kernel_rfl) spec_l4Opens.ann spec_l4Opens.A spec_l4Opens.R (fun x y h => (spec_l4Opens.ev k x).trans h) (by kernel_rfl)

/-! loop.example/g00719/spec.l4Targets -/
def spec_l4Targets.A : Sh := (.cons (.pur (.sl false (.cons (.int .i64) (.cons (.int .i64) (.cons (.sl false (.cons (.int .i64) (.cons (.int .i64) .nil))) (.cons (.sl false (.cons (.int .i64) (.cons (.int .i64) .nil))) (.cons (.int .i64) (.cons (.int .i64) .nil)))))))) .nil)
def spec_l4Targets.R : Sh := (.cons (.own (.int .i64)) (.cons (.pur (.int .i64)) .nil))
def spec_l4Targets.ann : Ann := { loops := [(0, [(0, (.pur (.sl false (.cons (.int .i64) (.cons (.int .i64) (.cons (.sl false (.cons (.int .i64) (.cons (.int .i64) .nil))) (.cons (.sl false (.cons (.int .i64) (.cons (.int .i64) .nil))) (.cons (.int .i64) (.cons (.int .i64) .nil))))))))), (4, (.own (.int .i64))), (5, (.own (.int .i64))), (6, (.pur (.int .i64)))])], joins := [(13, [(65, .bool)])], keys := [] }
noncomputable def spec_l4Targets.l0 (k : Nat)  (G0 : ((List (Int × Int × (List (Int × Int × Unit)) × (List (Int × Int × Unit)) × Int × Int × Unit)) × (List Int) × (List Int) × Int × Unit) → Option (((List Int) × Int × Unit) × (Unit × Unit))) : ((List (Int × Int × (List (Int × Int × Unit)) × (List (Int × Int × Unit)) × Int × Int × Unit)) × (List Int) × (List Int) × Int × Unit) → Option (((List Int) × Int × Unit) × (Unit × Unit)) := fun x => match x with
 | (l_, out_, open_, i, ()) =>
  br k (decide (i < (l_.length : Int)))
  (br k (decide ((out_.length + ([IntKind.wrap .i64 (i + 1)] : List Int).length) * 8 ≤ maxBytes))
  (br k (decide ((open_.length : Int) > 0))
  (br k (decide (0 ≤ (IntKind.wrap .i64 ((open_.length : Int) - 1)) ∧ (IntKind.wrap .i64 ((open_.length : Int) - 1)) < (open_.length : Int)))
  (bd k (open_[(IntKind.wrap .i64 ((open_.length : Int) - 1)).toNat]?) fun x1 =>
  br k (decide (0 ≤ i))
  (bd k (l_[i.toNat]?) fun x2 =>
  bd k (spec_l4Opens k (x2.1, ())) fun y3 =>
  br k (y3.1.1)
  (br k (decide ((open_.length + ([i] : List Int).length) * 8 ≤ maxBytes))
  (G0 (l_, out_ ++ ([IntKind.wrap .i64 (i + 1)] : List Int), open_ ++ ([i] : List Int), IntKind.wrap .i64 (i + 1), ()))
  none)
  (br k (decide (0 ≤ i))
  (bd k (l_[i.toNat]?) fun x4 =>
  br k (x4.1 == 7)
  ((br k (decide (x1 < 0))
  (some (true, ()))
  (br k (decide (0 ≤ x1))
  (bd k (l_[x1.toNat]?) fun x5 =>
  br k (x5.1 != 5)
  (br k (decide (0 ≤ x1))
  (bd k (l_[x1.toNat]?) fun x6 =>
  some (x6.1 != 6, ()))
  none)
  (some (false, ())))
  none) : Option (Bool × Unit)).bind fun j7 =>
  br k (j7.1)
  (some (([], i, ()), ((), ())))
  (br k (decide (0 ≤ x1 ∧ x1 < ((out_ ++ ([IntKind.wrap .i64 (i + 1)] : List Int)).length : Int)))
  (bd k ((out_ ++ ([IntKind.wrap .i64 (i + 1)] : List Int))[x1.toNat]?) fun x8 =>
  br k (decide (0 ≤ (IntKind.wrap .i64 ((open_.length : Int) - 1)) ∧ (IntKind.wrap .i64 ((open_.length : Int) - 1)) < (open_.length : Int)))
  (bd k (open_[(IntKind.wrap .i64 ((open_.length : Int) - 1)).toNat]?) fun x9 =>
  G0 (l_, (out_ ++ ([IntKind.wrap .i64 (i + 1)] : List Int)).set x1.toNat (IntKind.wrap .i64 (i + 1)), open_.set ((IntKind.wrap .i64 ((open_.length : Int) - 1)).toNat) i, IntKind.wrap .i64 (i + 1), ()))
  none)
  none))
  (br k (decide (0 ≤ i))
  (bd k (l_[i.toNat]?) fun x10 =>
  br k (x10.1 == 8)
  (br k (decide (x1 < 0))
  (some (([], i, ()), ((), ())))
  (br k (decide (0 ≤ (IntKind.wrap .i64 ((open_.length : Int) - 1)) ∧ (IntKind.wrap .i64 ((open_.length : Int) - 1)) ≤ (open_.length : Int)))
  (br k (decide (0 ≤ x1 ∧ x1 < ((out_ ++ ([IntKind.wrap .i64 (i + 1)] : List Int)).length : Int)))
  (bd k ((out_ ++ ([IntKind.wrap .i64 (i + 1)] : List Int))[x1.toNat]?) fun x11 =>
  br k (decide (0 ≤ x1))
  (bd k (l_[x1.toNat]?) fun x12 =>
  bd k (spec_l4Loops k (x12.1, ())) fun y13 =>
  br k (y13.1.1)
  (br k (decide (0 ≤ x1 ∧ x1 < (((out_ ++ ([IntKind.wrap .i64 (i + 1)] : List Int)).set x1.toNat i).length : Int)))
  (bd k (((out_ ++ ([IntKind.wrap .i64 (i + 1)] : List Int)).set x1.toNat i)[x1.toNat]?) fun x14 =>
  br k (decide (0 ≤ i ∧ i < ((((out_ ++ ([IntKind.wrap .i64 (i + 1)] : List Int)).set x1.toNat i).set x1.toNat (IntKind.wrap .i64 (i + 1))).length : Int)))
  (bd k ((((out_ ++ ([IntKind.wrap .i64 (i + 1)] : List Int)).set x1.toNat i).set x1.toNat (IntKind.wrap .i64 (i + 1)))[i.toNat]?) fun x15 =>
  G0 (l_, (((out_ ++ ([IntKind.wrap .i64 (i + 1)] : List Int)).set x1.toNat i).set x1.toNat (IntKind.wrap .i64 (i + 1))).set i.toNat x1, subL open_ ((0 : Int).toNat) ((IntKind.wrap .i64 ((open_.length : Int) - 1)).toNat - (0 : Int).toNat), IntKind.wrap .i64 (i + 1), ()))
  none)
  none)
  (G0 (l_, (out_ ++ ([IntKind.wrap .i64 (i + 1)] : List Int)).set x1.toNat i, subL open_ ((0 : Int).toNat) ((IntKind.wrap .i64 ((open_.length : Int) - 1)).toNat - (0 : Int).toNat), IntKind.wrap .i64 (i + 1), ())))
  none)
  none)
  none))
  (G0 (l_, out_ ++ ([IntKind.wrap .i64 (i + 1)] : List Int), open_, IntKind.wrap .i64 (i + 1), ())))
  none))
  none))
  none)
  none)
  (br k (decide (0 ≤ i))
  (bd k (l_[i.toNat]?) fun x16 =>
  bd k (spec_l4Opens k (x16.1, ())) fun y17 =>
  br k (y17.1.1)
  (br k (decide ((open_.length + ([i] : List Int).length) * 8 ≤ maxBytes))
  (G0 (l_, out_ ++ ([IntKind.wrap .i64 (i + 1)] : List Int), open_ ++ ([i] : List Int), IntKind.wrap .i64 (i + 1), ()))
  none)
  (br k (decide (0 ≤ i))
  (bd k (l_[i.toNat]?) fun x18 =>
  br k (x18.1 == 7)
  ((br k (decide ((-1 : Int) < 0))
  (some (true, ()))
  (br k (decide (0 ≤ (-1 : Int)))
  (bd k (l_[(-1 : Int).toNat]?) fun x19 =>
  br k (x19.1 != 5)
  (br k (decide (0 ≤ (-1 : Int)))
  (bd k (l_[(-1 : Int).toNat]?) fun x20 =>
  some (x20.1 != 6, ()))
  none)
  (some (false, ())))
  none) : Option (Bool × Unit)).bind fun j21 =>
  br k (j21.1)
  (some (([], i, ()), ((), ())))
  (br k (decide (0 ≤ (-1 : Int) ∧ (-1 : Int) < ((out_ ++ ([IntKind.wrap .i64 (i + 1)] : List Int)).length : Int)))
  (bd k ((out_ ++ ([IntKind.wrap .i64 (i + 1)] : List Int))[(-1 : Int).toNat]?) fun x22 =>
  br k (decide (0 ≤ (IntKind.wrap .i64 ((open_.length : Int) - 1)) ∧ (IntKind.wrap .i64 ((open_.length : Int) - 1)) < (open_.length : Int)))
  (bd k (open_[(IntKind.wrap .i64 ((open_.length : Int) - 1)).toNat]?) fun x23 =>
  G0 (l_, (out_ ++ ([IntKind.wrap .i64 (i + 1)] : List Int)).set ((-1 : Int).toNat) (IntKind.wrap .i64 (i + 1)), open_.set ((IntKind.wrap .i64 ((open_.length : Int) - 1)).toNat) i, IntKind.wrap .i64 (i + 1), ()))
  none)
  none))
  (br k (decide (0 ≤ i))
  (bd k (l_[i.toNat]?) fun x24 =>
  br k (x24.1 == 8)
  (br k (decide ((-1 : Int) < 0))
  (some (([], i, ()), ((), ())))
  (br k (decide (0 ≤ (IntKind.wrap .i64 ((open_.length : Int) - 1)) ∧ (IntKind.wrap .i64 ((open_.length : Int) - 1)) ≤ (open_.length : Int)))
  (br k (decide (0 ≤ (-1 : Int) ∧ (-1 : Int) < ((out_ ++ ([IntKind.wrap .i64 (i + 1)] : List Int)).length : Int)))
  (bd k ((out_ ++ ([IntKind.wrap .i64 (i + 1)] : List Int))[(-1 : Int).toNat]?) fun x25 =>
  br k (decide (0 ≤ (-1 : Int)))
  (bd k (l_[(-1 : Int).toNat]?) fun x26 =>
  bd k (spec_l4Loops k (x26.1, ())) fun y27 =>
  br k (y27.1.1)
  (br k (decide (0 ≤ (-1 : Int) ∧ (-1 : Int) < (((out_ ++ ([IntKind.wrap .i64 (i + 1)] : List Int)).set ((-1 : Int).toNat) i).length : Int)))
  (bd k (((out_ ++ ([IntKind.wrap .i64 (i + 1)] : List Int)).set ((-1 : Int).toNat) i)[(-1 : Int).toNat]?) fun x28 =>
  br k (decide (0 ≤ i ∧ i < ((((out_ ++ ([IntKind.wrap .i64 (i + 1)] : List Int)).set ((-1 : Int).toNat) i).set ((-1 : Int).toNat) (IntKind.wrap .i64 (i + 1))).length : Int)))
  (bd k ((((out_ ++ ([IntKind.wrap .i64 (i + 1)] : List Int)).set ((-1 : Int).toNat) i).set ((-1 : Int).toNat) (IntKind.wrap .i64 (i + 1)))[i.toNat]?) fun x29 =>
  G0 (l_, (((out_ ++ ([IntKind.wrap .i64 (i + 1)] : List Int)).set ((-1 : Int).toNat) i).set ((-1 : Int).toNat) (IntKind.wrap .i64 (i + 1))).set i.toNat (-1), subL open_ ((0 : Int).toNat) ((IntKind.wrap .i64 ((open_.length : Int) - 1)).toNat - (0 : Int).toNat), IntKind.wrap .i64 (i + 1), ()))
  none)
  none)
  (G0 (l_, (out_ ++ ([IntKind.wrap .i64 (i + 1)] : List Int)).set ((-1 : Int).toNat) i, subL open_ ((0 : Int).toNat) ((IntKind.wrap .i64 ((open_.length : Int) - 1)).toNat - (0 : Int).toNat), IntKind.wrap .i64 (i + 1), ())))
  none)
  none)
  none))
  (G0 (l_, out_ ++ ([IntKind.wrap .i64 (i + 1)] : List Int), open_, IntKind.wrap .i64 (i + 1), ())))
  none))
  none))
  none))
  none)
  (br k (decide ((open_.length : Int) > 0))
  (some (([], (l_.length : Int), ()), ((), ())))
  (some ((out_, IntKind.wrap .i64 ((l_.length : Int) + 1), ()), ((), ()))))
noncomputable def spec_l4Targets (k : Nat) : ((List (Int × Int × (List (Int × Int × Unit)) × (List (Int × Int × Unit)) × Int × Int × Unit)) × Unit) → Option (((List Int) × Int × Unit) × (Unit × Unit)) := fun x => match x with
 | (l_, ()) =>
  iter (spec_l4Targets.l0 k) k (l_, ([] : List Int), ([] : List Int), 0, ())
noncomputable def spec_l4Targets.sg (k : Nat) : Sig := ⟨spec_l4Targets.A, spec_l4Targets.R, spec_l4Targets k⟩
noncomputable def spec_l4Targets.C (k : Nat) : Ctx := ⟨Tryz.prog, [(83, [spec_l4Opens.sg k]), (84, [spec_l4Loops.sg k])], k⟩
theorem spec_l4Targets.ev (k : Nat) (x : spec_l4Targets.A.T) : evFunc (spec_l4Targets.C k) spec_l4Targets.ann Tryz.f46 spec_l4Targets.A spec_l4Targets.R x = spec_l4Targets k x := by kernel_rfl
theorem spec_l4Targets.ok {L : List (Nat × Obj)}  (k : Nat) : SigHolds Tryz.prog L 46 (spec_l4Targets.sg k) :=
  sig_of_ev (C := spec_l4Targets.C k) (holds_cons (allok_cons (spec_l4Opens.ok k) allok_nil) (holds_cons (allok_cons (spec_l4Loops.ok k) allok_nil) holds_nil)) (by kernel_rfl) Tryz.func46 (by kernel_rfl) spec_l4Targets.ann spec_l4Targets.A spec_l4Targets.R (fun x y h => (spec_l4Targets.ev k x).trans h) (by kernel_rfl)

/-! loop.example/g00719/spec.ProgOk -/
def spec_ProgOk.A : Sh := (.cons (.pur (.cons (.sl false .str) (.cons (.sl false .str) (.cons (.sl false (.cons .str (.cons (.int .i64) .nil))) (.cons (.sl false (.cons (.int .i64) (.cons (.int .i64) (.cons (.sl false (.cons (.int .i64) (.cons (.int .i64) .nil))) (.cons (.sl false (.cons (.int .i64) (.cons (.int .i64) .nil))) (.cons (.int .i64) (.cons (.int .i64) .nil))))))) .nil))))) .nil)
def spec_ProgOk.R : Sh := (.cons (.pur .bool) .nil)
def spec_ProgOk.ann : Ann := { loops := [(0, [(1, (.box (.cons (.pur (.sl false .str)) (.cons (.pur (.sl false .str)) (.cons (.pur (.sl false (.cons .str (.cons (.int .i64) .nil)))) (.cons (.pur (.sl false (.cons (.int .i64) (.cons (.int .i64) (.cons (.sl false (.cons (.int .i64) (.cons (.int .i64) .nil))) (.cons (.sl false (.cons (.int .i64) (.cons (.int .i64) .nil))) (.cons (.int .i64) (.cons (.int .i64) .nil)))))))) .nil)))))), (3, (.pur (.int .i64)))])], joins := [(1, [(15, .bool)])], keys := [] }
noncomputable def spec_ProgOk.l0 (k : Nat)  (G0 : (((List (List UInt8)) × (List (List UInt8)) × (List ((List UInt8) × Int × Unit)) × (List (Int × Int × (List (Int × Int × Unit)) × (List (Int × Int × Unit)) × Int × Int × Unit)) × Unit) × Int × Unit) → Option ((Bool × Unit) × (Unit × Unit))) : (((List (List UInt8)) × (List (List UInt8)) × (List ((List UInt8) × Int × Unit)) × (List (Int × Int × (List (Int × Int × Unit)) × (List (Int × Int × Unit)) × Int × Int × Unit)) × Unit) × Int × Unit) → Option ((Bool × Unit) × (Unit × Unit)) := fun x => match x with
 | ((p_0, p_1, p_2, p_3, ()), i, ()) =>
  br k (decide (i < (p_3.length : Int)))
  (br k (decide (0 ≤ i))
  (bd k (p_3[i.toNat]?) fun x3 =>
  bd k (spec_l4Line k ((p_0, p_1, p_2, ()), x3, ())) fun y4 =>
  br k (!y4.1.1)
  (some ((false, ()), ((), ())))
  (G0 ((p_0, p_1, p_2, p_3, ()), IntKind.wrap .i64 (i + 1), ())))
  none)
  (bd k (spec_l4Targets k (p_3, ())) fun y5 =>
  some ((decide (y5.1.2.1 > (p_3.length : Int)), ()), ((), ())))
noncomputable def spec_ProgOk (k : Nat) : (((List (List UInt8)) × (List (List UInt8)) × (List ((List UInt8) × Int × Unit)) × (List (Int × Int × (List (Int × Int × Unit)) × (List (Int × Int × Unit)) × Int × Int × Unit)) × Unit) × Unit) → Option ((Bool × Unit) × (Unit × Unit)) := fun x => match x with
 | (p, ()) =>
  (bd k (spec_DeclOk k ((p.1, p.2.1, p.2.2.1, ()), ())) fun y1 =>
  br k (!y1.1.1)
  (some (true, ()))
  (some (decide ((p.2.2.2.1.length : Int) > 30), ())) : Option (Bool × Unit)).bind fun j2 =>
  br k (j2.1)
  (some ((false, ()), ((), ())))
  (iter (spec_ProgOk.l0 k) k ((p.1, p.2.1, p.2.2.1, p.2.2.2.1, ()), 0, ()))
noncomputable def spec_ProgOk.sg (k : Nat) : Sig := ⟨spec_ProgOk.A, spec_ProgOk.R, spec_ProgOk k⟩
noncomputable def spec_ProgOk.C (k : Nat) : Ctx := ⟨Tryz.prog, [(44, [spec_DeclOk.sg k]), (45, [spec_l4Line.sg k]), (46, [spec_l4Targets.sg k])], k⟩
theorem spec_ProgOk.ev (k : Nat) (x : spec_ProgOk.A.T) : evFunc (spec_ProgOk.C k) spec_ProgOk.ann Tryz.f20 spec_ProgOk.A spec_ProgOk.R x = spec_ProgOk k x := by kernel_rfl
theorem spec_ProgOk.ok {L : List (Nat × Obj)}  (k : Nat) : SigHolds Tryz.prog L 20 (spec_ProgOk.sg k) :=
  sig_of_ev (C := spec_ProgOk.C k) (holds_cons (allok_cons (spec_DeclOk.ok k) allok_nil) (holds_cons (allok_cons (spec_l4Line.ok k) allok_nil) (holds_cons (allok_cons (spec_l4Targets.ok k) allok_nil) holds_nil))) (by kernel_rfl) Tryz.func20 (by kernel_rfl) spec_ProgOk.ann spec_ProgOk.A spec_ProgOk.R (fun x y h => (spec_ProgOk.ev k x).trans h) (by kernel_rfl)

/-! loop.example/g00719/spec.TokenOk -/
def spec_TokenOk.A : Sh := (.cons (.pur (.sl false (.cons (.int .i64) (.cons (.int .i64) .nil)))) .nil)
def spec_TokenOk.R : Sh := (.cons (.pur .bool) .nil)
def spec_TokenOk.ann : Ann := { loops := [(0, [(0, (.pur (.sl false (.cons (.int .i64) (.cons (.int .i64) .nil))))), (3, (.pur (.int .i64)))])], joins := [(6, [(28, .bool)])], keys := [] }
noncomputable def spec_TokenOk.l0 (k : Nat)  (G0 : ((List (Int × Int × Unit)) × Int × Unit) → Option ((Bool × Unit) × (Unit × Unit))) : ((List (Int × Int × Unit)) × Int × Unit) → Option ((Bool × Unit) × (Unit × Unit)) := fun x => match x with
 | (t, i, ()) =>
  br k (decide (i < (t.length : Int)))
  ((br k (decide (0 ≤ i))
  (bd k (t[i.toNat]?) fun x1 =>
  bd k (spec_l1In k (x1.1, 0, 29, ())) fun y2 =>
  br k (!y2.1.1)
  (some (true, ()))
  (br k (decide (0 ≤ i))
  (bd k (t[i.toNat]?) fun x3 =>
  bd k (spec_l1In k (x3.2.1, 0, 4, ())) fun y4 =>
  some (!y4.1.1, ()))
  none))
  none : Option (Bool × Unit)).bind fun j5 =>
  br k (j5.1)
  (some ((false, ()), ((), ())))
  (G0 (t, IntKind.wrap .i64 (i + 1), ())))
  (some ((true, ()), ((), ())))
noncomputable def spec_TokenOk (k : Nat) : ((List (Int × Int × Unit)) × Unit) → Option ((Bool × Unit) × (Unit × Unit)) := fun x => match x with
 | (t, ()) =>
  br k (decide ((t.length : Int) > 3))
  (some ((false, ()), ((), ())))
  (iter (spec_TokenOk.l0 k) k (t, 0, ()))
noncomputable def spec_TokenOk.sg (k : Nat) : Sig := ⟨spec_TokenOk.A, spec_TokenOk.R, spec_TokenOk k⟩
noncomputable def spec_TokenOk.C (k : Nat) : Ctx := ⟨Tryz.prog, [(21, [spec_l1In.sg k])], k⟩
theorem spec_TokenOk.ev (k : Nat) (x : spec_TokenOk.A.T) : evFunc (spec_TokenOk.C k) spec_TokenOk.ann Tryz.f49 spec_TokenOk.A spec_TokenOk.R x = spec_TokenOk k x := by kernel_rfl
theorem spec_TokenOk.ok {L : List (Nat × Obj)}  (k : Nat) : SigHolds Tryz.prog L 49 (spec_TokenOk.sg k) :=
  sig_of_ev (C := spec_TokenOk.C k) (holds_cons (allok_cons (spec_l1In.ok k) allok_nil) holds_nil) (by kernel_rfl) Tryz.func49 (by kernel_rfl) spec_TokenOk.ann spec_TokenOk.A spec_TokenOk.R (fun x y h => (spec_TokenOk.ev k x).trans h) (by kernel_rfl)

/-! loop.example/g00719/spec.l9Cmp -/
def spec_l9Cmp.A : Sh := (.cons (.pur (.sl false (.cons (.int .i64) (.cons (.int .i64) .nil)))) (.cons (.pur (.sl false (.cons (.int .i64) (.cons (.int .i64) .nil)))) .nil))
def spec_l9Cmp.R : Sh := (.cons (.pur (.int .i64)) .nil)
def spec_l9Cmp.ann : Ann := { loops := [(0, [(0, (.pur (.sl false (.cons (.int .i64) (.cons (.int .i64) .nil))))), (1, (.pur (.sl false (.cons (.int .i64) (.cons (.int .i64) .nil))))), (5, (.pur (.int .i64)))])], joins := [], keys := [] }
noncomputable def spec_l9Cmp.l0 (k : Nat)  (G0 : ((List (Int × Int × Unit)) × (List (Int × Int × Unit)) × Int × Unit) → Option ((Int × Unit) × (Unit × Unit × Unit))) : ((List (Int × Int × Unit)) × (List (Int × Int × Unit)) × Int × Unit) → Option ((Int × Unit) × (Unit × Unit × Unit)) := fun x => match x with
 | (a, b_, i, ()) =>
  br k (decide (i < (a.length : Int)))
  (br k (decide (0 ≤ i))
  (bd k (a[i.toNat]?) fun x1 =>
  br k (decide (0 ≤ i))
  (bd k (a[i.toNat]?) fun x2 =>
  br k (decide (0 ≤ i))
  (bd k (b_[i.toNat]?) fun x3 =>
  br k (decide (0 ≤ i))
  (bd k (b_[i.toNat]?) fun x4 =>
  br k (decide ((IntKind.wrap .i64 ((IntKind.wrap .i64 (10 * x1.1)) + x2.2.1)) < (IntKind.wrap .i64 ((IntKind.wrap .i64 (10 * x3.1)) + x4.2.1))))
  (some (((-1), ()), ((), (), ())))
  (br k (decide ((IntKind.wrap .i64 ((IntKind.wrap .i64 (10 * x1.1)) + x2.2.1)) > (IntKind.wrap .i64 ((IntKind.wrap .i64 (10 * x3.1)) + x4.2.1))))
  (some ((1, ()), ((), (), ())))
  (G0 (a, b_, IntKind.wrap .i64 (i + 1), ()))))
  none)
  none)
  none)
  none)
  (some ((0, ()), ((), (), ())))
noncomputable def spec_l9Cmp (k : Nat) : ((List (Int × Int × Unit)) × (List (Int × Int × Unit)) × Unit) → Option ((Int × Unit) × (Unit × Unit × Unit)) := fun x => match x with
 | (a, b_, ()) =>
  br k ((a.length : Int) != (b_.length : Int))
  (br k (decide ((a.length : Int) < (b_.length : Int)))
  (some (((-1), ()), ((), (), ())))
  (some ((1, ()), ((), (), ()))))
  (iter (spec_l9Cmp.l0 k) k (a, b_, 0, ()))
noncomputable def spec_l9Cmp.sg (k : Nat) : Sig := ⟨spec_l9Cmp.A, spec_l9Cmp.R, spec_l9Cmp k⟩
noncomputable def spec_l9Cmp.C (k : Nat) : Ctx := ⟨Tryz.prog, [], k⟩
theorem spec_l9Cmp.ev (k : Nat) (x : spec_l9Cmp.A.T) : evFunc (spec_l9Cmp.C k) spec_l9Cmp.ann Tryz.f85 spec_l9Cmp.A spec_l9Cmp.R x = spec_l9Cmp k x := by kernel_rfl
theorem spec_l9Cmp.ok {L : List (Nat × Obj)}  (k : Nat) : SigHolds Tryz.prog L 85 (spec_l9Cmp.sg k) :=
  sig_of_ev (C := spec_l9Cmp.C k) holds_nil (by kernel_rfl) Tryz.func85 (by kernel_rfl) spec_l9Cmp.ann spec_l9Cmp.A spec_l9Cmp.R (fun x y h => (spec_l9Cmp.ev k x).trans h) (by kernel_rfl)

/-! loop.example/g00719/spec.l8Size -/
def spec_l8Size.A : Sh := (.cons (.pur (.cons (.sl false .str) (.cons (.sl false .str) (.cons (.sl false (.cons .str (.cons (.int .i64) .nil))) .nil)))) .nil)
def spec_l8Size.R : Sh := (.cons (.pur (.int .i64)) .nil)
def spec_l8Size.ann : Ann := { loops := [], joins := [], keys := [] }
noncomputable def spec_l8Size (k : Nat) : (((List (List UInt8)) × (List (List UInt8)) × (List ((List UInt8) × Int × Unit)) × Unit) × Unit) → Option ((Int × Unit) × (Unit × Unit)) := fun x => match x with
 | (d_, ()) =>
  br k (decide (0 ≤ (IntKind.wrap .u64 (d_.2.1.length : Int))))
  (some ((IntKind.wrap .i64 (1 * 2 ^ (min (IntKind.wrap .u64 (d_.2.1.length : Int)).toNat 64)), ()), ((), ())))
  none
noncomputable def spec_l8Size.sg (k : Nat) : Sig := ⟨spec_l8Size.A, spec_l8Size.R, spec_l8Size k⟩
noncomputable def spec_l8Size.C (k : Nat) : Ctx := ⟨Tryz.prog, [], k⟩
theorem spec_l8Size.ev (k : Nat) (x : spec_l8Size.A.T) : evFunc (spec_l8Size.C k) spec_l8Size.ann Tryz.f124 spec_l8Size.A spec_l8Size.R x = spec_l8Size k x := by kernel_rfl
theorem spec_l8Size.ok {L : List (Nat × Obj)}  (k : Nat) : SigHolds Tryz.prog L 124 (spec_l8Size.sg k) :=
  sig_of_ev (C := spec_l8Size.C k) holds_nil (by kernel_rfl) Tryz.func124 (by kernel_rfl) spec_l8Size.ann spec_l8Size.A spec_l8Size.R (fun x y h => (spec_l8Size.ev k x).trans h) (by kernel_rfl)

/-! loop.example/g00719/spec.l6List -/
def spec_l6List.A : Sh := (.cons (.pur (.cons .bool (.cons (.sl false (.cons (.int .i64) (.cons (.int .i64) .nil))) (.cons (.sl false (.cons (.int .i64) (.cons (.int .i64) .nil))) .nil)))) .nil)
def spec_l6List.R : Sh := (.cons (.own (.cons (.int .i64) (.cons (.int .i64) .nil))) .nil)
def spec_l6List.ann : Ann := { loops := [], joins := [], keys := [(1, [([3], true), ([1], false), ([1], false), ([3, 6], true), ([1], false), ([1], false), ([6, 9], true), ([], false)])] }
noncomputable def spec_l6List (k : Nat) : ((Bool × (List (Int × Int × Unit)) × (List (Int × Int × Unit)) × Unit) × Unit) → Option (((List (Int × Int × Unit)) × Unit) × (Unit × Unit)) := fun x => match x with
 | (e_, ()) =>
  br k (decide ((([] : List (Int × Int × Unit)).length + e_.2.1.length) * 16 ≤ maxBytes))
  (br k (decide (((([] : List (Int × Int × Unit)) ++ e_.2.1).length + e_.2.2.1.length) * 16 ≤ maxBytes))
  (some (((([] : List (Int × Int × Unit)) ++ e_.2.1) ++ e_.2.2.1, ()), ((), ())))
  none)
  none
noncomputable def spec_l6List.sg (k : Nat) : Sig := ⟨spec_l6List.A, spec_l6List.R, spec_l6List k⟩
noncomputable def spec_l6List.C (k : Nat) : Ctx := ⟨Tryz.prog, [], k⟩
theorem spec_l6List.ev (k : Nat) (x : spec_l6List.A.T) : evFunc (spec_l6List.C k) spec_l6List.ann Tryz.f156 spec_l6List.A spec_l6List.R x = spec_l6List k x := by kernel_rfl
theorem spec_l6List.ok {L : List (Nat × Obj)}  (k : Nat) : SigHolds Tryz.prog L 156 (spec_l6List.sg k) :=
  sig_of_ev (C := spec_l6List.C k) holds_nil (by kernel_rfl) Tryz.func156 (by kernel_rfl) spec_l6List.ann spec_l6List.A spec_l6List.R (fun x y h => (spec_l6List.ev k x).trans h) (by kernel_rfl)

/-! loop.example/g00719/spec.IvOk -/
def spec_IvOk.A : Sh := (.cons (.pur (.cons (.int .i64) (.cons (.int .i64) .nil))) .nil)
def spec_IvOk.R : Sh := (.cons (.pur .bool) .nil)
def spec_IvOk.ann : Ann := { loops := [], joins := [], keys := [] }
noncomputable def spec_IvOk (k : Nat) : ((Int × Int × Unit) × Unit) → Option ((Bool × Unit) × (Unit × Unit)) := fun x => match x with
 | (a, ()) =>
  some ((decide (a.1 ≤ a.2.1), ()), ((), ()))
noncomputable def spec_IvOk.sg (k : Nat) : Sig := ⟨spec_IvOk.A, spec_IvOk.R, spec_IvOk k⟩
noncomputable def spec_IvOk.C (k : Nat) : Ctx := ⟨Tryz.prog, [], k⟩
theorem spec_IvOk.ev (k : Nat) (x : spec_IvOk.A.T) : evFunc (spec_IvOk.C k) spec_IvOk.ann Tryz.f157 spec_IvOk.A spec_IvOk.R x = spec_IvOk k x := by kernel_rfl
theorem spec_IvOk.ok {L : List (Nat × Obj)}  (k : Nat) : SigHolds Tryz.prog L 157 (spec_IvOk.sg k) :=
  sig_of_ev (C := spec_IvOk.C k) holds_nil (by kernel_rfl) Tryz.func157 (by kernel_rfl) spec_IvOk.ann spec_IvOk.A spec_IvOk.R (fun x y h => (spec_IvOk.ev k x).trans h) (by kernel_rfl)

/-! loop.example/g00719/spec.EnvOk -/
def spec_EnvOk.A : Sh := (.cons (.pur (.cons (.sl false .str) (.cons (.sl false .str) (.cons (.sl false (.cons .str (.cons (.int .i64) .nil))) .nil)))) (.cons (.pur (.cons .bool (.cons (.sl false (.cons (.int .i64) (.cons (.int .i64) .nil))) (.cons (.sl false (.cons (.int .i64) (.cons (.int .i64) .nil))) .nil)))) .nil))
def spec_EnvOk.R : Sh := (.cons (.pur .bool) .nil)
def spec_EnvOk.ann : Ann := { loops := [(0, [(5, (.own (.cons (.int .i64) (.cons (.int .i64) .nil)))), (6, (.pur (.int .i64)))])], joins := [(4, [(4, .bool)]), (5, [(38, .bool)])], keys := [] }
noncomputable def spec_EnvOk.l0 (k : Nat)  (G0 : ((List (Int × Int × Unit)) × Int × Unit) → Option ((Bool × Unit) × (Unit × Unit × Unit))) : ((List (Int × Int × Unit)) × Int × Unit) → Option ((Bool × Unit) × (Unit × Unit × Unit)) := fun x => match x with
 | (l_, i, ()) =>
  br k (decide (i < (l_.length : Int)))
  (br k (decide (0 ≤ i ∧ i < (l_.length : Int)))
  (bd k (l_[i.toNat]?) fun x5 =>
  bd k (spec_IvOk k (x5, ())) fun y6 =>
  br k (!y6.1.1)
  (some ((false, ()), ((), (), ())))
  (G0 (l_, IntKind.wrap .i64 (i + 1), ())))
  none)
  (some ((true, ()), ((), (), ())))
noncomputable def spec_EnvOk (k : Nat) : (((List (List UInt8)) × (List (List UInt8)) × (List ((List UInt8) × Int × Unit)) × Unit) × (Bool × (List (Int × Int × Unit)) × (List (Int × Int × Unit)) × Unit) × Unit) → Option ((Bool × Unit) × (Unit × Unit × Unit)) := fun x => match x with
 | (d_, e_, ()) =>
  bd k (spec_DeclOk k (d_, ())) fun y1 =>
  br k (!y1.1.1)
  (some ((false, ()), ((), (), ())))
  (br k (!e_.1)
  ((br k ((e_.2.1.length : Int) == 0)
  (some ((e_.2.2.1.length : Int) == 0, ()))
  (some (false, ())) : Option (Bool × Unit)).bind fun j2 =>
  some ((j2.1, ()), ((), (), ())))
  ((br k ((e_.2.1.length : Int) != (d_.1.length : Int))
  (some (true, ()))
  (some ((e_.2.2.1.length : Int) != (d_.2.2.1.length : Int), ())) : Option (Bool × Unit)).bind fun j3 =>
  br k (j3.1)
  (some ((false, ()), ((), (), ())))
  (bd k (spec_l6List k (e_, ())) fun y4 =>
  iter (spec_EnvOk.l0 k) k (y4.1.1, 0, ()))))
noncomputable def spec_EnvOk.sg (k : Nat) : Sig := ⟨spec_EnvOk.A, spec_EnvOk.R, spec_EnvOk k⟩
noncomputable def spec_EnvOk.C (k : Nat) : Ctx := ⟨Tryz.prog, [(44, [spec_DeclOk.sg k]), (156, [spec_l6List.sg k]), (157, [spec_IvOk.sg k])], k⟩
theorem spec_EnvOk.ev (k : Nat) (x : spec_EnvOk.A.T) : evFunc (spec_EnvOk.C k) spec_EnvOk.ann Tryz.f125 spec_EnvOk.A spec_EnvOk.R x = spec_EnvOk k x := by kernel_rfl
theorem spec_EnvOk.ok {L : List (Nat × Obj)}  (k : Nat) : SigHolds Tryz.prog L 125 (spec_EnvOk.sg k) :=
  sig_of_ev (C := spec_EnvOk.C k) (holds_cons (allok_cons (spec_DeclOk.ok k) allok_nil) (holds_cons (allok_cons (spec_l6List.ok k) allok_nil) (holds_cons (allok_cons (spec_IvOk.ok k) allok_nil) holds_nil))) (by kernel_rfl) Tryz.func125 (by kernel_rfl) spec_EnvOk.ann spec_EnvOk.A spec_EnvOk.R (fun x y h => (spec_EnvOk.ev k x).trans h) (by kernel_rfl)

/-! loop.example/g00719/spec.TableOk -/
def spec_TableOk.A : Sh := (.cons (.pur (.cons (.sl false .str) (.cons (.sl false .str) (.cons (.sl false (.cons .str (.cons (.int .i64) .nil))) .nil)))) (.cons (.pur (.sl false (.cons .bool (.cons (.sl false (.cons (.int .i64) (.cons (.int .i64) .nil))) (.cons (.sl false (.cons (.int .i64) (.cons (.int .i64) .nil))) .nil))))) .nil))
def spec_TableOk.R : Sh := (.cons (.pur .bool) .nil)
def spec_TableOk.ann : Ann := { loops := [(0, [(1, (.pur (.sl false (.cons .bool (.cons (.sl false (.cons (.int .i64) (.cons (.int .i64) .nil))) (.cons (.sl false (.cons (.int .i64) (.cons (.int .i64) .nil))) .nil)))))), (2, (.box (.cons (.pur (.sl false .str)) (.cons (.pur (.sl false .str)) (.cons (.pur (.sl false (.cons .str (.cons (.int .i64) .nil)))) .nil))))), (5, (.pur (.int .i64)))])], joins := [(1, [(15, .bool)])], keys := [] }
noncomputable def spec_TableOk.l0 (k : Nat)  (G0 : ((List (Bool × (List (Int × Int × Unit)) × (List (Int × Int × Unit)) × Unit)) × ((List (List UInt8)) × (List (List UInt8)) × (List ((List UInt8) × Int × Unit)) × Unit) × Int × Unit) → Option ((Bool × Unit) × (Unit × Unit × Unit))) : ((List (Bool × (List (Int × Int × Unit)) × (List (Int × Int × Unit)) × Unit)) × ((List (List UInt8)) × (List (List UInt8)) × (List ((List UInt8) × Int × Unit)) × Unit) × Int × Unit) → Option ((Bool × Unit) × (Unit × Unit × Unit)) := fun x => match x with
 | (t, (d__0, d__1, d__2, ()), i, ()) =>
  br k (decide (i < (t.length : Int)))
  (br k (decide (0 ≤ i))
  (bd k (t[i.toNat]?) fun x4 =>
  bd k (spec_EnvOk k ((d__0, d__1, d__2, ()), x4, ())) fun y5 =>
  br k (!y5.1.1)
  (some ((false, ()), ((), (), ())))
  (G0 (t, (d__0, d__1, d__2, ()), IntKind.wrap .i64 (i + 1), ())))
  none)
  (some ((true, ()), ((), (), ())))
noncomputable def spec_TableOk (k : Nat) : (((List (List UInt8)) × (List (List UInt8)) × (List ((List UInt8) × Int × Unit)) × Unit) × (List (Bool × (List (Int × Int × Unit)) × (List (Int × Int × Unit)) × Unit)) × Unit) → Option ((Bool × Unit) × (Unit × Unit × Unit)) := fun x => match x with
 | (d_, t, ()) =>
  (bd k (spec_DeclOk k (d_, ())) fun y1 =>
  br k (!y1.1.1)
  (some (true, ()))
  (bd k (spec_l8Size k (d_, ())) fun y2 =>
  some ((t.length : Int) != y2.1.1, ())) : Option (Bool × Unit)).bind fun j3 =>
  br k (j3.1)
  (some ((false, ()), ((), (), ())))
  (iter (spec_TableOk.l0 k) k (t, (d_.1, d_.2.1, d_.2.2.1, ()), 0, ()))
noncomputable def spec_TableOk.sg (k : Nat) : Sig := ⟨spec_TableOk.A, spec_TableOk.R, spec_TableOk k⟩
noncomputable def spec_TableOk.C (k : Nat) : Ctx := ⟨Tryz.prog, [(44, [spec_DeclOk.sg k]), (124, [spec_l8Size.sg k]), (125, [spec_EnvOk.sg k])], k⟩
theorem spec_TableOk.ev (k : Nat) (x : spec_TableOk.A.T) : evFunc (spec_TableOk.C k) spec_TableOk.ann Tryz.f86 spec_TableOk.A spec_TableOk.R x = spec_TableOk k x := by kernel_rfl
theorem spec_TableOk.ok {L : List (Nat × Obj)}  (k : Nat) : SigHolds Tryz.prog L 86 (spec_TableOk.sg k) :=
  sig_of_ev (C := spec_TableOk.C k) (holds_cons (allok_cons (spec_DeclOk.ok k) allok_nil) (holds_cons (allok_cons (spec_l8Size.ok k) allok_nil) (holds_cons (allok_cons (spec_EnvOk.ok k) allok_nil) holds_nil))) (by kernel_rfl) Tryz.func86 (by kernel_rfl) spec_TableOk.ann spec_TableOk.A spec_TableOk.R (fun x y h => (spec_TableOk.ev k x).trans h) (by kernel_rfl)

/-! loop.example/g00719/spec.l9Live -/
def spec_l9Live.A : Sh := (.cons (.pur (.sl false (.cons .bool (.cons (.sl false (.cons (.int .i64) (.cons (.int .i64) .nil))) (.cons (.sl false (.cons (.int .i64) (.cons (.int .i64) .nil))) .nil))))) .nil)
def spec_l9Live.R : Sh := (.cons (.pur .bool) .nil)
def spec_l9Live.ann : Ann := { loops := [(0, [(0, (.pur (.sl false (.cons .bool (.cons (.sl false (.cons (.int .i64) (.cons (.int .i64) .nil))) (.cons (.sl false (.cons (.int .i64) (.cons (.int .i64) .nil))) .nil)))))), (3, (.pur (.int .i64)))])], joins := [], keys := [] }
noncomputable def spec_l9Live.l0 (k : Nat)  (G0 : ((List (Bool × (List (Int × Int × Unit)) × (List (Int × Int × Unit)) × Unit)) × Int × Unit) → Option ((Bool × Unit) × (Unit × Unit))) : ((List (Bool × (List (Int × Int × Unit)) × (List (Int × Int × Unit)) × Unit)) × Int × Unit) → Option ((Bool × Unit) × (Unit × Unit)) := fun x => match x with
 | (t, i, ()) =>
  br k (decide (i < (t.length : Int)))
  (br k (decide (0 ≤ i))
  (bd k (t[i.toNat]?) fun x1 =>
  br k (x1.1)
  (some ((true, ()), ((), ())))
  (G0 (t, IntKind.wrap .i64 (i + 1), ())))
  none)
  (some ((false, ()), ((), ())))
noncomputable def spec_l9Live (k : Nat) : ((List (Bool × (List (Int × Int × Unit)) × (List (Int × Int × Unit)) × Unit)) × Unit) → Option ((Bool × Unit) × (Unit × Unit)) := fun x => match x with
 | (t, ()) =>
  iter (spec_l9Live.l0 k) k (t, 0, ())
noncomputable def spec_l9Live.sg (k : Nat) : Sig := ⟨spec_l9Live.A, spec_l9Live.R, spec_l9Live k⟩
noncomputable def spec_l9Live.C (k : Nat) : Ctx := ⟨Tryz.prog, [], k⟩
theorem spec_l9Live.ev (k : Nat) (x : spec_l9Live.A.T) : evFunc (spec_l9Live.C k) spec_l9Live.ann Tryz.f87 spec_l9Live.A spec_l9Live.R x = spec_l9Live k x := by kernel_rfl
theorem spec_l9Live.ok {L : List (Nat × Obj)}  (k : Nat) : SigHolds Tryz.prog L 87 (spec_l9Live.sg k) :=
  sig_of_ev (C := spec_l9Live.C k) holds_nil (by kernel_rfl) Tryz.func87 (by kernel_rfl) spec_l9Live.ann spec_l9Live.A spec_l9Live.R (fun x y h => (spec_l9Live.ev k x).trans h) (by kernel_rfl)

/-! loop.example/g00719/spec.PartsOk -/
def spec_PartsOk.A : Sh := (.cons (.pur (.cons (.sl false .str) (.cons (.sl false .str) (.cons (.sl false (.cons .str (.cons (.int .i64) .nil))) .nil)))) (.cons (.pur (.sl false (.cons (.sl false (.cons (.int .i64) (.cons (.int .i64) .nil))) (.cons (.sl false (.cons .bool (.cons (.sl false (.cons (.int .i64) (.cons (.int .i64) .nil))) (.cons (.sl false (.cons (.int .i64) (.cons (.int .i64) .nil))) .nil)))) .nil)))) .nil))
def spec_PartsOk.R : Sh := (.cons (.pur .bool) .nil)
def spec_PartsOk.ann : Ann := { loops := [(0, [(1, (.pur (.sl false (.cons (.sl false (.cons (.int .i64) (.cons (.int .i64) .nil))) (.cons (.sl false (.cons .bool (.cons (.sl false (.cons (.int .i64) (.cons (.int .i64) .nil))) (.cons (.sl false (.cons (.int .i64) (.cons (.int .i64) .nil))) .nil)))) .nil))))), (2, (.box (.cons (.pur (.sl false .str)) (.cons (.pur (.sl false .str)) (.cons (.pur (.sl false (.cons .str (.cons (.int .i64) .nil)))) .nil))))), (5, (.pur (.int .i64)))])], joins := [(1, [(13, .bool)]), (6, [(64, .bool)])], keys := [] }
noncomputable def spec_PartsOk.l0 (k : Nat)  (G0 : ((List ((List (Int × Int × Unit)) × (List (Bool × (List (Int × Int × Unit)) × (List (Int × Int × Unit)) × Unit)) × Unit)) × ((List (List UInt8)) × (List (List UInt8)) × (List ((List UInt8) × Int × Unit)) × Unit) × Int × Unit) → Option ((Bool × Unit) × (Unit × Unit × Unit))) : ((List ((List (Int × Int × Unit)) × (List (Bool × (List (Int × Int × Unit)) × (List (Int × Int × Unit)) × Unit)) × Unit)) × ((List (List UInt8)) × (List (List UInt8)) × (List ((List UInt8) × Int × Unit)) × Unit) × Int × Unit) → Option ((Bool × Unit) × (Unit × Unit × Unit)) := fun x => match x with
 | (l_, (d__0, d__1, d__2, ()), i, ()) =>
  br k (decide (i < (l_.length : Int)))
  ((br k (decide (0 ≤ i))
  (bd k (l_[i.toNat]?) fun x3 =>
  bd k (spec_TokenOk k (x3.1, ())) fun y4 =>
  br k (!y4.1.1)
  (some (true, ()))
  (br k (decide (i > 0))
  (br k (decide (0 ≤ (IntKind.wrap .i64 (i - 1))))
  (bd k (l_[(IntKind.wrap .i64 (i - 1)).toNat]?) fun x5 =>
  br k (decide (0 ≤ i))
  (bd k (l_[i.toNat]?) fun x6 =>
  bd k (spec_l9Cmp k (x5.1, x6.1, ())) fun y7 =>
  br k (decide (y7.1.1 ≥ 0))
  (some (true, ()))
  (br k (decide (0 ≤ i))
  (bd k (l_[i.toNat]?) fun x8 =>
  bd k (spec_TableOk k ((d__0, d__1, d__2, ()), x8.2.1, ())) fun y9 =>
  br k (!y9.1.1)
  (some (true, ()))
  (br k (decide (0 ≤ i))
  (bd k (l_[i.toNat]?) fun x10 =>
  bd k (spec_l9Live k (x10.2.1, ())) fun y11 =>
  some (!y11.1.1, ()))
  none))
  none))
  none)
  none)
  (br k (decide (0 ≤ i))
  (bd k (l_[i.toNat]?) fun x12 =>
  bd k (spec_TableOk k ((d__0, d__1, d__2, ()), x12.2.1, ())) fun y13 =>
  br k (!y13.1.1)
  (some (true, ()))
  (br k (decide (0 ≤ i))
  (bd k (l_[i.toNat]?) fun x14 =>
  bd k (spec_l9Live k (x14.2.1, ())) fun y15 =>
  some (!y15.1.1, ()))
  none))
  none)))
  none : Option (Bool × Unit)).bind fun j16 =>
  br k (j16.1)
  (some ((false, ()), ((), (), ())))
  (G0 (l_, (d__0, d__1, d__2, ()), IntKind.wrap .i64 (i + 1), ())))
  (some ((true, ()), ((), (), ())))
noncomputable def spec_PartsOk (k : Nat) : (((List (List UInt8)) × (List (List UInt8)) × (List ((List UInt8) × Int × Unit)) × Unit) × (List ((List (Int × Int × Unit)) × (List (Bool × (List (Int × Int × Unit)) × (List (Int × Int × Unit)) × Unit)) × Unit)) × Unit) → Option ((Bool × Unit) × (Unit × Unit × Unit)) := fun x => match x with
 | (d_, l_, ()) =>
  (bd k (spec_DeclOk k (d_, ())) fun y1 =>
  br k (!y1.1.1)
  (some (true, ()))
  (some (decide ((l_.length : Int) > 100), ())) : Option (Bool × Unit)).bind fun j2 =>
  br k (j2.1)
  (some ((false, ()), ((), (), ())))
  (iter (spec_PartsOk.l0 k) k (l_, (d_.1, d_.2.1, d_.2.2.1, ()), 0, ()))
noncomputable def spec_PartsOk.sg (k : Nat) : Sig := ⟨spec_PartsOk.A, spec_PartsOk.R, spec_PartsOk k⟩
noncomputable def spec_PartsOk.C (k : Nat) : Ctx := ⟨Tryz.prog, [(44, [spec_DeclOk.sg k]), (49, [spec_TokenOk.sg k]), (85, [spec_l9Cmp.sg k]), (86, [spec_TableOk.sg k]), (87, [spec_l9Live.sg k])], k⟩
theorem spec_PartsOk.ev (k : Nat) (x : spec_PartsOk.A.T) : evFunc (spec_PartsOk.C k) spec_PartsOk.ann Tryz.f47 spec_PartsOk.A spec_PartsOk.R x = spec_PartsOk k x := by kernel_rfl
theorem spec_PartsOk.ok {L : List (Nat × Obj)}  (k : Nat) : SigHolds Tryz.prog L 47 (spec_PartsOk.sg k) :=
  sig_of_ev (C := spec_PartsOk.C k) (holds_cons (allok_cons (spec_DeclOk.ok k) allok_nil) (holds_cons (allok_cons (spec_TokenOk.ok k) allok_nil) (holds_cons (allok_cons (spec_l9Cmp.ok k) allok_nil) (holds_cons (allok_cons (spec_TableOk.ok k) allok_nil) (holds_cons (allok_cons (spec_l9Live.ok k) allok_nil) holds_nil))))) (by kernel_rfl) Tryz.func47 (by kernel_rfl) spec_PartsOk.ann spec_PartsOk.A spec_PartsOk.R (fun x y h => (spec_PartsOk.ev k x).trans h) (by kernel_rfl)

/-! loop.example/g00719/spec.StoreOk -/
def spec_StoreOk.A : Sh := (.cons (.pur (.cons (.sl false .str) (.cons (.sl false .str) (.cons (.sl false (.cons .str (.cons (.int .i64) .nil))) .nil)))) (.cons (.pur (.cons (.sl false (.int .i64)) (.cons (.sl false .bool) (.cons (.sl false (.sl false (.int .i64))) .nil)))) .nil))
def spec_StoreOk.R : Sh := (.cons (.pur .bool) .nil)
def spec_StoreOk.ann : Ann := { loops := [(0, [(2, (.box (.cons (.pur (.sl false .str)) (.cons (.pur (.sl false .str)) (.cons (.pur (.sl false (.cons .str (.cons (.int .i64) .nil)))) .nil))))), (3, (.box (.cons (.pur (.sl false (.int .i64))) (.cons (.pur (.sl false .bool)) (.cons (.pur (.sl false (.sl false (.int .i64)))) .nil))))), (5, (.pur (.int .i64)))])], joins := [(1, [(35, .bool)])], keys := [] }
noncomputable def spec_StoreOk.l0 (k : Nat)  (G0 : (((List (List UInt8)) × (List (List UInt8)) × (List ((List UInt8) × Int × Unit)) × Unit) × ((List Int) × (List Bool) × (List (List Int)) × Unit) × Int × Unit) → Option ((Bool × Unit) × (Unit × Unit × Unit))) : (((List (List UInt8)) × (List (List UInt8)) × (List ((List UInt8) × Int × Unit)) × Unit) × ((List Int) × (List Bool) × (List (List Int)) × Unit) × Int × Unit) → Option ((Bool × Unit) × (Unit × Unit × Unit)) := fun x => match x with
 | ((d__0, d__1, d__2, ()), (s__0, s__1, s__2, ()), i, ()) =>
  br k (decide (i < (s__2.length : Int)))
  (br k (decide (0 ≤ i))
  (bd k (s__2[i.toNat]?) fun x3 =>
  br k (decide (0 ≤ i))
  (bd k (d__2[i.toNat]?) fun x4 =>
  br k ((x3.length : Int) != x4.2.1)
  (some ((false, ()), ((), (), ())))
  (G0 ((d__0, d__1, d__2, ()), (s__0, s__1, s__2, ()), IntKind.wrap .i64 (i + 1), ())))
  none)
  none)
  (some ((true, ()), ((), (), ())))
noncomputable def spec_StoreOk (k : Nat) : (((List (List UInt8)) × (List (List UInt8)) × (List ((List UInt8) × Int × Unit)) × Unit) × ((List Int) × (List Bool) × (List (List Int)) × Unit) × Unit) → Option ((Bool × Unit) × (Unit × Unit × Unit)) := fun x => match x with
 | (d_, s_, ()) =>
  (bd k (spec_DeclOk k (d_, ())) fun y1 =>
  br k (!y1.1.1)
  (some (true, ()))
  (br k ((s_.1.length : Int) != (d_.1.length : Int))
  (some (true, ()))
  (br k ((s_.2.1.length : Int) != (d_.2.1.length : Int))
  (some (true, ()))
  (some ((s_.2.2.1.length : Int) != (d_.2.2.1.length : Int), ())))) : Option (Bool × Unit)).bind fun j2 =>
  br k (j2.1)
  (some ((false, ()), ((), (), ())))
  (iter (spec_StoreOk.l0 k) k ((d_.1, d_.2.1, d_.2.2.1, ()), (s_.1, s_.2.1, s_.2.2.1, ()), 0, ()))
noncomputable def spec_StoreOk.sg (k : Nat) : Sig := ⟨spec_StoreOk.A, spec_StoreOk.R, spec_StoreOk k⟩
noncomputable def spec_StoreOk.C (k : Nat) : Ctx := ⟨Tryz.prog, [(44, [spec_DeclOk.sg k])], k⟩
theorem spec_StoreOk.ev (k : Nat) (x : spec_StoreOk.A.T) : evFunc (spec_StoreOk.C k) spec_StoreOk.ann Tryz.f48 spec_StoreOk.A spec_StoreOk.R x = spec_StoreOk k x := by kernel_rfl
theorem spec_StoreOk.ok {L : List (Nat × Obj)}  (k : Nat) : SigHolds Tryz.prog L 48 (spec_StoreOk.sg k) :=
  sig_of_ev (C := spec_StoreOk.C k) (holds_cons (allok_cons (spec_DeclOk.ok k) allok_nil) holds_nil) (by kernel_rfl) Tryz.func48 (by kernel_rfl) spec_StoreOk.ann spec_StoreOk.A spec_StoreOk.R (fun x y h => (spec_StoreOk.ev k x).trans h) (by kernel_rfl)

/-! loop.example/g00719/spec.l9Find -/
def spec_l9Find.A : Sh := (.cons (.pur (.sl false (.cons (.sl false (.cons (.int .i64) (.cons (.int .i64) .nil))) (.cons (.sl false (.cons .bool (.cons (.sl false (.cons (.int .i64) (.cons (.int .i64) .nil))) (.cons (.sl false (.cons (.int .i64) (.cons (.int .i64) .nil))) .nil)))) .nil)))) (.cons (.pur (.sl false (.cons (.int .i64) (.cons (.int .i64) .nil)))) .nil))
def spec_l9Find.R : Sh := (.cons (.pur (.int .i64)) .nil)
def spec_l9Find.ann : Ann := { loops := [(0, [(0, (.pur (.sl false (.cons (.sl false (.cons (.int .i64) (.cons (.int .i64) .nil))) (.cons (.sl false (.cons .bool (.cons (.sl false (.cons (.int .i64) (.cons (.int .i64) .nil))) (.cons (.sl false (.cons (.int .i64) (.cons (.int .i64) .nil))) .nil)))) .nil))))), (1, (.pur (.sl false (.cons (.int .i64) (.cons (.int .i64) .nil))))), (5, (.pur (.int .i64)))])], joins := [], keys := [] }
noncomputable def spec_l9Find.l0 (k : Nat)  (G0 : ((List ((List (Int × Int × Unit)) × (List (Bool × (List (Int × Int × Unit)) × (List (Int × Int × Unit)) × Unit)) × Unit)) × (List (Int × Int × Unit)) × Int × Unit) → Option ((Int × Unit) × (Unit × Unit × Unit))) : ((List ((List (Int × Int × Unit)) × (List (Bool × (List (Int × Int × Unit)) × (List (Int × Int × Unit)) × Unit)) × Unit)) × (List (Int × Int × Unit)) × Int × Unit) → Option ((Int × Unit) × (Unit × Unit × Unit)) := fun x => match x with
 | (l_, t, i, ()) =>
  br k (decide (i < (l_.length : Int)))
  (br k (decide (0 ≤ i))
  (bd k (l_[i.toNat]?) fun x1 =>
  bd k (spec_l9Cmp k (x1.1, t, ())) fun y2 =>
  br k (y2.1.1 == 0)
  (some ((i, ()), ((), (), ())))
  (G0 (l_, t, IntKind.wrap .i64 (i + 1), ())))
  none)
  (some (((-1), ()), ((), (), ())))
noncomputable def spec_l9Find (k : Nat) : ((List ((List (Int × Int × Unit)) × (List (Bool × (List (Int × Int × Unit)) × (List (Int × Int × Unit)) × Unit)) × Unit)) × (List (Int × Int × Unit)) × Unit) → Option ((Int × Unit) × (Unit × Unit × Unit)) := fun x => match x with
 | (l_, t, ()) =>
  iter (spec_l9Find.l0 k) k (l_, t, 0, ())
noncomputable def spec_l9Find.sg (k : Nat) : Sig := ⟨spec_l9Find.A, spec_l9Find.R, spec_l9Find k⟩
noncomputable def spec_l9Find.C (k : Nat) : Ctx := ⟨Tryz.prog, [(85, [spec_l9Cmp.sg k])], k⟩
theorem spec_l9Find.ev (k : Nat) (x : spec_l9Find.A.T) : evFunc (spec_l9Find.C k) spec_l9Find.ann Tryz.f50 spec_l9Find.A spec_l9Find.R x = spec_l9Find k x := by kernel_rfl
theorem spec_l9Find.ok {L : List (Nat × Obj)}  (k : Nat) : SigHolds Tryz.prog L 50 (spec_l9Find.sg k) :=
  sig_of_ev (C := spec_l9Find.C k) (holds_cons (allok_cons (spec_l9Cmp.ok k) allok_nil) holds_nil) (by kernel_rfl) Tryz.func50 (by kernel_rfl) spec_l9Find.ann spec_l9Find.A spec_l9Find.R (fun x y h => (spec_l9Find.ev k x).trans h) (by kernel_rfl)

/-! loop.example/g00719/spec.l5One -/
def spec_l5One.A : Sh := (.cons (.pur .bool) .nil)
def spec_l5One.R : Sh := (.cons (.pur (.int .i64)) .nil)
def spec_l5One.ann : Ann := { loops := [], joins := [], keys := [] }
noncomputable def spec_l5One (k : Nat) : (Bool × Unit) → Option ((Int × Unit) × (Unit × Unit)) := fun x => match x with
 | (is, ()) =>
  br k (is)
  (some ((1, ()), ((), ())))
  (some ((0, ()), ((), ())))
noncomputable def spec_l5One.sg (k : Nat) : Sig := ⟨spec_l5One.A, spec_l5One.R, spec_l5One k⟩
noncomputable def spec_l5One.C (k : Nat) : Ctx := ⟨Tryz.prog, [], k⟩
theorem spec_l5One.ev (k : Nat) (x : spec_l5One.A.T) : evFunc (spec_l5One.C k) spec_l5One.ann Tryz.f89 spec_l5One.A spec_l5One.R x = spec_l5One k x := by kernel_rfl
theorem spec_l5One.ok {L : List (Nat × Obj)}  (k : Nat) : SigHolds Tryz.prog L 89 (spec_l5One.sg k) :=
  sig_of_ev (C := spec_l5One.C k) holds_nil (by kernel_rfl) Tryz.func89 (by kernel_rfl) spec_l5One.ann spec_l5One.A spec_l5One.R (fun x y h => (spec_l5One.ev k x).trans h) (by kernel_rfl)

/-! loop.example/g00719/spec.l8Leaf -/
def spec_l8Leaf.A : Sh := (.cons (.pur (.cons (.sl false (.int .i64)) (.cons (.sl false .bool) (.cons (.sl false (.sl false (.int .i64))) .nil)))) .nil)
def spec_l8Leaf.R : Sh := (.cons (.pur (.int .i64)) .nil)
def spec_l8Leaf.ann : Ann := { loops := [(0, [(1, (.box (.cons (.pur (.sl false (.int .i64))) (.cons (.pur (.sl false .bool)) (.cons (.pur (.sl false (.sl false (.int .i64)))) .nil))))), (3, (.pur (.int .i64))), (4, (.pur (.int .i64)))])], joins := [], keys := [] }
noncomputable def spec_l8Leaf.l0 (k : Nat)  (G0 : (((List Int) × (List Bool) × (List (List Int)) × Unit) × Int × Int × Unit) → Option ((Int × Unit) × (Unit × Unit))) : (((List Int) × (List Bool) × (List (List Int)) × Unit) × Int × Int × Unit) → Option ((Int × Unit) × (Unit × Unit)) := fun x => match x with
 | ((s__0, s__1, s__2, ()), n, i, ()) =>
  br k (decide (i < (s__1.length : Int)))
  (br k (decide (0 ≤ i))
  (bd k (s__1[i.toNat]?) fun x1 =>
  bd k (spec_l5One k (x1, ())) fun y2 =>
  br k (decide (0 ≤ (IntKind.wrap .u64 i)))
  (G0 ((s__0, s__1, s__2, ()), IntKind.wrap .i64 (n + (IntKind.wrap .i64 (y2.1.1 * 2 ^ (min (IntKind.wrap .u64 i).toNat 64)))), IntKind.wrap .i64 (i + 1), ()))
  none)
  none)
  (some ((n, ()), ((), ())))
noncomputable def spec_l8Leaf (k : Nat) : (((List Int) × (List Bool) × (List (List Int)) × Unit) × Unit) → Option ((Int × Unit) × (Unit × Unit)) := fun x => match x with
 | (s_, ()) =>
  iter (spec_l8Leaf.l0 k) k ((s_.1, s_.2.1, s_.2.2.1, ()), 0, 0, ())
noncomputable def spec_l8Leaf.sg (k : Nat) : Sig := ⟨spec_l8Leaf.A, spec_l8Leaf.R, spec_l8Leaf k⟩
noncomputable def spec_l8Leaf.C (k : Nat) : Ctx := ⟨Tryz.prog, [(89, [spec_l5One.sg k])], k⟩
theorem spec_l8Leaf.ev (k : Nat) (x : spec_l8Leaf.A.T) : evFunc (spec_l8Leaf.C k) spec_l8Leaf.ann Tryz.f52 spec_l8Leaf.A spec_l8Leaf.R x = spec_l8Leaf k x := by kernel_rfl
theorem spec_l8Leaf.ok {L : List (Nat × Obj)}  (k : Nat) : SigHolds Tryz.prog L 52 (spec_l8Leaf.sg k) :=
  sig_of_ev (C := spec_l8Leaf.C k) (holds_cons (allok_cons (spec_l5One.ok k) allok_nil) holds_nil) (by kernel_rfl) Tryz.func52 (by kernel_rfl) spec_l8Leaf.ann spec_l8Leaf.A spec_l8Leaf.R (fun x y h => (spec_l8Leaf.ev k x).trans h) (by kernel_rfl)

/-! loop.example/g00719/spec.IvHas -/
def spec_IvHas.A : Sh := (.cons (.pur (.cons (.int .i64) (.cons (.int .i64) .nil))) (.cons (.pur (.int .i64)) .nil))
def spec_IvHas.R : Sh := (.cons (.pur .bool) .nil)
def spec_IvHas.ann : Ann := { loops := [], joins := [(1, [(4, .bool)])], keys := [] }
noncomputable def spec_IvHas (k : Nat) : ((Int × Int × Unit) × Int × Unit) → Option ((Bool × Unit) × (Unit × Unit × Unit)) := fun x => match x with
 | (a, n, ()) =>
  (br k (decide (a.1 ≤ n))
  (some (decide (n ≤ a.2.1), ()))
  (some (false, ())) : Option (Bool × Unit)).bind fun j1 =>
  some ((j1.1, ()), ((), (), ()))
noncomputable def spec_IvHas.sg (k : Nat) : Sig := ⟨spec_IvHas.A, spec_IvHas.R, spec_IvHas k⟩
noncomputable def spec_IvHas.C (k : Nat) : Ctx := ⟨Tryz.prog, [], k⟩
theorem spec_IvHas.ev (k : Nat) (x : spec_IvHas.A.T) : evFunc (spec_IvHas.C k) spec_IvHas.ann Tryz.f88 spec_IvHas.A spec_IvHas.R x = spec_IvHas k x := by kernel_rfl
theorem spec_IvHas.ok {L : List (Nat × Obj)}  (k : Nat) : SigHolds Tryz.prog L 88 (spec_IvHas.sg k) :=
  sig_of_ev (C := spec_IvHas.C k) holds_nil (by kernel_rfl) Tryz.func88 (by kernel_rfl) spec_IvHas.ann spec_IvHas.A spec_IvHas.R (fun x y h => (spec_IvHas.ev k x).trans h) (by kernel_rfl)

/-! loop.example/g00719/spec.l6Has -/
def spec_l6Has.A : Sh := (.cons (.pur (.cons .bool (.cons (.sl false (.cons (.int .i64) (.cons (.int .i64) .nil))) (.cons (.sl false (.cons (.int .i64) (.cons (.int .i64) .nil))) .nil)))) (.cons (.pur (.cons (.sl false (.int .i64)) (.cons (.sl false .bool) (.cons (.sl false (.sl false (.int .i64))) .nil)))) .nil))
def spec_l6Has.R : Sh := (.cons (.pur .bool) .nil)
def spec_l6Has.ann : Ann := { loops := [(0, [(2, (.box (.cons (.pur .bool) (.cons (.pur (.sl false (.cons (.int .i64) (.cons (.int .i64) .nil)))) (.cons (.pur (.sl false (.cons (.int .i64) (.cons (.int .i64) .nil)))) .nil))))), (3, (.box (.cons (.pur (.sl false (.int .i64))) (.cons (.pur (.sl false .bool)) (.cons (.pur (.sl false (.sl false (.int .i64)))) .nil))))), (5, (.pur (.int .i64)))]), (2, [(2, (.box (.cons (.pur .bool) (.cons (.pur (.sl false (.cons (.int .i64) (.cons (.int .i64) .nil)))) (.cons (.pur (.sl false (.cons (.int .i64) (.cons (.int .i64) .nil)))) .nil))))), (3, (.box (.cons (.pur (.sl false (.int .i64))) (.cons (.pur (.sl false .bool)) (.cons (.pur (.sl false (.sl false (.int .i64)))) .nil))))), (6, (.pur (.int .i64)))]), (4, [(2, (.box (.cons (.pur .bool) (.cons (.pur (.sl false (.cons (.int .i64) (.cons (.int .i64) .nil)))) (.cons (.pur (.sl false (.cons (.int .i64) (.cons (.int .i64) .nil)))) .nil))))), (3, (.box (.cons (.pur (.sl false (.int .i64))) (.cons (.pur (.sl false .bool)) (.cons (.pur (.sl false (.sl false (.int .i64)))) .nil))))), (6, (.pur (.int .i64))), (7, (.pur (.int .i64)))])], joins := [], keys := [] }
noncomputable def spec_l6Has.l4 (k : Nat) (G2 : ((Bool × (List (Int × Int × Unit)) × (List (Int × Int × Unit)) × Unit) × ((List Int) × (List Bool) × (List (List Int)) × Unit) × Int × Unit) → Option ((Bool × Unit) × (Unit × Unit × Unit))) (G4 : ((Bool × (List (Int × Int × Unit)) × (List (Int × Int × Unit)) × Unit) × ((List Int) × (List Bool) × (List (List Int)) × Unit) × Int × Int × Unit) → Option ((Bool × Unit) × (Unit × Unit × Unit))) : ((Bool × (List (Int × Int × Unit)) × (List (Int × Int × Unit)) × Unit) × ((List Int) × (List Bool) × (List (List Int)) × Unit) × Int × Int × Unit) → Option ((Bool × Unit) × (Unit × Unit × Unit)) := fun x => match x with
 | ((e__0, e__1, e__2, ()), (s__0, s__1, s__2, ()), i, k_, ()) =>
  br k (decide (0 ≤ i))
  (bd k (s__2[i.toNat]?) fun x4 =>
  br k (decide (k_ < (x4.length : Int)))
  (br k (decide (0 ≤ i))
  (bd k (e__2[i.toNat]?) fun x5 =>
  br k (decide (0 ≤ i))
  (bd k (s__2[i.toNat]?) fun x6 =>
  br k (decide (0 ≤ k_))
  (bd k (x6[k_.toNat]?) fun x7 =>
  bd k (spec_IvHas k (x5, x7, ())) fun y8 =>
  br k (!y8.1.1)
  (some ((false, ()), ((), (), ())))
  (G4 ((e__0, e__1, e__2, ()), (s__0, s__1, s__2, ()), i, IntKind.wrap .i64 (k_ + 1), ())))
  none)
  none)
  none)
  (G2 ((e__0, e__1, e__2, ()), (s__0, s__1, s__2, ()), IntKind.wrap .i64 (i + 1), ())))
  none
noncomputable def spec_l6Has.l2 (k : Nat)  (G2 : ((Bool × (List (Int × Int × Unit)) × (List (Int × Int × Unit)) × Unit) × ((List Int) × (List Bool) × (List (List Int)) × Unit) × Int × Unit) → Option ((Bool × Unit) × (Unit × Unit × Unit))) : ((Bool × (List (Int × Int × Unit)) × (List (Int × Int × Unit)) × Unit) × ((List Int) × (List Bool) × (List (List Int)) × Unit) × Int × Unit) → Option ((Bool × Unit) × (Unit × Unit × Unit)) := fun x => match x with
 | ((e__0, e__1, e__2, ()), (s__0, s__1, s__2, ()), i, ()) =>
  br k (decide (i < (e__2.length : Int)))
  (iter (spec_l6Has.l4 k G2) k ((e__0, e__1, e__2, ()), (s__0, s__1, s__2, ()), i, 0, ()))
  (some ((true, ()), ((), (), ())))
noncomputable def spec_l6Has.l0 (k : Nat)  (G0 : ((Bool × (List (Int × Int × Unit)) × (List (Int × Int × Unit)) × Unit) × ((List Int) × (List Bool) × (List (List Int)) × Unit) × Int × Unit) → Option ((Bool × Unit) × (Unit × Unit × Unit))) : ((Bool × (List (Int × Int × Unit)) × (List (Int × Int × Unit)) × Unit) × ((List Int) × (List Bool) × (List (List Int)) × Unit) × Int × Unit) → Option ((Bool × Unit) × (Unit × Unit × Unit)) := fun x => match x with
 | ((e__0, e__1, e__2, ()), (s__0, s__1, s__2, ()), i, ()) =>
  br k (decide (i < (e__1.length : Int)))
  (br k (decide (0 ≤ i))
  (bd k (e__1[i.toNat]?) fun x1 =>
  br k (decide (0 ≤ i))
  (bd k (s__0[i.toNat]?) fun x2 =>
  bd k (spec_IvHas k (x1, x2, ())) fun y3 =>
  br k (!y3.1.1)
  (some ((false, ()), ((), (), ())))
  (G0 ((e__0, e__1, e__2, ()), (s__0, s__1, s__2, ()), IntKind.wrap .i64 (i + 1), ())))
  none)
  none)
  (iter (spec_l6Has.l2 k) k ((e__0, e__1, e__2, ()), (s__0, s__1, s__2, ()), 0, ()))
noncomputable def spec_l6Has (k : Nat) : ((Bool × (List (Int × Int × Unit)) × (List (Int × Int × Unit)) × Unit) × ((List Int) × (List Bool) × (List (List Int)) × Unit) × Unit) → Option ((Bool × Unit) × (Unit × Unit × Unit)) := fun x => match x with
 | (e_, s_, ()) =>
  br k (!e_.1)
  (some ((false, ()), ((), (), ())))
  (iter (spec_l6Has.l0 k) k ((e_.1, e_.2.1, e_.2.2.1, ()), (s_.1, s_.2.1, s_.2.2.1, ()), 0, ()))
noncomputable def spec_l6Has.sg (k : Nat) : Sig := ⟨spec_l6Has.A, spec_l6Has.R, spec_l6Has k⟩
noncomputable def spec_l6Has.C (k : Nat) : Ctx := ⟨Tryz.prog, [(88, [spec_IvHas.sg k])], k⟩
theorem spec_l6Has.ev (k : Nat) (x : spec_l6Has.A.T) : evFunc (spec_l6Has.C k) spec_l6Has.ann Tryz.f51 spec_l6Has.A spec_l6Has.R x = spec_l6Has k x := by kernel_rfl
theorem spec_l6Has.ok {L : List (Nat × Obj)}  (k : Nat) : SigHolds Tryz.prog L 51 (spec_l6Has.sg k) :=
  sig_of_ev (C := spec_l6Has.C k) (holds_cons (allok_cons (spec_IvHas.ok k) allok_nil) holds_nil) (by kernel_rfl) Tryz.func51 (by kernel_rfl) spec_l6Has.ann spec_l6Has.A spec_l6Has.R (fun x y h => (spec_l6Has.ev k x).trans h) (by kernel_rfl)

end Go.Pev.F
