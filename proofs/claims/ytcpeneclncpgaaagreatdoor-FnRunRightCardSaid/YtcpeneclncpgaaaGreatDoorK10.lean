/-
  Printed by gen.py: what functions of the program compute, and that they do.
-/
import Derived.Test.YtcpeneclncpgaaaGreatDoorK09
set_option linter.unusedSimpArgs false
set_option linter.unusedVariables false
open Go.Proofs Go.Pev
namespace Go.Pev.F
set_option maxRecDepth 100000
set_option linter.unusedVariables false
def spec_ExprOk.A : Sh := (.cons QS6 QS50)
def spec_ExprOk.R : Sh := QS12
def spec_ExprOk.ann : Ann := { loops := [(0, [(1, (.pur (.sl false QK1))), (2, QS24), (5, (.own (.int .i64))), (6, (.pur (.int .i64)))]), (2, [(1, (.pur (.sl false QK1))), (2, QS24), (5, (.own (.int .i64))), (6, (.pur (.int .i64))), (7, (.pur (.int .i64))), (8, (.pur (.int .i64))), (9, (.pur (.int .i64))), (10, (.pur (.int .i64)))])], joins := [(1, [(18, .bool)]), (9, [(53, .bool)])], keys := [] }
noncomputable def spec_ExprOk.l2 (k : Nat) (G0 : (QT16 × QT2 × (List Int) × Int × Unit) → Option QT26) (G2 : (QT16 × QT2 × (List Int) × Int × Int × Int × Int × Int × Unit) → Option QT26) : (QT16 × QT2 × (List Int) × Int × Int × Int × Int × Int × Unit) → Option QT26 := fun x => match x with
 | (l_, (d__0, d__1, d__2, ()), pile, i, n, takes, leaves, k_, ()) =>
  br k (decide (k_ < (pile.length : Int)))
  (br k (decide (0 ≤ k_ ∧ k_ < (pile.length : Int)))
  (bd k (pile[k_.toNat]?) fun x10 =>
  br k (x10 != takes)
  (some ((0, ()), ((), (), ())))
  (G2 (l_, (d__0, d__1, d__2, ()), pile, i, n, takes, leaves, IntKind.wrap .i64 (k_ + 1), ())))
  none)
  (br k (decide (0 ≤ (IntKind.wrap .i64 ((pile.length : Int) - n)) ∧ (IntKind.wrap .i64 ((pile.length : Int) - n)) ≤ (pile.length : Int)))
  (br k (decide (((subL pile ((0 : Int).toNat) ((IntKind.wrap .i64 ((pile.length : Int) - n)).toNat - (0 : Int).toNat)).length + ([leaves] : List Int).length) * 8 ≤ maxBytes))
  (G0 (l_, (d__0, d__1, d__2, ()), (subL pile ((0 : Int).toNat) ((IntKind.wrap .i64 ((pile.length : Int) - n)).toNat - (0 : Int).toNat)) ++ ([leaves] : List Int), IntKind.wrap .i64 (i + 1), ()))
  none)
  none)
noncomputable def spec_ExprOk.l0 (k : Nat)  (G0 : (QT16 × QT2 × (List Int) × Int × Unit) → Option QT26) : (QT16 × QT2 × (List Int) × Int × Unit) → Option QT26 := fun x => match x with
 | (l_, (d__0, d__1, d__2, ()), pile, i, ()) =>
  br k (decide (i < (l_.length : Int)))
  (br k (decide (0 ≤ i))
  (bd k (l_[i.toNat]?) fun x3 =>
  bd k (spec_l3Takes k (x3.1, ())) fun y4 =>
  br k (decide (0 ≤ i))
  (bd k (l_[i.toNat]?) fun x5 =>
  bd k (spec_l3Kinds k (x5.1, ())) fun y6 =>
  (br k (decide (0 ≤ i))
  (bd k (l_[i.toNat]?) fun x7 =>
  bd k (spec_l3Tok k ((d__0, d__1, d__2, ()), x7, ())) fun y8 =>
  br k (!y8.1.1)
  (some (true, ()))
  (some (decide ((pile.length : Int) < y4.1.1), ())))
  none : Option (Bool × Unit)).bind fun j9 =>
  br k (j9.1)
  (some ((0, ()), ((), (), ())))
  (iter (spec_ExprOk.l2 k G0) k (l_, (d__0, d__1, d__2, ()), pile, i, y4.1.1, y6.1.1, y6.1.2.1, IntKind.wrap .i64 ((pile.length : Int) - y4.1.1), ())))
  none)
  none)
  (br k ((pile.length : Int) != 1)
  (some ((0, ()), ((), (), ())))
  (br k (decide (0 ≤ (0 : Int) ∧ (0 : Int) < (pile.length : Int)))
  (bd k (pile[(0 : Int).toNat]?) fun x11 =>
  some ((x11, ()), ((), (), ())))
  none))
noncomputable def spec_ExprOk (k : Nat) : (QT2 × QT16 × Unit) → Option QT26 := fun x => match x with
 | (d_, l_, ()) =>
  (bd k (spec_DeclOk k (d_, ())) fun y1 =>
  br k (!y1.1.1)
  (some (true, ()))
  (some (decide ((l_.length : Int) > 40), ())) : Option (Bool × Unit)).bind fun j2 =>
  br k (j2.1)
  (some ((0, ()), ((), (), ())))
  (iter (spec_ExprOk.l0 k) k (l_, (d_.1, d_.2.1, d_.2.2.1, ()), ([] : List Int), 0, ()))
noncomputable def spec_ExprOk.sg (k : Nat) : Sig := ⟨spec_ExprOk.A, spec_ExprOk.R, spec_ExprOk k⟩
noncomputable def spec_ExprOk.C (k : Nat) : Ctx := ⟨Tryz.prog, [(47, [spec_DeclOk.sg k]), (73, [spec_l3Takes.sg k]), (130, [spec_l3Kinds.sg k]), (131, [spec_l3Tok.sg k])], k, [], []⟩
theorem spec_ExprOk.ev (k : Nat) (x : spec_ExprOk.A.T) : evFunc (spec_ExprOk.C k) spec_ExprOk.ann Tryz.f102 spec_ExprOk.A spec_ExprOk.R x = spec_ExprOk k x := by kernel_rfl
theorem spec_ExprOk.ok {L : List (Nat × Obj)}  (k : Nat) : SigHolds Tryz.prog L 102 (spec_ExprOk.sg k) :=
  sig_of_ev (C := spec_ExprOk.C k) (holds_cons (allok_cons (spec_DeclOk.ok k) allok_nil) (holds_cons (allok_cons (spec_l3Takes.ok k) allok_nil) (holds_cons (allok_cons (spec_l3Kinds.ok k) allok_nil) (holds_cons (allok_cons (spec_l3Tok.ok k) allok_nil) holds_nil)))) (by kernel_rfl) Tryz.func102 (by kernel_rfl) _ _ _ (fun x y h => (spec_ExprOk.ev k x).trans h) (by kernel_rfl)
def spec_l4Line.A : Sh := (.cons QS6 (.cons (.pur QK9) .nil))
def spec_l4Line.R : Sh := QS19
def spec_l4Line.ann : Ann := { loops := [], joins := [(4, [(23, .bool)]), (6, [(43, .bool)]), (8, [(62, .bool)]), (10, [(83, .bool)]), (13, [(4, .bool)]), (14, [(108, .bool)]), (16, [(4, .bool)])], keys := [] }
noncomputable def spec_l4Line (k : Nat) : (QT2 × QT0 × Unit) → Option QT22 := fun x => match x with
 | (d_, l_, ()) =>
  bd k (spec_l4Uses k (d_, l_.1, ())) fun y1 =>
  bd k (spec_l1In k (l_.1, 1, 14, ())) fun y2 =>
  br k (!y2.1.1)
  (some ((false, ()), ((), (), ())))
  ((br k (decide (y1.1.1 < 0))
  (br k (l_.2.1 != 0)
  (some (true, ()))
  (br k (decide (y1.1.1 ≥ 0))
  (bd k (spec_l1In k (l_.2.1, 0, IntKind.wrap .i64 (y1.1.1 - 1), ())) fun y3 =>
  some (!y3.1.1, ()))
  (some (false, ()))))
  (br k (decide (y1.1.1 ≥ 0))
  (bd k (spec_l1In k (l_.2.1, 0, IntKind.wrap .i64 (y1.1.1 - 1), ())) fun y4 =>
  some (!y4.1.1, ()))
  (some (false, ()))) : Option (Bool × Unit)).bind fun j5 =>
  br k (j5.1)
  (some ((false, ()), ((), (), ())))
  ((br k (y1.1.2.1)
  (bd k (spec_ExprOk k (d_, l_.2.2.1, ())) fun y6 =>
  br k (y6.1.1 != 1)
  (some (true, ()))
  (br k (!y1.1.2.1)
  (some (decide ((l_.2.2.1.length : Int) > 0), ()))
  (some (false, ()))))
  (br k (!y1.1.2.1)
  (some (decide ((l_.2.2.1.length : Int) > 0), ()))
  (some (false, ()))) : Option (Bool × Unit)).bind fun j7 =>
  br k (j7.1)
  (some ((false, ()), ((), (), ())))
  ((br k (decide (y1.1.2.2.1 > 0))
  (bd k (spec_ExprOk k (d_, l_.2.2.2.1, ())) fun y8 =>
  br k (y8.1.1 != y1.1.2.2.1)
  (some (true, ()))
  (br k (y1.1.2.2.1 == 0)
  (some (decide ((l_.2.2.2.1.length : Int) > 0), ()))
  (some (false, ()))))
  (br k (y1.1.2.2.1 == 0)
  (some (decide ((l_.2.2.2.1.length : Int) > 0), ()))
  (some (false, ()))) : Option (Bool × Unit)).bind fun j9 =>
  br k (j9.1)
  (some ((false, ()), ((), (), ())))
  ((br k (!y1.1.2.2.2.1)
  (br k (l_.2.2.2.2.1 != 0)
  (some (true, ()))
  (some (l_.2.2.2.2.2.1 != 0, ())))
  (some (false, ())) : Option (Bool × Unit)).bind fun j10 =>
  br k (j10.1)
  (some ((false, ()), ((), (), ())))
  (br k (l_.1 == 10)
  ((bd k (spec_l1In k (l_.2.2.2.2.1, 1, 3, ())) fun y11 =>
  br k (y11.1.1)
  (some (l_.2.2.2.2.2.1 == 0, ()))
  (some (false, ())) : Option (Bool × Unit)).bind fun j12 =>
  some ((j12.1, ()), ((), (), ())))
  ((br k (y1.1.2.2.2.1)
  (bd k (spec_l1In k (l_.2.2.2.2.1, (-999999999999999999), 999999999999999999, ())) fun y13 =>
  br k (!y13.1.1)
  (some (true, ()))
  (bd k (spec_l1In k (l_.2.2.2.2.2.1, l_.2.2.2.2.1, 999999999999999999, ())) fun y14 =>
  some (!y14.1.1, ())))
  (some (false, ())) : Option (Bool × Unit)).bind fun j15 =>
  br k (j15.1)
  (some ((false, ()), ((), (), ())))
  ((br k (l_.1 != 13)
  (some (true, ()))
  (some (decide (l_.2.2.2.2.2.1 ≤ (IntKind.wrap .i64 (l_.2.2.2.2.1 + 3))), ())) : Option (Bool × Unit)).bind fun j16 =>
  some ((j16.1, ()), ((), (), ())))))))))
noncomputable def spec_l4Line.sg (k : Nat) : Sig := ⟨spec_l4Line.A, spec_l4Line.R, spec_l4Line k⟩
noncomputable def spec_l4Line.C (k : Nat) : Ctx := ⟨Tryz.prog, [(101, [spec_l4Uses.sg k]), (45, [spec_l1In.sg k]), (102, [spec_ExprOk.sg k])], k, [], []⟩
theorem spec_l4Line.ev (k : Nat) (x : spec_l4Line.A.T) : evFunc (spec_l4Line.C k) spec_l4Line.ann Tryz.f68 spec_l4Line.A spec_l4Line.R x = spec_l4Line k x := by kernel_rfl
theorem spec_l4Line.ok {L : List (Nat × Obj)}  (k : Nat) : SigHolds Tryz.prog L 68 (spec_l4Line.sg k) :=
  sig_of_ev (C := spec_l4Line.C k) (holds_cons (allok_cons (spec_l4Uses.ok k) allok_nil) (holds_cons (allok_cons (spec_l1In.ok k) allok_nil) (holds_cons (allok_cons (spec_ExprOk.ok k) allok_nil) holds_nil))) (by kernel_rfl) Tryz.func68 (by kernel_rfl) _ _ _ (fun x y h => (spec_l4Line.ev k x).trans h) (by kernel_rfl)
def spec_l4Loops.A : Sh := QS12
def spec_l4Loops.R : Sh := QS19
def spec_l4Loops.ann : Ann := { loops := [], joins := [(1, [(2, .bool)])], keys := [] }
noncomputable def spec_l4Loops (k : Nat) : (Int × Unit) → Option QT21 := fun x => match x with
 | (kind, ()) =>
  (br k (kind == 9)
  (some (true, ()))
  (some (kind == 10, ())) : Option (Bool × Unit)).bind fun j1 =>
  some ((j1.1, ()), ((), ()))
noncomputable def spec_l4Loops.sg (k : Nat) : Sig := ⟨spec_l4Loops.A, spec_l4Loops.R, spec_l4Loops k⟩
noncomputable def spec_l4Loops.C (k : Nat) : Ctx := ⟨Tryz.prog, [], k, [], []⟩
theorem spec_l4Loops.ev (k : Nat) (x : spec_l4Loops.A.T) : evFunc (spec_l4Loops.C k) spec_l4Loops.ann Tryz.f70 spec_l4Loops.A spec_l4Loops.R x = spec_l4Loops k x := by kernel_rfl
theorem spec_l4Loops.ok {L : List (Nat × Obj)}  (k : Nat) : SigHolds Tryz.prog L 70 (spec_l4Loops.sg k) :=
  sig_of_ev (C := spec_l4Loops.C k) holds_nil (by kernel_rfl) Tryz.func70 (by kernel_rfl) _ _ _ (fun x y h => (spec_l4Loops.ev k x).trans h) (by kernel_rfl)
def spec_l4Opens.A : Sh := QS12
def spec_l4Opens.R : Sh := QS19
def spec_l4Opens.ann : Ann := { loops := [], joins := [(1, [(2, .bool)])], keys := [] }
noncomputable def spec_l4Opens (k : Nat) : (Int × Unit) → Option QT21 := fun x => match x with
 | (kind, ()) =>
  (br k (kind == 5)
  (some (true, ()))
  (br k (kind == 6)
  (some (true, ()))
  (bd k (spec_l4Loops k (kind, ())) fun y1 =>
  some (y1.1.1, ()))) : Option (Bool × Unit)).bind fun j2 =>
  some ((j2.1, ()), ((), ()))
noncomputable def spec_l4Opens.sg (k : Nat) : Sig := ⟨spec_l4Opens.A, spec_l4Opens.R, spec_l4Opens k⟩
noncomputable def spec_l4Opens.C (k : Nat) : Ctx := ⟨Tryz.prog, [(70, [spec_l4Loops.sg k])], k, [], []⟩
theorem spec_l4Opens.ev (k : Nat) (x : spec_l4Opens.A.T) : evFunc (spec_l4Opens.C k) spec_l4Opens.ann Tryz.f69 spec_l4Opens.A spec_l4Opens.R x = spec_l4Opens k x := by kernel_rfl
theorem spec_l4Opens.ok {L : List (Nat × Obj)}  (k : Nat) : SigHolds Tryz.prog L 69 (spec_l4Opens.sg k) :=
  sig_of_ev (C := spec_l4Opens.C k) (holds_cons (allok_cons (spec_l4Loops.ok k) allok_nil) holds_nil) (by kernel_rfl) Tryz.func69 (by kernel_rfl) _ _ _ (fun x y h => (spec_l4Opens.ev k x).trans h) (by kernel_rfl)
def spec_l4Targets.A : Sh := QS51
def spec_l4Targets.R : Sh := (.cons (.own (.int .i64)) QS12)
def spec_l4Targets.ann : Ann := { loops := [(0, [(0, (.pur (.sl false QK9))), (4, (.own (.int .i64))), (5, (.own (.int .i64))), (6, (.pur (.int .i64)))])], joins := [(13, [(65, .bool)])], keys := [] }
noncomputable def spec_l4Targets.l0 (k : Nat)  (G0 : ((List QT0) × (List Int) × (List Int) × Int × Unit) → Option (QT11 × (Unit × Unit))) : ((List QT0) × (List Int) × (List Int) × Int × Unit) → Option (QT11 × (Unit × Unit)) := fun x => match x with
 | (l_, out_, open_, i, ()) =>
  br k (decide (i < (l_.length : Int)))
  (br k (decide ((out_.length + ([IntKind.wrap .i64 (i + 1)] : List Int).length) * 8 ≤ maxBytes))
  (br k (decide ((open_.length : Int) > 0))
  (br k (decide (0 ≤ (IntKind.wrap .i64 ((open_.length : Int) - 1)) ∧ (IntKind.wrap .i64 ((open_.length : Int) - 1)) < (open_.length : Int)))
  (bd k (open_[(IntKind.wrap .i64 ((open_.length : Int) - 1)).toNat]?) fun x1 =>
  br k (decide (0 ≤ i))
  (bd k (l_[i.toNat]?) fun x2 =>
  bd k (spec_l4Opens k (x2.1, ())) fun y3 =>
  br k (y3.1.1)
  (br k (decide ((open_.length + ([i] : List Int).length) * 8 ≤ maxBytes))
  (G0 (l_, out_ ++ ([IntKind.wrap .i64 (i + 1)] : List Int), open_ ++ ([i] : List Int), IntKind.wrap .i64 (i + 1), ()))
  none)
  (br k (decide (0 ≤ i))
  (bd k (l_[i.toNat]?) fun x4 =>
  br k (x4.1 == 7)
  ((br k (decide (x1 < 0))
  (some (true, ()))
  (br k (decide (0 ≤ x1))
  (bd k (l_[x1.toNat]?) fun x5 =>
  br k (x5.1 != 5)
  (br k (decide (0 ≤ x1))
  (bd k (l_[x1.toNat]?) fun x6 =>
  some (x6.1 != 6, ()))
  none)
  (some (false, ())))
  none) : Option (Bool × Unit)).bind fun j7 =>
  br k (j7.1)
  (some (([], i, ()), ((), ())))
  (br k (decide (0 ≤ x1 ∧ x1 < ((out_ ++ ([IntKind.wrap .i64 (i + 1)] : List Int)).length : Int)))
  (bd k ((out_ ++ ([IntKind.wrap .i64 (i + 1)] : List Int))[x1.toNat]?) fun x8 =>
  br k (decide (0 ≤ (IntKind.wrap .i64 ((open_.length : Int) - 1)) ∧ (IntKind.wrap .i64 ((open_.length : Int) - 1)) < (open_.length : Int)))
  (bd k (open_[(IntKind.wrap .i64 ((open_.length : Int) - 1)).toNat]?) fun x9 =>
  G0 (l_, (out_ ++ ([IntKind.wrap .i64 (i + 1)] : List Int)).set x1.toNat (IntKind.wrap .i64 (i + 1)), open_.set ((IntKind.wrap .i64 ((open_.length : Int) - 1)).toNat) i, IntKind.wrap .i64 (i + 1), ()))
  none)
  none))
  (br k (decide (0 ≤ i))
  (bd k (l_[i.toNat]?) fun x10 =>
  br k (x10.1 == 8)
  (br k (decide (x1 < 0))
  (some (([], i, ()), ((), ())))
  (br k (decide (0 ≤ (IntKind.wrap .i64 ((open_.length : Int) - 1)) ∧ (IntKind.wrap .i64 ((open_.length : Int) - 1)) ≤ (open_.length : Int)))
  (br k (decide (0 ≤ x1 ∧ x1 < ((out_ ++ ([IntKind.wrap .i64 (i + 1)] : List Int)).length : Int)))
  (bd k ((out_ ++ ([IntKind.wrap .i64 (i + 1)] : List Int))[x1.toNat]?) fun x11 =>
  br k (decide (0 ≤ x1))
  (bd k (l_[x1.toNat]?) fun x12 =>
  bd k (spec_l4Loops k (x12.1, ())) fun y13 =>
  br k (y13.1.1)
  (br k (decide (0 ≤ x1 ∧ x1 < (((out_ ++ ([IntKind.wrap .i64 (i + 1)] : List Int)).set x1.toNat i).length : Int)))
  (bd k (((out_ ++ ([IntKind.wrap .i64 (i + 1)] : List Int)).set x1.toNat i)[x1.toNat]?) fun x14 =>
  br k (decide (0 ≤ i ∧ i < ((((out_ ++ ([IntKind.wrap .i64 (i + 1)] : List Int)).set x1.toNat i).set x1.toNat (IntKind.wrap .i64 (i + 1))).length : Int)))
  (bd k ((((out_ ++ ([IntKind.wrap .i64 (i + 1)] : List Int)).set x1.toNat i).set x1.toNat (IntKind.wrap .i64 (i + 1)))[i.toNat]?) fun x15 =>
  G0 (l_, (((out_ ++ ([IntKind.wrap .i64 (i + 1)] : List Int)).set x1.toNat i).set x1.toNat (IntKind.wrap .i64 (i + 1))).set i.toNat x1, subL open_ ((0 : Int).toNat) ((IntKind.wrap .i64 ((open_.length : Int) - 1)).toNat - (0 : Int).toNat), IntKind.wrap .i64 (i + 1), ()))
  none)
  none)
  (G0 (l_, (out_ ++ ([IntKind.wrap .i64 (i + 1)] : List Int)).set x1.toNat i, subL open_ ((0 : Int).toNat) ((IntKind.wrap .i64 ((open_.length : Int) - 1)).toNat - (0 : Int).toNat), IntKind.wrap .i64 (i + 1), ())))
  none)
  none)
  none))
  (G0 (l_, out_ ++ ([IntKind.wrap .i64 (i + 1)] : List Int), open_, IntKind.wrap .i64 (i + 1), ())))
  none))
  none))
  none)
  none)
  (br k (decide (0 ≤ i))
  (bd k (l_[i.toNat]?) fun x16 =>
  bd k (spec_l4Opens k (x16.1, ())) fun y17 =>
  br k (y17.1.1)
  (br k (decide ((open_.length + ([i] : List Int).length) * 8 ≤ maxBytes))
  (G0 (l_, out_ ++ ([IntKind.wrap .i64 (i + 1)] : List Int), open_ ++ ([i] : List Int), IntKind.wrap .i64 (i + 1), ()))
  none)
  (br k (decide (0 ≤ i))
  (bd k (l_[i.toNat]?) fun x18 =>
  br k (x18.1 == 7)
  ((br k (decide ((-1 : Int) < 0))
  (some (true, ()))
  (br k (decide (0 ≤ (-1 : Int)))
  (bd k (l_[(-1 : Int).toNat]?) fun x19 =>
  br k (x19.1 != 5)
  (br k (decide (0 ≤ (-1 : Int)))
  (bd k (l_[(-1 : Int).toNat]?) fun x20 =>
  some (x20.1 != 6, ()))
  none)
  (some (false, ())))
  none) : Option (Bool × Unit)).bind fun j21 =>
  br k (j21.1)
  (some (([], i, ()), ((), ())))
  (br k (decide (0 ≤ (-1 : Int) ∧ (-1 : Int) < ((out_ ++ ([IntKind.wrap .i64 (i + 1)] : List Int)).length : Int)))
  (bd k ((out_ ++ ([IntKind.wrap .i64 (i + 1)] : List Int))[(-1 : Int).toNat]?) fun x22 =>
  br k (decide (0 ≤ (IntKind.wrap .i64 ((open_.length : Int) - 1)) ∧ (IntKind.wrap .i64 ((open_.length : Int) - 1)) < (open_.length : Int)))
  (bd k (open_[(IntKind.wrap .i64 ((open_.length : Int) - 1)).toNat]?) fun x23 =>
  G0 (l_, (out_ ++ ([IntKind.wrap .i64 (i + 1)] : List Int)).set ((-1 : Int).toNat) (IntKind.wrap .i64 (i + 1)), open_.set ((IntKind.wrap .i64 ((open_.length : Int) - 1)).toNat) i, IntKind.wrap .i64 (i + 1), ()))
  none)
  none))
  (br k (decide (0 ≤ i))
  (bd k (l_[i.toNat]?) fun x24 =>
  br k (x24.1 == 8)
  (br k (decide ((-1 : Int) < 0))
  (some (([], i, ()), ((), ())))
  (br k (decide (0 ≤ (IntKind.wrap .i64 ((open_.length : Int) - 1)) ∧ (IntKind.wrap .i64 ((open_.length : Int) - 1)) ≤ (open_.length : Int)))
  (br k (decide (0 ≤ (-1 : Int) ∧ (-1 : Int) < ((out_ ++ ([IntKind.wrap .i64 (i + 1)] : List Int)).length : Int)))
  (bd k ((out_ ++ ([IntKind.wrap .i64 (i + 1)] : List Int))[(-1 : Int).toNat]?) fun x25 =>
  br k (decide (0 ≤ (-1 : Int)))
  (bd k (l_[(-1 : Int).toNat]?) fun x26 =>
  bd k (spec_l4Loops k (x26.1, ())) fun y27 =>
  br k (y27.1.1)
  (br k (decide (0 ≤ (-1 : Int) ∧ (-1 : Int) < (((out_ ++ ([IntKind.wrap .i64 (i + 1)] : List Int)).set ((-1 : Int).toNat) i).length : Int)))
  (bd k (((out_ ++ ([IntKind.wrap .i64 (i + 1)] : List Int)).set ((-1 : Int).toNat) i)[(-1 : Int).toNat]?) fun x28 =>
  br k (decide (0 ≤ i ∧ i < ((((out_ ++ ([IntKind.wrap .i64 (i + 1)] : List Int)).set ((-1 : Int).toNat) i).set ((-1 : Int).toNat) (IntKind.wrap .i64 (i + 1))).length : Int)))
  (bd k ((((out_ ++ ([IntKind.wrap .i64 (i + 1)] : List Int)).set ((-1 : Int).toNat) i).set ((-1 : Int).toNat) (IntKind.wrap .i64 (i + 1)))[i.toNat]?) fun x29 =>
  G0 (l_, (((out_ ++ ([IntKind.wrap .i64 (i + 1)] : List Int)).set ((-1 : Int).toNat) i).set ((-1 : Int).toNat) (IntKind.wrap .i64 (i + 1))).set i.toNat (-1), subL open_ ((0 : Int).toNat) ((IntKind.wrap .i64 ((open_.length : Int) - 1)).toNat - (0 : Int).toNat), IntKind.wrap .i64 (i + 1), ()))
  none)
  none)
  (G0 (l_, (out_ ++ ([IntKind.wrap .i64 (i + 1)] : List Int)).set ((-1 : Int).toNat) i, subL open_ ((0 : Int).toNat) ((IntKind.wrap .i64 ((open_.length : Int) - 1)).toNat - (0 : Int).toNat), IntKind.wrap .i64 (i + 1), ())))
  none)
  none)
  none))
  (G0 (l_, out_ ++ ([IntKind.wrap .i64 (i + 1)] : List Int), open_, IntKind.wrap .i64 (i + 1), ())))
  none))
  none))
  none))
  none)
  (br k (decide ((open_.length : Int) > 0))
  (some (([], (l_.length : Int), ()), ((), ())))
  (some ((out_, IntKind.wrap .i64 ((l_.length : Int) + 1), ()), ((), ()))))
noncomputable def spec_l4Targets (k : Nat) : ((List QT0) × Unit) → Option (QT11 × (Unit × Unit)) := fun x => match x with
 | (l_, ()) =>
  iter (spec_l4Targets.l0 k) k (l_, ([] : List Int), ([] : List Int), 0, ())
noncomputable def spec_l4Targets.sg (k : Nat) : Sig := ⟨spec_l4Targets.A, spec_l4Targets.R, spec_l4Targets k⟩
noncomputable def spec_l4Targets.C (k : Nat) : Ctx := ⟨Tryz.prog, [(69, [spec_l4Opens.sg k]), (70, [spec_l4Loops.sg k])], k, [], []⟩
theorem spec_l4Targets.ev (k : Nat) (x : spec_l4Targets.A.T) : evFunc (spec_l4Targets.C k) spec_l4Targets.ann Tryz.f46 spec_l4Targets.A spec_l4Targets.R x = spec_l4Targets k x := by kernel_rfl
theorem spec_l4Targets.ok {L : List (Nat × Obj)}  (k : Nat) : SigHolds Tryz.prog L 46 (spec_l4Targets.sg k) :=
  sig_of_ev (C := spec_l4Targets.C k) (holds_cons (allok_cons (spec_l4Opens.ok k) allok_nil) (holds_cons (allok_cons (spec_l4Loops.ok k) allok_nil) holds_nil)) (by kernel_rfl) Tryz.func46 (by kernel_rfl) _ _ _ (fun x y h => (spec_l4Targets.ev k x).trans h) (by kernel_rfl)
def spec_ProgOk.A : Sh := (.cons QS23 .nil)
def spec_ProgOk.R : Sh := QS19
def spec_ProgOk.ann : Ann := { loops := [(0, [(1, (.box (.cons (.pur (.sl false .str)) (.cons (.pur (.sl false .str)) (.cons (.pur QK13) QS51))))), (3, (.pur (.int .i64)))])], joins := [(1, [(15, .bool)])], keys := [] }
noncomputable def spec_ProgOk.l0 (k : Nat)  (G0 : (QT8 × Int × Unit) → Option QT21) : (QT8 × Int × Unit) → Option QT21 := fun x => match x with
 | ((p_0, p_1, p_2, p_3, ()), i, ()) =>
  br k (decide (i < (p_3.length : Int)))
  (br k (decide (0 ≤ i))
  (bd k (p_3[i.toNat]?) fun x3 =>
  bd k (spec_l4Line k ((p_0, p_1, p_2, ()), x3, ())) fun y4 =>
  br k (!y4.1.1)
  (some ((false, ()), ((), ())))
  (G0 ((p_0, p_1, p_2, p_3, ()), IntKind.wrap .i64 (i + 1), ())))
  none)
  (bd k (spec_l4Targets k (p_3, ())) fun y5 =>
  some ((decide (y5.1.2.1 > (p_3.length : Int)), ()), ((), ())))
noncomputable def spec_ProgOk (k : Nat) : (QT8 × Unit) → Option QT21 := fun x => match x with
 | (p, ()) =>
  (bd k (spec_DeclOk k ((p.1, p.2.1, p.2.2.1, ()), ())) fun y1 =>
  br k (!y1.1.1)
  (some (true, ()))
  (some (decide ((p.2.2.2.1.length : Int) > 30), ())) : Option (Bool × Unit)).bind fun j2 =>
  br k (j2.1)
  (some ((false, ()), ((), ())))
  (iter (spec_ProgOk.l0 k) k ((p.1, p.2.1, p.2.2.1, p.2.2.2.1, ()), 0, ()))
noncomputable def spec_ProgOk.sg (k : Nat) : Sig := ⟨spec_ProgOk.A, spec_ProgOk.R, spec_ProgOk k⟩
noncomputable def spec_ProgOk.C (k : Nat) : Ctx := ⟨Tryz.prog, [(47, [spec_DeclOk.sg k]), (68, [spec_l4Line.sg k]), (46, [spec_l4Targets.sg k])], k, [], []⟩
theorem spec_ProgOk.ev (k : Nat) (x : spec_ProgOk.A.T) : evFunc (spec_ProgOk.C k) spec_ProgOk.ann Tryz.f44 spec_ProgOk.A spec_ProgOk.R x = spec_ProgOk k x := by kernel_rfl
theorem spec_ProgOk.ok {L : List (Nat × Obj)}  (k : Nat) : SigHolds Tryz.prog L 44 (spec_ProgOk.sg k) :=
  sig_of_ev (C := spec_ProgOk.C k) (holds_cons (allok_cons (spec_DeclOk.ok k) allok_nil) (holds_cons (allok_cons (spec_l4Line.ok k) allok_nil) (holds_cons (allok_cons (spec_l4Targets.ok k) allok_nil) holds_nil))) (by kernel_rfl) Tryz.func44 (by kernel_rfl) _ _ _ (fun x y h => (spec_ProgOk.ev k x).trans h) (by kernel_rfl)
def spec_l5Form.A : Sh := (.cons QS23 (.cons QS32 QS12))
def spec_l5Form.R : Sh := QS19
def spec_l5Form.ann : Ann := { loops := [], joins := [(1, [(6, .bool)])], keys := [] }
noncomputable def spec_l5Form (k : Nat) : QT52 → Option ((Bool × Unit) × QT35) := fun x => match x with
 | (p, inputs, fuel, ()) =>
  (bd k (spec_ProgOk k (p, ())) fun y1 =>
  br k (y1.1.1)
  (bd k (spec_l1In k (fuel, 0, 2000, ())) fun y2 =>
  br k (y2.1.1)
  (some (decide ((inputs.length : Int) ≤ 1000), ()))
  (some (false, ())))
  (some (false, ())) : Option (Bool × Unit)).bind fun j3 =>
  some ((j3.1, ()), ((), (), (), ()))
noncomputable def spec_l5Form.sg (k : Nat) : Sig := ⟨spec_l5Form.A, spec_l5Form.R, spec_l5Form k⟩
noncomputable def spec_l5Form.C (k : Nat) : Ctx := ⟨Tryz.prog, [(44, [spec_ProgOk.sg k]), (45, [spec_l1In.sg k])], k, [], []⟩
theorem spec_l5Form.ev (k : Nat) (x : spec_l5Form.A.T) : evFunc (spec_l5Form.C k) spec_l5Form.ann Tryz.f24 spec_l5Form.A spec_l5Form.R x = spec_l5Form k x := by kernel_rfl
theorem spec_l5Form.ok {L : List (Nat × Obj)}  (k : Nat) : SigHolds Tryz.prog L 24 (spec_l5Form.sg k) :=
  sig_of_ev (C := spec_l5Form.C k) (holds_cons (allok_cons (spec_ProgOk.ok k) allok_nil) (holds_cons (allok_cons (spec_l1In.ok k) allok_nil) holds_nil)) (by kernel_rfl) Tryz.func24 (by kernel_rfl) _ _ _ (fun x y h => (spec_l5Form.ev k x).trans h) (by kernel_rfl)
def spec_Targets.A : Sh := (.cons QS23 .nil)
def spec_Targets.R : Sh := (.cons (.own (.int .i64)) .nil)
def spec_Targets.ann : Ann := { loops := [], joins := [], keys := [] }
noncomputable def spec_Targets (k : Nat) : (QT8 × Unit) → Option (((List Int) × Unit) × (Unit × Unit)) := fun x => match x with
 | (p, ()) =>
  bd k (spec_ProgOk k (p, ())) fun y1 =>
  br k (!y1.1.1)
  (some (([], ()), ((), ())))
  (bd k (spec_l4Targets k (p.2.2.2.1, ())) fun y2 =>
  some ((y2.1.1, ()), ((), ())))
noncomputable def spec_Targets.sg (k : Nat) : Sig := ⟨spec_Targets.A, spec_Targets.R, spec_Targets k⟩
noncomputable def spec_Targets.C (k : Nat) : Ctx := ⟨Tryz.prog, [(44, [spec_ProgOk.sg k]), (46, [spec_l4Targets.sg k])], k, [], []⟩
theorem spec_Targets.ev (k : Nat) (x : spec_Targets.A.T) : evFunc (spec_Targets.C k) spec_Targets.ann Tryz.f25 spec_Targets.A spec_Targets.R x = spec_Targets k x := by kernel_rfl
theorem spec_Targets.ok {L : List (Nat × Obj)}  (k : Nat) : SigHolds Tryz.prog L 25 (spec_Targets.sg k) :=
  sig_of_ev (C := spec_Targets.C k) (holds_cons (allok_cons (spec_ProgOk.ok k) allok_nil) (holds_cons (allok_cons (spec_l4Targets.ok k) allok_nil) holds_nil)) (by kernel_rfl) Tryz.func25 (by kernel_rfl) _ _ _ (fun x y h => (spec_Targets.ev k x).trans h) (by kernel_rfl)
def spec_StoreNew.A : Sh := (.cons QS6 .nil)
def spec_StoreNew.R : Sh := (.cons (.agg QS17) .nil)
def spec_StoreNew.ann : Ann := { loops := [(0, [(1, QS24), (2, (.box QS17)), (3, (.box QS17)), (4, (.pur (.int .i64)))])], joins := [], keys := [(3, [([1], false), ([1], false), ([], false), ([12], true), ([1], false), ([1], false), ([], false), ([16], true), ([12, 16], false), ([3], true), ([3, 12, 16], true)]), (7, [([3], false), ([3], false), ([1], false), ([1], false), ([], false), ([], false), ([], false), ([], false), ([33], true), ([33, 34], true), ([3, 34, 35], true), ([3], false), ([3, 35], true)])] }
noncomputable def spec_StoreNew.l0 (k : Nat)  (G0 : (QT2 × QT7 × QT7 × Int × Unit) → Option QT41) : (QT2 × QT7 × QT7 × Int × Unit) → Option QT41 := fun x => match x with
 | ((d__0, d__1, d__2, ()), (t2_0, t2_1, t2_2, ()), (s__0, s__1, s__2, ()), i, ()) =>
  br k (decide (i < (d__2.length : Int)))
  (br k (decide (0 ≤ i))
  (bd k (d__2[i.toNat]?) fun x2 =>
  br k (decide (0 ≤ x2.2.1 ∧ x2.2.1 ≤ x2.2.1 ∧ x2.2.1 * 8 ≤ maxBytes))
  (br k (decide ((s__2.length + ([List.replicate x2.2.1.toNat (Kd.z (.int .i64))] : List (List Int)).length) * 24 ≤ maxBytes))
  (G0 ((d__0, d__1, d__2, ()), (t2_0, t2_1, t2_2, ()), (s__0, s__1, s__2 ++ ([List.replicate x2.2.1.toNat (Kd.z (.int .i64))] : List (List Int)), ()), IntKind.wrap .i64 (i + 1), ()))
  none)
  none)
  none)
  (some (((s__0, s__1, s__2, ()), ()), ((), ())))
noncomputable def spec_StoreNew (k : Nat) : (QT2 × Unit) → Option QT41 := fun x => match x with
 | (d_, ()) =>
  bd k (spec_DeclOk k (d_, ())) fun y1 =>
  br k (!y1.1.1)
  (some ((([], [], ([] : List (List Int)), ()), ()), ((), ())))
  (br k (decide (0 ≤ (d_.1.length : Int) ∧ (d_.1.length : Int) ≤ (d_.1.length : Int) ∧ (d_.1.length : Int) * 8 ≤ maxBytes))
  (br k (decide (0 ≤ (d_.2.1.length : Int) ∧ (d_.2.1.length : Int) ≤ (d_.2.1.length : Int) ∧ (d_.2.1.length : Int) * 1 ≤ maxBytes))
  (iter (spec_StoreNew.l0 k) k ((d_.1, d_.2.1, d_.2.2.1, ()), ([], [], ([] : List (List Int)), ()), (List.replicate (d_.1.length : Int).toNat (Kd.z (.int .i64)), List.replicate (d_.2.1.length : Int).toNat (Kd.z .bool), ([] : List (List Int)), ()), 0, ()))
  none)
  none)
noncomputable def spec_StoreNew.sg (k : Nat) : Sig := ⟨spec_StoreNew.A, spec_StoreNew.R, spec_StoreNew k⟩
noncomputable def spec_StoreNew.C (k : Nat) : Ctx := ⟨Tryz.prog, [(47, [spec_DeclOk.sg k])], k, [(34, (.own (.int .i64)))], []⟩
theorem spec_StoreNew.ev (k : Nat) (x : spec_StoreNew.A.T) : evFunc (spec_StoreNew.C k) spec_StoreNew.ann Tryz.f26 spec_StoreNew.A spec_StoreNew.R x = spec_StoreNew k x := by kernel_rfl
theorem spec_StoreNew.ok {L : List (Nat × Obj)}  (k : Nat) : SigHolds Tryz.prog L 26 (spec_StoreNew.sg k) :=
  sig_of_ev (C := spec_StoreNew.C k) (holds_cons (allok_cons (spec_DeclOk.ok k) allok_nil) holds_nil) (by kernel_rfl) Tryz.func26 (by kernel_rfl) _ _ _ (fun x y h => (spec_StoreNew.ev k x).trans h) (by kernel_rfl)
def spec_NumAdd.A : Sh := QS5
def spec_NumAdd.R : Sh := QS5
def spec_NumAdd.ann : Ann := { loops := [], joins := [(1, [(6, .bool)]), (3, [(15, .bool)])], keys := [] }
noncomputable def spec_NumAdd (k : Nat) : (Int × Int × Unit) → Option QT28 := fun x => match x with
 | (a, b_, ()) =>
  (br k (decide (b_ > 0))
  (some (decide (a > (IntKind.wrap .i64 (9223372036854775807 - b_))), ()))
  (some (false, ())) : Option (Bool × Unit)).bind fun j1 =>
  br k (j1.1)
  (some ((0, 1, ()), ((), (), ())))
  ((br k (decide (b_ < 0))
  (some (decide (a < (IntKind.wrap .i64 ((-9223372036854775808) - b_))), ()))
  (some (false, ())) : Option (Bool × Unit)).bind fun j2 =>
  br k (j2.1)
  (some ((0, (-1), ()), ((), (), ())))
  (some ((IntKind.wrap .i64 (a + b_), 0, ()), ((), (), ()))))
noncomputable def spec_NumAdd.sg (k : Nat) : Sig := ⟨spec_NumAdd.A, spec_NumAdd.R, spec_NumAdd k⟩
noncomputable def spec_NumAdd.C (k : Nat) : Ctx := ⟨Tryz.prog, [], k, [], []⟩
theorem spec_NumAdd.ev (k : Nat) (x : spec_NumAdd.A.T) : evFunc (spec_NumAdd.C k) spec_NumAdd.ann Tryz.f104 spec_NumAdd.A spec_NumAdd.R x = spec_NumAdd k x := by kernel_rfl
theorem spec_NumAdd.ok {L : List (Nat × Obj)}  (k : Nat) : SigHolds Tryz.prog L 104 (spec_NumAdd.sg k) :=
  sig_of_ev (C := spec_NumAdd.C k) holds_nil (by kernel_rfl) Tryz.func104 (by kernel_rfl) _ _ _ (fun x y h => (spec_NumAdd.ev k x).trans h) (by kernel_rfl)
def spec_NumSub.A : Sh := QS5
def spec_NumSub.R : Sh := QS5
def spec_NumSub.ann : Ann := { loops := [], joins := [(1, [(6, .bool)]), (3, [(15, .bool)])], keys := [] }
noncomputable def spec_NumSub (k : Nat) : (Int × Int × Unit) → Option QT28 := fun x => match x with
 | (a, b_, ()) =>
  (br k (decide (b_ < 0))
  (some (decide (a > (IntKind.wrap .i64 (9223372036854775807 + b_))), ()))
  (some (false, ())) : Option (Bool × Unit)).bind fun j1 =>
  br k (j1.1)
  (some ((0, 1, ()), ((), (), ())))
  ((br k (decide (b_ > 0))
  (some (decide (a < (IntKind.wrap .i64 ((-9223372036854775808) + b_))), ()))
  (some (false, ())) : Option (Bool × Unit)).bind fun j2 =>
  br k (j2.1)
  (some ((0, (-1), ()), ((), (), ())))
  (some ((IntKind.wrap .i64 (a - b_), 0, ()), ((), (), ()))))
noncomputable def spec_NumSub.sg (k : Nat) : Sig := ⟨spec_NumSub.A, spec_NumSub.R, spec_NumSub k⟩
noncomputable def spec_NumSub.C (k : Nat) : Ctx := ⟨Tryz.prog, [], k, [], []⟩
theorem spec_NumSub.ev (k : Nat) (x : spec_NumSub.A.T) : evFunc (spec_NumSub.C k) spec_NumSub.ann Tryz.f105 spec_NumSub.A spec_NumSub.R x = spec_NumSub k x := by kernel_rfl
theorem spec_NumSub.ok {L : List (Nat × Obj)}  (k : Nat) : SigHolds Tryz.prog L 105 (spec_NumSub.sg k) :=
  sig_of_ev (C := spec_NumSub.C k) holds_nil (by kernel_rfl) Tryz.func105 (by kernel_rfl) _ _ _ (fun x y h => (spec_NumSub.ev k x).trans h) (by kernel_rfl)
def spec_l1Abs.A : Sh := QS12
def spec_l1Abs.R : Sh := (.cons (.pur (.int .u64)) .nil)
def spec_l1Abs.ann : Ann := { loops := [], joins := [], keys := [] }
noncomputable def spec_l1Abs (k : Nat) : (Int × Unit) → Option QT38 := fun x => match x with
 | (n, ()) =>
  br k (decide (n < 0))
  (some ((IntKind.wrap .u64 (0 - (IntKind.wrap .u64 n)), ()), ((), ())))
  (some ((IntKind.wrap .u64 n, ()), ((), ())))
noncomputable def spec_l1Abs.sg (k : Nat) : Sig := ⟨spec_l1Abs.A, spec_l1Abs.R, spec_l1Abs k⟩
noncomputable def spec_l1Abs.C (k : Nat) : Ctx := ⟨Tryz.prog, [], k, [], []⟩
theorem spec_l1Abs.ev (k : Nat) (x : spec_l1Abs.A.T) : evFunc (spec_l1Abs.C k) spec_l1Abs.ann Tryz.f132 spec_l1Abs.A spec_l1Abs.R x = spec_l1Abs k x := by kernel_rfl
theorem spec_l1Abs.ok {L : List (Nat × Obj)}  (k : Nat) : SigHolds Tryz.prog L 132 (spec_l1Abs.sg k) :=
  sig_of_ev (C := spec_l1Abs.C k) holds_nil (by kernel_rfl) Tryz.func132 (by kernel_rfl) _ _ _ (fun x y h => (spec_l1Abs.ev k x).trans h) (by kernel_rfl)
def spec_NumMul.A : Sh := QS5
def spec_NumMul.R : Sh := QS5
def spec_NumMul.ann : Ann := { loops := [], joins := [(1, [(15, .bool)]), (9, [(26, .bool)])], keys := [] }
noncomputable def spec_NumMul (k : Nat) : (Int × Int × Unit) → Option QT28 := fun x => match x with
 | (a, b_, ()) =>
  (br k (a == 0)
  (some (true, ()))
  (some (b_ == 0, ())) : Option (Bool × Unit)).bind fun j1 =>
  br k (j1.1)
  (some ((0, 0, ()), ((), (), ())))
  (bd k (spec_l1Abs k (a, ())) fun y2 =>
  bd k (spec_l1Abs k (b_, ())) fun y3 =>
  br k (!((decide (a < 0)) == (decide (b_ < 0))))
  ((br k (!decide (y3.1.1 = 0))
  (br k (decide (y2.1.1 > (IntKind.wrap .u64 ((9223372036854775808 : Int).tdiv y3.1.1))))
  (some (!((decide (a < 0)) == (decide (b_ < 0))), ()))
  (some (false, ())))
  none : Option (Bool × Unit)).bind fun j4 =>
  br k (j4.1)
  (some ((0, (-1), ()), ((), (), ())))
  (br k (!decide (y3.1.1 = 0))
  (br k (decide (y2.1.1 > (IntKind.wrap .u64 ((9223372036854775808 : Int).tdiv y3.1.1))))
  (some ((0, 1, ()), ((), (), ())))
  (some ((IntKind.wrap .i64 (a * b_), 0, ()), ((), (), ()))))
  none))
  ((br k (!decide (y3.1.1 = 0))
  (br k (decide (y2.1.1 > (IntKind.wrap .u64 ((9223372036854775807 : Int).tdiv y3.1.1))))
  (some (!((decide (a < 0)) == (decide (b_ < 0))), ()))
  (some (false, ())))
  none : Option (Bool × Unit)).bind fun j5 =>
  br k (j5.1)
  (some ((0, (-1), ()), ((), (), ())))
  (br k (!decide (y3.1.1 = 0))
  (br k (decide (y2.1.1 > (IntKind.wrap .u64 ((9223372036854775807 : Int).tdiv y3.1.1))))
  (some ((0, 1, ()), ((), (), ())))
  (some ((IntKind.wrap .i64 (a * b_), 0, ()), ((), (), ()))))
  none)))
noncomputable def spec_NumMul.sg (k : Nat) : Sig := ⟨spec_NumMul.A, spec_NumMul.R, spec_NumMul k⟩
noncomputable def spec_NumMul.C (k : Nat) : Ctx := ⟨Tryz.prog, [(132, [spec_l1Abs.sg k])], k, [], []⟩
theorem spec_NumMul.ev (k : Nat) (x : spec_NumMul.A.T) : evFunc (spec_NumMul.C k) spec_NumMul.ann Tryz.f106 spec_NumMul.A spec_NumMul.R x = spec_NumMul k x := by kernel_rfl
theorem spec_NumMul.ok {L : List (Nat × Obj)}  (k : Nat) : SigHolds Tryz.prog L 106 (spec_NumMul.sg k) :=
  sig_of_ev (C := spec_NumMul.C k) (holds_cons (allok_cons (spec_l1Abs.ok k) allok_nil) holds_nil) (by kernel_rfl) Tryz.func106 (by kernel_rfl) _ _ _ (fun x y h => (spec_NumMul.ev k x).trans h) (by kernel_rfl)
def spec_NumQuo.A : Sh := QS5
def spec_NumQuo.R : Sh := QS5
def spec_NumQuo.ann : Ann := { loops := [], joins := [], keys := [] }
noncomputable def spec_NumQuo (k : Nat) : (Int × Int × Unit) → Option QT28 := fun x => match x with
 | (a, b_, ()) =>
  br k (b_ == 0)
  (some ((0, 0, ()), ((), (), ())))
  (br k (b_ == (-1))
  (bd k (spec_NumSub k (0, a, ())) fun y1 =>
  some ((y1.1.1, y1.1.2.1, ()), ((), (), ())))
  (br k (!decide (b_ = 0))
  (some ((IntKind.wrap .i64 (a.tdiv b_), 0, ()), ((), (), ())))
  none))
noncomputable def spec_NumQuo.sg (k : Nat) : Sig := ⟨spec_NumQuo.A, spec_NumQuo.R, spec_NumQuo k⟩
noncomputable def spec_NumQuo.C (k : Nat) : Ctx := ⟨Tryz.prog, [(105, [spec_NumSub.sg k])], k, [], []⟩
theorem spec_NumQuo.ev (k : Nat) (x : spec_NumQuo.A.T) : evFunc (spec_NumQuo.C k) spec_NumQuo.ann Tryz.f107 spec_NumQuo.A spec_NumQuo.R x = spec_NumQuo k x := by kernel_rfl
theorem spec_NumQuo.ok {L : List (Nat × Obj)}  (k : Nat) : SigHolds Tryz.prog L 107 (spec_NumQuo.sg k) :=
  sig_of_ev (C := spec_NumQuo.C k) (holds_cons (allok_cons (spec_NumSub.ok k) allok_nil) holds_nil) (by kernel_rfl) Tryz.func107 (by kernel_rfl) _ _ _ (fun x y h => (spec_NumQuo.ev k x).trans h) (by kernel_rfl)
def spec_NumRem.A : Sh := QS5
def spec_NumRem.R : Sh := QS12
def spec_NumRem.ann : Ann := { loops := [], joins := [(1, [(10, .bool)])], keys := [] }
noncomputable def spec_NumRem (k : Nat) : (Int × Int × Unit) → Option QT26 := fun x => match x with
 | (a, b_, ()) =>
  (br k (b_ == 0)
  (some (true, ()))
  (some (b_ == (-1), ())) : Option (Bool × Unit)).bind fun j1 =>
  br k (j1.1)
  (some ((0, ()), ((), (), ())))
  (br k (!decide (b_ = 0))
  (some ((a.tmod b_, ()), ((), (), ())))
  none)
noncomputable def spec_NumRem.sg (k : Nat) : Sig := ⟨spec_NumRem.A, spec_NumRem.R, spec_NumRem k⟩
noncomputable def spec_NumRem.C (k : Nat) : Ctx := ⟨Tryz.prog, [], k, [], []⟩
theorem spec_NumRem.ev (k : Nat) (x : spec_NumRem.A.T) : evFunc (spec_NumRem.C k) spec_NumRem.ann Tryz.f108 spec_NumRem.A spec_NumRem.R x = spec_NumRem k x := by kernel_rfl
theorem spec_NumRem.ok {L : List (Nat × Obj)}  (k : Nat) : SigHolds Tryz.prog L 108 (spec_NumRem.sg k) :=
  sig_of_ev (C := spec_NumRem.C k) holds_nil (by kernel_rfl) Tryz.func108 (by kernel_rfl) _ _ _ (fun x y h => (spec_NumRem.ev k x).trans h) (by kernel_rfl)
def spec_l5Holds.A : Sh := QS49
def spec_l5Holds.R : Sh := QS19
def spec_l5Holds.ann : Ann := { loops := [], joins := [], keys := [] }
noncomputable def spec_l5Holds (k : Nat) : QT56 → Option ((Bool × Unit) × QT35) := fun x => match x with
 | (op, a, b_, ()) =>
  br k (op == 13)
  (some ((decide (a < b_), ()), ((), (), (), ())))
  (br k (op == 14)
  (some ((decide (a ≤ b_), ()), ((), (), (), ())))
  (br k (op == 15)
  (some ((a == b_, ()), ((), (), (), ())))
  (br k (op == 16)
  (some ((a != b_, ()), ((), (), (), ())))
  (br k (op == 17)
  (some ((decide (a > b_), ()), ((), (), (), ())))
  (some ((decide (a ≥ b_), ()), ((), (), (), ())))))))
noncomputable def spec_l5Holds.sg (k : Nat) : Sig := ⟨spec_l5Holds.A, spec_l5Holds.R, spec_l5Holds k⟩
noncomputable def spec_l5Holds.C (k : Nat) : Ctx := ⟨Tryz.prog, [], k, [], []⟩
theorem spec_l5Holds.ev (k : Nat) (x : spec_l5Holds.A.T) : evFunc (spec_l5Holds.C k) spec_l5Holds.ann Tryz.f109 spec_l5Holds.A spec_l5Holds.R x = spec_l5Holds k x := by kernel_rfl
theorem spec_l5Holds.ok {L : List (Nat × Obj)}  (k : Nat) : SigHolds Tryz.prog L 109 (spec_l5Holds.sg k) :=
  sig_of_ev (C := spec_l5Holds.C k) holds_nil (by kernel_rfl) Tryz.func109 (by kernel_rfl) _ _ _ (fun x y h => (spec_l5Holds.ev k x).trans h) (by kernel_rfl)
def spec_l5One.A : Sh := QS19
def spec_l5One.R : Sh := QS12
def spec_l5One.ann : Ann := { loops := [], joins := [], keys := [] }
noncomputable def spec_l5One (k : Nat) : (Bool × Unit) → Option QT38 := fun x => match x with
 | (is, ()) =>
  br k (is)
  (some ((1, ()), ((), ())))
  (some ((0, ()), ((), ())))
noncomputable def spec_l5One.sg (k : Nat) : Sig := ⟨spec_l5One.A, spec_l5One.R, spec_l5One k⟩
noncomputable def spec_l5One.C (k : Nat) : Ctx := ⟨Tryz.prog, [], k, [], []⟩
theorem spec_l5One.ev (k : Nat) (x : spec_l5One.A.T) : evFunc (spec_l5One.C k) spec_l5One.ann Tryz.f74 spec_l5One.A spec_l5One.R x = spec_l5One k x := by kernel_rfl
theorem spec_l5One.ok {L : List (Nat × Obj)}  (k : Nat) : SigHolds Tryz.prog L 74 (spec_l5One.sg k) :=
  sig_of_ev (C := spec_l5One.C k) holds_nil (by kernel_rfl) Tryz.func74 (by kernel_rfl) _ _ _ (fun x y h => (spec_l5One.ev k x).trans h) (by kernel_rfl)
def spec_l5Two.A : Sh := QS49
def spec_l5Two.R : Sh := QS5
def spec_l5Two.ann : Ann := { loops := [], joins := [], keys := [] }
noncomputable def spec_l5Two (k : Nat) : QT56 → Option ((Int × Int × Unit) × QT35) := fun x => match x with
 | (op, a, b_, ()) =>
  br k (op == 8)
  (bd k (spec_NumAdd k (a, b_, ())) fun y1 =>
  br k (y1.1.2.1 != 0)
  (some ((0, 6, ()), ((), (), (), ())))
  (some ((y1.1.1, 0, ()), ((), (), (), ()))))
  (br k (op == 9)
  (bd k (spec_NumSub k (a, b_, ())) fun y2 =>
  br k (y2.1.2.1 != 0)
  (some ((0, 6, ()), ((), (), (), ())))
  (some ((y2.1.1, 0, ()), ((), (), (), ()))))
  (br k (op == 10)
  (bd k (spec_NumMul k (a, b_, ())) fun y3 =>
  br k (y3.1.2.1 != 0)
  (some ((0, 6, ()), ((), (), (), ())))
  (some ((y3.1.1, 0, ()), ((), (), (), ()))))
  (br k (op == 11)
  (br k (op == 11)
  (br k (b_ == 0)
  (some ((0, 4, ()), ((), (), (), ())))
  (bd k (spec_NumQuo k (a, b_, ())) fun y4 =>
  br k (op == 12)
  (bd k (spec_NumRem k (a, b_, ())) fun y5 =>
  some ((y5.1.1, 0, ()), ((), (), (), ())))
  (br k (y4.1.2.1 != 0)
  (some ((0, 6, ()), ((), (), (), ())))
  (some ((y4.1.1, 0, ()), ((), (), (), ()))))))
  (br k (op == 20)
  (br k ((0 : Int) != 0)
  (some ((0, 6, ()), ((), (), (), ())))
  (some ((IntKind.wrap .i64 (a * b_), 0, ()), ((), (), (), ()))))
  (br k (op == 21)
  (br k ((0 : Int) != 0)
  (some ((0, 6, ()), ((), (), (), ())))
  (some ((if b_ > a then b_ else a, 0, ()), ((), (), (), ()))))
  (bd k (spec_l5Holds k (op, a, b_, ())) fun y6 =>
  bd k (spec_l5One k (y6.1.1, ())) fun y7 =>
  br k ((0 : Int) != 0)
  (some ((0, 6, ()), ((), (), (), ())))
  (some ((y7.1.1, 0, ()), ((), (), (), ())))))))
  (br k (op == 12)
  (br k (b_ == 0)
  (some ((0, 4, ()), ((), (), (), ())))
  (bd k (spec_NumQuo k (a, b_, ())) fun y8 =>
  br k (op == 12)
  (bd k (spec_NumRem k (a, b_, ())) fun y9 =>
  some ((y9.1.1, 0, ()), ((), (), (), ())))
  (br k (y8.1.2.1 != 0)
  (some ((0, 6, ()), ((), (), (), ())))
  (some ((y8.1.1, 0, ()), ((), (), (), ()))))))
  (br k (op == 20)
  (br k ((0 : Int) != 0)
  (some ((0, 6, ()), ((), (), (), ())))
  (some ((IntKind.wrap .i64 (a * b_), 0, ()), ((), (), (), ()))))
  (br k (op == 21)
  (br k ((0 : Int) != 0)
  (some ((0, 6, ()), ((), (), (), ())))
  (some ((if b_ > a then b_ else a, 0, ()), ((), (), (), ()))))
  (bd k (spec_l5Holds k (op, a, b_, ())) fun y10 =>
  bd k (spec_l5One k (y10.1.1, ())) fun y11 =>
  br k ((0 : Int) != 0)
  (some ((0, 6, ()), ((), (), (), ())))
  (some ((y11.1.1, 0, ()), ((), (), (), ()))))))))))
noncomputable def spec_l5Two.sg (k : Nat) : Sig := ⟨spec_l5Two.A, spec_l5Two.R, spec_l5Two k⟩
noncomputable def spec_l5Two.C (k : Nat) : Ctx := ⟨Tryz.prog, [(104, [spec_NumAdd.sg k]), (105, [spec_NumSub.sg k]), (106, [spec_NumMul.sg k]), (107, [spec_NumQuo.sg k]), (108, [spec_NumRem.sg k]), (109, [spec_l5Holds.sg k]), (74, [spec_l5One.sg k])], k, [], []⟩
theorem spec_l5Two.ev (k : Nat) (x : spec_l5Two.A.T) : evFunc (spec_l5Two.C k) spec_l5Two.ann Tryz.f75 spec_l5Two.A spec_l5Two.R x = spec_l5Two k x := by kernel_rfl
theorem spec_l5Two.ok {L : List (Nat × Obj)}  (k : Nat) : SigHolds Tryz.prog L 75 (spec_l5Two.sg k) :=
  sig_of_ev (C := spec_l5Two.C k) (holds_cons (allok_cons (spec_NumAdd.ok k) allok_nil) (holds_cons (allok_cons (spec_NumSub.ok k) allok_nil) (holds_cons (allok_cons (spec_NumMul.ok k) allok_nil) (holds_cons (allok_cons (spec_NumQuo.ok k) allok_nil) (holds_cons (allok_cons (spec_NumRem.ok k) allok_nil) (holds_cons (allok_cons (spec_l5Holds.ok k) allok_nil) (holds_cons (allok_cons (spec_l5One.ok k) allok_nil) holds_nil))))))) (by kernel_rfl) Tryz.func75 (by kernel_rfl) _ _ _ (fun x y h => (spec_l5Two.ev k x).trans h) (by kernel_rfl)
def spec_l5Eval.A : Sh := (.cons (.pur (.sl false QK1)) (.cons QS20 .nil))
def spec_l5Eval.R : Sh := QS5
def spec_l5Eval.ann : Ann := { loops := [(0, [(0, (.pur (.sl false QK1))), (3, QS15), (6, (.own (.int .i64))), (7, (.pur (.int .i64)))])], joins := [], keys := [], heads := [(25, [(0, (.pur (.sl false QK1))), (3, QS15), (6, (.own (.int .i64))), (7, (.pur (.int .i64))), (8, (.box QS5)), (9, (.pur (.int .i64))), (10, (.pur (.int .i64))), (11, (.pur (.int .i64))), (12, (.pur (.int .i64)))])] }
noncomputable def spec_l5Eval.h25 (k : Nat) (G0 : (QT16 × QT7 × (List Int) × Int × Unit) → Option QT28) : (QT16 × QT7 × (List Int) × Int × (Int × Int × Unit) × Int × Int × Int × Int × Unit) → Option QT28 := fun x => match x with
 | (l_, (s__0, s__1, s__2, ()), pile, i, (t_0, t_1, ()), n, k_, x_, code, ()) =>
  br k (n == 2)
  (br k (decide (0 ≤ k_ ∧ k_ < (pile.length : Int)))
  (bd k (pile[k_.toNat]?) fun x4 =>
  br k (decide (0 ≤ (IntKind.wrap .i64 (k_ + 1)) ∧ (IntKind.wrap .i64 (k_ + 1)) < (pile.length : Int)))
  (bd k (pile[(IntKind.wrap .i64 (k_ + 1)).toNat]?) fun x5 =>
  bd k (spec_l5Two k (t_0, x4, x5, ())) fun y6 =>
  br k (y6.1.2.1 != 0)
  (some ((0, y6.1.2.1, ()), ((), (), ())))
  (br k (decide (0 ≤ k_ ∧ k_ ≤ (pile.length : Int)))
  (br k (decide (((subL pile ((0 : Int).toNat) (k_.toNat - (0 : Int).toNat)).length + ([y6.1.1] : List Int).length) * 8 ≤ maxBytes))
  (G0 (l_, (s__0, s__1, s__2, ()), (subL pile ((0 : Int).toNat) (k_.toNat - (0 : Int).toNat)) ++ ([y6.1.1] : List Int), IntKind.wrap .i64 (i + 1), ()))
  none)
  none))
  none)
  none)
  (br k (code != 0)
  (some ((0, code, ()), ((), (), ())))
  (br k (decide (0 ≤ k_ ∧ k_ ≤ (pile.length : Int)))
  (br k (decide (((subL pile ((0 : Int).toNat) (k_.toNat - (0 : Int).toNat)).length + ([x_] : List Int).length) * 8 ≤ maxBytes))
  (G0 (l_, (s__0, s__1, s__2, ()), (subL pile ((0 : Int).toNat) (k_.toNat - (0 : Int).toNat)) ++ ([x_] : List Int), IntKind.wrap .i64 (i + 1), ()))
  none)
  none))
noncomputable def spec_l5Eval.l0 (k : Nat)  (G0 : (QT16 × QT7 × (List Int) × Int × Unit) → Option QT28) : (QT16 × QT7 × (List Int) × Int × Unit) → Option QT28 := fun x => match x with
 | (l_, (s__0, s__1, s__2, ()), pile, i, ()) =>
  br k (decide (i < (l_.length : Int)))
  (br k (decide (0 ≤ i))
  (bd k (l_[i.toNat]?) fun x1 =>
  bd k (spec_l3Takes k (x1.1, ())) fun y2 =>
  br k (x1.1 == 2)
  (br k (decide (0 ≤ x1.2.1))
  (bd k (s__0[x1.2.1.toNat]?) fun x3 =>
  jn k (spec_l5Eval.h25 k G0) (l_, (s__0, s__1, s__2, ()), pile, i, (x1.1, x1.2.1, ()), y2.1.1, IntKind.wrap .i64 ((pile.length : Int) - y2.1.1), x3, 0, ()))
  none)
  (br k (x1.1 == 3)
  (br k (decide (0 ≤ x1.2.1))
  (bd k (s__1[x1.2.1.toNat]?) fun x7 =>
  bd k (spec_l5One k (x7, ())) fun y8 =>
  jn k (spec_l5Eval.h25 k G0) (l_, (s__0, s__1, s__2, ()), pile, i, (x1.1, x1.2.1, ()), y2.1.1, IntKind.wrap .i64 ((pile.length : Int) - y2.1.1), y8.1.1, 0, ()))
  none)
  (br k (x1.1 == 4)
  (jn k (spec_l5Eval.h25 k G0) (l_, (s__0, s__1, s__2, ()), pile, i, (x1.1, x1.2.1, ()), y2.1.1, IntKind.wrap .i64 ((pile.length : Int) - y2.1.1), 1, 0, ()))
  (br k (x1.1 == 6)
  (br k (decide (0 ≤ (IntKind.wrap .i64 ((pile.length : Int) - y2.1.1)) ∧ (IntKind.wrap .i64 ((pile.length : Int) - y2.1.1)) < (pile.length : Int)))
  (bd k (pile[(IntKind.wrap .i64 ((pile.length : Int) - y2.1.1)).toNat]?) fun x9 =>
  br k (decide (0 ≤ x1.2.1))
  (bd k (s__2[x1.2.1.toNat]?) fun x10 =>
  bd k (spec_l1In k (x9, 0, IntKind.wrap .i64 ((x10.length : Int) - 1), ())) fun y11 =>
  br k (!y11.1.1)
  (some ((0, 5, ()), ((), (), ())))
  (br k (decide (0 ≤ x1.2.1))
  (bd k (s__2[x1.2.1.toNat]?) fun x12 =>
  br k (decide (0 ≤ (IntKind.wrap .i64 ((pile.length : Int) - y2.1.1)) ∧ (IntKind.wrap .i64 ((pile.length : Int) - y2.1.1)) < (pile.length : Int)))
  (bd k (pile[(IntKind.wrap .i64 ((pile.length : Int) - y2.1.1)).toNat]?) fun x13 =>
  br k (decide (0 ≤ x13))
  (bd k (x12[x13.toNat]?) fun x14 =>
  jn k (spec_l5Eval.h25 k G0) (l_, (s__0, s__1, s__2, ()), pile, i, (x1.1, x1.2.1, ()), y2.1.1, IntKind.wrap .i64 ((pile.length : Int) - y2.1.1), x14, 0, ()))
  none)
  none)
  none))
  none)
  none)
  (br k (x1.1 == 7)
  (br k (decide (0 ≤ (IntKind.wrap .i64 ((pile.length : Int) - y2.1.1)) ∧ (IntKind.wrap .i64 ((pile.length : Int) - y2.1.1)) < (pile.length : Int)))
  (bd k (pile[(IntKind.wrap .i64 ((pile.length : Int) - y2.1.1)).toNat]?) fun x15 =>
  bd k (spec_l5Two k (9, 0, x15, ())) fun y16 =>
  jn k (spec_l5Eval.h25 k G0) (l_, (s__0, s__1, s__2, ()), pile, i, (x1.1, x1.2.1, ()), y2.1.1, IntKind.wrap .i64 ((pile.length : Int) - y2.1.1), y16.1.1, y16.1.2.1, ()))
  none)
  (br k (x1.1 == 19)
  (br k (decide (0 ≤ (IntKind.wrap .i64 ((pile.length : Int) - y2.1.1)) ∧ (IntKind.wrap .i64 ((pile.length : Int) - y2.1.1)) < (pile.length : Int)))
  (bd k (pile[(IntKind.wrap .i64 ((pile.length : Int) - y2.1.1)).toNat]?) fun x17 =>
  jn k (spec_l5Eval.h25 k G0) (l_, (s__0, s__1, s__2, ()), pile, i, (x1.1, x1.2.1, ()), y2.1.1, IntKind.wrap .i64 ((pile.length : Int) - y2.1.1), IntKind.wrap .i64 (1 - x17), 0, ()))
  none)
  (jn k (spec_l5Eval.h25 k G0) (l_, (s__0, s__1, s__2, ()), pile, i, (x1.1, x1.2.1, ()), y2.1.1, IntKind.wrap .i64 ((pile.length : Int) - y2.1.1), x1.2.1, 0, ()))))))))
  none)
  (br k (decide (0 ≤ (0 : Int) ∧ (0 : Int) < (pile.length : Int)))
  (bd k (pile[(0 : Int).toNat]?) fun x18 =>
  some ((x18, 0, ()), ((), (), ())))
  none)
noncomputable def spec_l5Eval (k : Nat) : (QT16 × QT7 × Unit) → Option QT28 := fun x => match x with
 | (l_, s_, ()) =>
  iter (spec_l5Eval.l0 k) k (l_, (s_.1, s_.2.1, s_.2.2.1, ()), ([] : List Int), 0, ())
noncomputable def spec_l5Eval.sg (k : Nat) : Sig := ⟨spec_l5Eval.A, spec_l5Eval.R, spec_l5Eval k⟩
noncomputable def spec_l5Eval.C (k : Nat) : Ctx := ⟨Tryz.prog, [(73, [spec_l3Takes.sg k]), (75, [spec_l5Two.sg k]), (74, [spec_l5One.sg k]), (45, [spec_l1In.sg k])], k, [], []⟩
theorem spec_l5Eval.ev (k : Nat) (x : spec_l5Eval.A.T) : evFunc (spec_l5Eval.C k) spec_l5Eval.ann Tryz.f48 spec_l5Eval.A spec_l5Eval.R x = spec_l5Eval k x := by kernel_rfl
theorem spec_l5Eval.ok {L : List (Nat × Obj)}  (k : Nat) : SigHolds Tryz.prog L 48 (spec_l5Eval.sg k) :=
  sig_of_ev (C := spec_l5Eval.C k) (holds_cons (allok_cons (spec_l3Takes.ok k) allok_nil) (holds_cons (allok_cons (spec_l5Two.ok k) allok_nil) (holds_cons (allok_cons (spec_l5One.ok k) allok_nil) (holds_cons (allok_cons (spec_l1In.ok k) allok_nil) holds_nil)))) (by kernel_rfl) Tryz.func48 (by kernel_rfl) _ _ _ (fun x y h => (spec_l5Eval.ev k x).trans h) (by kernel_rfl)
end Go.Pev.F
