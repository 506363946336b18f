/-
  Printed by gen.py: what functions of the program compute, and that they do.
-/
import Derived.Test.YtibhfjdhhdjjcaaGreatDoorK04
set_option linter.unusedSimpArgs false
set_option linter.unusedVariables false
open Go.Proofs Go.Pev
namespace Go.Pev.F
set_option maxRecDepth 100000
variable {L : List (Nat × Obj)}
noncomputable def z26.l2 (k : Nat) (G0 : (QT7 × QT2 × (List Int) × Int × Unit) → Option QT28) : E2 ((QT7 × QT2 × (List Int) × Int × Int × Int × Int × Int × Unit) → Option QT28) := fun G2 x => match x with
 | (l_, (d__0, d__1, d__2, ()), pile, i, n, takes, leaves, k_, ()) =>
  br k (decide (k_ < (pile.length : Int)))
  (br k (decide (0 ≤ k_ ∧ k_ < (pile.length : Int)))
  (bd k (pile[k_.toNat]?) fun x10 =>
  br k (x10 != takes)
  (some ((0, ()), ((), (), ())))
  (G2 (l_, (d__0, d__1, d__2, ()), pile, i, n, takes, leaves, IntKind.wrap .i64 (k_ + 1), ())))
  none)
  (br k (decide (0 ≤ (IntKind.wrap .i64 ((pile.length : Int) - n)) ∧ (IntKind.wrap .i64 ((pile.length : Int) - n)) ≤ (pile.length : Int)))
  (br k (decide (((subL pile ((0 : Int).toNat) ((IntKind.wrap .i64 ((pile.length : Int) - n)).toNat - (0 : Int).toNat)).length + ([leaves] : List Int).length) * 8 ≤ maxBytes))
  (G0 (l_, (d__0, d__1, d__2, ()), (subL pile ((0 : Int).toNat) ((IntKind.wrap .i64 ((pile.length : Int) - n)).toNat - (0 : Int).toNat)) ++ ([leaves] : List Int), IntKind.wrap .i64 (i + 1), ()))
  none)
  none)
noncomputable def z26.l0 (k : Nat) : E2 ((QT7 × QT2 × (List Int) × Int × Unit) → Option QT28) := fun G0 x => match x with
 | (l_, (d__0, d__1, d__2, ()), pile, i, ()) =>
  br k (decide (i < (l_.length : Int)))
  (br k (decide (0 ≤ i))
  (bd k (l_[i.toNat]?) fun x3 =>
  bd k (z97 k (x3.1, ())) fun y4 =>
  br k (decide (0 ≤ i))
  (bd k (l_[i.toNat]?) fun x5 =>
  bd k (z149 k (x5.1, ())) fun y6 =>
  (br k (decide (0 ≤ i))
  (bd k (l_[i.toNat]?) fun x7 =>
  bd k (z150 k ((d__0, d__1, d__2, ()), x7, ())) fun y8 =>
  br k (!y8.1.1)
  (some (true, ()))
  (some (decide ((pile.length : Int) < y4.1.1), ())))
  none : Option (Bool × Unit)).bind fun j9 =>
  br k (j9.1)
  (some ((0, ()), ((), (), ())))
  (iter (z26.l2 k G0) k (l_, (d__0, d__1, d__2, ()), pile, i, y4.1.1, y6.1.1, y6.1.2.1, IntKind.wrap .i64 ((pile.length : Int) - y4.1.1), ())))
  none)
  none)
  (br k ((pile.length : Int) != 1)
  (some ((0, ()), ((), (), ())))
  (br k (decide (0 ≤ (0 : Int) ∧ (0 : Int) < (pile.length : Int)))
  (bd k (pile[(0 : Int).toNat]?) fun x11 =>
  some ((x11, ()), ((), (), ())))
  none))
noncomputable def z26 (k : Nat) : (QT2 × QT7 × Unit) → Option QT28 := fun x => match x with
 | (d_, l_, ()) =>
  (bd k (z18 k (d_, ())) fun y1 =>
  br k (!y1.1.1)
  (some (true, ()))
  (some (decide ((l_.length : Int) > 40), ())) : Option (Bool × Unit)).bind fun j2 =>
  br k (j2.1)
  (some ((0, ()), ((), (), ())))
  (iter (z26.l0 k) k (l_, (d_.1, d_.2.1, d_.2.2.1, ()), ([] : List Int), 0, ()))
noncomputable def z26.sg (k : Nat) : Sig := ⟨(.cons QS4 QS41), QS6, z26 k, []⟩
theorem z26.ok (k : Nat) : SigHolds Tryz.prog L 183 (z26.sg k) :=
  soe (C := ⟨Tryz.prog, [(77, [z18.sg k]), (105, [z97.sg k]), (221, [z149.sg k]), (222, [z150.sg k])], k, [], []⟩) (hc1 (z18.ok k) (hc1 (z97.ok k) (hc1 (z149.ok k) (hc1 (z150.ok k) holds_nil)))) Tryz.func183 { loops := [(0, [(1, (.pur (.sl false QK0))), (2, QS26), (5, (.own (.int .i64))), (6, (.pur (.int .i64)))]), (2, [(1, (.pur (.sl false QK0))), (2, QS26), (5, (.own (.int .i64))), (6, (.pur (.int .i64))), (7, (.pur (.int .i64))), (8, (.pur (.int .i64))), (9, (.pur (.int .i64))), (10, (.pur (.int .i64)))])], joins := [(1, [(18, .bool)]), (9, [(53, .bool)])] } fun _ => by kernel_rfl
noncomputable def z122 (k : Nat) : (QT2 × QT1 × Unit) → Option QT21 := fun x => match x with
 | (d_, l_, ()) =>
  bd k (z121 k (d_, l_.1, ())) fun y1 =>
  bd k (z11 k (l_.1, 1, 14, ())) fun y2 =>
  br k (!y2.1.1)
  (some ((false, ()), ((), (), ())))
  ((br k (decide (y1.1.1 < 0))
  (br k (l_.2.1 != 0)
  (some (true, ()))
  (br k (decide (y1.1.1 ≥ 0))
  (bd k (z11 k (l_.2.1, 0, IntKind.wrap .i64 (y1.1.1 - 1), ())) fun y3 =>
  some (!y3.1.1, ()))
  (some (false, ()))))
  (br k (decide (y1.1.1 ≥ 0))
  (bd k (z11 k (l_.2.1, 0, IntKind.wrap .i64 (y1.1.1 - 1), ())) fun y4 =>
  some (!y4.1.1, ()))
  (some (false, ()))) : Option (Bool × Unit)).bind fun j5 =>
  br k (j5.1)
  (some ((false, ()), ((), (), ())))
  ((br k (y1.1.2.1)
  (bd k (z26 k (d_, l_.2.2.1, ())) fun y6 =>
  br k (y6.1.1 != 1)
  (some (true, ()))
  (br k (!y1.1.2.1)
  (some (decide ((l_.2.2.1.length : Int) > 0), ()))
  (some (false, ()))))
  (br k (!y1.1.2.1)
  (some (decide ((l_.2.2.1.length : Int) > 0), ()))
  (some (false, ()))) : Option (Bool × Unit)).bind fun j7 =>
  br k (j7.1)
  (some ((false, ()), ((), (), ())))
  ((br k (decide (y1.1.2.2.1 > 0))
  (bd k (z26 k (d_, l_.2.2.2.1, ())) fun y8 =>
  br k (y8.1.1 != y1.1.2.2.1)
  (some (true, ()))
  (br k (y1.1.2.2.1 == 0)
  (some (decide ((l_.2.2.2.1.length : Int) > 0), ()))
  (some (false, ()))))
  (br k (y1.1.2.2.1 == 0)
  (some (decide ((l_.2.2.2.1.length : Int) > 0), ()))
  (some (false, ()))) : Option (Bool × Unit)).bind fun j9 =>
  br k (j9.1)
  (some ((false, ()), ((), (), ())))
  ((br k (!y1.1.2.2.2.1)
  (br k (l_.2.2.2.2.1 != 0)
  (some (true, ()))
  (some (l_.2.2.2.2.2.1 != 0, ())))
  (some (false, ())) : Option (Bool × Unit)).bind fun j10 =>
  br k (j10.1)
  (some ((false, ()), ((), (), ())))
  (br k (l_.1 == 10)
  ((bd k (z11 k (l_.2.2.2.2.1, 1, 3, ())) fun y11 =>
  br k (y11.1.1)
  (some (l_.2.2.2.2.2.1 == 0, ()))
  (some (false, ())) : Option (Bool × Unit)).bind fun j12 =>
  some ((j12.1, ()), ((), (), ())))
  ((br k (y1.1.2.2.2.1)
  (bd k (z11 k (l_.2.2.2.2.1, (-999999999999999999), 999999999999999999, ())) fun y13 =>
  br k (!y13.1.1)
  (some (true, ()))
  (bd k (z11 k (l_.2.2.2.2.2.1, l_.2.2.2.2.1, 999999999999999999, ())) fun y14 =>
  some (!y14.1.1, ())))
  (some (false, ())) : Option (Bool × Unit)).bind fun j15 =>
  br k (j15.1)
  (some ((false, ()), ((), (), ())))
  ((br k (l_.1 != 13)
  (some (true, ()))
  (some (decide (l_.2.2.2.2.2.1 ≤ (IntKind.wrap .i64 (l_.2.2.2.2.1 + 3))), ())) : Option (Bool × Unit)).bind fun j16 =>
  some ((j16.1, ()), ((), (), ())))))))))
noncomputable def z122.sg (k : Nat) : Sig := ⟨(.cons QS4 (.cons (.pur QK9) .nil)), QS19, z122 k, []⟩
theorem z122.ok (k : Nat) : SigHolds Tryz.prog L 126 (z122.sg k) :=
  soe (C := ⟨Tryz.prog, [(182, [z121.sg k]), (75, [z11.sg k]), (183, [z26.sg k])], k, [], []⟩) (hc1 (z121.ok k) (hc1 (z11.ok k) (hc1 (z26.ok k) holds_nil))) Tryz.func126 { joins := [(4, [(23, .bool)]), (6, [(43, .bool)]), (8, [(62, .bool)]), (10, [(83, .bool)]), (13, [(4, .bool)]), (14, [(108, .bool)]), (16, [(4, .bool)])] } fun _ => by kernel_rfl
noncomputable def z86 (k : Nat) : (Int × Unit) → Option QT25 := fun x => match x with
 | (kind, ()) =>
  (br k (kind == 9)
  (some (true, ()))
  (some (kind == 10, ())) : Option (Bool × Unit)).bind fun j1 =>
  some ((j1.1, ()), ((), ()))
noncomputable def z86.sg (k : Nat) : Sig := ⟨QS6, QS19, z86 k, []⟩
theorem z86.ok (k : Nat) : SigHolds Tryz.prog L 128 (z86.sg k) :=
  soe (C := ⟨Tryz.prog, [], k, [], []⟩) holds_nil Tryz.func128 { joins := [(1, [(2, .bool)])] } fun _ => by kernel_rfl
noncomputable def z123 (k : Nat) : (Int × Unit) → Option QT25 := fun x => match x with
 | (kind, ()) =>
  (br k (kind == 5)
  (some (true, ()))
  (br k (kind == 6)
  (some (true, ()))
  (bd k (z86 k (kind, ())) fun y1 =>
  some (y1.1.1, ()))) : Option (Bool × Unit)).bind fun j2 =>
  some ((j2.1, ()), ((), ()))
noncomputable def z123.sg (k : Nat) : Sig := ⟨QS6, QS19, z123 k, []⟩
theorem z123.ok (k : Nat) : SigHolds Tryz.prog L 127 (z123.sg k) :=
  soe (C := ⟨Tryz.prog, [(128, [z86.sg k])], k, [], []⟩) (hc1 (z86.ok k) holds_nil) Tryz.func127 { joins := [(1, [(2, .bool)])] } fun _ => by kernel_rfl
noncomputable def z17.l0 (k : Nat) : E2 (((List QT1) × (List Int) × (List Int) × Int × Unit) → Option (QT14 × (Unit × Unit))) := fun G0 x => match x with
 | (l_, out_, open_, i, ()) =>
  br k (decide (i < (l_.length : Int)))
  (br k (decide ((out_.length + ([IntKind.wrap .i64 (i + 1)] : List Int).length) * 8 ≤ maxBytes))
  (br k (decide ((open_.length : Int) > 0))
  (br k (decide (0 ≤ (IntKind.wrap .i64 ((open_.length : Int) - 1)) ∧ (IntKind.wrap .i64 ((open_.length : Int) - 1)) < (open_.length : Int)))
  (bd k (open_[(IntKind.wrap .i64 ((open_.length : Int) - 1)).toNat]?) fun x1 =>
  br k (decide (0 ≤ i))
  (bd k (l_[i.toNat]?) fun x2 =>
  bd k (z123 k (x2.1, ())) fun y3 =>
  br k (y3.1.1)
  (br k (decide ((open_.length + ([i] : List Int).length) * 8 ≤ maxBytes))
  (G0 (l_, out_ ++ ([IntKind.wrap .i64 (i + 1)] : List Int), open_ ++ ([i] : List Int), IntKind.wrap .i64 (i + 1), ()))
  none)
  (br k (decide (0 ≤ i))
  (bd k (l_[i.toNat]?) fun x4 =>
  br k (x4.1 == 7)
  ((br k (decide (x1 < 0))
  (some (true, ()))
  (br k (decide (0 ≤ x1))
  (bd k (l_[x1.toNat]?) fun x5 =>
  br k (x5.1 != 5)
  (br k (decide (0 ≤ x1))
  (bd k (l_[x1.toNat]?) fun x6 =>
  some (x6.1 != 6, ()))
  none)
  (some (false, ())))
  none) : Option (Bool × Unit)).bind fun j7 =>
  br k (j7.1)
  (some (([], i, ()), ((), ())))
  (br k (decide (0 ≤ x1 ∧ x1 < ((out_ ++ ([IntKind.wrap .i64 (i + 1)] : List Int)).length : Int)))
  (bd k ((out_ ++ ([IntKind.wrap .i64 (i + 1)] : List Int))[x1.toNat]?) fun x8 =>
  br k (decide (0 ≤ (IntKind.wrap .i64 ((open_.length : Int) - 1)) ∧ (IntKind.wrap .i64 ((open_.length : Int) - 1)) < (open_.length : Int)))
  (bd k (open_[(IntKind.wrap .i64 ((open_.length : Int) - 1)).toNat]?) fun x9 =>
  G0 (l_, (out_ ++ ([IntKind.wrap .i64 (i + 1)] : List Int)).set x1.toNat (IntKind.wrap .i64 (i + 1)), open_.set ((IntKind.wrap .i64 ((open_.length : Int) - 1)).toNat) i, IntKind.wrap .i64 (i + 1), ()))
  none)
  none))
  (br k (decide (0 ≤ i))
  (bd k (l_[i.toNat]?) fun x10 =>
  br k (x10.1 == 8)
  (br k (decide (x1 < 0))
  (some (([], i, ()), ((), ())))
  (br k (decide (0 ≤ (IntKind.wrap .i64 ((open_.length : Int) - 1)) ∧ (IntKind.wrap .i64 ((open_.length : Int) - 1)) ≤ (open_.length : Int)))
  (br k (decide (0 ≤ x1 ∧ x1 < ((out_ ++ ([IntKind.wrap .i64 (i + 1)] : List Int)).length : Int)))
  (bd k ((out_ ++ ([IntKind.wrap .i64 (i + 1)] : List Int))[x1.toNat]?) fun x11 =>
  br k (decide (0 ≤ x1))
  (bd k (l_[x1.toNat]?) fun x12 =>
  bd k (z86 k (x12.1, ())) fun y13 =>
  br k (y13.1.1)
  (br k (decide (0 ≤ x1 ∧ x1 < (((out_ ++ ([IntKind.wrap .i64 (i + 1)] : List Int)).set x1.toNat i).length : Int)))
  (bd k (((out_ ++ ([IntKind.wrap .i64 (i + 1)] : List Int)).set x1.toNat i)[x1.toNat]?) fun x14 =>
  br k (decide (0 ≤ i ∧ i < ((((out_ ++ ([IntKind.wrap .i64 (i + 1)] : List Int)).set x1.toNat i).set x1.toNat (IntKind.wrap .i64 (i + 1))).length : Int)))
  (bd k ((((out_ ++ ([IntKind.wrap .i64 (i + 1)] : List Int)).set x1.toNat i).set x1.toNat (IntKind.wrap .i64 (i + 1)))[i.toNat]?) fun x15 =>
  G0 (l_, (((out_ ++ ([IntKind.wrap .i64 (i + 1)] : List Int)).set x1.toNat i).set x1.toNat (IntKind.wrap .i64 (i + 1))).set i.toNat x1, subL open_ ((0 : Int).toNat) ((IntKind.wrap .i64 ((open_.length : Int) - 1)).toNat - (0 : Int).toNat), IntKind.wrap .i64 (i + 1), ()))
  none)
  none)
  (G0 (l_, (out_ ++ ([IntKind.wrap .i64 (i + 1)] : List Int)).set x1.toNat i, subL open_ ((0 : Int).toNat) ((IntKind.wrap .i64 ((open_.length : Int) - 1)).toNat - (0 : Int).toNat), IntKind.wrap .i64 (i + 1), ())))
  none)
  none)
  none))
  (G0 (l_, out_ ++ ([IntKind.wrap .i64 (i + 1)] : List Int), open_, IntKind.wrap .i64 (i + 1), ())))
  none))
  none))
  none)
  none)
  (br k (decide (0 ≤ i))
  (bd k (l_[i.toNat]?) fun x16 =>
  bd k (z123 k (x16.1, ())) fun y17 =>
  br k (y17.1.1)
  (br k (decide ((open_.length + ([i] : List Int).length) * 8 ≤ maxBytes))
  (G0 (l_, out_ ++ ([IntKind.wrap .i64 (i + 1)] : List Int), open_ ++ ([i] : List Int), IntKind.wrap .i64 (i + 1), ()))
  none)
  (br k (decide (0 ≤ i))
  (bd k (l_[i.toNat]?) fun x18 =>
  br k (x18.1 == 7)
  ((br k (decide ((-1 : Int) < 0))
  (some (true, ()))
  (br k (decide (0 ≤ (-1 : Int)))
  (bd k (l_[(-1 : Int).toNat]?) fun x19 =>
  br k (x19.1 != 5)
  (br k (decide (0 ≤ (-1 : Int)))
  (bd k (l_[(-1 : Int).toNat]?) fun x20 =>
  some (x20.1 != 6, ()))
  none)
  (some (false, ())))
  none) : Option (Bool × Unit)).bind fun j21 =>
  br k (j21.1)
  (some (([], i, ()), ((), ())))
  (br k (decide (0 ≤ (-1 : Int) ∧ (-1 : Int) < ((out_ ++ ([IntKind.wrap .i64 (i + 1)] : List Int)).length : Int)))
  (bd k ((out_ ++ ([IntKind.wrap .i64 (i + 1)] : List Int))[(-1 : Int).toNat]?) fun x22 =>
  br k (decide (0 ≤ (IntKind.wrap .i64 ((open_.length : Int) - 1)) ∧ (IntKind.wrap .i64 ((open_.length : Int) - 1)) < (open_.length : Int)))
  (bd k (open_[(IntKind.wrap .i64 ((open_.length : Int) - 1)).toNat]?) fun x23 =>
  G0 (l_, (out_ ++ ([IntKind.wrap .i64 (i + 1)] : List Int)).set ((-1 : Int).toNat) (IntKind.wrap .i64 (i + 1)), open_.set ((IntKind.wrap .i64 ((open_.length : Int) - 1)).toNat) i, IntKind.wrap .i64 (i + 1), ()))
  none)
  none))
  (br k (decide (0 ≤ i))
  (bd k (l_[i.toNat]?) fun x24 =>
  br k (x24.1 == 8)
  (br k (decide ((-1 : Int) < 0))
  (some (([], i, ()), ((), ())))
  (br k (decide (0 ≤ (IntKind.wrap .i64 ((open_.length : Int) - 1)) ∧ (IntKind.wrap .i64 ((open_.length : Int) - 1)) ≤ (open_.length : Int)))
  (br k (decide (0 ≤ (-1 : Int) ∧ (-1 : Int) < ((out_ ++ ([IntKind.wrap .i64 (i + 1)] : List Int)).length : Int)))
  (bd k ((out_ ++ ([IntKind.wrap .i64 (i + 1)] : List Int))[(-1 : Int).toNat]?) fun x25 =>
  br k (decide (0 ≤ (-1 : Int)))
  (bd k (l_[(-1 : Int).toNat]?) fun x26 =>
  bd k (z86 k (x26.1, ())) fun y27 =>
  br k (y27.1.1)
  (br k (decide (0 ≤ (-1 : Int) ∧ (-1 : Int) < (((out_ ++ ([IntKind.wrap .i64 (i + 1)] : List Int)).set ((-1 : Int).toNat) i).length : Int)))
  (bd k (((out_ ++ ([IntKind.wrap .i64 (i + 1)] : List Int)).set ((-1 : Int).toNat) i)[(-1 : Int).toNat]?) fun x28 =>
  br k (decide (0 ≤ i ∧ i < ((((out_ ++ ([IntKind.wrap .i64 (i + 1)] : List Int)).set ((-1 : Int).toNat) i).set ((-1 : Int).toNat) (IntKind.wrap .i64 (i + 1))).length : Int)))
  (bd k ((((out_ ++ ([IntKind.wrap .i64 (i + 1)] : List Int)).set ((-1 : Int).toNat) i).set ((-1 : Int).toNat) (IntKind.wrap .i64 (i + 1)))[i.toNat]?) fun x29 =>
  G0 (l_, (((out_ ++ ([IntKind.wrap .i64 (i + 1)] : List Int)).set ((-1 : Int).toNat) i).set ((-1 : Int).toNat) (IntKind.wrap .i64 (i + 1))).set i.toNat (-1), subL open_ ((0 : Int).toNat) ((IntKind.wrap .i64 ((open_.length : Int) - 1)).toNat - (0 : Int).toNat), IntKind.wrap .i64 (i + 1), ()))
  none)
  none)
  (G0 (l_, (out_ ++ ([IntKind.wrap .i64 (i + 1)] : List Int)).set ((-1 : Int).toNat) i, subL open_ ((0 : Int).toNat) ((IntKind.wrap .i64 ((open_.length : Int) - 1)).toNat - (0 : Int).toNat), IntKind.wrap .i64 (i + 1), ())))
  none)
  none)
  none))
  (G0 (l_, out_ ++ ([IntKind.wrap .i64 (i + 1)] : List Int), open_, IntKind.wrap .i64 (i + 1), ())))
  none))
  none))
  none))
  none)
  (br k (decide ((open_.length : Int) > 0))
  (some (([], (l_.length : Int), ()), ((), ())))
  (some ((out_, IntKind.wrap .i64 ((l_.length : Int) + 1), ()), ((), ()))))
noncomputable def z17 (k : Nat) : ((List QT1) × Unit) → Option (QT14 × (Unit × Unit)) := fun x => match x with
 | (l_, ()) =>
  iter (z17.l0 k) k (l_, ([] : List Int), ([] : List Int), 0, ())
noncomputable def z17.sg (k : Nat) : Sig := ⟨(.cons (.pur (.sl false QK9)) .nil), (.cons (.own (.int .i64)) QS6), z17 k, []⟩
theorem z17.ok (k : Nat) : SigHolds Tryz.prog L 76 (z17.sg k) :=
  soe (C := ⟨Tryz.prog, [(127, [z123.sg k]), (128, [z86.sg k])], k, [], []⟩) (hc1 (z123.ok k) (hc1 (z86.ok k) holds_nil)) Tryz.func76 { loops := [(0, [(0, (.pur (.sl false QK9))), (4, (.own (.int .i64))), (5, (.own (.int .i64))), (6, (.pur (.int .i64)))])], joins := [(13, [(65, .bool)])] } fun _ => by kernel_rfl
noncomputable def z47.l0 (k : Nat) : E2 ((QT11 × Int × Unit) → Option QT25) := fun G0 x => match x with
 | ((p_0, p_1, p_2, p_3, ()), i, ()) =>
  br k (decide (i < (p_3.length : Int)))
  (br k (decide (0 ≤ i))
  (bd k (p_3[i.toNat]?) fun x3 =>
  bd k (z122 k ((p_0, p_1, p_2, ()), x3, ())) fun y4 =>
  br k (!y4.1.1)
  (some ((false, ()), ((), ())))
  (G0 ((p_0, p_1, p_2, p_3, ()), IntKind.wrap .i64 (i + 1), ())))
  none)
  (bd k (z17 k (p_3, ())) fun y5 =>
  some ((decide (y5.1.2.1 > (p_3.length : Int)), ()), ((), ())))
noncomputable def z47 (k : Nat) : (QT11 × Unit) → Option QT25 := fun x => match x with
 | (p, ()) =>
  (bd k (z18 k ((p.1, p.2.1, p.2.2.1, ()), ())) fun y1 =>
  br k (!y1.1.1)
  (some (true, ()))
  (some (decide ((p.2.2.2.1.length : Int) > 30), ())) : Option (Bool × Unit)).bind fun j2 =>
  br k (j2.1)
  (some ((false, ()), ((), ())))
  (iter (z47.l0 k) k ((p.1, p.2.1, p.2.2.1, p.2.2.2.1, ()), 0, ()))
noncomputable def z47.sg (k : Nat) : Sig := ⟨(.cons QS24 .nil), QS19, z47 k, []⟩
theorem z47.ok (k : Nat) : SigHolds Tryz.prog L 74 (z47.sg k) :=
  soe (C := ⟨Tryz.prog, [(77, [z18.sg k]), (126, [z122.sg k]), (76, [z17.sg k])], k, [], []⟩) (hc1 (z18.ok k) (hc1 (z122.ok k) (hc1 (z17.ok k) holds_nil))) Tryz.func74 { loops := [(0, [(1, QS49), (3, (.pur (.int .i64)))])], joins := [(1, [(15, .bool)])] } fun _ => by kernel_rfl
noncomputable def z98 (k : Nat) : QT51 → Option ((Bool × Unit) × QT37) := fun x => match x with
 | (p, inputs, fuel, ()) =>
  (bd k (z47 k (p, ())) fun y1 =>
  br k (y1.1.1)
  (bd k (z11 k (fuel, 0, 2000, ())) fun y2 =>
  br k (y2.1.1)
  (some (decide ((inputs.length : Int) ≤ 1000), ()))
  (some (false, ())))
  (some (false, ())) : Option (Bool × Unit)).bind fun j3 =>
  some ((j3.1, ()), ((), (), (), ()))
noncomputable def z98.sg (k : Nat) : Sig := ⟨QS64, QS19, z98 k, []⟩
theorem z98.ok (k : Nat) : SigHolds Tryz.prog L 32 (z98.sg k) :=
  soe (C := ⟨Tryz.prog, [(74, [z47.sg k]), (75, [z11.sg k])], k, [], []⟩) (hc1 (z47.ok k) (hc1 (z11.ok k) holds_nil)) Tryz.func32 { joins := [(1, [(6, .bool)])] } fun _ => by kernel_rfl
noncomputable def z99 (k : Nat) : (QT11 × Unit) → Option QT70 := fun x => match x with
 | (p, ()) =>
  bd k (z47 k (p, ())) fun y1 =>
  br k (!y1.1.1)
  (some (([], ()), ((), ())))
  (bd k (z17 k (p.2.2.2.1, ())) fun y2 =>
  some ((y2.1.1, ()), ((), ())))
noncomputable def z99.sg (k : Nat) : Sig := ⟨(.cons QS24 .nil), QS71, z99 k, []⟩
theorem z99.ok (k : Nat) : SigHolds Tryz.prog L 33 (z99.sg k) :=
  soe (C := ⟨Tryz.prog, [(74, [z47.sg k]), (76, [z17.sg k])], k, [], []⟩) (hc1 (z47.ok k) (hc1 (z17.ok k) holds_nil)) Tryz.func33 {} fun _ => by kernel_rfl
noncomputable def z41.l0 (k : Nat) : E2 ((QT2 × QT10 × QT10 × Int × Unit) → Option QT53) := fun G0 x => match x with
 | ((d__0, d__1, d__2, ()), (t2_0, t2_1, t2_2, ()), (s__0, s__1, s__2, ()), i, ()) =>
  br k (decide (i < (d__2.length : Int)))
  (br k (decide (0 ≤ i))
  (bd k (d__2[i.toNat]?) fun x2 =>
  br k (decide (0 ≤ x2.2.1 ∧ x2.2.1 ≤ x2.2.1 ∧ x2.2.1 * 8 ≤ maxBytes))
  (br k (decide ((s__2.length + ([List.replicate x2.2.1.toNat (Kd.z (.int .i64))] : List (List Int)).length) * 24 ≤ maxBytes))
  (G0 ((d__0, d__1, d__2, ()), (t2_0, t2_1, t2_2, ()), (s__0, s__1, s__2 ++ ([List.replicate x2.2.1.toNat (Kd.z (.int .i64))] : List (List Int)), ()), IntKind.wrap .i64 (i + 1), ()))
  none)
  none)
  none)
  (some (((s__0, s__1, s__2, ()), ()), ((), ())))
noncomputable def z41 (k : Nat) : (QT2 × Unit) → Option QT53 := fun x => match x with
 | (d_, ()) =>
  bd k (z18 k (d_, ())) fun y1 =>
  br k (!y1.1.1)
  (some ((([], [], ([] : List (List Int)), ()), ()), ((), ())))
  (br k (decide (0 ≤ (d_.1.length : Int) ∧ (d_.1.length : Int) ≤ (d_.1.length : Int) ∧ (d_.1.length : Int) * 8 ≤ maxBytes))
  (br k (decide (0 ≤ (d_.2.1.length : Int) ∧ (d_.2.1.length : Int) ≤ (d_.2.1.length : Int) ∧ (d_.2.1.length : Int) * 1 ≤ maxBytes))
  (iter (z41.l0 k) k ((d_.1, d_.2.1, d_.2.2.1, ()), ([], [], ([] : List (List Int)), ()), (List.replicate (d_.1.length : Int).toNat (Kd.z (.int .i64)), List.replicate (d_.2.1.length : Int).toNat (Kd.z .bool), ([] : List (List Int)), ()), 0, ()))
  none)
  none)
noncomputable def z41.sg (k : Nat) : Sig := ⟨(.cons QS4 .nil), (.cons (.agg QS15) .nil), z41 k, []⟩
theorem z41.ok (k : Nat) : SigHolds Tryz.prog L 34 (z41.sg k) :=
  soe (C := ⟨Tryz.prog, [(77, [z18.sg k])], k, [(34, (.own (.int .i64)))], []⟩) (hc1 (z18.ok k) holds_nil) Tryz.func34 { loops := [(0, [(1, QS26), (2, (.box QS15)), (3, (.box QS15)), (4, (.pur (.int .i64)))])], keys := [(3, [([1], false), ([1], false), ([], false), ([12], true), ([1], false), ([1], false), ([], false), ([16], true), ([12, 16], false), ([3], true), ([3, 12, 16], true)]), (7, [([3], false), ([3], false), ([1], false), ([1], false), ([], false), ([], false), ([], false), ([], false), ([33], true), ([33, 34], true), ([3, 34, 35], true), ([3], false), ([3, 35], true)])] } fun _ => by kernel_rfl
noncomputable def z151 (k : Nat) : (Int × Int × Unit) → Option QT34 := fun x => match x with
 | (a, b_, ()) =>
  (br k (decide (b_ > 0))
  (some (decide (a > (IntKind.wrap .i64 (9223372036854775807 - b_))), ()))
  (some (false, ())) : Option (Bool × Unit)).bind fun j1 =>
  br k (j1.1)
  (some ((0, 1, ()), ((), (), ())))
  ((br k (decide (b_ < 0))
  (some (decide (a < (IntKind.wrap .i64 ((-9223372036854775808) - b_))), ()))
  (some (false, ())) : Option (Bool × Unit)).bind fun j2 =>
  br k (j2.1)
  (some ((0, (-1), ()), ((), (), ())))
  (some ((IntKind.wrap .i64 (a + b_), 0, ()), ((), (), ()))))
noncomputable def z151.sg (k : Nat) : Sig := ⟨QS22, QS22, z151 k, []⟩
theorem z151.ok (k : Nat) : SigHolds Tryz.prog L 148 (z151.sg k) :=
  soe (C := ⟨Tryz.prog, [], k, [], []⟩) holds_nil Tryz.func148 { joins := [(1, [(6, .bool)]), (3, [(15, .bool)])] } fun _ => by kernel_rfl
noncomputable def z100 (k : Nat) : (Int × Int × Unit) → Option QT34 := fun x => match x with
 | (a, b_, ()) =>
  (br k (decide (b_ < 0))
  (some (decide (a > (IntKind.wrap .i64 (9223372036854775807 + b_))), ()))
  (some (false, ())) : Option (Bool × Unit)).bind fun j1 =>
  br k (j1.1)
  (some ((0, 1, ()), ((), (), ())))
  ((br k (decide (b_ > 0))
  (some (decide (a < (IntKind.wrap .i64 ((-9223372036854775808) + b_))), ()))
  (some (false, ())) : Option (Bool × Unit)).bind fun j2 =>
  br k (j2.1)
  (some ((0, (-1), ()), ((), (), ())))
  (some ((IntKind.wrap .i64 (a - b_), 0, ()), ((), (), ()))))
noncomputable def z100.sg (k : Nat) : Sig := ⟨QS22, QS22, z100 k, []⟩
theorem z100.ok (k : Nat) : SigHolds Tryz.prog L 149 (z100.sg k) :=
  soe (C := ⟨Tryz.prog, [], k, [], []⟩) holds_nil Tryz.func149 { joins := [(1, [(6, .bool)]), (3, [(15, .bool)])] } fun _ => by kernel_rfl
noncomputable def z124 (k : Nat) : (Int × Unit) → Option QT36 := fun x => match x with
 | (n, ()) =>
  br k (decide (n < 0))
  (some ((IntKind.wrap .u64 (0 - (IntKind.wrap .u64 n)), ()), ((), ())))
  (some ((IntKind.wrap .u64 n, ()), ((), ())))
noncomputable def z124.sg (k : Nat) : Sig := ⟨QS6, (.cons (.pur (.int .u64)) .nil), z124 k, []⟩
theorem z124.ok (k : Nat) : SigHolds Tryz.prog L 196 (z124.sg k) :=
  soe (C := ⟨Tryz.prog, [], k, [], []⟩) holds_nil Tryz.func196 {} fun _ => by kernel_rfl
noncomputable def z153 (k : Nat) : (Int × Int × Unit) → Option QT34 := fun x => match x with
 | (a, b_, ()) =>
  (br k (a == 0)
  (some (true, ()))
  (some (b_ == 0, ())) : Option (Bool × Unit)).bind fun j1 =>
  br k (j1.1)
  (some ((0, 0, ()), ((), (), ())))
  (bd k (z124 k (a, ())) fun y2 =>
  bd k (z124 k (b_, ())) fun y3 =>
  br k (!((decide (a < 0)) == (decide (b_ < 0))))
  ((br k (!decide (y3.1.1 = 0))
  (br k (decide (y2.1.1 > (IntKind.wrap .u64 ((9223372036854775808 : Int).tdiv y3.1.1))))
  (some (!((decide (a < 0)) == (decide (b_ < 0))), ()))
  (some (false, ())))
  none : Option (Bool × Unit)).bind fun j4 =>
  br k (j4.1)
  (some ((0, (-1), ()), ((), (), ())))
  (br k (!decide (y3.1.1 = 0))
  (br k (decide (y2.1.1 > (IntKind.wrap .u64 ((9223372036854775808 : Int).tdiv y3.1.1))))
  (some ((0, 1, ()), ((), (), ())))
  (some ((IntKind.wrap .i64 (a * b_), 0, ()), ((), (), ()))))
  none))
  ((br k (!decide (y3.1.1 = 0))
  (br k (decide (y2.1.1 > (IntKind.wrap .u64 ((9223372036854775807 : Int).tdiv y3.1.1))))
  (some (!((decide (a < 0)) == (decide (b_ < 0))), ()))
  (some (false, ())))
  none : Option (Bool × Unit)).bind fun j5 =>
  br k (j5.1)
  (some ((0, (-1), ()), ((), (), ())))
  (br k (!decide (y3.1.1 = 0))
  (br k (decide (y2.1.1 > (IntKind.wrap .u64 ((9223372036854775807 : Int).tdiv y3.1.1))))
  (some ((0, 1, ()), ((), (), ())))
  (some ((IntKind.wrap .i64 (a * b_), 0, ()), ((), (), ()))))
  none)))
noncomputable def z153.sg (k : Nat) : Sig := ⟨QS22, QS22, z153 k, []⟩
theorem z153.ok (k : Nat) : SigHolds Tryz.prog L 150 (z153.sg k) :=
  soe (C := ⟨Tryz.prog, [(196, [z124.sg k])], k, [], []⟩) (hc1 (z124.ok k) holds_nil) Tryz.func150 { joins := [(1, [(15, .bool)]), (9, [(26, .bool)])] } fun _ => by kernel_rfl
noncomputable def z125 (k : Nat) : (Int × Int × Unit) → Option QT34 := fun x => match x with
 | (a, b_, ()) =>
  br k (b_ == 0)
  (some ((0, 0, ()), ((), (), ())))
  (br k (b_ == (-1))
  (bd k (z100 k (0, a, ())) fun y1 =>
  some ((y1.1.1, y1.1.2.1, ()), ((), (), ())))
  (br k (!decide (b_ = 0))
  (some ((IntKind.wrap .i64 (a.tdiv b_), 0, ()), ((), (), ())))
  none))
noncomputable def z125.sg (k : Nat) : Sig := ⟨QS22, QS22, z125 k, []⟩
theorem z125.ok (k : Nat) : SigHolds Tryz.prog L 151 (z125.sg k) :=
  soe (C := ⟨Tryz.prog, [(149, [z100.sg k])], k, [], []⟩) (hc1 (z100.ok k) holds_nil) Tryz.func151 {} fun _ => by kernel_rfl
noncomputable def z126 (k : Nat) : (Int × Int × Unit) → Option QT28 := fun x => match x with
 | (a, b_, ()) =>
  (br k (b_ == 0)
  (some (true, ()))
  (some (b_ == (-1), ())) : Option (Bool × Unit)).bind fun j1 =>
  br k (j1.1)
  (some ((0, ()), ((), (), ())))
  (br k (!decide (b_ = 0))
  (some ((a.tmod b_, ()), ((), (), ())))
  none)
noncomputable def z126.sg (k : Nat) : Sig := ⟨QS22, QS6, z126 k, []⟩
theorem z126.ok (k : Nat) : SigHolds Tryz.prog L 152 (z126.sg k) :=
  soe (C := ⟨Tryz.prog, [], k, [], []⟩) holds_nil Tryz.func152 { joins := [(1, [(10, .bool)])] } fun _ => by kernel_rfl
noncomputable def z127 (k : Nat) : QT69 → Option ((Bool × Unit) × QT37) := fun x => match x with
 | (op, a, b_, ()) =>
  br k (op == 13)
  (some ((decide (a < b_), ()), ((), (), (), ())))
  (br k (op == 14)
  (some ((decide (a ≤ b_), ()), ((), (), (), ())))
  (br k (op == 15)
  (some ((a == b_, ()), ((), (), (), ())))
  (br k (op == 16)
  (some ((a != b_, ()), ((), (), (), ())))
  (br k (op == 17)
  (some ((decide (a > b_), ()), ((), (), (), ())))
  (some ((decide (a ≥ b_), ()), ((), (), (), ())))))))
noncomputable def z127.sg (k : Nat) : Sig := ⟨QS62, QS19, z127 k, []⟩
theorem z127.ok (k : Nat) : SigHolds Tryz.prog L 153 (z127.sg k) :=
  soe (C := ⟨Tryz.prog, [], k, [], []⟩) holds_nil Tryz.func153 {} fun _ => by kernel_rfl
noncomputable def z35 (k : Nat) : (Bool × Unit) → Option QT36 := fun x => match x with
 | (is, ()) =>
  br k (is)
  (some ((1, ()), ((), ())))
  (some ((0, ()), ((), ())))
noncomputable def z35.sg (k : Nat) : Sig := ⟨QS19, QS6, z35 k, []⟩
theorem z35.ok (k : Nat) : SigHolds Tryz.prog L 106 (z35.sg k) :=
  soe (C := ⟨Tryz.prog, [], k, [], []⟩) holds_nil Tryz.func106 {} fun _ => by kernel_rfl
noncomputable def z128 (k : Nat) : QT69 → Option ((Int × Int × Unit) × QT37) := fun x => match x with
 | (op, a, b_, ()) =>
  br k (op == 8)
  (bd k (z151 k (a, b_, ())) fun y1 =>
  br k (y1.1.2.1 != 0)
  (some ((0, 6, ()), ((), (), (), ())))
  (some ((y1.1.1, 0, ()), ((), (), (), ()))))
  (br k (op == 9)
  (bd k (z100 k (a, b_, ())) fun y2 =>
  br k (y2.1.2.1 != 0)
  (some ((0, 6, ()), ((), (), (), ())))
  (some ((y2.1.1, 0, ()), ((), (), (), ()))))
  (br k (op == 10)
  (bd k (z153 k (a, b_, ())) fun y3 =>
  br k (y3.1.2.1 != 0)
  (some ((0, 6, ()), ((), (), (), ())))
  (some ((y3.1.1, 0, ()), ((), (), (), ()))))
  (br k (op == 11)
  (br k (op == 11)
  (br k (b_ == 0)
  (some ((0, 4, ()), ((), (), (), ())))
  (bd k (z125 k (a, b_, ())) fun y4 =>
  br k (op == 12)
  (bd k (z126 k (a, b_, ())) fun y5 =>
  some ((y5.1.1, 0, ()), ((), (), (), ())))
  (br k (y4.1.2.1 != 0)
  (some ((0, 6, ()), ((), (), (), ())))
  (some ((y4.1.1, 0, ()), ((), (), (), ()))))))
  (br k (op == 20)
  (br k ((0 : Int) != 0)
  (some ((0, 6, ()), ((), (), (), ())))
  (some ((IntKind.wrap .i64 (a * b_), 0, ()), ((), (), (), ()))))
  (br k (op == 21)
  (br k ((0 : Int) != 0)
  (some ((0, 6, ()), ((), (), (), ())))
  (some ((if b_ > a then b_ else a, 0, ()), ((), (), (), ()))))
  (bd k (z127 k (op, a, b_, ())) fun y6 =>
  bd k (z35 k (y6.1.1, ())) fun y7 =>
  br k ((0 : Int) != 0)
  (some ((0, 6, ()), ((), (), (), ())))
  (some ((y7.1.1, 0, ()), ((), (), (), ())))))))
  (br k (op == 12)
  (br k (b_ == 0)
  (some ((0, 4, ()), ((), (), (), ())))
  (bd k (z125 k (a, b_, ())) fun y8 =>
  br k (op == 12)
  (bd k (z126 k (a, b_, ())) fun y9 =>
  some ((y9.1.1, 0, ()), ((), (), (), ())))
  (br k (y8.1.2.1 != 0)
  (some ((0, 6, ()), ((), (), (), ())))
  (some ((y8.1.1, 0, ()), ((), (), (), ()))))))
  (br k (op == 20)
  (br k ((0 : Int) != 0)
  (some ((0, 6, ()), ((), (), (), ())))
  (some ((IntKind.wrap .i64 (a * b_), 0, ()), ((), (), (), ()))))
  (br k (op == 21)
  (br k ((0 : Int) != 0)
  (some ((0, 6, ()), ((), (), (), ())))
  (some ((if b_ > a then b_ else a, 0, ()), ((), (), (), ()))))
  (bd k (z127 k (op, a, b_, ())) fun y10 =>
  bd k (z35 k (y10.1.1, ())) fun y11 =>
  br k ((0 : Int) != 0)
  (some ((0, 6, ()), ((), (), (), ())))
  (some ((y11.1.1, 0, ()), ((), (), (), ()))))))))))
noncomputable def z128.sg (k : Nat) : Sig := ⟨QS62, QS22, z128 k, []⟩
theorem z128.ok (k : Nat) : SigHolds Tryz.prog L 107 (z128.sg k) :=
  soe (C := ⟨Tryz.prog, [(148, [z151.sg k]), (149, [z100.sg k]), (150, [z153.sg k]), (151, [z125.sg k]), (152, [z126.sg k]), (153, [z127.sg k]), (106, [z35.sg k])], k, [], []⟩) (hc1 (z151.ok k) (hc1 (z100.ok k) (hc1 (z153.ok k) (hc1 (z125.ok k) (hc1 (z126.ok k) (hc1 (z127.ok k) (hc1 (z35.ok k) holds_nil))))))) Tryz.func107 {} fun _ => by kernel_rfl
noncomputable def z16.h25 (k : Nat) (G0 : (QT7 × QT10 × (List Int) × Int × Unit) → Option QT34) : (QT7 × QT10 × (List Int) × Int × (Int × Int × Unit) × Int × Int × Int × Int × Unit) → Option QT34 := fun x => match x with
 | (l_, (s__0, s__1, s__2, ()), pile, i, (t_0, t_1, ()), n, k_, x_, code, ()) =>
  br k (n == 2)
  (br k (decide (0 ≤ k_ ∧ k_ < (pile.length : Int)))
  (bd k (pile[k_.toNat]?) fun x4 =>
  br k (decide (0 ≤ (IntKind.wrap .i64 (k_ + 1)) ∧ (IntKind.wrap .i64 (k_ + 1)) < (pile.length : Int)))
  (bd k (pile[(IntKind.wrap .i64 (k_ + 1)).toNat]?) fun x5 =>
  bd k (z128 k (t_0, x4, x5, ())) fun y6 =>
  br k (y6.1.2.1 != 0)
  (some ((0, y6.1.2.1, ()), ((), (), ())))
  (br k (decide (0 ≤ k_ ∧ k_ ≤ (pile.length : Int)))
  (br k (decide (((subL pile ((0 : Int).toNat) (k_.toNat - (0 : Int).toNat)).length + ([y6.1.1] : List Int).length) * 8 ≤ maxBytes))
  (G0 (l_, (s__0, s__1, s__2, ()), (subL pile ((0 : Int).toNat) (k_.toNat - (0 : Int).toNat)) ++ ([y6.1.1] : List Int), IntKind.wrap .i64 (i + 1), ()))
  none)
  none))
  none)
  none)
  (br k (code != 0)
  (some ((0, code, ()), ((), (), ())))
  (br k (decide (0 ≤ k_ ∧ k_ ≤ (pile.length : Int)))
  (br k (decide (((subL pile ((0 : Int).toNat) (k_.toNat - (0 : Int).toNat)).length + ([x_] : List Int).length) * 8 ≤ maxBytes))
  (G0 (l_, (s__0, s__1, s__2, ()), (subL pile ((0 : Int).toNat) (k_.toNat - (0 : Int).toNat)) ++ ([x_] : List Int), IntKind.wrap .i64 (i + 1), ()))
  none)
  none))
noncomputable def z16.l0 (k : Nat) : E2 ((QT7 × QT10 × (List Int) × Int × Unit) → Option QT34) := fun G0 x => match x with
 | (l_, (s__0, s__1, s__2, ()), pile, i, ()) =>
  br k (decide (i < (l_.length : Int)))
  (br k (decide (0 ≤ i))
  (bd k (l_[i.toNat]?) fun x1 =>
  bd k (z97 k (x1.1, ())) fun y2 =>
  br k (x1.1 == 2)
  (br k (decide (0 ≤ x1.2.1))
  (bd k (s__0[x1.2.1.toNat]?) fun x3 =>
  jn k (z16.h25 k G0) (l_, (s__0, s__1, s__2, ()), pile, i, (x1.1, x1.2.1, ()), y2.1.1, IntKind.wrap .i64 ((pile.length : Int) - y2.1.1), x3, 0, ()))
  none)
  (br k (x1.1 == 3)
  (br k (decide (0 ≤ x1.2.1))
  (bd k (s__1[x1.2.1.toNat]?) fun x7 =>
  bd k (z35 k (x7, ())) fun y8 =>
  jn k (z16.h25 k G0) (l_, (s__0, s__1, s__2, ()), pile, i, (x1.1, x1.2.1, ()), y2.1.1, IntKind.wrap .i64 ((pile.length : Int) - y2.1.1), y8.1.1, 0, ()))
  none)
  (br k (x1.1 == 4)
  (jn k (z16.h25 k G0) (l_, (s__0, s__1, s__2, ()), pile, i, (x1.1, x1.2.1, ()), y2.1.1, IntKind.wrap .i64 ((pile.length : Int) - y2.1.1), 1, 0, ()))
  (br k (x1.1 == 6)
  (br k (decide (0 ≤ (IntKind.wrap .i64 ((pile.length : Int) - y2.1.1)) ∧ (IntKind.wrap .i64 ((pile.length : Int) - y2.1.1)) < (pile.length : Int)))
  (bd k (pile[(IntKind.wrap .i64 ((pile.length : Int) - y2.1.1)).toNat]?) fun x9 =>
  br k (decide (0 ≤ x1.2.1))
  (bd k (s__2[x1.2.1.toNat]?) fun x10 =>
  bd k (z11 k (x9, 0, IntKind.wrap .i64 ((x10.length : Int) - 1), ())) fun y11 =>
  br k (!y11.1.1)
  (some ((0, 5, ()), ((), (), ())))
  (br k (decide (0 ≤ x1.2.1))
  (bd k (s__2[x1.2.1.toNat]?) fun x12 =>
  br k (decide (0 ≤ (IntKind.wrap .i64 ((pile.length : Int) - y2.1.1)) ∧ (IntKind.wrap .i64 ((pile.length : Int) - y2.1.1)) < (pile.length : Int)))
  (bd k (pile[(IntKind.wrap .i64 ((pile.length : Int) - y2.1.1)).toNat]?) fun x13 =>
  br k (decide (0 ≤ x13))
  (bd k (x12[x13.toNat]?) fun x14 =>
  jn k (z16.h25 k G0) (l_, (s__0, s__1, s__2, ()), pile, i, (x1.1, x1.2.1, ()), y2.1.1, IntKind.wrap .i64 ((pile.length : Int) - y2.1.1), x14, 0, ()))
  none)
  none)
  none))
  none)
  none)
  (br k (x1.1 == 7)
  (br k (decide (0 ≤ (IntKind.wrap .i64 ((pile.length : Int) - y2.1.1)) ∧ (IntKind.wrap .i64 ((pile.length : Int) - y2.1.1)) < (pile.length : Int)))
  (bd k (pile[(IntKind.wrap .i64 ((pile.length : Int) - y2.1.1)).toNat]?) fun x15 =>
  bd k (z128 k (9, 0, x15, ())) fun y16 =>
  jn k (z16.h25 k G0) (l_, (s__0, s__1, s__2, ()), pile, i, (x1.1, x1.2.1, ()), y2.1.1, IntKind.wrap .i64 ((pile.length : Int) - y2.1.1), y16.1.1, y16.1.2.1, ()))
  none)
  (br k (x1.1 == 19)
  (br k (decide (0 ≤ (IntKind.wrap .i64 ((pile.length : Int) - y2.1.1)) ∧ (IntKind.wrap .i64 ((pile.length : Int) - y2.1.1)) < (pile.length : Int)))
  (bd k (pile[(IntKind.wrap .i64 ((pile.length : Int) - y2.1.1)).toNat]?) fun x17 =>
  jn k (z16.h25 k G0) (l_, (s__0, s__1, s__2, ()), pile, i, (x1.1, x1.2.1, ()), y2.1.1, IntKind.wrap .i64 ((pile.length : Int) - y2.1.1), IntKind.wrap .i64 (1 - x17), 0, ()))
  none)
  (jn k (z16.h25 k G0) (l_, (s__0, s__1, s__2, ()), pile, i, (x1.1, x1.2.1, ()), y2.1.1, IntKind.wrap .i64 ((pile.length : Int) - y2.1.1), x1.2.1, 0, ()))))))))
  none)
  (br k (decide (0 ≤ (0 : Int) ∧ (0 : Int) < (pile.length : Int)))
  (bd k (pile[(0 : Int).toNat]?) fun x18 =>
  some ((x18, 0, ()), ((), (), ())))
  none)
noncomputable def z16 (k : Nat) : (QT7 × QT10 × Unit) → Option QT34 := fun x => match x with
 | (l_, s_, ()) =>
  iter (z16.l0 k) k (l_, (s_.1, s_.2.1, s_.2.2.1, ()), ([] : List Int), 0, ())
noncomputable def z16.sg (k : Nat) : Sig := ⟨(.cons (.pur (.sl false QK0)) QS58), QS22, z16 k, []⟩
theorem z16.ok (k : Nat) : SigHolds Tryz.prog L 55 (z16.sg k) :=
  soe (C := ⟨Tryz.prog, [(105, [z97.sg k]), (107, [z128.sg k]), (106, [z35.sg k]), (75, [z11.sg k])], k, [], []⟩) (hc1 (z97.ok k) (hc1 (z128.ok k) (hc1 (z35.ok k) (hc1 (z11.ok k) holds_nil)))) Tryz.func55 { loops := [(0, [(0, (.pur (.sl false QK0))), (3, QS20), (6, (.own (.int .i64))), (7, (.pur (.int .i64)))])], heads := [(25, [(0, (.pur (.sl false QK0))), (3, QS20), (6, (.own (.int .i64))), (7, (.pur (.int .i64))), (8, (.box QS22)), (9, (.pur (.int .i64))), (10, (.pur (.int .i64))), (11, (.pur (.int .i64))), (12, (.pur (.int .i64)))])] } fun _ => by kernel_rfl
end Go.Pev.F
