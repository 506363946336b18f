/-
  Printed by gen.py: what functions of the program compute, and that they do.
-/
import Derived.Test.YtibhfjdhhdjjcaaGreatDoorK04
set_option linter.unusedSimpArgs false
set_option linter.unusedVariables false
open Go.Proofs Go.Pev
namespace Go.Pev.F
set_option maxRecDepth 100000
noncomputable def z15.l2 (k : Nat) (G0 : (QT19 × QT5 × (List Int) × Int × Unit) → Option QT14) : E2 ((QT19 × QT5 × (List Int) × Int × Int × Int × Int × Int × Unit) → Option QT14) := fun G2 x => match x with
 | (l_, (d__0, d__1, d__2, ()), pile, i, n, takes, leaves, k_, ()) =>
  br k (decide (k_ < (pile.length : Int)))
  (br k (decide (0 ≤ k_ ∧ k_ < (pile.length : Int)))
  (bd k (pile[k_.toNat]?) fun x10 =>
  br k (x10 != takes)
  (some ((0, ()), ((), (), ())))
  (G2 (l_, (d__0, d__1, d__2, ()), pile, i, n, takes, leaves, IntKind.wrap .i64 (k_ + 1), ())))
  none)
  (br k (decide (0 ≤ (IntKind.wrap .i64 ((pile.length : Int) - n)) ∧ (IntKind.wrap .i64 ((pile.length : Int) - n)) ≤ (pile.length : Int)))
  (br k (decide (((subL pile ((0 : Int).toNat) ((IntKind.wrap .i64 ((pile.length : Int) - n)).toNat - (0 : Int).toNat)).length + ([leaves] : List Int).length) * 8 ≤ maxBytes))
  (G0 (l_, (d__0, d__1, d__2, ()), (subL pile ((0 : Int).toNat) ((IntKind.wrap .i64 ((pile.length : Int) - n)).toNat - (0 : Int).toNat)) ++ ([leaves] : List Int), IntKind.wrap .i64 (i + 1), ()))
  none)
  none)
noncomputable def z15.l0 (k : Nat) : E2 ((QT19 × QT5 × (List Int) × Int × Unit) → Option QT14) := fun G0 x => match x with
 | (l_, (d__0, d__1, d__2, ()), pile, i, ()) =>
  br k (decide (i < (l_.length : Int)))
  (br k (decide (0 ≤ i))
  (bd k (l_[i.toNat]?) fun x3 =>
  bd k (z86 k (x3.1, ())) fun y4 =>
  br k (decide (0 ≤ i))
  (bd k (l_[i.toNat]?) fun x5 =>
  bd k (z128 k (x5.1, ())) fun y6 =>
  (br k (decide (0 ≤ i))
  (bd k (l_[i.toNat]?) fun x7 =>
  bd k (z129 k ((d__0, d__1, d__2, ()), x7, ())) fun y8 =>
  br k (!y8.1.1)
  (some (true, ()))
  (some (decide ((pile.length : Int) < y4.1.1), ())))
  none : Option (Bool × Unit)).bind fun j9 =>
  br k (j9.1)
  (some ((0, ()), ((), (), ())))
  (iter (z15.l2 k G0) k (l_, (d__0, d__1, d__2, ()), pile, i, y4.1.1, y6.1.1, y6.1.2.1, IntKind.wrap .i64 ((pile.length : Int) - y4.1.1), ())))
  none)
  none)
  (br k ((pile.length : Int) != 1)
  (some ((0, ()), ((), (), ())))
  (br k (decide (0 ≤ (0 : Int) ∧ (0 : Int) < (pile.length : Int)))
  (bd k (pile[(0 : Int).toNat]?) fun x11 =>
  some ((x11, ()), ((), (), ())))
  none))
noncomputable def z15 (k : Nat) : (QT5 × QT19 × Unit) → Option QT14 := fun x => match x with
 | (d_, l_, ()) =>
  (bd k (z13 k (d_, ())) fun y1 =>
  br k (!y1.1.1)
  (some (true, ()))
  (some (decide ((l_.length : Int) > 40), ())) : Option (Bool × Unit)).bind fun j2 =>
  br k (j2.1)
  (some ((0, ()), ((), (), ())))
  (iter (z15.l0 k) k (l_, (d_.1, d_.2.1, d_.2.2.1, ()), ([] : List Int), 0, ()))
noncomputable def z15.sg (k : Nat) : Sig := ⟨(.cons QS11 QS37), QS4, z15 k, []⟩
theorem z15.ok {L : List (Nat × Obj)} (k : Nat) : SigHolds Tryz.prog L 183 (z15.sg k) :=
  soe (C := ⟨Tryz.prog, [(77, [z13.sg k]), (105, [z86.sg k]), (221, [z128.sg k]), (222, [z129.sg k])], k, [], []⟩) (hc1 (z13.ok k) (hc1 (z86.ok k) (hc1 (z128.ok k) (hc1 (z129.ok k) holds_nil)))) Tryz.func183 { loops := [(0, [(1, (.pur (.sl false QK6))), (2, QS25), (5, (.own (.int .i64))), (6, (.pur (.int .i64)))]), (2, [(1, (.pur (.sl false QK6))), (2, QS25), (5, (.own (.int .i64))), (6, (.pur (.int .i64))), (7, (.pur (.int .i64))), (8, (.pur (.int .i64))), (9, (.pur (.int .i64))), (10, (.pur (.int .i64)))])], joins := [(1, [(18, .bool)]), (9, [(53, .bool)])] } fun _ => by kernel_rfl
noncomputable def z98 (k : Nat) : (QT5 × QT1 × Unit) → Option QT17 := fun x => match x with
 | (d_, l_, ()) =>
  bd k (z97 k (d_, l_.1, ())) fun y1 =>
  bd k (z8 k (l_.1, 1, 14, ())) fun y2 =>
  br k (!y2.1.1)
  (some ((false, ()), ((), (), ())))
  ((br k (decide (y1.1.1 < 0))
  (br k (l_.2.1 != 0)
  (some (true, ()))
  (br k (decide (y1.1.1 ≥ 0))
  (bd k (z8 k (l_.2.1, 0, IntKind.wrap .i64 (y1.1.1 - 1), ())) fun y3 =>
  some (!y3.1.1, ()))
  (some (false, ()))))
  (br k (decide (y1.1.1 ≥ 0))
  (bd k (z8 k (l_.2.1, 0, IntKind.wrap .i64 (y1.1.1 - 1), ())) fun y4 =>
  some (!y4.1.1, ()))
  (some (false, ()))) : Option (Bool × Unit)).bind fun j5 =>
  br k (j5.1)
  (some ((false, ()), ((), (), ())))
  ((br k (y1.1.2.1)
  (bd k (z15 k (d_, l_.2.2.1, ())) fun y6 =>
  br k (y6.1.1 != 1)
  (some (true, ()))
  (br k (!y1.1.2.1)
  (some (decide ((l_.2.2.1.length : Int) > 0), ()))
  (some (false, ()))))
  (br k (!y1.1.2.1)
  (some (decide ((l_.2.2.1.length : Int) > 0), ()))
  (some (false, ()))) : Option (Bool × Unit)).bind fun j7 =>
  br k (j7.1)
  (some ((false, ()), ((), (), ())))
  ((br k (decide (y1.1.2.2.1 > 0))
  (bd k (z15 k (d_, l_.2.2.2.1, ())) fun y8 =>
  br k (y8.1.1 != y1.1.2.2.1)
  (some (true, ()))
  (br k (y1.1.2.2.1 == 0)
  (some (decide ((l_.2.2.2.1.length : Int) > 0), ()))
  (some (false, ()))))
  (br k (y1.1.2.2.1 == 0)
  (some (decide ((l_.2.2.2.1.length : Int) > 0), ()))
  (some (false, ()))) : Option (Bool × Unit)).bind fun j9 =>
  br k (j9.1)
  (some ((false, ()), ((), (), ())))
  ((br k (!y1.1.2.2.2.1)
  (br k (l_.2.2.2.2.1 != 0)
  (some (true, ()))
  (some (l_.2.2.2.2.2.1 != 0, ())))
  (some (false, ())) : Option (Bool × Unit)).bind fun j10 =>
  br k (j10.1)
  (some ((false, ()), ((), (), ())))
  (br k (l_.1 == 10)
  ((bd k (z8 k (l_.2.2.2.2.1, 1, 3, ())) fun y11 =>
  br k (y11.1.1)
  (some (l_.2.2.2.2.2.1 == 0, ()))
  (some (false, ())) : Option (Bool × Unit)).bind fun j12 =>
  some ((j12.1, ()), ((), (), ())))
  ((br k (y1.1.2.2.2.1)
  (bd k (z8 k (l_.2.2.2.2.1, (-999999999999999999), 999999999999999999, ())) fun y13 =>
  br k (!y13.1.1)
  (some (true, ()))
  (bd k (z8 k (l_.2.2.2.2.2.1, l_.2.2.2.2.1, 999999999999999999, ())) fun y14 =>
  some (!y14.1.1, ())))
  (some (false, ())) : Option (Bool × Unit)).bind fun j15 =>
  br k (j15.1)
  (some ((false, ()), ((), (), ())))
  ((br k (l_.1 != 13)
  (some (true, ()))
  (some (decide (l_.2.2.2.2.2.1 ≤ (IntKind.wrap .i64 (l_.2.2.2.2.1 + 3))), ())) : Option (Bool × Unit)).bind fun j16 =>
  some ((j16.1, ()), ((), (), ())))))))))
noncomputable def z98.sg (k : Nat) : Sig := ⟨(.cons QS11 (.cons (.pur QK0) .nil)), QS13, z98 k, []⟩
theorem z98.ok {L : List (Nat × Obj)} (k : Nat) : SigHolds Tryz.prog L 126 (z98.sg k) :=
  soe (C := ⟨Tryz.prog, [(182, [z97.sg k]), (75, [z8.sg k]), (183, [z15.sg k])], k, [], []⟩) (hc1 (z97.ok k) (hc1 (z8.ok k) (hc1 (z15.ok k) holds_nil))) Tryz.func126 { joins := [(4, [(23, .bool)]), (6, [(43, .bool)]), (8, [(62, .bool)]), (10, [(83, .bool)]), (13, [(4, .bool)]), (14, [(108, .bool)]), (16, [(4, .bool)])] } fun _ => by kernel_rfl
noncomputable def z74 (k : Nat) : (Int × Unit) → Option QT23 := fun x => match x with
 | (kind, ()) =>
  (br k (kind == 9)
  (some (true, ()))
  (some (kind == 10, ())) : Option (Bool × Unit)).bind fun j1 =>
  some ((j1.1, ()), ((), ()))
noncomputable def z74.sg (k : Nat) : Sig := ⟨QS4, QS13, z74 k, []⟩
theorem z74.ok {L : List (Nat × Obj)} (k : Nat) : SigHolds Tryz.prog L 128 (z74.sg k) :=
  soe (C := ⟨Tryz.prog, [], k, [], []⟩) holds_nil Tryz.func128 { joins := [(1, [(2, .bool)])] } fun _ => by kernel_rfl
noncomputable def z99 (k : Nat) : (Int × Unit) → Option QT23 := fun x => match x with
 | (kind, ()) =>
  (br k (kind == 5)
  (some (true, ()))
  (br k (kind == 6)
  (some (true, ()))
  (bd k (z74 k (kind, ())) fun y1 =>
  some (y1.1.1, ()))) : Option (Bool × Unit)).bind fun j2 =>
  some ((j2.1, ()), ((), ()))
noncomputable def z99.sg (k : Nat) : Sig := ⟨QS4, QS13, z99 k, []⟩
theorem z99.ok {L : List (Nat × Obj)} (k : Nat) : SigHolds Tryz.prog L 127 (z99.sg k) :=
  soe (C := ⟨Tryz.prog, [(128, [z74.sg k])], k, [], []⟩) (hc1 (z74.ok k) holds_nil) Tryz.func127 { joins := [(1, [(2, .bool)])] } fun _ => by kernel_rfl
noncomputable def z12.l0 (k : Nat) : E2 (((List QT1) × (List Int) × (List Int) × Int × Unit) → Option (((List Int) × Int × Unit) × (Unit × Unit))) := fun G0 x => match x with
 | (l_, out_, open_, i, ()) =>
  br k (decide (i < (l_.length : Int)))
  (br k (decide ((out_.length + ([IntKind.wrap .i64 (i + 1)] : List Int).length) * 8 ≤ maxBytes))
  (br k (decide ((open_.length : Int) > 0))
  (br k (decide (0 ≤ (IntKind.wrap .i64 ((open_.length : Int) - 1)) ∧ (IntKind.wrap .i64 ((open_.length : Int) - 1)) < (open_.length : Int)))
  (bd k (open_[(IntKind.wrap .i64 ((open_.length : Int) - 1)).toNat]?) fun x1 =>
  br k (decide (0 ≤ i))
  (bd k (l_[i.toNat]?) fun x2 =>
  bd k (z99 k (x2.1, ())) fun y3 =>
  br k (y3.1.1)
  (br k (decide ((open_.length + ([i] : List Int).length) * 8 ≤ maxBytes))
  (G0 (l_, out_ ++ ([IntKind.wrap .i64 (i + 1)] : List Int), open_ ++ ([i] : List Int), IntKind.wrap .i64 (i + 1), ()))
  none)
  (br k (decide (0 ≤ i))
  (bd k (l_[i.toNat]?) fun x4 =>
  br k (x4.1 == 7)
  ((br k (decide (x1 < 0))
  (some (true, ()))
  (br k (decide (0 ≤ x1))
  (bd k (l_[x1.toNat]?) fun x5 =>
  br k (x5.1 != 5)
  (br k (decide (0 ≤ x1))
  (bd k (l_[x1.toNat]?) fun x6 =>
  some (x6.1 != 6, ()))
  none)
  (some (false, ())))
  none) : Option (Bool × Unit)).bind fun j7 =>
  br k (j7.1)
  (some (([], i, ()), ((), ())))
  (br k (decide (0 ≤ x1 ∧ x1 < ((out_ ++ ([IntKind.wrap .i64 (i + 1)] : List Int)).length : Int)))
  (bd k ((out_ ++ ([IntKind.wrap .i64 (i + 1)] : List Int))[x1.toNat]?) fun x8 =>
  br k (decide (0 ≤ (IntKind.wrap .i64 ((open_.length : Int) - 1)) ∧ (IntKind.wrap .i64 ((open_.length : Int) - 1)) < (open_.length : Int)))
  (bd k (open_[(IntKind.wrap .i64 ((open_.length : Int) - 1)).toNat]?) fun x9 =>
  G0 (l_, (out_ ++ ([IntKind.wrap .i64 (i + 1)] : List Int)).set x1.toNat (IntKind.wrap .i64 (i + 1)), open_.set ((IntKind.wrap .i64 ((open_.length : Int) - 1)).toNat) i, IntKind.wrap .i64 (i + 1), ()))
  none)
  none))
  (br k (decide (0 ≤ i))
  (bd k (l_[i.toNat]?) fun x10 =>
  br k (x10.1 == 8)
  (br k (decide (x1 < 0))
  (some (([], i, ()), ((), ())))
  (br k (decide (0 ≤ (IntKind.wrap .i64 ((open_.length : Int) - 1)) ∧ (IntKind.wrap .i64 ((open_.length : Int) - 1)) ≤ (open_.length : Int)))
  (br k (decide (0 ≤ x1 ∧ x1 < ((out_ ++ ([IntKind.wrap .i64 (i + 1)] : List Int)).length : Int)))
  (bd k ((out_ ++ ([IntKind.wrap .i64 (i + 1)] : List Int))[x1.toNat]?) fun x11 =>
  br k (decide (0 ≤ x1))
  (bd k (l_[x1.toNat]?) fun x12 =>
  bd k (z74 k (x12.1, ())) fun y13 =>
  br k (y13.1.1)
  (br k (decide (0 ≤ x1 ∧ x1 < (((out_ ++ ([IntKind.wrap .i64 (i + 1)] : List Int)).set x1.toNat i).length : Int)))
  (bd k (((out_ ++ ([IntKind.wrap .i64 (i + 1)] : List Int)).set x1.toNat i)[x1.toNat]?) fun x14 =>
  br k (decide (0 ≤ i ∧ i < ((((out_ ++ ([IntKind.wrap .i64 (i + 1)] : List Int)).set x1.toNat i).set x1.toNat (IntKind.wrap .i64 (i + 1))).length : Int)))
  (bd k ((((out_ ++ ([IntKind.wrap .i64 (i + 1)] : List Int)).set x1.toNat i).set x1.toNat (IntKind.wrap .i64 (i + 1)))[i.toNat]?) fun x15 =>
  G0 (l_, (((out_ ++ ([IntKind.wrap .i64 (i + 1)] : List Int)).set x1.toNat i).set x1.toNat (IntKind.wrap .i64 (i + 1))).set i.toNat x1, subL open_ ((0 : Int).toNat) ((IntKind.wrap .i64 ((open_.length : Int) - 1)).toNat - (0 : Int).toNat), IntKind.wrap .i64 (i + 1), ()))
  none)
  none)
  (G0 (l_, (out_ ++ ([IntKind.wrap .i64 (i + 1)] : List Int)).set x1.toNat i, subL open_ ((0 : Int).toNat) ((IntKind.wrap .i64 ((open_.length : Int) - 1)).toNat - (0 : Int).toNat), IntKind.wrap .i64 (i + 1), ())))
  none)
  none)
  none))
  (G0 (l_, out_ ++ ([IntKind.wrap .i64 (i + 1)] : List Int), open_, IntKind.wrap .i64 (i + 1), ())))
  none))
  none))
  none)
  none)
  (br k (decide (0 ≤ i))
  (bd k (l_[i.toNat]?) fun x16 =>
  bd k (z99 k (x16.1, ())) fun y17 =>
  br k (y17.1.1)
  (br k (decide ((open_.length + ([i] : List Int).length) * 8 ≤ maxBytes))
  (G0 (l_, out_ ++ ([IntKind.wrap .i64 (i + 1)] : List Int), open_ ++ ([i] : List Int), IntKind.wrap .i64 (i + 1), ()))
  none)
  (br k (decide (0 ≤ i))
  (bd k (l_[i.toNat]?) fun x18 =>
  br k (x18.1 == 7)
  ((br k (decide ((-1 : Int) < 0))
  (some (true, ()))
  (br k (decide (0 ≤ (-1 : Int)))
  (bd k (l_[(-1 : Int).toNat]?) fun x19 =>
  br k (x19.1 != 5)
  (br k (decide (0 ≤ (-1 : Int)))
  (bd k (l_[(-1 : Int).toNat]?) fun x20 =>
  some (x20.1 != 6, ()))
  none)
  (some (false, ())))
  none) : Option (Bool × Unit)).bind fun j21 =>
  br k (j21.1)
  (some (([], i, ()), ((), ())))
  (br k (decide (0 ≤ (-1 : Int) ∧ (-1 : Int) < ((out_ ++ ([IntKind.wrap .i64 (i + 1)] : List Int)).length : Int)))
  (bd k ((out_ ++ ([IntKind.wrap .i64 (i + 1)] : List Int))[(-1 : Int).toNat]?) fun x22 =>
  br k (decide (0 ≤ (IntKind.wrap .i64 ((open_.length : Int) - 1)) ∧ (IntKind.wrap .i64 ((open_.length : Int) - 1)) < (open_.length : Int)))
  (bd k (open_[(IntKind.wrap .i64 ((open_.length : Int) - 1)).toNat]?) fun x23 =>
  G0 (l_, (out_ ++ ([IntKind.wrap .i64 (i + 1)] : List Int)).set ((-1 : Int).toNat) (IntKind.wrap .i64 (i + 1)), open_.set ((IntKind.wrap .i64 ((open_.length : Int) - 1)).toNat) i, IntKind.wrap .i64 (i + 1), ()))
  none)
  none))
  (br k (decide (0 ≤ i))
  (bd k (l_[i.toNat]?) fun x24 =>
  br k (x24.1 == 8)
  (br k (decide ((-1 : Int) < 0))
  (some (([], i, ()), ((), ())))
  (br k (decide (0 ≤ (IntKind.wrap .i64 ((open_.length : Int) - 1)) ∧ (IntKind.wrap .i64 ((open_.length : Int) - 1)) ≤ (open_.length : Int)))
  (br k (decide (0 ≤ (-1 : Int) ∧ (-1 : Int) < ((out_ ++ ([IntKind.wrap .i64 (i + 1)] : List Int)).length : Int)))
  (bd k ((out_ ++ ([IntKind.wrap .i64 (i + 1)] : List Int))[(-1 : Int).toNat]?) fun x25 =>
  br k (decide (0 ≤ (-1 : Int)))
  (bd k (l_[(-1 : Int).toNat]?) fun x26 =>
  bd k (z74 k (x26.1, ())) fun y27 =>
  br k (y27.1.1)
  (br k (decide (0 ≤ (-1 : Int) ∧ (-1 : Int) < (((out_ ++ ([IntKind.wrap .i64 (i + 1)] : List Int)).set ((-1 : Int).toNat) i).length : Int)))
  (bd k (((out_ ++ ([IntKind.wrap .i64 (i + 1)] : List Int)).set ((-1 : Int).toNat) i)[(-1 : Int).toNat]?) fun x28 =>
  br k (decide (0 ≤ i ∧ i < ((((out_ ++ ([IntKind.wrap .i64 (i + 1)] : List Int)).set ((-1 : Int).toNat) i).set ((-1 : Int).toNat) (IntKind.wrap .i64 (i + 1))).length : Int)))
  (bd k ((((out_ ++ ([IntKind.wrap .i64 (i + 1)] : List Int)).set ((-1 : Int).toNat) i).set ((-1 : Int).toNat) (IntKind.wrap .i64 (i + 1)))[i.toNat]?) fun x29 =>
  G0 (l_, (((out_ ++ ([IntKind.wrap .i64 (i + 1)] : List Int)).set ((-1 : Int).toNat) i).set ((-1 : Int).toNat) (IntKind.wrap .i64 (i + 1))).set i.toNat (-1), subL open_ ((0 : Int).toNat) ((IntKind.wrap .i64 ((open_.length : Int) - 1)).toNat - (0 : Int).toNat), IntKind.wrap .i64 (i + 1), ()))
  none)
  none)
  (G0 (l_, (out_ ++ ([IntKind.wrap .i64 (i + 1)] : List Int)).set ((-1 : Int).toNat) i, subL open_ ((0 : Int).toNat) ((IntKind.wrap .i64 ((open_.length : Int) - 1)).toNat - (0 : Int).toNat), IntKind.wrap .i64 (i + 1), ())))
  none)
  none)
  none))
  (G0 (l_, out_ ++ ([IntKind.wrap .i64 (i + 1)] : List Int), open_, IntKind.wrap .i64 (i + 1), ())))
  none))
  none))
  none))
  none)
  (br k (decide ((open_.length : Int) > 0))
  (some (([], (l_.length : Int), ()), ((), ())))
  (some ((out_, IntKind.wrap .i64 ((l_.length : Int) + 1), ()), ((), ()))))
noncomputable def z12 (k : Nat) : ((List QT1) × Unit) → Option (((List Int) × Int × Unit) × (Unit × Unit)) := fun x => match x with
 | (l_, ()) =>
  iter (z12.l0 k) k (l_, ([] : List Int), ([] : List Int), 0, ())
noncomputable def z12.sg (k : Nat) : Sig := ⟨QS38, (.cons (.own (.int .i64)) QS4), z12 k, []⟩
theorem z12.ok {L : List (Nat × Obj)} (k : Nat) : SigHolds Tryz.prog L 76 (z12.sg k) :=
  soe (C := ⟨Tryz.prog, [(127, [z99.sg k]), (128, [z74.sg k])], k, [], []⟩) (hc1 (z99.ok k) (hc1 (z74.ok k) holds_nil)) Tryz.func76 { loops := [(0, [(0, (.pur (.sl false QK0))), (4, (.own (.int .i64))), (5, (.own (.int .i64))), (6, (.pur (.int .i64)))])], joins := [(13, [(65, .bool)])] } fun _ => by kernel_rfl
noncomputable def z28.l0 (k : Nat) : E2 ((QT9 × Int × Unit) → Option QT23) := fun G0 x => match x with
 | ((p_0, p_1, p_2, p_3, ()), i, ()) =>
  br k (decide (i < (p_3.length : Int)))
  (br k (decide (0 ≤ i))
  (bd k (p_3[i.toNat]?) fun x3 =>
  bd k (z98 k ((p_0, p_1, p_2, ()), x3, ())) fun y4 =>
  br k (!y4.1.1)
  (some ((false, ()), ((), ())))
  (G0 ((p_0, p_1, p_2, p_3, ()), IntKind.wrap .i64 (i + 1), ())))
  none)
  (bd k (z12 k (p_3, ())) fun y5 =>
  some ((decide (y5.1.2.1 > (p_3.length : Int)), ()), ((), ())))
noncomputable def z28 (k : Nat) : (QT9 × Unit) → Option QT23 := fun x => match x with
 | (p, ()) =>
  (bd k (z13 k ((p.1, p.2.1, p.2.2.1, ()), ())) fun y1 =>
  br k (!y1.1.1)
  (some (true, ()))
  (some (decide ((p.2.2.2.1.length : Int) > 30), ())) : Option (Bool × Unit)).bind fun j2 =>
  br k (j2.1)
  (some ((false, ()), ((), ())))
  (iter (z28.l0 k) k ((p.1, p.2.1, p.2.2.1, p.2.2.2.1, ()), 0, ()))
noncomputable def z28.sg (k : Nat) : Sig := ⟨(.cons QS12 .nil), QS13, z28 k, []⟩
theorem z28.ok {L : List (Nat × Obj)} (k : Nat) : SigHolds Tryz.prog L 74 (z28.sg k) :=
  soe (C := ⟨Tryz.prog, [(77, [z13.sg k]), (126, [z98.sg k]), (76, [z12.sg k])], k, [], []⟩) (hc1 (z13.ok k) (hc1 (z98.ok k) (hc1 (z12.ok k) holds_nil))) Tryz.func74 { loops := [(0, [(1, (.box (.cons (.pur (.sl false .str)) (.cons (.pur (.sl false .str)) (.cons (.pur QK7) QS38))))), (3, (.pur (.int .i64)))])], joins := [(1, [(15, .bool)])] } fun _ => by kernel_rfl
noncomputable def z130 (k : Nat) : QT44 → Option ((Bool × Unit) × QT31) := fun x => match x with
 | (p, inputs, fuel, ()) =>
  (bd k (z28 k (p, ())) fun y1 =>
  br k (y1.1.1)
  (bd k (z8 k (fuel, 0, 2000, ())) fun y2 =>
  br k (y2.1.1)
  (some (decide ((inputs.length : Int) ≤ 1000), ()))
  (some (false, ())))
  (some (false, ())) : Option (Bool × Unit)).bind fun j3 =>
  some ((j3.1, ()), ((), (), (), ()))
noncomputable def z130.sg (k : Nat) : Sig := ⟨QS49, QS13, z130 k, []⟩
theorem z130.ok {L : List (Nat × Obj)} (k : Nat) : SigHolds Tryz.prog L 32 (z130.sg k) :=
  soe (C := ⟨Tryz.prog, [(74, [z28.sg k]), (75, [z8.sg k])], k, [], []⟩) (hc1 (z28.ok k) (hc1 (z8.ok k) holds_nil)) Tryz.func32 { joins := [(1, [(6, .bool)])] } fun _ => by kernel_rfl
noncomputable def z131 (k : Nat) : (QT9 × Unit) → Option QT39 := fun x => match x with
 | (p, ()) =>
  bd k (z28 k (p, ())) fun y1 =>
  br k (!y1.1.1)
  (some (([], ()), ((), ())))
  (bd k (z12 k (p.2.2.2.1, ())) fun y2 =>
  some ((y2.1.1, ()), ((), ())))
noncomputable def z131.sg (k : Nat) : Sig := ⟨(.cons QS12 .nil), (.cons (.own (.int .i64)) .nil), z131 k, []⟩
theorem z131.ok {L : List (Nat × Obj)} (k : Nat) : SigHolds Tryz.prog L 33 (z131.sg k) :=
  soe (C := ⟨Tryz.prog, [(74, [z28.sg k]), (76, [z12.sg k])], k, [], []⟩) (hc1 (z28.ok k) (hc1 (z12.ok k) holds_nil)) Tryz.func33 {} fun _ => by kernel_rfl
noncomputable def z56.l0 (k : Nat) : E2 ((QT5 × QT8 × QT8 × Int × Unit) → Option QT40) := fun G0 x => match x with
 | ((d__0, d__1, d__2, ()), (t2_0, t2_1, t2_2, ()), (s__0, s__1, s__2, ()), i, ()) =>
  br k (decide (i < (d__2.length : Int)))
  (br k (decide (0 ≤ i))
  (bd k (d__2[i.toNat]?) fun x2 =>
  br k (decide (0 ≤ x2.2.1 ∧ x2.2.1 ≤ x2.2.1 ∧ x2.2.1 * 8 ≤ maxBytes))
  (br k (decide ((s__2.length + ([List.replicate x2.2.1.toNat (Kd.z (.int .i64))] : List (List Int)).length) * 24 ≤ maxBytes))
  (G0 ((d__0, d__1, d__2, ()), (t2_0, t2_1, t2_2, ()), (s__0, s__1, s__2 ++ ([List.replicate x2.2.1.toNat (Kd.z (.int .i64))] : List (List Int)), ()), IntKind.wrap .i64 (i + 1), ()))
  none)
  none)
  none)
  (some (((s__0, s__1, s__2, ()), ()), ((), ())))
noncomputable def z56 (k : Nat) : (QT5 × Unit) → Option QT40 := fun x => match x with
 | (d_, ()) =>
  bd k (z13 k (d_, ())) fun y1 =>
  br k (!y1.1.1)
  (some ((([], [], ([] : List (List Int)), ()), ()), ((), ())))
  (br k (decide (0 ≤ (d_.1.length : Int) ∧ (d_.1.length : Int) ≤ (d_.1.length : Int) ∧ (d_.1.length : Int) * 8 ≤ maxBytes))
  (br k (decide (0 ≤ (d_.2.1.length : Int) ∧ (d_.2.1.length : Int) ≤ (d_.2.1.length : Int) ∧ (d_.2.1.length : Int) * 1 ≤ maxBytes))
  (iter (z56.l0 k) k ((d_.1, d_.2.1, d_.2.2.1, ()), ([], [], ([] : List (List Int)), ()), (List.replicate (d_.1.length : Int).toNat (Kd.z (.int .i64)), List.replicate (d_.2.1.length : Int).toNat (Kd.z .bool), ([] : List (List Int)), ()), 0, ()))
  none)
  none)
noncomputable def z56.sg (k : Nat) : Sig := ⟨(.cons QS11 .nil), (.cons (.agg QS16) .nil), z56 k, []⟩
theorem z56.ok {L : List (Nat × Obj)} (k : Nat) : SigHolds Tryz.prog L 34 (z56.sg k) :=
  soe (C := ⟨Tryz.prog, [(77, [z13.sg k])], k, [(34, (.own (.int .i64)))], []⟩) (hc1 (z13.ok k) holds_nil) Tryz.func34 { loops := [(0, [(1, QS25), (2, (.box QS16)), (3, (.box QS16)), (4, (.pur (.int .i64)))])], keys := [(3, [([1], false), ([1], false), ([], false), ([12], true), ([1], false), ([1], false), ([], false), ([16], true), ([12, 16], false), ([3], true), ([3, 12, 16], true)]), (7, [([3], false), ([3], false), ([1], false), ([1], false), ([], false), ([], false), ([], false), ([], false), ([33], true), ([33, 34], true), ([3, 34, 35], true), ([3], false), ([3, 35], true)])] } fun _ => by kernel_rfl
noncomputable def z132 (k : Nat) : (Int × Int × Unit) → Option QT27 := fun x => match x with
 | (a, b_, ()) =>
  (br k (decide (b_ > 0))
  (some (decide (a > (IntKind.wrap .i64 (9223372036854775807 - b_))), ()))
  (some (false, ())) : Option (Bool × Unit)).bind fun j1 =>
  br k (j1.1)
  (some ((0, 1, ()), ((), (), ())))
  ((br k (decide (b_ < 0))
  (some (decide (a < (IntKind.wrap .i64 ((-9223372036854775808) - b_))), ()))
  (some (false, ())) : Option (Bool × Unit)).bind fun j2 =>
  br k (j2.1)
  (some ((0, (-1), ()), ((), (), ())))
  (some ((IntKind.wrap .i64 (a + b_), 0, ()), ((), (), ()))))
noncomputable def z132.sg (k : Nat) : Sig := ⟨QS15, QS15, z132 k, []⟩
theorem z132.ok {L : List (Nat × Obj)} (k : Nat) : SigHolds Tryz.prog L 148 (z132.sg k) :=
  soe (C := ⟨Tryz.prog, [], k, [], []⟩) holds_nil Tryz.func148 { joins := [(1, [(6, .bool)]), (3, [(15, .bool)])] } fun _ => by kernel_rfl
noncomputable def z87 (k : Nat) : (Int × Int × Unit) → Option QT27 := fun x => match x with
 | (a, b_, ()) =>
  (br k (decide (b_ < 0))
  (some (decide (a > (IntKind.wrap .i64 (9223372036854775807 + b_))), ()))
  (some (false, ())) : Option (Bool × Unit)).bind fun j1 =>
  br k (j1.1)
  (some ((0, 1, ()), ((), (), ())))
  ((br k (decide (b_ > 0))
  (some (decide (a < (IntKind.wrap .i64 ((-9223372036854775808) + b_))), ()))
  (some (false, ())) : Option (Bool × Unit)).bind fun j2 =>
  br k (j2.1)
  (some ((0, (-1), ()), ((), (), ())))
  (some ((IntKind.wrap .i64 (a - b_), 0, ()), ((), (), ()))))
noncomputable def z87.sg (k : Nat) : Sig := ⟨QS15, QS15, z87 k, []⟩
theorem z87.ok {L : List (Nat × Obj)} (k : Nat) : SigHolds Tryz.prog L 149 (z87.sg k) :=
  soe (C := ⟨Tryz.prog, [], k, [], []⟩) holds_nil Tryz.func149 { joins := [(1, [(6, .bool)]), (3, [(15, .bool)])] } fun _ => by kernel_rfl
noncomputable def z100 (k : Nat) : (Int × Unit) → Option QT32 := fun x => match x with
 | (n, ()) =>
  br k (decide (n < 0))
  (some ((IntKind.wrap .u64 (0 - (IntKind.wrap .u64 n)), ()), ((), ())))
  (some ((IntKind.wrap .u64 n, ()), ((), ())))
noncomputable def z100.sg (k : Nat) : Sig := ⟨QS4, (.cons (.pur (.int .u64)) .nil), z100 k, []⟩
theorem z100.ok {L : List (Nat × Obj)} (k : Nat) : SigHolds Tryz.prog L 196 (z100.sg k) :=
  soe (C := ⟨Tryz.prog, [], k, [], []⟩) holds_nil Tryz.func196 {} fun _ => by kernel_rfl
noncomputable def z133 (k : Nat) : (Int × Int × Unit) → Option QT27 := fun x => match x with
 | (a, b_, ()) =>
  (br k (a == 0)
  (some (true, ()))
  (some (b_ == 0, ())) : Option (Bool × Unit)).bind fun j1 =>
  br k (j1.1)
  (some ((0, 0, ()), ((), (), ())))
  (bd k (z100 k (a, ())) fun y2 =>
  bd k (z100 k (b_, ())) fun y3 =>
  br k (!((decide (a < 0)) == (decide (b_ < 0))))
  ((br k (!decide (y3.1.1 = 0))
  (br k (decide (y2.1.1 > (IntKind.wrap .u64 ((9223372036854775808 : Int).tdiv y3.1.1))))
  (some (!((decide (a < 0)) == (decide (b_ < 0))), ()))
  (some (false, ())))
  none : Option (Bool × Unit)).bind fun j4 =>
  br k (j4.1)
  (some ((0, (-1), ()), ((), (), ())))
  (br k (!decide (y3.1.1 = 0))
  (br k (decide (y2.1.1 > (IntKind.wrap .u64 ((9223372036854775808 : Int).tdiv y3.1.1))))
  (some ((0, 1, ()), ((), (), ())))
  (some ((IntKind.wrap .i64 (a * b_), 0, ()), ((), (), ()))))
  none))
  ((br k (!decide (y3.1.1 = 0))
  (br k (decide (y2.1.1 > (IntKind.wrap .u64 ((9223372036854775807 : Int).tdiv y3.1.1))))
  (some (!((decide (a < 0)) == (decide (b_ < 0))), ()))
  (some (false, ())))
  none : Option (Bool × Unit)).bind fun j5 =>
  br k (j5.1)
  (some ((0, (-1), ()), ((), (), ())))
  (br k (!decide (y3.1.1 = 0))
  (br k (decide (y2.1.1 > (IntKind.wrap .u64 ((9223372036854775807 : Int).tdiv y3.1.1))))
  (some ((0, 1, ()), ((), (), ())))
  (some ((IntKind.wrap .i64 (a * b_), 0, ()), ((), (), ()))))
  none)))
noncomputable def z133.sg (k : Nat) : Sig := ⟨QS15, QS15, z133 k, []⟩
theorem z133.ok {L : List (Nat × Obj)} (k : Nat) : SigHolds Tryz.prog L 150 (z133.sg k) :=
  soe (C := ⟨Tryz.prog, [(196, [z100.sg k])], k, [], []⟩) (hc1 (z100.ok k) holds_nil) Tryz.func150 { joins := [(1, [(15, .bool)]), (9, [(26, .bool)])] } fun _ => by kernel_rfl
noncomputable def z101 (k : Nat) : (Int × Int × Unit) → Option QT27 := fun x => match x with
 | (a, b_, ()) =>
  br k (b_ == 0)
  (some ((0, 0, ()), ((), (), ())))
  (br k (b_ == (-1))
  (bd k (z87 k (0, a, ())) fun y1 =>
  some ((y1.1.1, y1.1.2.1, ()), ((), (), ())))
  (br k (!decide (b_ = 0))
  (some ((IntKind.wrap .i64 (a.tdiv b_), 0, ()), ((), (), ())))
  none))
noncomputable def z101.sg (k : Nat) : Sig := ⟨QS15, QS15, z101 k, []⟩
theorem z101.ok {L : List (Nat × Obj)} (k : Nat) : SigHolds Tryz.prog L 151 (z101.sg k) :=
  soe (C := ⟨Tryz.prog, [(149, [z87.sg k])], k, [], []⟩) (hc1 (z87.ok k) holds_nil) Tryz.func151 {} fun _ => by kernel_rfl
noncomputable def z102 (k : Nat) : (Int × Int × Unit) → Option QT14 := fun x => match x with
 | (a, b_, ()) =>
  (br k (b_ == 0)
  (some (true, ()))
  (some (b_ == (-1), ())) : Option (Bool × Unit)).bind fun j1 =>
  br k (j1.1)
  (some ((0, ()), ((), (), ())))
  (br k (!decide (b_ = 0))
  (some ((a.tmod b_, ()), ((), (), ())))
  none)
noncomputable def z102.sg (k : Nat) : Sig := ⟨QS15, QS4, z102 k, []⟩
theorem z102.ok {L : List (Nat × Obj)} (k : Nat) : SigHolds Tryz.prog L 152 (z102.sg k) :=
  soe (C := ⟨Tryz.prog, [], k, [], []⟩) holds_nil Tryz.func152 { joins := [(1, [(10, .bool)])] } fun _ => by kernel_rfl
noncomputable def z103 (k : Nat) : QT46 → Option ((Bool × Unit) × QT31) := fun x => match x with
 | (op, a, b_, ()) =>
  br k (op == 13)
  (some ((decide (a < b_), ()), ((), (), (), ())))
  (br k (op == 14)
  (some ((decide (a ≤ b_), ()), ((), (), (), ())))
  (br k (op == 15)
  (some ((a == b_, ()), ((), (), (), ())))
  (br k (op == 16)
  (some ((a != b_, ()), ((), (), (), ())))
  (br k (op == 17)
  (some ((decide (a > b_), ()), ((), (), (), ())))
  (some ((decide (a ≥ b_), ()), ((), (), (), ())))))))
noncomputable def z103.sg (k : Nat) : Sig := ⟨QS43, QS13, z103 k, []⟩
theorem z103.ok {L : List (Nat × Obj)} (k : Nat) : SigHolds Tryz.prog L 153 (z103.sg k) :=
  soe (C := ⟨Tryz.prog, [], k, [], []⟩) holds_nil Tryz.func153 {} fun _ => by kernel_rfl
noncomputable def z75 (k : Nat) : (Bool × Unit) → Option QT32 := fun x => match x with
 | (is, ()) =>
  br k (is)
  (some ((1, ()), ((), ())))
  (some ((0, ()), ((), ())))
noncomputable def z75.sg (k : Nat) : Sig := ⟨QS13, QS4, z75 k, []⟩
theorem z75.ok {L : List (Nat × Obj)} (k : Nat) : SigHolds Tryz.prog L 106 (z75.sg k) :=
  soe (C := ⟨Tryz.prog, [], k, [], []⟩) holds_nil Tryz.func106 {} fun _ => by kernel_rfl
noncomputable def z104 (k : Nat) : QT46 → Option ((Int × Int × Unit) × QT31) := fun x => match x with
 | (op, a, b_, ()) =>
  br k (op == 8)
  (bd k (z132 k (a, b_, ())) fun y1 =>
  br k (y1.1.2.1 != 0)
  (some ((0, 6, ()), ((), (), (), ())))
  (some ((y1.1.1, 0, ()), ((), (), (), ()))))
  (br k (op == 9)
  (bd k (z87 k (a, b_, ())) fun y2 =>
  br k (y2.1.2.1 != 0)
  (some ((0, 6, ()), ((), (), (), ())))
  (some ((y2.1.1, 0, ()), ((), (), (), ()))))
  (br k (op == 10)
  (bd k (z133 k (a, b_, ())) fun y3 =>
  br k (y3.1.2.1 != 0)
  (some ((0, 6, ()), ((), (), (), ())))
  (some ((y3.1.1, 0, ()), ((), (), (), ()))))
  (br k (op == 11)
  (br k (op == 11)
  (br k (b_ == 0)
  (some ((0, 4, ()), ((), (), (), ())))
  (bd k (z101 k (a, b_, ())) fun y4 =>
  br k (op == 12)
  (bd k (z102 k (a, b_, ())) fun y5 =>
  some ((y5.1.1, 0, ()), ((), (), (), ())))
  (br k (y4.1.2.1 != 0)
  (some ((0, 6, ()), ((), (), (), ())))
  (some ((y4.1.1, 0, ()), ((), (), (), ()))))))
  (br k (op == 20)
  (br k ((0 : Int) != 0)
  (some ((0, 6, ()), ((), (), (), ())))
  (some ((IntKind.wrap .i64 (a * b_), 0, ()), ((), (), (), ()))))
  (br k (op == 21)
  (br k ((0 : Int) != 0)
  (some ((0, 6, ()), ((), (), (), ())))
  (some ((if b_ > a then b_ else a, 0, ()), ((), (), (), ()))))
  (bd k (z103 k (op, a, b_, ())) fun y6 =>
  bd k (z75 k (y6.1.1, ())) fun y7 =>
  br k ((0 : Int) != 0)
  (some ((0, 6, ()), ((), (), (), ())))
  (some ((y7.1.1, 0, ()), ((), (), (), ())))))))
  (br k (op == 12)
  (br k (b_ == 0)
  (some ((0, 4, ()), ((), (), (), ())))
  (bd k (z101 k (a, b_, ())) fun y8 =>
  br k (op == 12)
  (bd k (z102 k (a, b_, ())) fun y9 =>
  some ((y9.1.1, 0, ()), ((), (), (), ())))
  (br k (y8.1.2.1 != 0)
  (some ((0, 6, ()), ((), (), (), ())))
  (some ((y8.1.1, 0, ()), ((), (), (), ()))))))
  (br k (op == 20)
  (br k ((0 : Int) != 0)
  (some ((0, 6, ()), ((), (), (), ())))
  (some ((IntKind.wrap .i64 (a * b_), 0, ()), ((), (), (), ()))))
  (br k (op == 21)
  (br k ((0 : Int) != 0)
  (some ((0, 6, ()), ((), (), (), ())))
  (some ((if b_ > a then b_ else a, 0, ()), ((), (), (), ()))))
  (bd k (z103 k (op, a, b_, ())) fun y10 =>
  bd k (z75 k (y10.1.1, ())) fun y11 =>
  br k ((0 : Int) != 0)
  (some ((0, 6, ()), ((), (), (), ())))
  (some ((y11.1.1, 0, ()), ((), (), (), ()))))))))))
noncomputable def z104.sg (k : Nat) : Sig := ⟨QS43, QS15, z104 k, []⟩
theorem z104.ok {L : List (Nat × Obj)} (k : Nat) : SigHolds Tryz.prog L 107 (z104.sg k) :=
  soe (C := ⟨Tryz.prog, [(148, [z132.sg k]), (149, [z87.sg k]), (150, [z133.sg k]), (151, [z101.sg k]), (152, [z102.sg k]), (153, [z103.sg k]), (106, [z75.sg k])], k, [], []⟩) (hc1 (z132.ok k) (hc1 (z87.ok k) (hc1 (z133.ok k) (hc1 (z101.ok k) (hc1 (z102.ok k) (hc1 (z103.ok k) (hc1 (z75.ok k) holds_nil))))))) Tryz.func107 {} fun _ => by kernel_rfl
noncomputable def z11.h25 (k : Nat) (G0 : (QT19 × QT8 × (List Int) × Int × Unit) → Option QT27) : (QT19 × QT8 × (List Int) × Int × (Int × Int × Unit) × Int × Int × Int × Int × Unit) → Option QT27 := fun x => match x with
 | (l_, (s__0, s__1, s__2, ()), pile, i, (t_0, t_1, ()), n, k_, x_, code, ()) =>
  br k (n == 2)
  (br k (decide (0 ≤ k_ ∧ k_ < (pile.length : Int)))
  (bd k (pile[k_.toNat]?) fun x4 =>
  br k (decide (0 ≤ (IntKind.wrap .i64 (k_ + 1)) ∧ (IntKind.wrap .i64 (k_ + 1)) < (pile.length : Int)))
  (bd k (pile[(IntKind.wrap .i64 (k_ + 1)).toNat]?) fun x5 =>
  bd k (z104 k (t_0, x4, x5, ())) fun y6 =>
  br k (y6.1.2.1 != 0)
  (some ((0, y6.1.2.1, ()), ((), (), ())))
  (br k (decide (0 ≤ k_ ∧ k_ ≤ (pile.length : Int)))
  (br k (decide (((subL pile ((0 : Int).toNat) (k_.toNat - (0 : Int).toNat)).length + ([y6.1.1] : List Int).length) * 8 ≤ maxBytes))
  (G0 (l_, (s__0, s__1, s__2, ()), (subL pile ((0 : Int).toNat) (k_.toNat - (0 : Int).toNat)) ++ ([y6.1.1] : List Int), IntKind.wrap .i64 (i + 1), ()))
  none)
  none))
  none)
  none)
  (br k (code != 0)
  (some ((0, code, ()), ((), (), ())))
  (br k (decide (0 ≤ k_ ∧ k_ ≤ (pile.length : Int)))
  (br k (decide (((subL pile ((0 : Int).toNat) (k_.toNat - (0 : Int).toNat)).length + ([x_] : List Int).length) * 8 ≤ maxBytes))
  (G0 (l_, (s__0, s__1, s__2, ()), (subL pile ((0 : Int).toNat) (k_.toNat - (0 : Int).toNat)) ++ ([x_] : List Int), IntKind.wrap .i64 (i + 1), ()))
  none)
  none))
noncomputable def z11.l0 (k : Nat) : E2 ((QT19 × QT8 × (List Int) × Int × Unit) → Option QT27) := fun G0 x => match x with
 | (l_, (s__0, s__1, s__2, ()), pile, i, ()) =>
  br k (decide (i < (l_.length : Int)))
  (br k (decide (0 ≤ i))
  (bd k (l_[i.toNat]?) fun x1 =>
  bd k (z86 k (x1.1, ())) fun y2 =>
  br k (x1.1 == 2)
  (br k (decide (0 ≤ x1.2.1))
  (bd k (s__0[x1.2.1.toNat]?) fun x3 =>
  jn k (z11.h25 k G0) (l_, (s__0, s__1, s__2, ()), pile, i, (x1.1, x1.2.1, ()), y2.1.1, IntKind.wrap .i64 ((pile.length : Int) - y2.1.1), x3, 0, ()))
  none)
  (br k (x1.1 == 3)
  (br k (decide (0 ≤ x1.2.1))
  (bd k (s__1[x1.2.1.toNat]?) fun x7 =>
  bd k (z75 k (x7, ())) fun y8 =>
  jn k (z11.h25 k G0) (l_, (s__0, s__1, s__2, ()), pile, i, (x1.1, x1.2.1, ()), y2.1.1, IntKind.wrap .i64 ((pile.length : Int) - y2.1.1), y8.1.1, 0, ()))
  none)
  (br k (x1.1 == 4)
  (jn k (z11.h25 k G0) (l_, (s__0, s__1, s__2, ()), pile, i, (x1.1, x1.2.1, ()), y2.1.1, IntKind.wrap .i64 ((pile.length : Int) - y2.1.1), 1, 0, ()))
  (br k (x1.1 == 6)
  (br k (decide (0 ≤ (IntKind.wrap .i64 ((pile.length : Int) - y2.1.1)) ∧ (IntKind.wrap .i64 ((pile.length : Int) - y2.1.1)) < (pile.length : Int)))
  (bd k (pile[(IntKind.wrap .i64 ((pile.length : Int) - y2.1.1)).toNat]?) fun x9 =>
  br k (decide (0 ≤ x1.2.1))
  (bd k (s__2[x1.2.1.toNat]?) fun x10 =>
  bd k (z8 k (x9, 0, IntKind.wrap .i64 ((x10.length : Int) - 1), ())) fun y11 =>
  br k (!y11.1.1)
  (some ((0, 5, ()), ((), (), ())))
  (br k (decide (0 ≤ x1.2.1))
  (bd k (s__2[x1.2.1.toNat]?) fun x12 =>
  br k (decide (0 ≤ (IntKind.wrap .i64 ((pile.length : Int) - y2.1.1)) ∧ (IntKind.wrap .i64 ((pile.length : Int) - y2.1.1)) < (pile.length : Int)))
  (bd k (pile[(IntKind.wrap .i64 ((pile.length : Int) - y2.1.1)).toNat]?) fun x13 =>
  br k (decide (0 ≤ x13))
  (bd k (x12[x13.toNat]?) fun x14 =>
  jn k (z11.h25 k G0) (l_, (s__0, s__1, s__2, ()), pile, i, (x1.1, x1.2.1, ()), y2.1.1, IntKind.wrap .i64 ((pile.length : Int) - y2.1.1), x14, 0, ()))
  none)
  none)
  none))
  none)
  none)
  (br k (x1.1 == 7)
  (br k (decide (0 ≤ (IntKind.wrap .i64 ((pile.length : Int) - y2.1.1)) ∧ (IntKind.wrap .i64 ((pile.length : Int) - y2.1.1)) < (pile.length : Int)))
  (bd k (pile[(IntKind.wrap .i64 ((pile.length : Int) - y2.1.1)).toNat]?) fun x15 =>
  bd k (z104 k (9, 0, x15, ())) fun y16 =>
  jn k (z11.h25 k G0) (l_, (s__0, s__1, s__2, ()), pile, i, (x1.1, x1.2.1, ()), y2.1.1, IntKind.wrap .i64 ((pile.length : Int) - y2.1.1), y16.1.1, y16.1.2.1, ()))
  none)
  (br k (x1.1 == 19)
  (br k (decide (0 ≤ (IntKind.wrap .i64 ((pile.length : Int) - y2.1.1)) ∧ (IntKind.wrap .i64 ((pile.length : Int) - y2.1.1)) < (pile.length : Int)))
  (bd k (pile[(IntKind.wrap .i64 ((pile.length : Int) - y2.1.1)).toNat]?) fun x17 =>
  jn k (z11.h25 k G0) (l_, (s__0, s__1, s__2, ()), pile, i, (x1.1, x1.2.1, ()), y2.1.1, IntKind.wrap .i64 ((pile.length : Int) - y2.1.1), IntKind.wrap .i64 (1 - x17), 0, ()))
  none)
  (jn k (z11.h25 k G0) (l_, (s__0, s__1, s__2, ()), pile, i, (x1.1, x1.2.1, ()), y2.1.1, IntKind.wrap .i64 ((pile.length : Int) - y2.1.1), x1.2.1, 0, ()))))))))
  none)
  (br k (decide (0 ≤ (0 : Int) ∧ (0 : Int) < (pile.length : Int)))
  (bd k (pile[(0 : Int).toNat]?) fun x18 =>
  some ((x18, 0, ()), ((), (), ())))
  none)
noncomputable def z11 (k : Nat) : (QT19 × QT8 × Unit) → Option QT27 := fun x => match x with
 | (l_, s_, ()) =>
  iter (z11.l0 k) k (l_, (s_.1, s_.2.1, s_.2.2.1, ()), ([] : List Int), 0, ())
noncomputable def z11.sg (k : Nat) : Sig := ⟨(.cons (.pur (.sl false QK6)) (.cons QS18 .nil)), QS15, z11 k, []⟩
theorem z11.ok {L : List (Nat × Obj)} (k : Nat) : SigHolds Tryz.prog L 55 (z11.sg k) :=
  soe (C := ⟨Tryz.prog, [(105, [z86.sg k]), (107, [z104.sg k]), (106, [z75.sg k]), (75, [z8.sg k])], k, [], []⟩) (hc1 (z86.ok k) (hc1 (z104.ok k) (hc1 (z75.ok k) (hc1 (z8.ok k) holds_nil)))) Tryz.func55 { loops := [(0, [(0, (.pur (.sl false QK6))), (3, QS26), (6, (.own (.int .i64))), (7, (.pur (.int .i64)))])], heads := [(25, [(0, (.pur (.sl false QK6))), (3, QS26), (6, (.own (.int .i64))), (7, (.pur (.int .i64))), (8, (.box QS15)), (9, (.pur (.int .i64))), (10, (.pur (.int .i64))), (11, (.pur (.int .i64))), (12, (.pur (.int .i64)))])] } fun _ => by kernel_rfl
end Go.Pev.F
