/-
  Printed by gen.py: what functions of the program compute, and that they do.
-/
import Derived.Test.YtibhfjdhhdjjcaaGreatDoorK13
set_option linter.unusedSimpArgs false
set_option linter.unusedVariables false
open Go.Proofs Go.Pev
namespace Go.Pev.F
set_option maxRecDepth 100000
variable {L : List (Nat × Obj)}
noncomputable def z38.l0 (k : Nat) : E2 (((List Int) × Int × QT11 × (List QT16) × (List Int) × Int × Int × QT10 × QT7 × Int × Unit) → Option (((List QT16) × Unit) × QT37)) := fun G0 x => match x with
 | (inputs, fuel, (p_0, p_1, p_2, p_3, ()), out_, to_, at_, used, (s__0, s__1, s__2, ()), t, steps, ()) =>
  (br k (decide (at_ < (p_3.length : Int)))
  (some (decide (steps < fuel), ()))
  (some (false, ())) : Option (Bool × Unit)).bind fun j4 =>
  br k (j4.1)
  (bd k (z143 k (at_, t, (s__0, s__1, s__2, ()), ())) fun y5 =>
  br k (decide ((out_.length + ([(y5.1.1.1, y5.1.1.2.1, y5.1.1.2.2.1, y5.1.1.2.2.2.1, y5.1.1.2.2.2.2.1, ())] : List QT16).length) * 104 ≤ maxBytes))
  (br k (decide (0 ≤ at_))
  (bd k (p_3[at_.toNat]?) fun x6 =>
  br k (decide (0 ≤ at_ ∧ at_ < (to_.length : Int)))
  (bd k (to_[at_.toNat]?) fun x7 =>
  bd k (z15 k ((p_0, p_1, p_2, p_3, ()), x7, x6, at_, (s__0, s__1, s__2, ()), inputs, used, ())) fun y8 =>
  br k (y8.1.2.2.2.1 != 0)
  (some ((out_ ++ ([(y5.1.1.1, y5.1.1.2.1, y5.1.1.2.2.1, y5.1.1.2.2.2.1, y5.1.1.2.2.2.2.1, ())] : List QT16), ()), ((), (), (), ())))
  (br k (x6.1 == 13)
  (br k (decide (0 ≤ x6.2.1))
  (bd k (s__0[x6.2.1.toNat]?) fun x9 =>
  (br k (x6.1 == 6)
  (some (true, ()))
  (some (x6.1 == 10, ())) : Option (Bool × Unit)).bind fun j10 =>
  br k (j10.1)
  (bd k (z16 k (x6.2.2.2.1, (s__0, s__1, s__2, ()), ())) fun y11 =>
  bd k (z111 k (x6, at_, t, y11.1.1 == 1, x9, ())) fun y12 =>
  G0 (inputs, fuel, (p_0, p_1, p_2, p_3, ()), out_ ++ ([(y5.1.1.1, y5.1.1.2.1, y5.1.1.2.2.1, y5.1.1.2.2.2.1, y5.1.1.2.2.2.2.1, ())] : List QT16), to_, y8.1.1, y8.1.2.2.1, (y8.1.2.1.1, y8.1.2.1.2.1, y8.1.2.1.2.2.1, ()), y12.1.1, IntKind.wrap .i64 (steps + 1), ()))
  (bd k (z111 k (x6, at_, t, y8.1.1 == (IntKind.wrap .i64 (at_ + 1)), x9, ())) fun y13 =>
  G0 (inputs, fuel, (p_0, p_1, p_2, p_3, ()), out_ ++ ([(y5.1.1.1, y5.1.1.2.1, y5.1.1.2.2.1, y5.1.1.2.2.2.1, y5.1.1.2.2.2.2.1, ())] : List QT16), to_, y8.1.1, y8.1.2.2.1, (y8.1.2.1.1, y8.1.2.1.2.1, y8.1.2.1.2.2.1, ()), y13.1.1, IntKind.wrap .i64 (steps + 1), ())))
  none)
  ((br k (x6.1 == 6)
  (some (true, ()))
  (some (x6.1 == 10, ())) : Option (Bool × Unit)).bind fun j14 =>
  br k (j14.1)
  (bd k (z16 k (x6.2.2.2.1, (s__0, s__1, s__2, ()), ())) fun y15 =>
  bd k (z111 k (x6, at_, t, y15.1.1 == 1, 0, ())) fun y16 =>
  G0 (inputs, fuel, (p_0, p_1, p_2, p_3, ()), out_ ++ ([(y5.1.1.1, y5.1.1.2.1, y5.1.1.2.2.1, y5.1.1.2.2.2.1, y5.1.1.2.2.2.2.1, ())] : List QT16), to_, y8.1.1, y8.1.2.2.1, (y8.1.2.1.1, y8.1.2.1.2.1, y8.1.2.1.2.2.1, ()), y16.1.1, IntKind.wrap .i64 (steps + 1), ()))
  (bd k (z111 k (x6, at_, t, y8.1.1 == (IntKind.wrap .i64 (at_ + 1)), 0, ())) fun y17 =>
  G0 (inputs, fuel, (p_0, p_1, p_2, p_3, ()), out_ ++ ([(y5.1.1.1, y5.1.1.2.1, y5.1.1.2.2.1, y5.1.1.2.2.2.1, y5.1.1.2.2.2.2.1, ())] : List QT16), to_, y8.1.1, y8.1.2.2.1, (y8.1.2.1.1, y8.1.2.1.2.1, y8.1.2.1.2.2.1, ()), y17.1.1, IntKind.wrap .i64 (steps + 1), ())))))
  none)
  none)
  none)
  (bd k (z143 k (at_, t, (s__0, s__1, s__2, ()), ())) fun y18 =>
  br k (decide ((out_.length + ([(y18.1.1.1, y18.1.1.2.1, y18.1.1.2.2.1, y18.1.1.2.2.2.1, y18.1.1.2.2.2.2.1, ())] : List QT16).length) * 104 ≤ maxBytes))
  (some ((out_ ++ ([(y18.1.1.1, y18.1.1.2.1, y18.1.1.2.2.1, y18.1.1.2.2.2.1, y18.1.1.2.2.2.2.1, ())] : List QT16), ()), ((), (), (), ())))
  none)
noncomputable def z38 (k : Nat) : QT51 → Option (((List QT16) × Unit) × QT37) := fun x => match x with
 | (p, inputs, fuel, ()) =>
  bd k (z98 k (p, inputs, fuel, ())) fun y1 =>
  br k (!y1.1.1)
  (some ((([] : List QT16), ()), ((), (), (), ())))
  (bd k (z99 k (p, ())) fun y2 =>
  bd k (z41 k ((p.1, p.2.1, p.2.2.1, ()), ())) fun y3 =>
  iter (z38.l0 k) k (inputs, fuel, (p.1, p.2.1, p.2.2.1, p.2.2.2.1, ()), ([] : List QT16), y2.1.1, 0, 0, (y3.1.1.1, y3.1.1.2.1, y3.1.1.2.2.1, ()), ([] : List (Int × Int × Unit)), 0, ()))
noncomputable def z38.sg (k : Nat) : Sig := ⟨QS64, (.cons (.own QK50) .nil), z38 k, []⟩
theorem z38.ok (k : Nat) : SigHolds Tryz.prog L 22 (z38.sg k) :=
  soe (C := ⟨Tryz.prog, [(32, [z98.sg k]), (33, [z99.sg k]), (34, [z41.sg k]), (54, [z143.sg k]), (35, [z15.sg k]), (55, [z16.sg k]), (56, [z111.sg k])], k, [], []⟩) (hc1 (z98.ok k) (hc1 (z99.ok k) (hc1 (z41.ok k) (hc1 (z143.ok k) (hc1 (z15.ok k) (hc1 (z16.ok k) (hc1 (z111.ok k) holds_nil))))))) Tryz.func22 { loops := [(0, [(1, QS29), (2, (.pur (.int .i64))), (3, QS49), (7, (.own QK50)), (8, (.own (.int .i64))), (9, (.pur (.int .i64))), (10, (.pur (.int .i64))), (11, QS20), (12, (.pur (.sl false QK0))), (13, (.pur (.int .i64)))])], joins := [(10, [(45, .bool)]), (21, [(99, .bool)])], keys := [(14, [([3], false), ([], false), ([], false), ([8], false), ([8], false), ([14], false), ([], false), ([11], false), ([], false), ([], false), ([11, 71], true), ([], false), ([], false), ([], false), ([], false), ([], false), ([16], true), ([], false), ([16], true), ([], false), ([], false)])] } fun _ => by kernel_rfl
noncomputable def z77.l0 (k : Nat) : E2 ((QT7 × QT7 × Int × Unit) → Option QT21) := fun G0 x => match x with
 | (a, b_, i, ()) =>
  br k (decide (i < (a.length : Int)))
  (br k (decide (0 ≤ i))
  (bd k (a[i.toNat]?) fun x1 =>
  br k (decide (0 ≤ i))
  (bd k (b_[i.toNat]?) fun x2 =>
  br k (!((x1.1 == x2.1) && ((x1.2.1 == x2.2.1) && true)))
  (some ((false, ()), ((), (), ())))
  (G0 (a, b_, IntKind.wrap .i64 (i + 1), ())))
  none)
  none)
  (some ((true, ()), ((), (), ())))
noncomputable def z77 (k : Nat) : (QT7 × QT7 × Unit) → Option QT21 := fun x => match x with
 | (a, b_, ()) =>
  br k ((a.length : Int) != (b_.length : Int))
  (some ((false, ()), ((), (), ())))
  (iter (z77.l0 k) k (a, b_, 0, ()))
noncomputable def z77.sg (k : Nat) : Sig := ⟨(.cons (.pur (.sl false QK0)) QS41), QS19, z77 k, []⟩
theorem z77.ok (k : Nat) : SigHolds Tryz.prog L 53 (z77.sg k) :=
  soe (C := ⟨Tryz.prog, [], k, [], []⟩) holds_nil Tryz.func53 { loops := [(0, [(0, (.pur (.sl false QK0))), (1, (.pur (.sl false QK0))), (5, (.pur (.int .i64)))])] } fun _ => by kernel_rfl
noncomputable def z94.l0 (k : Nat) : E2 (((List Int) × (List Int) × Int × Unit) → Option QT21) := fun G0 x => match x with
 | (a, b_, i, ()) =>
  br k (decide (i < (a.length : Int)))
  (br k (decide (0 ≤ i))
  (bd k (a[i.toNat]?) fun x1 =>
  br k (decide (0 ≤ i))
  (bd k (b_[i.toNat]?) fun x2 =>
  br k (x1 != x2)
  (some ((false, ()), ((), (), ())))
  (G0 (a, b_, IntKind.wrap .i64 (i + 1), ())))
  none)
  none)
  (some ((true, ()), ((), (), ())))
noncomputable def z94 (k : Nat) : ((List Int) × (List Int) × Unit) → Option QT21 := fun x => match x with
 | (a, b_, ()) =>
  br k ((a.length : Int) != (b_.length : Int))
  (some ((false, ()), ((), (), ())))
  (iter (z94.l0 k) k (a, b_, 0, ()))
noncomputable def z94.sg (k : Nat) : Sig := ⟨(.cons QS29 (.cons QS29 .nil)), QS19, z94 k, []⟩
theorem z94.ok (k : Nat) : SigHolds Tryz.prog L 57 (z94.sg k) :=
  soe (C := ⟨Tryz.prog, [], k, [], []⟩) holds_nil Tryz.func57 { loops := [(0, [(0, QS29), (1, QS29), (5, (.pur (.int .i64)))])] } fun _ => by kernel_rfl
noncomputable def z24.l2 (k : Nat) : E2 ((QT10 × QT10 × Int × Unit) → Option QT21) := fun G2 x => match x with
 | ((a_0, a_1, a_2, ()), (b__0, b__1, b__2, ()), i, ()) =>
  br k (decide (i < (a_2.length : Int)))
  (br k (decide (0 ≤ i))
  (bd k (a_2[i.toNat]?) fun x5 =>
  br k (decide (0 ≤ i))
  (bd k (b__2[i.toNat]?) fun x6 =>
  bd k (z94 k (x5, x6, ())) fun y7 =>
  br k (!y7.1.1)
  (some ((false, ()), ((), (), ())))
  (G2 ((a_0, a_1, a_2, ()), (b__0, b__1, b__2, ()), IntKind.wrap .i64 (i + 1), ())))
  none)
  none)
  (some ((true, ()), ((), (), ())))
noncomputable def z24.l0 (k : Nat) : E2 ((QT10 × QT10 × Int × Unit) → Option QT21) := fun G0 x => match x with
 | ((a_0, a_1, a_2, ()), (b__0, b__1, b__2, ()), i, ()) =>
  br k (decide (i < (a_1.length : Int)))
  (br k (decide (0 ≤ i))
  (bd k (a_1[i.toNat]?) fun x3 =>
  br k (decide (0 ≤ i))
  (bd k (b__1[i.toNat]?) fun x4 =>
  br k (!(x3 == x4))
  (some ((false, ()), ((), (), ())))
  (G0 ((a_0, a_1, a_2, ()), (b__0, b__1, b__2, ()), IntKind.wrap .i64 (i + 1), ())))
  none)
  none)
  (iter (z24.l2 k) k ((a_0, a_1, a_2, ()), (b__0, b__1, b__2, ()), 0, ()))
noncomputable def z24 (k : Nat) : (QT10 × QT10 × Unit) → Option QT21 := fun x => match x with
 | (a, b_, ()) =>
  (bd k (z94 k (a.1, b_.1, ())) fun y1 =>
  br k (!y1.1.1)
  (some (true, ()))
  (br k ((a.2.1.length : Int) != (b_.2.1.length : Int))
  (some (true, ()))
  (some ((a.2.2.1.length : Int) != (b_.2.2.1.length : Int), ()))) : Option (Bool × Unit)).bind fun j2 =>
  br k (j2.1)
  (some ((false, ()), ((), (), ())))
  (iter (z24.l0 k) k ((a.1, a.2.1, a.2.2.1, ()), (b_.1, b_.2.1, b_.2.2.1, ()), 0, ()))
noncomputable def z24.sg (k : Nat) : Sig := ⟨(.cons (.pur QK12) QS58), QS19, z24 k, []⟩
theorem z24.ok (k : Nat) : SigHolds Tryz.prog L 24 (z24.sg k) :=
  soe (C := ⟨Tryz.prog, [(57, [z94.sg k])], k, [], []⟩) (hc1 (z94.ok k) holds_nil) Tryz.func24 { loops := [(0, [(2, QS20), (3, QS20), (5, (.pur (.int .i64)))]), (2, [(2, QS20), (3, QS20), (6, (.pur (.int .i64)))])], joins := [(1, [(30, .bool)])] } fun _ => by kernel_rfl
noncomputable def z50.l0 (k : Nat) : E2 (((List QT16) × (List QT16) × Int × Unit) → Option QT21) := fun G0 x => match x with
 | (a, b_, i, ()) =>
  br k (decide (i < (a.length : Int)))
  ((br k (decide (0 ≤ i))
  (bd k (a[i.toNat]?) fun x1 =>
  br k (decide (0 ≤ i))
  (bd k (b_[i.toNat]?) fun x2 =>
  br k (x1.1 != x2.1)
  (some (true, ()))
  (br k (decide (0 ≤ i))
  (bd k (a[i.toNat]?) fun x3 =>
  br k (decide (0 ≤ i))
  (bd k (b_[i.toNat]?) fun x4 =>
  bd k (z77 k (x3.2.1, x4.2.1, ())) fun y5 =>
  br k (!y5.1.1)
  (some (true, ()))
  (br k (decide (0 ≤ i))
  (bd k (a[i.toNat]?) fun x6 =>
  br k (decide (0 ≤ i))
  (bd k (b_[i.toNat]?) fun x7 =>
  bd k (z24 k ((x6.2.2.1, x6.2.2.2.1, x6.2.2.2.2.1, ()), (x7.2.2.1, x7.2.2.2.1, x7.2.2.2.2.1, ()), ())) fun y8 =>
  some (!y8.1.1, ()))
  none)
  none))
  none)
  none))
  none)
  none : Option (Bool × Unit)).bind fun j9 =>
  br k (j9.1)
  (some ((false, ()), ((), (), ())))
  (G0 (a, b_, IntKind.wrap .i64 (i + 1), ())))
  (some ((true, ()), ((), (), ())))
noncomputable def z50 (k : Nat) : ((List QT16) × (List QT16) × Unit) → Option QT21 := fun x => match x with
 | (a, b_, ()) =>
  br k ((a.length : Int) != (b_.length : Int))
  (some ((false, ()), ((), (), ())))
  (iter (z50.l0 k) k (a, b_, 0, ()))
noncomputable def z50.sg (k : Nat) : Sig := ⟨(.cons (.pur (.sl false QK50)) (.cons (.pur (.sl false QK50)) .nil)), QS19, z50 k, []⟩
theorem z50.ok (k : Nat) : SigHolds Tryz.prog L 21 (z50.sg k) :=
  soe (C := ⟨Tryz.prog, [(53, [z77.sg k]), (24, [z24.sg k])], k, [], []⟩) (hc1 (z77.ok k) (hc1 (z24.ok k) holds_nil)) Tryz.func21 { loops := [(0, [(0, (.pur (.sl false QK50))), (1, (.pur (.sl false QK50))), (5, (.pur (.int .i64)))])], joins := [(6, [(55, .bool)])] } fun _ => by kernel_rfl
noncomputable def z112 (k : Nat) : (QT38 × QT38 × Unit) → Option QT21 := fun x => match x with
 | (a, b_, ()) =>
  (br k (a.1 == b_.1)
  (br k (a.2.1 == b_.2.1)
  (br k (a.2.2.2.2.2.1 == b_.2.2.2.2.2.1)
  (br k (a.2.2.2.2.2.2.1 == b_.2.2.2.2.2.2.1)
  (bd k (z24 k ((a.2.2.1, a.2.2.2.1, a.2.2.2.2.1, ()), (b_.2.2.1, b_.2.2.2.1, b_.2.2.2.2.1, ()), ())) fun y1 =>
  some (y1.1.1, ()))
  (some (false, ())))
  (some (false, ())))
  (some (false, ())))
  (some (false, ())) : Option (Bool × Unit)).bind fun j2 =>
  some ((j2.1, ()), ((), (), ()))
noncomputable def z112.sg (k : Nat) : Sig := ⟨(.cons QS43 (.cons QS43 .nil)), QS19, z112 k, []⟩
theorem z112.ok (k : Nat) : SigHolds Tryz.prog L 23 (z112.sg k) :=
  soe (C := ⟨Tryz.prog, [(24, [z24.sg k])], k, [], []⟩) (hc1 (z24.ok k) holds_nil) Tryz.func23 { joins := [(1, [(4, .bool)])] } fun _ => by kernel_rfl
noncomputable def z95 (k : Nat) : (QT2 × Unit) → Option QT36 := fun x => match x with
 | (d_, ()) =>
  br k (decide (0 ≤ (d_.2.1.length : Int)))
  (some ((IntKind.wrap .i64 (1 * 2 ^ (min (d_.2.1.length : Int).toNat 64)), ()), ((), ())))
  none
noncomputable def z95.sg (k : Nat) : Sig := ⟨(.cons QS4 .nil), QS6, z95 k, []⟩
theorem z95.ok (k : Nat) : SigHolds Tryz.prog L 122 (z95.sg k) :=
  soe (C := ⟨Tryz.prog, [], k, [], []⟩) holds_nil Tryz.func122 {} fun _ => by kernel_rfl
noncomputable def z144 (k : Nat) : (QT2 × Unit) → Option ((QT44 × Unit) × (Unit × Unit)) := fun x => match x with
 | (d_, ()) =>
  br k (decide (0 ≤ (d_.1.length : Int) ∧ (d_.1.length : Int) ≤ (d_.1.length : Int) ∧ (d_.1.length : Int) * 16 ≤ maxBytes))
  (br k (decide (0 ≤ (d_.2.2.1.length : Int) ∧ (d_.2.2.1.length : Int) ≤ (d_.2.2.1.length : Int) ∧ (d_.2.2.1.length : Int) * 16 ≤ maxBytes))
  (bd k (z95 k (d_, ())) fun y1 =>
  br k (decide (0 ≤ y1.1.1 ∧ y1.1.1 ≤ y1.1.1 ∧ y1.1.1 * 56 ≤ maxBytes))
  (br k (decide (0 ≤ (0 : Int) ∧ (0 : Int) < ((List.replicate y1.1.1.toNat (Kd.z QK13)).length : Int)))
  (bd k ((List.replicate y1.1.1.toNat (Kd.z QK13))[(0 : Int).toNat]?) fun x2 =>
  some ((([([], (List.replicate y1.1.1.toNat (Kd.z QK13)).set ((0 : Int).toNat) (true, List.replicate (d_.1.length : Int).toNat (Kd.z QK0), List.replicate (d_.2.2.1.length : Int).toNat (Kd.z QK0), ()), ())] : List (QT7 × QT27 × Unit)), ()), ((), ())))
  none)
  none)
  none)
  none
noncomputable def z144.sg (k : Nat) : Sig := ⟨(.cons QS4 .nil), (.cons (.own QK30) .nil), z144 k, []⟩
theorem z144.ok (k : Nat) : SigHolds Tryz.prog L 62 (z144.sg k) :=
  soe (C := ⟨Tryz.prog, [(122, [z95.sg k])], k, [], []⟩) (hc1 (z95.ok k) holds_nil) Tryz.func62 { keys := [(1, [([1], false), ([1], false), ([], false), ([8], true), ([1], false), ([1], false), ([], false), ([12], true), ([8, 12], false), ([3], true), ([3, 8, 12], true)])] } fun _ => by kernel_rfl
noncomputable def z145 (k : Nat) : (QT11 × Unit) → Option ((QT44 × Unit) × (Unit × Unit)) := fun x => match x with
 | (p, ()) =>
  bd k (z89 k (p, ())) fun y1 =>
  br k (!y1.1.1)
  (some (([], ()), ((), ())))
  (bd k (z144 k ((p.1, p.2.1, p.2.2.1, ()), ())) fun y2 =>
  some ((y2.1.1, ()), ((), ())))
noncomputable def z145.sg (k : Nat) : Sig := ⟨(.cons QS24 .nil), (.cons (.own QK30) .nil), z145 k, []⟩
theorem z145.ok (hSp : Lb.NeedSp L) (k : Nat) : SigHolds Tryz.prog L 26 (z145.sg k) :=
  soe (C := ⟨Tryz.prog, [(61, [z89.sg k]), (62, [z144.sg k])], k, [], []⟩) (hc1 (z89.ok hSp k) (hc1 (z144.ok k) holds_nil)) Tryz.func26 {} fun _ => by kernel_rfl
noncomputable def z177 (k : Nat) : (Int × Unit) → Option QT25 := fun x => match x with
 | (x_, ()) =>
  some ((x_ != x_, ()), ((), ()))
noncomputable def z177.sg (k : Nat) : Sig := ⟨QS6, QS19, z177 k, []⟩
theorem z177.ok (k : Nat) : SigHolds Tryz.prog L 208 (z177.sg k) :=
  soe (C := ⟨Tryz.prog, [], k, [], []⟩) holds_nil Tryz.func208 {} fun _ => by kernel_rfl
noncomputable def z178 (k : Nat) : (Int × Int × Unit) → Option QT28 := fun x => match x with
 | (x_, y_, ()) =>
  bd k (z177 k (x_, ())) fun y1 =>
  bd k (z177 k (y_, ())) fun y2 =>
  br k (y1.1.1)
  (br k (y2.1.1)
  (some ((0, ()), ((), (), ())))
  (some (((-1), ()), ((), (), ()))))
  (br k (y2.1.1)
  (some ((1, ()), ((), (), ())))
  (br k (decide (x_ < y_))
  (some (((-1), ()), ((), (), ())))
  (br k (decide (x_ > y_))
  (some ((1, ()), ((), (), ())))
  (some ((0, ()), ((), (), ()))))))
noncomputable def z178.sg (k : Nat) : Sig := ⟨QS22, QS6, z178 k, []⟩
theorem z178.ok (k : Nat) : SigHolds Tryz.prog L 163 (z178.sg k) :=
  soe (C := ⟨Tryz.prog, [(208, [z177.sg k])], k, [], []⟩) (hc1 (z177.ok k) holds_nil) Tryz.func163 {} fun _ => by kernel_rfl
noncomputable def z179 (k : Nat) : (Int × Unit) → Option QT25 := fun x => match x with
 | (x_, ()) =>
  some ((x_ != x_, ()), ((), ()))
noncomputable def z179.sg (k : Nat) : Sig := ⟨QS6, QS19, z179 k, []⟩
theorem z179.ok (k : Nat) : SigHolds Tryz.prog L 209 (z179.sg k) :=
  soe (C := ⟨Tryz.prog, [], k, [], []⟩) holds_nil Tryz.func209 {} fun _ => by kernel_rfl
noncomputable def z146 (k : Nat) : (Int × Int × Unit) → Option QT28 := fun x => match x with
 | (x_, y_, ()) =>
  bd k (z179 k (x_, ())) fun y1 =>
  bd k (z179 k (y_, ())) fun y2 =>
  br k (y1.1.1)
  (br k (y2.1.1)
  (some ((0, ()), ((), (), ())))
  (some (((-1), ()), ((), (), ()))))
  (br k (y2.1.1)
  (some ((1, ()), ((), (), ())))
  (br k (decide (x_ < y_))
  (some (((-1), ()), ((), (), ())))
  (br k (decide (x_ > y_))
  (some ((1, ()), ((), (), ())))
  (some ((0, ()), ((), (), ()))))))
noncomputable def z146.sg (k : Nat) : Sig := ⟨QS22, QS6, z146 k, []⟩
theorem z146.ok (k : Nat) : SigHolds Tryz.prog L 166 (z146.sg k) :=
  soe (C := ⟨Tryz.prog, [(209, [z179.sg k])], k, [], []⟩) (hc1 (z179.ok k) holds_nil) Tryz.func166 {} fun _ => by kernel_rfl
noncomputable def z52.l0 (k : Nat) : E2 ((Int × (List Int) × Int × Int × Unit) → Option QT36) := fun G0 x => match x with
 | (zero, t6, t7, t8, ()) =>
  br k (decide (t8 < t7))
  (br k (decide (0 ≤ t8))
  (bd k (t6[t8.toNat]?) fun x1 =>
  br k (x1 != zero)
  (some ((x1, ()), ((), ())))
  (G0 (zero, t6, t7, IntKind.wrap .i64 (t8 + 1), ())))
  none)
  (some ((zero, ()), ((), ())))
noncomputable def z52 (k : Nat) : ((List Int) × Unit) → Option QT36 := fun x => match x with
 | (vals, ()) =>
  iter (z52.l0 k) k (0, vals, (vals.length : Int), 0, ())
noncomputable def z52.sg (k : Nat) : Sig := ⟨(.cons QS29 .nil), QS6, z52 k, []⟩
theorem z52.ok (k : Nat) : SigHolds Tryz.prog L 162 (z52.sg k) :=
  soe (C := ⟨Tryz.prog, [], k, [], []⟩) holds_nil Tryz.func162 { loops := [(0, [(3, (.pur (.int .i64))), (6, QS29), (7, (.pur (.int .i64))), (8, (.pur (.int .i64)))])] } fun _ => by kernel_rfl
noncomputable def z180 (k : Nat) : ((Int × Int × Unit) × (Int × Int × Unit) × Unit) → Option QT28 := fun x => match x with
 | (x_, y_, ()) =>
  bd k (z146 k (x_.1, y_.1, ())) fun y1 =>
  bd k (z146 k (x_.2.1, y_.2.1, ())) fun y2 =>
  bd k (z52 k (([y1.1.1, y2.1.1] : List Int), ())) fun y3 =>
  some ((y3.1.1, ()), ((), (), ()))
noncomputable def z180.sg (k : Nat) : Sig := ⟨(.cons (.pur QK0) (.cons (.pur QK0) .nil)), QS6, z180 k, []⟩
theorem z180.ok (k : Nat) : SigHolds Tryz.prog L 165 (z180.sg k) :=
  soe (C := ⟨Tryz.prog, [(166, [z146.sg k]), (162, [z52.sg k])], k, [], []⟩) (hc1 (z146.ok k) (hc1 (z52.ok k) holds_nil)) Tryz.func165 { keys := [(1, [([2], false), ([2], false), ([3], false), ([3], false), ([], false), ([2], false), ([2], false), ([3], false), ([3], false), ([], false), ([15], true), ([15], false), ([], false)])] } fun _ => by kernel_rfl
noncomputable def z96.l0 (k : Nat) : E2 ((QT7 × QT7 × (Unit) × QT7 × Int × Int × Unit) → Option ((Int × Unit) × (Unit × Unit × (Unit) × Unit))) := fun G0 x => match x with
 | (s1, s2, (()), t11, t12, t13, ()) =>
  br k (decide (t13 < t12))
  (br k (decide (0 ≤ t13))
  (bd k (t11[t13.toNat]?) fun x1 =>
  br k (decide (t13 ≥ (s2.length : Int)))
  (some ((1, ()), ((), (), (()), ())))
  (br k (decide (0 ≤ t13))
  (bd k (s2[t13.toNat]?) fun x2 =>
  bd k (z180 k (x1, x2, ())) fun y3 =>
  br k (y3.1.1 != 0)
  (some ((y3.1.1, ()), ((), (), (()), ())))
  (G0 (s1, s2, (()), t11, t12, IntKind.wrap .i64 (t13 + 1), ())))
  none))
  none)
  (br k (decide ((s1.length : Int) < (s2.length : Int)))
  (some (((-1), ()), ((), (), (()), ())))
  (some ((0, ()), ((), (), (()), ()))))
noncomputable def z96 (k : Nat) : (QT7 × QT7 × (Unit) × Unit) → Option ((Int × Unit) × (Unit × Unit × (Unit) × Unit)) := fun x => match x with
 | (s1, s2, (()), ()) =>
  iter (z96.l0 k) k (s1, s2, (()), s1, (s1.length : Int), 0, ())
noncomputable def z96.sg (k : Nat) : Sig := ⟨(.cons (.pur (.sl false QK0)) (.cons (.pur (.sl false QK0)) (.cons (.fn (.func 165) 0 .nil) .nil))), QS6, z96 k, []⟩
theorem z96.ok (k : Nat) : SigHolds Tryz.prog L 164 (z96.sg k) :=
  soe (C := ⟨Tryz.prog, [(165, [z180.sg k])], k, [], []⟩) (hc1 (z180.ok k) holds_nil) Tryz.func164 { loops := [(0, [(0, (.pur (.sl false QK0))), (1, (.pur (.sl false QK0))), (2, (.fn (.func 165) 0 .nil)), (11, (.pur (.sl false QK0))), (12, (.pur (.int .i64))), (13, (.pur (.int .i64)))])] } fun _ => by kernel_rfl
noncomputable def z113 (k : Nat) : (QT7 × QT7 × Unit) → Option QT28 := fun x => match x with
 | (a, b_, ()) =>
  bd k (z178 k ((a.length : Int), (b_.length : Int), ())) fun y1 =>
  bd k (z96 k (a, b_, (()), ())) fun y2 =>
  bd k (z52 k (([y1.1.1, y2.1.1] : List Int), ())) fun y3 =>
  some ((y3.1.1, ()), ((), (), ()))
noncomputable def z113.sg (k : Nat) : Sig := ⟨(.cons (.pur (.sl false QK0)) QS41), QS6, z113 k, []⟩
theorem z113.ok (k : Nat) : SigHolds Tryz.prog L 114 (z113.sg k) :=
  soe (C := ⟨Tryz.prog, [(163, [z178.sg k]), (164, [z96.sg k]), (162, [z52.sg k])], k, [], []⟩) (hc1 (z178.ok k) (hc1 (z96.ok k) (hc1 (z52.ok k) holds_nil))) Tryz.func114 {} fun _ => by kernel_rfl
noncomputable def z205 (k : Nat) : (QT27 × Unit) → Option QT36 := fun x => match x with
 | (list, ()) =>
  some (((list.length : Int), ()), ((), ()))
noncomputable def z205.sg (k : Nat) : Sig := ⟨(.cons (.pur (.sl false QK13)) .nil), QS6, z205 k, []⟩
theorem z205.ok (k : Nat) : SigHolds Tryz.prog L 210 (z205.sg k) :=
  soe (C := ⟨Tryz.prog, [], k, [], []⟩) holds_nil Tryz.func210 {} fun _ => by kernel_rfl
noncomputable def z206 (k : Nat) : QT48 → Option QT25 := fun x => match x with
 | (a, ()) =>
  some ((decide (a.1 ≤ a.2.1), ()), ((), ()))
noncomputable def z206.sg (k : Nat) : Sig := ⟨(.cons (.pur QK0) .nil), QS19, z206 k, []⟩
theorem z206.ok (k : Nat) : SigHolds Tryz.prog L 242 (z206.sg k) :=
  soe (C := ⟨Tryz.prog, [], k, [], []⟩) holds_nil Tryz.func242 {} fun _ => by kernel_rfl
noncomputable def z207 (k : Nat) : ((Int × Int × Unit) × ((Unit) × Unit) × Unit) → Option QT72 := fun x => match x with
 | (x_, ((()), ()), ()) =>
  bd k (z206 k (x_, ())) fun y1 =>
  some ((!y1.1.1, ()), ((), ((()), ()), ()))
noncomputable def z207.sg (k : Nat) : Sig := ⟨(.cons (.pur QK0) (.cons (.box (.cons (.fn (.func 242) 0 .nil) .nil)) .nil)), QS19, z207 k, []⟩
theorem z207.ok (k : Nat) : SigHolds Tryz.prog L 255 (z207.sg k) :=
  soe (C := ⟨Tryz.prog, [(242, [z206.sg k])], k, [], []⟩) (hc1 (z206.ok k) holds_nil) Tryz.func255 {} fun _ => by kernel_rfl
noncomputable def z78.l0 (k : Nat) : E2 ((QT7 × QT42 × Int × Int × Unit) → Option QT55) := fun G0 x => match x with
 | (s_, (((()), ()), ()), t7, t8, ()) =>
  br k (decide (t8 < t7))
  (br k (decide (0 ≤ t8))
  (bd k (s_[t8.toNat]?) fun x1 =>
  bd k (z207 k (x1, ((()), ()), ())) fun y2 =>
  br k (y2.1.1)
  (some ((t8, ()), ((), (((()), ()), ()), ())))
  (G0 (s_, (((()), ()), ()), t7, IntKind.wrap .i64 (t8 + 1), ())))
  none)
  (some (((-1), ()), ((), (((()), ()), ()), ())))
noncomputable def z78 (k : Nat) : (QT7 × QT42 × Unit) → Option QT55 := fun x => match x with
 | (s_, (((()), ()), ()), ()) =>
  iter (z78.l0 k) k (s_, (((()), ()), ()), (s_.length : Int), 0, ())
noncomputable def z78.sg (k : Nat) : Sig := ⟨(.cons (.pur (.sl false QK0)) (.cons (.fn (.func 255) 0 (.cons (.box (.cons (.fn (.func 242) 0 .nil) .nil)) .nil)) .nil)), QS6, z78 k, []⟩
theorem z78.ok (k : Nat) : SigHolds Tryz.prog L 260 (z78.sg k) :=
  soe (C := ⟨Tryz.prog, [(255, [z207.sg k])], k, [], []⟩) (hc1 (z207.ok k) holds_nil) Tryz.func260 { loops := [(0, [(0, (.pur (.sl false QK0))), (1, (.fn (.func 255) 0 (.cons (.box (.cons (.fn (.func 242) 0 .nil) .nil)) .nil))), (7, (.pur (.int .i64))), (8, (.pur (.int .i64)))])] } fun _ => by kernel_rfl
noncomputable def z208 (k : Nat) : (QT7 × QT42 × Unit) → Option ((Bool × Unit) × (Unit × QT42 × Unit)) := fun x => match x with
 | (s_, (((()), ()), ()), ()) =>
  bd k (z78 k (s_, (((()), ()), ()), ())) fun y1 =>
  some ((decide (y1.1.1 ≥ 0), ()), ((), (((()), ()), ()), ()))
noncomputable def z208.sg (k : Nat) : Sig := ⟨(.cons (.pur (.sl false QK0)) (.cons (.fn (.func 255) 0 (.cons (.box (.cons (.fn (.func 242) 0 .nil) .nil)) .nil)) .nil)), QS19, z208 k, []⟩
theorem z208.ok (k : Nat) : SigHolds Tryz.prog L 254 (z208.sg k) :=
  soe (C := ⟨Tryz.prog, [(260, [z78.sg k])], k, [], []⟩) (hc1 (z78.ok k) holds_nil) Tryz.func254 {} fun _ => by kernel_rfl
noncomputable def z147 (k : Nat) : (QT7 × (Unit) × Unit) → Option QT65 := fun x => match x with
 | (list, (()), ()) =>
  bd k (z208 k (list, (((()), ()), ()), ())) fun y1 =>
  some ((!y1.1.1, ()), ((), (()), ()))
noncomputable def z147.sg (k : Nat) : Sig := ⟨(.cons (.pur (.sl false QK0)) (.cons (.fn (.func 242) 0 .nil) .nil)), QS19, z147 k, []⟩
theorem z147.ok (k : Nat) : SigHolds Tryz.prog L 241 (z147.sg k) :=
  soe (C := ⟨Tryz.prog, [(254, [z208.sg k])], k, [], []⟩) (hc1 (z208.ok k) holds_nil) Tryz.func241 {} fun _ => by kernel_rfl
end Go.Pev.F
