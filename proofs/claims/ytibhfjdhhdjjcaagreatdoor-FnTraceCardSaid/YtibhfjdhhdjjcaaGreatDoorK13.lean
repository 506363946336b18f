/-
  Printed by gen.py: what functions of the program compute, and that they do.
-/
import Derived.Test.YtibhfjdhhdjjcaaGreatDoorK12
set_option linter.unusedSimpArgs false
set_option linter.unusedVariables false
open Go.Proofs Go.Pev
namespace Go.Pev.F
set_option maxRecDepth 100000
variable {L : List (Nat × Obj)}
noncomputable def z109.l1 (k : Nat) : E2 ((QT14 × QT11 × QT11 × Int × Int × Unit) → Option ((QT11 × Unit) × (QT14 × (Unit × Unit × Unit × Unit × Unit) × Unit))) := fun G1 x => match x with
 | ((r_0, r_1, ()), (p_0, p_1, p_2, p_3, ()), (t4_0, t4_1, t4_2, t4_3, ()), at_, i, ()) =>
  (br k (decide (i < 32))
  (br k (!decide ((3 : Int) = 0))
  (some (decide ((p_3.length : Int) < (IntKind.wrap .i64 (29 + (at_.tmod 3)))), ()))
  none)
  (some (false, ())) : Option (Bool × Unit)).bind fun j10 =>
  br k (j10.1)
  (br k (decide ((p_3.length + ([(14, 0, [], [], 0, 0, ())] : List QT1).length) * 80 ≤ maxBytes))
  (G1 ((r_0, r_1, ()), (p_0, p_1, p_2, p_3 ++ ([(14, 0, [], [], 0, 0, ())] : List QT1), ()), (t4_0, t4_1, t4_2, t4_3, ()), at_, IntKind.wrap .i64 (i + 1), ()))
  none)
  (some (((p_0, p_1, p_2, p_3, ()), ()), ((r_0, r_1, ()), ((), (), (), (), ()), ())))
noncomputable def z109 (k : Nat) : (QT14 × QT11 × Unit) → Option ((QT11 × Unit) × (QT14 × (Unit × Unit × Unit × Unit × Unit) × Unit)) := fun x => match x with
 | ((r_0, r_1, ()), (p_0, p_1, p_2, p_3, ()), ()) =>
  bd k (z6 k ((r_0, r_1, ()), (p_3.length : Int), ())) fun y1 =>
  bd k (z6 k ((y1.2.1.1, y1.2.1.2.1, ()), 24, ())) fun y2 =>
  br k (y2.1.1 == 0)
  (bd k (z172 k ((y2.2.1.1, y2.2.1.2.1, ()), (p_0, p_1, p_2, ()), ())) fun y3 =>
  some (((y3.1.1.1, y3.1.1.2.1, y3.1.1.2.2.1, p_3, ()), ()), ((y3.2.1.1, y3.2.1.2.1, ()), ((), (), (), (), ()), ())))
  (br k (y2.1.1 == 1)
  (bd k (z23 k ((y2.2.1.1, y2.2.1.2.1, ()), 1, 14, ())) fun y4 =>
  br k (decide (0 ≤ y1.1.1 ∧ y1.1.1 < (p_3.length : Int)))
  (bd k (p_3[y1.1.1.toNat]?) fun x5 =>
  some (((p_0, p_1, p_2, p_3.set y1.1.1.toNat (y4.1.1, x5.2.1, x5.2.2.1, x5.2.2.2.1, x5.2.2.2.2.1, x5.2.2.2.2.2.1, ()), ()), ()), ((y4.2.1.1, y4.2.1.2.1, ()), ((), (), (), (), ()), ())))
  none)
  (br k (y2.1.1 == 2)
  (br k (decide (0 ≤ y1.1.1 ∧ y1.1.1 ≤ (p_3.length : Int)))
  (br k (decide (0 ≤ (IntKind.wrap .i64 (y1.1.1 + 1)) ∧ (IntKind.wrap .i64 (y1.1.1 + 1)) ≤ (p_3.length : Int)))
  (br k (decide (((0 : Int).toNat) + (y1.1.1.toNat - (0 : Int).toNat) ≤ ((IntKind.wrap .i64 (y1.1.1 + 1)).toNat)))
  (br k (decide (((y1.1.1.toNat - (0 : Int).toNat) + ((p_3.length : Int).toNat - (IntKind.wrap .i64 (y1.1.1 + 1)).toNat)) * 80 ≤ maxBytes))
  (some (((p_0, p_1, p_2, subL p_3 ((0 : Int).toNat) (y1.1.1.toNat - (0 : Int).toNat) ++ subL p_3 ((IntKind.wrap .i64 (y1.1.1 + 1)).toNat) ((p_3.length : Int).toNat - (IntKind.wrap .i64 (y1.1.1 + 1)).toNat), ()), ()), ((y2.2.1.1, y2.2.1.2.1, ()), ((), (), (), (), ()), ())))
  none)
  none)
  none)
  none)
  (br k (y2.1.1 == 3)
  (bd k (z23 k ((y2.2.1.1, y2.2.1.2.1, ()), (-3), 3, ())) fun y6 =>
  br k (decide (0 ≤ y1.1.1 ∧ y1.1.1 < (p_3.length : Int)))
  (bd k (p_3[y1.1.1.toNat]?) fun x7 =>
  some (((p_0, p_1, p_2, p_3.set y1.1.1.toNat (x7.1, x7.2.1, x7.2.2.1, x7.2.2.2.1, x7.2.2.2.2.1, y6.1.1, ()), ()), ()), ((y6.2.1.1, y6.2.1.2.1, ()), ((), (), (), (), ()), ())))
  none)
  (br k (y2.1.1 == 4)
  (bd k (z23 k ((y2.2.1.1, y2.2.1.2.1, ()), 0, 3, ())) fun y8 =>
  br k (decide (0 ≤ y1.1.1 ∧ y1.1.1 < (p_3.length : Int)))
  (bd k (p_3[y1.1.1.toNat]?) fun x9 =>
  some (((p_0, p_1, p_2, p_3.set y1.1.1.toNat (x9.1, y8.1.1, x9.2.2.1, x9.2.2.2.1, x9.2.2.2.2.1, x9.2.2.2.2.2.1, ()), ()), ()), ((y8.2.1.1, y8.2.1.2.1, ()), ((), (), (), (), ()), ())))
  none)
  (br k (y2.1.1 == 5)
  (iter (z109.l1 k) k ((y2.2.1.1, y2.2.1.2.1, ()), (p_0, p_1, p_2, p_3, ()), ([], [], [], ([] : List QT1), ()), y1.1.1, 0, ()))
  (br k (y2.1.1 == 6)
  (br k (decide (0 ≤ y1.1.1 ∧ y1.1.1 < (p_3.length : Int)))
  (bd k (p_3[y1.1.1.toNat]?) fun x11 =>
  br k (decide ((x11.2.2.2.1.length : Int) > 0))
  (br k (decide (0 ≤ y1.1.1 ∧ y1.1.1 < (p_3.length : Int)))
  (bd k ((p_3.set y1.1.1.toNat (x11.1, x11.2.1, x11.2.2.1, x11.2.2.2.1, x11.2.2.2.2.1, x11.2.2.2.2.2.1, ()))[y1.1.1.toNat]?) fun x12 =>
  bd k (z108 k ((y2.2.1.1, y2.2.1.2.1, ()), x12.2.2.2.1, ())) fun y13 =>
  br k (decide (0 ≤ y1.1.1 ∧ y1.1.1 < ((p_3.set y1.1.1.toNat (x11.1, x11.2.1, x11.2.2.1, x11.2.2.2.1, x11.2.2.2.2.1, x11.2.2.2.2.2.1, ())).length : Int)))
  (br k (decide (y1.1.1.toNat = y1.1.1.toNat))
  (some (((p_0, p_1, p_2, (p_3.set y1.1.1.toNat (x11.1, x11.2.1, x11.2.2.1, x11.2.2.2.1, x11.2.2.2.2.1, x11.2.2.2.2.2.1, ())).set y1.1.1.toNat (x12.1, x12.2.1, x12.2.2.1, y13.1.1, x12.2.2.2.2.1, x12.2.2.2.2.2.1, ()), ()), ()), ((y13.2.1.1, y13.2.1.2.1, ()), ((), (), (), (), ()), ())))
  none)
  none)
  none)
  (some (((p_0, p_1, p_2, p_3.set y1.1.1.toNat (x11.1, x11.2.1, x11.2.2.1, x11.2.2.2.1, x11.2.2.2.2.1, x11.2.2.2.2.2.1, ()), ()), ()), ((y2.2.1.1, y2.2.1.2.1, ()), ((), (), (), (), ()), ()))))
  none)
  (some (((p_0, p_1, p_2, p_3, ()), ()), ((y2.2.1.1, y2.2.1.2.1, ()), ((), (), (), (), ()), ())))))))))
noncomputable def z109.sg (k : Nat) : Sig := ⟨(.cons QS23 (.cons (.agg QS33) .nil)), (.cons (.agg QS33) .nil), z109 k, []⟩
theorem z109.ok (k : Nat) : SigHolds Tryz.prog L 99 (z109.sg k) :=
  soe (C := ⟨Tryz.prog, [(100, [z6.sg k]), (143, [z172.sg k]), (101, [z23.sg k]), (144, [z108.sg k])], k, [(79, QS8)], []⟩) (hc1 (z6.ok k) (hc1 (z172.ok k) (hc1 (z23.ok k) (hc1 (z108.ok k) holds_nil)))) Tryz.func99 { loops := [(1, [(0, QS23), (3, (.box QS33)), (4, (.box (.cons (.own .str) (.cons (.own .str) (.cons (.own QK73) (.cons (.rows QS8) .nil)))))), (5, (.pur (.int .i64))), (6, (.pur (.int .i64)))])], joins := [(15, [(73, .bool)])], keys := [(6, [([3], false), ([3], false), ([], false), ([], false), ([0, 27], true), ([1], false), ([1], false), ([1], true)]), (8, [([3], false), ([3], false), ([], false), ([1], false), ([3], false), ([3], false), ([], false), ([], false), ([1], false), ([1, 41], true), ([3], false), ([1, 3, 41], true)]), (10, [([3], false), ([3], false), ([], false), ([], false), ([0, 49], true), ([1], false), ([1], false), ([1], true)]), (12, [([3], false), ([3], false), ([], false), ([], false), ([0, 58], true), ([1], false), ([1], false), ([1], true)]), (20, [([3], false), ([3], false), ([], false), ([], false), ([3], false), ([3], false), ([], false), ([1, 89], false), ([1, 89], false), ([1, 89, 101], true), ([0, 101, 102], true), ([1, 101], false), ([1, 101], false), ([1, 101, 102], true)])] } fun _ => by kernel_rfl
noncomputable def z173 (k : Nat) : (QT14 × Unit) → Option ((Int × Unit) × (QT14 × Unit)) := fun x => match x with
 | ((r_0, r_1, ()), ()) =>
  bd k (z6 k ((r_0, r_1, ()), 6, ())) fun y1 =>
  br k (y1.1.1 == 0)
  (bd k (z6 k ((y1.2.1.1, y1.2.1.2.1, ()), 10, ())) fun y2 =>
  br k (decide (0 ≤ y2.1.1 ∧ y2.1.1 < (([(-9223372036854775808), (-9223372036854775807), 9223372036854775807, 9223372036854775806, (-1), 0, 1, 4294967296, (-4294967296), 3037000500] : List Int).length : Int)))
  (bd k (([(-9223372036854775808), (-9223372036854775807), 9223372036854775807, 9223372036854775806, (-1), 0, 1, 4294967296, (-4294967296), 3037000500] : List Int)[y2.1.1.toNat]?) fun x3 =>
  some ((x3, ()), ((y2.2.1.1, y2.2.1.2.1, ()), ())))
  none)
  (br k (y1.1.1 == 1)
  (bd k (z45 k ((y1.2.1.1, y1.2.1.2.1, ()), ())) fun y4 =>
  some ((IntKind.wrap .i64 y4.1.1, ()), ((y4.2.1.1, y4.2.1.2.1, ()), ())))
  (br k (y1.1.1 == 2)
  (bd k (z45 k ((y1.2.1.1, y1.2.1.2.1, ()), ())) fun y5 =>
  bd k (z6 k ((y5.2.1.1, y5.2.1.2.1, ()), 60, ())) fun y6 =>
  br k (decide (0 ≤ (IntKind.wrap .u64 y6.1.1)))
  (some (((IntKind.wrap .i64 y5.1.1).fdiv (2 ^ (min (IntKind.wrap .u64 y6.1.1).toNat 64)), ()), ((y6.2.1.1, y6.2.1.2.1, ()), ())))
  none)
  (bd k (z6 k ((y1.2.1.1, y1.2.1.2.1, ()), 41, ())) fun y7 =>
  some ((IntKind.wrap .i64 (y7.1.1 - 20), ()), ((y7.2.1.1, y7.2.1.2.1, ()), ())))))
noncomputable def z173.sg (k : Nat) : Sig := ⟨(.cons QS23 .nil), QS6, z173 k, []⟩
theorem z173.ok (k : Nat) : SigHolds Tryz.prog L 147 (z173.sg k) :=
  soe (C := ⟨Tryz.prog, [(100, [z6.sg k]), (195, [z45.sg k])], k, [], []⟩) (hc1 (z6.ok k) (hc1 (z45.ok k) holds_nil)) Tryz.func147 {} fun _ => by kernel_rfl
noncomputable def z28.l0 (k : Nat) : E2 ((QT14 × (List Int) × Int × Unit) → Option (((List Int) × Unit) × (QT14 × Unit))) := fun G0 x => match x with
 | ((r_0, r_1, ()), out_, i, ()) =>
  br k (decide (i > 0))
  (bd k (z173 k ((r_0, r_1, ()), ())) fun y2 =>
  br k (decide ((out_.length + ([y2.1.1] : List Int).length) * 8 ≤ maxBytes))
  (G0 ((y2.2.1.1, y2.2.1.2.1, ()), out_ ++ ([y2.1.1] : List Int), IntKind.wrap .i64 (i - 1), ()))
  none)
  (bd k (z14 k ((r_0, r_1, ()), 40, ())) fun y3 =>
  br k (y3.1.1)
  (bd k (z6 k ((y3.2.1.1, y3.2.1.2.1, ()), 2, ())) fun y4 =>
  br k (decide (0 ≤ (IntKind.wrap .i64 (1000 + y4.1.1)) ∧ (IntKind.wrap .i64 (1000 + y4.1.1)) ≤ (IntKind.wrap .i64 (1000 + y4.1.1)) ∧ (IntKind.wrap .i64 (1000 + y4.1.1)) * 8 ≤ maxBytes))
  (some ((List.replicate (IntKind.wrap .i64 (1000 + y4.1.1)).toNat (Kd.z (.int .i64)), ()), ((y4.2.1.1, y4.2.1.2.1, ()), ())))
  none)
  (some ((out_, ()), ((y3.2.1.1, y3.2.1.2.1, ()), ()))))
noncomputable def z28 (k : Nat) : (QT14 × Unit) → Option (((List Int) × Unit) × (QT14 × Unit)) := fun x => match x with
 | ((r_0, r_1, ()), ()) =>
  bd k (z6 k ((r_0, r_1, ()), 12, ())) fun y1 =>
  iter (z28.l0 k) k ((y1.2.1.1, y1.2.1.2.1, ()), ([] : List Int), y1.1.1, ())
noncomputable def z28.sg (k : Nat) : Sig := ⟨(.cons QS23 .nil), QS71, z28 k, []⟩
theorem z28.ok (k : Nat) : SigHolds Tryz.prog L 102 (z28.sg k) :=
  soe (C := ⟨Tryz.prog, [(100, [z6.sg k]), (147, [z173.sg k]), (98, [z14.sg k])], k, [], []⟩) (hc1 (z6.ok k) (hc1 (z173.ok k) (hc1 (z14.ok k) holds_nil))) Tryz.func102 { loops := [(0, [(0, QS23), (3, (.own (.int .i64))), (4, (.pur (.int .i64)))])] } fun _ => by kernel_rfl
noncomputable def z174 (k : Nat) : ((List Int) × Unit) → Option (QT51 × (Unit × Unit)) := fun x => match x with
 | (code, ()) =>
  bd k (z168 k (code, ())) fun y1 =>
  bd k (z107 k ((y1.1.1.1, y1.1.1.2.1, ()), ())) fun y2 =>
  bd k (z14 k ((y2.2.1.1, y2.2.1.2.1, ()), 12, ())) fun y3 =>
  br k (y3.1.1)
  (bd k (z109 k ((y3.2.1.1, y3.2.1.2.1, ()), (y2.1.1.1, y2.1.1.2.1, y2.1.1.2.2.1, y2.1.1.2.2.2.1, ()), ())) fun y4 =>
  bd k (z6 k ((y4.2.1.1, y4.2.1.2.1, ()), 180, ())) fun y5 =>
  bd k (z14 k ((y5.2.1.1, y5.2.1.2.1, ()), 8, ())) fun y6 =>
  br k (y6.1.1)
  (bd k (z6 k ((y6.2.1.1, y6.2.1.2.1, ()), 20, ())) fun y7 =>
  bd k (z14 k ((y7.2.1.1, y7.2.1.2.1, ()), 30, ())) fun y8 =>
  br k (y8.1.1)
  (bd k (z23 k ((y8.2.1.1, y8.2.1.2.1, ()), 0, 2000, ())) fun y9 =>
  bd k (z28 k ((y9.2.1.1, y9.2.1.2.1, ()), ())) fun y10 =>
  some (((y4.1.1.1, y4.1.1.2.1, y4.1.1.2.2.1, y4.1.1.2.2.2.1, ()), y10.1.1, y9.1.1, ()), ((), ())))
  (bd k (z28 k ((y8.2.1.1, y8.2.1.2.1, ()), ())) fun y11 =>
  some (((y4.1.1.1, y4.1.1.2.1, y4.1.1.2.2.1, y4.1.1.2.2.2.1, ()), y11.1.1, y7.1.1, ()), ((), ()))))
  (bd k (z14 k ((y6.2.1.1, y6.2.1.2.1, ()), 30, ())) fun y12 =>
  br k (y12.1.1)
  (bd k (z23 k ((y12.2.1.1, y12.2.1.2.1, ()), 0, 2000, ())) fun y13 =>
  bd k (z28 k ((y13.2.1.1, y13.2.1.2.1, ()), ())) fun y14 =>
  some (((y4.1.1.1, y4.1.1.2.1, y4.1.1.2.2.1, y4.1.1.2.2.2.1, ()), y14.1.1, y13.1.1, ()), ((), ())))
  (bd k (z28 k ((y12.2.1.1, y12.2.1.2.1, ()), ())) fun y15 =>
  some (((y4.1.1.1, y4.1.1.2.1, y4.1.1.2.2.1, y4.1.1.2.2.2.1, ()), y15.1.1, IntKind.wrap .i64 (20 + y5.1.1), ()), ((), ())))))
  (bd k (z6 k ((y3.2.1.1, y3.2.1.2.1, ()), 180, ())) fun y16 =>
  bd k (z14 k ((y16.2.1.1, y16.2.1.2.1, ()), 8, ())) fun y17 =>
  br k (y17.1.1)
  (bd k (z6 k ((y17.2.1.1, y17.2.1.2.1, ()), 20, ())) fun y18 =>
  bd k (z14 k ((y18.2.1.1, y18.2.1.2.1, ()), 30, ())) fun y19 =>
  br k (y19.1.1)
  (bd k (z23 k ((y19.2.1.1, y19.2.1.2.1, ()), 0, 2000, ())) fun y20 =>
  bd k (z28 k ((y20.2.1.1, y20.2.1.2.1, ()), ())) fun y21 =>
  some (((y2.1.1.1, y2.1.1.2.1, y2.1.1.2.2.1, y2.1.1.2.2.2.1, ()), y21.1.1, y20.1.1, ()), ((), ())))
  (bd k (z28 k ((y19.2.1.1, y19.2.1.2.1, ()), ())) fun y22 =>
  some (((y2.1.1.1, y2.1.1.2.1, y2.1.1.2.2.1, y2.1.1.2.2.2.1, ()), y22.1.1, y18.1.1, ()), ((), ()))))
  (bd k (z14 k ((y17.2.1.1, y17.2.1.2.1, ()), 30, ())) fun y23 =>
  br k (y23.1.1)
  (bd k (z23 k ((y23.2.1.1, y23.2.1.2.1, ()), 0, 2000, ())) fun y24 =>
  bd k (z28 k ((y24.2.1.1, y24.2.1.2.1, ()), ())) fun y25 =>
  some (((y2.1.1.1, y2.1.1.2.1, y2.1.1.2.2.1, y2.1.1.2.2.2.1, ()), y25.1.1, y24.1.1, ()), ((), ())))
  (bd k (z28 k ((y23.2.1.1, y23.2.1.2.1, ()), ())) fun y26 =>
  some (((y2.1.1.1, y2.1.1.2.1, y2.1.1.2.2.1, y2.1.1.2.2.2.1, ()), y26.1.1, IntKind.wrap .i64 (20 + y16.1.1), ()), ((), ())))))
noncomputable def z174.sg (k : Nat) : Sig := ⟨QS59, (.cons (.agg QS33) (.cons (.own (.int .i64)) QS6)), z174 k, []⟩
theorem z174.ok (k : Nat) : SigHolds Tryz.prog L 49 (z174.sg k) :=
  soe (C := ⟨Tryz.prog, [(96, [z168.sg k]), (97, [z107.sg k]), (98, [z14.sg k]), (99, [z109.sg k]), (100, [z6.sg k]), (101, [z23.sg k]), (102, [z28.sg k])], k, [], []⟩) (hc1 (z168.ok k) (hc1 (z107.ok k) (hc1 (z14.ok k) (hc1 (z109.ok k) (hc1 (z6.ok k) (hc1 (z23.ok k) (hc1 (z28.ok k) holds_nil))))))) Tryz.func49 { keys := [(10, [([6], false), ([], false), ([9, 30], true), ([], false), ([2, 11, 16], true), ([], false), ([], false)])] } fun _ => by kernel_rfl
noncomputable def z175 (k : Nat) : ((List Int) × Unit) → Option (QT51 × (Unit × Unit)) := fun x => match x with
 | (code, ()) =>
  bd k (z174 k (code, ())) fun y1 =>
  some (((y1.1.1.1, y1.1.1.2.1, y1.1.1.2.2.1, y1.1.1.2.2.2.1, ()), y1.1.2.1, y1.1.2.2.1, ()), ((), ()))
noncomputable def z175.sg (k : Nat) : Sig := ⟨QS59, (.cons (.agg QS33) (.cons (.own (.int .i64)) QS6)), z175 k, []⟩
theorem z175.ok (k : Nat) : SigHolds Tryz.prog L 19 (z175.sg k) :=
  soe (C := ⟨Tryz.prog, [(49, [z174.sg k])], k, [], []⟩) (hc1 (z174.ok k) holds_nil) Tryz.func19 {} fun _ => by kernel_rfl
noncomputable def z140 (k : Nat) : ((List Int) × Unit) → Option QT70 := fun x => match x with
 | (s_, ()) =>
  br k (s_.isEmpty) (agree
  (some (([], ()), ((), ())))
  (br k (decide ((([] : List Int).length + s_.length) * 8 ≤ maxBytes))
  (some ((([] : List Int) ++ s_, ()), ((), ())))
  none))
  (br k (decide ((([] : List Int).length + s_.length) * 8 ≤ maxBytes))
  (some ((([] : List Int) ++ s_, ()), ((), ())))
  none)
noncomputable def z140.sg (k : Nat) : Sig := ⟨(.cons QS29 .nil), QS71, z140 k, []⟩
theorem z140.ok (k : Nat) : SigHolds Tryz.prog L 103 (z140.sg k) :=
  soe (C := ⟨Tryz.prog, [], k, [], []⟩) holds_nil Tryz.func103 {} fun _ => by kernel_rfl
noncomputable def z176 (k : Nat) : ((List Bool) × Unit) → Option (((List Bool) × Unit) × (Unit × Unit)) := fun x => match x with
 | (s_, ()) =>
  br k (s_.isEmpty) (agree
  (some (([], ()), ((), ())))
  (br k (decide ((([] : List Bool).length + s_.length) * 1 ≤ maxBytes))
  (some ((([] : List Bool) ++ s_, ()), ((), ())))
  none))
  (br k (decide ((([] : List Bool).length + s_.length) * 1 ≤ maxBytes))
  (some ((([] : List Bool) ++ s_, ()), ((), ())))
  none)
noncomputable def z176.sg (k : Nat) : Sig := ⟨(.cons (.pur (.sl false .bool)) .nil), (.cons (.own .bool) .nil), z176 k, []⟩
theorem z176.ok (k : Nat) : SigHolds Tryz.prog L 104 (z176.sg k) :=
  soe (C := ⟨Tryz.prog, [], k, [], []⟩) holds_nil Tryz.func104 {} fun _ => by kernel_rfl
noncomputable def z56.l0 (k : Nat) : E2 ((QT10 × QT10 × (List (List Int)) × Int × Int × Unit) → Option QT53) := fun G0 x => match x with
 | ((t2_0, t2_1, t2_2, ()), (out__0, out__1, out__2, ()), t14, t15, t16, ()) =>
  br k (decide (t16 < t15))
  (br k (decide (0 ≤ t16))
  (bd k (t14[t16.toNat]?) fun x3 =>
  bd k (z140 k (x3, ())) fun y4 =>
  br k (decide ((out__2.length + ([y4.1.1] : List (List Int)).length) * 24 ≤ maxBytes))
  (G0 ((t2_0, t2_1, t2_2, ()), (out__0, out__1, out__2 ++ ([y4.1.1] : List (List Int)), ()), t14, t15, IntKind.wrap .i64 (t16 + 1), ()))
  none)
  none)
  (some (((out__0, out__1, out__2, ()), ()), ((), ())))
noncomputable def z56 (k : Nat) : (QT10 × Unit) → Option QT53 := fun x => match x with
 | (s_, ()) =>
  bd k (z140 k (s_.1, ())) fun y1 =>
  bd k (z176 k (s_.2.1, ())) fun y2 =>
  iter (z56.l0 k) k (([], [], ([] : List (List Int)), ()), (y1.1.1, y2.1.1, ([] : List (List Int)), ()), s_.2.2.1, (s_.2.2.1.length : Int), 0, ())
noncomputable def z56.sg (k : Nat) : Sig := ⟨QS58, (.cons (.agg QS15) .nil), z56 k, []⟩
theorem z56.ok (k : Nat) : SigHolds Tryz.prog L 52 (z56.sg k) :=
  soe (C := ⟨Tryz.prog, [(103, [z140.sg k]), (104, [z176.sg k])], k, [(24, (.own (.int .i64)))], []⟩) (hc1 (z140.ok k) (hc1 (z176.ok k) holds_nil)) Tryz.func52 { loops := [(0, [(2, (.box QS15)), (3, (.box QS15)), (14, (.pur (.sl false (.sl false (.int .i64))))), (15, (.pur (.int .i64))), (16, (.pur (.int .i64)))])], keys := [(1, [([1], false), ([1], false), ([8], false), ([1], false), ([1], false), ([11], false), ([8, 11], false), ([3], true), ([3, 8, 11], true)]), (5, [([3], false), ([3], false), ([], false), ([23], false), ([23, 24], true), ([3, 24, 25], true), ([3], false), ([3, 25], true)])] } fun _ => by kernel_rfl
noncomputable def z60.l0 (k : Nat) : E2 ((Unit × Int × QT63 × Unit) → Option ((Unit) × (Unit × Unit × QT63 × Unit))) := fun G0 x => match x with
 | ((), fuel, ((each_0_0, ()), ((each_1_0_0, each_1_0_1, each_1_0_2, each_1_0_3, each_1_0_4, each_1_0_5, each_1_0_6, each_1_0_7, each_1_0_8, each_1_0_9, each_1_0_10, each_1_0_11, each_1_0_12, each_1_0_13, ()), ()), ()), ()) =>
  bd k (z48 k (each_1_0_3, ())) fun y1 =>
  br k (decide (each_1_0_7 < y1.1.1))
  (bd k (z75 k (each_1_0_13, ())) fun y2 =>
  bd k (z56 k ((each_1_0_8, each_1_0_9, each_1_0_10, ()), ())) fun y4 =>
  br k (decide ((each_0_0.length + ([(each_1_0_7, y2.1.1, y4.1.1.1, y4.1.1.2.1, y4.1.1.2.2.1, ())] : List QT16).length) * 104 ≤ maxBytes))
  (br k (each_1_0_11 == fuel)
  (some ((()), ((), (), ((each_0_0 ++ ([(each_1_0_7, y2.1.1, y4.1.1.1, y4.1.1.2.1, y4.1.1.2.2.1, ())] : List QT16), ()), ((each_1_0_0, each_1_0_1, each_1_0_2, each_1_0_3, each_1_0_4, each_1_0_5, 2, each_1_0_7, each_1_0_8, each_1_0_9, each_1_0_10, each_1_0_11, each_1_0_12, each_1_0_13, ()), ()), ()), ())))
  (bd k (z7 k ((each_1_0_0, each_1_0_1, each_1_0_2, each_1_0_3, each_1_0_4, each_1_0_5, each_1_0_6, each_1_0_7, each_1_0_8, each_1_0_9, each_1_0_10, IntKind.wrap .i64 (each_1_0_11 + 1), each_1_0_12, each_1_0_13, ()), ())) fun y5 =>
  br k (y5.1.1 != 0)
  (some ((()), ((), (), ((each_0_0 ++ ([(each_1_0_7, y2.1.1, y4.1.1.1, y4.1.1.2.1, y4.1.1.2.2.1, ())] : List QT16), ()), ((y5.2.1.1, y5.2.1.2.1, y5.2.1.2.2.1, y5.2.1.2.2.2.1, y5.2.1.2.2.2.2.1, y5.2.1.2.2.2.2.2.1, y5.1.1, y5.2.1.2.2.2.2.2.2.2.1, y5.2.1.2.2.2.2.2.2.2.2.1, y5.2.1.2.2.2.2.2.2.2.2.2.1, y5.2.1.2.2.2.2.2.2.2.2.2.2.1, y5.2.1.2.2.2.2.2.2.2.2.2.2.2.1, y5.2.1.2.2.2.2.2.2.2.2.2.2.2.2.1, y5.2.1.2.2.2.2.2.2.2.2.2.2.2.2.2.1, ()), ()), ()), ())))
  (G0 ((), fuel, ((each_0_0 ++ ([(each_1_0_7, y2.1.1, y4.1.1.1, y4.1.1.2.1, y4.1.1.2.2.1, ())] : List QT16), ()), ((y5.2.1.1, y5.2.1.2.1, y5.2.1.2.2.1, y5.2.1.2.2.2.1, y5.2.1.2.2.2.2.1, y5.2.1.2.2.2.2.2.1, y5.1.1, y5.2.1.2.2.2.2.2.2.2.1, y5.2.1.2.2.2.2.2.2.2.2.1, y5.2.1.2.2.2.2.2.2.2.2.2.1, y5.2.1.2.2.2.2.2.2.2.2.2.2.1, y5.2.1.2.2.2.2.2.2.2.2.2.2.2.1, y5.2.1.2.2.2.2.2.2.2.2.2.2.2.2.1, y5.2.1.2.2.2.2.2.2.2.2.2.2.2.2.2.1, ()), ()), ()), ()))))
  none)
  (bd k (z75 k (each_1_0_13, ())) fun y6 =>
  bd k (z56 k ((each_1_0_8, each_1_0_9, each_1_0_10, ()), ())) fun y8 =>
  br k (decide ((each_0_0.length + ([(each_1_0_7, y6.1.1, y8.1.1.1, y8.1.1.2.1, y8.1.1.2.2.1, ())] : List QT16).length) * 104 ≤ maxBytes))
  (some ((()), ((), (), ((each_0_0 ++ ([(each_1_0_7, y6.1.1, y8.1.1.1, y8.1.1.2.1, y8.1.1.2.2.1, ())] : List QT16), ()), ((each_1_0_0, each_1_0_1, each_1_0_2, each_1_0_3, each_1_0_4, each_1_0_5, each_1_0_6, each_1_0_7, each_1_0_8, each_1_0_9, each_1_0_10, each_1_0_11, each_1_0_12, each_1_0_13, ()), ()), ()), ())))
  none)
noncomputable def z60 (k : Nat) : (Unit × Int × QT63 × Unit) → Option ((Unit) × (Unit × Unit × QT63 × Unit)) := fun x => match x with
 | ((), fuel, ((each_0_0, ()), ((each_1_0_0, each_1_0_1, each_1_0_2, each_1_0_3, each_1_0_4, each_1_0_5, each_1_0_6, each_1_0_7, each_1_0_8, each_1_0_9, each_1_0_10, each_1_0_11, each_1_0_12, each_1_0_13, ()), ()), ()), ()) =>
  iter (z60.l0 k) k ((), fuel, ((each_0_0, ()), ((each_1_0_0, each_1_0_1, each_1_0_2, each_1_0_3, each_1_0_4, each_1_0_5, each_1_0_6, each_1_0_7, each_1_0_8, each_1_0_9, each_1_0_10, each_1_0_11, each_1_0_12, each_1_0_13, ()), ()), ()), ())
noncomputable def z60.sg (k : Nat) : Sig := ⟨(.cons .ign (.cons (.pur (.int .i64)) (.cons (.fn (.func 50) 0 (.cons (.box (.cons (.rows QS45) .nil)) (.cons (.box (.cons QS3 .nil)) .nil))) .nil))), .nil, z60 k, [(0, 2, 1, [0])]⟩
theorem z60.ok (k : Nat) : SigHolds Tryz.prog L 40 (z60.sg k) :=
  soe (C := ⟨Tryz.prog, [(86, [z48.sg k]), (51, [z75.sg k]), (52, [z56.sg k]), (87, [z7.sg k])], k, [(7, QS45), (19, QS45), (53, QS45)], [(50, [(19, { keys := [(18, 6), (20, 7), (21, 8)], draws := [(0, [([2], false), ([2], false), ([2], false), ([2], false), ([2], false), ([2], false), ([2], false), ([2], false), ([2], false), ([2], false), ([2, 19], false), ([2], false), ([2], false), ([2], false), ([2], false), ([2], false), ([2, 6], false), ([6, 19], false), ([6, 7, 19], true), ([2, 7, 8], true), ([2, 8], true)])] }), (53, { keys := [(18, 6), (20, 7), (21, 8)], draws := [(0, [([2], false), ([2], false), ([2], false), ([2], false), ([2], false), ([2], false), ([2], false), ([2], false), ([2], false), ([2], false), ([2, 53], false), ([2], false), ([2], false), ([2], false), ([2], false), ([2], false), ([2, 6], false), ([6, 53], false), ([6, 7, 53], true), ([2, 7, 8], true), ([2, 8], true)])] })])]⟩) (hc1 (z48.ok k) (hc1 (z75.ok k) (hc1 (z56.ok k) (hc1 (z7.ok k) holds_nil)))) Tryz.func40 { loops := [(0, [(0, .ign), (1, (.pur (.int .i64))), (2, (.fn (.func 50) 0 (.cons (.box (.cons (.rows QS45) .nil)) (.cons (.box (.cons QS3 .nil)) .nil))))])], al := [(0, 2, 1, [0])] } fun _ => by kernel_rfl
noncomputable def z142 (k : Nat) : QT51 → Option (((List QT16) × Unit) × QT37) := fun x => match x with
 | (p, inputs, fuel, ()) =>
  bd k (z104 k (p, inputs, fuel, ())) fun y1 =>
  br k (!y1.1.1)
  (some ((([] : List QT16), ()), ((), (), (), ())))
  (bd k (z105 k (p, inputs, ())) fun y2 =>
  bd k (z60 k ((), fuel, ((([] : List QT16), ()), ((y2.1.1.1, y2.1.1.2.1, y2.1.1.2.2.1, y2.1.1.2.2.2.1, y2.1.1.2.2.2.2.1, y2.1.1.2.2.2.2.2.1, y2.1.1.2.2.2.2.2.2.1, y2.1.1.2.2.2.2.2.2.2.1, y2.1.1.2.2.2.2.2.2.2.2.1, y2.1.1.2.2.2.2.2.2.2.2.2.1, y2.1.1.2.2.2.2.2.2.2.2.2.2.1, y2.1.1.2.2.2.2.2.2.2.2.2.2.2.1, y2.1.1.2.2.2.2.2.2.2.2.2.2.2.2.1, y2.1.1.2.2.2.2.2.2.2.2.2.2.2.2.2.1, ()), ()), ()), ())) fun y3 =>
  some ((y3.2.2.2.1.1.1, ()), ((), (), (), ())))
noncomputable def z142.sg (k : Nat) : Sig := ⟨QS64, (.cons (.rows QS45) .nil), z142 k, []⟩
theorem z142.ok (hSp : Lb.NeedSp L) (k : Nat) : SigHolds Tryz.prog L 20 (z142.sg k) :=
  soe (C := ⟨Tryz.prog, [(38, [z104.sg k]), (39, [z105.sg k]), (40, [z60.sg k])], k, [], []⟩) (hc1 (z104.ok hSp k) (hc1 (z105.ok k) (hc1 (z60.ok k) holds_nil))) Tryz.func20 {} fun _ => by kernel_rfl
noncomputable def z143 (k : Nat) : (Int × QT7 × QT10 × Unit) → Option ((QT16 × Unit) × QT37) := fun x => match x with
 | (at_, t, s_, ()) =>
  br k (decide ((([] : List (Int × Int × Unit)).length + t.length) * 16 ≤ maxBytes))
  (bd k (z36 k (s_, ())) fun y1 =>
  some (((at_, ([] : List (Int × Int × Unit)) ++ t, y1.1.1.1, y1.1.1.2.1, y1.1.1.2.2.1, ()), ()), ((), (), (), ())))
  none
noncomputable def z143.sg (k : Nat) : Sig := ⟨(.cons (.pur (.int .i64)) (.cons (.pur (.sl false QK0)) QS58)), (.cons (.agg QS45) .nil), z143 k, []⟩
theorem z143.ok (k : Nat) : SigHolds Tryz.prog L 54 (z143.sg k) :=
  soe (C := ⟨Tryz.prog, [(78, [z36.sg k])], k, [], []⟩) (hc1 (z36.ok k) holds_nil) Tryz.func54 { keys := [(1, [([], false), ([8], true), ([], false), ([8, 10], true), ([5], false), ([12], false), ([10, 12], false), ([6, 10, 12], true)])] } fun _ => by kernel_rfl
noncomputable def z61.l0 (k : Nat) : E2 ((QT7 × Int × Unit) → Option QT25) := fun G0 x => match x with
 | (t, i, ()) =>
  br k (decide (i < (t.length : Int)))
  ((br k (decide (0 ≤ i))
  (bd k (t[i.toNat]?) fun x1 =>
  bd k (z11 k (x1.1, 0, 29, ())) fun y2 =>
  br k (!y2.1.1)
  (some (true, ()))
  (br k (decide (0 ≤ i))
  (bd k (t[i.toNat]?) fun x3 =>
  bd k (z11 k (x3.2.1, 0, 4, ())) fun y4 =>
  some (!y4.1.1, ()))
  none))
  none : Option (Bool × Unit)).bind fun j5 =>
  br k (j5.1)
  (some ((false, ()), ((), ())))
  (G0 (t, IntKind.wrap .i64 (i + 1), ())))
  (some ((true, ()), ((), ())))
noncomputable def z61 (k : Nat) : (QT7 × Unit) → Option QT25 := fun x => match x with
 | (t, ()) =>
  br k (decide ((t.length : Int) > 3))
  (some ((false, ()), ((), ())))
  (iter (z61.l0 k) k (t, 0, ()))
noncomputable def z61.sg (k : Nat) : Sig := ⟨QS41, QS19, z61 k, []⟩
theorem z61.ok (k : Nat) : SigHolds Tryz.prog L 154 (z61.sg k) :=
  soe (C := ⟨Tryz.prog, [(75, [z11.sg k])], k, [], []⟩) (hc1 (z11.ok k) holds_nil) Tryz.func154 { loops := [(0, [(0, (.pur (.sl false QK0))), (3, (.pur (.int .i64)))])], joins := [(6, [(28, .bool)])] } fun _ => by kernel_rfl
noncomputable def z110 (k : Nat) : (QT7 × Int × Int × Unit) → Option ((QT7 × Unit) × QT37) := fun x => match x with
 | (t, line, pick, ()) =>
  bd k (z61 k (t, ())) fun y1 =>
  br k (!y1.1.1)
  (some (([], ()), ((), (), (), ())))
  (bd k (z61 k (([(line, pick, ())] : List (Int × Int × Unit)), ())) fun y2 =>
  br k (!y2.1.1)
  (some (([], ()), ((), (), (), ())))
  (br k (decide ((([] : List (Int × Int × Unit)).length + t.length) * 16 ≤ maxBytes))
  (br k (decide (((([] : List (Int × Int × Unit)) ++ t).length : Int) < 3))
  (br k (decide (((([] : List (Int × Int × Unit)) ++ t).length + ([(line, pick, ())] : List (Int × Int × Unit)).length) * 16 ≤ maxBytes))
  (some (((([] : List (Int × Int × Unit)) ++ t) ++ ([(line, pick, ())] : List (Int × Int × Unit)), ()), ((), (), (), ())))
  none)
  (some ((([] : List (Int × Int × Unit)) ++ t, ()), ((), (), (), ()))))
  none))
noncomputable def z110.sg (k : Nat) : Sig := ⟨(.cons (.pur (.sl false QK0)) QS22), (.cons (.own QK0) .nil), z110 k, []⟩
theorem z110.ok (k : Nat) : SigHolds Tryz.prog L 108 (z110.sg k) :=
  soe (C := ⟨Tryz.prog, [(154, [z61.sg k])], k, [], []⟩) (hc1 (z61.ok k) holds_nil) Tryz.func108 {} fun _ => by kernel_rfl
noncomputable def z93.l0 (k : Nat) : E2 ((QT7 × Int × Int × Int × Unit) → Option QT28) := fun G0 x => match x with
 | (t, line, n, i, ()) =>
  br k (decide (i < (t.length : Int)))
  (br k (decide (0 ≤ i))
  (bd k (t[i.toNat]?) fun x1 =>
  bd k (z35 k (x1.1 == line, ())) fun y2 =>
  G0 (t, line, IntKind.wrap .i64 (n + y2.1.1), IntKind.wrap .i64 (i + 1), ()))
  none)
  (some ((n, ()), ((), (), ())))
noncomputable def z93 (k : Nat) : (QT7 × Int × Unit) → Option QT28 := fun x => match x with
 | (t, line, ()) =>
  iter (z93.l0 k) k (t, line, 0, 0, ())
noncomputable def z93.sg (k : Nat) : Sig := ⟨(.cons (.pur (.sl false QK0)) QS6), QS6, z93 k, []⟩
theorem z93.ok (k : Nat) : SigHolds Tryz.prog L 109 (z93.sg k) :=
  soe (C := ⟨Tryz.prog, [(106, [z35.sg k])], k, [], []⟩) (hc1 (z35.ok k) holds_nil) Tryz.func109 { loops := [(0, [(0, (.pur (.sl false QK0))), (1, (.pur (.int .i64))), (5, (.pur (.int .i64))), (6, (.pur (.int .i64)))])] } fun _ => by kernel_rfl
noncomputable def z111 (k : Nat) : (QT1 × Int × QT7 × Bool × Int × Unit) → Option ((QT7 × Unit) × (Unit × Unit × Unit × Unit × Unit × Unit)) := fun x => match x with
 | (l_, at_, t, yes, n, ()) =>
  br k (l_.1 == 6)
  (bd k (z35 k (yes, ())) fun y1 =>
  bd k (z110 k (t, at_, y1.1.1, ())) fun y2 =>
  some ((y2.1.1, ()), ((), (), (), (), (), ())))
  ((br k (l_.1 == 10)
  (br k (yes)
  (bd k (z93 k (t, at_, ())) fun y3 =>
  some (decide (y3.1.1 < l_.2.2.2.2.1), ()))
  (some (false, ())))
  (some (false, ())) : Option (Bool × Unit)).bind fun j4 =>
  br k (j4.1)
  (bd k (z110 k (t, at_, 1, ())) fun y5 =>
  some ((y5.1.1, ()), ((), (), (), (), (), ())))
  ((br k (l_.1 == 13)
  (bd k (z11 k (n, l_.2.2.2.2.1, l_.2.2.2.2.2.1, ())) fun y6 =>
  some (y6.1.1, ()))
  (some (false, ())) : Option (Bool × Unit)).bind fun j7 =>
  br k (j7.1)
  (bd k (z110 k (t, at_, IntKind.wrap .i64 (n - l_.2.2.2.2.1), ())) fun y8 =>
  some ((y8.1.1, ()), ((), (), (), (), (), ())))
  (br k (l_.1 == 13)
  (bd k (z110 k (t, at_, IntKind.wrap .i64 ((IntKind.wrap .i64 (l_.2.2.2.2.2.1 - l_.2.2.2.2.1)) + 1), ())) fun y9 =>
  some ((y9.1.1, ()), ((), (), (), (), (), ())))
  (br k (l_.1 == 14)
  (some (([], ()), ((), (), (), (), (), ())))
  (some ((t, ()), ((), (), (), (), (), ())))))))
noncomputable def z111.sg (k : Nat) : Sig := ⟨(.cons (.pur QK9) (.cons (.pur (.int .i64)) (.cons (.pur (.sl false QK0)) (.cons (.pur .bool) QS6)))), QS41, z111 k, []⟩
theorem z111.ok (k : Nat) : SigHolds Tryz.prog L 56 (z111.sg k) :=
  soe (C := ⟨Tryz.prog, [(106, [z35.sg k]), (108, [z110.sg k]), (109, [z93.sg k]), (75, [z11.sg k])], k, [], []⟩) (hc1 (z35.ok k) (hc1 (z110.ok k) (hc1 (z93.ok k) (hc1 (z11.ok k) holds_nil)))) Tryz.func56 { joins := [(3, [(20, .bool)]), (5, [(38, .bool)])] } fun _ => by kernel_rfl
end Go.Pev.F
