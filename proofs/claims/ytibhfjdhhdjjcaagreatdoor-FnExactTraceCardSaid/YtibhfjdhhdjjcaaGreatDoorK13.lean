/-
  Printed by gen.py: what functions of the program compute, and that they do.
-/
import Derived.Test.YtibhfjdhhdjjcaaGreatDoorK12
set_option linter.unusedSimpArgs false
set_option linter.unusedVariables false
open Go.Proofs Go.Pev
namespace Go.Pev.F
set_option maxRecDepth 100000
noncomputable def z130 (k : Nat) : ((List Int) × Unit) → Option QT41 := fun x => match x with
 | (s_, ()) =>
  br k (s_.isEmpty) (agree
  (some (([], ()), ((), ())))
  (br k (decide ((([] : List Int).length + s_.length) * 8 ≤ maxBytes))
  (some ((([] : List Int) ++ s_, ()), ((), ())))
  none))
  (br k (decide ((([] : List Int).length + s_.length) * 8 ≤ maxBytes))
  (some ((([] : List Int) ++ s_, ()), ((), ())))
  none)
noncomputable def z130.sg (k : Nat) : Sig := ⟨(.cons QS27 .nil), QS52, z130 k, []⟩
theorem z130.ok {L : List (Nat × Obj)} (k : Nat) : SigHolds Tryz.prog L 103 (z130.sg k) :=
  soe (C := ⟨Tryz.prog, [], k, [], []⟩) holds_nil Tryz.func103 {} fun _ => by kernel_rfl
noncomputable def z167 (k : Nat) : ((List Bool) × Unit) → Option (((List Bool) × Unit) × (Unit × Unit)) := fun x => match x with
 | (s_, ()) =>
  br k (s_.isEmpty) (agree
  (some (([], ()), ((), ())))
  (br k (decide ((([] : List Bool).length + s_.length) * 1 ≤ maxBytes))
  (some ((([] : List Bool) ++ s_, ()), ((), ())))
  none))
  (br k (decide ((([] : List Bool).length + s_.length) * 1 ≤ maxBytes))
  (some ((([] : List Bool) ++ s_, ()), ((), ())))
  none)
noncomputable def z167.sg (k : Nat) : Sig := ⟨(.cons QS47 .nil), (.cons (.own .bool) .nil), z167 k, []⟩
theorem z167.ok {L : List (Nat × Obj)} (k : Nat) : SigHolds Tryz.prog L 104 (z167.sg k) :=
  soe (C := ⟨Tryz.prog, [], k, [], []⟩) holds_nil Tryz.func104 {} fun _ => by kernel_rfl
noncomputable def z37.l0 (k : Nat) : E2 ((QT9 × QT9 × (List (List Int)) × Int × Int × Unit) → Option QT39) := fun G0 x => match x with
 | ((t2_0, t2_1, t2_2, ()), (out__0, out__1, out__2, ()), t14, t15, t16, ()) =>
  br k (decide (t16 < t15))
  (br k (decide (0 ≤ t16))
  (bd k (t14[t16.toNat]?) fun x3 =>
  bd k (z130 k (x3, ())) fun y4 =>
  br k (decide ((out__2.length + ([y4.1.1] : List (List Int)).length) * 24 ≤ maxBytes))
  (G0 ((t2_0, t2_1, t2_2, ()), (out__0, out__1, out__2 ++ ([y4.1.1] : List (List Int)), ()), t14, t15, IntKind.wrap .i64 (t16 + 1), ()))
  none)
  none)
  (some (((out__0, out__1, out__2, ()), ()), ((), ())))
noncomputable def z37 (k : Nat) : (QT9 × Unit) → Option QT39 := fun x => match x with
 | (s_, ()) =>
  bd k (z130 k (s_.1, ())) fun y1 =>
  bd k (z167 k (s_.2.1, ())) fun y2 =>
  iter (z37.l0 k) k (([], [], ([] : List (List Int)), ()), (y1.1.1, y2.1.1, ([] : List (List Int)), ()), s_.2.2.1, (s_.2.2.1.length : Int), 0, ())
noncomputable def z37.sg (k : Nat) : Sig := ⟨(.cons (.pur QK11) .nil), (.cons (.agg QS10) .nil), z37 k, []⟩
theorem z37.ok {L : List (Nat × Obj)} (k : Nat) : SigHolds Tryz.prog L 52 (z37.sg k) :=
  soe (C := ⟨Tryz.prog, [(103, [z130.sg k]), (104, [z167.sg k])], k, [(24, (.own (.int .i64)))], []⟩) (hc1 (z130.ok k) (hc1 (z167.ok k) holds_nil)) Tryz.func52 { loops := [(0, [(2, (.box QS10)), (3, (.box QS10)), (14, QS38), (15, (.pur (.int .i64))), (16, (.pur (.int .i64)))])], keys := [(1, [([1], false), ([1], false), ([8], false), ([1], false), ([1], false), ([11], false), ([8, 11], false), ([3], true), ([3, 8, 11], true)]), (5, [([3], false), ([3], false), ([], false), ([23], false), ([23, 24], true), ([3, 24, 25], true), ([3], false), ([3, 25], true)])] } fun _ => by kernel_rfl
noncomputable def z50.l0 (k : Nat) : E2 ((Unit × Int × QT45 × Unit) → Option ((Unit) × (Unit × Unit × QT45 × Unit))) := fun G0 x => match x with
 | ((), fuel, ((each_0_0, ()), ((each_1_0_0, each_1_0_1, each_1_0_2, each_1_0_3, each_1_0_4, each_1_0_5, each_1_0_6, each_1_0_7, each_1_0_8, each_1_0_9, each_1_0_10, each_1_0_11, each_1_0_12, each_1_0_13, ()), ()), ()), ()) =>
  bd k (z104 k (each_1_0_3, ())) fun y1 =>
  br k (decide (each_1_0_7 < y1.1.1))
  (bd k (z71 k (each_1_0_13, ())) fun y2 =>
  bd k (z37 k ((each_1_0_8, each_1_0_9, each_1_0_10, ()), ())) fun y4 =>
  br k (decide ((each_0_0.length + ([(each_1_0_7, y2.1.1, y4.1.1.1, y4.1.1.2.1, y4.1.1.2.2.1, ())] : List QT7).length) * 104 ≤ maxBytes))
  (br k (each_1_0_11 == fuel)
  (some ((()), ((), (), ((each_0_0 ++ ([(each_1_0_7, y2.1.1, y4.1.1.1, y4.1.1.2.1, y4.1.1.2.2.1, ())] : List QT7), ()), ((each_1_0_0, each_1_0_1, each_1_0_2, each_1_0_3, each_1_0_4, each_1_0_5, 2, each_1_0_7, each_1_0_8, each_1_0_9, each_1_0_10, each_1_0_11, each_1_0_12, each_1_0_13, ()), ()), ()), ())))
  (bd k (z6 k ((each_1_0_0, each_1_0_1, each_1_0_2, each_1_0_3, each_1_0_4, each_1_0_5, each_1_0_6, each_1_0_7, each_1_0_8, each_1_0_9, each_1_0_10, IntKind.wrap .i64 (each_1_0_11 + 1), each_1_0_12, each_1_0_13, ()), ())) fun y5 =>
  br k (y5.1.1 != 0)
  (some ((()), ((), (), ((each_0_0 ++ ([(each_1_0_7, y2.1.1, y4.1.1.1, y4.1.1.2.1, y4.1.1.2.2.1, ())] : List QT7), ()), ((y5.2.1.1, y5.2.1.2.1, y5.2.1.2.2.1, y5.2.1.2.2.2.1, y5.2.1.2.2.2.2.1, y5.2.1.2.2.2.2.2.1, y5.1.1, y5.2.1.2.2.2.2.2.2.2.1, y5.2.1.2.2.2.2.2.2.2.2.1, y5.2.1.2.2.2.2.2.2.2.2.2.1, y5.2.1.2.2.2.2.2.2.2.2.2.2.1, y5.2.1.2.2.2.2.2.2.2.2.2.2.2.1, y5.2.1.2.2.2.2.2.2.2.2.2.2.2.2.1, y5.2.1.2.2.2.2.2.2.2.2.2.2.2.2.2.1, ()), ()), ()), ())))
  (G0 ((), fuel, ((each_0_0 ++ ([(each_1_0_7, y2.1.1, y4.1.1.1, y4.1.1.2.1, y4.1.1.2.2.1, ())] : List QT7), ()), ((y5.2.1.1, y5.2.1.2.1, y5.2.1.2.2.1, y5.2.1.2.2.2.1, y5.2.1.2.2.2.2.1, y5.2.1.2.2.2.2.2.1, y5.1.1, y5.2.1.2.2.2.2.2.2.2.1, y5.2.1.2.2.2.2.2.2.2.2.1, y5.2.1.2.2.2.2.2.2.2.2.2.1, y5.2.1.2.2.2.2.2.2.2.2.2.2.1, y5.2.1.2.2.2.2.2.2.2.2.2.2.2.1, y5.2.1.2.2.2.2.2.2.2.2.2.2.2.2.1, y5.2.1.2.2.2.2.2.2.2.2.2.2.2.2.2.1, ()), ()), ()), ()))))
  none)
  (bd k (z71 k (each_1_0_13, ())) fun y6 =>
  bd k (z37 k ((each_1_0_8, each_1_0_9, each_1_0_10, ()), ())) fun y8 =>
  br k (decide ((each_0_0.length + ([(each_1_0_7, y6.1.1, y8.1.1.1, y8.1.1.2.1, y8.1.1.2.2.1, ())] : List QT7).length) * 104 ≤ maxBytes))
  (some ((()), ((), (), ((each_0_0 ++ ([(each_1_0_7, y6.1.1, y8.1.1.1, y8.1.1.2.1, y8.1.1.2.2.1, ())] : List QT7), ()), ((each_1_0_0, each_1_0_1, each_1_0_2, each_1_0_3, each_1_0_4, each_1_0_5, each_1_0_6, each_1_0_7, each_1_0_8, each_1_0_9, each_1_0_10, each_1_0_11, each_1_0_12, each_1_0_13, ()), ()), ()), ())))
  none)
noncomputable def z50 (k : Nat) : (Unit × Int × QT45 × Unit) → Option ((Unit) × (Unit × Unit × QT45 × Unit)) := fun x => match x with
 | ((), fuel, ((each_0_0, ()), ((each_1_0_0, each_1_0_1, each_1_0_2, each_1_0_3, each_1_0_4, each_1_0_5, each_1_0_6, each_1_0_7, each_1_0_8, each_1_0_9, each_1_0_10, each_1_0_11, each_1_0_12, each_1_0_13, ()), ()), ()), ()) =>
  iter (z50.l0 k) k ((), fuel, ((each_0_0, ()), ((each_1_0_0, each_1_0_1, each_1_0_2, each_1_0_3, each_1_0_4, each_1_0_5, each_1_0_6, each_1_0_7, each_1_0_8, each_1_0_9, each_1_0_10, each_1_0_11, each_1_0_12, each_1_0_13, ()), ()), ()), ())
noncomputable def z50.sg (k : Nat) : Sig := ⟨(.cons .ign (.cons (.pur (.int .i64)) (.cons (.fn (.func 50) 0 (.cons (.box (.cons (.rows QS32) .nil)) (.cons (.box (.cons QS4 .nil)) .nil))) .nil))), .nil, z50 k, [(0, 2, 1, [0])]⟩
theorem z50.ok {L : List (Nat × Obj)} (k : Nat) : SigHolds Tryz.prog L 40 (z50.sg k) :=
  soe (C := ⟨Tryz.prog, [(86, [z104.sg k]), (51, [z71.sg k]), (52, [z37.sg k]), (87, [z6.sg k])], k, [(7, QS32), (19, QS32), (53, QS32)], [(50, [(19, { keys := [(18, 6), (20, 7), (21, 8)], draws := [(0, [([2], false), ([2], false), ([2], false), ([2], false), ([2], false), ([2], false), ([2], false), ([2], false), ([2], false), ([2], false), ([2, 19], false), ([2], false), ([2], false), ([2], false), ([2], false), ([2], false), ([2, 6], false), ([6, 19], false), ([6, 7, 19], true), ([2, 7, 8], true), ([2, 8], true)])] }), (53, { keys := [(18, 6), (20, 7), (21, 8)], draws := [(0, [([2], false), ([2], false), ([2], false), ([2], false), ([2], false), ([2], false), ([2], false), ([2], false), ([2], false), ([2], false), ([2, 53], false), ([2], false), ([2], false), ([2], false), ([2], false), ([2], false), ([2, 6], false), ([6, 53], false), ([6, 7, 53], true), ([2, 7, 8], true), ([2, 8], true)])] })])]⟩) (hc1 (z104.ok k) (hc1 (z71.ok k) (hc1 (z37.ok k) (hc1 (z6.ok k) holds_nil)))) Tryz.func40 { loops := [(0, [(0, .ign), (1, (.pur (.int .i64))), (2, (.fn (.func 50) 0 (.cons (.box (.cons (.rows QS32) .nil)) (.cons (.box (.cons QS4 .nil)) .nil))))])], al := [(0, 2, 1, [0])] } fun _ => by kernel_rfl
noncomputable def z106 (k : Nat) : QT46 → Option (((List QT7) × Unit) × QT29) := fun x => match x with
 | (p, inputs, fuel, ()) =>
  bd k (z155 k (p, inputs, fuel, ())) fun y1 =>
  br k (!y1.1.1)
  (some ((([] : List QT7), ()), ((), (), (), ())))
  (bd k (z180 k (p, inputs, ())) fun y2 =>
  bd k (z50 k ((), fuel, ((([] : List QT7), ()), ((y2.1.1.1, y2.1.1.2.1, y2.1.1.2.2.1, y2.1.1.2.2.2.1, y2.1.1.2.2.2.2.1, y2.1.1.2.2.2.2.2.1, y2.1.1.2.2.2.2.2.2.1, y2.1.1.2.2.2.2.2.2.2.1, y2.1.1.2.2.2.2.2.2.2.2.1, y2.1.1.2.2.2.2.2.2.2.2.2.1, y2.1.1.2.2.2.2.2.2.2.2.2.2.1, y2.1.1.2.2.2.2.2.2.2.2.2.2.2.1, y2.1.1.2.2.2.2.2.2.2.2.2.2.2.2.1, y2.1.1.2.2.2.2.2.2.2.2.2.2.2.2.2.1, ()), ()), ()), ())) fun y3 =>
  some ((y3.2.2.2.1.1.1, ()), ((), (), (), ())))
noncomputable def z106.sg (k : Nat) : Sig := ⟨QS53, (.cons (.rows QS32) .nil), z106 k, []⟩
theorem z106.ok {L : List (Nat × Obj)} (hSp : Lb.NeedSp L) (k : Nat) : SigHolds Tryz.prog L 20 (z106.sg k) :=
  soe (C := ⟨Tryz.prog, [(38, [z155.sg k]), (39, [z180.sg k]), (40, [z50.sg k])], k, [], []⟩) (hc1 (z155.ok hSp k) (hc1 (z180.ok k) (hc1 (z50.ok k) holds_nil))) Tryz.func20 {} fun _ => by kernel_rfl
noncomputable def z131 (k : Nat) : (Int × QT15 × QT9 × Unit) → Option ((QT7 × Unit) × QT29) := fun x => match x with
 | (at_, t, s_, ()) =>
  br k (decide ((([] : List (Int × Int × Unit)).length + t.length) * 16 ≤ maxBytes))
  (bd k (z25 k (s_, ())) fun y1 =>
  some (((at_, ([] : List (Int × Int × Unit)) ++ t, y1.1.1.1, y1.1.1.2.1, y1.1.1.2.2.1, ()), ()), ((), (), (), ())))
  none
noncomputable def z131.sg (k : Nat) : Sig := ⟨(.cons (.pur (.int .i64)) (.cons (.pur (.sl false QK0)) (.cons (.pur QK11) .nil))), (.cons (.agg QS32) .nil), z131 k, []⟩
theorem z131.ok {L : List (Nat × Obj)} (k : Nat) : SigHolds Tryz.prog L 54 (z131.sg k) :=
  soe (C := ⟨Tryz.prog, [(78, [z25.sg k])], k, [], []⟩) (hc1 (z25.ok k) holds_nil) Tryz.func54 { keys := [(1, [([], false), ([8], true), ([], false), ([8, 10], true), ([5], false), ([12], false), ([10, 12], false), ([6, 10, 12], true)])] } fun _ => by kernel_rfl
noncomputable def z52.l0 (k : Nat) : E2 ((QT15 × Int × Unit) → Option QT22) := fun G0 x => match x with
 | (t, i, ()) =>
  br k (decide (i < (t.length : Int)))
  ((br k (decide (0 ≤ i))
  (bd k (t[i.toNat]?) fun x1 =>
  bd k (z8 k (x1.1, 0, 29, ())) fun y2 =>
  br k (!y2.1.1)
  (some (true, ()))
  (br k (decide (0 ≤ i))
  (bd k (t[i.toNat]?) fun x3 =>
  bd k (z8 k (x3.2.1, 0, 4, ())) fun y4 =>
  some (!y4.1.1, ()))
  none))
  none : Option (Bool × Unit)).bind fun j5 =>
  br k (j5.1)
  (some ((false, ()), ((), ())))
  (G0 (t, IntKind.wrap .i64 (i + 1), ())))
  (some ((true, ()), ((), ())))
noncomputable def z52 (k : Nat) : (QT15 × Unit) → Option QT22 := fun x => match x with
 | (t, ()) =>
  br k (decide ((t.length : Int) > 3))
  (some ((false, ()), ((), ())))
  (iter (z52.l0 k) k (t, 0, ()))
noncomputable def z52.sg (k : Nat) : Sig := ⟨QS35, QS17, z52 k, []⟩
theorem z52.ok {L : List (Nat × Obj)} (k : Nat) : SigHolds Tryz.prog L 154 (z52.sg k) :=
  soe (C := ⟨Tryz.prog, [(75, [z8.sg k])], k, [], []⟩) (hc1 (z8.ok k) holds_nil) Tryz.func154 { loops := [(0, [(0, (.pur (.sl false QK0))), (3, (.pur (.int .i64)))])], joins := [(6, [(28, .bool)])] } fun _ => by kernel_rfl
noncomputable def z102 (k : Nat) : (QT15 × Int × Int × Unit) → Option ((QT15 × Unit) × QT29) := fun x => match x with
 | (t, line, pick, ()) =>
  bd k (z52 k (t, ())) fun y1 =>
  br k (!y1.1.1)
  (some (([], ()), ((), (), (), ())))
  (bd k (z52 k (([(line, pick, ())] : List (Int × Int × Unit)), ())) fun y2 =>
  br k (!y2.1.1)
  (some (([], ()), ((), (), (), ())))
  (br k (decide ((([] : List (Int × Int × Unit)).length + t.length) * 16 ≤ maxBytes))
  (br k (decide (((([] : List (Int × Int × Unit)) ++ t).length : Int) < 3))
  (br k (decide (((([] : List (Int × Int × Unit)) ++ t).length + ([(line, pick, ())] : List (Int × Int × Unit)).length) * 16 ≤ maxBytes))
  (some (((([] : List (Int × Int × Unit)) ++ t) ++ ([(line, pick, ())] : List (Int × Int × Unit)), ()), ((), (), (), ())))
  none)
  (some ((([] : List (Int × Int × Unit)) ++ t, ()), ((), (), (), ()))))
  none))
noncomputable def z102.sg (k : Nat) : Sig := ⟨(.cons (.pur (.sl false QK0)) QS20), (.cons (.own QK0) .nil), z102 k, []⟩
theorem z102.ok {L : List (Nat × Obj)} (k : Nat) : SigHolds Tryz.prog L 108 (z102.sg k) :=
  soe (C := ⟨Tryz.prog, [(154, [z52.sg k])], k, [], []⟩) (hc1 (z52.ok k) holds_nil) Tryz.func108 {} fun _ => by kernel_rfl
noncomputable def z91.l0 (k : Nat) : E2 ((QT15 × Int × Int × Int × Unit) → Option QT16) := fun G0 x => match x with
 | (t, line, n, i, ()) =>
  br k (decide (i < (t.length : Int)))
  (br k (decide (0 ≤ i))
  (bd k (t[i.toNat]?) fun x1 =>
  bd k (z24 k (x1.1 == line, ())) fun y2 =>
  G0 (t, line, IntKind.wrap .i64 (n + y2.1.1), IntKind.wrap .i64 (i + 1), ()))
  none)
  (some ((n, ()), ((), (), ())))
noncomputable def z91 (k : Nat) : (QT15 × Int × Unit) → Option QT16 := fun x => match x with
 | (t, line, ()) =>
  iter (z91.l0 k) k (t, line, 0, 0, ())
noncomputable def z91.sg (k : Nat) : Sig := ⟨(.cons (.pur (.sl false QK0)) QS5), QS5, z91 k, []⟩
theorem z91.ok {L : List (Nat × Obj)} (k : Nat) : SigHolds Tryz.prog L 109 (z91.sg k) :=
  soe (C := ⟨Tryz.prog, [(106, [z24.sg k])], k, [], []⟩) (hc1 (z24.ok k) holds_nil) Tryz.func109 { loops := [(0, [(0, (.pur (.sl false QK0))), (1, (.pur (.int .i64))), (5, (.pur (.int .i64))), (6, (.pur (.int .i64)))])] } fun _ => by kernel_rfl
noncomputable def z103 (k : Nat) : (QT1 × Int × QT15 × Bool × Int × Unit) → Option ((QT15 × Unit) × (Unit × Unit × Unit × Unit × Unit × Unit)) := fun x => match x with
 | (l_, at_, t, yes, n, ()) =>
  br k (l_.1 == 6)
  (bd k (z24 k (yes, ())) fun y1 =>
  bd k (z102 k (t, at_, y1.1.1, ())) fun y2 =>
  some ((y2.1.1, ()), ((), (), (), (), (), ())))
  ((br k (l_.1 == 10)
  (br k (yes)
  (bd k (z91 k (t, at_, ())) fun y3 =>
  some (decide (y3.1.1 < l_.2.2.2.2.1), ()))
  (some (false, ())))
  (some (false, ())) : Option (Bool × Unit)).bind fun j4 =>
  br k (j4.1)
  (bd k (z102 k (t, at_, 1, ())) fun y5 =>
  some ((y5.1.1, ()), ((), (), (), (), (), ())))
  ((br k (l_.1 == 13)
  (bd k (z8 k (n, l_.2.2.2.2.1, l_.2.2.2.2.2.1, ())) fun y6 =>
  some (y6.1.1, ()))
  (some (false, ())) : Option (Bool × Unit)).bind fun j7 =>
  br k (j7.1)
  (bd k (z102 k (t, at_, IntKind.wrap .i64 (n - l_.2.2.2.2.1), ())) fun y8 =>
  some ((y8.1.1, ()), ((), (), (), (), (), ())))
  (br k (l_.1 == 13)
  (bd k (z102 k (t, at_, IntKind.wrap .i64 ((IntKind.wrap .i64 (l_.2.2.2.2.2.1 - l_.2.2.2.2.1)) + 1), ())) fun y9 =>
  some ((y9.1.1, ()), ((), (), (), (), (), ())))
  (br k (l_.1 == 14)
  (some (([], ()), ((), (), (), (), (), ())))
  (some ((t, ()), ((), (), (), (), (), ())))))))
noncomputable def z103.sg (k : Nat) : Sig := ⟨(.cons (.pur QK2) (.cons (.pur (.int .i64)) (.cons (.pur (.sl false QK0)) (.cons (.pur .bool) QS5)))), QS35, z103 k, []⟩
theorem z103.ok {L : List (Nat × Obj)} (k : Nat) : SigHolds Tryz.prog L 56 (z103.sg k) :=
  soe (C := ⟨Tryz.prog, [(106, [z24.sg k]), (108, [z102.sg k]), (109, [z91.sg k]), (75, [z8.sg k])], k, [], []⟩) (hc1 (z24.ok k) (hc1 (z102.ok k) (hc1 (z91.ok k) (hc1 (z8.ok k) holds_nil)))) Tryz.func56 { joins := [(3, [(20, .bool)]), (5, [(38, .bool)])] } fun _ => by kernel_rfl
end Go.Pev.F
