/-
  Printed by gen.py: what functions of the program compute, and that they do.
-/
import Derived.Test.YtibhfjdhhdjjcaaGreatDoorK13
set_option linter.unusedSimpArgs false
set_option linter.unusedVariables false
open Go.Proofs Go.Pev
namespace Go.Pev.F
set_option maxRecDepth 100000
noncomputable def z38.l0 (k : Nat) : E2 (((List Int) × Int × QT12 × (List QT7) × (List Int) × Int × Int × QT9 × QT15 × Int × Unit) → Option (((List QT7) × Unit) × QT29)) := fun G0 x => match x with
 | (inputs, fuel, (p_0, p_1, p_2, p_3, ()), out_, to_, at_, used, (s__0, s__1, s__2, ()), t, steps, ()) =>
  (br k (decide (at_ < (p_3.length : Int)))
  (some (decide (steps < fuel), ()))
  (some (false, ())) : Option (Bool × Unit)).bind fun j4 =>
  br k (j4.1)
  (bd k (z131 k (at_, t, (s__0, s__1, s__2, ()), ())) fun y5 =>
  br k (decide ((out_.length + ([(y5.1.1.1, y5.1.1.2.1, y5.1.1.2.2.1, y5.1.1.2.2.2.1, y5.1.1.2.2.2.2.1, ())] : List QT7).length) * 104 ≤ maxBytes))
  (br k (decide (0 ≤ at_))
  (bd k (p_3[at_.toNat]?) fun x6 =>
  br k (decide (0 ≤ at_ ∧ at_ < (to_.length : Int)))
  (bd k (to_[at_.toNat]?) fun x7 =>
  bd k (z11 k ((p_0, p_1, p_2, p_3, ()), x7, x6, at_, (s__0, s__1, s__2, ()), inputs, used, ())) fun y8 =>
  br k (y8.1.2.2.2.1 != 0)
  (some ((out_ ++ ([(y5.1.1.1, y5.1.1.2.1, y5.1.1.2.2.1, y5.1.1.2.2.2.1, y5.1.1.2.2.2.2.1, ())] : List QT7), ()), ((), (), (), ())))
  (br k (x6.1 == 13)
  (br k (decide (0 ≤ x6.2.1))
  (bd k (s__0[x6.2.1.toNat]?) fun x9 =>
  (br k (x6.1 == 6)
  (some (true, ()))
  (some (x6.1 == 10, ())) : Option (Bool × Unit)).bind fun j10 =>
  br k (j10.1)
  (bd k (z10 k (x6.2.2.2.1, (s__0, s__1, s__2, ()), ())) fun y11 =>
  bd k (z103 k (x6, at_, t, y11.1.1 == 1, x9, ())) fun y12 =>
  G0 (inputs, fuel, (p_0, p_1, p_2, p_3, ()), out_ ++ ([(y5.1.1.1, y5.1.1.2.1, y5.1.1.2.2.1, y5.1.1.2.2.2.1, y5.1.1.2.2.2.2.1, ())] : List QT7), to_, y8.1.1, y8.1.2.2.1, (y8.1.2.1.1, y8.1.2.1.2.1, y8.1.2.1.2.2.1, ()), y12.1.1, IntKind.wrap .i64 (steps + 1), ()))
  (bd k (z103 k (x6, at_, t, y8.1.1 == (IntKind.wrap .i64 (at_ + 1)), x9, ())) fun y13 =>
  G0 (inputs, fuel, (p_0, p_1, p_2, p_3, ()), out_ ++ ([(y5.1.1.1, y5.1.1.2.1, y5.1.1.2.2.1, y5.1.1.2.2.2.1, y5.1.1.2.2.2.2.1, ())] : List QT7), to_, y8.1.1, y8.1.2.2.1, (y8.1.2.1.1, y8.1.2.1.2.1, y8.1.2.1.2.2.1, ()), y13.1.1, IntKind.wrap .i64 (steps + 1), ())))
  none)
  ((br k (x6.1 == 6)
  (some (true, ()))
  (some (x6.1 == 10, ())) : Option (Bool × Unit)).bind fun j14 =>
  br k (j14.1)
  (bd k (z10 k (x6.2.2.2.1, (s__0, s__1, s__2, ()), ())) fun y15 =>
  bd k (z103 k (x6, at_, t, y15.1.1 == 1, 0, ())) fun y16 =>
  G0 (inputs, fuel, (p_0, p_1, p_2, p_3, ()), out_ ++ ([(y5.1.1.1, y5.1.1.2.1, y5.1.1.2.2.1, y5.1.1.2.2.2.1, y5.1.1.2.2.2.2.1, ())] : List QT7), to_, y8.1.1, y8.1.2.2.1, (y8.1.2.1.1, y8.1.2.1.2.1, y8.1.2.1.2.2.1, ()), y16.1.1, IntKind.wrap .i64 (steps + 1), ()))
  (bd k (z103 k (x6, at_, t, y8.1.1 == (IntKind.wrap .i64 (at_ + 1)), 0, ())) fun y17 =>
  G0 (inputs, fuel, (p_0, p_1, p_2, p_3, ()), out_ ++ ([(y5.1.1.1, y5.1.1.2.1, y5.1.1.2.2.1, y5.1.1.2.2.2.1, y5.1.1.2.2.2.2.1, ())] : List QT7), to_, y8.1.1, y8.1.2.2.1, (y8.1.2.1.1, y8.1.2.1.2.1, y8.1.2.1.2.2.1, ()), y17.1.1, IntKind.wrap .i64 (steps + 1), ())))))
  none)
  none)
  none)
  (bd k (z131 k (at_, t, (s__0, s__1, s__2, ()), ())) fun y18 =>
  br k (decide ((out_.length + ([(y18.1.1.1, y18.1.1.2.1, y18.1.1.2.2.1, y18.1.1.2.2.2.1, y18.1.1.2.2.2.2.1, ())] : List QT7).length) * 104 ≤ maxBytes))
  (some ((out_ ++ ([(y18.1.1.1, y18.1.1.2.1, y18.1.1.2.2.1, y18.1.1.2.2.2.1, y18.1.1.2.2.2.2.1, ())] : List QT7), ()), ((), (), (), ())))
  none)
noncomputable def z38 (k : Nat) : QT46 → Option (((List QT7) × Unit) × QT29) := fun x => match x with
 | (p, inputs, fuel, ()) =>
  bd k (z140 k (p, inputs, fuel, ())) fun y1 =>
  br k (!y1.1.1)
  (some ((([] : List QT7), ()), ((), (), (), ())))
  (bd k (z142 k (p, ())) fun y2 =>
  bd k (z60 k ((p.1, p.2.1, p.2.2.1, ()), ())) fun y3 =>
  iter (z38.l0 k) k (inputs, fuel, (p.1, p.2.1, p.2.2.1, p.2.2.2.1, ()), ([] : List QT7), y2.1.1, 0, 0, (y3.1.1.1, y3.1.1.2.1, y3.1.1.2.2.1, ()), ([] : List (Int × Int × Unit)), 0, ()))
noncomputable def z38.sg (k : Nat) : Sig := ⟨QS53, (.cons (.own QK31) .nil), z38 k, []⟩
theorem z38.ok {L : List (Nat × Obj)} (k : Nat) : SigHolds Tryz.prog L 22 (z38.sg k) :=
  soe (C := ⟨Tryz.prog, [(32, [z140.sg k]), (33, [z142.sg k]), (34, [z60.sg k]), (54, [z131.sg k]), (35, [z11.sg k]), (55, [z10.sg k]), (56, [z103.sg k])], k, [], []⟩) (hc1 (z140.ok k) (hc1 (z142.ok k) (hc1 (z60.ok k) (hc1 (z131.ok k) (hc1 (z11.ok k) (hc1 (z10.ok k) (hc1 (z103.ok k) holds_nil))))))) Tryz.func22 { loops := [(0, [(1, QS27), (2, (.pur (.int .i64))), (3, (.box (.cons (.pur (.sl false .str)) (.cons (.pur (.sl false .str)) (.cons (.pur QK8) QS40))))), (7, (.own QK31)), (8, (.own (.int .i64))), (9, (.pur (.int .i64))), (10, (.pur (.int .i64))), (11, QS21), (12, (.pur (.sl false QK0))), (13, (.pur (.int .i64)))])], joins := [(10, [(45, .bool)]), (21, [(99, .bool)])], keys := [(14, [([3], false), ([], false), ([], false), ([8], false), ([8], false), ([14], false), ([], false), ([11], false), ([], false), ([], false), ([11, 71], true), ([], false), ([], false), ([], false), ([], false), ([], false), ([16], true), ([], false), ([16], true), ([], false), ([], false)])] } fun _ => by kernel_rfl
end Go.Pev.F
