/-
  Printed by gen.py: what functions of the program compute, and that they do.
-/
import Derived.Test.YtibhfjdhhdjjcaaGreatDoorK09
set_option linter.unusedSimpArgs false
set_option linter.unusedVariables false
open Go.Proofs Go.Pev
namespace Go.Pev.F
set_option maxRecDepth 100000
variable {L : List (Nat × Obj)}
noncomputable def z59.l0 (k : Nat) : E2 ((QT5 × Int × (Unit) × Unit) → Option ((Unit) × (QT5 × Unit × (Unit) × Unit))) := fun G0 x => match x with
 | ((m__0, m__1, m__2, m__3, m__4, m__5, m__6, m__7, m__8, m__9, m__10, m__11, m__12, m__13, ()), fuel, (()), ()) =>
  bd k (z48 k (m__3, ())) fun y1 =>
  br k (decide (m__7 < y1.1.1))
  (bd k (z117 k (())) fun y2 =>
  br k (m__11 == fuel)
  (some ((()), ((m__0, m__1, m__2, m__3, m__4, m__5, 2, m__7, m__8, m__9, m__10, m__11, m__12, m__13, ()), (), (()), ())))
  (bd k (z7 k ((m__0, m__1, m__2, m__3, m__4, m__5, m__6, m__7, m__8, m__9, m__10, IntKind.wrap .i64 (m__11 + 1), m__12, m__13, ()), ())) fun y3 =>
  br k (y3.1.1 != 0)
  (some ((()), ((y3.2.1.1, y3.2.1.2.1, y3.2.1.2.2.1, y3.2.1.2.2.2.1, y3.2.1.2.2.2.2.1, y3.2.1.2.2.2.2.2.1, y3.1.1, y3.2.1.2.2.2.2.2.2.2.1, y3.2.1.2.2.2.2.2.2.2.2.1, y3.2.1.2.2.2.2.2.2.2.2.2.1, y3.2.1.2.2.2.2.2.2.2.2.2.2.1, y3.2.1.2.2.2.2.2.2.2.2.2.2.2.1, y3.2.1.2.2.2.2.2.2.2.2.2.2.2.2.1, y3.2.1.2.2.2.2.2.2.2.2.2.2.2.2.2.1, ()), (), (()), ())))
  (G0 ((y3.2.1.1, y3.2.1.2.1, y3.2.1.2.2.1, y3.2.1.2.2.2.1, y3.2.1.2.2.2.2.1, y3.2.1.2.2.2.2.2.1, y3.1.1, y3.2.1.2.2.2.2.2.2.2.1, y3.2.1.2.2.2.2.2.2.2.2.1, y3.2.1.2.2.2.2.2.2.2.2.2.1, y3.2.1.2.2.2.2.2.2.2.2.2.2.1, y3.2.1.2.2.2.2.2.2.2.2.2.2.2.1, y3.2.1.2.2.2.2.2.2.2.2.2.2.2.2.1, y3.2.1.2.2.2.2.2.2.2.2.2.2.2.2.2.1, ()), fuel, (()), ()))))
  (bd k (z117 k (())) fun y4 =>
  some ((()), ((m__0, m__1, m__2, m__3, m__4, m__5, m__6, m__7, m__8, m__9, m__10, m__11, m__12, m__13, ()), (), (()), ())))
noncomputable def z59 (k : Nat) : (QT5 × Int × (Unit) × Unit) → Option ((Unit) × (QT5 × Unit × (Unit) × Unit)) := fun x => match x with
 | ((m__0, m__1, m__2, m__3, m__4, m__5, m__6, m__7, m__8, m__9, m__10, m__11, m__12, m__13, ()), fuel, (()), ()) =>
  iter (z59.l0 k) k ((m__0, m__1, m__2, m__3, m__4, m__5, m__6, m__7, m__8, m__9, m__10, m__11, m__12, m__13, ()), fuel, (()), ())
noncomputable def z59.sg (k : Nat) : Sig := ⟨(.cons QS3 (.cons (.pur (.int .i64)) (.cons (.fn (.func 41) 0 .nil) .nil))), .nil, z59 k, []⟩
theorem z59.ok (k : Nat) : SigHolds Tryz.prog L 40 (z59.sg k) :=
  soe (C := ⟨Tryz.prog, [(86, [z48.sg k]), (41, [z117.sg k]), (87, [z7.sg k])], k, [], []⟩) (hc1 (z48.ok k) (hc1 (z117.ok k) (hc1 (z7.ok k) holds_nil))) Tryz.func40 { loops := [(0, [(0, QS3), (1, (.pur (.int .i64))), (2, (.fn (.func 41) 0 .nil))])] } fun _ => by kernel_rfl
noncomputable def z139 (k : Nat) : QT51 → Option ((QT38 × Unit) × QT37) := fun x => match x with
 | (p, inputs, fuel, ()) =>
  bd k (z104 k (p, inputs, fuel, ())) fun y1 =>
  br k (!y1.1.1)
  (some (((1, 0, [], [], ([] : List (List Int)), 0, 0, ()), ()), ((), (), (), ())))
  (bd k (z105 k (p, inputs, ())) fun y2 =>
  bd k (z59 k ((y2.1.1.1, y2.1.1.2.1, y2.1.1.2.2.1, y2.1.1.2.2.2.1, y2.1.1.2.2.2.2.1, y2.1.1.2.2.2.2.2.1, y2.1.1.2.2.2.2.2.2.1, y2.1.1.2.2.2.2.2.2.2.1, y2.1.1.2.2.2.2.2.2.2.2.1, y2.1.1.2.2.2.2.2.2.2.2.2.1, y2.1.1.2.2.2.2.2.2.2.2.2.2.1, y2.1.1.2.2.2.2.2.2.2.2.2.2.2.1, y2.1.1.2.2.2.2.2.2.2.2.2.2.2.2.1, y2.1.1.2.2.2.2.2.2.2.2.2.2.2.2.2.1, ()), fuel, (()), ())) fun y3 =>
  some (((y3.2.1.2.2.2.2.2.2.1, y3.2.1.2.2.2.2.2.2.2.1, y3.2.1.2.2.2.2.2.2.2.2.1, y3.2.1.2.2.2.2.2.2.2.2.2.1, y3.2.1.2.2.2.2.2.2.2.2.2.2.1, y3.2.1.2.2.2.2.2.2.2.2.2.2.2.1, y3.2.1.2.2.2.2.2.2.2.2.2.2.2.2.1, ()), ()), ((), (), (), ())))
noncomputable def z139.sg (k : Nat) : Sig := ⟨QS64, (.cons (.agg (.cons (.pur (.int .i64)) (.cons (.pur (.int .i64)) (.cons (.own (.int .i64)) (.cons (.own .bool) (.cons (.rows (.own (.int .i64))) QS22)))))) .nil), z139 k, []⟩
theorem z139.ok (hSp : Lb.NeedSp L) (k : Nat) : SigHolds Tryz.prog L 10 (z139.sg k) :=
  soe (C := ⟨Tryz.prog, [(38, [z104.sg k]), (39, [z105.sg k]), (40, [z59.sg k])], k, [], []⟩) (hc1 (z104.ok hSp k) (hc1 (z105.ok k) (hc1 (z59.ok k) holds_nil))) Tryz.func10 {} fun _ => by kernel_rfl
end Go.Pev.F
