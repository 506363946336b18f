/-
  Printed by gen.py: what functions of the program compute, and that they do.
-/
import Derived.Test.YtibhfjdhhdjjcaaGreatDoorK09
set_option linter.unusedSimpArgs false
set_option linter.unusedVariables false
open Go.Proofs Go.Pev
namespace Go.Pev.F
set_option maxRecDepth 100000
noncomputable def z43.l0 (k : Nat) : E2 ((QT3 × Int × (Unit) × Unit) → Option ((Unit) × (QT3 × Unit × (Unit) × Unit))) := fun G0 x => match x with
 | ((m__0, m__1, m__2, m__3, m__4, m__5, m__6, m__7, m__8, m__9, m__10, m__11, m__12, m__13, ()), fuel, (()), ()) =>
  bd k (z107 k (m__3, ())) fun y1 =>
  br k (decide (m__7 < y1.1.1))
  (bd k (z93 k (())) fun y2 =>
  br k (m__11 == fuel)
  (some ((()), ((m__0, m__1, m__2, m__3, m__4, m__5, 2, m__7, m__8, m__9, m__10, m__11, m__12, m__13, ()), (), (()), ())))
  (bd k (z6 k ((m__0, m__1, m__2, m__3, m__4, m__5, m__6, m__7, m__8, m__9, m__10, IntKind.wrap .i64 (m__11 + 1), m__12, m__13, ()), ())) fun y3 =>
  br k (y3.1.1 != 0)
  (some ((()), ((y3.2.1.1, y3.2.1.2.1, y3.2.1.2.2.1, y3.2.1.2.2.2.1, y3.2.1.2.2.2.2.1, y3.2.1.2.2.2.2.2.1, y3.1.1, y3.2.1.2.2.2.2.2.2.2.1, y3.2.1.2.2.2.2.2.2.2.2.1, y3.2.1.2.2.2.2.2.2.2.2.2.1, y3.2.1.2.2.2.2.2.2.2.2.2.2.1, y3.2.1.2.2.2.2.2.2.2.2.2.2.2.1, y3.2.1.2.2.2.2.2.2.2.2.2.2.2.2.1, y3.2.1.2.2.2.2.2.2.2.2.2.2.2.2.2.1, ()), (), (()), ())))
  (G0 ((y3.2.1.1, y3.2.1.2.1, y3.2.1.2.2.1, y3.2.1.2.2.2.1, y3.2.1.2.2.2.2.1, y3.2.1.2.2.2.2.2.1, y3.1.1, y3.2.1.2.2.2.2.2.2.2.1, y3.2.1.2.2.2.2.2.2.2.2.1, y3.2.1.2.2.2.2.2.2.2.2.2.1, y3.2.1.2.2.2.2.2.2.2.2.2.2.1, y3.2.1.2.2.2.2.2.2.2.2.2.2.2.1, y3.2.1.2.2.2.2.2.2.2.2.2.2.2.2.1, y3.2.1.2.2.2.2.2.2.2.2.2.2.2.2.2.1, ()), fuel, (()), ()))))
  (bd k (z93 k (())) fun y4 =>
  some ((()), ((m__0, m__1, m__2, m__3, m__4, m__5, m__6, m__7, m__8, m__9, m__10, m__11, m__12, m__13, ()), (), (()), ())))
noncomputable def z43 (k : Nat) : (QT3 × Int × (Unit) × Unit) → Option ((Unit) × (QT3 × Unit × (Unit) × Unit)) := fun x => match x with
 | ((m__0, m__1, m__2, m__3, m__4, m__5, m__6, m__7, m__8, m__9, m__10, m__11, m__12, m__13, ()), fuel, (()), ()) =>
  iter (z43.l0 k) k ((m__0, m__1, m__2, m__3, m__4, m__5, m__6, m__7, m__8, m__9, m__10, m__11, m__12, m__13, ()), fuel, (()), ())
noncomputable def z43.sg (k : Nat) : Sig := ⟨(.cons QS2 (.cons (.pur (.int .i64)) (.cons (.fn (.func 41) 0 .nil) .nil))), .nil, z43 k, []⟩
theorem z43.ok {L : List (Nat × Obj)} (k : Nat) : SigHolds Tryz.prog L 40 (z43.sg k) :=
  soe (C := ⟨Tryz.prog, [(86, [z107.sg k]), (41, [z93.sg k]), (87, [z6.sg k])], k, [], []⟩) (hc1 (z107.ok k) (hc1 (z93.ok k) (hc1 (z6.ok k) holds_nil))) Tryz.func40 { loops := [(0, [(0, QS2), (1, (.pur (.int .i64))), (2, (.fn (.func 41) 0 .nil))])] } fun _ => by kernel_rfl
noncomputable def z95 (k : Nat) : QT44 → Option ((QT24 × Unit) × QT31) := fun x => match x with
 | (p, inputs, fuel, ()) =>
  bd k (z143 k (p, inputs, fuel, ())) fun y1 =>
  br k (!y1.1.1)
  (some (((1, 0, [], [], ([] : List (List Int)), 0, 0, ()), ()), ((), (), (), ())))
  (bd k (z170 k (p, inputs, ())) fun y2 =>
  bd k (z43 k ((y2.1.1.1, y2.1.1.2.1, y2.1.1.2.2.1, y2.1.1.2.2.2.1, y2.1.1.2.2.2.2.1, y2.1.1.2.2.2.2.2.1, y2.1.1.2.2.2.2.2.2.1, y2.1.1.2.2.2.2.2.2.2.1, y2.1.1.2.2.2.2.2.2.2.2.1, y2.1.1.2.2.2.2.2.2.2.2.2.1, y2.1.1.2.2.2.2.2.2.2.2.2.2.1, y2.1.1.2.2.2.2.2.2.2.2.2.2.2.1, y2.1.1.2.2.2.2.2.2.2.2.2.2.2.2.1, y2.1.1.2.2.2.2.2.2.2.2.2.2.2.2.2.1, ()), fuel, (()), ())) fun y3 =>
  some (((y3.2.1.2.2.2.2.2.2.1, y3.2.1.2.2.2.2.2.2.2.1, y3.2.1.2.2.2.2.2.2.2.2.1, y3.2.1.2.2.2.2.2.2.2.2.2.1, y3.2.1.2.2.2.2.2.2.2.2.2.2.1, y3.2.1.2.2.2.2.2.2.2.2.2.2.2.1, y3.2.1.2.2.2.2.2.2.2.2.2.2.2.2.1, ()), ()), ((), (), (), ())))
noncomputable def z95.sg (k : Nat) : Sig := ⟨QS49, (.cons (.agg (.cons (.pur (.int .i64)) (.cons (.pur (.int .i64)) (.cons (.own (.int .i64)) (.cons (.own .bool) (.cons (.rows (.own (.int .i64))) QS15)))))) .nil), z95 k, []⟩
theorem z95.ok {L : List (Nat × Obj)} (hSp : Lb.NeedSp L) (k : Nat) : SigHolds Tryz.prog L 10 (z95.sg k) :=
  soe (C := ⟨Tryz.prog, [(38, [z143.sg k]), (39, [z170.sg k]), (40, [z43.sg k])], k, [], []⟩) (hc1 (z143.ok hSp k) (hc1 (z170.ok k) (hc1 (z43.ok k) holds_nil))) Tryz.func10 {} fun _ => by kernel_rfl
noncomputable def z19.l0 (k : Nat) : E2 (((List Int) × (List Int) × Int × Unit) → Option QT17) := fun G0 x => match x with
 | (a, b_, i, ()) =>
  br k (decide (i < (a.length : Int)))
  (br k (decide (0 ≤ i))
  (bd k (a[i.toNat]?) fun x1 =>
  br k (decide (0 ≤ i))
  (bd k (b_[i.toNat]?) fun x2 =>
  br k (x1 != x2)
  (some ((false, ()), ((), (), ())))
  (G0 (a, b_, IntKind.wrap .i64 (i + 1), ())))
  none)
  none)
  (some ((true, ()), ((), (), ())))
noncomputable def z19 (k : Nat) : ((List Int) × (List Int) × Unit) → Option QT17 := fun x => match x with
 | (a, b_, ()) =>
  br k ((a.length : Int) != (b_.length : Int))
  (some ((false, ()), ((), (), ())))
  (iter (z19.l0 k) k (a, b_, 0, ()))
noncomputable def z19.sg (k : Nat) : Sig := ⟨(.cons QS20 (.cons QS20 .nil)), QS13, z19 k, []⟩
theorem z19.ok {L : List (Nat × Obj)} (k : Nat) : SigHolds Tryz.prog L 13 (z19.sg k) :=
  soe (C := ⟨Tryz.prog, [], k, [], []⟩) holds_nil Tryz.func13 { loops := [(0, [(0, QS20), (1, QS20), (5, (.pur (.int .i64)))])] } fun _ => by kernel_rfl
noncomputable def z67.l0 (k : Nat) : E2 (((List Bool) × (List Bool) × Int × Unit) → Option QT17) := fun G0 x => match x with
 | (a, b_, i, ()) =>
  br k (decide (i < (a.length : Int)))
  (br k (decide (0 ≤ i))
  (bd k (a[i.toNat]?) fun x1 =>
  br k (decide (0 ≤ i))
  (bd k (b_[i.toNat]?) fun x2 =>
  br k (!(x1 == x2))
  (some ((false, ()), ((), (), ())))
  (G0 (a, b_, IntKind.wrap .i64 (i + 1), ())))
  none)
  none)
  (some ((true, ()), ((), (), ())))
noncomputable def z67 (k : Nat) : ((List Bool) × (List Bool) × Unit) → Option QT17 := fun x => match x with
 | (a, b_, ()) =>
  br k ((a.length : Int) != (b_.length : Int))
  (some ((false, ()), ((), (), ())))
  (iter (z67.l0 k) k (a, b_, 0, ()))
noncomputable def z67.sg (k : Nat) : Sig := ⟨(.cons QS45 (.cons QS45 .nil)), QS13, z67 k, []⟩
theorem z67.ok {L : List (Nat × Obj)} (k : Nat) : SigHolds Tryz.prog L 88 (z67.sg k) :=
  soe (C := ⟨Tryz.prog, [], k, [], []⟩) holds_nil Tryz.func88 { loops := [(0, [(0, QS45), (1, QS45), (5, (.pur (.int .i64)))])] } fun _ => by kernel_rfl
noncomputable def z68.l0 (k : Nat) : E2 (((List (List Int)) × (List (List Int)) × Int × Unit) → Option QT17) := fun G0 x => match x with
 | (a, b_, i, ()) =>
  br k (decide (i < (a.length : Int)))
  (br k (decide (0 ≤ i))
  (bd k (a[i.toNat]?) fun x1 =>
  br k (decide (0 ≤ i))
  (bd k (b_[i.toNat]?) fun x2 =>
  bd k (z19 k (x1, x2, ())) fun y3 =>
  br k (!y3.1.1)
  (some ((false, ()), ((), (), ())))
  (G0 (a, b_, IntKind.wrap .i64 (i + 1), ())))
  none)
  none)
  (some ((true, ()), ((), (), ())))
noncomputable def z68 (k : Nat) : ((List (List Int)) × (List (List Int)) × Unit) → Option QT17 := fun x => match x with
 | (a, b_, ()) =>
  br k ((a.length : Int) != (b_.length : Int))
  (some ((false, ()), ((), (), ())))
  (iter (z68.l0 k) k (a, b_, 0, ()))
noncomputable def z68.sg (k : Nat) : Sig := ⟨(.cons QS36 (.cons QS36 .nil)), QS13, z68 k, []⟩
theorem z68.ok {L : List (Nat × Obj)} (k : Nat) : SigHolds Tryz.prog L 89 (z68.sg k) :=
  soe (C := ⟨Tryz.prog, [(13, [z19.sg k])], k, [], []⟩) (hc1 (z19.ok k) holds_nil) Tryz.func89 { loops := [(0, [(0, QS36), (1, QS36), (5, (.pur (.int .i64)))])] } fun _ => by kernel_rfl
noncomputable def z150 (k : Nat) : (QT8 × QT8 × Unit) → Option QT17 := fun x => match x with
 | (a, b_, ()) =>
  bd k (z19 k (a.1, b_.1, ())) fun y1 =>
  br k (!y1.1.1)
  (some ((false, ()), ((), (), ())))
  (bd k (z67 k (a.2.1, b_.2.1, ())) fun y2 =>
  br k (!y2.1.1)
  (some ((false, ()), ((), (), ())))
  (bd k (z68 k (a.2.2.1, b_.2.2.1, ())) fun y3 =>
  br k (!y3.1.1)
  (some ((false, ()), ((), (), ())))
  (some ((true, ()), ((), (), ())))))
noncomputable def z150.sg (k : Nat) : Sig := ⟨(.cons QS18 (.cons QS18 .nil)), QS13, z150 k, []⟩
theorem z150.ok {L : List (Nat × Obj)} (k : Nat) : SigHolds Tryz.prog L 42 (z150.sg k) :=
  soe (C := ⟨Tryz.prog, [(13, [z19.sg k]), (88, [z67.sg k]), (89, [z68.sg k])], k, [], []⟩) (hc1 (z19.ok k) (hc1 (z67.ok k) (hc1 (z68.ok k) holds_nil))) Tryz.func42 {} fun _ => by kernel_rfl
noncomputable def z92 (k : Nat) : (QT24 × QT24 × Unit) → Option QT17 := fun x => match x with
 | (a, b_, ()) =>
  br k (a.1 != b_.1)
  (some ((false, ()), ((), (), ())))
  (br k (a.2.1 != b_.2.1)
  (some ((false, ()), ((), (), ())))
  (bd k (z150 k ((a.2.2.1, a.2.2.2.1, a.2.2.2.2.1, ()), (b_.2.2.1, b_.2.2.2.1, b_.2.2.2.2.1, ()), ())) fun y1 =>
  br k (!y1.1.1)
  (some ((false, ()), ((), (), ())))
  (br k (a.2.2.2.2.2.1 != b_.2.2.2.2.2.1)
  (some ((false, ()), ((), (), ())))
  (br k (a.2.2.2.2.2.2.1 != b_.2.2.2.2.2.2.1)
  (some ((false, ()), ((), (), ())))
  (some ((true, ()), ((), (), ())))))))
noncomputable def z92.sg (k : Nat) : Sig := ⟨(.cons QS29 (.cons QS29 .nil)), QS13, z92 k, []⟩
theorem z92.ok {L : List (Nat × Obj)} (k : Nat) : SigHolds Tryz.prog L 11 (z92.sg k) :=
  soe (C := ⟨Tryz.prog, [(42, [z150.sg k])], k, [], []⟩) (hc1 (z150.ok k) holds_nil) Tryz.func11 {} fun _ => by kernel_rfl
noncomputable def z44.l0 (k : Nat) : E2 (((List (List UInt8)) × (List (List UInt8)) × Int × Unit) → Option QT17) := fun G0 x => match x with
 | (a, b_, i, ()) =>
  br k (decide (i < (a.length : Int)))
  (br k (decide (0 ≤ i))
  (bd k (a[i.toNat]?) fun x1 =>
  br k (decide (0 ≤ i))
  (bd k (b_[i.toNat]?) fun x2 =>
  br k (!(x1 == x2))
  (some ((false, ()), ((), (), ())))
  (G0 (a, b_, IntKind.wrap .i64 (i + 1), ())))
  none)
  none)
  (some ((true, ()), ((), (), ())))
noncomputable def z44 (k : Nat) : ((List (List UInt8)) × (List (List UInt8)) × Unit) → Option QT17 := fun x => match x with
 | (a, b_, ()) =>
  br k ((a.length : Int) != (b_.length : Int))
  (some ((false, ()), ((), (), ())))
  (iter (z44.l0 k) k (a, b_, 0, ()))
noncomputable def z44.sg (k : Nat) : Sig := ⟨(.cons (.pur (.sl false .str)) (.cons (.pur (.sl false .str)) .nil)), QS13, z44 k, []⟩
theorem z44.ok {L : List (Nat × Obj)} (k : Nat) : SigHolds Tryz.prog L 90 (z44.sg k) :=
  soe (C := ⟨Tryz.prog, [], k, [], []⟩) holds_nil Tryz.func90 { loops := [(0, [(0, (.pur (.sl false .str))), (1, (.pur (.sl false .str))), (5, (.pur (.int .i64)))])] } fun _ => by kernel_rfl
noncomputable def z151 (k : Nat) : (QT22 × QT22 × Unit) → Option QT17 := fun x => match x with
 | (a, b_, ()) =>
  br k (!(a.1 == b_.1))
  (some ((false, ()), ((), (), ())))
  (br k (a.2.1 != b_.2.1)
  (some ((false, ()), ((), (), ())))
  (some ((true, ()), ((), (), ()))))
noncomputable def z151.sg (k : Nat) : Sig := ⟨(.cons (.pur QK28) (.cons (.pur QK28) .nil)), QS13, z151 k, []⟩
theorem z151.ok {L : List (Nat × Obj)} (k : Nat) : SigHolds Tryz.prog L 138 (z151.sg k) :=
  soe (C := ⟨Tryz.prog, [], k, [], []⟩) holds_nil Tryz.func138 {} fun _ => by kernel_rfl
noncomputable def z69.l0 (k : Nat) : E2 (((List QT22) × (List QT22) × Int × Unit) → Option QT17) := fun G0 x => match x with
 | (a, b_, i, ()) =>
  br k (decide (i < (a.length : Int)))
  (br k (decide (0 ≤ i))
  (bd k (a[i.toNat]?) fun x1 =>
  br k (decide (0 ≤ i))
  (bd k (b_[i.toNat]?) fun x2 =>
  bd k (z151 k (x1, x2, ())) fun y3 =>
  br k (!y3.1.1)
  (some ((false, ()), ((), (), ())))
  (G0 (a, b_, IntKind.wrap .i64 (i + 1), ())))
  none)
  none)
  (some ((true, ()), ((), (), ())))
noncomputable def z69 (k : Nat) : ((List QT22) × (List QT22) × Unit) → Option QT17 := fun x => match x with
 | (a, b_, ()) =>
  br k ((a.length : Int) != (b_.length : Int))
  (some ((false, ()), ((), (), ())))
  (iter (z69.l0 k) k (a, b_, 0, ()))
noncomputable def z69.sg (k : Nat) : Sig := ⟨(.cons (.pur QK7) (.cons (.pur QK7) .nil)), QS13, z69 k, []⟩
theorem z69.ok {L : List (Nat × Obj)} (k : Nat) : SigHolds Tryz.prog L 91 (z69.sg k) :=
  soe (C := ⟨Tryz.prog, [(138, [z151.sg k])], k, [], []⟩) (hc1 (z151.ok k) holds_nil) Tryz.func91 { loops := [(0, [(0, (.pur QK7)), (1, (.pur QK7)), (5, (.pur (.int .i64)))])] } fun _ => by kernel_rfl
noncomputable def z153 (k : Nat) : (QT5 × QT5 × Unit) → Option QT17 := fun x => match x with
 | (a, b_, ()) =>
  bd k (z44 k (a.1, b_.1, ())) fun y1 =>
  br k (!y1.1.1)
  (some ((false, ()), ((), (), ())))
  (bd k (z44 k (a.2.1, b_.2.1, ())) fun y2 =>
  br k (!y2.1.1)
  (some ((false, ()), ((), (), ())))
  (bd k (z69 k (a.2.2.1, b_.2.2.1, ())) fun y3 =>
  br k (!y3.1.1)
  (some ((false, ()), ((), (), ())))
  (some ((true, ()), ((), (), ())))))
noncomputable def z153.sg (k : Nat) : Sig := ⟨(.cons QS11 (.cons QS11 .nil)), QS13, z153 k, []⟩
theorem z153.ok {L : List (Nat × Obj)} (k : Nat) : SigHolds Tryz.prog L 43 (z153.sg k) :=
  soe (C := ⟨Tryz.prog, [(90, [z44.sg k]), (91, [z69.sg k])], k, [], []⟩) (hc1 (z44.ok k) (hc1 (z69.ok k) holds_nil)) Tryz.func43 {} fun _ => by kernel_rfl
noncomputable def z155 (k : Nat) : ((Int × Int × Unit) × (Int × Int × Unit) × Unit) → Option QT17 := fun x => match x with
 | (a, b_, ()) =>
  br k (a.1 != b_.1)
  (some ((false, ()), ((), (), ())))
  (br k (a.2.1 != b_.2.1)
  (some ((false, ()), ((), (), ())))
  (some ((true, ()), ((), (), ()))))
noncomputable def z155.sg (k : Nat) : Sig := ⟨(.cons (.pur QK6) (.cons (.pur QK6) .nil)), QS13, z155 k, []⟩
theorem z155.ok {L : List (Nat × Obj)} (k : Nat) : SigHolds Tryz.prog L 193 (z155.sg k) :=
  soe (C := ⟨Tryz.prog, [], k, [], []⟩) holds_nil Tryz.func193 {} fun _ => by kernel_rfl
noncomputable def z45.l0 (k : Nat) : E2 ((QT19 × QT19 × Int × Unit) → Option QT17) := fun G0 x => match x with
 | (a, b_, i, ()) =>
  br k (decide (i < (a.length : Int)))
  (br k (decide (0 ≤ i))
  (bd k (a[i.toNat]?) fun x1 =>
  br k (decide (0 ≤ i))
  (bd k (b_[i.toNat]?) fun x2 =>
  bd k (z155 k (x1, x2, ())) fun y3 =>
  br k (!y3.1.1)
  (some ((false, ()), ((), (), ())))
  (G0 (a, b_, IntKind.wrap .i64 (i + 1), ())))
  none)
  none)
  (some ((true, ()), ((), (), ())))
noncomputable def z45 (k : Nat) : (QT19 × QT19 × Unit) → Option QT17 := fun x => match x with
 | (a, b_, ()) =>
  br k ((a.length : Int) != (b_.length : Int))
  (some ((false, ()), ((), (), ())))
  (iter (z45.l0 k) k (a, b_, 0, ()))
noncomputable def z45.sg (k : Nat) : Sig := ⟨(.cons (.pur (.sl false QK6)) QS37), QS13, z45 k, []⟩
theorem z45.ok {L : List (Nat × Obj)} (k : Nat) : SigHolds Tryz.prog L 139 (z45.sg k) :=
  soe (C := ⟨Tryz.prog, [(193, [z155.sg k])], k, [], []⟩) (hc1 (z155.ok k) holds_nil) Tryz.func139 { loops := [(0, [(0, (.pur (.sl false QK6))), (1, (.pur (.sl false QK6))), (5, (.pur (.int .i64)))])] } fun _ => by kernel_rfl
noncomputable def z156 (k : Nat) : (QT1 × QT1 × Unit) → Option QT17 := fun x => match x with
 | (a, b_, ()) =>
  br k (a.1 != b_.1)
  (some ((false, ()), ((), (), ())))
  (br k (a.2.1 != b_.2.1)
  (some ((false, ()), ((), (), ())))
  (bd k (z45 k (a.2.2.1, b_.2.2.1, ())) fun y1 =>
  br k (!y1.1.1)
  (some ((false, ()), ((), (), ())))
  (bd k (z45 k (a.2.2.2.1, b_.2.2.2.1, ())) fun y2 =>
  br k (!y2.1.1)
  (some ((false, ()), ((), (), ())))
  (br k (a.2.2.2.2.1 != b_.2.2.2.2.1)
  (some ((false, ()), ((), (), ())))
  (br k (a.2.2.2.2.2.1 != b_.2.2.2.2.2.1)
  (some ((false, ()), ((), (), ())))
  (some ((true, ()), ((), (), ()))))))))
noncomputable def z156.sg (k : Nat) : Sig := ⟨(.cons (.pur QK0) (.cons (.pur QK0) .nil)), QS13, z156 k, []⟩
theorem z156.ok {L : List (Nat × Obj)} (k : Nat) : SigHolds Tryz.prog L 92 (z156.sg k) :=
  soe (C := ⟨Tryz.prog, [(139, [z45.sg k])], k, [], []⟩) (hc1 (z45.ok k) holds_nil) Tryz.func92 {} fun _ => by kernel_rfl
noncomputable def z70.l0 (k : Nat) : E2 (((List QT1) × (List QT1) × Int × Unit) → Option QT17) := fun G0 x => match x with
 | (a, b_, i, ()) =>
  br k (decide (i < (a.length : Int)))
  (br k (decide (0 ≤ i))
  (bd k (a[i.toNat]?) fun x1 =>
  br k (decide (0 ≤ i))
  (bd k (b_[i.toNat]?) fun x2 =>
  bd k (z156 k (x1, x2, ())) fun y3 =>
  br k (!y3.1.1)
  (some ((false, ()), ((), (), ())))
  (G0 (a, b_, IntKind.wrap .i64 (i + 1), ())))
  none)
  none)
  (some ((true, ()), ((), (), ())))
noncomputable def z70 (k : Nat) : ((List QT1) × (List QT1) × Unit) → Option QT17 := fun x => match x with
 | (a, b_, ()) =>
  br k ((a.length : Int) != (b_.length : Int))
  (some ((false, ()), ((), (), ())))
  (iter (z70.l0 k) k (a, b_, 0, ()))
noncomputable def z70.sg (k : Nat) : Sig := ⟨(.cons (.pur (.sl false QK0)) QS38), QS13, z70 k, []⟩
theorem z70.ok {L : List (Nat × Obj)} (k : Nat) : SigHolds Tryz.prog L 44 (z70.sg k) :=
  soe (C := ⟨Tryz.prog, [(92, [z156.sg k])], k, [], []⟩) (hc1 (z156.ok k) holds_nil) Tryz.func44 { loops := [(0, [(0, (.pur (.sl false QK0))), (1, (.pur (.sl false QK0))), (5, (.pur (.int .i64)))])] } fun _ => by kernel_rfl
noncomputable def z117 (k : Nat) : (QT9 × QT9 × Unit) → Option QT17 := fun x => match x with
 | (a, b_, ()) =>
  bd k (z153 k ((a.1, a.2.1, a.2.2.1, ()), (b_.1, b_.2.1, b_.2.2.1, ()), ())) fun y1 =>
  br k (!y1.1.1)
  (some ((false, ()), ((), (), ())))
  (bd k (z70 k (a.2.2.2.1, b_.2.2.2.1, ())) fun y2 =>
  br k (!y2.1.1)
  (some ((false, ()), ((), (), ())))
  (some ((true, ()), ((), (), ()))))
noncomputable def z117.sg (k : Nat) : Sig := ⟨(.cons QS12 (.cons QS12 .nil)), QS13, z117 k, []⟩
theorem z117.ok {L : List (Nat × Obj)} (k : Nat) : SigHolds Tryz.prog L 12 (z117.sg k) :=
  soe (C := ⟨Tryz.prog, [(43, [z153.sg k]), (44, [z70.sg k])], k, [], []⟩) (hc1 (z153.ok k) (hc1 (z70.ok k) holds_nil)) Tryz.func12 {} fun _ => by kernel_rfl
noncomputable def z23.l0 (k : Nat) : E2 ((Int × (List UInt8) × Unit) → Option (((List UInt8) × Unit) × (Unit × Unit))) := fun G0 x => match x with
 | (k_, out_, ()) =>
  br k (decide (k_ > 0))
  (br k (!decide ((10 : Int) = 0))
  (br k (decide ((((([IntKind.wrap .u8 (IntKind.wrap .i64 (48 + (k_.tmod 10)))] : List Int).map (fun n : Int => UInt8.ofNat n.toNat)).length + out_.length : Nat) : Int) ≤ maxInt64))
  (br k (!decide ((10 : Int) = 0))
  (G0 (IntKind.wrap .i64 (k_.tdiv 10), (([IntKind.wrap .u8 (IntKind.wrap .i64 (48 + (k_.tmod 10)))] : List Int).map (fun n : Int => UInt8.ofNat n.toNat)) ++ out_, ()))
  none)
  none)
  none)
  (br k (decide (((([109] : List UInt8).length + out_.length : Nat) : Int) ≤ maxInt64))
  (some ((([109] : List UInt8) ++ out_, ()), ((), ())))
  none)
noncomputable def z23 (k : Nat) : (Int × Unit) → Option (((List UInt8) × Unit) × (Unit × Unit)) := fun x => match x with
 | (k_, ()) =>
  br k (decide (k_ ≤ 0))
  (some (([109, 48], ()), ((), ())))
  (iter (z23.l0 k) k (k_, [], ()))
noncomputable def z23.sg (k : Nat) : Sig := ⟨QS4, QS42, z23 k, []⟩
theorem z23.ok {L : List (Nat × Obj)} (k : Nat) : SigHolds Tryz.prog L 140 (z23.sg k) :=
  soe (C := ⟨Tryz.prog, [], k, [], []⟩) holds_nil Tryz.func140 { loops := [(0, [(0, (.pur (.int .i64))), (3, (.pur .str))])] } fun _ => by kernel_rfl
noncomputable def z71.l0 (k : Nat) : E2 (((List (List UInt8)) × Int × Int × Unit) → Option ((Int × Unit) × ((List (List UInt8)) × Unit × Unit))) := fun G0 x => match x with
 | (a, k_, i, ()) =>
  br k (decide (i < (a.length : Int)))
  (bd k (z23 k (k_, ())) fun y1 =>
  br k (decide (0 ≤ i ∧ i < (a.length : Int)))
  (bd k (a[i.toNat]?) fun x2 =>
  G0 (a.set i.toNat y1.1.1, IntKind.wrap .i64 (k_ + 1), IntKind.wrap .i64 (i + 1), ()))
  none)
  (some ((k_, ()), (a, (), ())))
noncomputable def z71 (k : Nat) : ((List (List UInt8)) × Int × Unit) → Option ((Int × Unit) × ((List (List UInt8)) × Unit × Unit)) := fun x => match x with
 | (a, k_, ()) =>
  iter (z71.l0 k) k (a, k_, 0, ())
noncomputable def z71.sg (k : Nat) : Sig := ⟨(.cons (.row .str) QS4), QS4, z71 k, []⟩
theorem z71.ok {L : List (Nat × Obj)} (k : Nat) : SigHolds Tryz.prog L 93 (z71.sg k) :=
  soe (C := ⟨Tryz.prog, [(140, [z23.sg k])], k, [], []⟩) (hc1 (z23.ok k) holds_nil) Tryz.func93 { loops := [(0, [(0, (.own .str)), (1, (.pur (.int .i64))), (5, (.pur (.int .i64)))])] } fun _ => by kernel_rfl
noncomputable def z79.l0 (k : Nat) : E2 (((List QT22) × Int × Int × Unit) → Option ((Int × Unit) × ((List QT22) × Unit × Unit))) := fun G0 x => match x with
 | (a, k_, i, ()) =>
  br k (decide (i < (a.length : Int)))
  (bd k (z23 k (k_, ())) fun y1 =>
  br k (decide (0 ≤ i ∧ i < (a.length : Int)))
  (bd k (a[i.toNat]?) fun x2 =>
  br k (decide (0 ≤ i ∧ i < ((a.set i.toNat (y1.1.1, x2.2.1, ())).length : Int)))
  (bd k ((a.set i.toNat (y1.1.1, x2.2.1, ()))[i.toNat]?) fun x3 =>
  G0 ((a.set i.toNat (y1.1.1, x2.2.1, ())).set i.toNat (x3.1, IntKind.wrap .i64 (k_ + 1), ()), IntKind.wrap .i64 ((IntKind.wrap .i64 (k_ + 1)) + 1), IntKind.wrap .i64 (i + 1), ()))
  none)
  none)
  (some ((k_, ()), (a, (), ())))
noncomputable def z79 (k : Nat) : ((List QT22) × Int × Unit) → Option ((Int × Unit) × ((List QT22) × Unit × Unit)) := fun x => match x with
 | (a, k_, ()) =>
  iter (z79.l0 k) k (a, k_, 0, ())
noncomputable def z79.sg (k : Nat) : Sig := ⟨(.cons (.row QK28) QS4), QS4, z79 k, []⟩
theorem z79.ok {L : List (Nat × Obj)} (k : Nat) : SigHolds Tryz.prog L 94 (z79.sg k) :=
  soe (C := ⟨Tryz.prog, [(140, [z23.sg k])], k, [], []⟩) (hc1 (z23.ok k) holds_nil) Tryz.func94 { loops := [(0, [(0, (.own QK28)), (1, (.pur (.int .i64))), (5, (.pur (.int .i64)))])] } fun _ => by kernel_rfl
noncomputable def z157 (k : Nat) : (QT5 × Int × Unit) → Option ((Int × Unit) × (QT5 × Unit × Unit)) := fun x => match x with
 | ((a_0, a_1, a_2, ()), k_, ()) =>
  bd k (z71 k (a_0, k_, ())) fun y1 =>
  bd k (z71 k (a_1, y1.1.1, ())) fun y2 =>
  bd k (z79 k (a_2, y2.1.1, ())) fun y3 =>
  some ((y3.1.1, ()), ((y1.2.1, y2.2.1, y3.2.1, ()), (), ()))
noncomputable def z157.sg (k : Nat) : Sig := ⟨(.cons (.agg (.cons (.row .str) (.cons (.row .str) (.cons (.row QK28) .nil)))) QS4), QS4, z157 k, []⟩
theorem z157.ok {L : List (Nat × Obj)} (k : Nat) : SigHolds Tryz.prog L 45 (z157.sg k) :=
  soe (C := ⟨Tryz.prog, [(93, [z71.sg k]), (94, [z79.sg k])], k, [], []⟩) (hc1 (z71.ok k) (hc1 (z79.ok k) holds_nil)) Tryz.func45 {} fun _ => by kernel_rfl
noncomputable def z72.l0 (k : Nat) : E2 ((QT19 × Int × Int × Unit) → Option ((Int × Unit) × (QT19 × Unit × Unit))) := fun G0 x => match x with
 | (a, k_, i, ()) =>
  br k (decide (i < (a.length : Int)))
  (br k (decide (0 ≤ i ∧ i < (a.length : Int)))
  (bd k (a[i.toNat]?) fun x1 =>
  br k (decide (0 ≤ i ∧ i < ((a.set i.toNat (k_, x1.2.1, ())).length : Int)))
  (bd k ((a.set i.toNat (k_, x1.2.1, ()))[i.toNat]?) fun x2 =>
  G0 ((a.set i.toNat (k_, x1.2.1, ())).set i.toNat (x2.1, IntKind.wrap .i64 (k_ + 1), ()), IntKind.wrap .i64 ((IntKind.wrap .i64 (k_ + 1)) + 1), IntKind.wrap .i64 (i + 1), ()))
  none)
  none)
  (some ((k_, ()), (a, (), ())))
noncomputable def z72 (k : Nat) : (QT19 × Int × Unit) → Option ((Int × Unit) × (QT19 × Unit × Unit)) := fun x => match x with
 | (a, k_, ()) =>
  iter (z72.l0 k) k (a, k_, 0, ())
noncomputable def z72.sg (k : Nat) : Sig := ⟨(.cons (.row QK6) QS4), QS4, z72 k, []⟩
theorem z72.ok {L : List (Nat × Obj)} (k : Nat) : SigHolds Tryz.prog L 95 (z72.sg k) :=
  soe (C := ⟨Tryz.prog, [], k, [], []⟩) holds_nil Tryz.func95 { loops := [(0, [(0, (.own QK6)), (1, (.pur (.int .i64))), (5, (.pur (.int .i64)))])] } fun _ => by kernel_rfl
noncomputable def z80.l0 (k : Nat) : E2 (((List QT1) × Int × Int × Unit) → Option ((Int × Unit) × ((List QT1) × Unit × Unit))) := fun G0 x => match x with
 | (a, k_, i, ()) =>
  br k (decide (i < (a.length : Int)))
  (br k (decide (0 ≤ i ∧ i < (a.length : Int)))
  (bd k (a[i.toNat]?) fun x1 =>
  br k (decide (0 ≤ i ∧ i < ((a.set i.toNat (k_, x1.2.1, x1.2.2.1, x1.2.2.2.1, x1.2.2.2.2.1, x1.2.2.2.2.2.1, ())).length : Int)))
  (bd k ((a.set i.toNat (k_, x1.2.1, x1.2.2.1, x1.2.2.2.1, x1.2.2.2.2.1, x1.2.2.2.2.2.1, ()))[i.toNat]?) fun x2 =>
  br k (decide (0 ≤ i ∧ i < (((a.set i.toNat (k_, x1.2.1, x1.2.2.1, x1.2.2.2.1, x1.2.2.2.2.1, x1.2.2.2.2.2.1, ())).set i.toNat (x2.1, IntKind.wrap .i64 (k_ + 1), x2.2.2.1, x2.2.2.2.1, x2.2.2.2.2.1, x2.2.2.2.2.2.1, ())).length : Int)))
  (bd k (((a.set i.toNat (k_, x1.2.1, x1.2.2.1, x1.2.2.2.1, x1.2.2.2.2.1, x1.2.2.2.2.2.1, ())).set i.toNat (x2.1, IntKind.wrap .i64 (k_ + 1), x2.2.2.1, x2.2.2.2.1, x2.2.2.2.2.1, x2.2.2.2.2.2.1, ()))[i.toNat]?) fun x3 =>
  bd k (z72 k (x3.2.2.1, IntKind.wrap .i64 ((IntKind.wrap .i64 (k_ + 1)) + 1), ())) fun y4 =>
  br k (decide (0 ≤ i ∧ i < (((a.set i.toNat (k_, x1.2.1, x1.2.2.1, x1.2.2.2.1, x1.2.2.2.2.1, x1.2.2.2.2.2.1, ())).set i.toNat (x2.1, IntKind.wrap .i64 (k_ + 1), x2.2.2.1, x2.2.2.2.1, x2.2.2.2.2.1, x2.2.2.2.2.2.1, ())).length : Int)))
  (bd k ((((a.set i.toNat (k_, x1.2.1, x1.2.2.1, x1.2.2.2.1, x1.2.2.2.2.1, x1.2.2.2.2.2.1, ())).set i.toNat (x2.1, IntKind.wrap .i64 (k_ + 1), x2.2.2.1, x2.2.2.2.1, x2.2.2.2.2.1, x2.2.2.2.2.2.1, ())).set i.toNat (x3.1, x3.2.1, y4.2.1, x3.2.2.2.1, x3.2.2.2.2.1, x3.2.2.2.2.2.1, ()))[i.toNat]?) fun x5 =>
  bd k (z72 k (x5.2.2.2.1, y4.1.1, ())) fun y6 =>
  br k (decide (0 ≤ i ∧ i < ((((a.set i.toNat (k_, x1.2.1, x1.2.2.1, x1.2.2.2.1, x1.2.2.2.2.1, x1.2.2.2.2.2.1, ())).set i.toNat (x2.1, IntKind.wrap .i64 (k_ + 1), x2.2.2.1, x2.2.2.2.1, x2.2.2.2.2.1, x2.2.2.2.2.2.1, ())).set i.toNat (x3.1, x3.2.1, y4.2.1, x3.2.2.2.1, x3.2.2.2.2.1, x3.2.2.2.2.2.1, ())).length : Int)))
  (bd k (((((a.set i.toNat (k_, x1.2.1, x1.2.2.1, x1.2.2.2.1, x1.2.2.2.2.1, x1.2.2.2.2.2.1, ())).set i.toNat (x2.1, IntKind.wrap .i64 (k_ + 1), x2.2.2.1, x2.2.2.2.1, x2.2.2.2.2.1, x2.2.2.2.2.2.1, ())).set i.toNat (x3.1, x3.2.1, y4.2.1, x3.2.2.2.1, x3.2.2.2.2.1, x3.2.2.2.2.2.1, ())).set i.toNat (x5.1, x5.2.1, x5.2.2.1, y6.2.1, x5.2.2.2.2.1, x5.2.2.2.2.2.1, ()))[i.toNat]?) fun x7 =>
  br k (decide (0 ≤ i ∧ i < ((((((a.set i.toNat (k_, x1.2.1, x1.2.2.1, x1.2.2.2.1, x1.2.2.2.2.1, x1.2.2.2.2.2.1, ())).set i.toNat (x2.1, IntKind.wrap .i64 (k_ + 1), x2.2.2.1, x2.2.2.2.1, x2.2.2.2.2.1, x2.2.2.2.2.2.1, ())).set i.toNat (x3.1, x3.2.1, y4.2.1, x3.2.2.2.1, x3.2.2.2.2.1, x3.2.2.2.2.2.1, ())).set i.toNat (x5.1, x5.2.1, x5.2.2.1, y6.2.1, x5.2.2.2.2.1, x5.2.2.2.2.2.1, ())).set i.toNat (x7.1, x7.2.1, x7.2.2.1, x7.2.2.2.1, y6.1.1, x7.2.2.2.2.2.1, ())).length : Int)))
  (bd k ((((((a.set i.toNat (k_, x1.2.1, x1.2.2.1, x1.2.2.2.1, x1.2.2.2.2.1, x1.2.2.2.2.2.1, ())).set i.toNat (x2.1, IntKind.wrap .i64 (k_ + 1), x2.2.2.1, x2.2.2.2.1, x2.2.2.2.2.1, x2.2.2.2.2.2.1, ())).set i.toNat (x3.1, x3.2.1, y4.2.1, x3.2.2.2.1, x3.2.2.2.2.1, x3.2.2.2.2.2.1, ())).set i.toNat (x5.1, x5.2.1, x5.2.2.1, y6.2.1, x5.2.2.2.2.1, x5.2.2.2.2.2.1, ())).set i.toNat (x7.1, x7.2.1, x7.2.2.1, x7.2.2.2.1, y6.1.1, x7.2.2.2.2.2.1, ()))[i.toNat]?) fun x8 =>
  G0 ((((((a.set i.toNat (k_, x1.2.1, x1.2.2.1, x1.2.2.2.1, x1.2.2.2.2.1, x1.2.2.2.2.2.1, ())).set i.toNat (x2.1, IntKind.wrap .i64 (k_ + 1), x2.2.2.1, x2.2.2.2.1, x2.2.2.2.2.1, x2.2.2.2.2.2.1, ())).set i.toNat (x3.1, x3.2.1, y4.2.1, x3.2.2.2.1, x3.2.2.2.2.1, x3.2.2.2.2.2.1, ())).set i.toNat (x5.1, x5.2.1, x5.2.2.1, y6.2.1, x5.2.2.2.2.1, x5.2.2.2.2.2.1, ())).set i.toNat (x7.1, x7.2.1, x7.2.2.1, x7.2.2.2.1, y6.1.1, x7.2.2.2.2.2.1, ())).set i.toNat (x8.1, x8.2.1, x8.2.2.1, x8.2.2.2.1, x8.2.2.2.2.1, IntKind.wrap .i64 (y6.1.1 + 1), ()), IntKind.wrap .i64 ((IntKind.wrap .i64 (y6.1.1 + 1)) + 1), IntKind.wrap .i64 (i + 1), ()))
  none)
  none)
  none)
  none)
  none)
  none)
  (some ((k_, ()), (a, (), ())))
noncomputable def z80 (k : Nat) : ((List QT1) × Int × Unit) → Option ((Int × Unit) × ((List QT1) × Unit × Unit)) := fun x => match x with
 | (a, k_, ()) =>
  iter (z80.l0 k) k (a, k_, 0, ())
noncomputable def z80.sg (k : Nat) : Sig := ⟨(.cons (.nrw QS21) QS4), QS4, z80 k, []⟩
theorem z80.ok {L : List (Nat × Obj)} (k : Nat) : SigHolds Tryz.prog L 46 (z80.sg k) :=
  soe (C := ⟨Tryz.prog, [(95, [z72.sg k])], k, [], []⟩) (hc1 (z72.ok k) holds_nil) Tryz.func46 { loops := [(0, [(0, (.rows QS21)), (1, (.pur (.int .i64))), (5, (.pur (.int .i64)))])] } fun _ => by kernel_rfl
noncomputable def z118 (k : Nat) : (QT9 × Int × Unit) → Option ((Int × Unit) × (QT9 × Unit × Unit)) := fun x => match x with
 | ((a_0, a_1, a_2, a_3, ()), k_, ()) =>
  bd k (z157 k ((a_0, a_1, a_2, ()), k_, ())) fun y1 =>
  bd k (z80 k (a_3, y1.1.1, ())) fun y2 =>
  some ((y2.1.1, ()), ((y1.2.1.1, y1.2.1.2.1, y1.2.1.2.2.1, y2.2.1, ()), (), ()))
noncomputable def z118.sg (k : Nat) : Sig := ⟨(.cons (.agg (.cons (.row .str) (.cons (.row .str) (.cons (.row QK28) (.cons (.nrw QS21) .nil))))) QS4), QS4, z118 k, []⟩
theorem z118.ok {L : List (Nat × Obj)} (k : Nat) : SigHolds Tryz.prog L 14 (z118.sg k) :=
  soe (C := ⟨Tryz.prog, [(45, [z157.sg k]), (46, [z80.sg k])], k, [], []⟩) (hc1 (z157.ok k) (hc1 (z80.ok k) holds_nil)) Tryz.func14 {} fun _ => by kernel_rfl
end Go.Pev.F
