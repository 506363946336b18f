/-
  Printed by gen.py: what functions of the program compute, and that they do.
-/
import Derived.Test.YtibhfjdhhdjjcaaGreatDoorK15
set_option linter.unusedSimpArgs false
set_option linter.unusedVariables false
open Go.Proofs Go.Pev
namespace Go.Pev.F
set_option maxRecDepth 100000
variable {L : List (Nat × Obj)}
noncomputable def z115 (k : Nat) : ((Int × Int × Unit) × Int × Unit) → Option QT21 := fun x => match x with
 | (a, n, ()) =>
  bd k (z8 k (n, a.1, a.2.1, ())) fun y1 =>
  some ((y1.1.1, ()), ((), (), ()))
noncomputable def z115.sg (k : Nat) : Sig := ⟨(.cons (.pur QK0) QS6), QS19, z115 k, []⟩
theorem z115.ok (k : Nat) : SigHolds Tryz.prog L 170 (z115.sg k) :=
  soe (C := ⟨Tryz.prog, [(83, [z8.sg k])], k, [], []⟩) (hc1 (z8.ok k) holds_nil) Tryz.func170 {} fun _ => by kernel_rfl
noncomputable def z216 (k : Nat) : (Int × (QT48 × Unit) × Unit) → Option ((Bool × Unit) × (Unit × (QT48 × Unit) × Unit)) := fun x => match x with
 | (x_, ((a1_0_0, ()), ()), ()) =>
  bd k (z115 k (a1_0_0, x_, ())) fun y1 =>
  some ((!y1.1.1, ()), ((), ((a1_0_0, ()), ()), ()))
noncomputable def z216.sg (k : Nat) : Sig := ⟨(.cons (.pur (.int .i64)) (.cons (.box (.cons (.fn (.func 170) 1 (.cons (.pur QK0) .nil)) .nil)) .nil)), QS19, z216 k, []⟩
theorem z216.ok (k : Nat) : SigHolds Tryz.prog L 214 (z216.sg k) :=
  soe (C := ⟨Tryz.prog, [(170, [z115.sg k])], k, [], []⟩) (hc1 (z115.ok k) holds_nil) Tryz.func214 {} fun _ => by kernel_rfl
noncomputable def z84.l0 (k : Nat) : E2 (((List Int) × ((QT48 × Unit) × Unit) × Int × Int × Unit) → Option ((Int × Unit) × (Unit × ((QT48 × Unit) × Unit) × Unit))) := fun G0 x => match x with
 | (s_, (((f_0_0_0, ()), ()), ()), t7, t8, ()) =>
  br k (decide (t8 < t7))
  (br k (decide (0 ≤ t8))
  (bd k (s_[t8.toNat]?) fun x1 =>
  bd k (z216 k (x1, ((f_0_0_0, ()), ()), ())) fun y2 =>
  br k (y2.1.1)
  (some ((t8, ()), ((), (((y2.2.2.1.1.1, ()), ()), ()), ())))
  (G0 (s_, (((y2.2.2.1.1.1, ()), ()), ()), t7, IntKind.wrap .i64 (t8 + 1), ())))
  none)
  (some (((-1), ()), ((), (((f_0_0_0, ()), ()), ()), ())))
noncomputable def z84 (k : Nat) : ((List Int) × ((QT48 × Unit) × Unit) × Unit) → Option ((Int × Unit) × (Unit × ((QT48 × Unit) × Unit) × Unit)) := fun x => match x with
 | (s_, (((f_0_0_0, ()), ()), ()), ()) =>
  iter (z84.l0 k) k (s_, (((f_0_0_0, ()), ()), ()), (s_.length : Int), 0, ())
noncomputable def z84.sg (k : Nat) : Sig := ⟨(.cons QS29 (.cons (.fn (.func 214) 0 (.cons (.box (.cons (.fn (.func 170) 1 (.cons (.pur QK0) .nil)) .nil)) .nil)) .nil)), QS6, z84 k, []⟩
theorem z84.ok (k : Nat) : SigHolds Tryz.prog L 243 (z84.sg k) :=
  soe (C := ⟨Tryz.prog, [(214, [z216.sg k])], k, [], []⟩) (hc1 (z216.ok k) holds_nil) Tryz.func243 { loops := [(0, [(0, QS29), (1, (.fn (.func 214) 0 (.cons (.box (.cons (.fn (.func 170) 1 (.cons (.pur QK0) .nil)) .nil)) .nil))), (7, (.pur (.int .i64))), (8, (.pur (.int .i64)))])] } fun _ => by kernel_rfl
noncomputable def z217 (k : Nat) : ((List Int) × ((QT48 × Unit) × Unit) × Unit) → Option ((Bool × Unit) × (Unit × ((QT48 × Unit) × Unit) × Unit)) := fun x => match x with
 | (s_, (((f_0_0_0, ()), ()), ()), ()) =>
  bd k (z84 k (s_, (((f_0_0_0, ()), ()), ()), ())) fun y1 =>
  some ((decide (y1.1.1 ≥ 0), ()), ((), (((y1.2.2.1.1.1.1, ()), ()), ()), ()))
noncomputable def z217.sg (k : Nat) : Sig := ⟨(.cons QS29 (.cons (.fn (.func 214) 0 (.cons (.box (.cons (.fn (.func 170) 1 (.cons (.pur QK0) .nil)) .nil)) .nil)) .nil)), QS19, z217 k, []⟩
theorem z217.ok (k : Nat) : SigHolds Tryz.prog L 213 (z217.sg k) :=
  soe (C := ⟨Tryz.prog, [(243, [z84.sg k])], k, [], []⟩) (hc1 (z84.ok k) holds_nil) Tryz.func213 {} fun _ => by kernel_rfl
noncomputable def z186 (k : Nat) : ((List Int) × QT48 × Unit) → Option QT54 := fun x => match x with
 | (list, (is_0, ()), ()) =>
  bd k (z217 k (list, (((is_0, ()), ()), ()), ())) fun y1 =>
  some ((!y1.1.1, ()), ((), ((), ()), ()))
noncomputable def z186.sg (k : Nat) : Sig := ⟨(.cons QS29 (.cons (.fn (.func 170) 1 (.cons (.pur QK0) .nil)) .nil)), QS19, z186 k, []⟩
theorem z186.ok (k : Nat) : SigHolds Tryz.prog L 171 (z186.sg k) :=
  soe (C := ⟨Tryz.prog, [(213, [z217.sg k])], k, [], []⟩) (hc1 (z217.ok k) holds_nil) Tryz.func171 {} fun _ => by kernel_rfl
noncomputable def z39.l2 (k : Nat) : E2 ((QT66 × (List (List Int)) × Int × Int × Unit) → Option QT21) := fun G2 x => match x with
 | ((e__0, e__1, e__2, ()), t30, t31, t32, ()) =>
  br k (decide (t32 < t31))
  (br k (decide (0 ≤ t32))
  (bd k (t30[t32.toNat]?) fun x4 =>
  br k (decide (0 ≤ t32))
  (bd k (e__2[t32.toNat]?) fun x5 =>
  bd k (z186 k (x4, (x5, ()), ())) fun y6 =>
  br k (!y6.1.1)
  (some ((false, ()), ((), (), ())))
  (G2 ((e__0, e__1, e__2, ()), t30, t31, IntKind.wrap .i64 (t32 + 1), ())))
  none)
  none)
  (some ((true, ()), ((), (), ())))
noncomputable def z39.l0 (k : Nat) : E2 ((QT66 × QT10 × (List Int) × Int × Int × Unit) → Option QT21) := fun G0 x => match x with
 | ((e__0, e__1, e__2, ()), (s__0, s__1, s__2, ()), t13, t14, t15, ()) =>
  br k (decide (t15 < t14))
  (br k (decide (0 ≤ t15))
  (bd k (t13[t15.toNat]?) fun x1 =>
  br k (decide (0 ≤ t15))
  (bd k (e__1[t15.toNat]?) fun x2 =>
  bd k (z115 k (x2, x1, ())) fun y3 =>
  br k (!y3.1.1)
  (some ((false, ()), ((), (), ())))
  (G0 ((e__0, e__1, e__2, ()), (s__0, s__1, s__2, ()), t13, t14, IntKind.wrap .i64 (t15 + 1), ())))
  none)
  none)
  (iter (z39.l2 k) k ((e__0, e__1, e__2, ()), s__2, (s__2.length : Int), 0, ()))
noncomputable def z39 (k : Nat) : (QT66 × QT10 × Unit) → Option QT21 := fun x => match x with
 | (e_, s_, ()) =>
  br k (!e_.1)
  (some ((false, ()), ((), (), ())))
  (iter (z39.l0 k) k ((e_.1, e_.2.1, e_.2.2.1, ()), (s_.1, s_.2.1, s_.2.2.1, ()), s_.1, (s_.1.length : Int), 0, ()))
noncomputable def z39.sg (k : Nat) : Sig := ⟨(.cons (.pur QK13) QS58), QS19, z39 k, []⟩
theorem z39.ok (k : Nat) : SigHolds Tryz.prog L 118 (z39.sg k) :=
  soe (C := ⟨Tryz.prog, [(170, [z115.sg k]), (171, [z186.sg k])], k, [], []⟩) (hc1 (z115.ok k) (hc1 (z186.ok k) holds_nil)) Tryz.func118 { loops := [(0, [(2, (.box (.cons (.pur .bool) (.cons (.pur (.sl false QK0)) QS41)))), (3, QS20), (13, QS29), (14, (.pur (.int .i64))), (15, (.pur (.int .i64)))]), (2, [(2, (.box (.cons (.pur .bool) (.cons (.pur (.sl false QK0)) QS41)))), (30, (.pur (.sl false (.sl false (.int .i64))))), (31, (.pur (.int .i64))), (32, (.pur (.int .i64)))])] } fun _ => by kernel_rfl
noncomputable def z218 (k : Nat) : (QT2 × QT27 × QT10 × Unit) → Option ((Bool × Unit) × QT37) := fun x => match x with
 | (d_, t, s_, ()) =>
  (bd k (z215 k (d_, t, ())) fun y1 =>
  br k (y1.1.1)
  (bd k (z63 k (d_, s_, ())) fun y2 =>
  br k (y2.1.1)
  (bd k (z83 k (s_.2.1, ())) fun y3 =>
  br k (decide (0 ≤ y3.1.1))
  (bd k (t[y3.1.1.toNat]?) fun x4 =>
  bd k (z39 k (x4, s_, ())) fun y5 =>
  some (y5.1.1, ()))
  none)
  (some (false, ())))
  (some (false, ())) : Option (Bool × Unit)).bind fun j6 =>
  some ((j6.1, ()), ((), (), (), ()))
noncomputable def z218.sg (k : Nat) : Sig := ⟨(.cons QS4 (.cons (.pur (.sl false QK13)) QS58)), QS19, z218 k, []⟩
theorem z218.ok (hSp : Lb.NeedSp L) (k : Nat) : SigHolds Tryz.prog L 60 (z218.sg k) :=
  soe (C := ⟨Tryz.prog, [(115, [z215.sg k]), (116, [z63.sg k]), (117, [z83.sg k]), (118, [z39.sg k])], k, [], []⟩) (hc1 (z215.ok hSp k) (hc1 (z63.ok k) (hc1 (z83.ok k) (hc1 (z39.ok k) holds_nil)))) Tryz.func60 { joins := [(1, [(6, .bool)])] } fun _ => by kernel_rfl
noncomputable def z116 (k : Nat) : (QT2 × QT44 × QT7 × QT10 × Unit) → Option ((Bool × Unit) × (Unit × Unit × Unit × Unit × Unit)) := fun x => match x with
 | (d_, l_, t, s_, ()) =>
  bd k (z214 k (d_, l_, ())) fun y1 =>
  br k (!y1.1.1)
  (some ((false, ()), ((), (), (), (), ())))
  (bd k (z185 k (l_, t, ())) fun y2 =>
  (br k (y2.1.2.1)
  (br k (decide (0 ≤ y2.1.1))
  (bd k (l_[y2.1.1.toNat]?) fun x3 =>
  bd k (z218 k (d_, x3.2.1, s_, ())) fun y4 =>
  some (y4.1.1, ()))
  none)
  (some (false, ())) : Option (Bool × Unit)).bind fun j5 =>
  some ((j5.1, ()), ((), (), (), (), ())))
noncomputable def z116.sg (k : Nat) : Sig := ⟨(.cons QS4 (.cons (.pur (.sl false QK30)) (.cons (.pur (.sl false QK0)) QS58))), QS19, z116 k, []⟩
theorem z116.ok (hSp : Lb.NeedSp L) (k : Nat) : SigHolds Tryz.prog L 25 (z116.sg k) :=
  soe (C := ⟨Tryz.prog, [(58, [z214.sg k]), (59, [z185.sg k]), (60, [z218.sg k])], k, [], []⟩) (hc1 (z214.ok hSp k) (hc1 (z185.ok k) (hc1 (z218.ok hSp k) holds_nil))) Tryz.func25 { joins := [(4, [(8, .bool)])] } fun _ => by kernel_rfl
noncomputable def z187 (k : Nat) : ((List Int) × Unit) → Option QT25 := fun x => match x with
 | (code, ()) =>
  bd k (z167 k (code, ())) fun y1 =>
  br k (y1.1.1)
  (some ((true, ()), ((), ())))
  (bd k (z175 k (code, ())) fun y2 =>
  bd k (z142 k ((y2.1.1.1, y2.1.1.2.1, y2.1.1.2.2.1, y2.1.1.2.2.2.1, ()), y2.1.2.1, y2.1.2.2.1, ())) fun y3 =>
  bd k (z139 k ((y2.1.1.1, y2.1.1.2.1, y2.1.1.2.2.1, y2.1.1.2.2.2.1, ()), y2.1.2.1, y2.1.2.2.1, ())) fun y4 =>
  bd k (z38 k ((y2.1.1.1, y2.1.1.2.1, y2.1.1.2.2.1, y2.1.1.2.2.2.1, ()), y2.1.2.1, y2.1.2.2.1, ())) fun y5 =>
  bd k (z50 k (y3.1.1, y5.1.1, ())) fun y6 =>
  br k (!y6.1.1)
  (bd k (z38 k ((y2.1.1.1, y2.1.1.2.1, y2.1.1.2.2.1, y2.1.1.2.2.2.1, ()), y2.1.2.1, y2.1.2.2.1, ())) fun y7 =>
  bd k (z50 k (y3.1.1, y7.1.1, ())) fun y8 =>
  br k (y8.1.1)
  (bd k (z42 k ((y2.1.1.1, y2.1.1.2.1, y2.1.1.2.2.1, y2.1.1.2.2.2.1, ()), y2.1.2.1, y2.1.2.2.1, ())) fun y9 =>
  bd k (z112 k (y4.1.1, y9.1.1, ())) fun y10 =>
  some ((y10.1.1, ()), ((), ())))
  (some ((false, ()), ((), ()))))
  (bd k (z42 k ((y2.1.1.1, y2.1.1.2.1, y2.1.1.2.2.1, y2.1.1.2.2.2.1, ()), y2.1.2.1, y2.1.2.2.1, ())) fun y11 =>
  bd k (z112 k (y4.1.1, y11.1.1, ())) fun y12 =>
  br k (!y12.1.1)
  (bd k (z38 k ((y2.1.1.1, y2.1.1.2.1, y2.1.1.2.2.1, y2.1.1.2.2.2.1, ()), y2.1.2.1, y2.1.2.2.1, ())) fun y13 =>
  bd k (z50 k (y3.1.1, y13.1.1, ())) fun y14 =>
  br k (y14.1.1)
  (bd k (z42 k ((y2.1.1.1, y2.1.1.2.1, y2.1.1.2.2.1, y2.1.1.2.2.2.1, ()), y2.1.2.1, y2.1.2.2.1, ())) fun y15 =>
  bd k (z112 k (y4.1.1, y15.1.1, ())) fun y16 =>
  some ((y16.1.1, ()), ((), ())))
  (some ((false, ()), ((), ()))))
  (br k (y4.1.1.1 == 1)
  (bd k (z38 k ((y2.1.1.1, y2.1.1.2.1, y2.1.1.2.2.1, y2.1.1.2.2.2.1, ()), y2.1.2.1, y2.1.2.2.1, ())) fun y17 =>
  bd k (z50 k (y3.1.1, y17.1.1, ())) fun y18 =>
  br k (y18.1.1)
  (bd k (z42 k ((y2.1.1.1, y2.1.1.2.1, y2.1.1.2.2.1, y2.1.1.2.2.2.1, ()), y2.1.2.1, y2.1.2.2.1, ())) fun y19 =>
  bd k (z112 k (y4.1.1, y19.1.1, ())) fun y20 =>
  some ((y20.1.1, ()), ((), ())))
  (some ((false, ()), ((), ()))))
  ((br k (y4.1.1.1 == 0)
  (some (true, ()))
  (some (y4.1.1.1 == 2, ())) : Option (Bool × Unit)).bind fun j21 =>
  br k (j21.1)
  (br k ((y3.1.1.length : Int) == (IntKind.wrap .i64 (y4.1.1.2.2.2.2.2.1 + 1)))
  (br k (decide ((IntKind.wrap .i64 ((y3.1.1.length : Int) - 1)) ≥ 0))
  (br k (decide (0 ≤ (IntKind.wrap .i64 ((y3.1.1.length : Int) - 1)) ∧ (IntKind.wrap .i64 ((y3.1.1.length : Int) - 1)) < (y3.1.1.length : Int)))
  (bd k (y3.1.1[(IntKind.wrap .i64 ((y3.1.1.length : Int) - 1)).toNat]?) fun x22 =>
  br k (x22.1 == y4.1.1.2.1)
  (br k (decide (0 ≤ (IntKind.wrap .i64 ((y3.1.1.length : Int) - 1)) ∧ (IntKind.wrap .i64 ((y3.1.1.length : Int) - 1)) < (y3.1.1.length : Int)))
  (bd k (y3.1.1[(IntKind.wrap .i64 ((y3.1.1.length : Int) - 1)).toNat]?) fun x23 =>
  bd k (z24 k ((x23.2.2.1, x23.2.2.2.1, x23.2.2.2.2.1, ()), (y4.1.1.2.2.1, y4.1.1.2.2.2.1, y4.1.1.2.2.2.2.1, ()), ())) fun y24 =>
  br k (y24.1.1)
  (br k (decide (0 ≤ (0 : Int) ∧ (0 : Int) < (y3.1.1.length : Int)))
  (bd k ((y3.1.1.set ((IntKind.wrap .i64 ((y3.1.1.length : Int) - 1)).toNat) (x23.1, x23.2.1, x23.2.2.1, x23.2.2.2.1, x23.2.2.2.2.1, ()))[(0 : Int).toNat]?) fun x25 =>
  br k ((x25.2.1.length : Int) == 0)
  (bd k (z145 k ((y2.1.1.1, y2.1.1.2.1, y2.1.1.2.2.1, y2.1.1.2.2.2.1, ()), ())) fun y26 =>
  br k (decide (0 ≤ (0 : Int) ∧ (0 : Int) < ((y3.1.1.set ((IntKind.wrap .i64 ((y3.1.1.length : Int) - 1)).toNat) (x23.1, x23.2.1, x23.2.2.1, x23.2.2.2.1, x23.2.2.2.2.1, ())).length : Int)))
  (bd k (((y3.1.1.set ((IntKind.wrap .i64 ((y3.1.1.length : Int) - 1)).toNat) (x23.1, x23.2.1, x23.2.2.1, x23.2.2.2.1, x23.2.2.2.2.1, ())).set ((0 : Int).toNat) (x25.1, x25.2.1, x25.2.2.1, x25.2.2.2.1, x25.2.2.2.2.1, ()))[(0 : Int).toNat]?) fun x27 =>
  bd k (z116 k ((y2.1.1.1, y2.1.1.2.1, y2.1.1.2.2.1, ()), y26.1.1, [], (x27.2.2.1, x27.2.2.2.1, x27.2.2.2.2.1, ()), ())) fun y28 =>
  some ((y28.1.1, ()), ((), ())))
  none)
  (some ((false, ()), ((), ()))))
  none)
  (some ((false, ()), ((), ()))))
  none)
  (some ((false, ()), ((), ()))))
  none)
  (some ((false, ()), ((), ()))))
  (some ((false, ()), ((), ()))))
  (br k ((y3.1.1.length : Int) == y4.1.1.2.2.2.2.2.1)
  (br k (decide ((IntKind.wrap .i64 ((y3.1.1.length : Int) - 1)) ≥ 0))
  (br k (decide (0 ≤ (IntKind.wrap .i64 ((y3.1.1.length : Int) - 1)) ∧ (IntKind.wrap .i64 ((y3.1.1.length : Int) - 1)) < (y3.1.1.length : Int)))
  (bd k (y3.1.1[(IntKind.wrap .i64 ((y3.1.1.length : Int) - 1)).toNat]?) fun x29 =>
  br k (x29.1 == y4.1.1.2.1)
  (br k (decide (0 ≤ (IntKind.wrap .i64 ((y3.1.1.length : Int) - 1)) ∧ (IntKind.wrap .i64 ((y3.1.1.length : Int) - 1)) < (y3.1.1.length : Int)))
  (bd k (y3.1.1[(IntKind.wrap .i64 ((y3.1.1.length : Int) - 1)).toNat]?) fun x30 =>
  bd k (z24 k ((x30.2.2.1, x30.2.2.2.1, x30.2.2.2.2.1, ()), (y4.1.1.2.2.1, y4.1.1.2.2.2.1, y4.1.1.2.2.2.2.1, ()), ())) fun y31 =>
  br k (y31.1.1)
  (br k (decide (0 ≤ (0 : Int) ∧ (0 : Int) < (y3.1.1.length : Int)))
  (bd k ((y3.1.1.set ((IntKind.wrap .i64 ((y3.1.1.length : Int) - 1)).toNat) (x30.1, x30.2.1, x30.2.2.1, x30.2.2.2.1, x30.2.2.2.2.1, ()))[(0 : Int).toNat]?) fun x32 =>
  br k ((x32.2.1.length : Int) == 0)
  (bd k (z145 k ((y2.1.1.1, y2.1.1.2.1, y2.1.1.2.2.1, y2.1.1.2.2.2.1, ()), ())) fun y33 =>
  br k (decide (0 ≤ (0 : Int) ∧ (0 : Int) < ((y3.1.1.set ((IntKind.wrap .i64 ((y3.1.1.length : Int) - 1)).toNat) (x30.1, x30.2.1, x30.2.2.1, x30.2.2.2.1, x30.2.2.2.2.1, ())).length : Int)))
  (bd k (((y3.1.1.set ((IntKind.wrap .i64 ((y3.1.1.length : Int) - 1)).toNat) (x30.1, x30.2.1, x30.2.2.1, x30.2.2.2.1, x30.2.2.2.2.1, ())).set ((0 : Int).toNat) (x32.1, x32.2.1, x32.2.2.1, x32.2.2.2.1, x32.2.2.2.2.1, ()))[(0 : Int).toNat]?) fun x34 =>
  bd k (z116 k ((y2.1.1.1, y2.1.1.2.1, y2.1.1.2.2.1, ()), y33.1.1, [], (x34.2.2.1, x34.2.2.2.1, x34.2.2.2.2.1, ()), ())) fun y35 =>
  some ((y35.1.1, ()), ((), ())))
  none)
  (some ((false, ()), ((), ()))))
  none)
  (some ((false, ()), ((), ()))))
  none)
  (some ((false, ()), ((), ()))))
  none)
  (some ((false, ()), ((), ()))))
  (some ((false, ()), ((), ()))))))))
noncomputable def z187.sg (k : Nat) : Sig := ⟨QS59, QS19, z187 k, []⟩
theorem z187.ok (hSp : Lb.NeedSp L) (k : Nat) : SigHolds Tryz.prog L 4 (z187.sg k) :=
  soe (C := ⟨Tryz.prog, [(18, [z167.sg k]), (19, [z175.sg k]), (20, [z142.sg k]), (10, [z139.sg k]), (22, [z38.sg k]), (21, [z50.sg k]), (7, [z42.sg k]), (23, [z112.sg k]), (24, [z24.sg k]), (26, [z145.sg k]), (25, [z116.sg k])], k, [], []⟩) (hc1 (z167.ok k) (hc1 (z175.ok k) (hc1 (z142.ok hSp k) (hc1 (z139.ok hSp k) (hc1 (z38.ok k) (hc1 (z50.ok k) (hc1 (z42.ok k) (hc1 (z112.ok k) (hc1 (z24.ok k) (hc1 (z145.ok hSp k) (hc1 (z116.ok hSp k) holds_nil))))))))))) Tryz.func4 { joins := [(9, [(70, .bool)])], keys := [(6, [([], false), ([3], false), ([], false), ([], false), ([14, 30], true), ([21, 30], false), ([], false), ([], false), ([7], false), ([3], false), ([], false), ([], false), ([14, 38], true), ([25], false), ([], false), ([], false), ([], false), ([7], false), ([7], false), ([], false), ([], false)]), (7, [([], false), ([3], false), ([], false), ([], false), ([14, 51], true), ([21, 51], false), ([], false), ([7], false), ([3], false), ([], false), ([], false), ([14, 58], true), ([25], false), ([], false), ([], false)]), (12, [([], false), ([21], false), ([], false), ([], false), ([], false), ([], false), ([], false), ([], false), ([], false), ([], false), ([], false), ([21], false), ([21], false), ([21], false), ([7], false), ([7], false), ([], false), ([], false), ([], false), ([], false), ([], false), ([21], false), ([21], false), ([21, 99], true), ([7], false), ([7], false), ([25, 99], false), ([], false), ([], false), ([], false), ([21, 99], false), ([21, 99], false), ([21, 99, 108], true), ([108], false), ([], false), ([], false), ([], false), ([3], false), ([3], false), ([3], false), ([14, 116], true), ([], false), ([21, 108], false), ([21, 108], false), ([21, 108, 120], true), ([116, 120], false), ([], false), ([], false)])] } fun _ => by kernel_rfl
end Go.Pev.F
