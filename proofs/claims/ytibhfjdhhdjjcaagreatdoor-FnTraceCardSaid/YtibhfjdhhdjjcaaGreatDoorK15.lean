/-
  Printed by gen.py: what functions of the program compute, and that they do.
-/
import Derived.Test.YtibhfjdhhdjjcaaGreatDoorK14
set_option linter.unusedSimpArgs false
set_option linter.unusedVariables false
open Go.Proofs Go.Pev
namespace Go.Pev.F
set_option maxRecDepth 100000
variable {L : List (Nat × Obj)}
noncomputable def z181 (k : Nat) : (QT2 × QT66 × Unit) → Option QT21 := fun x => match x with
 | (d_, e_, ()) =>
  br k (!e_.1)
  ((br k ((e_.2.1.length : Int) == 0)
  (some ((e_.2.2.1.length : Int) == 0, ()))
  (some (false, ())) : Option (Bool × Unit)).bind fun j1 =>
  some ((j1.1, ()), ((), (), ())))
  (br k ((e_.2.1.length : Int) == (d_.1.length : Int))
  (br k ((e_.2.2.1.length : Int) == (d_.2.2.1.length : Int))
  (bd k (z147 k (e_.2.1, (()), ())) fun y2 =>
  br k (y2.1.1)
  (bd k (z147 k (e_.2.2.1, (()), ())) fun y3 =>
  some ((y3.1.1, ()), ((), (), ())))
  (some ((false, ()), ((), (), ()))))
  (some ((false, ()), ((), (), ()))))
  (some ((false, ()), ((), (), ()))))
noncomputable def z181.sg (k : Nat) : Sig := ⟨(.cons QS4 (.cons (.pur QK13) .nil)), QS19, z181 k, []⟩
theorem z181.ok (k : Nat) : SigHolds Tryz.prog L 212 (z181.sg k) :=
  soe (C := ⟨Tryz.prog, [(241, [z147.sg k])], k, [], []⟩) (hc1 (z147.ok k) holds_nil) Tryz.func212 { joins := [(2, [(4, .bool)])] } fun _ => by kernel_rfl
noncomputable def z209 (k : Nat) : (QT66 × ((QT2 × Unit) × Unit) × Unit) → Option QT57 := fun x => match x with
 | (x_, ((a1_0_0, ()), ()), ()) =>
  bd k (z181 k (a1_0_0, x_, ())) fun y1 =>
  some ((!y1.1.1, ()), ((), ((a1_0_0, ()), ()), ()))
noncomputable def z209.sg (k : Nat) : Sig := ⟨(.cons (.pur QK13) (.cons (.box (.cons (.fn (.func 212) 1 (.cons QS4 .nil)) .nil)) .nil)), QS19, z209 k, []⟩
theorem z209.ok (k : Nat) : SigHolds Tryz.prog L 240 (z209.sg k) :=
  soe (C := ⟨Tryz.prog, [(212, [z181.sg k])], k, [], []⟩) (hc1 (z181.ok k) holds_nil) Tryz.func240 {} fun _ => by kernel_rfl
noncomputable def z79.l0 (k : Nat) : E2 ((QT27 × QT32 × Int × Int × Unit) → Option QT47) := fun G0 x => match x with
 | (s_, (((f_0_0_0, ()), ()), ()), t7, t8, ()) =>
  br k (decide (t8 < t7))
  (br k (decide (0 ≤ t8))
  (bd k (s_[t8.toNat]?) fun x1 =>
  bd k (z209 k (x1, ((f_0_0_0, ()), ()), ())) fun y2 =>
  br k (y2.1.1)
  (some ((t8, ()), ((), (((y2.2.2.1.1.1, ()), ()), ()), ())))
  (G0 (s_, (((y2.2.2.1.1.1, ()), ()), ()), t7, IntKind.wrap .i64 (t8 + 1), ())))
  none)
  (some (((-1), ()), ((), (((f_0_0_0, ()), ()), ()), ())))
noncomputable def z79 (k : Nat) : (QT27 × QT32 × Unit) → Option QT47 := fun x => match x with
 | (s_, (((f_0_0_0, ()), ()), ()), ()) =>
  iter (z79.l0 k) k (s_, (((f_0_0_0, ()), ()), ()), (s_.length : Int), 0, ())
noncomputable def z79.sg (k : Nat) : Sig := ⟨(.cons (.pur (.sl false QK13)) (.cons (.fn (.func 240) 0 (.cons (.box (.cons (.fn (.func 212) 1 (.cons QS4 .nil)) .nil)) .nil)) .nil)), QS6, z79 k, []⟩
theorem z79.ok (k : Nat) : SigHolds Tryz.prog L 239 (z79.sg k) :=
  soe (C := ⟨Tryz.prog, [(240, [z209.sg k])], k, [], []⟩) (hc1 (z209.ok k) holds_nil) Tryz.func239 { loops := [(0, [(0, (.pur (.sl false QK13))), (1, (.fn (.func 240) 0 (.cons (.box (.cons (.fn (.func 212) 1 (.cons QS4 .nil)) .nil)) .nil))), (7, (.pur (.int .i64))), (8, (.pur (.int .i64)))])] } fun _ => by kernel_rfl
noncomputable def z210 (k : Nat) : (QT27 × QT32 × Unit) → Option QT68 := fun x => match x with
 | (s_, (((f_0_0_0, ()), ()), ()), ()) =>
  bd k (z79 k (s_, (((f_0_0_0, ()), ()), ()), ())) fun y1 =>
  some ((decide (y1.1.1 ≥ 0), ()), ((), (((y1.2.2.1.1.1.1, ()), ()), ()), ()))
noncomputable def z210.sg (k : Nat) : Sig := ⟨(.cons (.pur (.sl false QK13)) (.cons (.fn (.func 240) 0 (.cons (.box (.cons (.fn (.func 212) 1 (.cons QS4 .nil)) .nil)) .nil)) .nil)), QS19, z210 k, []⟩
theorem z210.ok (k : Nat) : SigHolds Tryz.prog L 206 (z210.sg k) :=
  soe (C := ⟨Tryz.prog, [(239, [z79.sg k])], k, [], []⟩) (hc1 (z79.ok k) holds_nil) Tryz.func206 {} fun _ => by kernel_rfl
noncomputable def z182 (k : Nat) : (QT27 × (QT2 × Unit) × Unit) → Option QT54 := fun x => match x with
 | (list, (is_0, ()), ()) =>
  bd k (z210 k (list, (((is_0, ()), ()), ()), ())) fun y1 =>
  some ((!y1.1.1, ()), ((), ((), ()), ()))
noncomputable def z182.sg (k : Nat) : Sig := ⟨(.cons (.pur (.sl false QK13)) (.cons (.fn (.func 212) 1 (.cons QS4 .nil)) .nil)), QS19, z182 k, []⟩
theorem z182.ok (k : Nat) : SigHolds Tryz.prog L 211 (z182.sg k) :=
  soe (C := ⟨Tryz.prog, [(206, [z210.sg k])], k, [], []⟩) (hc1 (z210.ok k) holds_nil) Tryz.func211 {} fun _ => by kernel_rfl
noncomputable def z114 (k : Nat) : (QT2 × QT27 × Unit) → Option QT21 := fun x => match x with
 | (d_, t, ()) =>
  bd k (z205 k (t, ())) fun y1 =>
  bd k (z95 k (d_, ())) fun y2 =>
  br k (y1.1.1 == y2.1.1)
  (bd k (z182 k (t, (d_, ()), ())) fun y3 =>
  some ((y3.1.1, ()), ((), (), ())))
  (some ((false, ()), ((), (), ())))
noncomputable def z114.sg (k : Nat) : Sig := ⟨(.cons QS4 (.cons (.pur (.sl false QK13)) .nil)), QS19, z114 k, []⟩
theorem z114.ok (k : Nat) : SigHolds Tryz.prog L 167 (z114.sg k) :=
  soe (C := ⟨Tryz.prog, [(210, [z205.sg k]), (122, [z95.sg k]), (211, [z182.sg k])], k, [], []⟩) (hc1 (z205.ok k) (hc1 (z95.ok k) (hc1 (z182.ok k) holds_nil))) Tryz.func167 { keys := [(1, [([], false), ([], false), ([2], false), ([], false), ([], false), ([], false), ([], false), ([2], false), ([], false), ([14], true), ([], false), ([], false)])] } fun _ => by kernel_rfl
noncomputable def z211 (k : Nat) : (QT66 × Unit) → Option QT25 := fun x => match x with
 | (e_, ()) =>
  some ((e_.1, ()), ((), ()))
noncomputable def z211.sg (k : Nat) : Sig := ⟨(.cons (.pur QK13) .nil), QS19, z211 k, []⟩
theorem z211.ok (k : Nat) : SigHolds Tryz.prog L 207 (z211.sg k) :=
  soe (C := ⟨Tryz.prog, [], k, [], []⟩) holds_nil Tryz.func207 {} fun _ => by kernel_rfl
noncomputable def z80.l0 (k : Nat) : E2 ((QT27 × (Unit) × Int × Int × Unit) → Option ((Int × Unit) × (Unit × (Unit) × Unit))) := fun G0 x => match x with
 | (s_, (()), t7, t8, ()) =>
  br k (decide (t8 < t7))
  (br k (decide (0 ≤ t8))
  (bd k (s_[t8.toNat]?) fun x1 =>
  bd k (z211 k (x1, ())) fun y2 =>
  br k (y2.1.1)
  (some ((t8, ()), ((), (()), ())))
  (G0 (s_, (()), t7, IntKind.wrap .i64 (t8 + 1), ())))
  none)
  (some (((-1), ()), ((), (()), ())))
noncomputable def z80 (k : Nat) : (QT27 × (Unit) × Unit) → Option ((Int × Unit) × (Unit × (Unit) × Unit)) := fun x => match x with
 | (s_, (()), ()) =>
  iter (z80.l0 k) k (s_, (()), (s_.length : Int), 0, ())
noncomputable def z80.sg (k : Nat) : Sig := ⟨(.cons (.pur (.sl false QK13)) (.cons (.fn (.func 207) 0 .nil) .nil)), QS6, z80 k, []⟩
theorem z80.ok (k : Nat) : SigHolds Tryz.prog L 239 (z80.sg k) :=
  soe (C := ⟨Tryz.prog, [(207, [z211.sg k])], k, [], []⟩) (hc1 (z211.ok k) holds_nil) Tryz.func239 { loops := [(0, [(0, (.pur (.sl false QK13))), (1, (.fn (.func 207) 0 .nil)), (7, (.pur (.int .i64))), (8, (.pur (.int .i64)))])] } fun _ => by kernel_rfl
noncomputable def z183 (k : Nat) : (QT27 × (Unit) × Unit) → Option QT65 := fun x => match x with
 | (s_, (()), ()) =>
  bd k (z80 k (s_, (()), ())) fun y1 =>
  some ((decide (y1.1.1 ≥ 0), ()), ((), (()), ()))
noncomputable def z183.sg (k : Nat) : Sig := ⟨(.cons (.pur (.sl false QK13)) (.cons (.fn (.func 207) 0 .nil) .nil)), QS19, z183 k, []⟩
theorem z183.ok (k : Nat) : SigHolds Tryz.prog L 206 (z183.sg k) :=
  soe (C := ⟨Tryz.prog, [(239, [z80.sg k])], k, [], []⟩) (hc1 (z80.ok k) holds_nil) Tryz.func206 {} fun _ => by kernel_rfl
noncomputable def z184 (k : Nat) : (QT2 × (QT7 × QT27 × Unit) × Unit) → Option QT21 := fun x => match x with
 | (d_, p, ()) =>
  bd k (z90 k (p.1, ())) fun y1 =>
  br k (y1.1.1)
  (bd k (z114 k (d_, p.2.1, ())) fun y2 =>
  br k (y2.1.1)
  (bd k (z183 k (p.2.1, (()), ())) fun y3 =>
  some ((y3.1.1, ()), ((), (), ())))
  (some ((false, ()), ((), (), ()))))
  (some ((false, ()), ((), (), ())))
noncomputable def z184.sg (k : Nat) : Sig := ⟨(.cons QS4 (.cons (.pur QK30) .nil)), QS19, z184 k, []⟩
theorem z184.ok (k : Nat) : SigHolds Tryz.prog L 161 (z184.sg k) :=
  soe (C := ⟨Tryz.prog, [(205, [z90.sg k]), (167, [z114.sg k]), (206, [z183.sg k])], k, [], []⟩) (hc1 (z90.ok k) (hc1 (z114.ok k) (hc1 (z183.ok k) holds_nil))) Tryz.func161 {} fun _ => by kernel_rfl
noncomputable def z212 (k : Nat) : ((QT7 × QT27 × Unit) × ((QT2 × Unit) × Unit) × Unit) → Option QT57 := fun x => match x with
 | (x_, ((a1_0_0, ()), ()), ()) =>
  bd k (z184 k (a1_0_0, x_, ())) fun y1 =>
  some ((!y1.1.1, ()), ((), ((a1_0_0, ()), ()), ()))
noncomputable def z212.sg (k : Nat) : Sig := ⟨(.cons (.pur QK30) (.cons (.box (.cons (.fn (.func 161) 1 (.cons QS4 .nil)) .nil)) .nil)), QS19, z212 k, []⟩
theorem z212.ok (k : Nat) : SigHolds Tryz.prog L 204 (z212.sg k) :=
  soe (C := ⟨Tryz.prog, [(161, [z184.sg k])], k, [], []⟩) (hc1 (z184.ok k) holds_nil) Tryz.func204 {} fun _ => by kernel_rfl
noncomputable def z81.l0 (k : Nat) : E2 ((QT44 × QT32 × Int × Int × Unit) → Option QT47) := fun G0 x => match x with
 | (s_, (((f_0_0_0, ()), ()), ()), t7, t8, ()) =>
  br k (decide (t8 < t7))
  (br k (decide (0 ≤ t8))
  (bd k (s_[t8.toNat]?) fun x1 =>
  bd k (z212 k (x1, ((f_0_0_0, ()), ()), ())) fun y2 =>
  br k (y2.1.1)
  (some ((t8, ()), ((), (((y2.2.2.1.1.1, ()), ()), ()), ())))
  (G0 (s_, (((y2.2.2.1.1.1, ()), ()), ()), t7, IntKind.wrap .i64 (t8 + 1), ())))
  none)
  (some (((-1), ()), ((), (((f_0_0_0, ()), ()), ()), ())))
noncomputable def z81 (k : Nat) : (QT44 × QT32 × Unit) → Option QT47 := fun x => match x with
 | (s_, (((f_0_0_0, ()), ()), ()), ()) =>
  iter (z81.l0 k) k (s_, (((f_0_0_0, ()), ()), ()), (s_.length : Int), 0, ())
noncomputable def z81.sg (k : Nat) : Sig := ⟨(.cons (.pur (.sl false QK30)) (.cons (.fn (.func 204) 0 (.cons (.box (.cons (.fn (.func 161) 1 (.cons QS4 .nil)) .nil)) .nil)) .nil)), QS6, z81 k, []⟩
theorem z81.ok (k : Nat) : SigHolds Tryz.prog L 236 (z81.sg k) :=
  soe (C := ⟨Tryz.prog, [(204, [z212.sg k])], k, [], []⟩) (hc1 (z212.ok k) holds_nil) Tryz.func236 { loops := [(0, [(0, (.pur (.sl false QK30))), (1, (.fn (.func 204) 0 (.cons (.box (.cons (.fn (.func 161) 1 (.cons QS4 .nil)) .nil)) .nil))), (7, (.pur (.int .i64))), (8, (.pur (.int .i64)))])] } fun _ => by kernel_rfl
noncomputable def z213 (k : Nat) : (QT44 × QT32 × Unit) → Option QT68 := fun x => match x with
 | (s_, (((f_0_0_0, ()), ()), ()), ()) =>
  bd k (z81 k (s_, (((f_0_0_0, ()), ()), ()), ())) fun y1 =>
  some ((decide (y1.1.1 ≥ 0), ()), ((), (((y1.2.2.1.1.1.1, ()), ()), ()), ()))
noncomputable def z213.sg (k : Nat) : Sig := ⟨(.cons (.pur (.sl false QK30)) (.cons (.fn (.func 204) 0 (.cons (.box (.cons (.fn (.func 161) 1 (.cons QS4 .nil)) .nil)) .nil)) .nil)), QS19, z213 k, []⟩
theorem z213.ok (k : Nat) : SigHolds Tryz.prog L 203 (z213.sg k) :=
  soe (C := ⟨Tryz.prog, [(236, [z81.sg k])], k, [], []⟩) (hc1 (z81.ok k) holds_nil) Tryz.func203 {} fun _ => by kernel_rfl
noncomputable def z120 (k : Nat) : (QT44 × (QT2 × Unit) × Unit) → Option QT54 := fun x => match x with
 | (list, (is_0, ()), ()) =>
  bd k (z213 k (list, (((is_0, ()), ()), ()), ())) fun y1 =>
  some ((!y1.1.1, ()), ((), ((), ()), ()))
noncomputable def z120.sg (k : Nat) : Sig := ⟨(.cons (.pur (.sl false QK30)) (.cons (.fn (.func 161) 1 (.cons QS4 .nil)) .nil)), QS19, z120 k, []⟩
theorem z120.ok (k : Nat) : SigHolds Tryz.prog L 160 (z120.sg k) :=
  soe (C := ⟨Tryz.prog, [(203, [z213.sg k])], k, [], []⟩) (hc1 (z213.ok k) holds_nil) Tryz.func160 {} fun _ => by kernel_rfl
noncomputable def z62.l0 (k : Nat) : E2 ((QT44 × QT2 × Int × Unit) → Option QT21) := fun G0 x => match x with
 | (l_, (d__0, d__1, d__2, ()), i, ()) =>
  br k (decide (i < (l_.length : Int)))
  (br k (decide (0 ≤ (IntKind.wrap .i64 (i - 1))))
  (bd k (l_[(IntKind.wrap .i64 (i - 1)).toNat]?) fun x1 =>
  br k (decide (0 ≤ i))
  (bd k (l_[i.toNat]?) fun x2 =>
  bd k (z113 k (x1.1, x2.1, ())) fun y3 =>
  br k (decide (y3.1.1 ≥ 0))
  (some ((false, ()), ((), (), ())))
  (G0 (l_, (d__0, d__1, d__2, ()), IntKind.wrap .i64 (i + 1), ())))
  none)
  none)
  (br k (decide ((l_.length : Int) ≤ 100))
  (bd k (z120 k (l_, ((d__0, d__1, d__2, ()), ()), ())) fun y4 =>
  some ((y4.1.1, ()), ((), (), ())))
  (some ((false, ()), ((), (), ()))))
noncomputable def z62 (k : Nat) : (QT2 × QT44 × Unit) → Option QT21 := fun x => match x with
 | (d_, l_, ()) =>
  iter (z62.l0 k) k (l_, (d_.1, d_.2.1, d_.2.2.1, ()), 1, ())
noncomputable def z62.sg (k : Nat) : Sig := ⟨(.cons QS4 (.cons (.pur (.sl false QK30)) .nil)), QS19, z62 k, []⟩
theorem z62.ok (k : Nat) : SigHolds Tryz.prog L 111 (z62.sg k) :=
  soe (C := ⟨Tryz.prog, [(114, [z113.sg k]), (160, [z120.sg k])], k, [], []⟩) (hc1 (z113.ok k) (hc1 (z120.ok k) holds_nil)) Tryz.func111 { loops := [(0, [(1, (.pur (.sl false QK30))), (2, QS26), (5, (.pur (.int .i64)))])] } fun _ => by kernel_rfl
noncomputable def z214 (k : Nat) : (QT2 × QT44 × Unit) → Option QT21 := fun x => match x with
 | (d_, l_, ()) =>
  (bd k (z30 k (d_, ())) fun y1 =>
  br k (y1.1.1)
  (bd k (z62 k (d_, l_, ())) fun y2 =>
  some (y2.1.1, ()))
  (some (false, ())) : Option (Bool × Unit)).bind fun j3 =>
  some ((j3.1, ()), ((), (), ()))
noncomputable def z214.sg (k : Nat) : Sig := ⟨(.cons QS4 (.cons (.pur (.sl false QK30)) .nil)), QS19, z214 k, []⟩
theorem z214.ok (hSp : Lb.NeedSp L) (k : Nat) : SigHolds Tryz.prog L 58 (z214.sg k) :=
  soe (C := ⟨Tryz.prog, [(110, [z30.sg k]), (111, [z62.sg k])], k, [], []⟩) (hc1 (z30.ok hSp k) (hc1 (z62.ok k) holds_nil)) Tryz.func58 { joins := [(1, [(4, .bool)])] } fun _ => by kernel_rfl
noncomputable def z148 (k : Nat) : ((QT7 × QT27 × Unit) × QT7 × Unit) → Option QT28 := fun x => match x with
 | (p, t, ()) =>
  bd k (z113 k (p.1, t, ())) fun y1 =>
  some ((y1.1.1, ()), ((), (), ()))
noncomputable def z148.sg (k : Nat) : Sig := ⟨(.cons (.pur QK30) QS41), QS6, z148 k, []⟩
theorem z148.ok (k : Nat) : SigHolds Tryz.prog L 113 (z148.sg k) :=
  soe (C := ⟨Tryz.prog, [(114, [z113.sg k])], k, [], []⟩) (hc1 (z113.ok k) holds_nil) Tryz.func113 {} fun _ => by kernel_rfl
noncomputable def z82.l0 (k : Nat) : E2 ((QT44 × QT7 × (Unit) × Int × Int × Int × Unit) → Option ((Int × Bool × Unit) × (Unit × Unit × (Unit) × Unit))) := fun G0 x => match x with
 | (x_, target, (()), n, i, j, ()) =>
  br k (decide (i < j))
  (br k (decide (0 ≤ (1 : Int)))
  (br k (decide (0 ≤ (IntKind.wrap .i64 ((IntKind.wrap .u64 (IntKind.wrap .i64 (i + j))).fdiv (2 ^ (min (1 : Int).toNat 64))))))
  (bd k (x_[(IntKind.wrap .i64 ((IntKind.wrap .u64 (IntKind.wrap .i64 (i + j))).fdiv (2 ^ (min (1 : Int).toNat 64)))).toNat]?) fun x1 =>
  bd k (z148 k (x1, target, ())) fun y2 =>
  br k (decide (y2.1.1 < 0))
  (G0 (x_, target, (()), n, IntKind.wrap .i64 ((IntKind.wrap .i64 ((IntKind.wrap .u64 (IntKind.wrap .i64 (i + j))).fdiv (2 ^ (min (1 : Int).toNat 64)))) + 1), j, ()))
  (G0 (x_, target, (()), n, i, IntKind.wrap .i64 ((IntKind.wrap .u64 (IntKind.wrap .i64 (i + j))).fdiv (2 ^ (min (1 : Int).toNat 64))), ())))
  none)
  none)
  ((br k (decide (i < n))
  (br k (decide (0 ≤ i))
  (bd k (x_[i.toNat]?) fun x3 =>
  bd k (z148 k (x3, target, ())) fun y4 =>
  some (i, y4.1.1 == 0, ()))
  none)
  (some (i, false, ())) : Option (Int × Bool × Unit)).bind fun j5 =>
  some ((j5.1, j5.2.1, ()), ((), (), (()), ())))
noncomputable def z82 (k : Nat) : (QT44 × QT7 × (Unit) × Unit) → Option ((Int × Bool × Unit) × (Unit × Unit × (Unit) × Unit)) := fun x => match x with
 | (x_, target, (()), ()) =>
  iter (z82.l0 k) k (x_, target, (()), (x_.length : Int), 0, (x_.length : Int), ())
noncomputable def z82.sg (k : Nat) : Sig := ⟨(.cons (.pur (.sl false QK30)) (.cons (.pur (.sl false QK0)) (.cons (.fn (.func 113) 0 .nil) .nil))), (.cons (.pur (.int .i64)) QS19), z82 k, []⟩
theorem z82.ok (k : Nat) : SigHolds Tryz.prog L 112 (z82.sg k) :=
  soe (C := ⟨Tryz.prog, [(113, [z148.sg k])], k, [], []⟩) (hc1 (z148.ok k) holds_nil) Tryz.func112 { loops := [(0, [(0, (.pur (.sl false QK30))), (1, (.pur (.sl false QK0))), (2, (.fn (.func 113) 0 .nil)), (8, (.pur (.int .i64))), (9, (.pur (.int .i64))), (10, (.pur (.int .i64)))])], joins := [(8, [(6, (.int .i64)), (7, .bool)])] } fun _ => by kernel_rfl
noncomputable def z185 (k : Nat) : (QT44 × QT7 × Unit) → Option ((Int × Bool × Unit) × (Unit × Unit × Unit)) := fun x => match x with
 | (l_, t, ()) =>
  bd k (z82 k (l_, t, (()), ())) fun y1 =>
  some ((y1.1.1, y1.1.2.1, ()), ((), (), ()))
noncomputable def z185.sg (k : Nat) : Sig := ⟨(.cons (.pur (.sl false QK30)) QS41), (.cons (.pur (.int .i64)) QS19), z185 k, []⟩
theorem z185.ok (k : Nat) : SigHolds Tryz.prog L 59 (z185.sg k) :=
  soe (C := ⟨Tryz.prog, [(112, [z82.sg k])], k, [], []⟩) (hc1 (z82.ok k) holds_nil) Tryz.func59 {} fun _ => by kernel_rfl
noncomputable def z215 (k : Nat) : (QT2 × QT27 × Unit) → Option QT21 := fun x => match x with
 | (d_, t, ()) =>
  (bd k (z30 k (d_, ())) fun y1 =>
  br k (y1.1.1)
  (bd k (z114 k (d_, t, ())) fun y2 =>
  some (y2.1.1, ()))
  (some (false, ())) : Option (Bool × Unit)).bind fun j3 =>
  some ((j3.1, ()), ((), (), ()))
noncomputable def z215.sg (k : Nat) : Sig := ⟨(.cons QS4 (.cons (.pur (.sl false QK13)) .nil)), QS19, z215 k, []⟩
theorem z215.ok (hSp : Lb.NeedSp L) (k : Nat) : SigHolds Tryz.prog L 115 (z215.sg k) :=
  soe (C := ⟨Tryz.prog, [(110, [z30.sg k]), (167, [z114.sg k])], k, [], []⟩) (hc1 (z30.ok hSp k) (hc1 (z114.ok k) holds_nil)) Tryz.func115 { joins := [(1, [(4, .bool)])] } fun _ => by kernel_rfl
noncomputable def z63.l0 (k : Nat) : E2 ((QT10 × (List QT39) × Int × Int × Unit) → Option QT21) := fun G0 x => match x with
 | ((s__0, s__1, s__2, ()), t33, t34, t35, ()) =>
  br k (decide (t35 < t34))
  (br k (decide (0 ≤ t35))
  (bd k (t33[t35.toNat]?) fun x2 =>
  br k (decide (0 ≤ t35))
  (bd k (s__2[t35.toNat]?) fun x3 =>
  bd k (z32 k (x3, ())) fun y4 =>
  br k (y4.1.1 != x2.2.1)
  (some ((false, ()), ((), (), ())))
  (G0 ((s__0, s__1, s__2, ()), t33, t34, IntKind.wrap .i64 (t35 + 1), ())))
  none)
  none)
  (some ((true, ()), ((), (), ())))
noncomputable def z63 (k : Nat) : (QT2 × QT10 × Unit) → Option QT21 := fun x => match x with
 | (d_, s_, ()) =>
  (br k ((s_.1.length : Int) != (d_.1.length : Int))
  (some (true, ()))
  (br k ((s_.2.1.length : Int) != (d_.2.1.length : Int))
  (some (true, ()))
  (some ((s_.2.2.1.length : Int) != (d_.2.2.1.length : Int), ()))) : Option (Bool × Unit)).bind fun j1 =>
  br k (j1.1)
  (some ((false, ()), ((), (), ())))
  (iter (z63.l0 k) k ((s_.1, s_.2.1, s_.2.2.1, ()), d_.2.2.1, (d_.2.2.1.length : Int), 0, ()))
noncomputable def z63.sg (k : Nat) : Sig := ⟨(.cons QS4 QS58), QS19, z63 k, []⟩
theorem z63.ok (k : Nat) : SigHolds Tryz.prog L 116 (z63.sg k) :=
  soe (C := ⟨Tryz.prog, [(168, [z32.sg k])], k, [], []⟩) (hc1 (z32.ok k) holds_nil) Tryz.func116 { loops := [(0, [(3, QS20), (33, (.pur QK17)), (34, (.pur (.int .i64))), (35, (.pur (.int .i64)))])], joins := [(1, [(31, .bool)])] } fun _ => by kernel_rfl
noncomputable def z83.l0 (k : Nat) : E2 ((Int × (List Bool) × Int × Int × Unit) → Option QT36) := fun G0 x => match x with
 | (out_, t6, t7, t8, ()) =>
  br k (decide (t8 < t7))
  (br k (decide (0 ≤ t8))
  (bd k (t6[t8.toNat]?) fun x1 =>
  bd k (z29 k (x1, ())) fun y2 =>
  br k (decide (0 ≤ t8))
  (G0 (IntKind.wrap .i64 (((BitVec.ofInt 64 out_ ||| BitVec.ofInt 64 (IntKind.wrap .i64 (y2.1.1 * 2 ^ (min t8.toNat 64)))).toNat : Int)), t6, t7, IntKind.wrap .i64 (t8 + 1), ()))
  none)
  none)
  (some ((out_, ()), ((), ())))
noncomputable def z83 (k : Nat) : ((List Bool) × Unit) → Option QT36 := fun x => match x with
 | (flags, ()) =>
  iter (z83.l0 k) k (0, flags, (flags.length : Int), 0, ())
noncomputable def z83.sg (k : Nat) : Sig := ⟨(.cons (.pur (.sl false .bool)) .nil), QS6, z83 k, []⟩
theorem z83.ok (k : Nat) : SigHolds Tryz.prog L 117 (z83.sg k) :=
  soe (C := ⟨Tryz.prog, [(169, [z29.sg k])], k, [], []⟩) (hc1 (z29.ok k) holds_nil) Tryz.func117 { loops := [(0, [(3, (.pur (.int .i64))), (6, (.pur (.sl false .bool))), (7, (.pur (.int .i64))), (8, (.pur (.int .i64)))])] } fun _ => by kernel_rfl
end Go.Pev.F
