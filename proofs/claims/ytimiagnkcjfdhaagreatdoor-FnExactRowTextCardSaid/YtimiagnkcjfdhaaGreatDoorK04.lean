/-
  Printed by gen.py: what functions of the program compute, and that they do.
-/
import Derived.Test.YtimiagnkcjfdhaaGreatDoorK03
set_option linter.unusedSimpArgs false
set_option linter.unusedVariables false
open Go.Proofs Go.Pev
namespace Go.Pev.F
set_option maxRecDepth 100000
set_option linter.unusedVariables false

/-! loop.example/g00719/spec.EnvOk -/
def spec_EnvOk.A : Sh := (.cons (.pur (.cons (.sl false .str) (.cons (.sl false .str) (.cons (.sl false (.cons .str (.cons (.int .i64) .nil))) .nil)))) (.cons (.pur (.cons .bool (.cons (.sl false (.cons (.int .i64) (.cons (.int .i64) .nil))) (.cons (.sl false (.cons (.int .i64) (.cons (.int .i64) .nil))) .nil)))) .nil))
def spec_EnvOk.R : Sh := (.cons (.pur .bool) .nil)
def spec_EnvOk.ann : Ann := { loops := [(0, [(5, (.own (.cons (.int .i64) (.cons (.int .i64) .nil)))), (6, (.pur (.int .i64)))])], joins := [(4, [(4, .bool)]), (5, [(38, .bool)])], keys := [] }
noncomputable def spec_EnvOk.l0 (k : Nat)  (G0 : ((List (Int × Int × Unit)) × Int × Unit) → Option ((Bool × Unit) × (Unit × Unit × Unit))) : ((List (Int × Int × Unit)) × Int × Unit) → Option ((Bool × Unit) × (Unit × Unit × Unit)) := fun x => match x with
 | (l_, i, ()) =>
  br k (decide (i < (l_.length : Int)))
  (br k (decide (0 ≤ i ∧ i < (l_.length : Int)))
  (bd k (l_[i.toNat]?) fun x5 =>
  bd k (spec_IvOk k (x5, ())) fun y6 =>
  br k (!y6.1.1)
  (some ((false, ()), ((), (), ())))
  (G0 (l_, IntKind.wrap .i64 (i + 1), ())))
  none)
  (some ((true, ()), ((), (), ())))
noncomputable def spec_EnvOk (k : Nat) : (((List (List UInt8)) × (List (List UInt8)) × (List ((List UInt8) × Int × Unit)) × Unit) × (Bool × (List (Int × Int × Unit)) × (List (Int × Int × Unit)) × Unit) × Unit) → Option ((Bool × Unit) × (Unit × Unit × Unit)) := fun x => match x with
 | (d_, e_, ()) =>
  bd k (spec_DeclOk k (d_, ())) fun y1 =>
  br k (!y1.1.1)
  (some ((false, ()), ((), (), ())))
  (br k (!e_.1)
  ((br k ((e_.2.1.length : Int) == 0)
  (some ((e_.2.2.1.length : Int) == 0, ()))
  (some (false, ())) : Option (Bool × Unit)).bind fun j2 =>
  some ((j2.1, ()), ((), (), ())))
  ((br k ((e_.2.1.length : Int) != (d_.1.length : Int))
  (some (true, ()))
  (some ((e_.2.2.1.length : Int) != (d_.2.2.1.length : Int), ())) : Option (Bool × Unit)).bind fun j3 =>
  br k (j3.1)
  (some ((false, ()), ((), (), ())))
  (bd k (spec_l6List k (e_, ())) fun y4 =>
  iter (spec_EnvOk.l0 k) k (y4.1.1, 0, ()))))
noncomputable def spec_EnvOk.sg (k : Nat) : Sig := ⟨spec_EnvOk.A, spec_EnvOk.R, spec_EnvOk k⟩
noncomputable def spec_EnvOk.C (k : Nat) : Ctx := ⟨Tryz.prog, [(54, [spec_DeclOk.sg k]), (120, [spec_l6List.sg k]), (121, [spec_IvOk.sg k])], k⟩
theorem spec_EnvOk.ev (k : Nat) (x : spec_EnvOk.A.T) : evFunc (spec_EnvOk.C k) spec_EnvOk.ann Tryz.f90 spec_EnvOk.A spec_EnvOk.R x = spec_EnvOk k x := by kernel_rfl
theorem spec_EnvOk.ok {L : List (Nat × Obj)}  (k : Nat) : SigHolds Tryz.prog L 90 (spec_EnvOk.sg k) :=
  sig_of_ev (C := spec_EnvOk.C k) (holds_cons (allok_cons (spec_DeclOk.ok k) allok_nil) (holds_cons (allok_cons (spec_l6List.ok k) allok_nil) (holds_cons (allok_cons (spec_IvOk.ok k) allok_nil) holds_nil))) (by kernel_rfl) Tryz.func90 (by kernel_rfl) spec_EnvOk.ann spec_EnvOk.A spec_EnvOk.R (fun x y h => (spec_EnvOk.ev k x).trans h) (by kernel_rfl)

/-! loop.example/g00719/spec.TableOk -/
def spec_TableOk.A : Sh := (.cons (.pur (.cons (.sl false .str) (.cons (.sl false .str) (.cons (.sl false (.cons .str (.cons (.int .i64) .nil))) .nil)))) (.cons (.pur (.sl false (.cons .bool (.cons (.sl false (.cons (.int .i64) (.cons (.int .i64) .nil))) (.cons (.sl false (.cons (.int .i64) (.cons (.int .i64) .nil))) .nil))))) .nil))
def spec_TableOk.R : Sh := (.cons (.pur .bool) .nil)
def spec_TableOk.ann : Ann := { loops := [(0, [(1, (.pur (.sl false (.cons .bool (.cons (.sl false (.cons (.int .i64) (.cons (.int .i64) .nil))) (.cons (.sl false (.cons (.int .i64) (.cons (.int .i64) .nil))) .nil)))))), (2, (.box (.cons (.pur (.sl false .str)) (.cons (.pur (.sl false .str)) (.cons (.pur (.sl false (.cons .str (.cons (.int .i64) .nil)))) .nil))))), (5, (.pur (.int .i64)))])], joins := [(1, [(15, .bool)])], keys := [] }
noncomputable def spec_TableOk.l0 (k : Nat)  (G0 : ((List (Bool × (List (Int × Int × Unit)) × (List (Int × Int × Unit)) × Unit)) × ((List (List UInt8)) × (List (List UInt8)) × (List ((List UInt8) × Int × Unit)) × Unit) × Int × Unit) → Option ((Bool × Unit) × (Unit × Unit × Unit))) : ((List (Bool × (List (Int × Int × Unit)) × (List (Int × Int × Unit)) × Unit)) × ((List (List UInt8)) × (List (List UInt8)) × (List ((List UInt8) × Int × Unit)) × Unit) × Int × Unit) → Option ((Bool × Unit) × (Unit × Unit × Unit)) := fun x => match x with
 | (t, (d__0, d__1, d__2, ()), i, ()) =>
  br k (decide (i < (t.length : Int)))
  (br k (decide (0 ≤ i))
  (bd k (t[i.toNat]?) fun x4 =>
  bd k (spec_EnvOk k ((d__0, d__1, d__2, ()), x4, ())) fun y5 =>
  br k (!y5.1.1)
  (some ((false, ()), ((), (), ())))
  (G0 (t, (d__0, d__1, d__2, ()), IntKind.wrap .i64 (i + 1), ())))
  none)
  (some ((true, ()), ((), (), ())))
noncomputable def spec_TableOk (k : Nat) : (((List (List UInt8)) × (List (List UInt8)) × (List ((List UInt8) × Int × Unit)) × Unit) × (List (Bool × (List (Int × Int × Unit)) × (List (Int × Int × Unit)) × Unit)) × Unit) → Option ((Bool × Unit) × (Unit × Unit × Unit)) := fun x => match x with
 | (d_, t, ()) =>
  (bd k (spec_DeclOk k (d_, ())) fun y1 =>
  br k (!y1.1.1)
  (some (true, ()))
  (bd k (spec_l8Size k (d_, ())) fun y2 =>
  some ((t.length : Int) != y2.1.1, ())) : Option (Bool × Unit)).bind fun j3 =>
  br k (j3.1)
  (some ((false, ()), ((), (), ())))
  (iter (spec_TableOk.l0 k) k (t, (d_.1, d_.2.1, d_.2.2.1, ()), 0, ()))
noncomputable def spec_TableOk.sg (k : Nat) : Sig := ⟨spec_TableOk.A, spec_TableOk.R, spec_TableOk k⟩
noncomputable def spec_TableOk.C (k : Nat) : Ctx := ⟨Tryz.prog, [(54, [spec_DeclOk.sg k]), (73, [spec_l8Size.sg k]), (90, [spec_EnvOk.sg k])], k⟩
theorem spec_TableOk.ev (k : Nat) (x : spec_TableOk.A.T) : evFunc (spec_TableOk.C k) spec_TableOk.ann Tryz.f57 spec_TableOk.A spec_TableOk.R x = spec_TableOk k x := by kernel_rfl
theorem spec_TableOk.ok {L : List (Nat × Obj)}  (k : Nat) : SigHolds Tryz.prog L 57 (spec_TableOk.sg k) :=
  sig_of_ev (C := spec_TableOk.C k) (holds_cons (allok_cons (spec_DeclOk.ok k) allok_nil) (holds_cons (allok_cons (spec_l8Size.ok k) allok_nil) (holds_cons (allok_cons (spec_EnvOk.ok k) allok_nil) holds_nil))) (by kernel_rfl) Tryz.func57 (by kernel_rfl) spec_TableOk.ann spec_TableOk.A spec_TableOk.R (fun x y h => (spec_TableOk.ev k x).trans h) (by kernel_rfl)

/-! loop.example/g00719/spec.l8Same -/
def spec_l8Same.A : Sh := (.cons (.pur (.cons .bool (.cons (.sl false (.cons (.int .i64) (.cons (.int .i64) .nil))) (.cons (.sl false (.cons (.int .i64) (.cons (.int .i64) .nil))) .nil)))) (.cons (.pur (.cons .bool (.cons (.sl false (.cons (.int .i64) (.cons (.int .i64) .nil))) (.cons (.sl false (.cons (.int .i64) (.cons (.int .i64) .nil))) .nil)))) .nil))
def spec_l8Same.R : Sh := (.cons (.pur .bool) .nil)
def spec_l8Same.ann : Ann := { loops := [(0, [(5, (.own (.cons (.int .i64) (.cons (.int .i64) .nil)))), (6, (.own (.cons (.int .i64) (.cons (.int .i64) .nil)))), (7, (.pur (.int .i64)))])], joins := [(1, [(30, .bool)])], keys := [] }
noncomputable def spec_l8Same.l0 (k : Nat)  (G0 : ((List (Int × Int × Unit)) × (List (Int × Int × Unit)) × Int × Unit) → Option ((Bool × Unit) × (Unit × Unit × Unit))) : ((List (Int × Int × Unit)) × (List (Int × Int × Unit)) × Int × Unit) → Option ((Bool × Unit) × (Unit × Unit × Unit)) := fun x => match x with
 | (x_, y_, i, ()) =>
  br k (decide (i < (x_.length : Int)))
  (br k (decide (0 ≤ i ∧ i < (x_.length : Int)))
  (bd k (x_[i.toNat]?) fun x4 =>
  br k (decide (0 ≤ i ∧ i < (y_.length : Int)))
  (bd k (y_[i.toNat]?) fun x5 =>
  br k (!((x4.1 == x5.1) && ((x4.2.1 == x5.2.1) && true)))
  (some ((false, ()), ((), (), ())))
  (G0 (x_, y_, IntKind.wrap .i64 (i + 1), ())))
  none)
  none)
  (some ((true, ()), ((), (), ())))
noncomputable def spec_l8Same (k : Nat) : ((Bool × (List (Int × Int × Unit)) × (List (Int × Int × Unit)) × Unit) × (Bool × (List (Int × Int × Unit)) × (List (Int × Int × Unit)) × Unit) × Unit) → Option ((Bool × Unit) × (Unit × Unit × Unit)) := fun x => match x with
 | (a, b_, ()) =>
  (br k (!(a.1 == b_.1))
  (some (true, ()))
  (br k ((a.2.1.length : Int) != (b_.2.1.length : Int))
  (some (true, ()))
  (some ((a.2.2.1.length : Int) != (b_.2.2.1.length : Int), ()))) : Option (Bool × Unit)).bind fun j1 =>
  br k (j1.1)
  (some ((false, ()), ((), (), ())))
  (bd k (spec_l6List k (a, ())) fun y2 =>
  bd k (spec_l6List k (b_, ())) fun y3 =>
  iter (spec_l8Same.l0 k) k (y2.1.1, y3.1.1, 0, ()))
noncomputable def spec_l8Same.sg (k : Nat) : Sig := ⟨spec_l8Same.A, spec_l8Same.R, spec_l8Same k⟩
noncomputable def spec_l8Same.C (k : Nat) : Ctx := ⟨Tryz.prog, [(120, [spec_l6List.sg k])], k⟩
theorem spec_l8Same.ev (k : Nat) (x : spec_l8Same.A.T) : evFunc (spec_l8Same.C k) spec_l8Same.ann Tryz.f110 spec_l8Same.A spec_l8Same.R x = spec_l8Same k x := by kernel_rfl
theorem spec_l8Same.ok {L : List (Nat × Obj)}  (k : Nat) : SigHolds Tryz.prog L 110 (spec_l8Same.sg k) :=
  sig_of_ev (C := spec_l8Same.C k) (holds_cons (allok_cons (spec_l6List.ok k) allok_nil) holds_nil) (by kernel_rfl) Tryz.func110 (by kernel_rfl) spec_l8Same.ann spec_l8Same.A spec_l8Same.R (fun x y h => (spec_l8Same.ev k x).trans h) (by kernel_rfl)

/-! loop.example/g00719/spec.l8Node -/
def spec_l8Node.A : Sh := (.cons (.pur (.cons (.int .i64) (.cons (.int .i64) (.cons (.int .i64) (.cons .bool (.cons (.sl false (.cons (.int .i64) (.cons (.int .i64) .nil))) (.cons (.sl false (.cons (.int .i64) (.cons (.int .i64) .nil))) .nil))))))) (.cons (.pur (.cons (.int .i64) (.cons (.int .i64) (.cons (.int .i64) (.cons .bool (.cons (.sl false (.cons (.int .i64) (.cons (.int .i64) .nil))) (.cons (.sl false (.cons (.int .i64) (.cons (.int .i64) .nil))) .nil))))))) .nil))
def spec_l8Node.R : Sh := (.cons (.pur .bool) .nil)
def spec_l8Node.ann : Ann := { loops := [], joins := [(1, [(4, .bool)])], keys := [] }
noncomputable def spec_l8Node (k : Nat) : ((Int × Int × Int × Bool × (List (Int × Int × Unit)) × (List (Int × Int × Unit)) × Unit) × (Int × Int × Int × Bool × (List (Int × Int × Unit)) × (List (Int × Int × Unit)) × Unit) × Unit) → Option ((Bool × Unit) × (Unit × Unit × Unit)) := fun x => match x with
 | (a, b_, ()) =>
  (br k (a.1 == b_.1)
  (br k (a.2.1 == b_.2.1)
  (br k (a.2.2.1 == b_.2.2.1)
  (bd k (spec_l8Same k ((a.2.2.2.1, a.2.2.2.2.1, a.2.2.2.2.2.1, ()), (b_.2.2.2.1, b_.2.2.2.2.1, b_.2.2.2.2.2.1, ()), ())) fun y1 =>
  some (y1.1.1, ()))
  (some (false, ())))
  (some (false, ())))
  (some (false, ())) : Option (Bool × Unit)).bind fun j2 =>
  some ((j2.1, ()), ((), (), ()))
noncomputable def spec_l8Node.sg (k : Nat) : Sig := ⟨spec_l8Node.A, spec_l8Node.R, spec_l8Node k⟩
noncomputable def spec_l8Node.C (k : Nat) : Ctx := ⟨Tryz.prog, [(110, [spec_l8Same.sg k])], k⟩
theorem spec_l8Node.ev (k : Nat) (x : spec_l8Node.A.T) : evFunc (spec_l8Node.C k) spec_l8Node.ann Tryz.f76 spec_l8Node.A spec_l8Node.R x = spec_l8Node k x := by kernel_rfl
theorem spec_l8Node.ok {L : List (Nat × Obj)}  (k : Nat) : SigHolds Tryz.prog L 76 (spec_l8Node.sg k) :=
  sig_of_ev (C := spec_l8Node.C k) (holds_cons (allok_cons (spec_l8Same.ok k) allok_nil) holds_nil) (by kernel_rfl) Tryz.func76 (by kernel_rfl) spec_l8Node.ann spec_l8Node.A spec_l8Node.R (fun x y h => (spec_l8Node.ev k x).trans h) (by kernel_rfl)

/-! loop.example/g00719/spec.l8Add -/
def spec_l8Add.A : Sh := (.cons (.own (.cons (.int .i64) (.cons (.int .i64) (.cons (.int .i64) (.cons .bool (.cons (.sl false (.cons (.int .i64) (.cons (.int .i64) .nil))) (.cons (.sl false (.cons (.int .i64) (.cons (.int .i64) .nil))) .nil))))))) (.cons (.agg (.cons (.pur (.int .i64)) (.cons (.pur (.int .i64)) (.cons (.pur (.int .i64)) (.cons (.pur .bool) (.cons (.own (.cons (.int .i64) (.cons (.int .i64) .nil))) (.cons (.own (.cons (.int .i64) (.cons (.int .i64) .nil))) .nil))))))) .nil))
def spec_l8Add.R : Sh := (.cons (.own (.cons (.int .i64) (.cons (.int .i64) (.cons (.int .i64) (.cons .bool (.cons (.sl false (.cons (.int .i64) (.cons (.int .i64) .nil))) (.cons (.sl false (.cons (.int .i64) (.cons (.int .i64) .nil))) .nil))))))) (.cons (.pur (.int .i64)) .nil))
def spec_l8Add.ann : Ann := { loops := [(0, [(0, (.own (.cons (.int .i64) (.cons (.int .i64) (.cons (.int .i64) (.cons .bool (.cons (.sl false (.cons (.int .i64) (.cons (.int .i64) .nil))) (.cons (.sl false (.cons (.int .i64) (.cons (.int .i64) .nil))) .nil)))))))), (3, (.box (.cons (.pur (.int .i64)) (.cons (.pur (.int .i64)) (.cons (.pur (.int .i64)) (.cons (.pur .bool) (.cons (.own (.cons (.int .i64) (.cons (.int .i64) .nil))) (.cons (.own (.cons (.int .i64) (.cons (.int .i64) .nil))) .nil)))))))), (6, (.pur (.int .i64)))])], joins := [], keys := [] }
noncomputable def spec_l8Add.l0 (k : Nat)  (G0 : ((List (Int × Int × Int × Bool × (List (Int × Int × Unit)) × (List (Int × Int × Unit)) × Unit)) × (Int × Int × Int × Bool × (List (Int × Int × Unit)) × (List (Int × Int × Unit)) × Unit) × Int × Unit) → Option (((List (Int × Int × Int × Bool × (List (Int × Int × Unit)) × (List (Int × Int × Unit)) × Unit)) × Int × Unit) × (Unit × (Unit × Unit × Unit × Unit × Unit × Unit × Unit) × Unit))) : ((List (Int × Int × Int × Bool × (List (Int × Int × Unit)) × (List (Int × Int × Unit)) × Unit)) × (Int × Int × Int × Bool × (List (Int × Int × Unit)) × (List (Int × Int × Unit)) × Unit) × Int × Unit) → Option (((List (Int × Int × Int × Bool × (List (Int × Int × Unit)) × (List (Int × Int × Unit)) × Unit)) × Int × Unit) × (Unit × (Unit × Unit × Unit × Unit × Unit × Unit × Unit) × Unit)) := fun x => match x with
 | (l_, (n_0, n_1, n_2, n_3, n_4, n_5, ()), i, ()) =>
  br k (decide (i < (l_.length : Int)))
  (br k (decide (0 ≤ i ∧ i < (l_.length : Int)))
  (bd k (l_[i.toNat]?) fun x1 =>
  bd k (spec_l8Node k (x1, (n_0, n_1, n_2, n_3, n_4, n_5, ()), ())) fun y2 =>
  br k (y2.1.1)
  (some ((l_, i, ()), ((), ((), (), (), (), (), (), ()), ())))
  (G0 (l_, (n_0, n_1, n_2, n_3, n_4, n_5, ()), IntKind.wrap .i64 (i + 1), ())))
  none)
  (br k (decide ((l_.length + ([(n_0, n_1, n_2, n_3, n_4, n_5, ())] : List (Int × Int × Int × Bool × (List (Int × Int × Unit)) × (List (Int × Int × Unit)) × Unit)).length) * 80 ≤ maxBytes))
  (some ((l_ ++ ([(n_0, n_1, n_2, n_3, n_4, n_5, ())] : List (Int × Int × Int × Bool × (List (Int × Int × Unit)) × (List (Int × Int × Unit)) × Unit)), (l_.length : Int), ()), ((), ((), (), (), (), (), (), ()), ())))
  none)
noncomputable def spec_l8Add (k : Nat) : ((List (Int × Int × Int × Bool × (List (Int × Int × Unit)) × (List (Int × Int × Unit)) × Unit)) × (Int × Int × Int × Bool × (List (Int × Int × Unit)) × (List (Int × Int × Unit)) × Unit) × Unit) → Option (((List (Int × Int × Int × Bool × (List (Int × Int × Unit)) × (List (Int × Int × Unit)) × Unit)) × Int × Unit) × (Unit × (Unit × Unit × Unit × Unit × Unit × Unit × Unit) × Unit)) := fun x => match x with
 | (l_, (n_0, n_1, n_2, n_3, n_4, n_5, ()), ()) =>
  iter (spec_l8Add.l0 k) k (l_, (n_0, n_1, n_2, n_3, n_4, n_5, ()), 0, ())
noncomputable def spec_l8Add.sg (k : Nat) : Sig := ⟨spec_l8Add.A, spec_l8Add.R, spec_l8Add k⟩
noncomputable def spec_l8Add.C (k : Nat) : Ctx := ⟨Tryz.prog, [(76, [spec_l8Node.sg k])], k⟩
theorem spec_l8Add.ev (k : Nat) (x : spec_l8Add.A.T) : evFunc (spec_l8Add.C k) spec_l8Add.ann Tryz.f122 spec_l8Add.A spec_l8Add.R x = spec_l8Add k x := by kernel_rfl
theorem spec_l8Add.ok {L : List (Nat × Obj)}  (k : Nat) : SigHolds Tryz.prog L 122 (spec_l8Add.sg k) :=
  sig_of_ev (C := spec_l8Add.C k) (holds_cons (allok_cons (spec_l8Node.ok k) allok_nil) holds_nil) (by kernel_rfl) Tryz.func122 (by kernel_rfl) spec_l8Add.ann spec_l8Add.A spec_l8Add.R (fun x y h => (spec_l8Add.ev k x).trans h) (by kernel_rfl)

/-! loop.example/g00719/spec.l8Build -/
def spec_l8Build.A : Sh := (.cons (.pur (.sl false (.cons .bool (.cons (.sl false (.cons (.int .i64) (.cons (.int .i64) .nil))) (.cons (.sl false (.cons (.int .i64) (.cons (.int .i64) .nil))) .nil))))) (.cons (.own (.cons (.int .i64) (.cons (.int .i64) (.cons (.int .i64) (.cons .bool (.cons (.sl false (.cons (.int .i64) (.cons (.int .i64) .nil))) (.cons (.sl false (.cons (.int .i64) (.cons (.int .i64) .nil))) .nil))))))) (.cons (.pur (.int .i64)) (.cons (.pur (.int .i64)) .nil))))
def spec_l8Build.R : Sh := (.cons (.own (.cons (.int .i64) (.cons (.int .i64) (.cons (.int .i64) (.cons .bool (.cons (.sl false (.cons (.int .i64) (.cons (.int .i64) .nil))) (.cons (.sl false (.cons (.int .i64) (.cons (.int .i64) .nil))) .nil))))))) (.cons (.pur (.int .i64)) .nil))
def spec_l8Build.ann : Ann := { loops := [], joins := [], keys := [] }
noncomputable def spec_l8Build.f (k : Nat) (R_ : ((List (Bool × (List (Int × Int × Unit)) × (List (Int × Int × Unit)) × Unit)) × (List (Int × Int × Int × Bool × (List (Int × Int × Unit)) × (List (Int × Int × Unit)) × Unit)) × Int × Int × Unit) → Option (((List (Int × Int × Int × Bool × (List (Int × Int × Unit)) × (List (Int × Int × Unit)) × Unit)) × Int × Unit) × (Unit × Unit × Unit × Unit × Unit))) : ((List (Bool × (List (Int × Int × Unit)) × (List (Int × Int × Unit)) × Unit)) × (List (Int × Int × Int × Bool × (List (Int × Int × Unit)) × (List (Int × Int × Unit)) × Unit)) × Int × Int × Unit) → Option (((List (Int × Int × Int × Bool × (List (Int × Int × Unit)) × (List (Int × Int × Unit)) × Unit)) × Int × Unit) × (Unit × Unit × Unit × Unit × Unit)) := fun x => match x with
 | (t, l_, flag, leaf, ()) =>
  br k (decide (0 ≤ (IntKind.wrap .u64 flag)))
  (br k ((IntKind.wrap .i64 (1 * 2 ^ (min (IntKind.wrap .u64 flag).toNat 64))) == (t.length : Int))
  (br k (decide (0 ≤ leaf))
  (bd k (t[leaf.toNat]?) fun x1 =>
  bd k (spec_l6Copy k (x1, ())) fun y2 =>
  bd k (spec_l8Add k (l_, ((-1), 0, 0, y2.1.1.1, y2.1.1.2.1, y2.1.1.2.2.1, ()), ())) fun y3 =>
  some ((y3.1.1, y3.1.2.1, ()), ((), (), (), (), ())))
  none)
  (bd k (R_ (t, l_, IntKind.wrap .i64 (flag + 1), leaf, ())) fun y4 =>
  br k (decide (0 ≤ (IntKind.wrap .u64 flag)))
  (bd k (R_ (t, y4.1.1, IntKind.wrap .i64 (flag + 1), IntKind.wrap .i64 (leaf + (IntKind.wrap .i64 (1 * 2 ^ (min (IntKind.wrap .u64 flag).toNat 64)))), ())) fun y5 =>
  br k (y4.1.2.1 == y5.1.2.1)
  (some ((y5.1.1, y4.1.2.1, ()), ((), (), (), (), ())))
  (bd k (spec_l8Add k (y5.1.1, (flag, y4.1.2.1, y5.1.2.1, false, [], [], ()), ())) fun y6 =>
  some ((y6.1.1, y6.1.2.1, ()), ((), (), (), (), ()))))
  none))
  none
noncomputable def spec_l8Build (k : Nat) : ((List (Bool × (List (Int × Int × Unit)) × (List (Int × Int × Unit)) × Unit)) × (List (Int × Int × Int × Bool × (List (Int × Int × Unit)) × (List (Int × Int × Unit)) × Unit)) × Int × Int × Unit) → Option (((List (Int × Int × Int × Bool × (List (Int × Int × Unit)) × (List (Int × Int × Unit)) × Unit)) × Int × Unit) × (Unit × Unit × Unit × Unit × Unit)) := iter (spec_l8Build.f k) k
noncomputable def spec_l8Build.sg (k : Nat) : Sig := ⟨spec_l8Build.A, spec_l8Build.R, spec_l8Build k⟩
noncomputable def spec_l8Build.C (k : Nat) (R_ : ((List (Bool × (List (Int × Int × Unit)) × (List (Int × Int × Unit)) × Unit)) × (List (Int × Int × Int × Bool × (List (Int × Int × Unit)) × (List (Int × Int × Unit)) × Unit)) × Int × Int × Unit) → Option (((List (Int × Int × Int × Bool × (List (Int × Int × Unit)) × (List (Int × Int × Unit)) × Unit)) × Int × Unit) × (Unit × Unit × Unit × Unit × Unit))) : Ctx := ⟨Tryz.prog, [(75, [spec_l6Copy.sg k]), (122, [spec_l8Add.sg k]), (92, [⟨spec_l8Build.A, spec_l8Build.R, R_⟩])], k⟩
theorem spec_l8Build.ev (k : Nat) (R_ : ((List (Bool × (List (Int × Int × Unit)) × (List (Int × Int × Unit)) × Unit)) × (List (Int × Int × Int × Bool × (List (Int × Int × Unit)) × (List (Int × Int × Unit)) × Unit)) × Int × Int × Unit) → Option (((List (Int × Int × Int × Bool × (List (Int × Int × Unit)) × (List (Int × Int × Unit)) × Unit)) × Int × Unit) × (Unit × Unit × Unit × Unit × Unit))) (x : spec_l8Build.A.T) : evFunc (spec_l8Build.C k R_) spec_l8Build.ann Tryz.f92 spec_l8Build.A spec_l8Build.R x = spec_l8Build.f k R_ x := by kernel_rfl
theorem spec_l8Build.oks {L : List (Nat × Obj)}  (k : Nat) : (n : Nat) → SigHolds Tryz.prog L 92 ⟨spec_l8Build.A, spec_l8Build.R, iter (spec_l8Build.f k) n⟩
  | 0 => sig_zero Tryz.func92 (by kernel_rfl) (by kernel_rfl)
  | n + 1 => have ih := spec_l8Build.oks  k n
    sig_of_ev (C := spec_l8Build.C k (iter (spec_l8Build.f k) n)) (holds_cons (allok_cons (spec_l6Copy.ok k) allok_nil) (holds_cons (allok_cons (spec_l8Add.ok k) allok_nil) (holds_cons (allok_cons (ih) allok_nil) holds_nil))) (by kernel_rfl) Tryz.func92 (by kernel_rfl) spec_l8Build.ann spec_l8Build.A spec_l8Build.R (fun x y h => (spec_l8Build.ev k _ x).trans h) (by kernel_rfl)
theorem spec_l8Build.ok {L : List (Nat × Obj)}  (k : Nat) : SigHolds Tryz.prog L 92 (spec_l8Build.sg k) := spec_l8Build.oks  k k

/-! loop.example/g00719/spec.TreeOf -/
def spec_TreeOf.A : Sh := (.cons (.pur (.cons (.sl false .str) (.cons (.sl false .str) (.cons (.sl false (.cons .str (.cons (.int .i64) .nil))) .nil)))) (.cons (.pur (.sl false (.cons .bool (.cons (.sl false (.cons (.int .i64) (.cons (.int .i64) .nil))) (.cons (.sl false (.cons (.int .i64) (.cons (.int .i64) .nil))) .nil))))) .nil))
def spec_TreeOf.R : Sh := (.cons (.agg (.cons (.own (.cons (.int .i64) (.cons (.int .i64) (.cons (.int .i64) (.cons .bool (.cons (.sl false (.cons (.int .i64) (.cons (.int .i64) .nil))) (.cons (.sl false (.cons (.int .i64) (.cons (.int .i64) .nil))) .nil))))))) .nil)) .nil)
def spec_TreeOf.ann : Ann := { loops := [], joins := [], keys := [] }
noncomputable def spec_TreeOf (k : Nat) : (((List (List UInt8)) × (List (List UInt8)) × (List ((List UInt8) × Int × Unit)) × Unit) × (List (Bool × (List (Int × Int × Unit)) × (List (Int × Int × Unit)) × Unit)) × Unit) → Option ((((List (Int × Int × Int × Bool × (List (Int × Int × Unit)) × (List (Int × Int × Unit)) × Unit)) × Unit) × Unit) × (Unit × Unit × Unit)) := fun x => match x with
 | (d_, t, ()) =>
  bd k (spec_TableOk k (d_, t, ())) fun y1 =>
  br k (!y1.1.1)
  (some ((([], ()), ()), ((), (), ())))
  (bd k (spec_l8Build k (t, [], 0, 0, ())) fun y2 =>
  some (((y2.1.1, ()), ()), ((), (), ())))
noncomputable def spec_TreeOf.sg (k : Nat) : Sig := ⟨spec_TreeOf.A, spec_TreeOf.R, spec_TreeOf k⟩
noncomputable def spec_TreeOf.C (k : Nat) : Ctx := ⟨Tryz.prog, [(57, [spec_TableOk.sg k]), (92, [spec_l8Build.sg k])], k⟩
theorem spec_TreeOf.ev (k : Nat) (x : spec_TreeOf.A.T) : evFunc (spec_TreeOf.C k) spec_TreeOf.ann Tryz.f60 spec_TreeOf.A spec_TreeOf.R x = spec_TreeOf k x := by kernel_rfl
theorem spec_TreeOf.ok {L : List (Nat × Obj)}  (k : Nat) : SigHolds Tryz.prog L 60 (spec_TreeOf.sg k) :=
  sig_of_ev (C := spec_TreeOf.C k) (holds_cons (allok_cons (spec_TableOk.ok k) allok_nil) (holds_cons (allok_cons (spec_l8Build.ok k) allok_nil) holds_nil)) (by kernel_rfl) Tryz.func60 (by kernel_rfl) spec_TreeOf.ann spec_TreeOf.A spec_TreeOf.R (fun x y h => (spec_TreeOf.ev k x).trans h) (by kernel_rfl)

/-! loop.example/g00719/spec.TableOf -/
def spec_TableOf.A : Sh := (.cons (.pur (.cons (.sl false .str) (.cons (.sl false .str) (.cons (.sl false (.cons .str (.cons (.int .i64) .nil))) .nil)))) (.cons (.pur (.cons (.sl false (.cons (.int .i64) (.cons (.int .i64) (.cons (.int .i64) (.cons .bool (.cons (.sl false (.cons (.int .i64) (.cons (.int .i64) .nil))) (.cons (.sl false (.cons (.int .i64) (.cons (.int .i64) .nil))) .nil))))))) .nil)) .nil))
def spec_TableOf.R : Sh := (.cons (.pur (.sl false (.cons .bool (.cons (.sl false (.cons (.int .i64) (.cons (.int .i64) .nil))) (.cons (.sl false (.cons (.int .i64) (.cons (.int .i64) .nil))) .nil))))) (.cons (.pur .bool) .nil))
def spec_TableOf.ann : Ann := { loops := [(0, [(2, (.box (.cons (.pur (.sl false .str)) (.cons (.pur (.sl false .str)) (.cons (.pur (.sl false (.cons .str (.cons (.int .i64) .nil)))) .nil))))), (3, (.box (.cons (.pur (.sl false (.cons (.int .i64) (.cons (.int .i64) (.cons (.int .i64) (.cons .bool (.cons (.sl false (.cons (.int .i64) (.cons (.int .i64) .nil))) (.cons (.sl false (.cons (.int .i64) (.cons (.int .i64) .nil))) .nil)))))))) .nil))), (6, (.own (.cons .bool (.cons (.sl false (.cons (.int .i64) (.cons (.int .i64) .nil))) (.cons (.sl false (.cons (.int .i64) (.cons (.int .i64) .nil))) .nil))))), (7, (.pur (.int .i64)))]), (2, [(3, (.box (.cons (.pur (.sl false (.cons (.int .i64) (.cons (.int .i64) (.cons (.int .i64) (.cons .bool (.cons (.sl false (.cons (.int .i64) (.cons (.int .i64) .nil))) (.cons (.sl false (.cons (.int .i64) (.cons (.int .i64) .nil))) .nil)))))))) .nil))), (6, (.pur (.sl false (.cons .bool (.cons (.sl false (.cons (.int .i64) (.cons (.int .i64) .nil))) (.cons (.sl false (.cons (.int .i64) (.cons (.int .i64) .nil))) .nil)))))), (10, (.box (.cons (.own (.cons (.int .i64) (.cons (.int .i64) (.cons (.int .i64) (.cons .bool (.cons (.sl false (.cons (.int .i64) (.cons (.int .i64) .nil))) (.cons (.sl false (.cons (.int .i64) (.cons (.int .i64) .nil))) .nil))))))) .nil))), (11, (.pur (.int .i64)))])], joins := [(1, [(20, .bool)]), (12, [(56, .bool)])], keys := [] }
noncomputable def spec_TableOf.l2 (k : Nat)  (G2 : (((List (Int × Int × Int × Bool × (List (Int × Int × Unit)) × (List (Int × Int × Unit)) × Unit)) × Unit) × (List (Bool × (List (Int × Int × Unit)) × (List (Int × Int × Unit)) × Unit)) × ((List (Int × Int × Int × Bool × (List (Int × Int × Unit)) × (List (Int × Int × Unit)) × Unit)) × Unit) × Int × Unit) → Option (((List (Bool × (List (Int × Int × Unit)) × (List (Int × Int × Unit)) × Unit)) × Bool × Unit) × (Unit × Unit × Unit))) : (((List (Int × Int × Int × Bool × (List (Int × Int × Unit)) × (List (Int × Int × Unit)) × Unit)) × Unit) × (List (Bool × (List (Int × Int × Unit)) × (List (Int × Int × Unit)) × Unit)) × ((List (Int × Int × Int × Bool × (List (Int × Int × Unit)) × (List (Int × Int × Unit)) × Unit)) × Unit) × Int × Unit) → Option (((List (Bool × (List (Int × Int × Unit)) × (List (Int × Int × Unit)) × Unit)) × Bool × Unit) × (Unit × Unit × Unit)) := fun x => match x with
 | ((t_0, ()), out_, (again_0, ()), i, ()) =>
  br k (decide (i < (t_0.length : Int)))
  (br k (decide (0 ≤ i ∧ i < (again_0.length : Int)))
  (bd k (again_0[i.toNat]?) fun x8 =>
  br k (decide (0 ≤ i))
  (bd k (t_0[i.toNat]?) fun x9 =>
  bd k (spec_l8Node k (x8, x9, ())) fun y10 =>
  br k (!y10.1.1)
  (some (([], false, ()), ((), (), ())))
  (G2 ((t_0, ()), out_, (again_0, ()), IntKind.wrap .i64 (i + 1), ())))
  none)
  none)
  (some ((out_, true, ()), ((), (), ())))
noncomputable def spec_TableOf.l0 (k : Nat)  (G0 : (((List (List UInt8)) × (List (List UInt8)) × (List ((List UInt8) × Int × Unit)) × Unit) × ((List (Int × Int × Int × Bool × (List (Int × Int × Unit)) × (List (Int × Int × Unit)) × Unit)) × Unit) × (List (Bool × (List (Int × Int × Unit)) × (List (Int × Int × Unit)) × Unit)) × Int × Unit) → Option (((List (Bool × (List (Int × Int × Unit)) × (List (Int × Int × Unit)) × Unit)) × Bool × Unit) × (Unit × Unit × Unit))) : (((List (List UInt8)) × (List (List UInt8)) × (List ((List UInt8) × Int × Unit)) × Unit) × ((List (Int × Int × Int × Bool × (List (Int × Int × Unit)) × (List (Int × Int × Unit)) × Unit)) × Unit) × (List (Bool × (List (Int × Int × Unit)) × (List (Int × Int × Unit)) × Unit)) × Int × Unit) → Option (((List (Bool × (List (Int × Int × Unit)) × (List (Int × Int × Unit)) × Unit)) × Bool × Unit) × (Unit × Unit × Unit)) := fun x => match x with
 | ((d__0, d__1, d__2, ()), (t_0, ()), out_, leaf, ()) =>
  bd k (spec_l8Size k ((d__0, d__1, d__2, ()), ())) fun y3 =>
  br k (decide (leaf < y3.1.1))
  (bd k (spec_l8Ask k ((t_0, ()), leaf, ())) fun y4 =>
  br k (!y4.1.2.1)
  (some (([], false, ()), ((), (), ())))
  (bd k (spec_l6Copy k (y4.1.1, ())) fun y5 =>
  br k (decide ((out_.length + ([y5.1.1] : List (Bool × (List (Int × Int × Unit)) × (List (Int × Int × Unit)) × Unit)).length) * 56 ≤ maxBytes))
  (G0 ((d__0, d__1, d__2, ()), (t_0, ()), out_ ++ ([y5.1.1] : List (Bool × (List (Int × Int × Unit)) × (List (Int × Int × Unit)) × Unit)), IntKind.wrap .i64 (leaf + 1), ()))
  none))
  (bd k (spec_TreeOf k ((d__0, d__1, d__2, ()), out_, ())) fun y6 =>
  (br k ((y6.1.1.1.length : Int) != (t_0.length : Int))
  (some (true, ()))
  (some ((t_0.length : Int) == 0, ())) : Option (Bool × Unit)).bind fun j7 =>
  br k (j7.1)
  (some (([], false, ()), ((), (), ())))
  (iter (spec_TableOf.l2 k) k ((t_0, ()), out_, (y6.1.1.1, ()), 0, ())))
noncomputable def spec_TableOf (k : Nat) : (((List (List UInt8)) × (List (List UInt8)) × (List ((List UInt8) × Int × Unit)) × Unit) × ((List (Int × Int × Int × Bool × (List (Int × Int × Unit)) × (List (Int × Int × Unit)) × Unit)) × Unit) × Unit) → Option (((List (Bool × (List (Int × Int × Unit)) × (List (Int × Int × Unit)) × Unit)) × Bool × Unit) × (Unit × Unit × Unit)) := fun x => match x with
 | (d_, t, ()) =>
  (bd k (spec_DeclOk k (d_, ())) fun y1 =>
  br k (!y1.1.1)
  (some (true, ()))
  (some (decide ((t.1.length : Int) > 15), ())) : Option (Bool × Unit)).bind fun j2 =>
  br k (j2.1)
  (some (([], false, ()), ((), (), ())))
  (iter (spec_TableOf.l0 k) k ((d_.1, d_.2.1, d_.2.2.1, ()), (t.1, ()), ([] : List (Bool × (List (Int × Int × Unit)) × (List (Int × Int × Unit)) × Unit)), 0, ()))
noncomputable def spec_TableOf.sg (k : Nat) : Sig := ⟨spec_TableOf.A, spec_TableOf.R, spec_TableOf k⟩
noncomputable def spec_TableOf.C (k : Nat) : Ctx := ⟨Tryz.prog, [(54, [spec_DeclOk.sg k]), (73, [spec_l8Size.sg k]), (74, [spec_l8Ask.sg k]), (75, [spec_l6Copy.sg k]), (60, [spec_TreeOf.sg k]), (76, [spec_l8Node.sg k])], k⟩
theorem spec_TableOf.ev (k : Nat) (x : spec_TableOf.A.T) : evFunc (spec_TableOf.C k) spec_TableOf.ann Tryz.f43 spec_TableOf.A spec_TableOf.R x = spec_TableOf k x := by kernel_rfl
theorem spec_TableOf.ok {L : List (Nat × Obj)}  (k : Nat) : SigHolds Tryz.prog L 43 (spec_TableOf.sg k) :=
  sig_of_ev (C := spec_TableOf.C k) (holds_cons (allok_cons (spec_DeclOk.ok k) allok_nil) (holds_cons (allok_cons (spec_l8Size.ok k) allok_nil) (holds_cons (allok_cons (spec_l8Ask.ok k) allok_nil) (holds_cons (allok_cons (spec_l6Copy.ok k) allok_nil) (holds_cons (allok_cons (spec_TreeOf.ok k) allok_nil) (holds_cons (allok_cons (spec_l8Node.ok k) allok_nil) holds_nil)))))) (by kernel_rfl) Tryz.func43 (by kernel_rfl) spec_TableOf.ann spec_TableOf.A spec_TableOf.R (fun x y h => (spec_TableOf.ev k x).trans h) (by kernel_rfl)

/-! loop.example/g00719/spec.TreeOk -/
def spec_TreeOk.A : Sh := (.cons (.pur (.cons (.sl false .str) (.cons (.sl false .str) (.cons (.sl false (.cons .str (.cons (.int .i64) .nil))) .nil)))) (.cons (.pur (.cons (.sl false (.cons (.int .i64) (.cons (.int .i64) (.cons (.int .i64) (.cons .bool (.cons (.sl false (.cons (.int .i64) (.cons (.int .i64) .nil))) (.cons (.sl false (.cons (.int .i64) (.cons (.int .i64) .nil))) .nil))))))) .nil)) .nil))
def spec_TreeOk.R : Sh := (.cons (.pur .bool) .nil)
def spec_TreeOk.ann : Ann := { loops := [], joins := [], keys := [] }
noncomputable def spec_TreeOk (k : Nat) : (((List (List UInt8)) × (List (List UInt8)) × (List ((List UInt8) × Int × Unit)) × Unit) × ((List (Int × Int × Int × Bool × (List (Int × Int × Unit)) × (List (Int × Int × Unit)) × Unit)) × Unit) × Unit) → Option ((Bool × Unit) × (Unit × Unit × Unit)) := fun x => match x with
 | (d_, t, ()) =>
  bd k (spec_TableOf k (d_, t, ())) fun y1 =>
  some ((y1.1.2.1, ()), ((), (), ()))
noncomputable def spec_TreeOk.sg (k : Nat) : Sig := ⟨spec_TreeOk.A, spec_TreeOk.R, spec_TreeOk k⟩
noncomputable def spec_TreeOk.C (k : Nat) : Ctx := ⟨Tryz.prog, [(43, [spec_TableOf.sg k])], k⟩
theorem spec_TreeOk.ev (k : Nat) (x : spec_TreeOk.A.T) : evFunc (spec_TreeOk.C k) spec_TreeOk.ann Tryz.f21 spec_TreeOk.A spec_TreeOk.R x = spec_TreeOk k x := by kernel_rfl
theorem spec_TreeOk.ok {L : List (Nat × Obj)}  (k : Nat) : SigHolds Tryz.prog L 21 (spec_TreeOk.sg k) :=
  sig_of_ev (C := spec_TreeOk.C k) (holds_cons (allok_cons (spec_TableOf.ok k) allok_nil) holds_nil) (by kernel_rfl) Tryz.func21 (by kernel_rfl) spec_TreeOk.ann spec_TreeOk.A spec_TreeOk.R (fun x y h => (spec_TreeOk.ev k x).trans h) (by kernel_rfl)

/-! loop.example/g00719/spec.l1Dec -/
def spec_l1Dec.A : Sh := (.cons (.pur (.int .i64)) .nil)
def spec_l1Dec.R : Sh := (.cons (.pur .str) .nil)
def spec_l1Dec.ann : Ann := { loops := [(0, [(0, (.pur (.int .i64))), (3, (.pur (.int .u64))), (4, (.pur .str))])], joins := [], keys := [] }
noncomputable def spec_l1Dec.l0 (k : Nat)  (G0 : (Int × Int × (List UInt8) × Unit) → Option (((List UInt8) × Unit) × (Unit × Unit))) : (Int × Int × (List UInt8) × Unit) → Option (((List UInt8) × Unit) × (Unit × Unit)) := fun x => match x with
 | (n, m_, s_, ()) =>
  br k (decide (m_ ≥ 10))
  (br k (!decide ((10 : Int) = 0))
  (br k (decide ((((([IntKind.wrap .u8 (IntKind.wrap .u64 (48 + (m_.tmod 10)))] : List Int).map (fun n : Int => UInt8.ofNat n.toNat)).length + s_.length : Nat) : Int) ≤ maxInt64))
  (br k (!decide ((10 : Int) = 0))
  (G0 (n, IntKind.wrap .u64 (m_.tdiv 10), (([IntKind.wrap .u8 (IntKind.wrap .u64 (48 + (m_.tmod 10)))] : List Int).map (fun n : Int => UInt8.ofNat n.toNat)) ++ s_, ()))
  none)
  none)
  none)
  (br k (decide ((((([IntKind.wrap .u8 (IntKind.wrap .u64 (48 + m_))] : List Int).map (fun n : Int => UInt8.ofNat n.toNat)).length + s_.length : Nat) : Int) ≤ maxInt64))
  (br k (decide (n < 0))
  (br k (decide (((([45] : List UInt8).length + ((([IntKind.wrap .u8 (IntKind.wrap .u64 (48 + m_))] : List Int).map (fun n : Int => UInt8.ofNat n.toNat)) ++ s_).length : Nat) : Int) ≤ maxInt64))
  (some ((([45] : List UInt8) ++ ((([IntKind.wrap .u8 (IntKind.wrap .u64 (48 + m_))] : List Int).map (fun n : Int => UInt8.ofNat n.toNat)) ++ s_), ()), ((), ())))
  none)
  (some (((([IntKind.wrap .u8 (IntKind.wrap .u64 (48 + m_))] : List Int).map (fun n : Int => UInt8.ofNat n.toNat)) ++ s_, ()), ((), ()))))
  none)
noncomputable def spec_l1Dec (k : Nat) : (Int × Unit) → Option (((List UInt8) × Unit) × (Unit × Unit)) := fun x => match x with
 | (n, ()) =>
  br k (decide (n < 0))
  (iter (spec_l1Dec.l0 k) k (n, IntKind.wrap .u64 (0 - (IntKind.wrap .u64 n)), [], ()))
  (iter (spec_l1Dec.l0 k) k (n, IntKind.wrap .u64 n, [], ()))
noncomputable def spec_l1Dec.sg (k : Nat) : Sig := ⟨spec_l1Dec.A, spec_l1Dec.R, spec_l1Dec k⟩
noncomputable def spec_l1Dec.C (k : Nat) : Ctx := ⟨Tryz.prog, [], k⟩
theorem spec_l1Dec.ev (k : Nat) (x : spec_l1Dec.A.T) : evFunc (spec_l1Dec.C k) spec_l1Dec.ann Tryz.f91 spec_l1Dec.A spec_l1Dec.R x = spec_l1Dec k x := by kernel_rfl
theorem spec_l1Dec.ok {L : List (Nat × Obj)}  (k : Nat) : SigHolds Tryz.prog L 91 (spec_l1Dec.sg k) :=
  sig_of_ev (C := spec_l1Dec.C k) holds_nil (by kernel_rfl) Tryz.func91 (by kernel_rfl) spec_l1Dec.ann spec_l1Dec.A spec_l1Dec.R (fun x y h => (spec_l1Dec.ev k x).trans h) (by kernel_rfl)

/-! loop.example/g00719/spec.l13Iv -/
def spec_l13Iv.A : Sh := (.cons (.pur (.cons (.int .i64) (.cons (.int .i64) .nil))) .nil)
def spec_l13Iv.R : Sh := (.cons (.pur .str) .nil)
def spec_l13Iv.ann : Ann := { loops := [], joins := [], keys := [] }
noncomputable def spec_l13Iv (k : Nat) : ((Int × Int × Unit) × Unit) → Option (((List UInt8) × Unit) × (Unit × Unit)) := fun x => match x with
 | (a, ()) =>
  bd k (spec_l1Dec k (a.1, ())) fun y1 =>
  br k (decide (((y1.1.1.length + ([46, 46] : List UInt8).length : Nat) : Int) ≤ maxInt64))
  (bd k (spec_l1Dec k (a.2.1, ())) fun y2 =>
  br k (decide ((((y1.1.1 ++ [46, 46]).length + y2.1.1.length : Nat) : Int) ≤ maxInt64))
  (some (((y1.1.1 ++ [46, 46]) ++ y2.1.1, ()), ((), ())))
  none)
  none
noncomputable def spec_l13Iv.sg (k : Nat) : Sig := ⟨spec_l13Iv.A, spec_l13Iv.R, spec_l13Iv k⟩
noncomputable def spec_l13Iv.C (k : Nat) : Ctx := ⟨Tryz.prog, [(91, [spec_l1Dec.sg k])], k⟩
theorem spec_l13Iv.ev (k : Nat) (x : spec_l13Iv.A.T) : evFunc (spec_l13Iv.C k) spec_l13Iv.ann Tryz.f77 spec_l13Iv.A spec_l13Iv.R x = spec_l13Iv k x := by kernel_rfl
theorem spec_l13Iv.ok {L : List (Nat × Obj)}  (k : Nat) : SigHolds Tryz.prog L 77 (spec_l13Iv.sg k) :=
  sig_of_ev (C := spec_l13Iv.C k) (holds_cons (allok_cons (spec_l1Dec.ok k) allok_nil) holds_nil) (by kernel_rfl) Tryz.func77 (by kernel_rfl) spec_l13Iv.ann spec_l13Iv.A spec_l13Iv.R (fun x y h => (spec_l13Iv.ev k x).trans h) (by kernel_rfl)

/-! loop.example/g00719/spec.l13Joined -/
def spec_l13Joined.A : Sh := (.cons (.pur (.sl false .str)) (.cons (.pur .str) .nil))
def spec_l13Joined.R : Sh := (.cons (.pur .str) .nil)
def spec_l13Joined.ann : Ann := { loops := [(0, [(0, (.pur (.sl false .str))), (1, (.pur .str)), (5, (.pur .str)), (6, (.pur (.int .i64)))])], joins := [], keys := [] }
noncomputable def spec_l13Joined.l0 (k : Nat)  (G0 : ((List (List UInt8)) × (List UInt8) × (List UInt8) × Int × Unit) → Option (((List UInt8) × Unit) × (Unit × Unit × Unit))) : ((List (List UInt8)) × (List UInt8) × (List UInt8) × Int × Unit) → Option (((List UInt8) × Unit) × (Unit × Unit × Unit)) := fun x => match x with
 | (l_, between, s_, i, ()) =>
  br k (decide (i < (l_.length : Int)))
  (br k (decide (i > 0))
  (br k (decide (((s_.length + between.length : Nat) : Int) ≤ maxInt64))
  (br k (decide (0 ≤ i))
  (bd k (l_[i.toNat]?) fun x1 =>
  br k (decide ((((s_ ++ between).length + x1.length : Nat) : Int) ≤ maxInt64))
  (G0 (l_, between, (s_ ++ between) ++ x1, IntKind.wrap .i64 (i + 1), ()))
  none)
  none)
  none)
  (br k (decide (0 ≤ i))
  (bd k (l_[i.toNat]?) fun x2 =>
  br k (decide (((s_.length + x2.length : Nat) : Int) ≤ maxInt64))
  (G0 (l_, between, s_ ++ x2, IntKind.wrap .i64 (i + 1), ()))
  none)
  none))
  (some ((s_, ()), ((), (), ())))
noncomputable def spec_l13Joined (k : Nat) : ((List (List UInt8)) × (List UInt8) × Unit) → Option (((List UInt8) × Unit) × (Unit × Unit × Unit)) := fun x => match x with
 | (l_, between, ()) =>
  iter (spec_l13Joined.l0 k) k (l_, between, [], 0, ())
noncomputable def spec_l13Joined.sg (k : Nat) : Sig := ⟨spec_l13Joined.A, spec_l13Joined.R, spec_l13Joined k⟩
noncomputable def spec_l13Joined.C (k : Nat) : Ctx := ⟨Tryz.prog, [], k⟩
theorem spec_l13Joined.ev (k : Nat) (x : spec_l13Joined.A.T) : evFunc (spec_l13Joined.C k) spec_l13Joined.ann Tryz.f61 spec_l13Joined.A spec_l13Joined.R x = spec_l13Joined k x := by kernel_rfl
theorem spec_l13Joined.ok {L : List (Nat × Obj)}  (k : Nat) : SigHolds Tryz.prog L 61 (spec_l13Joined.sg k) :=
  sig_of_ev (C := spec_l13Joined.C k) holds_nil (by kernel_rfl) Tryz.func61 (by kernel_rfl) spec_l13Joined.ann spec_l13Joined.A spec_l13Joined.R (fun x y h => (spec_l13Joined.ev k x).trans h) (by kernel_rfl)

/-! loop.example/g00719/spec.l13Env -/
def spec_l13Env.A : Sh := (.cons (.pur (.cons (.sl false .str) (.cons (.sl false .str) (.cons (.sl false (.cons .str (.cons (.int .i64) .nil))) .nil)))) (.cons (.pur (.cons .bool (.cons (.sl false (.cons (.int .i64) (.cons (.int .i64) .nil))) (.cons (.sl false (.cons (.int .i64) (.cons (.int .i64) .nil))) .nil)))) .nil))
def spec_l13Env.R : Sh := (.cons (.pur .str) .nil)
def spec_l13Env.ann : Ann := { loops := [(0, [(2, (.box (.cons (.pur (.sl false .str)) (.cons (.pur (.sl false .str)) (.cons (.pur (.sl false (.cons .str (.cons (.int .i64) .nil)))) .nil))))), (3, (.box (.cons (.pur .bool) (.cons (.pur (.sl false (.cons (.int .i64) (.cons (.int .i64) .nil)))) (.cons (.pur (.sl false (.cons (.int .i64) (.cons (.int .i64) .nil)))) .nil))))), (5, (.own .str)), (6, (.pur (.int .i64)))]), (2, [(2, (.box (.cons (.pur (.sl false .str)) (.cons (.pur (.sl false .str)) (.cons (.pur (.sl false (.cons .str (.cons (.int .i64) .nil)))) .nil))))), (3, (.box (.cons (.pur .bool) (.cons (.pur (.sl false (.cons (.int .i64) (.cons (.int .i64) .nil)))) (.cons (.pur (.sl false (.cons (.int .i64) (.cons (.int .i64) .nil)))) .nil))))), (5, (.own .str)), (7, (.pur (.int .i64)))])], joins := [], keys := [(7, [([], false), ([2], false), ([2], false), ([], false), ([], false), ([], false), ([], false), ([3], false), ([3], false), ([], false), ([], false), ([], false), ([], false), ([], false), ([33], true), ([5, 33, 34], true), ([], false)]), (11, [([], false), ([2], false), ([2], false), ([], false), ([], false), ([], false), ([], false), ([], false), ([3], false), ([3], false), ([], false), ([], false), ([], false), ([], false), ([], false), ([57], true), ([5, 57, 58], true), ([], false)])] }
noncomputable def spec_l13Env.l2 (k : Nat)  (G2 : (((List (List UInt8)) × (List (List UInt8)) × (List ((List UInt8) × Int × Unit)) × Unit) × (Bool × (List (Int × Int × Unit)) × (List (Int × Int × Unit)) × Unit) × (List (List UInt8)) × Int × Unit) → Option (((List UInt8) × Unit) × (Unit × Unit × Unit))) : (((List (List UInt8)) × (List (List UInt8)) × (List ((List UInt8) × Int × Unit)) × Unit) × (Bool × (List (Int × Int × Unit)) × (List (Int × Int × Unit)) × Unit) × (List (List UInt8)) × Int × Unit) → Option (((List UInt8) × Unit) × (Unit × Unit × Unit)) := fun x => match x with
 | ((d__0, d__1, d__2, ()), (e__0, e__1, e__2, ()), l_, i, ()) =>
  br k (decide (i < (e__2.length : Int)))
  (br k (decide (0 ≤ i))
  (bd k (d__2[i.toNat]?) fun x4 =>
  br k (decide (((x4.1.length + ([32] : List UInt8).length : Nat) : Int) ≤ maxInt64))
  (br k (decide (0 ≤ i))
  (bd k (e__2[i.toNat]?) fun x5 =>
  bd k (spec_l13Iv k (x5, ())) fun y6 =>
  br k (decide ((((x4.1 ++ [32]).length + y6.1.1.length : Nat) : Int) ≤ maxInt64))
  (br k (decide ((l_.length + ([(x4.1 ++ [32]) ++ y6.1.1] : List (List UInt8)).length) * 16 ≤ maxBytes))
  (G2 ((d__0, d__1, d__2, ()), (e__0, e__1, e__2, ()), l_ ++ ([(x4.1 ++ [32]) ++ y6.1.1] : List (List UInt8)), IntKind.wrap .i64 (i + 1), ()))
  none)
  none)
  none)
  none)
  none)
  (br k ((l_.length : Int) == 0)
  (some (([97, 108, 108], ()), ((), (), ())))
  (bd k (spec_l13Joined k (l_, [32], ())) fun y7 =>
  some ((y7.1.1, ()), ((), (), ()))))
noncomputable def spec_l13Env.l0 (k : Nat)  (G0 : (((List (List UInt8)) × (List (List UInt8)) × (List ((List UInt8) × Int × Unit)) × Unit) × (Bool × (List (Int × Int × Unit)) × (List (Int × Int × Unit)) × Unit) × (List (List UInt8)) × Int × Unit) → Option (((List UInt8) × Unit) × (Unit × Unit × Unit))) : (((List (List UInt8)) × (List (List UInt8)) × (List ((List UInt8) × Int × Unit)) × Unit) × (Bool × (List (Int × Int × Unit)) × (List (Int × Int × Unit)) × Unit) × (List (List UInt8)) × Int × Unit) → Option (((List UInt8) × Unit) × (Unit × Unit × Unit)) := fun x => match x with
 | ((d__0, d__1, d__2, ()), (e__0, e__1, e__2, ()), l_, i, ()) =>
  br k (decide (i < (e__1.length : Int)))
  (br k (decide (0 ≤ i))
  (bd k (d__0[i.toNat]?) fun x1 =>
  br k (decide (((x1.length + ([32] : List UInt8).length : Nat) : Int) ≤ maxInt64))
  (br k (decide (0 ≤ i))
  (bd k (e__1[i.toNat]?) fun x2 =>
  bd k (spec_l13Iv k (x2, ())) fun y3 =>
  br k (decide ((((x1 ++ [32]).length + y3.1.1.length : Nat) : Int) ≤ maxInt64))
  (br k (decide ((l_.length + ([(x1 ++ [32]) ++ y3.1.1] : List (List UInt8)).length) * 16 ≤ maxBytes))
  (G0 ((d__0, d__1, d__2, ()), (e__0, e__1, e__2, ()), l_ ++ ([(x1 ++ [32]) ++ y3.1.1] : List (List UInt8)), IntKind.wrap .i64 (i + 1), ()))
  none)
  none)
  none)
  none)
  none)
  (iter (spec_l13Env.l2 k) k ((d__0, d__1, d__2, ()), (e__0, e__1, e__2, ()), l_, 0, ()))
noncomputable def spec_l13Env (k : Nat) : (((List (List UInt8)) × (List (List UInt8)) × (List ((List UInt8) × Int × Unit)) × Unit) × (Bool × (List (Int × Int × Unit)) × (List (Int × Int × Unit)) × Unit) × Unit) → Option (((List UInt8) × Unit) × (Unit × Unit × Unit)) := fun x => match x with
 | (d_, e_, ()) =>
  br k (!e_.1)
  (some (([110, 111, 110, 101], ()), ((), (), ())))
  (iter (spec_l13Env.l0 k) k ((d_.1, d_.2.1, d_.2.2.1, ()), (e_.1, e_.2.1, e_.2.2.1, ()), ([] : List (List UInt8)), 0, ()))
noncomputable def spec_l13Env.sg (k : Nat) : Sig := ⟨spec_l13Env.A, spec_l13Env.R, spec_l13Env k⟩
noncomputable def spec_l13Env.C (k : Nat) : Ctx := ⟨Tryz.prog, [(77, [spec_l13Iv.sg k]), (61, [spec_l13Joined.sg k])], k⟩
theorem spec_l13Env.ev (k : Nat) (x : spec_l13Env.A.T) : evFunc (spec_l13Env.C k) spec_l13Env.ann Tryz.f44 spec_l13Env.A spec_l13Env.R x = spec_l13Env k x := by kernel_rfl
theorem spec_l13Env.ok {L : List (Nat × Obj)}  (k : Nat) : SigHolds Tryz.prog L 44 (spec_l13Env.sg k) :=
  sig_of_ev (C := spec_l13Env.C k) (holds_cons (allok_cons (spec_l13Iv.ok k) allok_nil) (holds_cons (allok_cons (spec_l13Joined.ok k) allok_nil) holds_nil)) (by kernel_rfl) Tryz.func44 (by kernel_rfl) spec_l13Env.ann spec_l13Env.A spec_l13Env.R (fun x y h => (spec_l13Env.ev k x).trans h) (by kernel_rfl)

/-! loop.example/g00719/spec.l13Node -/
def spec_l13Node.A : Sh := (.cons (.pur (.cons (.sl false .str) (.cons (.sl false .str) (.cons (.sl false (.cons .str (.cons (.int .i64) .nil))) .nil)))) (.cons (.pur (.cons (.sl false (.cons (.int .i64) (.cons (.int .i64) (.cons (.int .i64) (.cons .bool (.cons (.sl false (.cons (.int .i64) (.cons (.int .i64) .nil))) (.cons (.sl false (.cons (.int .i64) (.cons (.int .i64) .nil))) .nil))))))) .nil)) (.cons (.pur (.int .i64)) .nil)))
def spec_l13Node.R : Sh := (.cons (.pur .str) .nil)
def spec_l13Node.ann : Ann := { loops := [], joins := [], keys := [] }
noncomputable def spec_l13Node.f (k : Nat) (R_ : (((List (List UInt8)) × (List (List UInt8)) × (List ((List UInt8) × Int × Unit)) × Unit) × ((List (Int × Int × Int × Bool × (List (Int × Int × Unit)) × (List (Int × Int × Unit)) × Unit)) × Unit) × Int × Unit) → Option (((List UInt8) × Unit) × (Unit × Unit × Unit × Unit))) : (((List (List UInt8)) × (List (List UInt8)) × (List ((List UInt8) × Int × Unit)) × Unit) × ((List (Int × Int × Int × Bool × (List (Int × Int × Unit)) × (List (Int × Int × Unit)) × Unit)) × Unit) × Int × Unit) → Option (((List UInt8) × Unit) × (Unit × Unit × Unit × Unit)) := fun x => match x with
 | (d_, t, at_, ()) =>
  br k (decide (0 ≤ at_))
  (bd k (t.1[at_.toNat]?) fun x1 =>
  br k (decide (x1.1 < 0))
  (bd k (spec_l13Env k (d_, (x1.2.2.2.1, x1.2.2.2.2.1, x1.2.2.2.2.2.1, ()), ())) fun y2 =>
  br k (decide (((([91] : List UInt8).length + y2.1.1.length : Nat) : Int) ≤ maxInt64))
  (br k (decide ((((([91] : List UInt8) ++ y2.1.1).length + ([93] : List UInt8).length : Nat) : Int) ≤ maxInt64))
  (some (((([91] : List UInt8) ++ y2.1.1) ++ [93], ()), ((), (), (), ())))
  none)
  none)
  (br k (decide (0 ≤ x1.1))
  (bd k (d_.2.1[x1.1.toNat]?) fun x3 =>
  br k (decide (((x3.length + ([40] : List UInt8).length : Nat) : Int) ≤ maxInt64))
  (bd k (R_ (d_, t, x1.2.2.1, ())) fun y4 =>
  br k (decide ((((x3 ++ [40]).length + y4.1.1.length : Nat) : Int) ≤ maxInt64))
  (br k (decide (((((x3 ++ [40]) ++ y4.1.1).length + ([32, 124, 32] : List UInt8).length : Nat) : Int) ≤ maxInt64))
  (bd k (R_ (d_, t, x1.2.1, ())) fun y5 =>
  br k (decide ((((((x3 ++ [40]) ++ y4.1.1) ++ [32, 124, 32]).length + y5.1.1.length : Nat) : Int) ≤ maxInt64))
  (br k (decide (((((((x3 ++ [40]) ++ y4.1.1) ++ [32, 124, 32]) ++ y5.1.1).length + ([41] : List UInt8).length : Nat) : Int) ≤ maxInt64))
  (some ((((((x3 ++ [40]) ++ y4.1.1) ++ [32, 124, 32]) ++ y5.1.1) ++ [41], ()), ((), (), (), ())))
  none)
  none)
  none)
  none)
  none)
  none))
  none
noncomputable def spec_l13Node (k : Nat) : (((List (List UInt8)) × (List (List UInt8)) × (List ((List UInt8) × Int × Unit)) × Unit) × ((List (Int × Int × Int × Bool × (List (Int × Int × Unit)) × (List (Int × Int × Unit)) × Unit)) × Unit) × Int × Unit) → Option (((List UInt8) × Unit) × (Unit × Unit × Unit × Unit)) := iter (spec_l13Node.f k) k
noncomputable def spec_l13Node.sg (k : Nat) : Sig := ⟨spec_l13Node.A, spec_l13Node.R, spec_l13Node k⟩
noncomputable def spec_l13Node.C (k : Nat) (R_ : (((List (List UInt8)) × (List (List UInt8)) × (List ((List UInt8) × Int × Unit)) × Unit) × ((List (Int × Int × Int × Bool × (List (Int × Int × Unit)) × (List (Int × Int × Unit)) × Unit)) × Unit) × Int × Unit) → Option (((List UInt8) × Unit) × (Unit × Unit × Unit × Unit))) : Ctx := ⟨Tryz.prog, [(44, [spec_l13Env.sg k]), (22, [⟨spec_l13Node.A, spec_l13Node.R, R_⟩])], k⟩
theorem spec_l13Node.ev (k : Nat) (R_ : (((List (List UInt8)) × (List (List UInt8)) × (List ((List UInt8) × Int × Unit)) × Unit) × ((List (Int × Int × Int × Bool × (List (Int × Int × Unit)) × (List (Int × Int × Unit)) × Unit)) × Unit) × Int × Unit) → Option (((List UInt8) × Unit) × (Unit × Unit × Unit × Unit))) (x : spec_l13Node.A.T) : evFunc (spec_l13Node.C k R_) spec_l13Node.ann Tryz.f22 spec_l13Node.A spec_l13Node.R x = spec_l13Node.f k R_ x := by kernel_rfl
theorem spec_l13Node.oks {L : List (Nat × Obj)}  (k : Nat) : (n : Nat) → SigHolds Tryz.prog L 22 ⟨spec_l13Node.A, spec_l13Node.R, iter (spec_l13Node.f k) n⟩
  | 0 => sig_zero Tryz.func22 (by kernel_rfl) (by kernel_rfl)
  | n + 1 => have ih := spec_l13Node.oks  k n
    sig_of_ev (C := spec_l13Node.C k (iter (spec_l13Node.f k) n)) (holds_cons (allok_cons (spec_l13Env.ok k) allok_nil) (holds_cons (allok_cons (ih) allok_nil) holds_nil)) (by kernel_rfl) Tryz.func22 (by kernel_rfl) spec_l13Node.ann spec_l13Node.A spec_l13Node.R (fun x y h => (spec_l13Node.ev k _ x).trans h) (by kernel_rfl)
theorem spec_l13Node.ok {L : List (Nat × Obj)}  (k : Nat) : SigHolds Tryz.prog L 22 (spec_l13Node.sg k) := spec_l13Node.oks  k k

/-! loop.example/g00719/spec.TreeText -/
def spec_TreeText.A : Sh := (.cons (.pur (.cons (.sl false .str) (.cons (.sl false .str) (.cons (.sl false (.cons .str (.cons (.int .i64) .nil))) .nil)))) (.cons (.pur (.cons (.sl false (.cons (.int .i64) (.cons (.int .i64) (.cons (.int .i64) (.cons .bool (.cons (.sl false (.cons (.int .i64) (.cons (.int .i64) .nil))) (.cons (.sl false (.cons (.int .i64) (.cons (.int .i64) .nil))) .nil))))))) .nil)) .nil))
def spec_TreeText.R : Sh := (.cons (.pur .str) .nil)
def spec_TreeText.ann : Ann := { loops := [], joins := [], keys := [] }
noncomputable def spec_TreeText (k : Nat) : (((List (List UInt8)) × (List (List UInt8)) × (List ((List UInt8) × Int × Unit)) × Unit) × ((List (Int × Int × Int × Bool × (List (Int × Int × Unit)) × (List (Int × Int × Unit)) × Unit)) × Unit) × Unit) → Option (((List UInt8) × Unit) × (Unit × Unit × Unit)) := fun x => match x with
 | (d_, t, ()) =>
  bd k (spec_TreeOk k (d_, t, ())) fun y1 =>
  br k (!y1.1.1)
  (some (([], ()), ((), (), ())))
  (bd k (spec_l13Node k (d_, t, IntKind.wrap .i64 ((t.1.length : Int) - 1), ())) fun y2 =>
  some ((y2.1.1, ()), ((), (), ())))
noncomputable def spec_TreeText.sg (k : Nat) : Sig := ⟨spec_TreeText.A, spec_TreeText.R, spec_TreeText k⟩
noncomputable def spec_TreeText.C (k : Nat) : Ctx := ⟨Tryz.prog, [(21, [spec_TreeOk.sg k]), (22, [spec_l13Node.sg k])], k⟩
theorem spec_TreeText.ev (k : Nat) (x : spec_TreeText.A.T) : evFunc (spec_TreeText.C k) spec_TreeText.ann Tryz.f7 spec_TreeText.A spec_TreeText.R x = spec_TreeText k x := by kernel_rfl
theorem spec_TreeText.ok {L : List (Nat × Obj)}  (k : Nat) : SigHolds Tryz.prog L 7 (spec_TreeText.sg k) :=
  sig_of_ev (C := spec_TreeText.C k) (holds_cons (allok_cons (spec_TreeOk.ok k) allok_nil) (holds_cons (allok_cons (spec_l13Node.ok k) allok_nil) holds_nil)) (by kernel_rfl) Tryz.func7 (by kernel_rfl) spec_TreeText.ann spec_TreeText.A spec_TreeText.R (fun x y h => (spec_TreeText.ev k x).trans h) (by kernel_rfl)

/-! slices.Concat[[]string,string] -/
def slices_Concat_string_string.A : Sh := (.cons (.pur (.sl false (.sl false .str))) .nil)
def slices_Concat_string_string.R : Sh := (.cons (.own .str) .nil)
def slices_Concat_string_string.ann : Ann := { loops := [(0, [(0, (.pur (.sl false (.sl false .str)))), (3, (.pur (.int .i64))), (9, (.pur (.sl false (.sl false .str)))), (10, (.pur (.int .i64))), (11, (.pur (.int .i64)))]), (2, [(6, (.own .str)), (25, (.pur (.sl false (.sl false .str)))), (26, (.pur (.int .i64))), (27, (.pur (.int .i64)))])], joins := [], keys := [] }
noncomputable def slices_Concat_string_string.l2 (k : Nat)  (G2 : ((List (List UInt8)) × (List (List (List UInt8))) × Int × Int × Unit) → Option (((List (List UInt8)) × Unit) × (Unit × Unit))) : ((List (List UInt8)) × (List (List (List UInt8))) × Int × Int × Unit) → Option (((List (List UInt8)) × Unit) × (Unit × Unit)) := fun x => match x with
 | (newslice, t25, t26, t27, ()) =>
  br k (decide (t27 < t26))
  (br k (decide (0 ≤ t27))
  (bd k (t25[t27.toNat]?) fun x3 =>
  br k (decide ((newslice.length + x3.length) * 16 ≤ maxBytes))
  (G2 (newslice ++ x3, t25, t26, IntKind.wrap .i64 (t27 + 1), ()))
  none)
  none)
  (some ((newslice, ()), ((), ())))
noncomputable def slices_Concat_string_string.l0 (k : Nat)  (G0 : ((List (List (List UInt8))) × Int × (List (List (List UInt8))) × Int × Int × Unit) → Option (((List (List UInt8)) × Unit) × (Unit × Unit))) : ((List (List (List UInt8))) × Int × (List (List (List UInt8))) × Int × Int × Unit) → Option (((List (List UInt8)) × Unit) × (Unit × Unit)) := fun x => match x with
 | (slices, size, t9, t10, t11, ()) =>
  br k (decide (t11 < t10))
  (br k (decide (0 ≤ t11))
  (bd k (t9[t11.toNat]?) fun x1 =>
  br k (decide ((IntKind.wrap .i64 (size + (x1.length : Int))) < 0))
  (none)
  (G0 (slices, IntKind.wrap .i64 (size + (x1.length : Int)), t9, t10, IntKind.wrap .i64 (t11 + 1), ())))
  none)
  (bd k (Lb.slices_Grow_string_string k ((), size, ())) fun y2 =>
  iter (slices_Concat_string_string.l2 k) k (y2.1.1, slices, (slices.length : Int), 0, ()))
noncomputable def slices_Concat_string_string (k : Nat) : ((List (List (List UInt8))) × Unit) → Option (((List (List UInt8)) × Unit) × (Unit × Unit)) := fun x => match x with
 | (slices, ()) =>
  iter (slices_Concat_string_string.l0 k) k (slices, 0, slices, (slices.length : Int), 0, ())
noncomputable def slices_Concat_string_string.sg (k : Nat) : Sig := ⟨slices_Concat_string_string.A, slices_Concat_string_string.R, slices_Concat_string_string k⟩
noncomputable def slices_Concat_string_string.C (k : Nat) : Ctx := ⟨Tryz.prog, [(150, [Lb.slices_Grow_string_string.sg k])], k⟩
theorem slices_Concat_string_string.ev (k : Nat) (x : slices_Concat_string_string.A.T) : evFunc (slices_Concat_string_string.C k) slices_Concat_string_string.ann Tryz.f123 slices_Concat_string_string.A slices_Concat_string_string.R x = slices_Concat_string_string k x := by kernel_rfl
theorem slices_Concat_string_string.ok {L : List (Nat × Obj)}  (k : Nat) : SigHolds Tryz.prog L 123 (slices_Concat_string_string.sg k) :=
  sig_of_ev (C := slices_Concat_string_string.C k) (holds_cons (allok_cons (Lb.slices_Grow_string_string.ok k) allok_nil) holds_nil) (by kernel_rfl) Tryz.func123 (by kernel_rfl) slices_Concat_string_string.ann slices_Concat_string_string.A slices_Concat_string_string.R (fun x y h => (slices_Concat_string_string.ev k x).trans h) (by kernel_rfl)

/-! (loop.example/g00719/impl.Decl).names -/
def impl_Decl_names.A : Sh := (.cons (.pur (.cons (.sl false .str) (.cons (.sl false .str) (.cons (.sl false (.cons .str (.cons (.int .i64) .nil))) .nil)))) .nil)
def impl_Decl_names.R : Sh := (.cons (.own .str) .nil)
def impl_Decl_names.ann : Ann := { loops := [(0, [(3, (.own .str)), (13, (.pur (.sl false (.cons .str (.cons (.int .i64) .nil))))), (14, (.pur (.int .i64))), (15, (.pur (.int .i64)))])], joins := [], keys := [] }
noncomputable def impl_Decl_names.l0 (k : Nat)  (G0 : ((List (List UInt8)) × (List ((List UInt8) × Int × Unit)) × Int × Int × Unit) → Option (((List (List UInt8)) × Unit) × (Unit × Unit))) : ((List (List UInt8)) × (List ((List UInt8) × Int × Unit)) × Int × Int × Unit) → Option (((List (List UInt8)) × Unit) × (Unit × Unit)) := fun x => match x with
 | (out_, t13, t14, t15, ()) =>
  br k (decide (t15 < t14))
  (br k (decide (0 ≤ t15))
  (bd k (t13[t15.toNat]?) fun x2 =>
  br k (decide ((out_.length + ([x2.1] : List (List UInt8)).length) * 16 ≤ maxBytes))
  (G0 (out_ ++ ([x2.1] : List (List UInt8)), t13, t14, IntKind.wrap .i64 (t15 + 1), ()))
  none)
  none)
  (some ((out_, ()), ((), ())))
noncomputable def impl_Decl_names (k : Nat) : (((List (List UInt8)) × (List (List UInt8)) × (List ((List UInt8) × Int × Unit)) × Unit) × Unit) → Option (((List (List UInt8)) × Unit) × (Unit × Unit)) := fun x => match x with
 | (d_, ()) =>
  bd k (slices_Concat_string_string k (([d_.1, d_.2.1] : List (List (List UInt8))), ())) fun y1 =>
  iter (impl_Decl_names.l0 k) k (y1.1.1, d_.2.2.1, (d_.2.2.1.length : Int), 0, ())
noncomputable def impl_Decl_names.sg (k : Nat) : Sig := ⟨impl_Decl_names.A, impl_Decl_names.R, impl_Decl_names k⟩
noncomputable def impl_Decl_names.C (k : Nat) : Ctx := ⟨Tryz.prog, [(123, [slices_Concat_string_string.sg k])], k⟩
theorem impl_Decl_names.ev (k : Nat) (x : impl_Decl_names.A.T) : evFunc (impl_Decl_names.C k) impl_Decl_names.ann Tryz.f94 impl_Decl_names.A impl_Decl_names.R x = impl_Decl_names k x := by kernel_rfl
theorem impl_Decl_names.ok {L : List (Nat × Obj)}  (k : Nat) : SigHolds Tryz.prog L 94 (impl_Decl_names.sg k) :=
  sig_of_ev (C := impl_Decl_names.C k) (holds_cons (allok_cons (slices_Concat_string_string.ok k) allok_nil) holds_nil) (by kernel_rfl) Tryz.func94 (by kernel_rfl) impl_Decl_names.ann impl_Decl_names.A impl_Decl_names.R (fun x y h => (impl_Decl_names.ev k x).trans h) (by kernel_rfl)

/-! loop.example/g00719/impl.isLetter -/
def impl_isLetter.A : Sh := (.cons (.pur (.int .u8)) .nil)
def impl_isLetter.R : Sh := (.cons (.pur .bool) .nil)
def impl_isLetter.ann : Ann := { loops := [], joins := [(1, [(2, .bool)])], keys := [] }
noncomputable def impl_isLetter (k : Nat) : (Int × Unit) → Option ((Bool × Unit) × (Unit × Unit)) := fun x => match x with
 | (c, ()) =>
  (br k (decide (c ≥ 97))
  (some (decide (c ≤ 122), ()))
  (some (false, ())) : Option (Bool × Unit)).bind fun j1 =>
  some ((j1.1, ()), ((), ()))
noncomputable def impl_isLetter.sg (k : Nat) : Sig := ⟨impl_isLetter.A, impl_isLetter.R, impl_isLetter k⟩
noncomputable def impl_isLetter.C (k : Nat) : Ctx := ⟨Tryz.prog, [], k⟩
theorem impl_isLetter.ev (k : Nat) (x : impl_isLetter.A.T) : evFunc (impl_isLetter.C k) impl_isLetter.ann Tryz.f124 impl_isLetter.A impl_isLetter.R x = impl_isLetter k x := by kernel_rfl
theorem impl_isLetter.ok {L : List (Nat × Obj)}  (k : Nat) : SigHolds Tryz.prog L 124 (impl_isLetter.sg k) :=
  sig_of_ev (C := impl_isLetter.C k) holds_nil (by kernel_rfl) Tryz.func124 (by kernel_rfl) impl_isLetter.ann impl_isLetter.A impl_isLetter.R (fun x y h => (impl_isLetter.ev k x).trans h) (by kernel_rfl)

end Go.Pev.F
