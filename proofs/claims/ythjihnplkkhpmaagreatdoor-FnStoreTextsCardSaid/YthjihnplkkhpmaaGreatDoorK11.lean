/-
  Printed by gen.py: what functions of the program compute, and that they do.
-/
import Derived.Test.YthjihnplkkhpmaaGreatDoorK10
set_option linter.unusedSimpArgs false
set_option linter.unusedVariables false
open Go.Proofs Go.Pev
namespace Go.Pev.F
set_option maxRecDepth 100000
set_option linter.unusedVariables false

/-! loop.example/g00719/spec.l9Put -/
def spec_l9Put.A : Sh := (.cons (.pur (.sl false (.cons (.sl false (.cons (.int .i64) (.cons (.int .i64) .nil))) (.cons (.sl false (.cons .bool (.cons (.sl false (.cons (.int .i64) (.cons (.int .i64) .nil))) (.cons (.sl false (.cons (.int .i64) (.cons (.int .i64) .nil))) .nil)))) .nil)))) (.cons (.pur (.cons (.sl false (.cons (.int .i64) (.cons (.int .i64) .nil))) (.cons (.sl false (.cons .bool (.cons (.sl false (.cons (.int .i64) (.cons (.int .i64) .nil))) (.cons (.sl false (.cons (.int .i64) (.cons (.int .i64) .nil))) .nil)))) .nil))) (.cons (.pur .bool) (.cons (.pur (.sl false (.int .i64))) .nil))))
def spec_l9Put.R : Sh := (.cons (.own (.cons (.sl false (.cons (.int .i64) (.cons (.int .i64) .nil))) (.cons (.sl false (.cons .bool (.cons (.sl false (.cons (.int .i64) (.cons (.int .i64) .nil))) (.cons (.sl false (.cons (.int .i64) (.cons (.int .i64) .nil))) .nil)))) .nil))) .nil)
def spec_l9Put.ann : Ann := { loops := [(0, [(0, (.pur (.sl false (.cons (.sl false (.cons (.int .i64) (.cons (.int .i64) .nil))) (.cons (.sl false (.cons .bool (.cons (.sl false (.cons (.int .i64) (.cons (.int .i64) .nil))) (.cons (.sl false (.cons (.int .i64) (.cons (.int .i64) .nil))) .nil)))) .nil))))), (2, (.pur .bool)), (3, (.pur (.sl false (.int .i64)))), (5, (.box (.cons (.pur (.sl false (.cons (.int .i64) (.cons (.int .i64) .nil)))) (.cons (.pur (.sl false (.cons .bool (.cons (.sl false (.cons (.int .i64) (.cons (.int .i64) .nil))) (.cons (.sl false (.cons (.int .i64) (.cons (.int .i64) .nil))) .nil))))) .nil)))), (9, (.own (.cons (.sl false (.cons (.int .i64) (.cons (.int .i64) .nil))) (.cons (.sl false (.cons .bool (.cons (.sl false (.cons (.int .i64) (.cons (.int .i64) .nil))) (.cons (.sl false (.cons (.int .i64) (.cons (.int .i64) .nil))) .nil)))) .nil)))), (10, (.pur .bool)), (11, (.pur (.int .i64)))])], joins := [(7, [(34, .bool)])], keys := [(13, [([], false), ([], false), ([], false), ([], false), ([], false), ([5], false), ([5], false), ([52], true), ([13], false), ([13, 52], true)]), (15, [([], false), ([], false), ([], false), ([], false), ([], false), ([5], false), ([5], false), ([], false), ([63], true), ([13, 52], false), ([13, 52, 63], true)])] }
noncomputable def spec_l9Put.l0 (k : Nat)  (G0 : ((List ((List (Int × Int × Unit)) × (List (Bool × (List (Int × Int × Unit)) × (List (Int × Int × Unit)) × Unit)) × Unit)) × Bool × (List Int) × ((List (Int × Int × Unit)) × (List (Bool × (List (Int × Int × Unit)) × (List (Int × Int × Unit)) × Unit)) × Unit) × (List ((List (Int × Int × Unit)) × (List (Bool × (List (Int × Int × Unit)) × (List (Int × Int × Unit)) × Unit)) × Unit)) × Bool × Int × Unit) → Option (((List ((List (Int × Int × Unit)) × (List (Bool × (List (Int × Int × Unit)) × (List (Int × Int × Unit)) × Unit)) × Unit)) × Unit) × (Unit × Unit × Unit × Unit × Unit))) : ((List ((List (Int × Int × Unit)) × (List (Bool × (List (Int × Int × Unit)) × (List (Int × Int × Unit)) × Unit)) × Unit)) × Bool × (List Int) × ((List (Int × Int × Unit)) × (List (Bool × (List (Int × Int × Unit)) × (List (Int × Int × Unit)) × Unit)) × Unit) × (List ((List (Int × Int × Unit)) × (List (Bool × (List (Int × Int × Unit)) × (List (Int × Int × Unit)) × Unit)) × Unit)) × Bool × Int × Unit) → Option (((List ((List (Int × Int × Unit)) × (List (Bool × (List (Int × Int × Unit)) × (List (Int × Int × Unit)) × Unit)) × Unit)) × Unit) × (Unit × Unit × Unit × Unit × Unit)) := fun x => match x with
 | (l_, wide, steps, (p_0, p_1, ()), out_, done, i, ()) =>
  br k (decide (i < (l_.length : Int)))
  (br k (decide (0 ≤ i))
  (bd k (l_[i.toNat]?) fun x1 =>
  bd k (spec_l9Cmp k (x1.1, p_0, ())) fun y2 =>
  (br k (decide (y2.1.1 > 0))
  (some (!done, ()))
  (some (false, ())) : Option (Bool × Unit)).bind fun j3 =>
  br k (j3.1)
  (br k (decide ((out_.length + ([(p_0, p_1, ())] : List ((List (Int × Int × Unit)) × (List (Bool × (List (Int × Int × Unit)) × (List (Int × Int × Unit)) × Unit)) × Unit)).length) * 48 ≤ maxBytes))
  (br k (decide (0 ≤ i))
  (bd k (l_[i.toNat]?) fun x4 =>
  br k (y2.1.1 == 0)
  (br k (decide (0 ≤ i))
  (bd k (l_[i.toNat]?) fun x5 =>
  bd k (spec_l8Join k (x5.2.1, p_1, ())) fun y6 =>
  br k (wide)
  (br k (decide (0 ≤ i))
  (bd k (l_[i.toNat]?) fun x7 =>
  bd k (spec_l8Widen k (x7.2.1, p_1, steps, ())) fun y8 =>
  br k (decide (((out_ ++ ([(p_0, p_1, ())] : List ((List (Int × Int × Unit)) × (List (Bool × (List (Int × Int × Unit)) × (List (Int × Int × Unit)) × Unit)) × Unit))).length + ([(x4.1, y8.1.1, ())] : List ((List (Int × Int × Unit)) × (List (Bool × (List (Int × Int × Unit)) × (List (Int × Int × Unit)) × Unit)) × Unit)).length) * 48 ≤ maxBytes))
  (G0 (l_, wide, steps, (p_0, p_1, ()), (out_ ++ ([(p_0, p_1, ())] : List ((List (Int × Int × Unit)) × (List (Bool × (List (Int × Int × Unit)) × (List (Int × Int × Unit)) × Unit)) × Unit))) ++ ([(x4.1, y8.1.1, ())] : List ((List (Int × Int × Unit)) × (List (Bool × (List (Int × Int × Unit)) × (List (Int × Int × Unit)) × Unit)) × Unit)), true, IntKind.wrap .i64 (i + 1), ()))
  none)
  none)
  (br k (decide (((out_ ++ ([(p_0, p_1, ())] : List ((List (Int × Int × Unit)) × (List (Bool × (List (Int × Int × Unit)) × (List (Int × Int × Unit)) × Unit)) × Unit))).length + ([(x4.1, y6.1.1, ())] : List ((List (Int × Int × Unit)) × (List (Bool × (List (Int × Int × Unit)) × (List (Int × Int × Unit)) × Unit)) × Unit)).length) * 48 ≤ maxBytes))
  (G0 (l_, wide, steps, (p_0, p_1, ()), (out_ ++ ([(p_0, p_1, ())] : List ((List (Int × Int × Unit)) × (List (Bool × (List (Int × Int × Unit)) × (List (Int × Int × Unit)) × Unit)) × Unit))) ++ ([(x4.1, y6.1.1, ())] : List ((List (Int × Int × Unit)) × (List (Bool × (List (Int × Int × Unit)) × (List (Int × Int × Unit)) × Unit)) × Unit)), true, IntKind.wrap .i64 (i + 1), ()))
  none))
  none)
  (br k (decide (((out_ ++ ([(p_0, p_1, ())] : List ((List (Int × Int × Unit)) × (List (Bool × (List (Int × Int × Unit)) × (List (Int × Int × Unit)) × Unit)) × Unit))).length + ([x4] : List ((List (Int × Int × Unit)) × (List (Bool × (List (Int × Int × Unit)) × (List (Int × Int × Unit)) × Unit)) × Unit)).length) * 48 ≤ maxBytes))
  (G0 (l_, wide, steps, (p_0, p_1, ()), (out_ ++ ([(p_0, p_1, ())] : List ((List (Int × Int × Unit)) × (List (Bool × (List (Int × Int × Unit)) × (List (Int × Int × Unit)) × Unit)) × Unit))) ++ ([x4] : List ((List (Int × Int × Unit)) × (List (Bool × (List (Int × Int × Unit)) × (List (Int × Int × Unit)) × Unit)) × Unit)), true, IntKind.wrap .i64 (i + 1), ()))
  none))
  none)
  none)
  (br k (decide (0 ≤ i))
  (bd k (l_[i.toNat]?) fun x9 =>
  br k (y2.1.1 == 0)
  (br k (decide (0 ≤ i))
  (bd k (l_[i.toNat]?) fun x10 =>
  bd k (spec_l8Join k (x10.2.1, p_1, ())) fun y11 =>
  br k (wide)
  (br k (decide (0 ≤ i))
  (bd k (l_[i.toNat]?) fun x12 =>
  bd k (spec_l8Widen k (x12.2.1, p_1, steps, ())) fun y13 =>
  br k (decide ((out_.length + ([(x9.1, y13.1.1, ())] : List ((List (Int × Int × Unit)) × (List (Bool × (List (Int × Int × Unit)) × (List (Int × Int × Unit)) × Unit)) × Unit)).length) * 48 ≤ maxBytes))
  (G0 (l_, wide, steps, (p_0, p_1, ()), out_ ++ ([(x9.1, y13.1.1, ())] : List ((List (Int × Int × Unit)) × (List (Bool × (List (Int × Int × Unit)) × (List (Int × Int × Unit)) × Unit)) × Unit)), true, IntKind.wrap .i64 (i + 1), ()))
  none)
  none)
  (br k (decide ((out_.length + ([(x9.1, y11.1.1, ())] : List ((List (Int × Int × Unit)) × (List (Bool × (List (Int × Int × Unit)) × (List (Int × Int × Unit)) × Unit)) × Unit)).length) * 48 ≤ maxBytes))
  (G0 (l_, wide, steps, (p_0, p_1, ()), out_ ++ ([(x9.1, y11.1.1, ())] : List ((List (Int × Int × Unit)) × (List (Bool × (List (Int × Int × Unit)) × (List (Int × Int × Unit)) × Unit)) × Unit)), true, IntKind.wrap .i64 (i + 1), ()))
  none))
  none)
  (br k (decide ((out_.length + ([x9] : List ((List (Int × Int × Unit)) × (List (Bool × (List (Int × Int × Unit)) × (List (Int × Int × Unit)) × Unit)) × Unit)).length) * 48 ≤ maxBytes))
  (G0 (l_, wide, steps, (p_0, p_1, ()), out_ ++ ([x9] : List ((List (Int × Int × Unit)) × (List (Bool × (List (Int × Int × Unit)) × (List (Int × Int × Unit)) × Unit)) × Unit)), done, IntKind.wrap .i64 (i + 1), ()))
  none))
  none))
  none)
  (br k (!done)
  (br k (decide ((out_.length + ([(p_0, p_1, ())] : List ((List (Int × Int × Unit)) × (List (Bool × (List (Int × Int × Unit)) × (List (Int × Int × Unit)) × Unit)) × Unit)).length) * 48 ≤ maxBytes))
  (some ((out_ ++ ([(p_0, p_1, ())] : List ((List (Int × Int × Unit)) × (List (Bool × (List (Int × Int × Unit)) × (List (Int × Int × Unit)) × Unit)) × Unit)), ()), ((), (), (), (), ())))
  none)
  (some ((out_, ()), ((), (), (), (), ()))))
noncomputable def spec_l9Put (k : Nat) : ((List ((List (Int × Int × Unit)) × (List (Bool × (List (Int × Int × Unit)) × (List (Int × Int × Unit)) × Unit)) × Unit)) × ((List (Int × Int × Unit)) × (List (Bool × (List (Int × Int × Unit)) × (List (Int × Int × Unit)) × Unit)) × Unit) × Bool × (List Int) × Unit) → Option (((List ((List (Int × Int × Unit)) × (List (Bool × (List (Int × Int × Unit)) × (List (Int × Int × Unit)) × Unit)) × Unit)) × Unit) × (Unit × Unit × Unit × Unit × Unit)) := fun x => match x with
 | (l_, p, wide, steps, ()) =>
  iter (spec_l9Put.l0 k) k (l_, wide, steps, (p.1, p.2.1, ()), ([] : List ((List (Int × Int × Unit)) × (List (Bool × (List (Int × Int × Unit)) × (List (Int × Int × Unit)) × Unit)) × Unit)), false, 0, ())
noncomputable def spec_l9Put.sg (k : Nat) : Sig := ⟨spec_l9Put.A, spec_l9Put.R, spec_l9Put k⟩
noncomputable def spec_l9Put.C (k : Nat) : Ctx := ⟨Tryz.prog, [(68, [spec_l9Cmp.sg k]), (93, [spec_l8Join.sg k]), (164, [spec_l8Widen.sg k])], k, []⟩
theorem spec_l9Put.ev (k : Nat) (x : spec_l9Put.A.T) : evFunc (spec_l9Put.C k) spec_l9Put.ann Tryz.f135 spec_l9Put.A spec_l9Put.R x = spec_l9Put k x := by kernel_rfl
theorem spec_l9Put.ok {L : List (Nat × Obj)}  (k : Nat) : SigHolds Tryz.prog L 135 (spec_l9Put.sg k) :=
  sig_of_ev (C := spec_l9Put.C k) (holds_cons (allok_cons (spec_l9Cmp.ok k) allok_nil) (holds_cons (allok_cons (spec_l8Join.ok k) allok_nil) (holds_cons (allok_cons (spec_l8Widen.ok k) allok_nil) holds_nil))) (by kernel_rfl) Tryz.func135 (by kernel_rfl) spec_l9Put.ann spec_l9Put.A spec_l9Put.R (fun x y h => (spec_l9Put.ev k x).trans h) (by kernel_rfl)

/-! loop.example/g00719/spec.l9Copy -/
def spec_l9Copy.A : Sh := (.cons (.pur (.cons (.sl false (.cons (.int .i64) (.cons (.int .i64) .nil))) (.cons (.sl false (.cons .bool (.cons (.sl false (.cons (.int .i64) (.cons (.int .i64) .nil))) (.cons (.sl false (.cons (.int .i64) (.cons (.int .i64) .nil))) .nil)))) .nil))) .nil)
def spec_l9Copy.R : Sh := (.cons (.agg (.cons (.own (.cons (.int .i64) (.cons (.int .i64) .nil))) (.cons (.rows (.cons (.pur .bool) (.cons (.own (.cons (.int .i64) (.cons (.int .i64) .nil))) (.cons (.own (.cons (.int .i64) (.cons (.int .i64) .nil))) .nil)))) .nil))) .nil)
def spec_l9Copy.ann : Ann := { loops := [(0, [(1, (.box (.cons (.pur (.sl false (.cons (.int .i64) (.cons (.int .i64) .nil)))) (.cons (.pur (.sl false (.cons .bool (.cons (.sl false (.cons (.int .i64) (.cons (.int .i64) .nil))) (.cons (.sl false (.cons (.int .i64) (.cons (.int .i64) .nil))) .nil))))) .nil)))), (2, (.box (.cons (.pur (.sl false (.cons (.int .i64) (.cons (.int .i64) .nil)))) (.cons (.rows (.cons (.pur .bool) (.cons (.own (.cons (.int .i64) (.cons (.int .i64) .nil))) (.cons (.own (.cons (.int .i64) (.cons (.int .i64) .nil))) .nil)))) .nil)))), (3, (.box (.cons (.own (.cons (.int .i64) (.cons (.int .i64) .nil))) (.cons (.rows (.cons (.pur .bool) (.cons (.own (.cons (.int .i64) (.cons (.int .i64) .nil))) (.cons (.own (.cons (.int .i64) (.cons (.int .i64) .nil))) .nil)))) .nil)))), (4, (.pur (.int .i64)))])], joins := [], keys := [(5, [([3], false), ([3], false), ([1], false), ([1], false), ([], false), ([], false), ([], false), ([24], true), ([24, 25], true), ([3, 25, 26], true), ([3], false), ([3, 26], true)])] }
noncomputable def spec_l9Copy.l0 (k : Nat)  (G0 : (((List (Int × Int × Unit)) × (List (Bool × (List (Int × Int × Unit)) × (List (Int × Int × Unit)) × Unit)) × Unit) × ((List (Int × Int × Unit)) × (List (Bool × (List (Int × Int × Unit)) × (List (Int × Int × Unit)) × Unit)) × Unit) × ((List (Int × Int × Unit)) × (List (Bool × (List (Int × Int × Unit)) × (List (Int × Int × Unit)) × Unit)) × Unit) × Int × Unit) → Option ((((List (Int × Int × Unit)) × (List (Bool × (List (Int × Int × Unit)) × (List (Int × Int × Unit)) × Unit)) × Unit) × Unit) × (Unit × Unit))) : (((List (Int × Int × Unit)) × (List (Bool × (List (Int × Int × Unit)) × (List (Int × Int × Unit)) × Unit)) × Unit) × ((List (Int × Int × Unit)) × (List (Bool × (List (Int × Int × Unit)) × (List (Int × Int × Unit)) × Unit)) × Unit) × ((List (Int × Int × Unit)) × (List (Bool × (List (Int × Int × Unit)) × (List (Int × Int × Unit)) × Unit)) × Unit) × Int × Unit) → Option ((((List (Int × Int × Unit)) × (List (Bool × (List (Int × Int × Unit)) × (List (Int × Int × Unit)) × Unit)) × Unit) × Unit) × (Unit × Unit)) := fun x => match x with
 | ((p_0, p_1, ()), (t2_0, t2_1, ()), (out__0, out__1, ()), i, ()) =>
  br k (decide (i < (p_1.length : Int)))
  (br k (decide (0 ≤ i))
  (bd k (p_1[i.toNat]?) fun x1 =>
  bd k (spec_l6Copy k (x1, ())) fun y2 =>
  br k (decide ((out__1.length + ([(y2.1.1.1, y2.1.1.2.1, y2.1.1.2.2.1, ())] : List (Bool × (List (Int × Int × Unit)) × (List (Int × Int × Unit)) × Unit)).length) * 56 ≤ maxBytes))
  (G0 ((p_0, p_1, ()), (t2_0, t2_1, ()), (out__0, out__1 ++ ([(y2.1.1.1, y2.1.1.2.1, y2.1.1.2.2.1, ())] : List (Bool × (List (Int × Int × Unit)) × (List (Int × Int × Unit)) × Unit)), ()), IntKind.wrap .i64 (i + 1), ()))
  none)
  none)
  (some (((out__0, out__1, ()), ()), ((), ())))
noncomputable def spec_l9Copy (k : Nat) : (((List (Int × Int × Unit)) × (List (Bool × (List (Int × Int × Unit)) × (List (Int × Int × Unit)) × Unit)) × Unit) × Unit) → Option ((((List (Int × Int × Unit)) × (List (Bool × (List (Int × Int × Unit)) × (List (Int × Int × Unit)) × Unit)) × Unit) × Unit) × (Unit × Unit)) := fun x => match x with
 | (p, ()) =>
  br k (decide ((([] : List (Int × Int × Unit)).length + p.1.length) * 16 ≤ maxBytes))
  (iter (spec_l9Copy.l0 k) k ((p.1, p.2.1, ()), ([], ([] : List (Bool × (List (Int × Int × Unit)) × (List (Int × Int × Unit)) × Unit)), ()), (([] : List (Int × Int × Unit)) ++ p.1, ([] : List (Bool × (List (Int × Int × Unit)) × (List (Int × Int × Unit)) × Unit)), ()), 0, ()))
  none
noncomputable def spec_l9Copy.sg (k : Nat) : Sig := ⟨spec_l9Copy.A, spec_l9Copy.R, spec_l9Copy k⟩
noncomputable def spec_l9Copy.C (k : Nat) : Ctx := ⟨Tryz.prog, [(72, [spec_l6Copy.sg k])], k, [(25, (.cons (.pur .bool) (.cons (.own (.cons (.int .i64) (.cons (.int .i64) .nil))) (.cons (.own (.cons (.int .i64) (.cons (.int .i64) .nil))) .nil))))]⟩
theorem spec_l9Copy.ev (k : Nat) (x : spec_l9Copy.A.T) : evFunc (spec_l9Copy.C k) spec_l9Copy.ann Tryz.f165 spec_l9Copy.A spec_l9Copy.R x = spec_l9Copy k x := by kernel_rfl
theorem spec_l9Copy.ok {L : List (Nat × Obj)}  (k : Nat) : SigHolds Tryz.prog L 165 (spec_l9Copy.sg k) :=
  sig_of_ev (C := spec_l9Copy.C k) (holds_cons (allok_cons (spec_l6Copy.ok k) allok_nil) holds_nil) (by kernel_rfl) Tryz.func165 (by kernel_rfl) spec_l9Copy.ann spec_l9Copy.A spec_l9Copy.R (fun x y h => (spec_l9Copy.ev k x).trans h) (by kernel_rfl)

/-! loop.example/g00719/spec.l9Fresh -/
def spec_l9Fresh.A : Sh := (.cons (.pur (.sl false (.cons (.sl false (.cons (.int .i64) (.cons (.int .i64) .nil))) (.cons (.sl false (.cons .bool (.cons (.sl false (.cons (.int .i64) (.cons (.int .i64) .nil))) (.cons (.sl false (.cons (.int .i64) (.cons (.int .i64) .nil))) .nil)))) .nil)))) .nil)
def spec_l9Fresh.R : Sh := (.cons (.rows (.cons (.pur (.sl false (.cons (.int .i64) (.cons (.int .i64) .nil)))) (.cons (.rows (.cons (.pur .bool) (.cons (.own (.cons (.int .i64) (.cons (.int .i64) .nil))) (.cons (.own (.cons (.int .i64) (.cons (.int .i64) .nil))) .nil)))) .nil))) .nil)
def spec_l9Fresh.ann : Ann := { loops := [(0, [(0, (.pur (.sl false (.cons (.sl false (.cons (.int .i64) (.cons (.int .i64) .nil))) (.cons (.sl false (.cons .bool (.cons (.sl false (.cons (.int .i64) (.cons (.int .i64) .nil))) (.cons (.sl false (.cons (.int .i64) (.cons (.int .i64) .nil))) .nil)))) .nil))))), (3, (.rows (.cons (.pur (.sl false (.cons (.int .i64) (.cons (.int .i64) .nil)))) (.cons (.rows (.cons (.pur .bool) (.cons (.own (.cons (.int .i64) (.cons (.int .i64) .nil))) (.cons (.own (.cons (.int .i64) (.cons (.int .i64) .nil))) .nil)))) .nil)))), (4, (.pur (.int .i64)))])], joins := [(3, [(14, .bool)])], keys := [] }
noncomputable def spec_l9Fresh.l0 (k : Nat)  (G0 : ((List ((List (Int × Int × Unit)) × (List (Bool × (List (Int × Int × Unit)) × (List (Int × Int × Unit)) × Unit)) × Unit)) × (List ((List (Int × Int × Unit)) × (List (Bool × (List (Int × Int × Unit)) × (List (Int × Int × Unit)) × Unit)) × Unit)) × Int × Unit) → Option (((List ((List (Int × Int × Unit)) × (List (Bool × (List (Int × Int × Unit)) × (List (Int × Int × Unit)) × Unit)) × Unit)) × Unit) × (Unit × Unit))) : ((List ((List (Int × Int × Unit)) × (List (Bool × (List (Int × Int × Unit)) × (List (Int × Int × Unit)) × Unit)) × Unit)) × (List ((List (Int × Int × Unit)) × (List (Bool × (List (Int × Int × Unit)) × (List (Int × Int × Unit)) × Unit)) × Unit)) × Int × Unit) → Option (((List ((List (Int × Int × Unit)) × (List (Bool × (List (Int × Int × Unit)) × (List (Int × Int × Unit)) × Unit)) × Unit)) × Unit) × (Unit × Unit)) := fun x => match x with
 | (l_, out_, i, ()) =>
  (br k (decide (i < (l_.length : Int)))
  (some (decide ((l_.length : Int) ≤ 100), ()))
  (some (false, ())) : Option (Bool × Unit)).bind fun j1 =>
  br k (j1.1)
  (br k (decide (0 ≤ i))
  (bd k (l_[i.toNat]?) fun x2 =>
  bd k (spec_l9Copy k (x2, ())) fun y3 =>
  br k (decide ((out_.length + ([(y3.1.1.1, y3.1.1.2.1, ())] : List ((List (Int × Int × Unit)) × (List (Bool × (List (Int × Int × Unit)) × (List (Int × Int × Unit)) × Unit)) × Unit)).length) * 48 ≤ maxBytes))
  (G0 (l_, out_ ++ ([(y3.1.1.1, y3.1.1.2.1, ())] : List ((List (Int × Int × Unit)) × (List (Bool × (List (Int × Int × Unit)) × (List (Int × Int × Unit)) × Unit)) × Unit)), IntKind.wrap .i64 (i + 1), ()))
  none)
  none)
  (some ((out_, ()), ((), ())))
noncomputable def spec_l9Fresh (k : Nat) : ((List ((List (Int × Int × Unit)) × (List (Bool × (List (Int × Int × Unit)) × (List (Int × Int × Unit)) × Unit)) × Unit)) × Unit) → Option (((List ((List (Int × Int × Unit)) × (List (Bool × (List (Int × Int × Unit)) × (List (Int × Int × Unit)) × Unit)) × Unit)) × Unit) × (Unit × Unit)) := fun x => match x with
 | (l_, ()) =>
  iter (spec_l9Fresh.l0 k) k (l_, ([] : List ((List (Int × Int × Unit)) × (List (Bool × (List (Int × Int × Unit)) × (List (Int × Int × Unit)) × Unit)) × Unit)), 0, ())
noncomputable def spec_l9Fresh.sg (k : Nat) : Sig := ⟨spec_l9Fresh.A, spec_l9Fresh.R, spec_l9Fresh k⟩
noncomputable def spec_l9Fresh.C (k : Nat) : Ctx := ⟨Tryz.prog, [(165, [spec_l9Copy.sg k])], k, [(5, (.cons (.pur (.sl false (.cons (.int .i64) (.cons (.int .i64) .nil)))) (.cons (.rows (.cons (.pur .bool) (.cons (.own (.cons (.int .i64) (.cons (.int .i64) .nil))) (.cons (.own (.cons (.int .i64) (.cons (.int .i64) .nil))) .nil)))) .nil))), (23, (.cons (.pur (.sl false (.cons (.int .i64) (.cons (.int .i64) .nil)))) (.cons (.rows (.cons (.pur .bool) (.cons (.own (.cons (.int .i64) (.cons (.int .i64) .nil))) (.cons (.own (.cons (.int .i64) (.cons (.int .i64) .nil))) .nil)))) .nil)))]⟩
theorem spec_l9Fresh.ev (k : Nat) (x : spec_l9Fresh.A.T) : evFunc (spec_l9Fresh.C k) spec_l9Fresh.ann Tryz.f136 spec_l9Fresh.A spec_l9Fresh.R x = spec_l9Fresh k x := by kernel_rfl
theorem spec_l9Fresh.ok {L : List (Nat × Obj)}  (k : Nat) : SigHolds Tryz.prog L 136 (spec_l9Fresh.sg k) :=
  sig_of_ev (C := spec_l9Fresh.C k) (holds_cons (allok_cons (spec_l9Copy.ok k) allok_nil) holds_nil) (by kernel_rfl) Tryz.func136 (by kernel_rfl) spec_l9Fresh.ann spec_l9Fresh.A spec_l9Fresh.R (fun x y h => (spec_l9Fresh.ev k x).trans h) (by kernel_rfl)

/-! (*loop.example/g00719/spec.l1Rd).parts -/
def spec_l1Rd_parts.A : Sh := (.cons (.box (.cons (.pur (.sl false (.int .u8))) (.cons (.pur (.int .i64)) .nil))) (.cons (.pur (.cons (.sl false .str) (.cons (.sl false .str) (.cons (.sl false (.cons .str (.cons (.int .i64) .nil))) .nil)))) .nil))
def spec_l1Rd_parts.R : Sh := (.cons (.rows (.cons (.pur (.sl false (.cons (.int .i64) (.cons (.int .i64) .nil)))) (.cons (.rows (.cons (.pur .bool) (.cons (.own (.cons (.int .i64) (.cons (.int .i64) .nil))) (.cons (.own (.cons (.int .i64) (.cons (.int .i64) .nil))) .nil)))) .nil))) .nil)
def spec_l1Rd_parts.ann : Ann := { loops := [(0, [(0, (.box (.cons (.pur (.sl false (.int .u8))) (.cons (.pur (.int .i64)) .nil)))), (3, (.box (.cons (.pur (.sl false .str)) (.cons (.pur (.sl false .str)) (.cons (.pur (.sl false (.cons .str (.cons (.int .i64) .nil)))) .nil))))), (5, (.pur (.sl false (.cons (.sl false (.cons (.int .i64) (.cons (.int .i64) .nil))) (.cons (.sl false (.cons .bool (.cons (.sl false (.cons (.int .i64) (.cons (.int .i64) .nil))) (.cons (.sl false (.cons (.int .i64) (.cons (.int .i64) .nil))) .nil)))) .nil))))), (6, (.pur (.int .i64)))])], joins := [(6, [(29, .bool)])], keys := [(5, [([], false), ([0, 17], true), ([], false), ([3], false), ([0, 20], true), ([17, 20], false), ([7], true), ([7, 17, 20], true)])] }
noncomputable def spec_l1Rd_parts.l0 (k : Nat)  (G0 : (((List Int) × Int × Unit) × ((List (List UInt8)) × (List (List UInt8)) × (List ((List UInt8) × Int × Unit)) × Unit) × (List ((List (Int × Int × Unit)) × (List (Bool × (List (Int × Int × Unit)) × (List (Int × Int × Unit)) × Unit)) × Unit)) × Int × Unit) → Option (((List ((List (Int × Int × Unit)) × (List (Bool × (List (Int × Int × Unit)) × (List (Int × Int × Unit)) × Unit)) × Unit)) × Unit) × (((List Int) × Int × Unit) × Unit × Unit))) : (((List Int) × Int × Unit) × ((List (List UInt8)) × (List (List UInt8)) × (List ((List UInt8) × Int × Unit)) × Unit) × (List ((List (Int × Int × Unit)) × (List (Bool × (List (Int × Int × Unit)) × (List (Int × Int × Unit)) × Unit)) × Unit)) × Int × Unit) → Option (((List ((List (Int × Int × Unit)) × (List (Bool × (List (Int × Int × Unit)) × (List (Int × Int × Unit)) × Unit)) × Unit)) × Unit) × (((List Int) × Int × Unit) × Unit × Unit)) := fun x => match x with
 | ((r_0, r_1, ()), (d__0, d__1, d__2, ()), out_, i, ()) =>
  br k (decide (i > 0))
  (bd k (spec_l1Rd_token k ((r_0, r_1, ()), ())) fun y2 =>
  bd k (spec_l1Rd_table k ((y2.2.1.1, y2.2.1.2.1, ()), (d__0, d__1, d__2, ()), ())) fun y3 =>
  (bd k (spec_TokenOk k (y2.1.1, ())) fun y4 =>
  br k (y4.1.1)
  (bd k (spec_l9Live k (y3.1.1, ())) fun y5 =>
  some (y5.1.1, ()))
  (some (false, ())) : Option (Bool × Unit)).bind fun j6 =>
  br k (j6.1)
  (bd k (spec_l9Put k (out_, (y2.1.1, y3.1.1, ()), false, [], ())) fun y7 =>
  G0 ((y3.2.1.1, y3.2.1.2.1, ()), (d__0, d__1, d__2, ()), y7.1.1, IntKind.wrap .i64 (i - 1), ()))
  (G0 ((y3.2.1.1, y3.2.1.2.1, ()), (d__0, d__1, d__2, ()), out_, IntKind.wrap .i64 (i - 1), ())))
  (bd k (spec_l9Fresh k (out_, ())) fun y8 =>
  some ((y8.1.1, ()), ((r_0, r_1, ()), (), ())))
noncomputable def spec_l1Rd_parts (k : Nat) : (((List Int) × Int × Unit) × ((List (List UInt8)) × (List (List UInt8)) × (List ((List UInt8) × Int × Unit)) × Unit) × Unit) → Option (((List ((List (Int × Int × Unit)) × (List (Bool × (List (Int × Int × Unit)) × (List (Int × Int × Unit)) × Unit)) × Unit)) × Unit) × (((List Int) × Int × Unit) × Unit × Unit)) := fun x => match x with
 | ((r_0, r_1, ()), d_, ()) =>
  bd k (spec_l1Rd_below k ((r_0, r_1, ()), 3, ())) fun y1 =>
  iter (spec_l1Rd_parts.l0 k) k ((y1.2.1.1, y1.2.1.2.1, ()), (d_.1, d_.2.1, d_.2.2.1, ()), ([] : List ((List (Int × Int × Unit)) × (List (Bool × (List (Int × Int × Unit)) × (List (Int × Int × Unit)) × Unit)) × Unit)), IntKind.wrap .i64 (1 + y1.1.1), ())
noncomputable def spec_l1Rd_parts.sg (k : Nat) : Sig := ⟨spec_l1Rd_parts.A, spec_l1Rd_parts.R, spec_l1Rd_parts k⟩
noncomputable def spec_l1Rd_parts.C (k : Nat) : Ctx := ⟨Tryz.prog, [(70, [spec_l1Rd_below.sg k]), (134, [spec_l1Rd_token.sg k]), (92, [spec_l1Rd_table.sg k]), (67, [spec_TokenOk.sg k]), (69, [spec_l9Live.sg k]), (135, [spec_l9Put.sg k]), (136, [spec_l9Fresh.sg k])], k, [(8, (.cons (.pur (.sl false (.cons (.int .i64) (.cons (.int .i64) .nil)))) (.cons (.rows (.cons (.pur .bool) (.cons (.own (.cons (.int .i64) (.cons (.int .i64) .nil))) (.cons (.own (.cons (.int .i64) (.cons (.int .i64) .nil))) .nil)))) .nil)))]⟩
theorem spec_l1Rd_parts.ev (k : Nat) (x : spec_l1Rd_parts.A.T) : evFunc (spec_l1Rd_parts.C k) spec_l1Rd_parts.ann Tryz.f104 spec_l1Rd_parts.A spec_l1Rd_parts.R x = spec_l1Rd_parts k x := by kernel_rfl
theorem spec_l1Rd_parts.ok {L : List (Nat × Obj)}  (k : Nat) : SigHolds Tryz.prog L 104 (spec_l1Rd_parts.sg k) :=
  sig_of_ev (C := spec_l1Rd_parts.C k) (holds_cons (allok_cons (spec_l1Rd_below.ok k) allok_nil) (holds_cons (allok_cons (spec_l1Rd_token.ok k) allok_nil) (holds_cons (allok_cons (spec_l1Rd_table.ok k) allok_nil) (holds_cons (allok_cons (spec_TokenOk.ok k) allok_nil) (holds_cons (allok_cons (spec_l9Live.ok k) allok_nil) (holds_cons (allok_cons (spec_l9Put.ok k) allok_nil) (holds_cons (allok_cons (spec_l9Fresh.ok k) allok_nil) holds_nil))))))) (by kernel_rfl) Tryz.func104 (by kernel_rfl) spec_l1Rd_parts.ann spec_l1Rd_parts.A spec_l1Rd_parts.R (fun x y h => (spec_l1Rd_parts.ev k x).trans h) (by kernel_rfl)

/-! (*loop.example/g00719/spec.l1Rd).hurtParts -/
def spec_l1Rd_hurtParts.A : Sh := (.cons (.box (.cons (.pur (.sl false (.int .u8))) (.cons (.pur (.int .i64)) .nil))) (.cons (.rows (.cons (.pur (.sl false (.cons (.int .i64) (.cons (.int .i64) .nil)))) (.cons (.rows (.cons (.pur .bool) (.cons (.own (.cons (.int .i64) (.cons (.int .i64) .nil))) (.cons (.own (.cons (.int .i64) (.cons (.int .i64) .nil))) .nil)))) .nil))) .nil))
def spec_l1Rd_hurtParts.R : Sh := (.cons (.rows (.cons (.pur (.sl false (.cons (.int .i64) (.cons (.int .i64) .nil)))) (.cons (.rows (.cons (.pur .bool) (.cons (.own (.cons (.int .i64) (.cons (.int .i64) .nil))) (.cons (.own (.cons (.int .i64) (.cons (.int .i64) .nil))) .nil)))) .nil))) .nil)
def spec_l1Rd_hurtParts.ann : Ann := { loops := [], joins := [], keys := [] }
noncomputable def spec_l1Rd_hurtParts (k : Nat) : (((List Int) × Int × Unit) × (List ((List (Int × Int × Unit)) × (List (Bool × (List (Int × Int × Unit)) × (List (Int × Int × Unit)) × Unit)) × Unit)) × Unit) → Option (((List ((List (Int × Int × Unit)) × (List (Bool × (List (Int × Int × Unit)) × (List (Int × Int × Unit)) × Unit)) × Unit)) × Unit) × (((List Int) × Int × Unit) × Unit × Unit)) := fun x => match x with
 | ((r_0, r_1, ()), l_, ()) =>
  bd k (spec_l1Rd_below k ((r_0, r_1, ()), 24, ())) fun y1 =>
  br k (y1.1.1 == 0)
  (bd k (spec_l1Rd_token k ((y1.2.1.1, y1.2.1.2.1, ()), ())) fun y2 =>
  br k (decide ((l_.length + ([(y2.1.1, ([] : List (Bool × (List (Int × Int × Unit)) × (List (Int × Int × Unit)) × Unit)), ())] : List ((List (Int × Int × Unit)) × (List (Bool × (List (Int × Int × Unit)) × (List (Int × Int × Unit)) × Unit)) × Unit)).length) * 48 ≤ maxBytes))
  (some ((l_ ++ ([(y2.1.1, ([] : List (Bool × (List (Int × Int × Unit)) × (List (Int × Int × Unit)) × Unit)), ())] : List ((List (Int × Int × Unit)) × (List (Bool × (List (Int × Int × Unit)) × (List (Int × Int × Unit)) × Unit)) × Unit)), ()), ((y2.2.1.1, y2.2.1.2.1, ()), (), ())))
  none)
  (br k (y1.1.1 == 1)
  (br k (decide ((l_.length : Int) > 0))
  (br k (decide (0 ≤ (0 : Int) ∧ (0 : Int) < (l_.length : Int)))
  (bd k (l_[(0 : Int).toNat]?) fun x3 =>
  bd k (spec_l1Rd_hurtTable k ((y1.2.1.1, y1.2.1.2.1, ()), x3.2.1, ())) fun y4 =>
  br k (decide (0 ≤ (0 : Int) ∧ (0 : Int) < (l_.length : Int)))
  (br k (decide ((0 : Int).toNat = (0 : Int).toNat))
  (some ((l_.set ((0 : Int).toNat) (x3.1, y4.1.1, ()), ()), ((y4.2.1.1, y4.2.1.2.1, ()), (), ())))
  none)
  none)
  none)
  (some ((l_, ()), ((y1.2.1.1, y1.2.1.2.1, ()), (), ()))))
  (br k (y1.1.1 == 2)
  (br k (decide ((l_.length : Int) > 1))
  (br k (decide (0 ≤ (1 : Int) ∧ (1 : Int) < (l_.length : Int)))
  (bd k (l_[(1 : Int).toNat]?) fun x5 =>
  br k (decide (0 ≤ (0 : Int) ∧ (0 : Int) < (l_.length : Int)))
  (bd k (l_[(0 : Int).toNat]?) fun x6 =>
  some ((l_.set ((0 : Int).toNat) (x5.1, x6.2.1, ()), ()), ((y1.2.1.1, y1.2.1.2.1, ()), (), ())))
  none)
  none)
  (some ((l_, ()), ((y1.2.1.1, y1.2.1.2.1, ()), (), ()))))
  (some ((l_, ()), ((y1.2.1.1, y1.2.1.2.1, ()), (), ())))))
noncomputable def spec_l1Rd_hurtParts.sg (k : Nat) : Sig := ⟨spec_l1Rd_hurtParts.A, spec_l1Rd_hurtParts.R, spec_l1Rd_hurtParts k⟩
noncomputable def spec_l1Rd_hurtParts.C (k : Nat) : Ctx := ⟨Tryz.prog, [(70, [spec_l1Rd_below.sg k]), (134, [spec_l1Rd_token.sg k]), (94, [spec_l1Rd_hurtTable.sg k])], k, [(13, (.cons (.pur (.sl false (.cons (.int .i64) (.cons (.int .i64) .nil)))) (.cons (.rows (.cons (.pur .bool) (.cons (.own (.cons (.int .i64) (.cons (.int .i64) .nil))) (.cons (.own (.cons (.int .i64) (.cons (.int .i64) .nil))) .nil)))) .nil)))]⟩
theorem spec_l1Rd_hurtParts.ev (k : Nat) (x : spec_l1Rd_hurtParts.A.T) : evFunc (spec_l1Rd_hurtParts.C k) spec_l1Rd_hurtParts.ann Tryz.f103 spec_l1Rd_hurtParts.A spec_l1Rd_hurtParts.R x = spec_l1Rd_hurtParts k x := by kernel_rfl
theorem spec_l1Rd_hurtParts.ok {L : List (Nat × Obj)}  (k : Nat) : SigHolds Tryz.prog L 103 (spec_l1Rd_hurtParts.sg k) :=
  sig_of_ev (C := spec_l1Rd_hurtParts.C k) (holds_cons (allok_cons (spec_l1Rd_below.ok k) allok_nil) (holds_cons (allok_cons (spec_l1Rd_token.ok k) allok_nil) (holds_cons (allok_cons (spec_l1Rd_hurtTable.ok k) allok_nil) holds_nil))) (by kernel_rfl) Tryz.func103 (by kernel_rfl) spec_l1Rd_hurtParts.ann spec_l1Rd_hurtParts.A spec_l1Rd_hurtParts.R (fun x y h => (spec_l1Rd_hurtParts.ev k x).trans h) (by kernel_rfl)

/-! loop.example/g00719/spec.DrawPartsOk -/
def spec_DrawPartsOk.A : Sh := (.cons (.pur (.sl false (.int .u8))) .nil)
def spec_DrawPartsOk.R : Sh := (.cons (.pur (.cons (.sl false .str) (.cons (.sl false .str) (.cons (.sl false (.cons .str (.cons (.int .i64) .nil))) .nil)))) (.cons (.rows (.cons (.pur (.sl false (.cons (.int .i64) (.cons (.int .i64) .nil)))) (.cons (.rows (.cons (.pur .bool) (.cons (.own (.cons (.int .i64) (.cons (.int .i64) .nil))) (.cons (.own (.cons (.int .i64) (.cons (.int .i64) .nil))) .nil)))) .nil))) .nil))
def spec_DrawPartsOk.ann : Ann := { loops := [], joins := [], keys := [(3, [([5], false), ([], false), ([], false), ([5], false), ([7, 14], true), ([7, 14, 15], true), ([2], true), ([], false)])] }
noncomputable def spec_DrawPartsOk (k : Nat) : ((List Int) × Unit) → Option ((((List (List UInt8)) × (List (List UInt8)) × (List ((List UInt8) × Int × Unit)) × Unit) × (List ((List (Int × Int × Unit)) × (List (Bool × (List (Int × Int × Unit)) × (List (Int × Int × Unit)) × Unit)) × Unit)) × Unit) × (Unit × Unit)) := fun x => match x with
 | (code, ()) =>
  bd k (spec_l1Open k (code, ())) fun y1 =>
  bd k (spec_l1Rd_decl k ((y1.1.1.1, y1.1.1.2.1, ()), ())) fun y2 =>
  bd k (spec_l1Rd_parts k ((y2.2.1.1, y2.2.1.2.1, ()), y2.1.1, ())) fun y3 =>
  bd k (spec_l1Rd_hurtParts k ((y3.2.1.1, y3.2.1.2.1, ()), y3.1.1, ())) fun y4 =>
  some ((y2.1.1, y4.1.1, ()), ((), ()))
noncomputable def spec_DrawPartsOk.sg (k : Nat) : Sig := ⟨spec_DrawPartsOk.A, spec_DrawPartsOk.R, spec_DrawPartsOk k⟩
noncomputable def spec_DrawPartsOk.C (k : Nat) : Ctx := ⟨Tryz.prog, [(28, [spec_l1Open.sg k]), (29, [spec_l1Rd_decl.sg k]), (104, [spec_l1Rd_parts.sg k]), (103, [spec_l1Rd_hurtParts.sg k])], k, []⟩
theorem spec_DrawPartsOk.ev (k : Nat) (x : spec_DrawPartsOk.A.T) : evFunc (spec_DrawPartsOk.C k) spec_DrawPartsOk.ann Tryz.f61 spec_DrawPartsOk.A spec_DrawPartsOk.R x = spec_DrawPartsOk k x := by kernel_rfl
theorem spec_DrawPartsOk.ok {L : List (Nat × Obj)}  (k : Nat) : SigHolds Tryz.prog L 61 (spec_DrawPartsOk.sg k) :=
  sig_of_ev (C := spec_DrawPartsOk.C k) (holds_cons (allok_cons (spec_l1Open.ok k) allok_nil) (holds_cons (allok_cons (spec_l1Rd_decl.ok k) allok_nil) (holds_cons (allok_cons (spec_l1Rd_parts.ok k) allok_nil) (holds_cons (allok_cons (spec_l1Rd_hurtParts.ok k) allok_nil) holds_nil)))) (by kernel_rfl) Tryz.func61 (by kernel_rfl) spec_DrawPartsOk.ann spec_DrawPartsOk.A spec_DrawPartsOk.R (fun x y h => (spec_DrawPartsOk.ev k x).trans h) (by kernel_rfl)


/-! cmp.isNaN[int] -/
def cmp_isNaN_int.A : Sh := (.cons (.pur (.int .i64)) .nil)
def cmp_isNaN_int.R : Sh := (.cons (.pur .bool) .nil)
def cmp_isNaN_int.ann : Ann := { loops := [], joins := [], keys := [] }
noncomputable def cmp_isNaN_int (k : Nat) : (Int × Unit) → Option ((Bool × Unit) × (Unit × Unit)) := fun x => match x with
 | (x_, ()) =>
  some ((x_ != x_, ()), ((), ()))
noncomputable def cmp_isNaN_int.sg (k : Nat) : Sig := ⟨cmp_isNaN_int.A, cmp_isNaN_int.R, cmp_isNaN_int k⟩
noncomputable def cmp_isNaN_int.C (k : Nat) : Ctx := ⟨Tryz.prog, [], k, []⟩
theorem cmp_isNaN_int.ev (k : Nat) (x : cmp_isNaN_int.A.T) : evFunc (cmp_isNaN_int.C k) cmp_isNaN_int.ann Tryz.f186 cmp_isNaN_int.A cmp_isNaN_int.R x = cmp_isNaN_int k x := by kernel_rfl
theorem cmp_isNaN_int.ok {L : List (Nat × Obj)}  (k : Nat) : SigHolds Tryz.prog L 186 (cmp_isNaN_int.sg k) :=
  sig_of_ev (C := cmp_isNaN_int.C k) holds_nil (by kernel_rfl) Tryz.func186 (by kernel_rfl) cmp_isNaN_int.ann cmp_isNaN_int.A cmp_isNaN_int.R (fun x y h => (cmp_isNaN_int.ev k x).trans h) (by kernel_rfl)

/-! cmp.Compare[int] -/
def cmp_Compare_int.A : Sh := (.cons (.pur (.int .i64)) (.cons (.pur (.int .i64)) .nil))
def cmp_Compare_int.R : Sh := (.cons (.pur (.int .i64)) .nil)
def cmp_Compare_int.ann : Ann := { loops := [], joins := [], keys := [] }
noncomputable def cmp_Compare_int (k : Nat) : (Int × Int × Unit) → Option ((Int × Unit) × (Unit × Unit × Unit)) := fun x => match x with
 | (x_, y_, ()) =>
  bd k (cmp_isNaN_int k (x_, ())) fun y1 =>
  bd k (cmp_isNaN_int k (y_, ())) fun y2 =>
  br k (y1.1.1)
  (br k (y2.1.1)
  (some ((0, ()), ((), (), ())))
  (some (((-1), ()), ((), (), ()))))
  (br k (y2.1.1)
  (some ((1, ()), ((), (), ())))
  (br k (decide (x_ < y_))
  (some (((-1), ()), ((), (), ())))
  (br k (decide (x_ > y_))
  (some ((1, ()), ((), (), ())))
  (some ((0, ()), ((), (), ()))))))
noncomputable def cmp_Compare_int.sg (k : Nat) : Sig := ⟨cmp_Compare_int.A, cmp_Compare_int.R, cmp_Compare_int k⟩
noncomputable def cmp_Compare_int.C (k : Nat) : Ctx := ⟨Tryz.prog, [(186, [cmp_isNaN_int.sg k])], k, []⟩
theorem cmp_Compare_int.ev (k : Nat) (x : cmp_Compare_int.A.T) : evFunc (cmp_Compare_int.C k) cmp_Compare_int.ann Tryz.f167 cmp_Compare_int.A cmp_Compare_int.R x = cmp_Compare_int k x := by kernel_rfl
theorem cmp_Compare_int.ok {L : List (Nat × Obj)}  (k : Nat) : SigHolds Tryz.prog L 167 (cmp_Compare_int.sg k) :=
  sig_of_ev (C := cmp_Compare_int.C k) (holds_cons (allok_cons (cmp_isNaN_int.ok k) allok_nil) holds_nil) (by kernel_rfl) Tryz.func167 (by kernel_rfl) cmp_Compare_int.ann cmp_Compare_int.A cmp_Compare_int.R (fun x y h => (cmp_Compare_int.ev k x).trans h) (by kernel_rfl)

/-! cmp.isNaN[int64] -/
def cmp_isNaN_int64.A : Sh := (.cons (.pur (.int .i64)) .nil)
def cmp_isNaN_int64.R : Sh := (.cons (.pur .bool) .nil)
def cmp_isNaN_int64.ann : Ann := { loops := [], joins := [], keys := [] }
noncomputable def cmp_isNaN_int64 (k : Nat) : (Int × Unit) → Option ((Bool × Unit) × (Unit × Unit)) := fun x => match x with
 | (x_, ()) =>
  some ((x_ != x_, ()), ((), ()))
noncomputable def cmp_isNaN_int64.sg (k : Nat) : Sig := ⟨cmp_isNaN_int64.A, cmp_isNaN_int64.R, cmp_isNaN_int64 k⟩
noncomputable def cmp_isNaN_int64.C (k : Nat) : Ctx := ⟨Tryz.prog, [], k, []⟩
theorem cmp_isNaN_int64.ev (k : Nat) (x : cmp_isNaN_int64.A.T) : evFunc (cmp_isNaN_int64.C k) cmp_isNaN_int64.ann Tryz.f187 cmp_isNaN_int64.A cmp_isNaN_int64.R x = cmp_isNaN_int64 k x := by kernel_rfl
theorem cmp_isNaN_int64.ok {L : List (Nat × Obj)}  (k : Nat) : SigHolds Tryz.prog L 187 (cmp_isNaN_int64.sg k) :=
  sig_of_ev (C := cmp_isNaN_int64.C k) holds_nil (by kernel_rfl) Tryz.func187 (by kernel_rfl) cmp_isNaN_int64.ann cmp_isNaN_int64.A cmp_isNaN_int64.R (fun x y h => (cmp_isNaN_int64.ev k x).trans h) (by kernel_rfl)

/-! cmp.Compare[int64] -/
def cmp_Compare_int64.A : Sh := (.cons (.pur (.int .i64)) (.cons (.pur (.int .i64)) .nil))
def cmp_Compare_int64.R : Sh := (.cons (.pur (.int .i64)) .nil)
def cmp_Compare_int64.ann : Ann := { loops := [], joins := [], keys := [] }
noncomputable def cmp_Compare_int64 (k : Nat) : (Int × Int × Unit) → Option ((Int × Unit) × (Unit × Unit × Unit)) := fun x => match x with
 | (x_, y_, ()) =>
  bd k (cmp_isNaN_int64 k (x_, ())) fun y1 =>
  bd k (cmp_isNaN_int64 k (y_, ())) fun y2 =>
  br k (y1.1.1)
  (br k (y2.1.1)
  (some ((0, ()), ((), (), ())))
  (some (((-1), ()), ((), (), ()))))
  (br k (y2.1.1)
  (some ((1, ()), ((), (), ())))
  (br k (decide (x_ < y_))
  (some (((-1), ()), ((), (), ())))
  (br k (decide (x_ > y_))
  (some ((1, ()), ((), (), ())))
  (some ((0, ()), ((), (), ()))))))
noncomputable def cmp_Compare_int64.sg (k : Nat) : Sig := ⟨cmp_Compare_int64.A, cmp_Compare_int64.R, cmp_Compare_int64 k⟩
noncomputable def cmp_Compare_int64.C (k : Nat) : Ctx := ⟨Tryz.prog, [(187, [cmp_isNaN_int64.sg k])], k, []⟩
theorem cmp_Compare_int64.ev (k : Nat) (x : cmp_Compare_int64.A.T) : evFunc (cmp_Compare_int64.C k) cmp_Compare_int64.ann Tryz.f170 cmp_Compare_int64.A cmp_Compare_int64.R x = cmp_Compare_int64 k x := by kernel_rfl
theorem cmp_Compare_int64.ok {L : List (Nat × Obj)}  (k : Nat) : SigHolds Tryz.prog L 170 (cmp_Compare_int64.sg k) :=
  sig_of_ev (C := cmp_Compare_int64.C k) (holds_cons (allok_cons (cmp_isNaN_int64.ok k) allok_nil) holds_nil) (by kernel_rfl) Tryz.func170 (by kernel_rfl) cmp_Compare_int64.ann cmp_Compare_int64.A cmp_Compare_int64.R (fun x y h => (cmp_Compare_int64.ev k x).trans h) (by kernel_rfl)

/-! cmp.Or[int] -/
def cmp_Or_int.A : Sh := (.cons (.pur (.sl false (.int .i64))) .nil)
def cmp_Or_int.R : Sh := (.cons (.pur (.int .i64)) .nil)
def cmp_Or_int.ann : Ann := { loops := [(0, [(3, (.pur (.int .i64))), (6, (.pur (.sl false (.int .i64)))), (7, (.pur (.int .i64))), (8, (.pur (.int .i64)))])], joins := [], keys := [] }
noncomputable def cmp_Or_int.l0 (k : Nat)  (G0 : (Int × (List Int) × Int × Int × Unit) → Option ((Int × Unit) × (Unit × Unit))) : (Int × (List Int) × Int × Int × Unit) → Option ((Int × Unit) × (Unit × Unit)) := fun x => match x with
 | (zero, t6, t7, t8, ()) =>
  br k (decide (t8 < t7))
  (br k (decide (0 ≤ t8))
  (bd k (t6[t8.toNat]?) fun x1 =>
  br k (x1 != zero)
  (some ((x1, ()), ((), ())))
  (G0 (zero, t6, t7, IntKind.wrap .i64 (t8 + 1), ())))
  none)
  (some ((zero, ()), ((), ())))
noncomputable def cmp_Or_int (k : Nat) : ((List Int) × Unit) → Option ((Int × Unit) × (Unit × Unit)) := fun x => match x with
 | (vals, ()) =>
  iter (cmp_Or_int.l0 k) k (0, vals, (vals.length : Int), 0, ())
noncomputable def cmp_Or_int.sg (k : Nat) : Sig := ⟨cmp_Or_int.A, cmp_Or_int.R, cmp_Or_int k⟩
noncomputable def cmp_Or_int.C (k : Nat) : Ctx := ⟨Tryz.prog, [], k, []⟩
theorem cmp_Or_int.ev (k : Nat) (x : cmp_Or_int.A.T) : evFunc (cmp_Or_int.C k) cmp_Or_int.ann Tryz.f166 cmp_Or_int.A cmp_Or_int.R x = cmp_Or_int k x := by kernel_rfl
theorem cmp_Or_int.ok {L : List (Nat × Obj)}  (k : Nat) : SigHolds Tryz.prog L 166 (cmp_Or_int.sg k) :=
  sig_of_ev (C := cmp_Or_int.C k) holds_nil (by kernel_rfl) Tryz.func166 (by kernel_rfl) cmp_Or_int.ann cmp_Or_int.A cmp_Or_int.R (fun x y h => (cmp_Or_int.ev k x).trans h) (by kernel_rfl)

/-! loop.example/g00719/impl.compareTokens$1 -/
def impl_compareTokens_1.A : Sh := (.cons (.pur (.cons (.int .i64) (.cons (.int .i64) .nil))) (.cons (.pur (.cons (.int .i64) (.cons (.int .i64) .nil))) .nil))
def impl_compareTokens_1.R : Sh := (.cons (.pur (.int .i64)) .nil)
def impl_compareTokens_1.ann : Ann := { loops := [], joins := [], keys := [(1, [([2], false), ([2], false), ([3], false), ([3], false), ([], false), ([2], false), ([2], false), ([3], false), ([3], false), ([], false), ([15], true), ([15], false), ([], false)])] }
noncomputable def impl_compareTokens_1 (k : Nat) : ((Int × Int × Unit) × (Int × Int × Unit) × Unit) → Option ((Int × Unit) × (Unit × Unit × Unit)) := fun x => match x with
 | (x_, y_, ()) =>
  bd k (cmp_Compare_int64 k (x_.1, y_.1, ())) fun y1 =>
  bd k (cmp_Compare_int64 k (x_.2.1, y_.2.1, ())) fun y2 =>
  bd k (cmp_Or_int k (([y1.1.1, y2.1.1] : List Int), ())) fun y3 =>
  some ((y3.1.1, ()), ((), (), ()))
noncomputable def impl_compareTokens_1.sg (k : Nat) : Sig := ⟨impl_compareTokens_1.A, impl_compareTokens_1.R, impl_compareTokens_1 k⟩
noncomputable def impl_compareTokens_1.C (k : Nat) : Ctx := ⟨Tryz.prog, [(170, [cmp_Compare_int64.sg k]), (166, [cmp_Or_int.sg k])], k, []⟩
theorem impl_compareTokens_1.ev (k : Nat) (x : impl_compareTokens_1.A.T) : evFunc (impl_compareTokens_1.C k) impl_compareTokens_1.ann Tryz.f169 impl_compareTokens_1.A impl_compareTokens_1.R x = impl_compareTokens_1 k x := by kernel_rfl
theorem impl_compareTokens_1.ok {L : List (Nat × Obj)}  (k : Nat) : SigHolds Tryz.prog L 169 (impl_compareTokens_1.sg k) :=
  sig_of_ev (C := impl_compareTokens_1.C k) (holds_cons (allok_cons (cmp_Compare_int64.ok k) allok_nil) (holds_cons (allok_cons (cmp_Or_int.ok k) allok_nil) holds_nil)) (by kernel_rfl) Tryz.func169 (by kernel_rfl) impl_compareTokens_1.ann impl_compareTokens_1.A impl_compareTokens_1.R (fun x y h => (impl_compareTokens_1.ev k x).trans h) (by kernel_rfl)

/-! slices.CompareFunc[[]loop.example/g00719/impl.Entry,[]loop.example/g00719/impl.Entry,loop.example/g00719/impl.Entry,loop.example/g00719/impl.Entry] -/
def slices_CompareFunc_impl_Entry_impl_Entry_impl_Entry_impl_Entry.A : Sh := (.cons (.pur (.sl false (.cons (.int .i64) (.cons (.int .i64) .nil)))) (.cons (.pur (.sl false (.cons (.int .i64) (.cons (.int .i64) .nil)))) (.cons (.fn (.func 169) 0 .nil) .nil)))
def slices_CompareFunc_impl_Entry_impl_Entry_impl_Entry_impl_Entry.R : Sh := (.cons (.pur (.int .i64)) .nil)
def slices_CompareFunc_impl_Entry_impl_Entry_impl_Entry_impl_Entry.ann : Ann := { loops := [(0, [(0, (.pur (.sl false (.cons (.int .i64) (.cons (.int .i64) .nil))))), (1, (.pur (.sl false (.cons (.int .i64) (.cons (.int .i64) .nil))))), (2, (.fn (.func 169) 0 .nil)), (11, (.pur (.sl false (.cons (.int .i64) (.cons (.int .i64) .nil))))), (12, (.pur (.int .i64))), (13, (.pur (.int .i64)))])], joins := [], keys := [] }
noncomputable def slices_CompareFunc_impl_Entry_impl_Entry_impl_Entry_impl_Entry.l0 (k : Nat)  (G0 : ((List (Int × Int × Unit)) × (List (Int × Int × Unit)) × (Unit) × (List (Int × Int × Unit)) × Int × Int × Unit) → Option ((Int × Unit) × (Unit × Unit × (Unit) × Unit))) : ((List (Int × Int × Unit)) × (List (Int × Int × Unit)) × (Unit) × (List (Int × Int × Unit)) × Int × Int × Unit) → Option ((Int × Unit) × (Unit × Unit × (Unit) × Unit)) := fun x => match x with
 | (s1, s2, (()), t11, t12, t13, ()) =>
  br k (decide (t13 < t12))
  (br k (decide (0 ≤ t13))
  (bd k (t11[t13.toNat]?) fun x1 =>
  br k (decide (t13 ≥ (s2.length : Int)))
  (some ((1, ()), ((), (), (()), ())))
  (br k (decide (0 ≤ t13))
  (bd k (s2[t13.toNat]?) fun x2 =>
  bd k (impl_compareTokens_1 k (x1, x2, ())) fun y3 =>
  br k (y3.1.1 != 0)
  (some ((y3.1.1, ()), ((), (), (()), ())))
  (G0 (s1, s2, (()), t11, t12, IntKind.wrap .i64 (t13 + 1), ())))
  none))
  none)
  (br k (decide ((s1.length : Int) < (s2.length : Int)))
  (some (((-1), ()), ((), (), (()), ())))
  (some ((0, ()), ((), (), (()), ()))))
noncomputable def slices_CompareFunc_impl_Entry_impl_Entry_impl_Entry_impl_Entry (k : Nat) : ((List (Int × Int × Unit)) × (List (Int × Int × Unit)) × (Unit) × Unit) → Option ((Int × Unit) × (Unit × Unit × (Unit) × Unit)) := fun x => match x with
 | (s1, s2, (()), ()) =>
  iter (slices_CompareFunc_impl_Entry_impl_Entry_impl_Entry_impl_Entry.l0 k) k (s1, s2, (()), s1, (s1.length : Int), 0, ())
noncomputable def slices_CompareFunc_impl_Entry_impl_Entry_impl_Entry_impl_Entry.sg (k : Nat) : Sig := ⟨slices_CompareFunc_impl_Entry_impl_Entry_impl_Entry_impl_Entry.A, slices_CompareFunc_impl_Entry_impl_Entry_impl_Entry_impl_Entry.R, slices_CompareFunc_impl_Entry_impl_Entry_impl_Entry_impl_Entry k⟩
noncomputable def slices_CompareFunc_impl_Entry_impl_Entry_impl_Entry_impl_Entry.C (k : Nat) : Ctx := ⟨Tryz.prog, [(169, [impl_compareTokens_1.sg k])], k, []⟩
theorem slices_CompareFunc_impl_Entry_impl_Entry_impl_Entry_impl_Entry.ev (k : Nat) (x : slices_CompareFunc_impl_Entry_impl_Entry_impl_Entry_impl_Entry.A.T) : evFunc (slices_CompareFunc_impl_Entry_impl_Entry_impl_Entry_impl_Entry.C k) slices_CompareFunc_impl_Entry_impl_Entry_impl_Entry_impl_Entry.ann Tryz.f168 slices_CompareFunc_impl_Entry_impl_Entry_impl_Entry_impl_Entry.A slices_CompareFunc_impl_Entry_impl_Entry_impl_Entry_impl_Entry.R x = slices_CompareFunc_impl_Entry_impl_Entry_impl_Entry_impl_Entry k x := by kernel_rfl
theorem slices_CompareFunc_impl_Entry_impl_Entry_impl_Entry_impl_Entry.ok {L : List (Nat × Obj)}  (k : Nat) : SigHolds Tryz.prog L 168 (slices_CompareFunc_impl_Entry_impl_Entry_impl_Entry_impl_Entry.sg k) :=
  sig_of_ev (C := slices_CompareFunc_impl_Entry_impl_Entry_impl_Entry_impl_Entry.C k) (holds_cons (allok_cons (impl_compareTokens_1.ok k) allok_nil) holds_nil) (by kernel_rfl) Tryz.func168 (by kernel_rfl) slices_CompareFunc_impl_Entry_impl_Entry_impl_Entry_impl_Entry.ann slices_CompareFunc_impl_Entry_impl_Entry_impl_Entry_impl_Entry.A slices_CompareFunc_impl_Entry_impl_Entry_impl_Entry_impl_Entry.R (fun x y h => (slices_CompareFunc_impl_Entry_impl_Entry_impl_Entry_impl_Entry.ev k x).trans h) (by kernel_rfl)

/-! loop.example/g00719/impl.compareTokens -/
def impl_compareTokens.A : Sh := (.cons (.pur (.sl false (.cons (.int .i64) (.cons (.int .i64) .nil)))) (.cons (.pur (.sl false (.cons (.int .i64) (.cons (.int .i64) .nil)))) .nil))
def impl_compareTokens.R : Sh := (.cons (.pur (.int .i64)) .nil)
def impl_compareTokens.ann : Ann := { loops := [], joins := [], keys := [] }
noncomputable def impl_compareTokens (k : Nat) : ((List (Int × Int × Unit)) × (List (Int × Int × Unit)) × Unit) → Option ((Int × Unit) × (Unit × Unit × Unit)) := fun x => match x with
 | (a, b_, ()) =>
  bd k (cmp_Compare_int k ((a.length : Int), (b_.length : Int), ())) fun y1 =>
  bd k (slices_CompareFunc_impl_Entry_impl_Entry_impl_Entry_impl_Entry k (a, b_, (()), ())) fun y2 =>
  bd k (cmp_Or_int k (([y1.1.1, y2.1.1] : List Int), ())) fun y3 =>
  some ((y3.1.1, ()), ((), (), ()))
noncomputable def impl_compareTokens.sg (k : Nat) : Sig := ⟨impl_compareTokens.A, impl_compareTokens.R, impl_compareTokens k⟩
noncomputable def impl_compareTokens.C (k : Nat) : Ctx := ⟨Tryz.prog, [(167, [cmp_Compare_int.sg k]), (168, [slices_CompareFunc_impl_Entry_impl_Entry_impl_Entry_impl_Entry.sg k]), (166, [cmp_Or_int.sg k])], k, []⟩
theorem impl_compareTokens.ev (k : Nat) (x : impl_compareTokens.A.T) : evFunc (impl_compareTokens.C k) impl_compareTokens.ann Tryz.f137 impl_compareTokens.A impl_compareTokens.R x = impl_compareTokens k x := by kernel_rfl
theorem impl_compareTokens.ok {L : List (Nat × Obj)}  (k : Nat) : SigHolds Tryz.prog L 137 (impl_compareTokens.sg k) :=
  sig_of_ev (C := impl_compareTokens.C k) (holds_cons (allok_cons (cmp_Compare_int.ok k) allok_nil) (holds_cons (allok_cons (slices_CompareFunc_impl_Entry_impl_Entry_impl_Entry_impl_Entry.ok k) allok_nil) (holds_cons (allok_cons (cmp_Or_int.ok k) allok_nil) holds_nil))) (by kernel_rfl) Tryz.func137 (by kernel_rfl) impl_compareTokens.ann impl_compareTokens.A impl_compareTokens.R (fun x y h => (impl_compareTokens.ev k x).trans h) (by kernel_rfl)

/-! loop.example/g00719/impl.entryOk -/
def impl_entryOk.A : Sh := (.cons (.pur (.cons (.int .i64) (.cons (.int .i64) .nil))) .nil)
def impl_entryOk.R : Sh := (.cons (.pur .bool) .nil)
def impl_entryOk.ann : Ann := { loops := [], joins := [(1, [(2, .bool)])], keys := [] }
noncomputable def impl_entryOk (k : Nat) : ((Int × Int × Unit) × Unit) → Option ((Bool × Unit) × (Unit × Unit)) := fun x => match x with
 | (e_, ()) =>
  (bd k (impl_within k (e_.1, 0, 29, ())) fun y1 =>
  br k (y1.1.1)
  (bd k (impl_within k (e_.2.1, 0, 4, ())) fun y2 =>
  some (y2.1.1, ()))
  (some (false, ())) : Option (Bool × Unit)).bind fun j3 =>
  some ((j3.1, ()), ((), ()))
noncomputable def impl_entryOk.sg (k : Nat) : Sig := ⟨impl_entryOk.A, impl_entryOk.R, impl_entryOk k⟩
noncomputable def impl_entryOk.C (k : Nat) : Ctx := ⟨Tryz.prog, [(114, [impl_within.sg k])], k, []⟩
theorem impl_entryOk.ev (k : Nat) (x : impl_entryOk.A.T) : evFunc (impl_entryOk.C k) impl_entryOk.ann Tryz.f190 impl_entryOk.A impl_entryOk.R x = impl_entryOk k x := by kernel_rfl
theorem impl_entryOk.ok {L : List (Nat × Obj)}  (k : Nat) : SigHolds Tryz.prog L 190 (impl_entryOk.sg k) :=
  sig_of_ev (C := impl_entryOk.C k) (holds_cons (allok_cons (impl_within.ok k) allok_nil) holds_nil) (by kernel_rfl) Tryz.func190 (by kernel_rfl) impl_entryOk.ann impl_entryOk.A impl_entryOk.R (fun x y h => (impl_entryOk.ev k x).trans h) (by kernel_rfl)

/-! loop.example/g00719/impl.areAll[loop.example/g00719/impl.Entry]$1 -/
def impl_areAll_impl_Entry_1.A : Sh := (.cons (.pur (.cons (.int .i64) (.cons (.int .i64) .nil))) (.cons (.box (.cons (.fn (.func 190) 0 .nil) .nil)) .nil))
def impl_areAll_impl_Entry_1.R : Sh := (.cons (.pur .bool) .nil)
def impl_areAll_impl_Entry_1.ann : Ann := { loops := [], joins := [], keys := [] }
noncomputable def impl_areAll_impl_Entry_1 (k : Nat) : ((Int × Int × Unit) × ((Unit) × Unit) × Unit) → Option ((Bool × Unit) × (Unit × ((Unit) × Unit) × Unit)) := fun x => match x with
 | (x_, ((()), ()), ()) =>
  bd k (impl_entryOk k (x_, ())) fun y1 =>
  some ((!y1.1.1, ()), ((), ((()), ()), ()))
noncomputable def impl_areAll_impl_Entry_1.sg (k : Nat) : Sig := ⟨impl_areAll_impl_Entry_1.A, impl_areAll_impl_Entry_1.R, impl_areAll_impl_Entry_1 k⟩
noncomputable def impl_areAll_impl_Entry_1.C (k : Nat) : Ctx := ⟨Tryz.prog, [(190, [impl_entryOk.sg k])], k, []⟩
theorem impl_areAll_impl_Entry_1.ev (k : Nat) (x : impl_areAll_impl_Entry_1.A.T) : evFunc (impl_areAll_impl_Entry_1.C k) impl_areAll_impl_Entry_1.ann Tryz.f197 impl_areAll_impl_Entry_1.A impl_areAll_impl_Entry_1.R x = impl_areAll_impl_Entry_1 k x := by kernel_rfl
theorem impl_areAll_impl_Entry_1.ok {L : List (Nat × Obj)}  (k : Nat) : SigHolds Tryz.prog L 197 (impl_areAll_impl_Entry_1.sg k) :=
  sig_of_ev (C := impl_areAll_impl_Entry_1.C k) (holds_cons (allok_cons (impl_entryOk.ok k) allok_nil) holds_nil) (by kernel_rfl) Tryz.func197 (by kernel_rfl) impl_areAll_impl_Entry_1.ann impl_areAll_impl_Entry_1.A impl_areAll_impl_Entry_1.R (fun x y h => (impl_areAll_impl_Entry_1.ev k x).trans h) (by kernel_rfl)

/-! slices.IndexFunc[[]loop.example/g00719/impl.Entry,loop.example/g00719/impl.Entry] -/
def slices_IndexFunc_impl_Entry_impl_Entry.A : Sh := (.cons (.pur (.sl false (.cons (.int .i64) (.cons (.int .i64) .nil)))) (.cons (.fn (.func 197) 0 (.cons (.box (.cons (.fn (.func 190) 0 .nil) .nil)) .nil)) .nil))
def slices_IndexFunc_impl_Entry_impl_Entry.R : Sh := (.cons (.pur (.int .i64)) .nil)
def slices_IndexFunc_impl_Entry_impl_Entry.ann : Ann := { loops := [(0, [(0, (.pur (.sl false (.cons (.int .i64) (.cons (.int .i64) .nil))))), (1, (.fn (.func 197) 0 (.cons (.box (.cons (.fn (.func 190) 0 .nil) .nil)) .nil))), (7, (.pur (.int .i64))), (8, (.pur (.int .i64)))])], joins := [], keys := [] }
noncomputable def slices_IndexFunc_impl_Entry_impl_Entry.l0 (k : Nat)  (G0 : ((List (Int × Int × Unit)) × (((Unit) × Unit) × Unit) × Int × Int × Unit) → Option ((Int × Unit) × (Unit × (((Unit) × Unit) × Unit) × Unit))) : ((List (Int × Int × Unit)) × (((Unit) × Unit) × Unit) × Int × Int × Unit) → Option ((Int × Unit) × (Unit × (((Unit) × Unit) × Unit) × Unit)) := fun x => match x with
 | (s_, (((()), ()), ()), t7, t8, ()) =>
  br k (decide (t8 < t7))
  (br k (decide (0 ≤ t8))
  (bd k (s_[t8.toNat]?) fun x1 =>
  bd k (impl_areAll_impl_Entry_1 k (x1, ((()), ()), ())) fun y2 =>
  br k (y2.1.1)
  (some ((t8, ()), ((), (((()), ()), ()), ())))
  (G0 (s_, (((()), ()), ()), t7, IntKind.wrap .i64 (t8 + 1), ())))
  none)
  (some (((-1), ()), ((), (((()), ()), ()), ())))
noncomputable def slices_IndexFunc_impl_Entry_impl_Entry (k : Nat) : ((List (Int × Int × Unit)) × (((Unit) × Unit) × Unit) × Unit) → Option ((Int × Unit) × (Unit × (((Unit) × Unit) × Unit) × Unit)) := fun x => match x with
 | (s_, (((()), ()), ()), ()) =>
  iter (slices_IndexFunc_impl_Entry_impl_Entry.l0 k) k (s_, (((()), ()), ()), (s_.length : Int), 0, ())
noncomputable def slices_IndexFunc_impl_Entry_impl_Entry.sg (k : Nat) : Sig := ⟨slices_IndexFunc_impl_Entry_impl_Entry.A, slices_IndexFunc_impl_Entry_impl_Entry.R, slices_IndexFunc_impl_Entry_impl_Entry k⟩
noncomputable def slices_IndexFunc_impl_Entry_impl_Entry.C (k : Nat) : Ctx := ⟨Tryz.prog, [(197, [impl_areAll_impl_Entry_1.sg k])], k, []⟩
theorem slices_IndexFunc_impl_Entry_impl_Entry.ev (k : Nat) (x : slices_IndexFunc_impl_Entry_impl_Entry.A.T) : evFunc (slices_IndexFunc_impl_Entry_impl_Entry.C k) slices_IndexFunc_impl_Entry_impl_Entry.ann Tryz.f199 slices_IndexFunc_impl_Entry_impl_Entry.A slices_IndexFunc_impl_Entry_impl_Entry.R x = slices_IndexFunc_impl_Entry_impl_Entry k x := by kernel_rfl
theorem slices_IndexFunc_impl_Entry_impl_Entry.ok {L : List (Nat × Obj)}  (k : Nat) : SigHolds Tryz.prog L 199 (slices_IndexFunc_impl_Entry_impl_Entry.sg k) :=
  sig_of_ev (C := slices_IndexFunc_impl_Entry_impl_Entry.C k) (holds_cons (allok_cons (impl_areAll_impl_Entry_1.ok k) allok_nil) holds_nil) (by kernel_rfl) Tryz.func199 (by kernel_rfl) slices_IndexFunc_impl_Entry_impl_Entry.ann slices_IndexFunc_impl_Entry_impl_Entry.A slices_IndexFunc_impl_Entry_impl_Entry.R (fun x y h => (slices_IndexFunc_impl_Entry_impl_Entry.ev k x).trans h) (by kernel_rfl)

/-! slices.ContainsFunc[[]loop.example/g00719/impl.Entry,loop.example/g00719/impl.Entry] -/
def slices_ContainsFunc_impl_Entry_impl_Entry.A : Sh := (.cons (.pur (.sl false (.cons (.int .i64) (.cons (.int .i64) .nil)))) (.cons (.fn (.func 197) 0 (.cons (.box (.cons (.fn (.func 190) 0 .nil) .nil)) .nil)) .nil))
def slices_ContainsFunc_impl_Entry_impl_Entry.R : Sh := (.cons (.pur .bool) .nil)
def slices_ContainsFunc_impl_Entry_impl_Entry.ann : Ann := { loops := [], joins := [], keys := [] }
noncomputable def slices_ContainsFunc_impl_Entry_impl_Entry (k : Nat) : ((List (Int × Int × Unit)) × (((Unit) × Unit) × Unit) × Unit) → Option ((Bool × Unit) × (Unit × (((Unit) × Unit) × Unit) × Unit)) := fun x => match x with
 | (s_, (((()), ()), ()), ()) =>
  bd k (slices_IndexFunc_impl_Entry_impl_Entry k (s_, (((()), ()), ()), ())) fun y1 =>
  some ((decide (y1.1.1 ≥ 0), ()), ((), (((()), ()), ()), ()))
noncomputable def slices_ContainsFunc_impl_Entry_impl_Entry.sg (k : Nat) : Sig := ⟨slices_ContainsFunc_impl_Entry_impl_Entry.A, slices_ContainsFunc_impl_Entry_impl_Entry.R, slices_ContainsFunc_impl_Entry_impl_Entry k⟩
noncomputable def slices_ContainsFunc_impl_Entry_impl_Entry.C (k : Nat) : Ctx := ⟨Tryz.prog, [(199, [slices_IndexFunc_impl_Entry_impl_Entry.sg k])], k, []⟩
theorem slices_ContainsFunc_impl_Entry_impl_Entry.ev (k : Nat) (x : slices_ContainsFunc_impl_Entry_impl_Entry.A.T) : evFunc (slices_ContainsFunc_impl_Entry_impl_Entry.C k) slices_ContainsFunc_impl_Entry_impl_Entry.ann Tryz.f196 slices_ContainsFunc_impl_Entry_impl_Entry.A slices_ContainsFunc_impl_Entry_impl_Entry.R x = slices_ContainsFunc_impl_Entry_impl_Entry k x := by kernel_rfl
theorem slices_ContainsFunc_impl_Entry_impl_Entry.ok {L : List (Nat × Obj)}  (k : Nat) : SigHolds Tryz.prog L 196 (slices_ContainsFunc_impl_Entry_impl_Entry.sg k) :=
  sig_of_ev (C := slices_ContainsFunc_impl_Entry_impl_Entry.C k) (holds_cons (allok_cons (slices_IndexFunc_impl_Entry_impl_Entry.ok k) allok_nil) holds_nil) (by kernel_rfl) Tryz.func196 (by kernel_rfl) slices_ContainsFunc_impl_Entry_impl_Entry.ann slices_ContainsFunc_impl_Entry_impl_Entry.A slices_ContainsFunc_impl_Entry_impl_Entry.R (fun x y h => (slices_ContainsFunc_impl_Entry_impl_Entry.ev k x).trans h) (by kernel_rfl)

end Go.Pev.F
