/-
  Printed by gen.py: what functions of the program compute, and that they do.
-/
import Derived.Test.YthjihnplkkhpmaaGreatDoorK06
set_option linter.unusedSimpArgs false
set_option linter.unusedVariables false
open Go.Proofs Go.Pev
namespace Go.Pev.F
set_option maxRecDepth 100000
set_option linter.unusedVariables false







/-! loop.example/g00719/laws.sameIvs -/
def laws_sameIvs.A : Sh := (.cons (.pur (.sl false (.cons (.int .i64) (.cons (.int .i64) .nil)))) (.cons (.pur (.sl false (.cons (.int .i64) (.cons (.int .i64) .nil)))) .nil))
def laws_sameIvs.R : Sh := (.cons (.pur .bool) .nil)
def laws_sameIvs.ann : Ann := { loops := [(0, [(0, (.pur (.sl false (.cons (.int .i64) (.cons (.int .i64) .nil))))), (1, (.pur (.sl false (.cons (.int .i64) (.cons (.int .i64) .nil))))), (5, (.pur (.int .i64)))])], joins := [], keys := [] }
noncomputable def laws_sameIvs.l0 (k : Nat)  (G0 : ((List (Int × Int × Unit)) × (List (Int × Int × Unit)) × Int × Unit) → Option ((Bool × Unit) × (Unit × Unit × Unit))) : ((List (Int × Int × Unit)) × (List (Int × Int × Unit)) × Int × Unit) → Option ((Bool × Unit) × (Unit × Unit × Unit)) := fun x => match x with
 | (a, b_, i, ()) =>
  br k (decide (i < (a.length : Int)))
  (br k (decide (0 ≤ i))
  (bd k (a[i.toNat]?) fun x1 =>
  br k (decide (0 ≤ i))
  (bd k (b_[i.toNat]?) fun x2 =>
  br k (!((x1.1 == x2.1) && ((x1.2.1 == x2.2.1) && true)))
  (some ((false, ()), ((), (), ())))
  (G0 (a, b_, IntKind.wrap .i64 (i + 1), ())))
  none)
  none)
  (some ((true, ()), ((), (), ())))
noncomputable def laws_sameIvs (k : Nat) : ((List (Int × Int × Unit)) × (List (Int × Int × Unit)) × Unit) → Option ((Bool × Unit) × (Unit × Unit × Unit)) := fun x => match x with
 | (a, b_, ()) =>
  br k ((a.length : Int) != (b_.length : Int))
  (some ((false, ()), ((), (), ())))
  (iter (laws_sameIvs.l0 k) k (a, b_, 0, ()))
noncomputable def laws_sameIvs.sg (k : Nat) : Sig := ⟨laws_sameIvs.A, laws_sameIvs.R, laws_sameIvs k⟩
noncomputable def laws_sameIvs.C (k : Nat) : Ctx := ⟨Tryz.prog, [], k, []⟩
theorem laws_sameIvs.ev (k : Nat) (x : laws_sameIvs.A.T) : evFunc (laws_sameIvs.C k) laws_sameIvs.ann Tryz.f50 laws_sameIvs.A laws_sameIvs.R x = laws_sameIvs k x := by kernel_rfl
theorem laws_sameIvs.ok {L : List (Nat × Obj)}  (k : Nat) : SigHolds Tryz.prog L 50 (laws_sameIvs.sg k) :=
  sig_of_ev (C := laws_sameIvs.C k) holds_nil (by kernel_rfl) Tryz.func50 (by kernel_rfl) laws_sameIvs.ann laws_sameIvs.A laws_sameIvs.R (fun x y h => (laws_sameIvs.ev k x).trans h) (by kernel_rfl)

/-! loop.example/g00719/laws.sameEnv -/
def laws_sameEnv.A : Sh := (.cons (.pur (.cons .bool (.cons (.sl false (.cons (.int .i64) (.cons (.int .i64) .nil))) (.cons (.sl false (.cons (.int .i64) (.cons (.int .i64) .nil))) .nil)))) (.cons (.pur (.cons .bool (.cons (.sl false (.cons (.int .i64) (.cons (.int .i64) .nil))) (.cons (.sl false (.cons (.int .i64) (.cons (.int .i64) .nil))) .nil)))) .nil))
def laws_sameEnv.R : Sh := (.cons (.pur .bool) .nil)
def laws_sameEnv.ann : Ann := { loops := [], joins := [(1, [(4, .bool)])], keys := [] }
noncomputable def laws_sameEnv (k : Nat) : ((Bool × (List (Int × Int × Unit)) × (List (Int × Int × Unit)) × Unit) × (Bool × (List (Int × Int × Unit)) × (List (Int × Int × Unit)) × Unit) × Unit) → Option ((Bool × Unit) × (Unit × Unit × Unit)) := fun x => match x with
 | (a, b_, ()) =>
  (br k (a.1 == b_.1)
  (bd k (laws_sameIvs k (a.2.1, b_.2.1, ())) fun y1 =>
  br k (y1.1.1)
  (bd k (laws_sameIvs k (a.2.2.1, b_.2.2.1, ())) fun y2 =>
  some (y2.1.1, ()))
  (some (false, ())))
  (some (false, ())) : Option (Bool × Unit)).bind fun j3 =>
  some ((j3.1, ()), ((), (), ()))
noncomputable def laws_sameEnv.sg (k : Nat) : Sig := ⟨laws_sameEnv.A, laws_sameEnv.R, laws_sameEnv k⟩
noncomputable def laws_sameEnv.C (k : Nat) : Ctx := ⟨Tryz.prog, [(50, [laws_sameIvs.sg k])], k, []⟩
theorem laws_sameEnv.ev (k : Nat) (x : laws_sameEnv.A.T) : evFunc (laws_sameEnv.C k) laws_sameEnv.ann Tryz.f15 laws_sameEnv.A laws_sameEnv.R x = laws_sameEnv k x := by kernel_rfl
theorem laws_sameEnv.ok {L : List (Nat × Obj)}  (k : Nat) : SigHolds Tryz.prog L 15 (laws_sameEnv.sg k) :=
  sig_of_ev (C := laws_sameEnv.C k) (holds_cons (allok_cons (laws_sameIvs.ok k) allok_nil) holds_nil) (by kernel_rfl) Tryz.func15 (by kernel_rfl) laws_sameEnv.ann laws_sameEnv.A laws_sameEnv.R (fun x y h => (laws_sameEnv.ev k x).trans h) (by kernel_rfl)




/-! loop.example/g00719/spec.l8Size -/
def spec_l8Size.A : Sh := (.cons (.pur (.cons (.sl false .str) (.cons (.sl false .str) (.cons (.sl false (.cons .str (.cons (.int .i64) .nil))) .nil)))) .nil)
def spec_l8Size.R : Sh := (.cons (.pur (.int .i64)) .nil)
def spec_l8Size.ann : Ann := { loops := [], joins := [], keys := [] }
noncomputable def spec_l8Size (k : Nat) : (((List (List UInt8)) × (List (List UInt8)) × (List ((List UInt8) × Int × Unit)) × Unit) × Unit) → Option ((Int × Unit) × (Unit × Unit)) := fun x => match x with
 | (d_, ()) =>
  br k (decide (0 ≤ (IntKind.wrap .u64 (d_.2.1.length : Int))))
  (some ((IntKind.wrap .i64 (1 * 2 ^ (min (IntKind.wrap .u64 (d_.2.1.length : Int)).toNat 64)), ()), ((), ())))
  none
noncomputable def spec_l8Size.sg (k : Nat) : Sig := ⟨spec_l8Size.A, spec_l8Size.R, spec_l8Size k⟩
noncomputable def spec_l8Size.C (k : Nat) : Ctx := ⟨Tryz.prog, [], k, []⟩
theorem spec_l8Size.ev (k : Nat) (x : spec_l8Size.A.T) : evFunc (spec_l8Size.C k) spec_l8Size.ann Tryz.f60 spec_l8Size.A spec_l8Size.R x = spec_l8Size k x := by kernel_rfl
theorem spec_l8Size.ok {L : List (Nat × Obj)}  (k : Nat) : SigHolds Tryz.prog L 60 (spec_l8Size.sg k) :=
  sig_of_ev (C := spec_l8Size.C k) holds_nil (by kernel_rfl) Tryz.func60 (by kernel_rfl) spec_l8Size.ann spec_l8Size.A spec_l8Size.R (fun x y h => (spec_l8Size.ev k x).trans h) (by kernel_rfl)

/-! (*loop.example/g00719/spec.l1Rd).table -/
def spec_l1Rd_table.A : Sh := (.cons (.box (.cons (.pur (.sl false (.int .u8))) (.cons (.pur (.int .i64)) .nil))) (.cons (.pur (.cons (.sl false .str) (.cons (.sl false .str) (.cons (.sl false (.cons .str (.cons (.int .i64) .nil))) .nil)))) .nil))
def spec_l1Rd_table.R : Sh := (.cons (.rows (.cons (.pur .bool) (.cons (.own (.cons (.int .i64) (.cons (.int .i64) .nil))) (.cons (.own (.cons (.int .i64) (.cons (.int .i64) .nil))) .nil)))) .nil)
def spec_l1Rd_table.ann : Ann := { loops := [(0, [(0, (.box (.cons (.pur (.sl false (.int .u8))) (.cons (.pur (.int .i64)) .nil)))), (3, (.box (.cons (.pur (.sl false .str)) (.cons (.pur (.sl false .str)) (.cons (.pur (.sl false (.cons .str (.cons (.int .i64) .nil)))) .nil))))), (5, (.rows (.cons (.pur .bool) (.cons (.own (.cons (.int .i64) (.cons (.int .i64) .nil))) (.cons (.own (.cons (.int .i64) (.cons (.int .i64) .nil))) .nil))))), (6, (.pur (.int .i64)))])], joins := [], keys := [] }
noncomputable def spec_l1Rd_table.l0 (k : Nat)  (G0 : (((List Int) × Int × Unit) × ((List (List UInt8)) × (List (List UInt8)) × (List ((List UInt8) × Int × Unit)) × Unit) × (List (Bool × (List (Int × Int × Unit)) × (List (Int × Int × Unit)) × Unit)) × Int × Unit) → Option (((List (Bool × (List (Int × Int × Unit)) × (List (Int × Int × Unit)) × Unit)) × Unit) × (((List Int) × Int × Unit) × Unit × Unit))) : (((List Int) × Int × Unit) × ((List (List UInt8)) × (List (List UInt8)) × (List ((List UInt8) × Int × Unit)) × Unit) × (List (Bool × (List (Int × Int × Unit)) × (List (Int × Int × Unit)) × Unit)) × Int × Unit) → Option (((List (Bool × (List (Int × Int × Unit)) × (List (Int × Int × Unit)) × Unit)) × Unit) × (((List Int) × Int × Unit) × Unit × Unit)) := fun x => match x with
 | ((r_0, r_1, ()), (d__0, d__1, d__2, ()), out_, i, ()) =>
  bd k (spec_l8Size k ((d__0, d__1, d__2, ()), ())) fun y1 =>
  br k (decide (i < y1.1.1))
  (bd k (spec_l1Rd_env k ((r_0, r_1, ()), (d__0, d__1, d__2, ()), ())) fun y2 =>
  br k (decide (i > 0))
  (bd k (spec_l1Rd_once k ((y2.2.1.1, y2.2.1.2.1, ()), 2, ())) fun y3 =>
  br k (y3.1.1)
  (bd k (spec_l1Rd_below k ((y3.2.1.1, y3.2.1.2.1, ()), i, ())) fun y4 =>
  br k (decide (0 ≤ y4.1.1 ∧ y4.1.1 < (out_.length : Int)))
  (bd k (out_[y4.1.1.toNat]?) fun x5 =>
  bd k (spec_l6Copy k ((x5.1, x5.2.1, x5.2.2.1, ()), ())) fun y6 =>
  bd k (spec_l1Rd_once k ((y4.2.1.1, y4.2.1.2.1, ()), 6, ())) fun y7 =>
  br k (y7.1.1)
  (br k (decide (((out_.set y4.1.1.toNat (x5.1, x5.2.1, x5.2.2.1, ())).length + ([(false, [], [], ())] : List (Bool × (List (Int × Int × Unit)) × (List (Int × Int × Unit)) × Unit)).length) * 56 ≤ maxBytes))
  (G0 ((y7.2.1.1, y7.2.1.2.1, ()), (d__0, d__1, d__2, ()), (out_.set y4.1.1.toNat (x5.1, x5.2.1, x5.2.2.1, ())) ++ ([(false, [], [], ())] : List (Bool × (List (Int × Int × Unit)) × (List (Int × Int × Unit)) × Unit)), IntKind.wrap .i64 (i + 1), ()))
  none)
  (br k (decide (((out_.set y4.1.1.toNat (x5.1, x5.2.1, x5.2.2.1, ())).length + ([(y6.1.1.1, y6.1.1.2.1, y6.1.1.2.2.1, ())] : List (Bool × (List (Int × Int × Unit)) × (List (Int × Int × Unit)) × Unit)).length) * 56 ≤ maxBytes))
  (G0 ((y7.2.1.1, y7.2.1.2.1, ()), (d__0, d__1, d__2, ()), (out_.set y4.1.1.toNat (x5.1, x5.2.1, x5.2.2.1, ())) ++ ([(y6.1.1.1, y6.1.1.2.1, y6.1.1.2.2.1, ())] : List (Bool × (List (Int × Int × Unit)) × (List (Int × Int × Unit)) × Unit)), IntKind.wrap .i64 (i + 1), ()))
  none))
  none)
  (bd k (spec_l1Rd_once k ((y3.2.1.1, y3.2.1.2.1, ()), 6, ())) fun y8 =>
  br k (y8.1.1)
  (br k (decide ((out_.length + ([(false, [], [], ())] : List (Bool × (List (Int × Int × Unit)) × (List (Int × Int × Unit)) × Unit)).length) * 56 ≤ maxBytes))
  (G0 ((y8.2.1.1, y8.2.1.2.1, ()), (d__0, d__1, d__2, ()), out_ ++ ([(false, [], [], ())] : List (Bool × (List (Int × Int × Unit)) × (List (Int × Int × Unit)) × Unit)), IntKind.wrap .i64 (i + 1), ()))
  none)
  (br k (decide ((out_.length + ([(y2.1.1.1, y2.1.1.2.1, y2.1.1.2.2.1, ())] : List (Bool × (List (Int × Int × Unit)) × (List (Int × Int × Unit)) × Unit)).length) * 56 ≤ maxBytes))
  (G0 ((y8.2.1.1, y8.2.1.2.1, ()), (d__0, d__1, d__2, ()), out_ ++ ([(y2.1.1.1, y2.1.1.2.1, y2.1.1.2.2.1, ())] : List (Bool × (List (Int × Int × Unit)) × (List (Int × Int × Unit)) × Unit)), IntKind.wrap .i64 (i + 1), ()))
  none)))
  (bd k (spec_l1Rd_once k ((y2.2.1.1, y2.2.1.2.1, ()), 6, ())) fun y9 =>
  br k (y9.1.1)
  (br k (decide ((out_.length + ([(false, [], [], ())] : List (Bool × (List (Int × Int × Unit)) × (List (Int × Int × Unit)) × Unit)).length) * 56 ≤ maxBytes))
  (G0 ((y9.2.1.1, y9.2.1.2.1, ()), (d__0, d__1, d__2, ()), out_ ++ ([(false, [], [], ())] : List (Bool × (List (Int × Int × Unit)) × (List (Int × Int × Unit)) × Unit)), IntKind.wrap .i64 (i + 1), ()))
  none)
  (br k (decide ((out_.length + ([(y2.1.1.1, y2.1.1.2.1, y2.1.1.2.2.1, ())] : List (Bool × (List (Int × Int × Unit)) × (List (Int × Int × Unit)) × Unit)).length) * 56 ≤ maxBytes))
  (G0 ((y9.2.1.1, y9.2.1.2.1, ()), (d__0, d__1, d__2, ()), out_ ++ ([(y2.1.1.1, y2.1.1.2.1, y2.1.1.2.2.1, ())] : List (Bool × (List (Int × Int × Unit)) × (List (Int × Int × Unit)) × Unit)), IntKind.wrap .i64 (i + 1), ()))
  none)))
  (some ((out_, ()), ((r_0, r_1, ()), (), ())))
noncomputable def spec_l1Rd_table (k : Nat) : (((List Int) × Int × Unit) × ((List (List UInt8)) × (List (List UInt8)) × (List ((List UInt8) × Int × Unit)) × Unit) × Unit) → Option (((List (Bool × (List (Int × Int × Unit)) × (List (Int × Int × Unit)) × Unit)) × Unit) × (((List Int) × Int × Unit) × Unit × Unit)) := fun x => match x with
 | ((r_0, r_1, ()), d_, ()) =>
  iter (spec_l1Rd_table.l0 k) k ((r_0, r_1, ()), (d_.1, d_.2.1, d_.2.2.1, ()), ([] : List (Bool × (List (Int × Int × Unit)) × (List (Int × Int × Unit)) × Unit)), 0, ())
noncomputable def spec_l1Rd_table.sg (k : Nat) : Sig := ⟨spec_l1Rd_table.A, spec_l1Rd_table.R, spec_l1Rd_table k⟩
noncomputable def spec_l1Rd_table.C (k : Nat) : Ctx := ⟨Tryz.prog, [(60, [spec_l8Size.sg k]), (30, [spec_l1Rd_env.sg k]), (31, [spec_l1Rd_once.sg k]), (70, [spec_l1Rd_below.sg k]), (72, [spec_l6Copy.sg k])], k, [(8, (.cons (.pur .bool) (.cons (.own (.cons (.int .i64) (.cons (.int .i64) .nil))) (.cons (.own (.cons (.int .i64) (.cons (.int .i64) .nil))) .nil)))), (36, (.cons (.pur .bool) (.cons (.own (.cons (.int .i64) (.cons (.int .i64) .nil))) (.cons (.own (.cons (.int .i64) (.cons (.int .i64) .nil))) .nil))))]⟩
theorem spec_l1Rd_table.ev (k : Nat) (x : spec_l1Rd_table.A.T) : evFunc (spec_l1Rd_table.C k) spec_l1Rd_table.ann Tryz.f92 spec_l1Rd_table.A spec_l1Rd_table.R x = spec_l1Rd_table k x := by kernel_rfl
theorem spec_l1Rd_table.ok {L : List (Nat × Obj)}  (k : Nat) : SigHolds Tryz.prog L 92 (spec_l1Rd_table.sg k) :=
  sig_of_ev (C := spec_l1Rd_table.C k) (holds_cons (allok_cons (spec_l8Size.ok k) allok_nil) (holds_cons (allok_cons (spec_l1Rd_env.ok k) allok_nil) (holds_cons (allok_cons (spec_l1Rd_once.ok k) allok_nil) (holds_cons (allok_cons (spec_l1Rd_below.ok k) allok_nil) (holds_cons (allok_cons (spec_l6Copy.ok k) allok_nil) holds_nil))))) (by kernel_rfl) Tryz.func92 (by kernel_rfl) spec_l1Rd_table.ann spec_l1Rd_table.A spec_l1Rd_table.R (fun x y h => (spec_l1Rd_table.ev k x).trans h) (by kernel_rfl)

end Go.Pev.F
