/-
  Printed by gen.py: what functions of the program compute, and that they do.
-/
import Derived.Test.YthjihnplkkhpmaaGreatDoorProg
import Derived.Test.YthjihnplkkhpmaaGreatDoorK02
import Derived.Test.YthjihnplkkhpmaaGreatDoorK03
import Derived.KernelRfl
set_option linter.unusedSimpArgs false
set_option linter.unusedVariables false
open Go.Proofs Go.Pev
namespace Go.Pev.F
set_option maxRecDepth 100000
set_option linter.unusedVariables false

/-! loop.example/g00719/laws.big -/
def laws_big.A : Sh := (.cons (.pur (.sl false (.int .u8))) .nil)
def laws_big.R : Sh := (.cons (.pur .bool) .nil)
def laws_big.ann : Ann := { loops := [], joins := [], keys := [] }
noncomputable def laws_big (k : Nat) : ((List Int) × Unit) → Option ((Bool × Unit) × (Unit × Unit)) := fun x => match x with
 | (code, ()) =>
  some ((decide ((code.length : Int) > 1048576), ()), ((), ()))
noncomputable def laws_big.sg (k : Nat) : Sig := ⟨laws_big.A, laws_big.R, laws_big k⟩
noncomputable def laws_big.C (k : Nat) : Ctx := ⟨Tryz.prog, [], k, []⟩
theorem laws_big.ev (k : Nat) (x : laws_big.A.T) : evFunc (laws_big.C k) laws_big.ann Tryz.f6 laws_big.A laws_big.R x = laws_big k x := by kernel_rfl
theorem laws_big.ok {L : List (Nat × Obj)}  (k : Nat) : SigHolds Tryz.prog L 6 (laws_big.sg k) :=
  sig_of_ev (C := laws_big.C k) holds_nil (by kernel_rfl) Tryz.func6 (by kernel_rfl) laws_big.ann laws_big.A laws_big.R (fun x y h => (laws_big.ev k x).trans h) (by kernel_rfl)

/-! loop.example/g00719/spec.l1Open -/
def spec_l1Open.A : Sh := (.cons (.pur (.sl false (.int .u8))) .nil)
def spec_l1Open.R : Sh := (.cons (.box (.cons (.pur (.sl false (.int .u8))) (.cons (.pur (.int .i64)) .nil))) .nil)
def spec_l1Open.ann : Ann := { loops := [], joins := [], keys := [] }
noncomputable def spec_l1Open (k : Nat) : ((List Int) × Unit) → Option ((((List Int) × Int × Unit) × Unit) × (Unit × Unit)) := fun x => match x with
 | (code, ()) =>
  some (((code, 0, ()), ()), ((), ()))
noncomputable def spec_l1Open.sg (k : Nat) : Sig := ⟨spec_l1Open.A, spec_l1Open.R, spec_l1Open k⟩
noncomputable def spec_l1Open.C (k : Nat) : Ctx := ⟨Tryz.prog, [], k, []⟩
theorem spec_l1Open.ev (k : Nat) (x : spec_l1Open.A.T) : evFunc (spec_l1Open.C k) spec_l1Open.ann Tryz.f28 spec_l1Open.A spec_l1Open.R x = spec_l1Open k x := by kernel_rfl
theorem spec_l1Open.ok {L : List (Nat × Obj)}  (k : Nat) : SigHolds Tryz.prog L 28 (spec_l1Open.sg k) :=
  sig_of_ev (C := spec_l1Open.C k) holds_nil (by kernel_rfl) Tryz.func28 (by kernel_rfl) spec_l1Open.ann spec_l1Open.A spec_l1Open.R (fun x y h => (spec_l1Open.ev k x).trans h) (by kernel_rfl)

/-! (*loop.example/g00719/spec.l1Rd).next -/
def spec_l1Rd_next.A : Sh := (.cons (.box (.cons (.pur (.sl false (.int .u8))) (.cons (.pur (.int .i64)) .nil))) .nil)
def spec_l1Rd_next.R : Sh := (.cons (.pur (.int .i64)) .nil)
def spec_l1Rd_next.ann : Ann := { loops := [], joins := [], keys := [] }
noncomputable def spec_l1Rd_next (k : Nat) : (((List Int) × Int × Unit) × Unit) → Option ((Int × Unit) × (((List Int) × Int × Unit) × Unit)) := fun x => match x with
 | ((r_0, r_1, ()), ()) =>
  br k (decide (r_1 ≥ (r_0.length : Int)))
  (some ((0, ()), ((r_0, r_1, ()), ())))
  (br k (decide (0 ≤ (IntKind.wrap .i64 ((IntKind.wrap .i64 (r_1 + 1)) - 1))))
  (bd k (r_0[(IntKind.wrap .i64 ((IntKind.wrap .i64 (r_1 + 1)) - 1)).toNat]?) fun x1 =>
  some ((IntKind.wrap .i64 x1, ()), ((r_0, IntKind.wrap .i64 (r_1 + 1), ()), ())))
  none)
noncomputable def spec_l1Rd_next.sg (k : Nat) : Sig := ⟨spec_l1Rd_next.A, spec_l1Rd_next.R, spec_l1Rd_next k⟩
noncomputable def spec_l1Rd_next.C (k : Nat) : Ctx := ⟨Tryz.prog, [], k, []⟩
theorem spec_l1Rd_next.ev (k : Nat) (x : spec_l1Rd_next.A.T) : evFunc (spec_l1Rd_next.C k) spec_l1Rd_next.ann Tryz.f107 spec_l1Rd_next.A spec_l1Rd_next.R x = spec_l1Rd_next k x := by kernel_rfl
theorem spec_l1Rd_next.ok {L : List (Nat × Obj)}  (k : Nat) : SigHolds Tryz.prog L 107 (spec_l1Rd_next.sg k) :=
  sig_of_ev (C := spec_l1Rd_next.C k) holds_nil (by kernel_rfl) Tryz.func107 (by kernel_rfl) spec_l1Rd_next.ann spec_l1Rd_next.A spec_l1Rd_next.R (fun x y h => (spec_l1Rd_next.ev k x).trans h) (by kernel_rfl)

/-! (*loop.example/g00719/spec.l1Rd).below -/
def spec_l1Rd_below.A : Sh := (.cons (.box (.cons (.pur (.sl false (.int .u8))) (.cons (.pur (.int .i64)) .nil))) (.cons (.pur (.int .i64)) .nil))
def spec_l1Rd_below.R : Sh := (.cons (.pur (.int .i64)) .nil)
def spec_l1Rd_below.ann : Ann := { loops := [], joins := [], keys := [] }
noncomputable def spec_l1Rd_below (k : Nat) : (((List Int) × Int × Unit) × Int × Unit) → Option ((Int × Unit) × (((List Int) × Int × Unit) × Unit × Unit)) := fun x => match x with
 | ((r_0, r_1, ()), n, ()) =>
  br k (decide (n ≤ 1))
  (some ((0, ()), ((r_0, r_1, ()), (), ())))
  (br k (decide (n ≤ 256))
  (bd k (spec_l1Rd_next k ((r_0, r_1, ()), ())) fun y1 =>
  br k (!decide (n = 0))
  (some ((y1.1.1.tmod n, ()), ((y1.2.1.1, y1.2.1.2.1, ()), (), ())))
  none)
  (bd k (spec_l1Rd_next k ((r_0, r_1, ()), ())) fun y2 =>
  bd k (spec_l1Rd_next k ((y2.2.1.1, y2.2.1.2.1, ()), ())) fun y3 =>
  br k (!decide (n = 0))
  (some (((IntKind.wrap .i64 ((IntKind.wrap .i64 (y2.1.1 * 256)) + y3.1.1)).tmod n, ()), ((y3.2.1.1, y3.2.1.2.1, ()), (), ())))
  none))
noncomputable def spec_l1Rd_below.sg (k : Nat) : Sig := ⟨spec_l1Rd_below.A, spec_l1Rd_below.R, spec_l1Rd_below k⟩
noncomputable def spec_l1Rd_below.C (k : Nat) : Ctx := ⟨Tryz.prog, [(107, [spec_l1Rd_next.sg k])], k, []⟩
theorem spec_l1Rd_below.ev (k : Nat) (x : spec_l1Rd_below.A.T) : evFunc (spec_l1Rd_below.C k) spec_l1Rd_below.ann Tryz.f70 spec_l1Rd_below.A spec_l1Rd_below.R x = spec_l1Rd_below k x := by kernel_rfl
theorem spec_l1Rd_below.ok {L : List (Nat × Obj)}  (k : Nat) : SigHolds Tryz.prog L 70 (spec_l1Rd_below.sg k) :=
  sig_of_ev (C := spec_l1Rd_below.C k) (holds_cons (allok_cons (spec_l1Rd_next.ok k) allok_nil) holds_nil) (by kernel_rfl) Tryz.func70 (by kernel_rfl) spec_l1Rd_below.ann spec_l1Rd_below.A spec_l1Rd_below.R (fun x y h => (spec_l1Rd_below.ev k x).trans h) (by kernel_rfl)

/-! (*loop.example/g00719/spec.l1Rd).once -/
def spec_l1Rd_once.A : Sh := (.cons (.box (.cons (.pur (.sl false (.int .u8))) (.cons (.pur (.int .i64)) .nil))) (.cons (.pur (.int .i64)) .nil))
def spec_l1Rd_once.R : Sh := (.cons (.pur .bool) .nil)
def spec_l1Rd_once.ann : Ann := { loops := [], joins := [], keys := [] }
noncomputable def spec_l1Rd_once (k : Nat) : (((List Int) × Int × Unit) × Int × Unit) → Option ((Bool × Unit) × (((List Int) × Int × Unit) × Unit × Unit)) := fun x => match x with
 | ((r_0, r_1, ()), n, ()) =>
  bd k (spec_l1Rd_below k ((r_0, r_1, ()), n, ())) fun y1 =>
  some ((y1.1.1 == (IntKind.wrap .i64 (n - 1)), ()), ((y1.2.1.1, y1.2.1.2.1, ()), (), ()))
noncomputable def spec_l1Rd_once.sg (k : Nat) : Sig := ⟨spec_l1Rd_once.A, spec_l1Rd_once.R, spec_l1Rd_once k⟩
noncomputable def spec_l1Rd_once.C (k : Nat) : Ctx := ⟨Tryz.prog, [(70, [spec_l1Rd_below.sg k])], k, []⟩
theorem spec_l1Rd_once.ev (k : Nat) (x : spec_l1Rd_once.A.T) : evFunc (spec_l1Rd_once.C k) spec_l1Rd_once.ann Tryz.f31 spec_l1Rd_once.A spec_l1Rd_once.R x = spec_l1Rd_once k x := by kernel_rfl
theorem spec_l1Rd_once.ok {L : List (Nat × Obj)}  (k : Nat) : SigHolds Tryz.prog L 31 (spec_l1Rd_once.sg k) :=
  sig_of_ev (C := spec_l1Rd_once.C k) (holds_cons (allok_cons (spec_l1Rd_below.ok k) allok_nil) holds_nil) (by kernel_rfl) Tryz.func31 (by kernel_rfl) spec_l1Rd_once.ann spec_l1Rd_once.A spec_l1Rd_once.R (fun x y h => (spec_l1Rd_once.ev k x).trans h) (by kernel_rfl)

/-! (*loop.example/g00719/spec.l1Rd).decl -/
def spec_l1Rd_decl.A : Sh := (.cons (.box (.cons (.pur (.sl false (.int .u8))) (.cons (.pur (.int .i64)) .nil))) .nil)
def spec_l1Rd_decl.R : Sh := (.cons (.pur (.cons (.sl false .str) (.cons (.sl false .str) (.cons (.sl false (.cons .str (.cons (.int .i64) .nil))) .nil)))) .nil)
def spec_l1Rd_decl.ann : Ann := { loops := [], joins := [], keys := [(1, [([4], true), ([], false), ([0, 6], true), ([], false), ([4], false), ([9], true), ([], false), ([0, 11], true), ([], false), ([9], false), ([4, 9], false), ([3], true), ([3, 4, 9], true)])] }
noncomputable def spec_l1Rd_decl (k : Nat) : (((List Int) × Int × Unit) × Unit) → Option ((((List (List UInt8)) × (List (List UInt8)) × (List ((List UInt8) × Int × Unit)) × Unit) × Unit) × (((List Int) × Int × Unit) × Unit)) := fun x => match x with
 | ((r_0, r_1, ()), ()) =>
  bd k (spec_l1Rd_below k ((r_0, r_1, ()), 4, ())) fun y1 =>
  br k (decide (0 ≤ (IntKind.wrap .i64 (1 + y1.1.1)) ∧ (IntKind.wrap .i64 (1 + y1.1.1)) ≤ (([[120], [121], [105], [110], [107]] : List (List UInt8)).length : Int)))
  (bd k (spec_l1Rd_below k ((y1.2.1.1, y1.2.1.2.1, ()), 2, ())) fun y2 =>
  br k (decide (0 ≤ (IntKind.wrap .i64 (1 + y2.1.1)) ∧ (IntKind.wrap .i64 (1 + y2.1.1)) ≤ (([[98], [99], [102]] : List (List UInt8)).length : Int)))
  (bd k (spec_l1Rd_once k ((y2.2.1.1, y2.2.1.2.1, ()), 3, ())) fun y3 =>
  br k (y3.1.1)
  (bd k (spec_l1Rd_below k ((y3.2.1.1, y3.2.1.2.1, ()), 4, ())) fun y4 =>
  br k (decide (0 ≤ y4.1.1 ∧ y4.1.1 ≤ (([[98], [99], [102]] : List (List UInt8)).length : Int)))
  (bd k (spec_l1Rd_once k ((y4.2.1.1, y4.2.1.2.1, ()), 2, ())) fun y5 =>
  br k (y5.1.1)
  (bd k (spec_l1Rd_below k ((y5.2.1.1, y5.2.1.2.1, ()), 6, ())) fun y6 =>
  some (((subL ([[120], [121], [105], [110], [107]] : List (List UInt8)) ((0 : Int).toNat) ((IntKind.wrap .i64 (1 + y1.1.1)).toNat - (0 : Int).toNat), subL ([[98], [99], [102]] : List (List UInt8)) ((0 : Int).toNat) (y4.1.1.toNat - (0 : Int).toNat), ([([97], IntKind.wrap .i64 (1 + y6.1.1), ())] : List ((List UInt8) × Int × Unit)), ()), ()), ((y6.2.1.1, y6.2.1.2.1, ()), ())))
  (some (((subL ([[120], [121], [105], [110], [107]] : List (List UInt8)) ((0 : Int).toNat) ((IntKind.wrap .i64 (1 + y1.1.1)).toNat - (0 : Int).toNat), subL ([[98], [99], [102]] : List (List UInt8)) ((0 : Int).toNat) (y4.1.1.toNat - (0 : Int).toNat), [], ()), ()), ((y5.2.1.1, y5.2.1.2.1, ()), ()))))
  none)
  (bd k (spec_l1Rd_once k ((y3.2.1.1, y3.2.1.2.1, ()), 2, ())) fun y7 =>
  br k (y7.1.1)
  (bd k (spec_l1Rd_below k ((y7.2.1.1, y7.2.1.2.1, ()), 6, ())) fun y8 =>
  some (((subL ([[120], [121], [105], [110], [107]] : List (List UInt8)) ((0 : Int).toNat) ((IntKind.wrap .i64 (1 + y1.1.1)).toNat - (0 : Int).toNat), subL ([[98], [99], [102]] : List (List UInt8)) ((0 : Int).toNat) ((IntKind.wrap .i64 (1 + y2.1.1)).toNat - (0 : Int).toNat), ([([97], IntKind.wrap .i64 (1 + y8.1.1), ())] : List ((List UInt8) × Int × Unit)), ()), ()), ((y8.2.1.1, y8.2.1.2.1, ()), ())))
  (some (((subL ([[120], [121], [105], [110], [107]] : List (List UInt8)) ((0 : Int).toNat) ((IntKind.wrap .i64 (1 + y1.1.1)).toNat - (0 : Int).toNat), subL ([[98], [99], [102]] : List (List UInt8)) ((0 : Int).toNat) ((IntKind.wrap .i64 (1 + y2.1.1)).toNat - (0 : Int).toNat), [], ()), ()), ((y7.2.1.1, y7.2.1.2.1, ()), ())))))
  none)
  none
noncomputable def spec_l1Rd_decl.sg (k : Nat) : Sig := ⟨spec_l1Rd_decl.A, spec_l1Rd_decl.R, spec_l1Rd_decl k⟩
noncomputable def spec_l1Rd_decl.C (k : Nat) : Ctx := ⟨Tryz.prog, [(70, [spec_l1Rd_below.sg k]), (31, [spec_l1Rd_once.sg k])], k, []⟩
theorem spec_l1Rd_decl.ev (k : Nat) (x : spec_l1Rd_decl.A.T) : evFunc (spec_l1Rd_decl.C k) spec_l1Rd_decl.ann Tryz.f29 spec_l1Rd_decl.A spec_l1Rd_decl.R x = spec_l1Rd_decl k x := by kernel_rfl
theorem spec_l1Rd_decl.ok {L : List (Nat × Obj)}  (k : Nat) : SigHolds Tryz.prog L 29 (spec_l1Rd_decl.sg k) :=
  sig_of_ev (C := spec_l1Rd_decl.C k) (holds_cons (allok_cons (spec_l1Rd_below.ok k) allok_nil) (holds_cons (allok_cons (spec_l1Rd_once.ok k) allok_nil) holds_nil)) (by kernel_rfl) Tryz.func29 (by kernel_rfl) spec_l1Rd_decl.ann spec_l1Rd_decl.A spec_l1Rd_decl.R (fun x y h => (spec_l1Rd_decl.ev k x).trans h) (by kernel_rfl)

/-! (*loop.example/g00719/spec.l1Rd).word -/
def spec_l1Rd_word.A : Sh := (.cons (.box (.cons (.pur (.sl false (.int .u8))) (.cons (.pur (.int .i64)) .nil))) .nil)
def spec_l1Rd_word.R : Sh := (.cons (.pur (.int .u64)) .nil)
def spec_l1Rd_word.ann : Ann := { loops := [(0, [(0, (.box (.cons (.pur (.sl false (.int .u8))) (.cons (.pur (.int .i64)) .nil)))), (3, (.pur (.int .u64))), (4, (.pur (.int .i64)))])], joins := [], keys := [] }
noncomputable def spec_l1Rd_word.l0 (k : Nat)  (G0 : (((List Int) × Int × Unit) × Int × Int × Unit) → Option ((Int × Unit) × (((List Int) × Int × Unit) × Unit))) : (((List Int) × Int × Unit) × Int × Int × Unit) → Option ((Int × Unit) × (((List Int) × Int × Unit) × Unit)) := fun x => match x with
 | ((r_0, r_1, ()), x_, i, ()) =>
  br k (decide (i < 8))
  (br k (decide (0 ≤ (8 : Int)))
  (bd k (spec_l1Rd_next k ((r_0, r_1, ()), ())) fun y1 =>
  G0 ((y1.2.1.1, y1.2.1.2.1, ()), IntKind.wrap .u64 (((BitVec.ofInt 64 (IntKind.wrap .u64 (x_ * 2 ^ (min (8 : Int).toNat 64))) ||| BitVec.ofInt 64 (IntKind.wrap .u64 y1.1.1)).toNat : Int)), IntKind.wrap .i64 (i + 1), ()))
  none)
  (some ((x_, ()), ((r_0, r_1, ()), ())))
noncomputable def spec_l1Rd_word (k : Nat) : (((List Int) × Int × Unit) × Unit) → Option ((Int × Unit) × (((List Int) × Int × Unit) × Unit)) := fun x => match x with
 | ((r_0, r_1, ()), ()) =>
  iter (spec_l1Rd_word.l0 k) k ((r_0, r_1, ()), 0, 0, ())
noncomputable def spec_l1Rd_word.sg (k : Nat) : Sig := ⟨spec_l1Rd_word.A, spec_l1Rd_word.R, spec_l1Rd_word k⟩
noncomputable def spec_l1Rd_word.C (k : Nat) : Ctx := ⟨Tryz.prog, [(107, [spec_l1Rd_next.sg k])], k, []⟩
theorem spec_l1Rd_word.ev (k : Nat) (x : spec_l1Rd_word.A.T) : evFunc (spec_l1Rd_word.C k) spec_l1Rd_word.ann Tryz.f141 spec_l1Rd_word.A spec_l1Rd_word.R x = spec_l1Rd_word k x := by kernel_rfl
theorem spec_l1Rd_word.ok {L : List (Nat × Obj)}  (k : Nat) : SigHolds Tryz.prog L 141 (spec_l1Rd_word.sg k) :=
  sig_of_ev (C := spec_l1Rd_word.C k) (holds_cons (allok_cons (spec_l1Rd_next.ok k) allok_nil) holds_nil) (by kernel_rfl) Tryz.func141 (by kernel_rfl) spec_l1Rd_word.ann spec_l1Rd_word.A spec_l1Rd_word.R (fun x y h => (spec_l1Rd_word.ev k x).trans h) (by kernel_rfl)

/-! (*loop.example/g00719/spec.l1Rd).num -/
def spec_l1Rd_num.A : Sh := (.cons (.box (.cons (.pur (.sl false (.int .u8))) (.cons (.pur (.int .i64)) .nil))) .nil)
def spec_l1Rd_num.R : Sh := (.cons (.pur (.int .i64)) .nil)
def spec_l1Rd_num.ann : Ann := { loops := [], joins := [], keys := [] }
noncomputable def spec_l1Rd_num (k : Nat) : (((List Int) × Int × Unit) × Unit) → Option ((Int × Unit) × (((List Int) × Int × Unit) × Unit)) := fun x => match x with
 | ((r_0, r_1, ()), ()) =>
  bd k (spec_l1Rd_below k ((r_0, r_1, ()), 6, ())) fun y1 =>
  br k (y1.1.1 == 0)
  (bd k (spec_l1Rd_below k ((y1.2.1.1, y1.2.1.2.1, ()), 10, ())) fun y2 =>
  br k (decide (0 ≤ y2.1.1 ∧ y2.1.1 < (([(-9223372036854775808), (-9223372036854775807), 9223372036854775807, 9223372036854775806, (-1), 0, 1, 4294967296, (-4294967296), 3037000500] : List Int).length : Int)))
  (bd k (([(-9223372036854775808), (-9223372036854775807), 9223372036854775807, 9223372036854775806, (-1), 0, 1, 4294967296, (-4294967296), 3037000500] : List Int)[y2.1.1.toNat]?) fun x3 =>
  some ((x3, ()), ((y2.2.1.1, y2.2.1.2.1, ()), ())))
  none)
  (br k (y1.1.1 == 1)
  (bd k (spec_l1Rd_word k ((y1.2.1.1, y1.2.1.2.1, ()), ())) fun y4 =>
  some ((IntKind.wrap .i64 y4.1.1, ()), ((y4.2.1.1, y4.2.1.2.1, ()), ())))
  (br k (y1.1.1 == 2)
  (bd k (spec_l1Rd_word k ((y1.2.1.1, y1.2.1.2.1, ()), ())) fun y5 =>
  bd k (spec_l1Rd_below k ((y5.2.1.1, y5.2.1.2.1, ()), 60, ())) fun y6 =>
  br k (decide (0 ≤ (IntKind.wrap .u64 y6.1.1)))
  (some (((IntKind.wrap .i64 y5.1.1).fdiv (2 ^ (min (IntKind.wrap .u64 y6.1.1).toNat 64)), ()), ((y6.2.1.1, y6.2.1.2.1, ()), ())))
  none)
  (bd k (spec_l1Rd_below k ((y1.2.1.1, y1.2.1.2.1, ()), 41, ())) fun y7 =>
  some ((IntKind.wrap .i64 (y7.1.1 - 20), ()), ((y7.2.1.1, y7.2.1.2.1, ()), ())))))
noncomputable def spec_l1Rd_num.sg (k : Nat) : Sig := ⟨spec_l1Rd_num.A, spec_l1Rd_num.R, spec_l1Rd_num k⟩
noncomputable def spec_l1Rd_num.C (k : Nat) : Ctx := ⟨Tryz.prog, [(70, [spec_l1Rd_below.sg k]), (141, [spec_l1Rd_word.sg k])], k, []⟩
theorem spec_l1Rd_num.ev (k : Nat) (x : spec_l1Rd_num.A.T) : evFunc (spec_l1Rd_num.C k) spec_l1Rd_num.ann Tryz.f109 spec_l1Rd_num.A spec_l1Rd_num.R x = spec_l1Rd_num k x := by kernel_rfl
theorem spec_l1Rd_num.ok {L : List (Nat × Obj)}  (k : Nat) : SigHolds Tryz.prog L 109 (spec_l1Rd_num.sg k) :=
  sig_of_ev (C := spec_l1Rd_num.C k) (holds_cons (allok_cons (spec_l1Rd_below.ok k) allok_nil) (holds_cons (allok_cons (spec_l1Rd_word.ok k) allok_nil) holds_nil)) (by kernel_rfl) Tryz.func109 (by kernel_rfl) spec_l1Rd_num.ann spec_l1Rd_num.A spec_l1Rd_num.R (fun x y h => (spec_l1Rd_num.ev k x).trans h) (by kernel_rfl)

/-! loop.example/g00719/spec.NumAdd -/
def spec_NumAdd.A : Sh := (.cons (.pur (.int .i64)) (.cons (.pur (.int .i64)) .nil))
def spec_NumAdd.R : Sh := (.cons (.pur (.int .i64)) (.cons (.pur (.int .i64)) .nil))
def spec_NumAdd.ann : Ann := { loops := [], joins := [(1, [(6, .bool)]), (3, [(15, .bool)])], keys := [] }
noncomputable def spec_NumAdd (k : Nat) : (Int × Int × Unit) → Option ((Int × Int × Unit) × (Unit × Unit × Unit)) := fun x => match x with
 | (a, b_, ()) =>
  (br k (decide (b_ > 0))
  (some (decide (a > (IntKind.wrap .i64 (9223372036854775807 - b_))), ()))
  (some (false, ())) : Option (Bool × Unit)).bind fun j1 =>
  br k (j1.1)
  (some ((0, 1, ()), ((), (), ())))
  ((br k (decide (b_ < 0))
  (some (decide (a < (IntKind.wrap .i64 ((-9223372036854775808) - b_))), ()))
  (some (false, ())) : Option (Bool × Unit)).bind fun j2 =>
  br k (j2.1)
  (some ((0, (-1), ()), ((), (), ())))
  (some ((IntKind.wrap .i64 (a + b_), 0, ()), ((), (), ()))))
noncomputable def spec_NumAdd.sg (k : Nat) : Sig := ⟨spec_NumAdd.A, spec_NumAdd.R, spec_NumAdd k⟩
noncomputable def spec_NumAdd.C (k : Nat) : Ctx := ⟨Tryz.prog, [], k, []⟩
theorem spec_NumAdd.ev (k : Nat) (x : spec_NumAdd.A.T) : evFunc (spec_NumAdd.C k) spec_NumAdd.ann Tryz.f140 spec_NumAdd.A spec_NumAdd.R x = spec_NumAdd k x := by kernel_rfl
theorem spec_NumAdd.ok {L : List (Nat × Obj)}  (k : Nat) : SigHolds Tryz.prog L 140 (spec_NumAdd.sg k) :=
  sig_of_ev (C := spec_NumAdd.C k) holds_nil (by kernel_rfl) Tryz.func140 (by kernel_rfl) spec_NumAdd.ann spec_NumAdd.A spec_NumAdd.R (fun x y h => (spec_NumAdd.ev k x).trans h) (by kernel_rfl)

/-! (*loop.example/g00719/spec.l1Rd).iv -/
def spec_l1Rd_iv.A : Sh := (.cons (.box (.cons (.pur (.sl false (.int .u8))) (.cons (.pur (.int .i64)) .nil))) .nil)
def spec_l1Rd_iv.R : Sh := (.cons (.pur (.cons (.int .i64) (.cons (.int .i64) .nil))) .nil)
def spec_l1Rd_iv.ann : Ann := { loops := [], joins := [], keys := [] }
noncomputable def spec_l1Rd_iv (k : Nat) : (((List Int) × Int × Unit) × Unit) → Option (((Int × Int × Unit) × Unit) × (((List Int) × Int × Unit) × Unit)) := fun x => match x with
 | ((r_0, r_1, ()), ()) =>
  bd k (spec_l1Rd_num k ((r_0, r_1, ()), ())) fun y1 =>
  bd k (spec_l1Rd_below k ((y1.2.1.1, y1.2.1.2.1, ()), 4, ())) fun y2 =>
  br k (y2.1.1 == 0)
  (bd k (spec_l1Rd_num k ((y2.2.1.1, y2.2.1.2.1, ()), ())) fun y3 =>
  br k (decide (y3.1.1 < y1.1.1))
  (bd k (spec_l1Rd_once k ((y3.2.1.1, y3.2.1.2.1, ()), 12, ())) fun y4 =>
  br k (!y4.1.1)
  (some (((y3.1.1, y1.1.1, ()), ()), ((y4.2.1.1, y4.2.1.2.1, ()), ())))
  (some (((y1.1.1, y3.1.1, ()), ()), ((y4.2.1.1, y4.2.1.2.1, ()), ()))))
  (some (((y1.1.1, y3.1.1, ()), ()), ((y3.2.1.1, y3.2.1.2.1, ()), ()))))
  (br k (y2.1.1 == 1)
  (br k (y2.1.1 == 1)
  (bd k (spec_l1Rd_below k ((y2.2.1.1, y2.2.1.2.1, ()), 30, ())) fun y5 =>
  bd k (spec_NumAdd k (y1.1.1, y5.1.1, ())) fun y6 =>
  br k (decide (y6.1.1 < y1.1.1))
  (br k (decide (y1.1.1 < y1.1.1))
  (bd k (spec_l1Rd_once k ((y5.2.1.1, y5.2.1.2.1, ()), 12, ())) fun y7 =>
  br k (!y7.1.1)
  (some (((y1.1.1, y1.1.1, ()), ()), ((y7.2.1.1, y7.2.1.2.1, ()), ())))
  (some (((y1.1.1, y1.1.1, ()), ()), ((y7.2.1.1, y7.2.1.2.1, ()), ()))))
  (some (((y1.1.1, y1.1.1, ()), ()), ((y5.2.1.1, y5.2.1.2.1, ()), ()))))
  (br k (decide (y6.1.1 < y1.1.1))
  (bd k (spec_l1Rd_once k ((y5.2.1.1, y5.2.1.2.1, ()), 12, ())) fun y8 =>
  br k (!y8.1.1)
  (some (((y6.1.1, y1.1.1, ()), ()), ((y8.2.1.1, y8.2.1.2.1, ()), ())))
  (some (((y1.1.1, y6.1.1, ()), ()), ((y8.2.1.1, y8.2.1.2.1, ()), ()))))
  (some (((y1.1.1, y6.1.1, ()), ()), ((y5.2.1.1, y5.2.1.2.1, ()), ())))))
  (br k (decide (y1.1.1 < y1.1.1))
  (bd k (spec_l1Rd_once k ((y2.2.1.1, y2.2.1.2.1, ()), 12, ())) fun y9 =>
  br k (!y9.1.1)
  (some (((y1.1.1, y1.1.1, ()), ()), ((y9.2.1.1, y9.2.1.2.1, ()), ())))
  (some (((y1.1.1, y1.1.1, ()), ()), ((y9.2.1.1, y9.2.1.2.1, ()), ()))))
  (some (((y1.1.1, y1.1.1, ()), ()), ((y2.2.1.1, y2.2.1.2.1, ()), ())))))
  (br k (y2.1.1 == 2)
  (bd k (spec_l1Rd_below k ((y2.2.1.1, y2.2.1.2.1, ()), 30, ())) fun y10 =>
  bd k (spec_NumAdd k (y1.1.1, y10.1.1, ())) fun y11 =>
  br k (decide (y11.1.1 < y1.1.1))
  (br k (decide (y1.1.1 < y1.1.1))
  (bd k (spec_l1Rd_once k ((y10.2.1.1, y10.2.1.2.1, ()), 12, ())) fun y12 =>
  br k (!y12.1.1)
  (some (((y1.1.1, y1.1.1, ()), ()), ((y12.2.1.1, y12.2.1.2.1, ()), ())))
  (some (((y1.1.1, y1.1.1, ()), ()), ((y12.2.1.1, y12.2.1.2.1, ()), ()))))
  (some (((y1.1.1, y1.1.1, ()), ()), ((y10.2.1.1, y10.2.1.2.1, ()), ()))))
  (br k (decide (y11.1.1 < y1.1.1))
  (bd k (spec_l1Rd_once k ((y10.2.1.1, y10.2.1.2.1, ()), 12, ())) fun y13 =>
  br k (!y13.1.1)
  (some (((y11.1.1, y1.1.1, ()), ()), ((y13.2.1.1, y13.2.1.2.1, ()), ())))
  (some (((y1.1.1, y11.1.1, ()), ()), ((y13.2.1.1, y13.2.1.2.1, ()), ()))))
  (some (((y1.1.1, y11.1.1, ()), ()), ((y10.2.1.1, y10.2.1.2.1, ()), ())))))
  (br k (decide (y1.1.1 < y1.1.1))
  (bd k (spec_l1Rd_once k ((y2.2.1.1, y2.2.1.2.1, ()), 12, ())) fun y14 =>
  br k (!y14.1.1)
  (some (((y1.1.1, y1.1.1, ()), ()), ((y14.2.1.1, y14.2.1.2.1, ()), ())))
  (some (((y1.1.1, y1.1.1, ()), ()), ((y14.2.1.1, y14.2.1.2.1, ()), ()))))
  (some (((y1.1.1, y1.1.1, ()), ()), ((y2.2.1.1, y2.2.1.2.1, ()), ()))))))
noncomputable def spec_l1Rd_iv.sg (k : Nat) : Sig := ⟨spec_l1Rd_iv.A, spec_l1Rd_iv.R, spec_l1Rd_iv k⟩
noncomputable def spec_l1Rd_iv.C (k : Nat) : Ctx := ⟨Tryz.prog, [(109, [spec_l1Rd_num.sg k]), (70, [spec_l1Rd_below.sg k]), (31, [spec_l1Rd_once.sg k]), (140, [spec_NumAdd.sg k])], k, []⟩
theorem spec_l1Rd_iv.ev (k : Nat) (x : spec_l1Rd_iv.A.T) : evFunc (spec_l1Rd_iv.C k) spec_l1Rd_iv.ann Tryz.f108 spec_l1Rd_iv.A spec_l1Rd_iv.R x = spec_l1Rd_iv k x := by kernel_rfl
theorem spec_l1Rd_iv.ok {L : List (Nat × Obj)}  (k : Nat) : SigHolds Tryz.prog L 108 (spec_l1Rd_iv.sg k) :=
  sig_of_ev (C := spec_l1Rd_iv.C k) (holds_cons (allok_cons (spec_l1Rd_num.ok k) allok_nil) (holds_cons (allok_cons (spec_l1Rd_below.ok k) allok_nil) (holds_cons (allok_cons (spec_l1Rd_once.ok k) allok_nil) (holds_cons (allok_cons (spec_NumAdd.ok k) allok_nil) holds_nil)))) (by kernel_rfl) Tryz.func108 (by kernel_rfl) spec_l1Rd_iv.ann spec_l1Rd_iv.A spec_l1Rd_iv.R (fun x y h => (spec_l1Rd_iv.ev k x).trans h) (by kernel_rfl)

/-! (*loop.example/g00719/spec.l1Rd).small -/
def spec_l1Rd_small.A : Sh := (.cons (.box (.cons (.pur (.sl false (.int .u8))) (.cons (.pur (.int .i64)) .nil))) .nil)
def spec_l1Rd_small.R : Sh := (.cons (.pur (.cons (.int .i64) (.cons (.int .i64) .nil))) .nil)
def spec_l1Rd_small.ann : Ann := { loops := [], joins := [], keys := [] }
noncomputable def spec_l1Rd_small (k : Nat) : (((List Int) × Int × Unit) × Unit) → Option (((Int × Int × Unit) × Unit) × (((List Int) × Int × Unit) × Unit)) := fun x => match x with
 | ((r_0, r_1, ()), ()) =>
  bd k (spec_l1Rd_once k ((r_0, r_1, ()), 6, ())) fun y1 =>
  br k (y1.1.1)
  (bd k (spec_l1Rd_iv k ((y1.2.1.1, y1.2.1.2.1, ()), ())) fun y2 =>
  some (((if y2.1.1.2.1 < y2.1.1.1 then y2.1.1.2.1 else y2.1.1.1, if y2.1.1.2.1 > y2.1.1.1 then y2.1.1.2.1 else y2.1.1.1, ()), ()), ((y2.2.1.1, y2.2.1.2.1, ()), ())))
  (bd k (spec_l1Rd_below k ((y1.2.1.1, y1.2.1.2.1, ()), 20, ())) fun y3 =>
  bd k (spec_l1Rd_below k ((y3.2.1.1, y3.2.1.2.1, ()), 9, ())) fun y4 =>
  some (((IntKind.wrap .i64 (y3.1.1 - 8), IntKind.wrap .i64 ((IntKind.wrap .i64 (y3.1.1 - 8)) + y4.1.1), ()), ()), ((y4.2.1.1, y4.2.1.2.1, ()), ())))
noncomputable def spec_l1Rd_small.sg (k : Nat) : Sig := ⟨spec_l1Rd_small.A, spec_l1Rd_small.R, spec_l1Rd_small k⟩
noncomputable def spec_l1Rd_small.C (k : Nat) : Ctx := ⟨Tryz.prog, [(31, [spec_l1Rd_once.sg k]), (108, [spec_l1Rd_iv.sg k]), (70, [spec_l1Rd_below.sg k])], k, []⟩
theorem spec_l1Rd_small.ev (k : Nat) (x : spec_l1Rd_small.A.T) : evFunc (spec_l1Rd_small.C k) spec_l1Rd_small.ann Tryz.f71 spec_l1Rd_small.A spec_l1Rd_small.R x = spec_l1Rd_small k x := by kernel_rfl
theorem spec_l1Rd_small.ok {L : List (Nat × Obj)}  (k : Nat) : SigHolds Tryz.prog L 71 (spec_l1Rd_small.sg k) :=
  sig_of_ev (C := spec_l1Rd_small.C k) (holds_cons (allok_cons (spec_l1Rd_once.ok k) allok_nil) (holds_cons (allok_cons (spec_l1Rd_iv.ok k) allok_nil) (holds_cons (allok_cons (spec_l1Rd_below.ok k) allok_nil) holds_nil))) (by kernel_rfl) Tryz.func71 (by kernel_rfl) spec_l1Rd_small.ann spec_l1Rd_small.A spec_l1Rd_small.R (fun x y h => (spec_l1Rd_small.ev k x).trans h) (by kernel_rfl)

/-! (*loop.example/g00719/spec.l1Rd).env -/
def spec_l1Rd_env.A : Sh := (.cons (.box (.cons (.pur (.sl false (.int .u8))) (.cons (.pur (.int .i64)) .nil))) (.cons (.pur (.cons (.sl false .str) (.cons (.sl false .str) (.cons (.sl false (.cons .str (.cons (.int .i64) .nil))) .nil)))) .nil))
def spec_l1Rd_env.R : Sh := (.cons (.agg (.cons (.pur .bool) (.cons (.own (.cons (.int .i64) (.cons (.int .i64) .nil))) (.cons (.own (.cons (.int .i64) (.cons (.int .i64) .nil))) .nil)))) .nil)
def spec_l1Rd_env.ann : Ann := { loops := [(0, [(0, (.box (.cons (.pur (.sl false (.int .u8))) (.cons (.pur (.int .i64)) .nil)))), (3, (.box (.cons (.pur (.sl false .str)) (.cons (.pur (.sl false .str)) (.cons (.pur (.sl false (.cons .str (.cons (.int .i64) .nil)))) .nil))))), (4, (.box (.cons (.pur .bool) (.cons (.own (.cons (.int .i64) (.cons (.int .i64) .nil))) (.cons (.own (.cons (.int .i64) (.cons (.int .i64) .nil))) .nil))))), (5, (.box (.cons (.pur .bool) (.cons (.own (.cons (.int .i64) (.cons (.int .i64) .nil))) (.cons (.own (.cons (.int .i64) (.cons (.int .i64) .nil))) .nil))))), (6, (.pur (.int .i64)))]), (2, [(0, (.box (.cons (.pur (.sl false (.int .u8))) (.cons (.pur (.int .i64)) .nil)))), (3, (.box (.cons (.pur (.sl false .str)) (.cons (.pur (.sl false .str)) (.cons (.pur (.sl false (.cons .str (.cons (.int .i64) .nil)))) .nil))))), (4, (.box (.cons (.pur .bool) (.cons (.own (.cons (.int .i64) (.cons (.int .i64) .nil))) (.cons (.own (.cons (.int .i64) (.cons (.int .i64) .nil))) .nil))))), (5, (.box (.cons (.pur .bool) (.cons (.own (.cons (.int .i64) (.cons (.int .i64) .nil))) (.cons (.own (.cons (.int .i64) (.cons (.int .i64) .nil))) .nil))))), (7, (.pur (.int .i64)))])], joins := [], keys := [(7, [([5], false), ([5], false), ([], false), ([0, 22], true), ([23], true), ([5, 23, 24], true), ([5], false), ([5, 24], true)]), (11, [([5], false), ([5], false), ([], false), ([0, 36], true), ([37], true), ([5, 37, 38], true), ([5], false), ([5, 38], true)])] }
noncomputable def spec_l1Rd_env.l2 (k : Nat)  (G2 : (((List Int) × Int × Unit) × ((List (List UInt8)) × (List (List UInt8)) × (List ((List UInt8) × Int × Unit)) × Unit) × (Bool × (List (Int × Int × Unit)) × (List (Int × Int × Unit)) × Unit) × (Bool × (List (Int × Int × Unit)) × (List (Int × Int × Unit)) × Unit) × Int × Unit) → Option (((Bool × (List (Int × Int × Unit)) × (List (Int × Int × Unit)) × Unit) × Unit) × (((List Int) × Int × Unit) × Unit × Unit))) : (((List Int) × Int × Unit) × ((List (List UInt8)) × (List (List UInt8)) × (List ((List UInt8) × Int × Unit)) × Unit) × (Bool × (List (Int × Int × Unit)) × (List (Int × Int × Unit)) × Unit) × (Bool × (List (Int × Int × Unit)) × (List (Int × Int × Unit)) × Unit) × Int × Unit) → Option (((Bool × (List (Int × Int × Unit)) × (List (Int × Int × Unit)) × Unit) × Unit) × (((List Int) × Int × Unit) × Unit × Unit)) := fun x => match x with
 | ((r_0, r_1, ()), (d__0, d__1, d__2, ()), (t4_0, t4_1, t4_2, ()), (e__0, e__1, e__2, ()), i, ()) =>
  br k (decide (i < (d__2.length : Int)))
  (bd k (spec_l1Rd_small k ((r_0, r_1, ()), ())) fun y3 =>
  br k (decide ((e__2.length + ([y3.1.1] : List (Int × Int × Unit)).length) * 16 ≤ maxBytes))
  (G2 ((y3.2.1.1, y3.2.1.2.1, ()), (d__0, d__1, d__2, ()), (t4_0, t4_1, t4_2, ()), (e__0, e__1, e__2 ++ ([y3.1.1] : List (Int × Int × Unit)), ()), IntKind.wrap .i64 (i + 1), ()))
  none)
  (some (((e__0, e__1, e__2, ()), ()), ((r_0, r_1, ()), (), ())))
noncomputable def spec_l1Rd_env.l0 (k : Nat)  (G0 : (((List Int) × Int × Unit) × ((List (List UInt8)) × (List (List UInt8)) × (List ((List UInt8) × Int × Unit)) × Unit) × (Bool × (List (Int × Int × Unit)) × (List (Int × Int × Unit)) × Unit) × (Bool × (List (Int × Int × Unit)) × (List (Int × Int × Unit)) × Unit) × Int × Unit) → Option (((Bool × (List (Int × Int × Unit)) × (List (Int × Int × Unit)) × Unit) × Unit) × (((List Int) × Int × Unit) × Unit × Unit))) : (((List Int) × Int × Unit) × ((List (List UInt8)) × (List (List UInt8)) × (List ((List UInt8) × Int × Unit)) × Unit) × (Bool × (List (Int × Int × Unit)) × (List (Int × Int × Unit)) × Unit) × (Bool × (List (Int × Int × Unit)) × (List (Int × Int × Unit)) × Unit) × Int × Unit) → Option (((Bool × (List (Int × Int × Unit)) × (List (Int × Int × Unit)) × Unit) × Unit) × (((List Int) × Int × Unit) × Unit × Unit)) := fun x => match x with
 | ((r_0, r_1, ()), (d__0, d__1, d__2, ()), (t4_0, t4_1, t4_2, ()), (e__0, e__1, e__2, ()), i, ()) =>
  br k (decide (i < (d__0.length : Int)))
  (bd k (spec_l1Rd_small k ((r_0, r_1, ()), ())) fun y2 =>
  br k (decide ((e__1.length + ([y2.1.1] : List (Int × Int × Unit)).length) * 16 ≤ maxBytes))
  (G0 ((y2.2.1.1, y2.2.1.2.1, ()), (d__0, d__1, d__2, ()), (t4_0, t4_1, t4_2, ()), (e__0, e__1 ++ ([y2.1.1] : List (Int × Int × Unit)), e__2, ()), IntKind.wrap .i64 (i + 1), ()))
  none)
  (iter (spec_l1Rd_env.l2 k) k ((r_0, r_1, ()), (d__0, d__1, d__2, ()), (t4_0, t4_1, t4_2, ()), (e__0, e__1, e__2, ()), 0, ()))
noncomputable def spec_l1Rd_env (k : Nat) : (((List Int) × Int × Unit) × ((List (List UInt8)) × (List (List UInt8)) × (List ((List UInt8) × Int × Unit)) × Unit) × Unit) → Option (((Bool × (List (Int × Int × Unit)) × (List (Int × Int × Unit)) × Unit) × Unit) × (((List Int) × Int × Unit) × Unit × Unit)) := fun x => match x with
 | ((r_0, r_1, ()), d_, ()) =>
  bd k (spec_l1Rd_once k ((r_0, r_1, ()), 16, ())) fun y1 =>
  br k (y1.1.1)
  (some (((false, [], [], ()), ()), ((y1.2.1.1, y1.2.1.2.1, ()), (), ())))
  (iter (spec_l1Rd_env.l0 k) k ((y1.2.1.1, y1.2.1.2.1, ()), (d_.1, d_.2.1, d_.2.2.1, ()), (false, [], [], ()), (true, [], [], ()), 0, ()))
noncomputable def spec_l1Rd_env.sg (k : Nat) : Sig := ⟨spec_l1Rd_env.A, spec_l1Rd_env.R, spec_l1Rd_env k⟩
noncomputable def spec_l1Rd_env.C (k : Nat) : Ctx := ⟨Tryz.prog, [(31, [spec_l1Rd_once.sg k]), (71, [spec_l1Rd_small.sg k])], k, []⟩
theorem spec_l1Rd_env.ev (k : Nat) (x : spec_l1Rd_env.A.T) : evFunc (spec_l1Rd_env.C k) spec_l1Rd_env.ann Tryz.f30 spec_l1Rd_env.A spec_l1Rd_env.R x = spec_l1Rd_env k x := by kernel_rfl
theorem spec_l1Rd_env.ok {L : List (Nat × Obj)}  (k : Nat) : SigHolds Tryz.prog L 30 (spec_l1Rd_env.sg k) :=
  sig_of_ev (C := spec_l1Rd_env.C k) (holds_cons (allok_cons (spec_l1Rd_once.ok k) allok_nil) (holds_cons (allok_cons (spec_l1Rd_small.ok k) allok_nil) holds_nil)) (by kernel_rfl) Tryz.func30 (by kernel_rfl) spec_l1Rd_env.ann spec_l1Rd_env.A spec_l1Rd_env.R (fun x y h => (spec_l1Rd_env.ev k x).trans h) (by kernel_rfl)

/-! loop.example/g00719/spec.l6Copy -/
def spec_l6Copy.A : Sh := (.cons (.pur (.cons .bool (.cons (.sl false (.cons (.int .i64) (.cons (.int .i64) .nil))) (.cons (.sl false (.cons (.int .i64) (.cons (.int .i64) .nil))) .nil)))) .nil)
def spec_l6Copy.R : Sh := (.cons (.agg (.cons (.pur .bool) (.cons (.own (.cons (.int .i64) (.cons (.int .i64) .nil))) (.cons (.own (.cons (.int .i64) (.cons (.int .i64) .nil))) .nil)))) .nil)
def spec_l6Copy.ann : Ann := { loops := [], joins := [], keys := [(1, [([1], false), ([1], false), ([5], true), ([1], false), ([1], false), ([5, 8], true), ([9], true), ([1], false), ([1], false), ([9, 12], true), ([8, 12], false), ([2, 8, 12], true)])] }
noncomputable def spec_l6Copy (k : Nat) : ((Bool × (List (Int × Int × Unit)) × (List (Int × Int × Unit)) × Unit) × Unit) → Option (((Bool × (List (Int × Int × Unit)) × (List (Int × Int × Unit)) × Unit) × Unit) × (Unit × Unit)) := fun x => match x with
 | (e_, ()) =>
  br k (decide ((([] : List (Int × Int × Unit)).length + e_.2.1.length) * 16 ≤ maxBytes))
  (br k (decide ((([] : List (Int × Int × Unit)).length + e_.2.2.1.length) * 16 ≤ maxBytes))
  (some (((e_.1, ([] : List (Int × Int × Unit)) ++ e_.2.1, ([] : List (Int × Int × Unit)) ++ e_.2.2.1, ()), ()), ((), ())))
  none)
  none
noncomputable def spec_l6Copy.sg (k : Nat) : Sig := ⟨spec_l6Copy.A, spec_l6Copy.R, spec_l6Copy k⟩
noncomputable def spec_l6Copy.C (k : Nat) : Ctx := ⟨Tryz.prog, [], k, []⟩
theorem spec_l6Copy.ev (k : Nat) (x : spec_l6Copy.A.T) : evFunc (spec_l6Copy.C k) spec_l6Copy.ann Tryz.f72 spec_l6Copy.A spec_l6Copy.R x = spec_l6Copy k x := by kernel_rfl
theorem spec_l6Copy.ok {L : List (Nat × Obj)}  (k : Nat) : SigHolds Tryz.prog L 72 (spec_l6Copy.sg k) :=
  sig_of_ev (C := spec_l6Copy.C k) holds_nil (by kernel_rfl) Tryz.func72 (by kernel_rfl) spec_l6Copy.ann spec_l6Copy.A spec_l6Copy.R (fun x y h => (spec_l6Copy.ev k x).trans h) (by kernel_rfl)

/-! loop.example/g00719/spec.l6List -/
def spec_l6List.A : Sh := (.cons (.pur (.cons .bool (.cons (.sl false (.cons (.int .i64) (.cons (.int .i64) .nil))) (.cons (.sl false (.cons (.int .i64) (.cons (.int .i64) .nil))) .nil)))) .nil)
def spec_l6List.R : Sh := (.cons (.own (.cons (.int .i64) (.cons (.int .i64) .nil))) .nil)
def spec_l6List.ann : Ann := { loops := [], joins := [], keys := [(1, [([3], true), ([1], false), ([1], false), ([3, 6], true), ([1], false), ([1], false), ([6, 9], true), ([], false)])] }
noncomputable def spec_l6List (k : Nat) : ((Bool × (List (Int × Int × Unit)) × (List (Int × Int × Unit)) × Unit) × Unit) → Option (((List (Int × Int × Unit)) × Unit) × (Unit × Unit)) := fun x => match x with
 | (e_, ()) =>
  br k (decide ((([] : List (Int × Int × Unit)).length + e_.2.1.length) * 16 ≤ maxBytes))
  (br k (decide (((([] : List (Int × Int × Unit)) ++ e_.2.1).length + e_.2.2.1.length) * 16 ≤ maxBytes))
  (some (((([] : List (Int × Int × Unit)) ++ e_.2.1) ++ e_.2.2.1, ()), ((), ())))
  none)
  none
noncomputable def spec_l6List.sg (k : Nat) : Sig := ⟨spec_l6List.A, spec_l6List.R, spec_l6List k⟩
noncomputable def spec_l6List.C (k : Nat) : Ctx := ⟨Tryz.prog, [], k, []⟩
theorem spec_l6List.ev (k : Nat) (x : spec_l6List.A.T) : evFunc (spec_l6List.C k) spec_l6List.ann Tryz.f46 spec_l6List.A spec_l6List.R x = spec_l6List k x := by kernel_rfl
theorem spec_l6List.ok {L : List (Nat × Obj)}  (k : Nat) : SigHolds Tryz.prog L 46 (spec_l6List.sg k) :=
  sig_of_ev (C := spec_l6List.C k) holds_nil (by kernel_rfl) Tryz.func46 (by kernel_rfl) spec_l6List.ann spec_l6List.A spec_l6List.R (fun x y h => (spec_l6List.ev k x).trans h) (by kernel_rfl)

/-! loop.example/g00719/spec.l2Join -/
def spec_l2Join.A : Sh := (.cons (.pur (.cons (.int .i64) (.cons (.int .i64) .nil))) (.cons (.pur (.cons (.int .i64) (.cons (.int .i64) .nil))) .nil))
def spec_l2Join.R : Sh := (.cons (.pur (.cons (.int .i64) (.cons (.int .i64) .nil))) .nil)
def spec_l2Join.ann : Ann := { loops := [], joins := [], keys := [] }
noncomputable def spec_l2Join (k : Nat) : ((Int × Int × Unit) × (Int × Int × Unit) × Unit) → Option (((Int × Int × Unit) × Unit) × (Unit × Unit × Unit)) := fun x => match x with
 | (a, b_, ()) =>
  some (((if b_.1 < a.1 then b_.1 else a.1, if b_.2.1 > a.2.1 then b_.2.1 else a.2.1, ()), ()), ((), (), ()))
noncomputable def spec_l2Join.sg (k : Nat) : Sig := ⟨spec_l2Join.A, spec_l2Join.R, spec_l2Join k⟩
noncomputable def spec_l2Join.C (k : Nat) : Ctx := ⟨Tryz.prog, [], k, []⟩
theorem spec_l2Join.ev (k : Nat) (x : spec_l2Join.A.T) : evFunc (spec_l2Join.C k) spec_l2Join.ann Tryz.f73 spec_l2Join.A spec_l2Join.R x = spec_l2Join k x := by kernel_rfl
theorem spec_l2Join.ok {L : List (Nat × Obj)}  (k : Nat) : SigHolds Tryz.prog L 73 (spec_l2Join.sg k) :=
  sig_of_ev (C := spec_l2Join.C k) holds_nil (by kernel_rfl) Tryz.func73 (by kernel_rfl) spec_l2Join.ann spec_l2Join.A spec_l2Join.R (fun x y h => (spec_l2Join.ev k x).trans h) (by kernel_rfl)

/-! loop.example/g00719/spec.l6Of -/
def spec_l6Of.A : Sh := (.cons (.pur (.sl false (.cons (.int .i64) (.cons (.int .i64) .nil)))) (.cons (.pur (.int .i64)) .nil))
def spec_l6Of.R : Sh := (.cons (.agg (.cons (.pur .bool) (.cons (.own (.cons (.int .i64) (.cons (.int .i64) .nil))) (.cons (.own (.cons (.int .i64) (.cons (.int .i64) .nil))) .nil)))) .nil)
def spec_l6Of.ann : Ann := { loops := [], joins := [], keys := [(1, [([5], true), ([], false), ([], false), ([], false), ([5, 9], true), ([10], true), ([], false), ([], false), ([], false), ([10, 14], true), ([9, 14], false), ([4, 9, 14], true)])] }
noncomputable def spec_l6Of (k : Nat) : ((List (Int × Int × Unit)) × Int × Unit) → Option (((Bool × (List (Int × Int × Unit)) × (List (Int × Int × Unit)) × Unit) × Unit) × (Unit × Unit × Unit)) := fun x => match x with
 | (l_, n, ()) =>
  br k (decide (0 ≤ n ∧ n ≤ (l_.length : Int)))
  (br k (decide ((([] : List (Int × Int × Unit)).length + (l_.take n.toNat).length) * 16 ≤ maxBytes))
  (br k (decide (0 ≤ n ∧ n ≤ (l_.length : Int)))
  (br k (decide ((([] : List (Int × Int × Unit)).length + (l_.drop n.toNat).length) * 16 ≤ maxBytes))
  (some (((true, ([] : List (Int × Int × Unit)) ++ (l_.take n.toNat), ([] : List (Int × Int × Unit)) ++ (l_.drop n.toNat), ()), ()), ((), (), ())))
  none)
  none)
  none)
  none
noncomputable def spec_l6Of.sg (k : Nat) : Sig := ⟨spec_l6Of.A, spec_l6Of.R, spec_l6Of k⟩
noncomputable def spec_l6Of.C (k : Nat) : Ctx := ⟨Tryz.prog, [], k, []⟩
theorem spec_l6Of.ev (k : Nat) (x : spec_l6Of.A.T) : evFunc (spec_l6Of.C k) spec_l6Of.ann Tryz.f74 spec_l6Of.A spec_l6Of.R x = spec_l6Of k x := by kernel_rfl
theorem spec_l6Of.ok {L : List (Nat × Obj)}  (k : Nat) : SigHolds Tryz.prog L 74 (spec_l6Of.sg k) :=
  sig_of_ev (C := spec_l6Of.C k) holds_nil (by kernel_rfl) Tryz.func74 (by kernel_rfl) spec_l6Of.ann spec_l6Of.A spec_l6Of.R (fun x y h => (spec_l6Of.ev k x).trans h) (by kernel_rfl)

/-! loop.example/g00719/spec.l6Join -/
def spec_l6Join.A : Sh := (.cons (.pur (.cons .bool (.cons (.sl false (.cons (.int .i64) (.cons (.int .i64) .nil))) (.cons (.sl false (.cons (.int .i64) (.cons (.int .i64) .nil))) .nil)))) (.cons (.pur (.cons .bool (.cons (.sl false (.cons (.int .i64) (.cons (.int .i64) .nil))) (.cons (.sl false (.cons (.int .i64) (.cons (.int .i64) .nil))) .nil)))) .nil))
def spec_l6Join.R : Sh := (.cons (.agg (.cons (.pur .bool) (.cons (.own (.cons (.int .i64) (.cons (.int .i64) .nil))) (.cons (.own (.cons (.int .i64) (.cons (.int .i64) .nil))) .nil)))) .nil)
def spec_l6Join.ann : Ann := { loops := [(0, [(2, (.box (.cons (.pur .bool) (.cons (.pur (.sl false (.cons (.int .i64) (.cons (.int .i64) .nil)))) (.cons (.pur (.sl false (.cons (.int .i64) (.cons (.int .i64) .nil)))) .nil))))), (4, (.box (.cons (.pur .bool) (.cons (.own (.cons (.int .i64) (.cons (.int .i64) .nil))) (.cons (.own (.cons (.int .i64) (.cons (.int .i64) .nil))) .nil))))), (5, (.own (.cons (.int .i64) (.cons (.int .i64) .nil)))), (6, (.own (.cons (.int .i64) (.cons (.int .i64) .nil)))), (7, (.own (.cons (.int .i64) (.cons (.int .i64) .nil)))), (8, (.pur (.int .i64)))])], joins := [], keys := [(11, [([], false), ([], false), ([], false), ([5], false), ([5], false), ([], false), ([], false), ([6], false), ([6], false), ([], false), ([40], true), ([7, 40, 41], true), ([], false)])] }
noncomputable def spec_l6Join.l0 (k : Nat)  (G0 : ((Bool × (List (Int × Int × Unit)) × (List (Int × Int × Unit)) × Unit) × (Bool × (List (Int × Int × Unit)) × (List (Int × Int × Unit)) × Unit) × (List (Int × Int × Unit)) × (List (Int × Int × Unit)) × (List (Int × Int × Unit)) × Int × Unit) → Option (((Bool × (List (Int × Int × Unit)) × (List (Int × Int × Unit)) × Unit) × Unit) × (Unit × Unit × Unit))) : ((Bool × (List (Int × Int × Unit)) × (List (Int × Int × Unit)) × Unit) × (Bool × (List (Int × Int × Unit)) × (List (Int × Int × Unit)) × Unit) × (List (Int × Int × Unit)) × (List (Int × Int × Unit)) × (List (Int × Int × Unit)) × Int × Unit) → Option (((Bool × (List (Int × Int × Unit)) × (List (Int × Int × Unit)) × Unit) × Unit) × (Unit × Unit × Unit)) := fun x => match x with
 | ((a_0, a_1, a_2, ()), (t4_0, t4_1, t4_2, ()), x_, y_, out_, i, ()) =>
  br k (decide (i < (x_.length : Int)))
  (br k (decide (0 ≤ i ∧ i < (x_.length : Int)))
  (bd k (x_[i.toNat]?) fun x5 =>
  br k (decide (0 ≤ i ∧ i < (y_.length : Int)))
  (bd k (y_[i.toNat]?) fun x6 =>
  bd k (spec_l2Join k (x5, x6, ())) fun y7 =>
  br k (decide ((out_.length + ([y7.1.1] : List (Int × Int × Unit)).length) * 16 ≤ maxBytes))
  (G0 ((a_0, a_1, a_2, ()), (t4_0, t4_1, t4_2, ()), x_, y_, out_ ++ ([y7.1.1] : List (Int × Int × Unit)), IntKind.wrap .i64 (i + 1), ()))
  none)
  none)
  none)
  (bd k (spec_l6Of k (out_, (a_1.length : Int), ())) fun y8 =>
  some (((y8.1.1.1, y8.1.1.2.1, y8.1.1.2.2.1, ()), ()), ((), (), ())))
noncomputable def spec_l6Join (k : Nat) : ((Bool × (List (Int × Int × Unit)) × (List (Int × Int × Unit)) × Unit) × (Bool × (List (Int × Int × Unit)) × (List (Int × Int × Unit)) × Unit) × Unit) → Option (((Bool × (List (Int × Int × Unit)) × (List (Int × Int × Unit)) × Unit) × Unit) × (Unit × Unit × Unit)) := fun x => match x with
 | (a, b_, ()) =>
  br k (!a.1)
  (bd k (spec_l6Copy k (b_, ())) fun y1 =>
  some (((y1.1.1.1, y1.1.1.2.1, y1.1.1.2.2.1, ()), ()), ((), (), ())))
  (br k (!b_.1)
  (bd k (spec_l6Copy k (a, ())) fun y2 =>
  some (((y2.1.1.1, y2.1.1.2.1, y2.1.1.2.2.1, ()), ()), ((), (), ())))
  (bd k (spec_l6List k (a, ())) fun y3 =>
  bd k (spec_l6List k (b_, ())) fun y4 =>
  iter (spec_l6Join.l0 k) k ((a.1, a.2.1, a.2.2.1, ()), (false, [], [], ()), y3.1.1, y4.1.1, ([] : List (Int × Int × Unit)), 0, ())))
noncomputable def spec_l6Join.sg (k : Nat) : Sig := ⟨spec_l6Join.A, spec_l6Join.R, spec_l6Join k⟩
noncomputable def spec_l6Join.C (k : Nat) : Ctx := ⟨Tryz.prog, [(72, [spec_l6Copy.sg k]), (46, [spec_l6List.sg k]), (73, [spec_l2Join.sg k]), (74, [spec_l6Of.sg k])], k, []⟩
theorem spec_l6Join.ev (k : Nat) (x : spec_l6Join.A.T) : evFunc (spec_l6Join.C k) spec_l6Join.ann Tryz.f32 spec_l6Join.A spec_l6Join.R x = spec_l6Join k x := by kernel_rfl
theorem spec_l6Join.ok {L : List (Nat × Obj)}  (k : Nat) : SigHolds Tryz.prog L 32 (spec_l6Join.sg k) :=
  sig_of_ev (C := spec_l6Join.C k) (holds_cons (allok_cons (spec_l6Copy.ok k) allok_nil) (holds_cons (allok_cons (spec_l6List.ok k) allok_nil) (holds_cons (allok_cons (spec_l2Join.ok k) allok_nil) (holds_cons (allok_cons (spec_l6Of.ok k) allok_nil) holds_nil)))) (by kernel_rfl) Tryz.func32 (by kernel_rfl) spec_l6Join.ann spec_l6Join.A spec_l6Join.R (fun x y h => (spec_l6Join.ev k x).trans h) (by kernel_rfl)

/-! (*loop.example/g00719/spec.l1Rd).hurtEnv -/
def spec_l1Rd_hurtEnv.A : Sh := (.cons (.box (.cons (.pur (.sl false (.int .u8))) (.cons (.pur (.int .i64)) .nil))) (.cons (.agg (.cons (.pur .bool) (.cons (.own (.cons (.int .i64) (.cons (.int .i64) .nil))) (.cons (.own (.cons (.int .i64) (.cons (.int .i64) .nil))) .nil)))) .nil))
def spec_l1Rd_hurtEnv.R : Sh := (.cons (.agg (.cons (.pur .bool) (.cons (.own (.cons (.int .i64) (.cons (.int .i64) .nil))) (.cons (.own (.cons (.int .i64) (.cons (.int .i64) .nil))) .nil)))) .nil)
def spec_l1Rd_hurtEnv.ann : Ann := { loops := [], joins := [], keys := [] }
noncomputable def spec_l1Rd_hurtEnv (k : Nat) : (((List Int) × Int × Unit) × (Bool × (List (Int × Int × Unit)) × (List (Int × Int × Unit)) × Unit) × Unit) → Option (((Bool × (List (Int × Int × Unit)) × (List (Int × Int × Unit)) × Unit) × Unit) × (((List Int) × Int × Unit) × (Unit × Unit × Unit × Unit) × Unit)) := fun x => match x with
 | ((r_0, r_1, ()), (e__0, e__1, e__2, ()), ()) =>
  bd k (spec_l1Rd_below k ((r_0, r_1, ()), 24, ())) fun y1 =>
  br k (y1.1.1 == 0)
  (some (((!e__0, e__1, e__2, ()), ()), ((y1.2.1.1, y1.2.1.2.1, ()), ((), (), (), ()), ())))
  (br k (y1.1.1 == 1)
  (br k (decide ((e__1.length + ([(0, 0, ())] : List (Int × Int × Unit)).length) * 16 ≤ maxBytes))
  (some (((e__0, e__1 ++ ([(0, 0, ())] : List (Int × Int × Unit)), e__2, ()), ()), ((y1.2.1.1, y1.2.1.2.1, ()), ((), (), (), ()), ())))
  none)
  (br k (y1.1.1 == 2)
  (br k (decide ((e__1.length : Int) > 0))
  (br k (decide (0 ≤ (0 : Int) ∧ (0 : Int) < (e__1.length : Int)))
  (bd k (e__1[(0 : Int).toNat]?) fun x2 =>
  some (((e__0, e__1.set ((0 : Int).toNat) (1, 0, ()), e__2, ()), ()), ((y1.2.1.1, y1.2.1.2.1, ()), ((), (), (), ()), ())))
  none)
  (some (((e__0, e__1, e__2, ()), ()), ((y1.2.1.1, y1.2.1.2.1, ()), ((), (), (), ()), ()))))
  (some (((e__0, e__1, e__2, ()), ()), ((y1.2.1.1, y1.2.1.2.1, ()), ((), (), (), ()), ())))))
noncomputable def spec_l1Rd_hurtEnv.sg (k : Nat) : Sig := ⟨spec_l1Rd_hurtEnv.A, spec_l1Rd_hurtEnv.R, spec_l1Rd_hurtEnv k⟩
noncomputable def spec_l1Rd_hurtEnv.C (k : Nat) : Ctx := ⟨Tryz.prog, [(70, [spec_l1Rd_below.sg k])], k, []⟩
theorem spec_l1Rd_hurtEnv.ev (k : Nat) (x : spec_l1Rd_hurtEnv.A.T) : evFunc (spec_l1Rd_hurtEnv.C k) spec_l1Rd_hurtEnv.ann Tryz.f33 spec_l1Rd_hurtEnv.A spec_l1Rd_hurtEnv.R x = spec_l1Rd_hurtEnv k x := by kernel_rfl
theorem spec_l1Rd_hurtEnv.ok {L : List (Nat × Obj)}  (k : Nat) : SigHolds Tryz.prog L 33 (spec_l1Rd_hurtEnv.sg k) :=
  sig_of_ev (C := spec_l1Rd_hurtEnv.C k) (holds_cons (allok_cons (spec_l1Rd_below.ok k) allok_nil) holds_nil) (by kernel_rfl) Tryz.func33 (by kernel_rfl) spec_l1Rd_hurtEnv.ann spec_l1Rd_hurtEnv.A spec_l1Rd_hurtEnv.R (fun x y h => (spec_l1Rd_hurtEnv.ev k x).trans h) (by kernel_rfl)

/-! loop.example/g00719/spec.DrawEnvLeq -/
def spec_DrawEnvLeq.A : Sh := (.cons (.pur (.sl false (.int .u8))) .nil)
def spec_DrawEnvLeq.R : Sh := (.cons (.pur (.cons (.sl false .str) (.cons (.sl false .str) (.cons (.sl false (.cons .str (.cons (.int .i64) .nil))) .nil)))) (.cons (.agg (.cons (.pur .bool) (.cons (.own (.cons (.int .i64) (.cons (.int .i64) .nil))) (.cons (.own (.cons (.int .i64) (.cons (.int .i64) .nil))) .nil)))) (.cons (.agg (.cons (.pur .bool) (.cons (.own (.cons (.int .i64) (.cons (.int .i64) .nil))) (.cons (.own (.cons (.int .i64) (.cons (.int .i64) .nil))) .nil)))) .nil)))
def spec_DrawEnvLeq.ann : Ann := { loops := [], joins := [], keys := [(7, [([6], false), ([], false), ([7, 15], false), ([10, 15, 27], true), ([], false), ([8, 18, 23], false), ([10, 18, 23, 30], true), ([2], true), ([3, 27], true), ([4, 30], true)])] }
noncomputable def spec_DrawEnvLeq (k : Nat) : ((List Int) × Unit) → Option ((((List (List UInt8)) × (List (List UInt8)) × (List ((List UInt8) × Int × Unit)) × Unit) × (Bool × (List (Int × Int × Unit)) × (List (Int × Int × Unit)) × Unit) × (Bool × (List (Int × Int × Unit)) × (List (Int × Int × Unit)) × Unit) × Unit) × (Unit × Unit)) := fun x => match x with
 | (code, ()) =>
  bd k (spec_l1Open k (code, ())) fun y1 =>
  bd k (spec_l1Rd_decl k ((y1.1.1.1, y1.1.1.2.1, ()), ())) fun y2 =>
  bd k (spec_l1Rd_env k ((y2.2.1.1, y2.2.1.2.1, ()), y2.1.1, ())) fun y3 =>
  bd k (spec_l1Rd_env k ((y3.2.1.1, y3.2.1.2.1, ()), y2.1.1, ())) fun y4 =>
  bd k (spec_l1Rd_once k ((y4.2.1.1, y4.2.1.2.1, ()), 2, ())) fun y5 =>
  br k (y5.1.1)
  (bd k (spec_l6Join k ((y3.1.1.1, y3.1.1.2.1, y3.1.1.2.2.1, ()), (y4.1.1.1, y4.1.1.2.1, y4.1.1.2.2.1, ()), ())) fun y6 =>
  bd k (spec_l1Rd_hurtEnv k ((y5.2.1.1, y5.2.1.2.1, ()), (y3.1.1.1, y3.1.1.2.1, y3.1.1.2.2.1, ()), ())) fun y7 =>
  bd k (spec_l1Rd_hurtEnv k ((y7.2.1.1, y7.2.1.2.1, ()), (y6.1.1.1, y6.1.1.2.1, y6.1.1.2.2.1, ()), ())) fun y8 =>
  some ((y2.1.1, (y7.1.1.1, y7.1.1.2.1, y7.1.1.2.2.1, ()), (y8.1.1.1, y8.1.1.2.1, y8.1.1.2.2.1, ()), ()), ((), ())))
  (bd k (spec_l1Rd_hurtEnv k ((y5.2.1.1, y5.2.1.2.1, ()), (y3.1.1.1, y3.1.1.2.1, y3.1.1.2.2.1, ()), ())) fun y9 =>
  bd k (spec_l1Rd_hurtEnv k ((y9.2.1.1, y9.2.1.2.1, ()), (y4.1.1.1, y4.1.1.2.1, y4.1.1.2.2.1, ()), ())) fun y10 =>
  some ((y2.1.1, (y9.1.1.1, y9.1.1.2.1, y9.1.1.2.2.1, ()), (y10.1.1.1, y10.1.1.2.1, y10.1.1.2.2.1, ()), ()), ((), ())))
noncomputable def spec_DrawEnvLeq.sg (k : Nat) : Sig := ⟨spec_DrawEnvLeq.A, spec_DrawEnvLeq.R, spec_DrawEnvLeq k⟩
noncomputable def spec_DrawEnvLeq.C (k : Nat) : Ctx := ⟨Tryz.prog, [(28, [spec_l1Open.sg k]), (29, [spec_l1Rd_decl.sg k]), (30, [spec_l1Rd_env.sg k]), (31, [spec_l1Rd_once.sg k]), (32, [spec_l6Join.sg k]), (33, [spec_l1Rd_hurtEnv.sg k])], k, []⟩
theorem spec_DrawEnvLeq.ev (k : Nat) (x : spec_DrawEnvLeq.A.T) : evFunc (spec_DrawEnvLeq.C k) spec_DrawEnvLeq.ann Tryz.f7 spec_DrawEnvLeq.A spec_DrawEnvLeq.R x = spec_DrawEnvLeq k x := by kernel_rfl
theorem spec_DrawEnvLeq.ok {L : List (Nat × Obj)}  (k : Nat) : SigHolds Tryz.prog L 7 (spec_DrawEnvLeq.sg k) :=
  sig_of_ev (C := spec_DrawEnvLeq.C k) (holds_cons (allok_cons (spec_l1Open.ok k) allok_nil) (holds_cons (allok_cons (spec_l1Rd_decl.ok k) allok_nil) (holds_cons (allok_cons (spec_l1Rd_env.ok k) allok_nil) (holds_cons (allok_cons (spec_l1Rd_once.ok k) allok_nil) (holds_cons (allok_cons (spec_l6Join.ok k) allok_nil) (holds_cons (allok_cons (spec_l1Rd_hurtEnv.ok k) allok_nil) holds_nil)))))) (by kernel_rfl) Tryz.func7 (by kernel_rfl) spec_DrawEnvLeq.ann spec_DrawEnvLeq.A spec_DrawEnvLeq.R (fun x y h => (spec_DrawEnvLeq.ev k x).trans h) (by kernel_rfl)

/-! loop.example/g00719/spec.l1In -/
def spec_l1In.A : Sh := (.cons (.pur (.int .i64)) (.cons (.pur (.int .i64)) (.cons (.pur (.int .i64)) .nil)))
def spec_l1In.R : Sh := (.cons (.pur .bool) .nil)
def spec_l1In.ann : Ann := { loops := [], joins := [(1, [(6, .bool)])], keys := [] }
noncomputable def spec_l1In (k : Nat) : (Int × Int × Int × Unit) → Option ((Bool × Unit) × (Unit × Unit × Unit × Unit)) := fun x => match x with
 | (n, low, high, ()) =>
  (br k (decide (n ≥ low))
  (some (decide (n ≤ high), ()))
  (some (false, ())) : Option (Bool × Unit)).bind fun j1 =>
  some ((j1.1, ()), ((), (), (), ()))
noncomputable def spec_l1In.sg (k : Nat) : Sig := ⟨spec_l1In.A, spec_l1In.R, spec_l1In k⟩
noncomputable def spec_l1In.C (k : Nat) : Ctx := ⟨Tryz.prog, [], k, []⟩
theorem spec_l1In.ev (k : Nat) (x : spec_l1In.A.T) : evFunc (spec_l1In.C k) spec_l1In.ann Tryz.f88 spec_l1In.A spec_l1In.R x = spec_l1In k x := by kernel_rfl
theorem spec_l1In.ok {L : List (Nat × Obj)}  (k : Nat) : SigHolds Tryz.prog L 88 (spec_l1In.sg k) :=
  sig_of_ev (C := spec_l1In.C k) holds_nil (by kernel_rfl) Tryz.func88 (by kernel_rfl) spec_l1In.ann spec_l1In.A spec_l1In.R (fun x y h => (spec_l1In.ev k x).trans h) (by kernel_rfl)

/-! loop.example/g00719/spec.l3Key -/
def spec_l3Key.A : Sh := (.cons (.pur .str) .nil)
def spec_l3Key.R : Sh := (.cons (.pur .bool) .nil)
def spec_l3Key.ann : Ann := { loops := [(0, [(0, (.pur .str)), (3, (.own .str)), (4, (.pur (.int .i64)))])], joins := [], keys := [] }
noncomputable def spec_l3Key.l0 (k : Nat)  (G0 : ((List UInt8) × (List (List UInt8)) × Int × Unit) → Option ((Bool × Unit) × (Unit × Unit))) : ((List UInt8) × (List (List UInt8)) × Int × Unit) → Option ((Bool × Unit) × (Unit × Unit)) := fun x => match x with
 | (s_, keys, i, ()) =>
  br k (decide (i < (keys.length : Int)))
  (br k (decide (0 ≤ i ∧ i < (keys.length : Int)))
  (bd k (keys[i.toNat]?) fun x1 =>
  br k (x1 == s_)
  (some ((true, ()), ((), ())))
  (G0 (s_, keys, IntKind.wrap .i64 (i + 1), ())))
  none)
  (some ((false, ()), ((), ())))
noncomputable def spec_l3Key (k : Nat) : ((List UInt8) × Unit) → Option ((Bool × Unit) × (Unit × Unit)) := fun x => match x with
 | (s_, ()) =>
  iter (spec_l3Key.l0 k) k (s_, ([[118, 97, 114], [102, 108, 97, 103], [97, 114, 114, 97, 121], [105, 102], [102, 111, 114, 107], [101, 108, 115, 101], [101, 110, 100], [119, 104, 105, 108, 101], [117, 110, 114, 111, 108, 108], [97, 115, 115, 101, 114, 116], [97, 115, 115, 117, 109, 101], [105, 110, 112, 117, 116], [115, 112, 108, 105, 116], [109, 101, 114, 103, 101], [116, 114, 117, 101], [102, 97, 108, 115, 101]] : List (List UInt8)), 0, ())
noncomputable def spec_l3Key.sg (k : Nat) : Sig := ⟨spec_l3Key.A, spec_l3Key.R, spec_l3Key k⟩
noncomputable def spec_l3Key.C (k : Nat) : Ctx := ⟨Tryz.prog, [], k, []⟩
theorem spec_l3Key.ev (k : Nat) (x : spec_l3Key.A.T) : evFunc (spec_l3Key.C k) spec_l3Key.ann Tryz.f123 spec_l3Key.A spec_l3Key.R x = spec_l3Key k x := by kernel_rfl
theorem spec_l3Key.ok {L : List (Nat × Obj)}  (k : Nat) : SigHolds Tryz.prog L 123 (spec_l3Key.sg k) :=
  sig_of_ev (C := spec_l3Key.C k) holds_nil (by kernel_rfl) Tryz.func123 (by kernel_rfl) spec_l3Key.ann spec_l3Key.A spec_l3Key.R (fun x y h => (spec_l3Key.ev k x).trans h) (by kernel_rfl)

/-! loop.example/g00719/spec.l3Name -/
def spec_l3Name.A : Sh := (.cons (.pur .str) .nil)
def spec_l3Name.R : Sh := (.cons (.pur .bool) .nil)
def spec_l3Name.ann : Ann := { loops := [(0, [(0, (.pur .str)), (3, (.pur (.int .i64)))])], joins := [(4, [(19, .bool)]), (6, [(2, .bool)])], keys := [] }
noncomputable def spec_l3Name.l0 (k : Nat)  (G0 : ((List UInt8) × Int × Unit) → Option ((Bool × Unit) × (Unit × Unit))) : ((List UInt8) × Int × Unit) → Option ((Bool × Unit) × (Unit × Unit)) := fun x => match x with
 | (s_, i, ()) =>
  br k (decide (i < (s_.length : Int)))
  ((br k (decide (0 ≤ i))
  (bd k (s_[i.toNat]?) fun b1 =>
  br k (decide ((b1.toNat : Int) < 97))
  (some (true, ()))
  (br k (decide (0 ≤ i))
  (bd k (s_[i.toNat]?) fun b2 =>
  some (decide ((b2.toNat : Int) > 122), ()))
  none))
  none : Option (Bool × Unit)).bind fun j3 =>
  br k (j3.1)
  (some ((false, ()), ((), ())))
  (G0 (s_, IntKind.wrap .i64 (i + 1), ())))
  ((bd k (spec_l1In k ((s_.length : Int), 1, 8, ())) fun y4 =>
  br k (y4.1.1)
  (bd k (spec_l3Key k (s_, ())) fun y5 =>
  some (!y5.1.1, ()))
  (some (false, ())) : Option (Bool × Unit)).bind fun j6 =>
  some ((j6.1, ()), ((), ())))
noncomputable def spec_l3Name (k : Nat) : ((List UInt8) × Unit) → Option ((Bool × Unit) × (Unit × Unit)) := fun x => match x with
 | (s_, ()) =>
  iter (spec_l3Name.l0 k) k (s_, 0, ())
noncomputable def spec_l3Name.sg (k : Nat) : Sig := ⟨spec_l3Name.A, spec_l3Name.R, spec_l3Name k⟩
noncomputable def spec_l3Name.C (k : Nat) : Ctx := ⟨Tryz.prog, [(88, [spec_l1In.sg k]), (123, [spec_l3Key.sg k])], k, []⟩
theorem spec_l3Name.ev (k : Nat) (x : spec_l3Name.A.T) : evFunc (spec_l3Name.C k) spec_l3Name.ann Tryz.f89 spec_l3Name.A spec_l3Name.R x = spec_l3Name k x := by kernel_rfl
theorem spec_l3Name.ok {L : List (Nat × Obj)}  (k : Nat) : SigHolds Tryz.prog L 89 (spec_l3Name.sg k) :=
  sig_of_ev (C := spec_l3Name.C k) (holds_cons (allok_cons (spec_l1In.ok k) allok_nil) (holds_cons (allok_cons (spec_l3Key.ok k) allok_nil) holds_nil)) (by kernel_rfl) Tryz.func89 (by kernel_rfl) spec_l3Name.ann spec_l3Name.A spec_l3Name.R (fun x y h => (spec_l3Name.ev k x).trans h) (by kernel_rfl)

/-! loop.example/g00719/spec.l3Place -/
def spec_l3Place.A : Sh := (.cons (.pur (.sl false .str)) (.cons (.pur .str) .nil))
def spec_l3Place.R : Sh := (.cons (.pur (.int .i64)) .nil)
def spec_l3Place.ann : Ann := { loops := [(0, [(0, (.pur (.sl false .str))), (1, (.pur .str)), (5, (.pur (.int .i64)))])], joins := [], keys := [] }
noncomputable def spec_l3Place.l0 (k : Nat)  (G0 : ((List (List UInt8)) × (List UInt8) × Int × Unit) → Option ((Int × Unit) × (Unit × Unit × Unit))) : ((List (List UInt8)) × (List UInt8) × Int × Unit) → Option ((Int × Unit) × (Unit × Unit × Unit)) := fun x => match x with
 | (l_, s_, i, ()) =>
  br k (decide (i < (l_.length : Int)))
  (br k (decide (0 ≤ i))
  (bd k (l_[i.toNat]?) fun x1 =>
  br k (x1 == s_)
  (some ((i, ()), ((), (), ())))
  (G0 (l_, s_, IntKind.wrap .i64 (i + 1), ())))
  none)
  (some (((-1), ()), ((), (), ())))
noncomputable def spec_l3Place (k : Nat) : ((List (List UInt8)) × (List UInt8) × Unit) → Option ((Int × Unit) × (Unit × Unit × Unit)) := fun x => match x with
 | (l_, s_, ()) =>
  iter (spec_l3Place.l0 k) k (l_, s_, 0, ())
noncomputable def spec_l3Place.sg (k : Nat) : Sig := ⟨spec_l3Place.A, spec_l3Place.R, spec_l3Place k⟩
noncomputable def spec_l3Place.C (k : Nat) : Ctx := ⟨Tryz.prog, [], k, []⟩
theorem spec_l3Place.ev (k : Nat) (x : spec_l3Place.A.T) : evFunc (spec_l3Place.C k) spec_l3Place.ann Tryz.f90 spec_l3Place.A spec_l3Place.R x = spec_l3Place k x := by kernel_rfl
theorem spec_l3Place.ok {L : List (Nat × Obj)}  (k : Nat) : SigHolds Tryz.prog L 90 (spec_l3Place.sg k) :=
  sig_of_ev (C := spec_l3Place.C k) holds_nil (by kernel_rfl) Tryz.func90 (by kernel_rfl) spec_l3Place.ann spec_l3Place.A spec_l3Place.R (fun x y h => (spec_l3Place.ev k x).trans h) (by kernel_rfl)

end Go.Pev.F
