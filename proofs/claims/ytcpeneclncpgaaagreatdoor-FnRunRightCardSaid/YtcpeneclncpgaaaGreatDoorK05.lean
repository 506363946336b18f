/-
  Printed by gen.py: what functions of the program compute, and that they do.
-/
import Derived.Test.YtcpeneclncpgaaaGreatDoorK04
set_option linter.unusedSimpArgs false
set_option linter.unusedVariables false
open Go.Proofs Go.Pev
namespace Go.Pev.F
set_option maxRecDepth 100000
set_option linter.unusedVariables false
def spec_l1Rd_block.ann : Ann := { loops := [(0, [(0, QS18), (2, (.pur (.int .i64))), (3, (.pur (.int .i64))), (5, QS24), (9, (.rows QS10)), (10, (.pur (.int .i64)))])], joins := [(3, [(22, .bool)])], keys := [] }
noncomputable def spec_l1Rd_block.l0 (k : Nat) (R_ : QT31 → Option QT25)  (G0 : (QT11 × Int × Int × QT2 × (List QT0) × Int × Unit) → Option QT25) : (QT11 × Int × Int × QT2 × (List QT0) × Int × Unit) → Option QT25 := fun x => match x with
 | ((r_0, r_1, ()), most, deep, (d__0, d__1, d__2, ()), out_, i, ()) =>
  (br k (decide (i > 0))
  (some (decide ((out_.length : Int) < most), ()))
  (some (false, ())) : Option (Bool × Unit)).bind fun j2 =>
  br k (j2.1)
  (bd k (spec_l1Rd_line k R_ ((r_0, r_1, ()), (d__0, d__1, d__2, ()), IntKind.wrap .i64 (most - (out_.length : Int)), deep, ())) fun y3 =>
  br k (decide ((out_.length + y3.1.1.length) * 80 ≤ maxBytes))
  (G0 ((y3.2.1.1, y3.2.1.2.1, ()), most, deep, (d__0, d__1, d__2, ()), out_ ++ y3.1.1, IntKind.wrap .i64 (i - 1), ()))
  none)
  (some ((out_, ()), ((r_0, r_1, ()), (), (), (), ())))
noncomputable def spec_l1Rd_block.f (k : Nat) (R_ : QT31 → Option QT25) : QT31 → Option QT25 := fun x => match x with
 | ((r_0, r_1, ()), d_, most, deep, ()) =>
  bd k (spec_l1Rd_below k ((r_0, r_1, ()), 4, ())) fun y1 =>
  iter (spec_l1Rd_block.l0 k R_) k ((y1.2.1.1, y1.2.1.2.1, ()), most, deep, (d_.1, d_.2.1, d_.2.2.1, ()), ([] : List QT0), IntKind.wrap .i64 (1 + y1.1.1), ())
noncomputable def spec_l1Rd_block (k : Nat) : QT31 → Option QT25 := iter (spec_l1Rd_block.f k) k
noncomputable def spec_l1Rd_block.sg (k : Nat) : Sig := ⟨spec_l1Rd_block.A, spec_l1Rd_block.R, spec_l1Rd_block k⟩
noncomputable def spec_l1Rd_block.C (k : Nat) (R_ : QT31 → Option QT25) : Ctx := ⟨Tryz.prog, [(17, [spec_l1Rd_below.sg k]), (58, [spec_l1Rd_line.sg k R_])], k, [(11, QS10)], []⟩
theorem spec_l1Rd_block.ev (k : Nat) (R_ : QT31 → Option QT25) (x : spec_l1Rd_block.A.T) : evFunc (spec_l1Rd_block.C k R_) spec_l1Rd_block.ann Tryz.f32 spec_l1Rd_block.A spec_l1Rd_block.R x = spec_l1Rd_block.f k R_ x := by kernel_rfl
theorem spec_l1Rd_block.oks {L : List (Nat × Obj)}  (k : Nat) : (n : Nat) → SigHolds Tryz.prog L 32 ⟨spec_l1Rd_block.A, spec_l1Rd_block.R, iter (spec_l1Rd_block.f k) n⟩
  | 0 => sig_zero Tryz.func32 (by kernel_rfl) (by kernel_rfl)
  | n + 1 => have ih := spec_l1Rd_block.oks  k n
    sig_of_ev (C := spec_l1Rd_block.C k (iter (spec_l1Rd_block.f k) n)) (holds_cons (allok_cons (spec_l1Rd_below.ok k) allok_nil) (holds_cons (allok_cons (spec_l1Rd_line.ok k _ ih) allok_nil) holds_nil)) (by kernel_rfl) Tryz.func32 (by kernel_rfl) _ _ _ (fun x y h => (spec_l1Rd_block.ev k _ x).trans h) (by kernel_rfl)
theorem spec_l1Rd_block.ok {L : List (Nat × Obj)}  (k : Nat) : SigHolds Tryz.prog L 32 (spec_l1Rd_block.sg k) := spec_l1Rd_block.oks  k k
def spec_l1Rd_prog.A : Sh := (.cons QS18 .nil)
def spec_l1Rd_prog.R : Sh := (.cons (.agg QS30) .nil)
def spec_l1Rd_prog.ann : Ann := { loops := [(0, [(0, QS18), (2, (.box (.cons (.own .str) (.cons (.own .str) (.cons (.own QK57) (.cons (.rows QS10) .nil)))))), (3, QS24), (4, (.box QS30)), (5, (.pur (.int .i64)))])], joins := [], keys := [(6, [([4], false), ([4], false), ([], false), ([3], false), ([4], false), ([4], false), ([4], false), ([], false), ([0, 25], true), ([4, 25, 26], true), ([4], false), ([4, 26], true)])] }
noncomputable def spec_l1Rd_prog.l0 (k : Nat)  (G0 : (QT11 × QT8 × QT2 × QT8 × Int × Unit) → Option ((QT8 × Unit) × (QT11 × Unit))) : (QT11 × QT8 × QT2 × QT8 × Int × Unit) → Option ((QT8 × Unit) × (QT11 × Unit)) := fun x => match x with
 | ((r_0, r_1, ()), (t2_0, t2_1, t2_2, t2_3, ()), (d__0, d__1, d__2, ()), (p_0, p_1, p_2, p_3, ()), i, ()) =>
  br k (decide (i > 0))
  (bd k (spec_l1Rd_block k ((r_0, r_1, ()), (d__0, d__1, d__2, ()), IntKind.wrap .i64 (26 - (p_3.length : Int)), 2, ())) fun y3 =>
  br k (decide ((p_3.length + y3.1.1.length) * 80 ≤ maxBytes))
  (G0 ((y3.2.1.1, y3.2.1.2.1, ()), (t2_0, t2_1, t2_2, t2_3, ()), (d__0, d__1, d__2, ()), (p_0, p_1, p_2, p_3 ++ y3.1.1, ()), IntKind.wrap .i64 (i - 1), ()))
  none)
  (br k (decide ((p_3.length : Int) > 30))
  (some (((p_0, p_1, p_2, ([(4, 0, [], [], 0, 9, ())] : List QT0), ()), ()), ((r_0, r_1, ()), ())))
  (some (((p_0, p_1, p_2, p_3, ()), ()), ((r_0, r_1, ()), ()))))
noncomputable def spec_l1Rd_prog (k : Nat) : (QT11 × Unit) → Option ((QT8 × Unit) × (QT11 × Unit)) := fun x => match x with
 | ((r_0, r_1, ()), ()) =>
  bd k (spec_l1Rd_decl k ((r_0, r_1, ()), ())) fun y1 =>
  bd k (spec_l1Rd_below k ((y1.2.1.1, y1.2.1.2.1, ()), 3, ())) fun y2 =>
  iter (spec_l1Rd_prog.l0 k) k ((y2.2.1.1, y2.2.1.2.1, ()), ([], [], [], ([] : List QT0), ()), (y1.1.1.1, y1.1.1.2.1, y1.1.1.2.2.1, ()), (y1.1.1.1, y1.1.1.2.1, y1.1.1.2.2.1, ([] : List QT0), ()), IntKind.wrap .i64 (1 + y2.1.1), ())
noncomputable def spec_l1Rd_prog.sg (k : Nat) : Sig := ⟨spec_l1Rd_prog.A, spec_l1Rd_prog.R, spec_l1Rd_prog k⟩
noncomputable def spec_l1Rd_prog.C (k : Nat) : Ctx := ⟨Tryz.prog, [(31, [spec_l1Rd_decl.sg k]), (17, [spec_l1Rd_below.sg k]), (32, [spec_l1Rd_block.sg k])], k, [(33, QS10)], []⟩
theorem spec_l1Rd_prog.ev (k : Nat) (x : spec_l1Rd_prog.A.T) : evFunc (spec_l1Rd_prog.C k) spec_l1Rd_prog.ann Tryz.f14 spec_l1Rd_prog.A spec_l1Rd_prog.R x = spec_l1Rd_prog k x := by kernel_rfl
theorem spec_l1Rd_prog.ok {L : List (Nat × Obj)}  (k : Nat) : SigHolds Tryz.prog L 14 (spec_l1Rd_prog.sg k) :=
  sig_of_ev (C := spec_l1Rd_prog.C k) (holds_cons (allok_cons (spec_l1Rd_decl.ok k) allok_nil) (holds_cons (allok_cons (spec_l1Rd_below.ok k) allok_nil) (holds_cons (allok_cons (spec_l1Rd_block.ok k) allok_nil) holds_nil))) (by kernel_rfl) Tryz.func14 (by kernel_rfl) _ _ _ (fun x y h => (spec_l1Rd_prog.ev k x).trans h) (by kernel_rfl)
def spec_l1Rd_word.A : Sh := (.cons QS18 .nil)
def spec_l1Rd_word.R : Sh := (.cons (.pur (.int .u64)) .nil)
def spec_l1Rd_word.ann : Ann := { loops := [(0, [(0, QS18), (3, (.pur (.int .u64))), (4, (.pur (.int .i64)))])], joins := [], keys := [] }
noncomputable def spec_l1Rd_word.l0 (k : Nat)  (G0 : (QT11 × Int × Int × Unit) → Option QT54) : (QT11 × Int × Int × Unit) → Option QT54 := fun x => match x with
 | ((r_0, r_1, ()), x_, i, ()) =>
  br k (decide (i < 8))
  (br k (decide (0 ≤ (8 : Int)))
  (bd k (spec_l1Rd_next k ((r_0, r_1, ()), ())) fun y1 =>
  G0 ((y1.2.1.1, y1.2.1.2.1, ()), IntKind.wrap .u64 (((BitVec.ofInt 64 (IntKind.wrap .u64 (x_ * 2 ^ (min (8 : Int).toNat 64))) ||| BitVec.ofInt 64 (IntKind.wrap .u64 y1.1.1)).toNat : Int)), IntKind.wrap .i64 (i + 1), ()))
  none)
  (some ((x_, ()), ((r_0, r_1, ()), ())))
noncomputable def spec_l1Rd_word (k : Nat) : (QT11 × Unit) → Option QT54 := fun x => match x with
 | ((r_0, r_1, ()), ()) =>
  iter (spec_l1Rd_word.l0 k) k ((r_0, r_1, ()), 0, 0, ())
noncomputable def spec_l1Rd_word.sg (k : Nat) : Sig := ⟨spec_l1Rd_word.A, spec_l1Rd_word.R, spec_l1Rd_word k⟩
noncomputable def spec_l1Rd_word.C (k : Nat) : Ctx := ⟨Tryz.prog, [(35, [spec_l1Rd_next.sg k])], k, [], []⟩
theorem spec_l1Rd_word.ev (k : Nat) (x : spec_l1Rd_word.A.T) : evFunc (spec_l1Rd_word.C k) spec_l1Rd_word.ann Tryz.f59 spec_l1Rd_word.A spec_l1Rd_word.R x = spec_l1Rd_word k x := by kernel_rfl
theorem spec_l1Rd_word.ok {L : List (Nat × Obj)}  (k : Nat) : SigHolds Tryz.prog L 59 (spec_l1Rd_word.sg k) :=
  sig_of_ev (C := spec_l1Rd_word.C k) (holds_cons (allok_cons (spec_l1Rd_next.ok k) allok_nil) holds_nil) (by kernel_rfl) Tryz.func59 (by kernel_rfl) _ _ _ (fun x y h => (spec_l1Rd_word.ev k x).trans h) (by kernel_rfl)
def spec_l1Rd_near.A : Sh := (.cons QS18 QS5)
def spec_l1Rd_near.R : Sh := QS12
def spec_l1Rd_near.ann : Ann := { loops := [], joins := [], keys := [] }
noncomputable def spec_l1Rd_near (k : Nat) : (QT11 × Int × Int × Unit) → Option ((Int × Unit) × (QT11 × Unit × Unit × Unit)) := fun x => match x with
 | ((r_0, r_1, ()), low, high, ()) =>
  bd k (spec_l1Rd_below k ((r_0, r_1, ()), 8, ())) fun y1 =>
  br k (y1.1.1 == 0)
  (some ((low, ()), ((y1.2.1.1, y1.2.1.2.1, ()), (), (), ())))
  (br k (y1.1.1 == 1)
  (some ((high, ()), ((y1.2.1.1, y1.2.1.2.1, ()), (), (), ())))
  (br k (decide (high < low))
  (some ((low, ()), ((y1.2.1.1, y1.2.1.2.1, ()), (), (), ())))
  (bd k (spec_l1Rd_word k ((y1.2.1.1, y1.2.1.2.1, ()), ())) fun y2 =>
  br k (decide (0 ≤ (1 : Int)))
  (br k (!decide ((IntKind.wrap .u64 (IntKind.wrap .i64 ((IntKind.wrap .i64 (high - low)) + 1))) = 0))
  (some ((IntKind.wrap .i64 (low + (IntKind.wrap .i64 ((y2.1.1.fdiv (2 ^ (min (1 : Int).toNat 64))).tmod (IntKind.wrap .u64 (IntKind.wrap .i64 ((IntKind.wrap .i64 (high - low)) + 1)))))), ()), ((y2.2.1.1, y2.2.1.2.1, ()), (), (), ())))
  none)
  none)))
noncomputable def spec_l1Rd_near.sg (k : Nat) : Sig := ⟨spec_l1Rd_near.A, spec_l1Rd_near.R, spec_l1Rd_near k⟩
noncomputable def spec_l1Rd_near.C (k : Nat) : Ctx := ⟨Tryz.prog, [(17, [spec_l1Rd_below.sg k]), (59, [spec_l1Rd_word.sg k])], k, [], []⟩
theorem spec_l1Rd_near.ev (k : Nat) (x : spec_l1Rd_near.A.T) : evFunc (spec_l1Rd_near.C k) spec_l1Rd_near.ann Tryz.f36 spec_l1Rd_near.A spec_l1Rd_near.R x = spec_l1Rd_near k x := by kernel_rfl
theorem spec_l1Rd_near.ok {L : List (Nat × Obj)}  (k : Nat) : SigHolds Tryz.prog L 36 (spec_l1Rd_near.sg k) :=
  sig_of_ev (C := spec_l1Rd_near.C k) (holds_cons (allok_cons (spec_l1Rd_below.ok k) allok_nil) (holds_cons (allok_cons (spec_l1Rd_word.ok k) allok_nil) holds_nil)) (by kernel_rfl) Tryz.func36 (by kernel_rfl) _ _ _ (fun x y h => (spec_l1Rd_near.ev k x).trans h) (by kernel_rfl)
def spec_l1Rd_off.A : Sh := (.cons QS18 QS5)
def spec_l1Rd_off.R : Sh := QS12
def spec_l1Rd_off.ann : Ann := { loops := [], joins := [], keys := [] }
noncomputable def spec_l1Rd_off (k : Nat) : (QT11 × Int × Int × Unit) → Option ((Int × Unit) × (QT11 × Unit × Unit × Unit)) := fun x => match x with
 | ((r_0, r_1, ()), low, high, ()) =>
  bd k (spec_l1Rd_once k ((r_0, r_1, ()), 24, ())) fun y1 =>
  br k (y1.1.1)
  (bd k (spec_l1Rd_below k ((y1.2.1.1, y1.2.1.2.1, ()), 4, ())) fun y2 =>
  br k (decide (0 ≤ y2.1.1 ∧ y2.1.1 < (([IntKind.wrap .i64 (low - 1), IntKind.wrap .i64 (high + 1), (-9223372036854775808), 9223372036854775807] : List Int).length : Int)))
  (bd k (([IntKind.wrap .i64 (low - 1), IntKind.wrap .i64 (high + 1), (-9223372036854775808), 9223372036854775807] : List Int)[y2.1.1.toNat]?) fun x3 =>
  some ((x3, ()), ((y2.2.1.1, y2.2.1.2.1, ()), (), (), ())))
  none)
  (bd k (spec_l1Rd_near k ((y1.2.1.1, y1.2.1.2.1, ()), low, high, ())) fun y4 =>
  some ((y4.1.1, ()), ((y4.2.1.1, y4.2.1.2.1, ()), (), (), ())))
noncomputable def spec_l1Rd_off.sg (k : Nat) : Sig := ⟨spec_l1Rd_off.A, spec_l1Rd_off.R, spec_l1Rd_off k⟩
noncomputable def spec_l1Rd_off.C (k : Nat) : Ctx := ⟨Tryz.prog, [(15, [spec_l1Rd_once.sg k]), (17, [spec_l1Rd_below.sg k]), (36, [spec_l1Rd_near.sg k])], k, [], []⟩
theorem spec_l1Rd_off.ev (k : Nat) (x : spec_l1Rd_off.A.T) : evFunc (spec_l1Rd_off.C k) spec_l1Rd_off.ann Tryz.f18 spec_l1Rd_off.A spec_l1Rd_off.R x = spec_l1Rd_off k x := by kernel_rfl
theorem spec_l1Rd_off.ok {L : List (Nat × Obj)}  (k : Nat) : SigHolds Tryz.prog L 18 (spec_l1Rd_off.sg k) :=
  sig_of_ev (C := spec_l1Rd_off.C k) (holds_cons (allok_cons (spec_l1Rd_once.ok k) allok_nil) (holds_cons (allok_cons (spec_l1Rd_below.ok k) allok_nil) (holds_cons (allok_cons (spec_l1Rd_near.ok k) allok_nil) holds_nil))) (by kernel_rfl) Tryz.func18 (by kernel_rfl) _ _ _ (fun x y h => (spec_l1Rd_off.ev k x).trans h) (by kernel_rfl)
def spec_l1Rd_hurtDecl.A : Sh := (.cons QS18 (.cons QS6 .nil))
def spec_l1Rd_hurtDecl.R : Sh := (.cons QS6 .nil)
def spec_l1Rd_hurtDecl.ann : Ann := { loops := [], joins := [], keys := [] }
noncomputable def spec_l1Rd_hurtDecl (k : Nat) : (QT11 × QT2 × Unit) → Option ((QT2 × Unit) × (QT11 × Unit × Unit)) := fun x => match x with
 | ((r_0, r_1, ()), d_, ()) =>
  bd k (spec_l1Rd_below k ((r_0, r_1, ()), 24, ())) fun y1 =>
  br k (y1.1.1 == 0)
  (br k (decide ((([] : List (List UInt8)).length + d_.1.length) * 16 ≤ maxBytes))
  (bd k (spec_l1Rd_below k ((y1.2.1.1, y1.2.1.2.1, ()), 6, ())) fun y2 =>
  br k (decide (0 ≤ y2.1.1 ∧ y2.1.1 < (([[120], [105, 102], [88], [], [108, 111, 110, 103, 101, 114, 110, 97, 109, 101], [111, 107, 110, 97, 109, 101]] : List (List UInt8)).length : Int)))
  (bd k (([[120], [105, 102], [88], [], [108, 111, 110, 103, 101, 114, 110, 97, 109, 101], [111, 107, 110, 97, 109, 101]] : List (List UInt8))[y2.1.1.toNat]?) fun x3 =>
  br k (decide (((([] : List (List UInt8)) ++ d_.1).length + ([x3] : List (List UInt8)).length) * 16 ≤ maxBytes))
  (some ((((([] : List (List UInt8)) ++ d_.1) ++ ([x3] : List (List UInt8)), d_.2.1, d_.2.2.1, ()), ()), ((y2.2.1.1, y2.2.1.2.1, ()), (), ())))
  none)
  none)
  none)
  (br k (y1.1.1 == 1)
  (br k (decide ((([] : List QT29).length + d_.2.2.1.length) * 24 ≤ maxBytes))
  (bd k (spec_l1Rd_off k ((y1.2.1.1, y1.2.1.2.1, ()), 1, 16, ())) fun y4 =>
  br k (decide (((([] : List QT29) ++ d_.2.2.1).length + ([([100], y4.1.1, ())] : List QT29).length) * 24 ≤ maxBytes))
  (some (((d_.1, d_.2.1, (([] : List QT29) ++ d_.2.2.1) ++ ([([100], y4.1.1, ())] : List QT29), ()), ()), ((y4.2.1.1, y4.2.1.2.1, ()), (), ())))
  none)
  none)
  (br k (y1.1.1 == 2)
  (bd k (spec_l1Rd_below k ((y1.2.1.1, y1.2.1.2.1, ()), 2, ())) fun y5 =>
  br k (decide (0 ≤ (IntKind.wrap .i64 (5 + y5.1.1)) ∧ (IntKind.wrap .i64 (5 + y5.1.1)) ≤ (([[112], [113], [114], [115], [116], [117]] : List (List UInt8)).length : Int)))
  (some (((subL ([[112], [113], [114], [115], [116], [117]] : List (List UInt8)) ((0 : Int).toNat) ((IntKind.wrap .i64 (5 + y5.1.1)).toNat - (0 : Int).toNat), d_.2.1, d_.2.2.1, ()), ()), ((y5.2.1.1, y5.2.1.2.1, ()), (), ())))
  none)
  (some ((d_, ()), ((y1.2.1.1, y1.2.1.2.1, ()), (), ())))))
noncomputable def spec_l1Rd_hurtDecl.sg (k : Nat) : Sig := ⟨spec_l1Rd_hurtDecl.A, spec_l1Rd_hurtDecl.R, spec_l1Rd_hurtDecl k⟩
noncomputable def spec_l1Rd_hurtDecl.C (k : Nat) : Ctx := ⟨Tryz.prog, [(17, [spec_l1Rd_below.sg k]), (18, [spec_l1Rd_off.sg k])], k, [], []⟩
theorem spec_l1Rd_hurtDecl.ev (k : Nat) (x : spec_l1Rd_hurtDecl.A.T) : evFunc (spec_l1Rd_hurtDecl.C k) spec_l1Rd_hurtDecl.ann Tryz.f33 spec_l1Rd_hurtDecl.A spec_l1Rd_hurtDecl.R x = spec_l1Rd_hurtDecl k x := by kernel_rfl
theorem spec_l1Rd_hurtDecl.ok {L : List (Nat × Obj)}  (k : Nat) : SigHolds Tryz.prog L 33 (spec_l1Rd_hurtDecl.sg k) :=
  sig_of_ev (C := spec_l1Rd_hurtDecl.C k) (holds_cons (allok_cons (spec_l1Rd_below.ok k) allok_nil) (holds_cons (allok_cons (spec_l1Rd_off.ok k) allok_nil) holds_nil)) (by kernel_rfl) Tryz.func33 (by kernel_rfl) _ _ _ (fun x y h => (spec_l1Rd_hurtDecl.ev k x).trans h) (by kernel_rfl)
def spec_l1Rd_hurtExpr.A : Sh := (.cons QS18 (.cons (.own QK1) .nil))
def spec_l1Rd_hurtExpr.R : Sh := (.cons (.own QK1) .nil)
def spec_l1Rd_hurtExpr.ann : Ann := { loops := [(1, [(0, QS18), (1, (.own QK1)), (5, (.pur (.int .i64)))])], joins := [(10, [(54, .bool)])], keys := [] }
noncomputable def spec_l1Rd_hurtExpr.l1 (k : Nat)  (G1 : (QT11 × QT16 × Int × Unit) → Option ((QT16 × Unit) × (QT11 × Unit × Unit))) : (QT11 × QT16 × Int × Unit) → Option ((QT16 × Unit) × (QT11 × Unit × Unit)) := fun x => match x with
 | ((r_0, r_1, ()), l_, i, ()) =>
  (br k (decide (i < 42))
  (br k (!decide ((4 : Int) = 0))
  (some (decide ((l_.length : Int) < (IntKind.wrap .i64 (39 + ((r_0.length : Int).tmod 4)))), ()))
  none)
  (some (false, ())) : Option (Bool × Unit)).bind fun j9 =>
  br k (j9.1)
  (br k (decide ((l_.length + ([(19, 0, ())] : List (Int × Int × Unit)).length) * 16 ≤ maxBytes))
  (G1 ((r_0, r_1, ()), l_ ++ ([(19, 0, ())] : List (Int × Int × Unit)), IntKind.wrap .i64 (i + 1), ()))
  none)
  (some ((l_, ()), ((r_0, r_1, ()), (), ())))
noncomputable def spec_l1Rd_hurtExpr (k : Nat) : (QT11 × QT16 × Unit) → Option ((QT16 × Unit) × (QT11 × Unit × Unit)) := fun x => match x with
 | ((r_0, r_1, ()), l_, ()) =>
  bd k (spec_l1Rd_below k ((r_0, r_1, ()), 20, ())) fun y1 =>
  br k (y1.1.1 == 0)
  (bd k (spec_l1Rd_below k ((y1.2.1.1, y1.2.1.2.1, ()), IntKind.wrap .i64 ((l_.length : Int) + 1), ())) fun y2 =>
  br k (decide (0 ≤ y2.1.1 ∧ y2.1.1 ≤ (l_.length : Int)))
  (some ((subL l_ ((0 : Int).toNat) (y2.1.1.toNat - (0 : Int).toNat), ()), ((y2.2.1.1, y2.2.1.2.1, ()), (), ())))
  none)
  (br k (y1.1.1 == 1)
  (bd k (spec_l1Rd_below k ((y1.2.1.1, y1.2.1.2.1, ()), (l_.length : Int), ())) fun y3 =>
  bd k (spec_l1Rd_off k ((y3.2.1.1, y3.2.1.2.1, ()), 1, 21, ())) fun y4 =>
  br k (decide (0 ≤ y3.1.1 ∧ y3.1.1 < (l_.length : Int)))
  (bd k (l_[y3.1.1.toNat]?) fun x5 =>
  some ((l_.set y3.1.1.toNat (y4.1.1, x5.2.1, ()), ()), ((y4.2.1.1, y4.2.1.2.1, ()), (), ())))
  none)
  (br k (y1.1.1 == 2)
  (bd k (spec_l1Rd_below k ((y1.2.1.1, y1.2.1.2.1, ()), (l_.length : Int), ())) fun y6 =>
  bd k (spec_l1Rd_off k ((y6.2.1.1, y6.2.1.2.1, ()), 0, 3, ())) fun y7 =>
  br k (decide (0 ≤ y6.1.1 ∧ y6.1.1 < (l_.length : Int)))
  (bd k (l_[y6.1.1.toNat]?) fun x8 =>
  some ((l_.set y6.1.1.toNat (x8.1, y7.1.1, ()), ()), ((y7.2.1.1, y7.2.1.2.1, ()), (), ())))
  none)
  (br k (y1.1.1 == 3)
  (iter (spec_l1Rd_hurtExpr.l1 k) k ((y1.2.1.1, y1.2.1.2.1, ()), l_, 0, ()))
  (some ((l_, ()), ((y1.2.1.1, y1.2.1.2.1, ()), (), ()))))))
noncomputable def spec_l1Rd_hurtExpr.sg (k : Nat) : Sig := ⟨spec_l1Rd_hurtExpr.A, spec_l1Rd_hurtExpr.R, spec_l1Rd_hurtExpr k⟩
noncomputable def spec_l1Rd_hurtExpr.C (k : Nat) : Ctx := ⟨Tryz.prog, [(17, [spec_l1Rd_below.sg k]), (18, [spec_l1Rd_off.sg k])], k, [], []⟩
theorem spec_l1Rd_hurtExpr.ev (k : Nat) (x : spec_l1Rd_hurtExpr.A.T) : evFunc (spec_l1Rd_hurtExpr.C k) spec_l1Rd_hurtExpr.ann Tryz.f34 spec_l1Rd_hurtExpr.A spec_l1Rd_hurtExpr.R x = spec_l1Rd_hurtExpr k x := by kernel_rfl
theorem spec_l1Rd_hurtExpr.ok {L : List (Nat × Obj)}  (k : Nat) : SigHolds Tryz.prog L 34 (spec_l1Rd_hurtExpr.sg k) :=
  sig_of_ev (C := spec_l1Rd_hurtExpr.C k) (holds_cons (allok_cons (spec_l1Rd_below.ok k) allok_nil) (holds_cons (allok_cons (spec_l1Rd_off.ok k) allok_nil) holds_nil)) (by kernel_rfl) Tryz.func34 (by kernel_rfl) _ _ _ (fun x y h => (spec_l1Rd_hurtExpr.ev k x).trans h) (by kernel_rfl)
def spec_l1Rd_hurtProg.A : Sh := (.cons QS18 (.cons (.agg QS30) .nil))
def spec_l1Rd_hurtProg.R : Sh := (.cons (.agg QS30) .nil)
def spec_l1Rd_hurtProg.ann : Ann := { loops := [(1, [(0, QS18), (3, (.box QS30)), (4, (.box (.cons (.own .str) (.cons (.own .str) (.cons (.own QK57) (.cons (.rows QS10) .nil)))))), (5, (.pur (.int .i64))), (6, (.pur (.int .i64)))])], joins := [(15, [(73, .bool)])], keys := [(6, [([3], false), ([3], false), ([], false), ([], false), ([0, 27], true), ([1], false), ([1], false), ([1], true)]), (8, [([3], false), ([3], false), ([], false), ([1], false), ([3], false), ([3], false), ([], false), ([], false), ([1], false), ([1, 41], true), ([3], false), ([1, 3, 41], true)]), (10, [([3], false), ([3], false), ([], false), ([], false), ([0, 49], true), ([1], false), ([1], false), ([1], true)]), (12, [([3], false), ([3], false), ([], false), ([], false), ([0, 58], true), ([1], false), ([1], false), ([1], true)]), (20, [([3], false), ([3], false), ([], false), ([], false), ([3], false), ([3], false), ([], false), ([1, 89], false), ([1, 89], false), ([1, 89, 101], true), ([0, 101, 102], true), ([1, 101], false), ([1, 101], false), ([1, 101, 102], true)])] }
noncomputable def spec_l1Rd_hurtProg.l1 (k : Nat)  (G1 : (QT11 × QT8 × QT8 × Int × Int × Unit) → Option QT45) : (QT11 × QT8 × QT8 × Int × Int × Unit) → Option QT45 := fun x => match x with
 | ((r_0, r_1, ()), (p_0, p_1, p_2, p_3, ()), (t4_0, t4_1, t4_2, t4_3, ()), at_, i, ()) =>
  (br k (decide (i < 32))
  (br k (!decide ((3 : Int) = 0))
  (some (decide ((p_3.length : Int) < (IntKind.wrap .i64 (29 + (at_.tmod 3)))), ()))
  none)
  (some (false, ())) : Option (Bool × Unit)).bind fun j10 =>
  br k (j10.1)
  (br k (decide ((p_3.length + ([(14, 0, [], [], 0, 0, ())] : List QT0).length) * 80 ≤ maxBytes))
  (G1 ((r_0, r_1, ()), (p_0, p_1, p_2, p_3 ++ ([(14, 0, [], [], 0, 0, ())] : List QT0), ()), (t4_0, t4_1, t4_2, t4_3, ()), at_, IntKind.wrap .i64 (i + 1), ()))
  none)
  (some (((p_0, p_1, p_2, p_3, ()), ()), ((r_0, r_1, ()), ((), (), (), (), ()), ())))
noncomputable def spec_l1Rd_hurtProg (k : Nat) : (QT11 × QT8 × Unit) → Option QT45 := fun x => match x with
 | ((r_0, r_1, ()), (p_0, p_1, p_2, p_3, ()), ()) =>
  bd k (spec_l1Rd_below k ((r_0, r_1, ()), (p_3.length : Int), ())) fun y1 =>
  bd k (spec_l1Rd_below k ((y1.2.1.1, y1.2.1.2.1, ()), 24, ())) fun y2 =>
  br k (y2.1.1 == 0)
  (bd k (spec_l1Rd_hurtDecl k ((y2.2.1.1, y2.2.1.2.1, ()), (p_0, p_1, p_2, ()), ())) fun y3 =>
  some (((y3.1.1.1, y3.1.1.2.1, y3.1.1.2.2.1, p_3, ()), ()), ((y3.2.1.1, y3.2.1.2.1, ()), ((), (), (), (), ()), ())))
  (br k (y2.1.1 == 1)
  (bd k (spec_l1Rd_off k ((y2.2.1.1, y2.2.1.2.1, ()), 1, 14, ())) fun y4 =>
  br k (decide (0 ≤ y1.1.1 ∧ y1.1.1 < (p_3.length : Int)))
  (bd k (p_3[y1.1.1.toNat]?) fun x5 =>
  some (((p_0, p_1, p_2, p_3.set y1.1.1.toNat (y4.1.1, x5.2.1, x5.2.2.1, x5.2.2.2.1, x5.2.2.2.2.1, x5.2.2.2.2.2.1, ()), ()), ()), ((y4.2.1.1, y4.2.1.2.1, ()), ((), (), (), (), ()), ())))
  none)
  (br k (y2.1.1 == 2)
  (br k (decide (0 ≤ y1.1.1 ∧ y1.1.1 ≤ (p_3.length : Int)))
  (br k (decide (0 ≤ (IntKind.wrap .i64 (y1.1.1 + 1)) ∧ (IntKind.wrap .i64 (y1.1.1 + 1)) ≤ (p_3.length : Int)))
  (br k (decide (((0 : Int).toNat) + (y1.1.1.toNat - (0 : Int).toNat) ≤ ((IntKind.wrap .i64 (y1.1.1 + 1)).toNat)))
  (br k (decide (((y1.1.1.toNat - (0 : Int).toNat) + ((p_3.length : Int).toNat - (IntKind.wrap .i64 (y1.1.1 + 1)).toNat)) * 80 ≤ maxBytes))
  (some (((p_0, p_1, p_2, subL p_3 ((0 : Int).toNat) (y1.1.1.toNat - (0 : Int).toNat) ++ subL p_3 ((IntKind.wrap .i64 (y1.1.1 + 1)).toNat) ((p_3.length : Int).toNat - (IntKind.wrap .i64 (y1.1.1 + 1)).toNat), ()), ()), ((y2.2.1.1, y2.2.1.2.1, ()), ((), (), (), (), ()), ())))
  none)
  none)
  none)
  none)
  (br k (y2.1.1 == 3)
  (bd k (spec_l1Rd_off k ((y2.2.1.1, y2.2.1.2.1, ()), (-3), 3, ())) fun y6 =>
  br k (decide (0 ≤ y1.1.1 ∧ y1.1.1 < (p_3.length : Int)))
  (bd k (p_3[y1.1.1.toNat]?) fun x7 =>
  some (((p_0, p_1, p_2, p_3.set y1.1.1.toNat (x7.1, x7.2.1, x7.2.2.1, x7.2.2.2.1, x7.2.2.2.2.1, y6.1.1, ()), ()), ()), ((y6.2.1.1, y6.2.1.2.1, ()), ((), (), (), (), ()), ())))
  none)
  (br k (y2.1.1 == 4)
  (bd k (spec_l1Rd_off k ((y2.2.1.1, y2.2.1.2.1, ()), 0, 3, ())) fun y8 =>
  br k (decide (0 ≤ y1.1.1 ∧ y1.1.1 < (p_3.length : Int)))
  (bd k (p_3[y1.1.1.toNat]?) fun x9 =>
  some (((p_0, p_1, p_2, p_3.set y1.1.1.toNat (x9.1, y8.1.1, x9.2.2.1, x9.2.2.2.1, x9.2.2.2.2.1, x9.2.2.2.2.2.1, ()), ()), ()), ((y8.2.1.1, y8.2.1.2.1, ()), ((), (), (), (), ()), ())))
  none)
  (br k (y2.1.1 == 5)
  (iter (spec_l1Rd_hurtProg.l1 k) k ((y2.2.1.1, y2.2.1.2.1, ()), (p_0, p_1, p_2, p_3, ()), ([], [], [], ([] : List QT0), ()), y1.1.1, 0, ()))
  (br k (y2.1.1 == 6)
  (br k (decide (0 ≤ y1.1.1 ∧ y1.1.1 < (p_3.length : Int)))
  (bd k (p_3[y1.1.1.toNat]?) fun x11 =>
  br k (decide ((x11.2.2.2.1.length : Int) > 0))
  (br k (decide (0 ≤ y1.1.1 ∧ y1.1.1 < (p_3.length : Int)))
  (bd k ((p_3.set y1.1.1.toNat (x11.1, x11.2.1, x11.2.2.1, x11.2.2.2.1, x11.2.2.2.2.1, x11.2.2.2.2.2.1, ()))[y1.1.1.toNat]?) fun x12 =>
  bd k (spec_l1Rd_hurtExpr k ((y2.2.1.1, y2.2.1.2.1, ()), x12.2.2.2.1, ())) fun y13 =>
  br k (decide (0 ≤ y1.1.1 ∧ y1.1.1 < ((p_3.set y1.1.1.toNat (x11.1, x11.2.1, x11.2.2.1, x11.2.2.2.1, x11.2.2.2.2.1, x11.2.2.2.2.2.1, ())).length : Int)))
  (br k (decide (y1.1.1.toNat = y1.1.1.toNat))
  (some (((p_0, p_1, p_2, (p_3.set y1.1.1.toNat (x11.1, x11.2.1, x11.2.2.1, x11.2.2.2.1, x11.2.2.2.2.1, x11.2.2.2.2.2.1, ())).set y1.1.1.toNat (x12.1, x12.2.1, x12.2.2.1, y13.1.1, x12.2.2.2.2.1, x12.2.2.2.2.2.1, ()), ()), ()), ((y13.2.1.1, y13.2.1.2.1, ()), ((), (), (), (), ()), ())))
  none)
  none)
  none)
  (some (((p_0, p_1, p_2, p_3.set y1.1.1.toNat (x11.1, x11.2.1, x11.2.2.1, x11.2.2.2.1, x11.2.2.2.2.1, x11.2.2.2.2.2.1, ()), ()), ()), ((y2.2.1.1, y2.2.1.2.1, ()), ((), (), (), (), ()), ()))))
  none)
  (some (((p_0, p_1, p_2, p_3, ()), ()), ((y2.2.1.1, y2.2.1.2.1, ()), ((), (), (), (), ()), ())))))))))
noncomputable def spec_l1Rd_hurtProg.sg (k : Nat) : Sig := ⟨spec_l1Rd_hurtProg.A, spec_l1Rd_hurtProg.R, spec_l1Rd_hurtProg k⟩
noncomputable def spec_l1Rd_hurtProg.C (k : Nat) : Ctx := ⟨Tryz.prog, [(17, [spec_l1Rd_below.sg k]), (33, [spec_l1Rd_hurtDecl.sg k]), (18, [spec_l1Rd_off.sg k]), (34, [spec_l1Rd_hurtExpr.sg k])], k, [(79, QS10)], []⟩
theorem spec_l1Rd_hurtProg.ev (k : Nat) (x : spec_l1Rd_hurtProg.A.T) : evFunc (spec_l1Rd_hurtProg.C k) spec_l1Rd_hurtProg.ann Tryz.f16 spec_l1Rd_hurtProg.A spec_l1Rd_hurtProg.R x = spec_l1Rd_hurtProg k x := by kernel_rfl
theorem spec_l1Rd_hurtProg.ok {L : List (Nat × Obj)}  (k : Nat) : SigHolds Tryz.prog L 16 (spec_l1Rd_hurtProg.sg k) :=
  sig_of_ev (C := spec_l1Rd_hurtProg.C k) (holds_cons (allok_cons (spec_l1Rd_below.ok k) allok_nil) (holds_cons (allok_cons (spec_l1Rd_hurtDecl.ok k) allok_nil) (holds_cons (allok_cons (spec_l1Rd_off.ok k) allok_nil) (holds_cons (allok_cons (spec_l1Rd_hurtExpr.ok k) allok_nil) holds_nil)))) (by kernel_rfl) Tryz.func16 (by kernel_rfl) _ _ _ (fun x y h => (spec_l1Rd_hurtProg.ev k x).trans h) (by kernel_rfl)
def spec_l1Rd_num.A : Sh := (.cons QS18 .nil)
def spec_l1Rd_num.R : Sh := QS12
def spec_l1Rd_num.ann : Ann := { loops := [], joins := [], keys := [] }
noncomputable def spec_l1Rd_num (k : Nat) : (QT11 × Unit) → Option QT54 := fun x => match x with
 | ((r_0, r_1, ()), ()) =>
  bd k (spec_l1Rd_below k ((r_0, r_1, ()), 6, ())) fun y1 =>
  br k (y1.1.1 == 0)
  (bd k (spec_l1Rd_below k ((y1.2.1.1, y1.2.1.2.1, ()), 10, ())) fun y2 =>
  br k (decide (0 ≤ y2.1.1 ∧ y2.1.1 < (([(-9223372036854775808), (-9223372036854775807), 9223372036854775807, 9223372036854775806, (-1), 0, 1, 4294967296, (-4294967296), 3037000500] : List Int).length : Int)))
  (bd k (([(-9223372036854775808), (-9223372036854775807), 9223372036854775807, 9223372036854775806, (-1), 0, 1, 4294967296, (-4294967296), 3037000500] : List Int)[y2.1.1.toNat]?) fun x3 =>
  some ((x3, ()), ((y2.2.1.1, y2.2.1.2.1, ()), ())))
  none)
  (br k (y1.1.1 == 1)
  (bd k (spec_l1Rd_word k ((y1.2.1.1, y1.2.1.2.1, ()), ())) fun y4 =>
  some ((IntKind.wrap .i64 y4.1.1, ()), ((y4.2.1.1, y4.2.1.2.1, ()), ())))
  (br k (y1.1.1 == 2)
  (bd k (spec_l1Rd_word k ((y1.2.1.1, y1.2.1.2.1, ()), ())) fun y5 =>
  bd k (spec_l1Rd_below k ((y5.2.1.1, y5.2.1.2.1, ()), 60, ())) fun y6 =>
  br k (decide (0 ≤ (IntKind.wrap .u64 y6.1.1)))
  (some (((IntKind.wrap .i64 y5.1.1).fdiv (2 ^ (min (IntKind.wrap .u64 y6.1.1).toNat 64)), ()), ((y6.2.1.1, y6.2.1.2.1, ()), ())))
  none)
  (bd k (spec_l1Rd_below k ((y1.2.1.1, y1.2.1.2.1, ()), 41, ())) fun y7 =>
  some ((IntKind.wrap .i64 (y7.1.1 - 20), ()), ((y7.2.1.1, y7.2.1.2.1, ()), ())))))
noncomputable def spec_l1Rd_num.sg (k : Nat) : Sig := ⟨spec_l1Rd_num.A, spec_l1Rd_num.R, spec_l1Rd_num k⟩
noncomputable def spec_l1Rd_num.C (k : Nat) : Ctx := ⟨Tryz.prog, [(17, [spec_l1Rd_below.sg k]), (59, [spec_l1Rd_word.sg k])], k, [], []⟩
theorem spec_l1Rd_num.ev (k : Nat) (x : spec_l1Rd_num.A.T) : evFunc (spec_l1Rd_num.C k) spec_l1Rd_num.ann Tryz.f37 spec_l1Rd_num.A spec_l1Rd_num.R x = spec_l1Rd_num k x := by kernel_rfl
theorem spec_l1Rd_num.ok {L : List (Nat × Obj)}  (k : Nat) : SigHolds Tryz.prog L 37 (spec_l1Rd_num.sg k) :=
  sig_of_ev (C := spec_l1Rd_num.C k) (holds_cons (allok_cons (spec_l1Rd_below.ok k) allok_nil) (holds_cons (allok_cons (spec_l1Rd_word.ok k) allok_nil) holds_nil)) (by kernel_rfl) Tryz.func37 (by kernel_rfl) _ _ _ (fun x y h => (spec_l1Rd_num.ev k x).trans h) (by kernel_rfl)
def spec_l1Rd_inputs.A : Sh := (.cons QS18 .nil)
def spec_l1Rd_inputs.R : Sh := (.cons (.own (.int .i64)) .nil)
def spec_l1Rd_inputs.ann : Ann := { loops := [(0, [(0, QS18), (3, (.own (.int .i64))), (4, (.pur (.int .i64)))])], joins := [], keys := [] }
noncomputable def spec_l1Rd_inputs.l0 (k : Nat)  (G0 : (QT11 × (List Int) × Int × Unit) → Option (((List Int) × Unit) × (QT11 × Unit))) : (QT11 × (List Int) × Int × Unit) → Option (((List Int) × Unit) × (QT11 × Unit)) := fun x => match x with
 | ((r_0, r_1, ()), out_, i, ()) =>
  br k (decide (i > 0))
  (bd k (spec_l1Rd_num k ((r_0, r_1, ()), ())) fun y2 =>
  br k (decide ((out_.length + ([y2.1.1] : List Int).length) * 8 ≤ maxBytes))
  (G0 ((y2.2.1.1, y2.2.1.2.1, ()), out_ ++ ([y2.1.1] : List Int), IntKind.wrap .i64 (i - 1), ()))
  none)
  (bd k (spec_l1Rd_once k ((r_0, r_1, ()), 40, ())) fun y3 =>
  br k (y3.1.1)
  (bd k (spec_l1Rd_below k ((y3.2.1.1, y3.2.1.2.1, ()), 2, ())) fun y4 =>
  br k (decide (0 ≤ (IntKind.wrap .i64 (1000 + y4.1.1)) ∧ (IntKind.wrap .i64 (1000 + y4.1.1)) ≤ (IntKind.wrap .i64 (1000 + y4.1.1)) ∧ (IntKind.wrap .i64 (1000 + y4.1.1)) * 8 ≤ maxBytes))
  (some ((List.replicate (IntKind.wrap .i64 (1000 + y4.1.1)).toNat (Kd.z (.int .i64)), ()), ((y4.2.1.1, y4.2.1.2.1, ()), ())))
  none)
  (some ((out_, ()), ((y3.2.1.1, y3.2.1.2.1, ()), ()))))
noncomputable def spec_l1Rd_inputs (k : Nat) : (QT11 × Unit) → Option (((List Int) × Unit) × (QT11 × Unit)) := fun x => match x with
 | ((r_0, r_1, ()), ()) =>
  bd k (spec_l1Rd_below k ((r_0, r_1, ()), 12, ())) fun y1 =>
  iter (spec_l1Rd_inputs.l0 k) k ((y1.2.1.1, y1.2.1.2.1, ()), ([] : List Int), y1.1.1, ())
noncomputable def spec_l1Rd_inputs.sg (k : Nat) : Sig := ⟨spec_l1Rd_inputs.A, spec_l1Rd_inputs.R, spec_l1Rd_inputs k⟩
noncomputable def spec_l1Rd_inputs.C (k : Nat) : Ctx := ⟨Tryz.prog, [(17, [spec_l1Rd_below.sg k]), (37, [spec_l1Rd_num.sg k]), (15, [spec_l1Rd_once.sg k])], k, [], []⟩
theorem spec_l1Rd_inputs.ev (k : Nat) (x : spec_l1Rd_inputs.A.T) : evFunc (spec_l1Rd_inputs.C k) spec_l1Rd_inputs.ann Tryz.f19 spec_l1Rd_inputs.A spec_l1Rd_inputs.R x = spec_l1Rd_inputs k x := by kernel_rfl
theorem spec_l1Rd_inputs.ok {L : List (Nat × Obj)}  (k : Nat) : SigHolds Tryz.prog L 19 (spec_l1Rd_inputs.sg k) :=
  sig_of_ev (C := spec_l1Rd_inputs.C k) (holds_cons (allok_cons (spec_l1Rd_below.ok k) allok_nil) (holds_cons (allok_cons (spec_l1Rd_num.ok k) allok_nil) (holds_cons (allok_cons (spec_l1Rd_once.ok k) allok_nil) holds_nil))) (by kernel_rfl) Tryz.func19 (by kernel_rfl) _ _ _ (fun x y h => (spec_l1Rd_inputs.ev k x).trans h) (by kernel_rfl)
def spec_DrawRun.A : Sh := QS55
def spec_DrawRun.R : Sh := (.cons (.agg QS30) (.cons (.own (.int .i64)) QS12))
def spec_DrawRun.ann : Ann := { loops := [], joins := [], keys := [(10, [([6], false), ([], false), ([9, 30], true), ([], false), ([2, 11, 16], true), ([], false), ([], false)])] }
noncomputable def spec_DrawRun (k : Nat) : ((List Int) × Unit) → Option (QT52 × (Unit × Unit)) := fun x => match x with
 | (code, ()) =>
  bd k (spec_l1Open k (code, ())) fun y1 =>
  bd k (spec_l1Rd_prog k ((y1.1.1.1, y1.1.1.2.1, ()), ())) fun y2 =>
  bd k (spec_l1Rd_once k ((y2.2.1.1, y2.2.1.2.1, ()), 12, ())) fun y3 =>
  br k (y3.1.1)
  (bd k (spec_l1Rd_hurtProg k ((y3.2.1.1, y3.2.1.2.1, ()), (y2.1.1.1, y2.1.1.2.1, y2.1.1.2.2.1, y2.1.1.2.2.2.1, ()), ())) fun y4 =>
  bd k (spec_l1Rd_below k ((y4.2.1.1, y4.2.1.2.1, ()), 180, ())) fun y5 =>
  bd k (spec_l1Rd_once k ((y5.2.1.1, y5.2.1.2.1, ()), 8, ())) fun y6 =>
  br k (y6.1.1)
  (bd k (spec_l1Rd_below k ((y6.2.1.1, y6.2.1.2.1, ()), 20, ())) fun y7 =>
  bd k (spec_l1Rd_once k ((y7.2.1.1, y7.2.1.2.1, ()), 30, ())) fun y8 =>
  br k (y8.1.1)
  (bd k (spec_l1Rd_off k ((y8.2.1.1, y8.2.1.2.1, ()), 0, 2000, ())) fun y9 =>
  bd k (spec_l1Rd_inputs k ((y9.2.1.1, y9.2.1.2.1, ()), ())) fun y10 =>
  some (((y4.1.1.1, y4.1.1.2.1, y4.1.1.2.2.1, y4.1.1.2.2.2.1, ()), y10.1.1, y9.1.1, ()), ((), ())))
  (bd k (spec_l1Rd_inputs k ((y8.2.1.1, y8.2.1.2.1, ()), ())) fun y11 =>
  some (((y4.1.1.1, y4.1.1.2.1, y4.1.1.2.2.1, y4.1.1.2.2.2.1, ()), y11.1.1, y7.1.1, ()), ((), ()))))
  (bd k (spec_l1Rd_once k ((y6.2.1.1, y6.2.1.2.1, ()), 30, ())) fun y12 =>
  br k (y12.1.1)
  (bd k (spec_l1Rd_off k ((y12.2.1.1, y12.2.1.2.1, ()), 0, 2000, ())) fun y13 =>
  bd k (spec_l1Rd_inputs k ((y13.2.1.1, y13.2.1.2.1, ()), ())) fun y14 =>
  some (((y4.1.1.1, y4.1.1.2.1, y4.1.1.2.2.1, y4.1.1.2.2.2.1, ()), y14.1.1, y13.1.1, ()), ((), ())))
  (bd k (spec_l1Rd_inputs k ((y12.2.1.1, y12.2.1.2.1, ()), ())) fun y15 =>
  some (((y4.1.1.1, y4.1.1.2.1, y4.1.1.2.2.1, y4.1.1.2.2.2.1, ()), y15.1.1, IntKind.wrap .i64 (20 + y5.1.1), ()), ((), ())))))
  (bd k (spec_l1Rd_below k ((y3.2.1.1, y3.2.1.2.1, ()), 180, ())) fun y16 =>
  bd k (spec_l1Rd_once k ((y16.2.1.1, y16.2.1.2.1, ()), 8, ())) fun y17 =>
  br k (y17.1.1)
  (bd k (spec_l1Rd_below k ((y17.2.1.1, y17.2.1.2.1, ()), 20, ())) fun y18 =>
  bd k (spec_l1Rd_once k ((y18.2.1.1, y18.2.1.2.1, ()), 30, ())) fun y19 =>
  br k (y19.1.1)
  (bd k (spec_l1Rd_off k ((y19.2.1.1, y19.2.1.2.1, ()), 0, 2000, ())) fun y20 =>
  bd k (spec_l1Rd_inputs k ((y20.2.1.1, y20.2.1.2.1, ()), ())) fun y21 =>
  some (((y2.1.1.1, y2.1.1.2.1, y2.1.1.2.2.1, y2.1.1.2.2.2.1, ()), y21.1.1, y20.1.1, ()), ((), ())))
  (bd k (spec_l1Rd_inputs k ((y19.2.1.1, y19.2.1.2.1, ()), ())) fun y22 =>
  some (((y2.1.1.1, y2.1.1.2.1, y2.1.1.2.2.1, y2.1.1.2.2.2.1, ()), y22.1.1, y18.1.1, ()), ((), ()))))
  (bd k (spec_l1Rd_once k ((y17.2.1.1, y17.2.1.2.1, ()), 30, ())) fun y23 =>
  br k (y23.1.1)
  (bd k (spec_l1Rd_off k ((y23.2.1.1, y23.2.1.2.1, ()), 0, 2000, ())) fun y24 =>
  bd k (spec_l1Rd_inputs k ((y24.2.1.1, y24.2.1.2.1, ()), ())) fun y25 =>
  some (((y2.1.1.1, y2.1.1.2.1, y2.1.1.2.2.1, y2.1.1.2.2.2.1, ()), y25.1.1, y24.1.1, ()), ((), ())))
  (bd k (spec_l1Rd_inputs k ((y23.2.1.1, y23.2.1.2.1, ()), ())) fun y26 =>
  some (((y2.1.1.1, y2.1.1.2.1, y2.1.1.2.2.1, y2.1.1.2.2.2.1, ()), y26.1.1, IntKind.wrap .i64 (20 + y16.1.1), ()), ((), ())))))
noncomputable def spec_DrawRun.sg (k : Nat) : Sig := ⟨spec_DrawRun.A, spec_DrawRun.R, spec_DrawRun k⟩
noncomputable def spec_DrawRun.C (k : Nat) : Ctx := ⟨Tryz.prog, [(13, [spec_l1Open.sg k]), (14, [spec_l1Rd_prog.sg k]), (15, [spec_l1Rd_once.sg k]), (16, [spec_l1Rd_hurtProg.sg k]), (17, [spec_l1Rd_below.sg k]), (18, [spec_l1Rd_off.sg k]), (19, [spec_l1Rd_inputs.sg k])], k, [], []⟩
theorem spec_DrawRun.ev (k : Nat) (x : spec_DrawRun.A.T) : evFunc (spec_DrawRun.C k) spec_DrawRun.ann Tryz.f7 spec_DrawRun.A spec_DrawRun.R x = spec_DrawRun k x := by kernel_rfl
theorem spec_DrawRun.ok {L : List (Nat × Obj)}  (k : Nat) : SigHolds Tryz.prog L 7 (spec_DrawRun.sg k) :=
  sig_of_ev (C := spec_DrawRun.C k) (holds_cons (allok_cons (spec_l1Open.ok k) allok_nil) (holds_cons (allok_cons (spec_l1Rd_prog.ok k) allok_nil) (holds_cons (allok_cons (spec_l1Rd_once.ok k) allok_nil) (holds_cons (allok_cons (spec_l1Rd_hurtProg.ok k) allok_nil) (holds_cons (allok_cons (spec_l1Rd_below.ok k) allok_nil) (holds_cons (allok_cons (spec_l1Rd_off.ok k) allok_nil) (holds_cons (allok_cons (spec_l1Rd_inputs.ok k) allok_nil) holds_nil))))))) (by kernel_rfl) Tryz.func7 (by kernel_rfl) _ _ _ (fun x y h => (spec_DrawRun.ev k x).trans h) (by kernel_rfl)
def slices_Concat_string_string.A : Sh := (.cons (.pur (.sl false (.sl false .str))) .nil)
def slices_Concat_string_string.R : Sh := (.cons (.own .str) .nil)
def slices_Concat_string_string.ann : Ann := { loops := [(0, [(0, (.pur (.sl false (.sl false .str)))), (3, (.pur (.int .i64))), (9, (.pur (.sl false (.sl false .str)))), (10, (.pur (.int .i64))), (11, (.pur (.int .i64)))]), (2, [(6, (.own .str)), (25, (.pur (.sl false (.sl false .str)))), (26, (.pur (.int .i64))), (27, (.pur (.int .i64)))])], joins := [], keys := [] }
noncomputable def slices_Concat_string_string.l2 (k : Nat)  (G2 : ((List (List UInt8)) × QT48 × Int × Int × Unit) → Option QT37) : ((List (List UInt8)) × QT48 × Int × Int × Unit) → Option QT37 := fun x => match x with
 | (newslice, t25, t26, t27, ()) =>
  br k (decide (t27 < t26))
  (br k (decide (0 ≤ t27))
  (bd k (t25[t27.toNat]?) fun x3 =>
  br k (decide ((newslice.length + x3.length) * 16 ≤ maxBytes))
  (G2 (newslice ++ x3, t25, t26, IntKind.wrap .i64 (t27 + 1), ()))
  none)
  none)
  (some ((newslice, ()), ((), ())))
noncomputable def slices_Concat_string_string.l0 (k : Nat)  (G0 : (QT48 × Int × QT48 × Int × Int × Unit) → Option QT37) : (QT48 × Int × QT48 × Int × Int × Unit) → Option QT37 := fun x => match x with
 | (slices, size, t9, t10, t11, ()) =>
  br k (decide (t11 < t10))
  (br k (decide (0 ≤ t11))
  (bd k (t9[t11.toNat]?) fun x1 =>
  br k (decide ((IntKind.wrap .i64 (size + (x1.length : Int))) < 0))
  (none)
  (G0 (slices, IntKind.wrap .i64 (size + (x1.length : Int)), t9, t10, IntKind.wrap .i64 (t11 + 1), ())))
  none)
  (bd k (Lb.slices_Grow_string_string k ((), size, ())) fun y2 =>
  iter (slices_Concat_string_string.l2 k) k (y2.1.1, slices, (slices.length : Int), 0, ()))
noncomputable def slices_Concat_string_string (k : Nat) : (QT48 × Unit) → Option QT37 := fun x => match x with
 | (slices, ()) =>
  iter (slices_Concat_string_string.l0 k) k (slices, 0, slices, (slices.length : Int), 0, ())
noncomputable def slices_Concat_string_string.sg (k : Nat) : Sig := ⟨slices_Concat_string_string.A, slices_Concat_string_string.R, slices_Concat_string_string k⟩
noncomputable def slices_Concat_string_string.C (k : Nat) : Ctx := ⟨Tryz.prog, [(110, [Lb.slices_Grow_string_string.sg k])], k, [], []⟩
theorem slices_Concat_string_string.ev (k : Nat) (x : slices_Concat_string_string.A.T) : evFunc (slices_Concat_string_string.C k) slices_Concat_string_string.ann Tryz.f76 slices_Concat_string_string.A slices_Concat_string_string.R x = slices_Concat_string_string k x := by kernel_rfl
theorem slices_Concat_string_string.ok {L : List (Nat × Obj)}  (k : Nat) : SigHolds Tryz.prog L 76 (slices_Concat_string_string.sg k) :=
  sig_of_ev (C := slices_Concat_string_string.C k) (holds_cons (allok_cons (Lb.slices_Grow_string_string.ok k) allok_nil) holds_nil) (by kernel_rfl) Tryz.func76 (by kernel_rfl) _ _ _ (fun x y h => (slices_Concat_string_string.ev k x).trans h) (by kernel_rfl)
def impl_Decl_names.A : Sh := (.cons QS6 .nil)
def impl_Decl_names.R : Sh := (.cons (.own .str) .nil)
def impl_Decl_names.ann : Ann := { loops := [(0, [(3, (.own .str)), (13, (.pur QK13)), (14, (.pur (.int .i64))), (15, (.pur (.int .i64)))])], joins := [], keys := [] }
noncomputable def impl_Decl_names.l0 (k : Nat)  (G0 : ((List (List UInt8)) × (List QT29) × Int × Int × Unit) → Option QT37) : ((List (List UInt8)) × (List QT29) × Int × Int × Unit) → Option QT37 := fun x => match x with
 | (out_, t13, t14, t15, ()) =>
  br k (decide (t15 < t14))
  (br k (decide (0 ≤ t15))
  (bd k (t13[t15.toNat]?) fun x2 =>
  br k (decide ((out_.length + ([x2.1] : List (List UInt8)).length) * 16 ≤ maxBytes))
  (G0 (out_ ++ ([x2.1] : List (List UInt8)), t13, t14, IntKind.wrap .i64 (t15 + 1), ()))
  none)
  none)
  (some ((out_, ()), ((), ())))
noncomputable def impl_Decl_names (k : Nat) : (QT2 × Unit) → Option QT37 := fun x => match x with
 | (d_, ()) =>
  bd k (slices_Concat_string_string k (([d_.1, d_.2.1] : List (List (List UInt8))), ())) fun y1 =>
  iter (impl_Decl_names.l0 k) k (y1.1.1, d_.2.2.1, (d_.2.2.1.length : Int), 0, ())
noncomputable def impl_Decl_names.sg (k : Nat) : Sig := ⟨impl_Decl_names.A, impl_Decl_names.R, impl_Decl_names k⟩
noncomputable def impl_Decl_names.C (k : Nat) : Ctx := ⟨Tryz.prog, [(76, [slices_Concat_string_string.sg k])], k, [], []⟩
theorem impl_Decl_names.ev (k : Nat) (x : impl_Decl_names.A.T) : evFunc (impl_Decl_names.C k) impl_Decl_names.ann Tryz.f52 impl_Decl_names.A impl_Decl_names.R x = impl_Decl_names k x := by kernel_rfl
theorem impl_Decl_names.ok {L : List (Nat × Obj)}  (k : Nat) : SigHolds Tryz.prog L 52 (impl_Decl_names.sg k) :=
  sig_of_ev (C := impl_Decl_names.C k) (holds_cons (allok_cons (slices_Concat_string_string.ok k) allok_nil) holds_nil) (by kernel_rfl) Tryz.func52 (by kernel_rfl) _ _ _ (fun x y h => (impl_Decl_names.ev k x).trans h) (by kernel_rfl)
def impl_isLetter.A : Sh := (.cons (.pur (.int .u8)) .nil)
def impl_isLetter.R : Sh := QS19
def impl_isLetter.ann : Ann := { loops := [], joins := [(1, [(2, .bool)])], keys := [] }
noncomputable def impl_isLetter (k : Nat) : (Int × Unit) → Option QT21 := fun x => match x with
 | (c, ()) =>
  (br k (decide (c ≥ 97))
  (some (decide (c ≤ 122), ()))
  (some (false, ())) : Option (Bool × Unit)).bind fun j1 =>
  some ((j1.1, ()), ((), ()))
noncomputable def impl_isLetter.sg (k : Nat) : Sig := ⟨impl_isLetter.A, impl_isLetter.R, impl_isLetter k⟩
noncomputable def impl_isLetter.C (k : Nat) : Ctx := ⟨Tryz.prog, [], k, [], []⟩
theorem impl_isLetter.ev (k : Nat) (x : impl_isLetter.A.T) : evFunc (impl_isLetter.C k) impl_isLetter.ann Tryz.f77 impl_isLetter.A impl_isLetter.R x = impl_isLetter k x := by kernel_rfl
theorem impl_isLetter.ok {L : List (Nat × Obj)}  (k : Nat) : SigHolds Tryz.prog L 77 (impl_isLetter.sg k) :=
  sig_of_ev (C := impl_isLetter.C k) holds_nil (by kernel_rfl) Tryz.func77 (by kernel_rfl) _ _ _ (fun x y h => (impl_isLetter.ev k x).trans h) (by kernel_rfl)
def impl_within.A : Sh := QS49
def impl_within.R : Sh := QS19
def impl_within.ann : Ann := { loops := [], joins := [(1, [(6, .bool)])], keys := [] }
noncomputable def impl_within (k : Nat) : QT56 → Option ((Bool × Unit) × QT35) := fun x => match x with
 | (n, low, high, ()) =>
  (br k (decide (low ≤ n))
  (some (decide (n ≤ high), ()))
  (some (false, ())) : Option (Bool × Unit)).bind fun j1 =>
  some ((j1.1, ()), ((), (), (), ()))
noncomputable def impl_within.sg (k : Nat) : Sig := ⟨impl_within.A, impl_within.R, impl_within k⟩
noncomputable def impl_within.C (k : Nat) : Ctx := ⟨Tryz.prog, [], k, [], []⟩
theorem impl_within.ev (k : Nat) (x : impl_within.A.T) : evFunc (impl_within.C k) impl_within.ann Tryz.f39 impl_within.A impl_within.R x = impl_within k x := by kernel_rfl
theorem impl_within.ok {L : List (Nat × Obj)}  (k : Nat) : SigHolds Tryz.prog L 39 (impl_within.sg k) :=
  sig_of_ev (C := impl_within.C k) holds_nil (by kernel_rfl) Tryz.func39 (by kernel_rfl) _ _ _ (fun x y h => (impl_within.ev k x).trans h) (by kernel_rfl)
end Go.Pev.F
