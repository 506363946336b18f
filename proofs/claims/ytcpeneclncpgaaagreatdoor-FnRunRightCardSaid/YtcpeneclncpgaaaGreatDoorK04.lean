/-
  Printed by gen.py: what functions of the program compute, and that they do.
-/
import Derived.Test.YtcpeneclncpgaaaGreatDoorProg
import Derived.Test.YtcpeneclncpgaaaGreatDoorK02
import Derived.Test.YtcpeneclncpgaaaGreatDoorK03
import Derived.KernelRfl
set_option linter.unusedSimpArgs false
set_option linter.unusedVariables false
open Go.Proofs Go.Pev
namespace Go.Pev.F
set_option maxRecDepth 100000
set_option linter.unusedVariables false
abbrev QT0 : Type := (Int × Int × (List (Int × Int × Unit)) × (List (Int × Int × Unit)) × Int × Int × Unit)
abbrev QK1 : Kd := (.cons (.int .i64) (.cons (.int .i64) .nil))
abbrev QT2 : Type := ((List (List UInt8)) × (List (List UInt8)) × (List ((List UInt8) × Int × Unit)) × Unit)
abbrev QS3 : Sh := (.box (.cons (.pur (.sl false .str)) (.cons (.pur (.sl false .str)) (.cons (.pur (.sl false (.cons .str (.cons (.int .i64) .nil)))) (.cons (.pur (.sl false (.cons (.int .i64) (.cons (.int .i64) (.cons (.sl false QK1) (.cons (.sl false QK1) QK1)))))) (.cons (.own (.int .i64)) (.cons (.pur (.sl false (.int .i64))) (.cons (.pur (.int .i64)) (.cons (.pur (.int .i64)) (.cons (.own (.int .i64)) (.cons (.own .bool) (.cons (.rows (.own (.int .i64))) (.cons (.pur (.int .i64)) (.cons (.pur (.int .i64)) (.cons (.own QK1) .nil)))))))))))))))
abbrev QT4 : Type := ((List (List UInt8)) × (List (List UInt8)) × (List ((List UInt8) × Int × Unit)) × (List QT0) × (List Int) × (List Int) × Int × Int × (List Int) × (List Bool) × (List (List Int)) × Int × Int × (List (Int × Int × Unit)) × Unit)
abbrev QS5 : Sh := (.cons (.pur (.int .i64)) (.cons (.pur (.int .i64)) .nil))
abbrev QS6 : Sh := (.pur (.cons (.sl false .str) (.cons (.sl false .str) (.cons (.sl false (.cons .str (.cons (.int .i64) .nil))) .nil))))
abbrev QT7 : Type := ((List Int) × (List Bool) × (List (List Int)) × Unit)
abbrev QT8 : Type := ((List (List UInt8)) × (List (List UInt8)) × (List ((List UInt8) × Int × Unit)) × (List QT0) × Unit)
abbrev QK9 : Kd := (.cons (.int .i64) (.cons (.int .i64) (.cons (.sl false QK1) (.cons (.sl false QK1) QK1))))
abbrev QS10 : Sh := (.cons (.pur (.int .i64)) (.cons (.pur (.int .i64)) (.cons (.own QK1) (.cons (.own QK1) QS5))))
abbrev QT11 : Type := ((List Int) × Int × Unit)
abbrev QS12 : Sh := (.cons (.pur (.int .i64)) .nil)
abbrev QK13 : Kd := (.sl false (.cons .str (.cons (.int .i64) .nil)))
abbrev QS14 : Sh := (.box (.cons (.pur (.int .i64)) (.cons (.pur (.int .i64)) (.cons (.pur (.sl false QK1)) (.cons (.pur (.sl false QK1)) QS5)))))
abbrev QS15 : Sh := (.box (.cons (.pur (.sl false (.int .i64))) (.cons (.pur (.sl false .bool)) (.cons (.pur (.sl false (.sl false (.int .i64)))) .nil))))
abbrev QT16 : Type := (List (Int × Int × Unit))
abbrev QS17 : Sh := (.cons (.own (.int .i64)) (.cons (.own .bool) (.cons (.rows (.own (.int .i64))) .nil)))
abbrev QS18 : Sh := (.box (.cons (.pur (.sl false (.int .u8))) QS12))
abbrev QS19 : Sh := (.cons (.pur .bool) .nil)
abbrev QS20 : Sh := (.pur (.cons (.sl false (.int .i64)) (.cons (.sl false .bool) (.cons (.sl false (.sl false (.int .i64))) .nil))))
abbrev QT21 : Type := ((Bool × Unit) × (Unit × Unit))
abbrev QT22 : Type := ((Bool × Unit) × (Unit × Unit × Unit))
abbrev QS23 : Sh := (.pur (.cons (.sl false .str) (.cons (.sl false .str) (.cons QK13 (.cons (.sl false QK9) .nil)))))
abbrev QS24 : Sh := (.box (.cons (.pur (.sl false .str)) (.cons (.pur (.sl false .str)) (.cons (.pur QK13) .nil))))
abbrev QT25 : Type := (((List QT0) × Unit) × (QT11 × Unit × Unit × Unit × Unit))
abbrev QT26 : Type := ((Int × Unit) × (Unit × Unit × Unit))
abbrev QT27 : Type := (Int × Int × (List Int) × (List Bool) × (List (List Int)) × Int × Int × Unit)
abbrev QT28 : Type := ((Int × Int × Unit) × (Unit × Unit × Unit))
abbrev QT29 : Type := ((List UInt8) × Int × Unit)
abbrev QS30 : Sh := (.cons (.pur (.sl false .str)) (.cons (.pur (.sl false .str)) (.cons (.pur QK13) (.cons (.rows QS10) .nil))))
abbrev QT31 : Type := (QT11 × QT2 × Int × Int × Unit)
abbrev QS32 : Sh := (.pur (.sl false (.int .i64)))
abbrev QT33 : Type := (((QT2 × Unit) × Unit) × Unit)
abbrev QT34 : Type := ((Int × QT7 × Int × Int × Unit) × (Unit × Unit × Unit × Unit × Unit × Unit × Unit × Unit))
abbrev QT35 : Type := (Unit × Unit × Unit × Unit)
abbrev QT36 : Type := (((Unit) × Unit) × Unit)
abbrev QT37 : Type := (((List (List UInt8)) × Unit) × (Unit × Unit))
abbrev QT38 : Type := ((Int × Unit) × (Unit × Unit))
abbrev QS39 : Sh := (.pur (.cons (.int .i64) (.cons (.int .i64) (.cons (.sl false (.int .i64)) (.cons (.sl false .bool) (.cons (.sl false (.sl false (.int .i64))) QK1))))))
abbrev QT40 : Type := ((QT16 × Unit) × (QT11 × Unit × Unit × Unit))
abbrev QT41 : Type := ((QT7 × Unit) × (Unit × Unit))
abbrev QT42 : Type := ((QT16 × Unit) × (QT11 × Unit × Unit × Unit × Unit))
abbrev QT43 : Type := ((Int × Unit) × (Unit × QT36 × Unit))
abbrev QT44 : Type := ((Int × Unit) × (Unit × QT33 × Unit))
abbrev QT45 : Type := ((QT8 × Unit) × (QT11 × (Unit × Unit × Unit × Unit × Unit) × Unit))
abbrev QT46 : Type := (QT11 × QT2 × Int × Unit)
abbrev QT47 : Type := ((Int × Unit) × (QT4 × Unit))
abbrev QT48 : Type := (List (List (List UInt8)))
abbrev QS49 : Sh := (.cons (.pur (.int .i64)) QS5)
abbrev QS50 : Sh := (.cons (.pur (.sl false QK1)) .nil)
abbrev QS51 : Sh := (.cons (.pur (.sl false QK9)) .nil)
abbrev QT52 : Type := (QT8 × (List Int) × Int × Unit)
abbrev QS53 : Sh := (.cons (.pur .str) .nil)
abbrev QT54 : Type := ((Int × Unit) × (QT11 × Unit))
abbrev QS55 : Sh := (.cons (.pur (.sl false (.int .u8))) .nil)
abbrev QT56 : Type := (Int × Int × Int × Unit)
abbrev QK57 : Kd := (.cons .str (.cons (.int .i64) .nil))
def laws_big.A : Sh := QS55
def laws_big.R : Sh := QS19
def laws_big.ann : Ann := { loops := [], joins := [], keys := [] }
noncomputable def laws_big (k : Nat) : ((List Int) × Unit) → Option QT21 := fun x => match x with
 | (code, ()) =>
  some ((decide ((code.length : Int) > 1048576), ()), ((), ()))
noncomputable def laws_big.sg (k : Nat) : Sig := ⟨laws_big.A, laws_big.R, laws_big k⟩
noncomputable def laws_big.C (k : Nat) : Ctx := ⟨Tryz.prog, [], k, [], []⟩
theorem laws_big.ev (k : Nat) (x : laws_big.A.T) : evFunc (laws_big.C k) laws_big.ann Tryz.f6 laws_big.A laws_big.R x = laws_big k x := by kernel_rfl
theorem laws_big.ok {L : List (Nat × Obj)}  (k : Nat) : SigHolds Tryz.prog L 6 (laws_big.sg k) :=
  sig_of_ev (C := laws_big.C k) holds_nil (by kernel_rfl) Tryz.func6 (by kernel_rfl) _ _ _ (fun x y h => (laws_big.ev k x).trans h) (by kernel_rfl)
def spec_l1Open.A : Sh := QS55
def spec_l1Open.R : Sh := (.cons QS18 .nil)
def spec_l1Open.ann : Ann := { loops := [], joins := [], keys := [] }
noncomputable def spec_l1Open (k : Nat) : ((List Int) × Unit) → Option ((QT11 × Unit) × (Unit × Unit)) := fun x => match x with
 | (code, ()) =>
  some (((code, 0, ()), ()), ((), ()))
noncomputable def spec_l1Open.sg (k : Nat) : Sig := ⟨spec_l1Open.A, spec_l1Open.R, spec_l1Open k⟩
noncomputable def spec_l1Open.C (k : Nat) : Ctx := ⟨Tryz.prog, [], k, [], []⟩
theorem spec_l1Open.ev (k : Nat) (x : spec_l1Open.A.T) : evFunc (spec_l1Open.C k) spec_l1Open.ann Tryz.f13 spec_l1Open.A spec_l1Open.R x = spec_l1Open k x := by kernel_rfl
theorem spec_l1Open.ok {L : List (Nat × Obj)}  (k : Nat) : SigHolds Tryz.prog L 13 (spec_l1Open.sg k) :=
  sig_of_ev (C := spec_l1Open.C k) holds_nil (by kernel_rfl) Tryz.func13 (by kernel_rfl) _ _ _ (fun x y h => (spec_l1Open.ev k x).trans h) (by kernel_rfl)
def spec_l1Rd_next.A : Sh := (.cons QS18 .nil)
def spec_l1Rd_next.R : Sh := QS12
def spec_l1Rd_next.ann : Ann := { loops := [], joins := [], keys := [] }
noncomputable def spec_l1Rd_next (k : Nat) : (QT11 × Unit) → Option QT54 := fun x => match x with
 | ((r_0, r_1, ()), ()) =>
  br k (decide (r_1 ≥ (r_0.length : Int)))
  (some ((0, ()), ((r_0, r_1, ()), ())))
  (br k (decide (0 ≤ (IntKind.wrap .i64 ((IntKind.wrap .i64 (r_1 + 1)) - 1))))
  (bd k (r_0[(IntKind.wrap .i64 ((IntKind.wrap .i64 (r_1 + 1)) - 1)).toNat]?) fun x1 =>
  some ((IntKind.wrap .i64 x1, ()), ((r_0, IntKind.wrap .i64 (r_1 + 1), ()), ())))
  none)
noncomputable def spec_l1Rd_next.sg (k : Nat) : Sig := ⟨spec_l1Rd_next.A, spec_l1Rd_next.R, spec_l1Rd_next k⟩
noncomputable def spec_l1Rd_next.C (k : Nat) : Ctx := ⟨Tryz.prog, [], k, [], []⟩
theorem spec_l1Rd_next.ev (k : Nat) (x : spec_l1Rd_next.A.T) : evFunc (spec_l1Rd_next.C k) spec_l1Rd_next.ann Tryz.f35 spec_l1Rd_next.A spec_l1Rd_next.R x = spec_l1Rd_next k x := by kernel_rfl
theorem spec_l1Rd_next.ok {L : List (Nat × Obj)}  (k : Nat) : SigHolds Tryz.prog L 35 (spec_l1Rd_next.sg k) :=
  sig_of_ev (C := spec_l1Rd_next.C k) holds_nil (by kernel_rfl) Tryz.func35 (by kernel_rfl) _ _ _ (fun x y h => (spec_l1Rd_next.ev k x).trans h) (by kernel_rfl)
def spec_l1Rd_below.A : Sh := (.cons QS18 QS12)
def spec_l1Rd_below.R : Sh := QS12
def spec_l1Rd_below.ann : Ann := { loops := [], joins := [], keys := [] }
noncomputable def spec_l1Rd_below (k : Nat) : (QT11 × Int × Unit) → Option ((Int × Unit) × (QT11 × Unit × Unit)) := fun x => match x with
 | ((r_0, r_1, ()), n, ()) =>
  br k (decide (n ≤ 1))
  (some ((0, ()), ((r_0, r_1, ()), (), ())))
  (br k (decide (n ≤ 256))
  (bd k (spec_l1Rd_next k ((r_0, r_1, ()), ())) fun y1 =>
  br k (!decide (n = 0))
  (some ((y1.1.1.tmod n, ()), ((y1.2.1.1, y1.2.1.2.1, ()), (), ())))
  none)
  (bd k (spec_l1Rd_next k ((r_0, r_1, ()), ())) fun y2 =>
  bd k (spec_l1Rd_next k ((y2.2.1.1, y2.2.1.2.1, ()), ())) fun y3 =>
  br k (!decide (n = 0))
  (some (((IntKind.wrap .i64 ((IntKind.wrap .i64 (y2.1.1 * 256)) + y3.1.1)).tmod n, ()), ((y3.2.1.1, y3.2.1.2.1, ()), (), ())))
  none))
noncomputable def spec_l1Rd_below.sg (k : Nat) : Sig := ⟨spec_l1Rd_below.A, spec_l1Rd_below.R, spec_l1Rd_below k⟩
noncomputable def spec_l1Rd_below.C (k : Nat) : Ctx := ⟨Tryz.prog, [(35, [spec_l1Rd_next.sg k])], k, [], []⟩
theorem spec_l1Rd_below.ev (k : Nat) (x : spec_l1Rd_below.A.T) : evFunc (spec_l1Rd_below.C k) spec_l1Rd_below.ann Tryz.f17 spec_l1Rd_below.A spec_l1Rd_below.R x = spec_l1Rd_below k x := by kernel_rfl
theorem spec_l1Rd_below.ok {L : List (Nat × Obj)}  (k : Nat) : SigHolds Tryz.prog L 17 (spec_l1Rd_below.sg k) :=
  sig_of_ev (C := spec_l1Rd_below.C k) (holds_cons (allok_cons (spec_l1Rd_next.ok k) allok_nil) holds_nil) (by kernel_rfl) Tryz.func17 (by kernel_rfl) _ _ _ (fun x y h => (spec_l1Rd_below.ev k x).trans h) (by kernel_rfl)
def spec_l1Rd_once.A : Sh := (.cons QS18 QS12)
def spec_l1Rd_once.R : Sh := QS19
def spec_l1Rd_once.ann : Ann := { loops := [], joins := [], keys := [] }
noncomputable def spec_l1Rd_once (k : Nat) : (QT11 × Int × Unit) → Option ((Bool × Unit) × (QT11 × Unit × Unit)) := fun x => match x with
 | ((r_0, r_1, ()), n, ()) =>
  bd k (spec_l1Rd_below k ((r_0, r_1, ()), n, ())) fun y1 =>
  some ((y1.1.1 == (IntKind.wrap .i64 (n - 1)), ()), ((y1.2.1.1, y1.2.1.2.1, ()), (), ()))
noncomputable def spec_l1Rd_once.sg (k : Nat) : Sig := ⟨spec_l1Rd_once.A, spec_l1Rd_once.R, spec_l1Rd_once k⟩
noncomputable def spec_l1Rd_once.C (k : Nat) : Ctx := ⟨Tryz.prog, [(17, [spec_l1Rd_below.sg k])], k, [], []⟩
theorem spec_l1Rd_once.ev (k : Nat) (x : spec_l1Rd_once.A.T) : evFunc (spec_l1Rd_once.C k) spec_l1Rd_once.ann Tryz.f15 spec_l1Rd_once.A spec_l1Rd_once.R x = spec_l1Rd_once k x := by kernel_rfl
theorem spec_l1Rd_once.ok {L : List (Nat × Obj)}  (k : Nat) : SigHolds Tryz.prog L 15 (spec_l1Rd_once.sg k) :=
  sig_of_ev (C := spec_l1Rd_once.C k) (holds_cons (allok_cons (spec_l1Rd_below.ok k) allok_nil) holds_nil) (by kernel_rfl) Tryz.func15 (by kernel_rfl) _ _ _ (fun x y h => (spec_l1Rd_once.ev k x).trans h) (by kernel_rfl)
def spec_l1Rd_decl.A : Sh := (.cons QS18 .nil)
def spec_l1Rd_decl.R : Sh := (.cons QS6 .nil)
def spec_l1Rd_decl.ann : Ann := { loops := [], joins := [], keys := [(1, [([4], true), ([], false), ([0, 6], true), ([], false), ([4], false), ([9], true), ([], false), ([0, 11], true), ([], false), ([9], false), ([4, 9], false), ([3], true), ([3, 4, 9], true)])] }
noncomputable def spec_l1Rd_decl (k : Nat) : (QT11 × Unit) → Option ((QT2 × Unit) × (QT11 × Unit)) := fun x => match x with
 | ((r_0, r_1, ()), ()) =>
  bd k (spec_l1Rd_below k ((r_0, r_1, ()), 4, ())) fun y1 =>
  br k (decide (0 ≤ (IntKind.wrap .i64 (1 + y1.1.1)) ∧ (IntKind.wrap .i64 (1 + y1.1.1)) ≤ (([[120], [121], [105], [110], [107]] : List (List UInt8)).length : Int)))
  (bd k (spec_l1Rd_below k ((y1.2.1.1, y1.2.1.2.1, ()), 2, ())) fun y2 =>
  br k (decide (0 ≤ (IntKind.wrap .i64 (1 + y2.1.1)) ∧ (IntKind.wrap .i64 (1 + y2.1.1)) ≤ (([[98], [99], [102]] : List (List UInt8)).length : Int)))
  (bd k (spec_l1Rd_once k ((y2.2.1.1, y2.2.1.2.1, ()), 3, ())) fun y3 =>
  br k (y3.1.1)
  (bd k (spec_l1Rd_below k ((y3.2.1.1, y3.2.1.2.1, ()), 4, ())) fun y4 =>
  br k (decide (0 ≤ y4.1.1 ∧ y4.1.1 ≤ (([[98], [99], [102]] : List (List UInt8)).length : Int)))
  (bd k (spec_l1Rd_once k ((y4.2.1.1, y4.2.1.2.1, ()), 2, ())) fun y5 =>
  br k (y5.1.1)
  (bd k (spec_l1Rd_below k ((y5.2.1.1, y5.2.1.2.1, ()), 6, ())) fun y6 =>
  some (((subL ([[120], [121], [105], [110], [107]] : List (List UInt8)) ((0 : Int).toNat) ((IntKind.wrap .i64 (1 + y1.1.1)).toNat - (0 : Int).toNat), subL ([[98], [99], [102]] : List (List UInt8)) ((0 : Int).toNat) (y4.1.1.toNat - (0 : Int).toNat), ([([97], IntKind.wrap .i64 (1 + y6.1.1), ())] : List QT29), ()), ()), ((y6.2.1.1, y6.2.1.2.1, ()), ())))
  (some (((subL ([[120], [121], [105], [110], [107]] : List (List UInt8)) ((0 : Int).toNat) ((IntKind.wrap .i64 (1 + y1.1.1)).toNat - (0 : Int).toNat), subL ([[98], [99], [102]] : List (List UInt8)) ((0 : Int).toNat) (y4.1.1.toNat - (0 : Int).toNat), [], ()), ()), ((y5.2.1.1, y5.2.1.2.1, ()), ()))))
  none)
  (bd k (spec_l1Rd_once k ((y3.2.1.1, y3.2.1.2.1, ()), 2, ())) fun y7 =>
  br k (y7.1.1)
  (bd k (spec_l1Rd_below k ((y7.2.1.1, y7.2.1.2.1, ()), 6, ())) fun y8 =>
  some (((subL ([[120], [121], [105], [110], [107]] : List (List UInt8)) ((0 : Int).toNat) ((IntKind.wrap .i64 (1 + y1.1.1)).toNat - (0 : Int).toNat), subL ([[98], [99], [102]] : List (List UInt8)) ((0 : Int).toNat) ((IntKind.wrap .i64 (1 + y2.1.1)).toNat - (0 : Int).toNat), ([([97], IntKind.wrap .i64 (1 + y8.1.1), ())] : List QT29), ()), ()), ((y8.2.1.1, y8.2.1.2.1, ()), ())))
  (some (((subL ([[120], [121], [105], [110], [107]] : List (List UInt8)) ((0 : Int).toNat) ((IntKind.wrap .i64 (1 + y1.1.1)).toNat - (0 : Int).toNat), subL ([[98], [99], [102]] : List (List UInt8)) ((0 : Int).toNat) ((IntKind.wrap .i64 (1 + y2.1.1)).toNat - (0 : Int).toNat), [], ()), ()), ((y7.2.1.1, y7.2.1.2.1, ()), ())))))
  none)
  none
noncomputable def spec_l1Rd_decl.sg (k : Nat) : Sig := ⟨spec_l1Rd_decl.A, spec_l1Rd_decl.R, spec_l1Rd_decl k⟩
noncomputable def spec_l1Rd_decl.C (k : Nat) : Ctx := ⟨Tryz.prog, [(17, [spec_l1Rd_below.sg k]), (15, [spec_l1Rd_once.sg k])], k, [], []⟩
theorem spec_l1Rd_decl.ev (k : Nat) (x : spec_l1Rd_decl.A.T) : evFunc (spec_l1Rd_decl.C k) spec_l1Rd_decl.ann Tryz.f31 spec_l1Rd_decl.A spec_l1Rd_decl.R x = spec_l1Rd_decl k x := by kernel_rfl
theorem spec_l1Rd_decl.ok {L : List (Nat × Obj)}  (k : Nat) : SigHolds Tryz.prog L 31 (spec_l1Rd_decl.sg k) :=
  sig_of_ev (C := spec_l1Rd_decl.C k) (holds_cons (allok_cons (spec_l1Rd_below.ok k) allok_nil) (holds_cons (allok_cons (spec_l1Rd_once.ok k) allok_nil) holds_nil)) (by kernel_rfl) Tryz.func31 (by kernel_rfl) _ _ _ (fun x y h => (spec_l1Rd_decl.ev k x).trans h) (by kernel_rfl)
def spec_l1Rd_sum.A : Sh := (.cons QS18 (.cons QS6 QS12))
def spec_l1Rd_sum.R : Sh := (.cons (.own QK1) .nil)
def spec_l1Rd_sum.ann : Ann := { loops := [], joins := [(2, [(12, .bool)]), (4, [(28, .bool)]), (9, [(47, .bool)])], keys := [(10, [([], false), ([4], false), ([], false), ([], false), ([0, 60], true), ([], false), ([4], false), ([4], false), ([], false), ([0, 65], true), ([], false), ([67], true), ([60, 67, 68], true), ([], false)]), (16, [([], false), ([4], false), ([], false), ([], false), ([0, 92], true), ([], false), ([4], false), ([], false), ([], false), ([0, 97], true), ([92, 97, 98], true), ([], false), ([], false), ([101], true), ([98, 101, 102], true), ([], false)])] }
noncomputable def spec_l1Rd_sum.f (k : Nat) (R_ : QT46 → Option QT40) : QT46 → Option QT40 := fun x => match x with
 | ((r_0, r_1, ()), d_, deep, ()) =>
  bd k (spec_l1Rd_below k ((r_0, r_1, ()), 8, ())) fun y1 =>
  (br k (decide (y1.1.1 < 3))
  (some (decide ((d_.1.length : Int) > 0), ()))
  (some (false, ())) : Option (Bool × Unit)).bind fun j2 =>
  br k (j2.1)
  (bd k (spec_l1Rd_below k ((y1.2.1.1, y1.2.1.2.1, ()), (d_.1.length : Int), ())) fun y3 =>
  some ((([(2, y3.1.1, ())] : List (Int × Int × Unit)), ()), ((y3.2.1.1, y3.2.1.2.1, ()), (), (), ())))
  ((br k (decide (y1.1.1 < 4))
  (some (true, ()))
  (some (decide (deep ≤ 0), ())) : Option (Bool × Unit)).bind fun j4 =>
  br k (j4.1)
  (bd k (spec_l1Rd_below k ((y1.2.1.1, y1.2.1.2.1, ()), 12, ())) fun y5 =>
  bd k (spec_l1Rd_once k ((y5.2.1.1, y5.2.1.2.1, ()), 20, ())) fun y6 =>
  br k (y6.1.1)
  (bd k (spec_l1Rd_below k ((y6.2.1.1, y6.2.1.2.1, ()), 4, ())) fun y7 =>
  br k (decide (0 ≤ y7.1.1 ∧ y7.1.1 < (([999999999999999999, 999999999999999999, 1000000000000000000, 1000] : List Int).length : Int)))
  (bd k (([999999999999999999, 999999999999999999, 1000000000000000000, 1000] : List Int)[y7.1.1.toNat]?) fun x8 =>
  some ((([(1, x8, ())] : List (Int × Int × Unit)), ()), ((y7.2.1.1, y7.2.1.2.1, ()), (), (), ())))
  none)
  (some ((([(1, y5.1.1, ())] : List (Int × Int × Unit)), ()), ((y6.2.1.1, y6.2.1.2.1, ()), (), (), ()))))
  ((br k (y1.1.1 == 4)
  (some (decide ((d_.2.2.1.length : Int) > 0), ()))
  (some (false, ())) : Option (Bool × Unit)).bind fun j9 =>
  br k (j9.1)
  (bd k (R_ ((y1.2.1.1, y1.2.1.2.1, ()), d_, IntKind.wrap .i64 (deep - 1), ())) fun y10 =>
  bd k (spec_l1Rd_below k ((y10.2.1.1, y10.2.1.2.1, ()), (d_.2.2.1.length : Int), ())) fun y11 =>
  br k (decide ((y10.1.1.length + ([(6, y11.1.1, ())] : List (Int × Int × Unit)).length) * 16 ≤ maxBytes))
  (some ((y10.1.1 ++ ([(6, y11.1.1, ())] : List (Int × Int × Unit)), ()), ((y11.2.1.1, y11.2.1.2.1, ()), (), (), ())))
  none)
  (br k (y1.1.1 == 4)
  (bd k (R_ ((y1.2.1.1, y1.2.1.2.1, ()), d_, IntKind.wrap .i64 (deep - 1), ())) fun y12 =>
  br k (decide ((y12.1.1.length + ([(7, 0, ())] : List (Int × Int × Unit)).length) * 16 ≤ maxBytes))
  (some ((y12.1.1 ++ ([(7, 0, ())] : List (Int × Int × Unit)), ()), ((y12.2.1.1, y12.2.1.2.1, ()), (), (), ())))
  none)
  (bd k (spec_l1Rd_below k ((y1.2.1.1, y1.2.1.2.1, ()), 3, ())) fun y13 =>
  bd k (spec_l1Rd_once k ((y13.2.1.1, y13.2.1.2.1, ()), 4, ())) fun y14 =>
  br k (y14.1.1)
  (bd k (spec_l1Rd_below k ((y14.2.1.1, y14.2.1.2.1, ()), 2, ())) fun y15 =>
  bd k (R_ ((y15.2.1.1, y15.2.1.2.1, ()), d_, IntKind.wrap .i64 (deep - 1), ())) fun y16 =>
  bd k (R_ ((y16.2.1.1, y16.2.1.2.1, ()), d_, IntKind.wrap .i64 (deep - 1), ())) fun y17 =>
  br k (decide ((y16.1.1.length + y17.1.1.length) * 16 ≤ maxBytes))
  (br k (decide (((y16.1.1 ++ y17.1.1).length + ([(IntKind.wrap .i64 (11 + y15.1.1), 0, ())] : List (Int × Int × Unit)).length) * 16 ≤ maxBytes))
  (some (((y16.1.1 ++ y17.1.1) ++ ([(IntKind.wrap .i64 (11 + y15.1.1), 0, ())] : List (Int × Int × Unit)), ()), ((y17.2.1.1, y17.2.1.2.1, ()), (), (), ())))
  none)
  none)
  (bd k (R_ ((y14.2.1.1, y14.2.1.2.1, ()), d_, IntKind.wrap .i64 (deep - 1), ())) fun y18 =>
  bd k (R_ ((y18.2.1.1, y18.2.1.2.1, ()), d_, IntKind.wrap .i64 (deep - 1), ())) fun y19 =>
  br k (decide ((y18.1.1.length + y19.1.1.length) * 16 ≤ maxBytes))
  (br k (decide (((y18.1.1 ++ y19.1.1).length + ([(IntKind.wrap .i64 (8 + y13.1.1), 0, ())] : List (Int × Int × Unit)).length) * 16 ≤ maxBytes))
  (some (((y18.1.1 ++ y19.1.1) ++ ([(IntKind.wrap .i64 (8 + y13.1.1), 0, ())] : List (Int × Int × Unit)), ()), ((y19.2.1.1, y19.2.1.2.1, ()), (), (), ())))
  none)
  none)))))
noncomputable def spec_l1Rd_sum (k : Nat) : QT46 → Option QT40 := iter (spec_l1Rd_sum.f k) k
noncomputable def spec_l1Rd_sum.sg (k : Nat) : Sig := ⟨spec_l1Rd_sum.A, spec_l1Rd_sum.R, spec_l1Rd_sum k⟩
noncomputable def spec_l1Rd_sum.C (k : Nat) (R_ : QT46 → Option QT40) : Ctx := ⟨Tryz.prog, [(17, [spec_l1Rd_below.sg k]), (15, [spec_l1Rd_once.sg k]), (135, [⟨spec_l1Rd_sum.A, spec_l1Rd_sum.R, R_⟩])], k, [], []⟩
theorem spec_l1Rd_sum.ev (k : Nat) (R_ : QT46 → Option QT40) (x : spec_l1Rd_sum.A.T) : evFunc (spec_l1Rd_sum.C k R_) spec_l1Rd_sum.ann Tryz.f135 spec_l1Rd_sum.A spec_l1Rd_sum.R x = spec_l1Rd_sum.f k R_ x := by kernel_rfl
theorem spec_l1Rd_sum.oks {L : List (Nat × Obj)}  (k : Nat) : (n : Nat) → SigHolds Tryz.prog L 135 ⟨spec_l1Rd_sum.A, spec_l1Rd_sum.R, iter (spec_l1Rd_sum.f k) n⟩
  | 0 => sig_zero Tryz.func135 (by kernel_rfl) (by kernel_rfl)
  | n + 1 => have ih := spec_l1Rd_sum.oks  k n
    sig_of_ev (C := spec_l1Rd_sum.C k (iter (spec_l1Rd_sum.f k) n)) (holds_cons (allok_cons (spec_l1Rd_below.ok k) allok_nil) (holds_cons (allok_cons (spec_l1Rd_once.ok k) allok_nil) (holds_cons (allok_cons (ih) allok_nil) holds_nil))) (by kernel_rfl) Tryz.func135 (by kernel_rfl) _ _ _ (fun x y h => (spec_l1Rd_sum.ev k _ x).trans h) (by kernel_rfl)
theorem spec_l1Rd_sum.ok {L : List (Nat × Obj)}  (k : Nat) : SigHolds Tryz.prog L 135 (spec_l1Rd_sum.sg k) := spec_l1Rd_sum.oks  k k
def spec_l1Rd_expr.A : Sh := (.cons QS18 (.cons QS6 QS5))
def spec_l1Rd_expr.R : Sh := (.cons (.own QK1) .nil)
def spec_l1Rd_expr.ann : Ann := { loops := [], joins := [(4, [(18, .bool)]), (6, [(38, .bool)]), (8, [(52, .bool)])], keys := [(9, [([], false), ([5], false), ([], false), ([], false), ([0, 63], true), ([], false), ([5], false), ([], false), ([], false), ([0, 68], true), ([63, 68, 69], true), ([], false), ([0, 71], true), ([], false), ([], false), ([74], true), ([69, 74, 75], true), ([], false)]), (13, [([], false), ([5], false), ([], false), ([], false), ([], false), ([0, 96], true), ([], false), ([5], false), ([], false), ([], false), ([], false), ([0, 102], true), ([96, 102, 103], true), ([], false), ([0, 105], true), ([], false), ([], false), ([108], true), ([103, 108, 109], true), ([], false)])] }
noncomputable def spec_l1Rd_expr.f (k : Nat) (R_ : QT31 → Option QT42) : QT31 → Option QT42 := fun x => match x with
 | ((r_0, r_1, ()), d_, kind, deep, ()) =>
  br k (kind == 1)
  (bd k (spec_l1Rd_sum k ((r_0, r_1, ()), d_, deep, ())) fun y1 =>
  some ((y1.1.1, ()), ((y1.2.1.1, y1.2.1.2.1, ()), (), (), (), ())))
  (bd k (spec_l1Rd_below k ((r_0, r_1, ()), 8, ())) fun y2 =>
  (br k (decide (deep ≤ 0))
  (br k (decide ((d_.2.1.length : Int) > 0))
  (some (decide (y2.1.1 < 5), ()))
  (some (false, ())))
  (some (false, ())) : Option (Bool × Unit)).bind fun j3 =>
  br k (j3.1)
  (bd k (spec_l1Rd_below k ((y2.2.1.1, y2.2.1.2.1, ()), (d_.2.1.length : Int), ())) fun y4 =>
  some ((([(3, y4.1.1, ())] : List (Int × Int × Unit)), ()), ((y4.2.1.1, y4.2.1.2.1, ()), (), (), (), ())))
  ((br k (decide (deep ≤ 0))
  (some (decide (y2.1.1 < 6), ()))
  (some (false, ())) : Option (Bool × Unit)).bind fun j5 =>
  br k (j5.1)
  (bd k (spec_l1Rd_below k ((y2.2.1.1, y2.2.1.2.1, ()), 2, ())) fun y6 =>
  br k (decide (0 ≤ y6.1.1 ∧ y6.1.1 < (([4, 5] : List Int).length : Int)))
  (bd k (([4, 5] : List Int)[y6.1.1.toNat]?) fun x7 =>
  some ((([(x7, 0, ())] : List (Int × Int × Unit)), ()), ((y6.2.1.1, y6.2.1.2.1, ()), (), (), (), ())))
  none)
  ((br k (decide (y2.1.1 < 4))
  (some (true, ()))
  (some (decide (deep ≤ 0), ())) : Option (Bool × Unit)).bind fun j8 =>
  br k (j8.1)
  (bd k (spec_l1Rd_sum k ((y2.2.1.1, y2.2.1.2.1, ()), d_, IntKind.wrap .i64 (deep - 1), ())) fun y9 =>
  bd k (spec_l1Rd_sum k ((y9.2.1.1, y9.2.1.2.1, ()), d_, IntKind.wrap .i64 (deep - 1), ())) fun y10 =>
  br k (decide ((y9.1.1.length + y10.1.1.length) * 16 ≤ maxBytes))
  (bd k (spec_l1Rd_below k ((y10.2.1.1, y10.2.1.2.1, ()), 6, ())) fun y11 =>
  br k (decide (((y9.1.1 ++ y10.1.1).length + ([(IntKind.wrap .i64 (13 + y11.1.1), 0, ())] : List (Int × Int × Unit)).length) * 16 ≤ maxBytes))
  (some (((y9.1.1 ++ y10.1.1) ++ ([(IntKind.wrap .i64 (13 + y11.1.1), 0, ())] : List (Int × Int × Unit)), ()), ((y11.2.1.1, y11.2.1.2.1, ()), (), (), (), ())))
  none)
  none)
  (br k (y2.1.1 == 4)
  (bd k (R_ ((y2.2.1.1, y2.2.1.2.1, ()), d_, kind, IntKind.wrap .i64 (deep - 1), ())) fun y12 =>
  br k (decide ((y12.1.1.length + ([(19, 0, ())] : List (Int × Int × Unit)).length) * 16 ≤ maxBytes))
  (some ((y12.1.1 ++ ([(19, 0, ())] : List (Int × Int × Unit)), ()), ((y12.2.1.1, y12.2.1.2.1, ()), (), (), (), ())))
  none)
  (br k (decide (y2.1.1 < 7))
  (bd k (R_ ((y2.2.1.1, y2.2.1.2.1, ()), d_, kind, IntKind.wrap .i64 (deep - 1), ())) fun y13 =>
  bd k (R_ ((y13.2.1.1, y13.2.1.2.1, ()), d_, kind, IntKind.wrap .i64 (deep - 1), ())) fun y14 =>
  br k (decide ((y13.1.1.length + y14.1.1.length) * 16 ≤ maxBytes))
  (bd k (spec_l1Rd_below k ((y14.2.1.1, y14.2.1.2.1, ()), 2, ())) fun y15 =>
  br k (decide (((y13.1.1 ++ y14.1.1).length + ([(IntKind.wrap .i64 (20 + y15.1.1), 0, ())] : List (Int × Int × Unit)).length) * 16 ≤ maxBytes))
  (some (((y13.1.1 ++ y14.1.1) ++ ([(IntKind.wrap .i64 (20 + y15.1.1), 0, ())] : List (Int × Int × Unit)), ()), ((y15.2.1.1, y15.2.1.2.1, ()), (), (), (), ())))
  none)
  none)
  (bd k (R_ ((y2.2.1.1, y2.2.1.2.1, ()), d_, kind, 0, ())) fun y16 =>
  some ((y16.1.1, ()), ((y16.2.1.1, y16.2.1.2.1, ()), (), (), (), ()))))))))
noncomputable def spec_l1Rd_expr (k : Nat) : QT31 → Option QT42 := iter (spec_l1Rd_expr.f k) k
noncomputable def spec_l1Rd_expr.sg (k : Nat) : Sig := ⟨spec_l1Rd_expr.A, spec_l1Rd_expr.R, spec_l1Rd_expr k⟩
noncomputable def spec_l1Rd_expr.C (k : Nat) (R_ : QT31 → Option QT42) : Ctx := ⟨Tryz.prog, [(135, [spec_l1Rd_sum.sg k]), (17, [spec_l1Rd_below.sg k]), (113, [⟨spec_l1Rd_expr.A, spec_l1Rd_expr.R, R_⟩])], k, [], []⟩
theorem spec_l1Rd_expr.ev (k : Nat) (R_ : QT31 → Option QT42) (x : spec_l1Rd_expr.A.T) : evFunc (spec_l1Rd_expr.C k R_) spec_l1Rd_expr.ann Tryz.f113 spec_l1Rd_expr.A spec_l1Rd_expr.R x = spec_l1Rd_expr.f k R_ x := by kernel_rfl
theorem spec_l1Rd_expr.oks {L : List (Nat × Obj)}  (k : Nat) : (n : Nat) → SigHolds Tryz.prog L 113 ⟨spec_l1Rd_expr.A, spec_l1Rd_expr.R, iter (spec_l1Rd_expr.f k) n⟩
  | 0 => sig_zero Tryz.func113 (by kernel_rfl) (by kernel_rfl)
  | n + 1 => have ih := spec_l1Rd_expr.oks  k n
    sig_of_ev (C := spec_l1Rd_expr.C k (iter (spec_l1Rd_expr.f k) n)) (holds_cons (allok_cons (spec_l1Rd_sum.ok k) allok_nil) (holds_cons (allok_cons (spec_l1Rd_below.ok k) allok_nil) (holds_cons (allok_cons (ih) allok_nil) holds_nil))) (by kernel_rfl) Tryz.func113 (by kernel_rfl) _ _ _ (fun x y h => (spec_l1Rd_expr.ev k _ x).trans h) (by kernel_rfl)
theorem spec_l1Rd_expr.ok {L : List (Nat × Obj)}  (k : Nat) : SigHolds Tryz.prog L 113 (spec_l1Rd_expr.sg k) := spec_l1Rd_expr.oks  k k
def spec_l1Rd_few.A : Sh := (.cons QS18 (.cons QS6 QS12))
def spec_l1Rd_few.R : Sh := (.cons (.own QK1) .nil)
def spec_l1Rd_few.ann : Ann := { loops := [], joins := [], keys := [(1, [([], false), ([4], false), ([], false), ([], false), ([0, 11], true), ([], false), ([0, 13], true), ([], false)])] }
noncomputable def spec_l1Rd_few (k : Nat) : QT46 → Option QT40 := fun x => match x with
 | ((r_0, r_1, ()), d_, kind, ()) =>
  bd k (spec_l1Rd_below k ((r_0, r_1, ()), 2, ())) fun y1 =>
  bd k (spec_l1Rd_expr k ((y1.2.1.1, y1.2.1.2.1, ()), d_, kind, IntKind.wrap .i64 (1 + y1.1.1), ())) fun y2 =>
  some ((y2.1.1, ()), ((y2.2.1.1, y2.2.1.2.1, ()), (), (), ()))
noncomputable def spec_l1Rd_few.sg (k : Nat) : Sig := ⟨spec_l1Rd_few.A, spec_l1Rd_few.R, spec_l1Rd_few k⟩
noncomputable def spec_l1Rd_few.C (k : Nat) : Ctx := ⟨Tryz.prog, [(17, [spec_l1Rd_below.sg k]), (113, [spec_l1Rd_expr.sg k])], k, [], []⟩
theorem spec_l1Rd_few.ev (k : Nat) (x : spec_l1Rd_few.A.T) : evFunc (spec_l1Rd_few.C k) spec_l1Rd_few.ann Tryz.f82 spec_l1Rd_few.A spec_l1Rd_few.R x = spec_l1Rd_few k x := by kernel_rfl
theorem spec_l1Rd_few.ok {L : List (Nat × Obj)}  (k : Nat) : SigHolds Tryz.prog L 82 (spec_l1Rd_few.sg k) :=
  sig_of_ev (C := spec_l1Rd_few.C k) (holds_cons (allok_cons (spec_l1Rd_below.ok k) allok_nil) (holds_cons (allok_cons (spec_l1Rd_expr.ok k) allok_nil) holds_nil)) (by kernel_rfl) Tryz.func82 (by kernel_rfl) _ _ _ (fun x y h => (spec_l1Rd_few.ev k x).trans h) (by kernel_rfl)
def spec_l1Rd_counts.A : Sh := (.cons QS18 (.cons QS6 QS12))
def spec_l1Rd_counts.R : Sh := (.cons (.own QK1) .nil)
def spec_l1Rd_counts.ann : Ann := { loops := [], joins := [], keys := [] }
noncomputable def spec_l1Rd_counts (k : Nat) : QT46 → Option QT40 := fun x => match x with
 | ((r_0, r_1, ()), d_, v, ()) =>
  bd k (spec_l1Rd_below k ((r_0, r_1, ()), 9, ())) fun y1 =>
  bd k (spec_l1Rd_below k ((y1.2.1.1, y1.2.1.2.1, ()), 2, ())) fun y2 =>
  some ((([(2, v, ()), (1, IntKind.wrap .i64 (1 + y1.1.1), ()), (IntKind.wrap .i64 (13 + y2.1.1), 0, ())] : List (Int × Int × Unit)), ()), ((y2.2.1.1, y2.2.1.2.1, ()), (), (), ()))
noncomputable def spec_l1Rd_counts.sg (k : Nat) : Sig := ⟨spec_l1Rd_counts.A, spec_l1Rd_counts.R, spec_l1Rd_counts k⟩
noncomputable def spec_l1Rd_counts.C (k : Nat) : Ctx := ⟨Tryz.prog, [(17, [spec_l1Rd_below.sg k])], k, [], []⟩
theorem spec_l1Rd_counts.ev (k : Nat) (x : spec_l1Rd_counts.A.T) : evFunc (spec_l1Rd_counts.C k) spec_l1Rd_counts.ann Tryz.f83 spec_l1Rd_counts.A spec_l1Rd_counts.R x = spec_l1Rd_counts k x := by kernel_rfl
theorem spec_l1Rd_counts.ok {L : List (Nat × Obj)}  (k : Nat) : SigHolds Tryz.prog L 83 (spec_l1Rd_counts.sg k) :=
  sig_of_ev (C := spec_l1Rd_counts.C k) (holds_cons (allok_cons (spec_l1Rd_below.ok k) allok_nil) holds_nil) (by kernel_rfl) Tryz.func83 (by kernel_rfl) _ _ _ (fun x y h => (spec_l1Rd_counts.ev k x).trans h) (by kernel_rfl)
def spec_l1Rd_more.A : Sh := (.cons QS18 QS12)
def spec_l1Rd_more.R : Sh := (.cons (.agg QS10) .nil)
def spec_l1Rd_more.ann : Ann := { loops := [], joins := [], keys := [] }
noncomputable def spec_l1Rd_more (k : Nat) : (QT11 × Int × Unit) → Option ((QT0 × Unit) × (QT11 × Unit × Unit)) := fun x => match x with
 | ((r_0, r_1, ()), v, ()) =>
  bd k (spec_l1Rd_below k ((r_0, r_1, ()), 2, ())) fun y1 =>
  some (((1, v, [], ([(2, v, ()), (1, IntKind.wrap .i64 (1 + y1.1.1), ()), (8, 0, ())] : List (Int × Int × Unit)), 0, 0, ()), ()), ((y1.2.1.1, y1.2.1.2.1, ()), (), ()))
noncomputable def spec_l1Rd_more.sg (k : Nat) : Sig := ⟨spec_l1Rd_more.A, spec_l1Rd_more.R, spec_l1Rd_more k⟩
noncomputable def spec_l1Rd_more.C (k : Nat) : Ctx := ⟨Tryz.prog, [(17, [spec_l1Rd_below.sg k])], k, [], []⟩
theorem spec_l1Rd_more.ev (k : Nat) (x : spec_l1Rd_more.A.T) : evFunc (spec_l1Rd_more.C k) spec_l1Rd_more.ann Tryz.f84 spec_l1Rd_more.A spec_l1Rd_more.R x = spec_l1Rd_more k x := by kernel_rfl
theorem spec_l1Rd_more.ok {L : List (Nat × Obj)}  (k : Nat) : SigHolds Tryz.prog L 84 (spec_l1Rd_more.sg k) :=
  sig_of_ev (C := spec_l1Rd_more.C k) (holds_cons (allok_cons (spec_l1Rd_below.ok k) allok_nil) holds_nil) (by kernel_rfl) Tryz.func84 (by kernel_rfl) _ _ _ (fun x y h => (spec_l1Rd_more.ev k x).trans h) (by kernel_rfl)
def spec_l1Rd_block.A : Sh := (.cons QS18 (.cons QS6 QS5))
def spec_l1Rd_block.R : Sh := (.cons (.rows QS10) .nil)
def spec_l1Rd_line.A : Sh := (.cons QS18 (.cons QS6 QS5))
def spec_l1Rd_line.R : Sh := (.cons (.rows QS10) .nil)
def spec_l1Rd_line.ann : Ann := { loops := [], joins := [(3, [(24, .bool)]), (9, [(73, .bool)]), (18, [(117, .bool)]), (20, [(136, .bool)])], keys := [(4, [([], false), ([0, 36], true), ([], false), ([], false), ([5], false), ([0, 40], true), ([40], false), ([11], true), ([11, 40], true)]), (5, [([11], false), ([40, 43], true), ([], false), ([5], false), ([], false), ([], false), ([0, 48], true), ([43, 48, 49], true), ([], false)]), (7, [([], false), ([], false), ([61], true), ([49, 61, 62], true), ([], false), ([5], false), ([], false), ([], false), ([0, 67], true), ([62, 67, 68], true), ([], false)]), (16, [([13], false), ([87, 100, 103], true), ([], false), ([5], false), ([], false), ([], false), ([0, 108], true), ([103, 108, 109], true), ([], false)]), (19, [([], false), ([5], false), ([5], false), ([], false), ([0, 130], true), ([], false), ([5], false), ([0, 133], true), ([133], false), ([133, 135], true), ([], false)]), (21, [([], false), ([5], false), ([5], false), ([], false), ([0, 149], true), ([], false), ([5], false), ([0, 152], true), ([], false), ([5], false), ([0, 155], true), ([152, 155], false), ([152, 155, 157], true), ([], false)])] }
noncomputable def spec_l1Rd_line (k : Nat) (R_ : QT31 → Option QT25) : QT31 → Option QT25 := fun x => match x with
 | ((r_0, r_1, ()), d_, most, deep, ()) =>
  bd k (spec_l1Rd_below k ((r_0, r_1, ()), (d_.1.length : Int), ())) fun y1 =>
  bd k (spec_l1Rd_below k ((y1.2.1.1, y1.2.1.2.1, ()), 16, ())) fun y2 =>
  (br k (decide (y2.1.1 < 2))
  (br k (decide (deep > 0))
  (some (decide (most > 5), ()))
  (some (false, ())))
  (some (false, ())) : Option (Bool × Unit)).bind fun j3 =>
  br k (j3.1)
  (bd k (spec_l1Rd_below k ((y2.2.1.1, y2.2.1.2.1, ()), 2, ())) fun y4 =>
  bd k (spec_l1Rd_few k ((y4.2.1.1, y4.2.1.2.1, ()), d_, 2, ())) fun y5 =>
  bd k (R_ ((y5.2.1.1, y5.2.1.2.1, ()), d_, 3, IntKind.wrap .i64 (deep - 1), ())) fun y6 =>
  br k (decide ((([(IntKind.wrap .i64 (5 + y4.1.1), 0, [], y5.1.1, 0, 0, ())] : List QT0).length + y6.1.1.length) * 80 ≤ maxBytes))
  (bd k (spec_l1Rd_once k ((y6.2.1.1, y6.2.1.2.1, ()), 2, ())) fun y7 =>
  br k (y7.1.1)
  (br k (decide ((IntKind.wrap .i64 (((([(IntKind.wrap .i64 (5 + y4.1.1), 0, [], y5.1.1, 0, 0, ())] : List QT0) ++ y6.1.1).length : Int) + 4)) < most))
  (br k (decide (((([(IntKind.wrap .i64 (5 + y4.1.1), 0, [], y5.1.1, 0, 0, ())] : List QT0) ++ y6.1.1).length + ([(7, 0, [], [], 0, 0, ())] : List QT0).length) * 80 ≤ maxBytes))
  (bd k (R_ ((y7.2.1.1, y7.2.1.2.1, ()), d_, 2, IntKind.wrap .i64 (deep - 1), ())) fun y8 =>
  br k (decide ((((([(IntKind.wrap .i64 (5 + y4.1.1), 0, [], y5.1.1, 0, 0, ())] : List QT0) ++ y6.1.1) ++ ([(7, 0, [], [], 0, 0, ())] : List QT0)).length + y8.1.1.length) * 80 ≤ maxBytes))
  (br k (decide (((((([(IntKind.wrap .i64 (5 + y4.1.1), 0, [], y5.1.1, 0, 0, ())] : List QT0) ++ y6.1.1) ++ ([(7, 0, [], [], 0, 0, ())] : List QT0)) ++ y8.1.1).length + ([(8, 0, [], [], 0, 0, ())] : List QT0).length) * 80 ≤ maxBytes))
  (some (((((([(IntKind.wrap .i64 (5 + y4.1.1), 0, [], y5.1.1, 0, 0, ())] : List QT0) ++ y6.1.1) ++ ([(7, 0, [], [], 0, 0, ())] : List QT0)) ++ y8.1.1) ++ ([(8, 0, [], [], 0, 0, ())] : List QT0), ()), ((y8.2.1.1, y8.2.1.2.1, ()), (), (), (), ())))
  none)
  none)
  none)
  (br k (decide (((([(IntKind.wrap .i64 (5 + y4.1.1), 0, [], y5.1.1, 0, 0, ())] : List QT0) ++ y6.1.1).length + ([(8, 0, [], [], 0, 0, ())] : List QT0).length) * 80 ≤ maxBytes))
  (some (((([(IntKind.wrap .i64 (5 + y4.1.1), 0, [], y5.1.1, 0, 0, ())] : List QT0) ++ y6.1.1) ++ ([(8, 0, [], [], 0, 0, ())] : List QT0), ()), ((y7.2.1.1, y7.2.1.2.1, ()), (), (), (), ())))
  none))
  (br k (decide (((([(IntKind.wrap .i64 (5 + y4.1.1), 0, [], y5.1.1, 0, 0, ())] : List QT0) ++ y6.1.1).length + ([(8, 0, [], [], 0, 0, ())] : List QT0).length) * 80 ≤ maxBytes))
  (some (((([(IntKind.wrap .i64 (5 + y4.1.1), 0, [], y5.1.1, 0, 0, ())] : List QT0) ++ y6.1.1) ++ ([(8, 0, [], [], 0, 0, ())] : List QT0), ()), ((y7.2.1.1, y7.2.1.2.1, ()), (), (), (), ())))
  none))
  none)
  ((br k (decide (y2.1.1 < 5))
  (br k (decide (deep > 0))
  (some (decide (most > 6), ()))
  (some (false, ())))
  (some (false, ())) : Option (Bool × Unit)).bind fun j9 =>
  br k (j9.1)
  (bd k (spec_l1Rd_counts k ((y2.2.1.1, y2.2.1.2.1, ()), d_, y1.1.1, ())) fun y10 =>
  bd k (spec_l1Rd_once k ((y10.2.1.1, y10.2.1.2.1, ()), 3, ())) fun y11 =>
  br k (y11.1.1)
  (bd k (spec_l1Rd_below k ((y11.2.1.1, y11.2.1.2.1, ()), 3, ())) fun y12 =>
  bd k (spec_l1Rd_once k ((y12.2.1.1, y12.2.1.2.1, ()), 6, ())) fun y13 =>
  br k (y13.1.1)
  (bd k (spec_l1Rd_few k ((y13.2.1.1, y13.2.1.2.1, ()), d_, 2, ())) fun y14 =>
  bd k (R_ ((y14.2.1.1, y14.2.1.2.1, ()), d_, 3, IntKind.wrap .i64 (deep - 1), ())) fun y15 =>
  br k (decide ((([(10, 0, [], y14.1.1, IntKind.wrap .i64 (1 + y12.1.1), 0, ())] : List QT0).length + y15.1.1.length) * 80 ≤ maxBytes))
  (bd k (spec_l1Rd_more k ((y15.2.1.1, y15.2.1.2.1, ()), y1.1.1, ())) fun y16 =>
  br k (decide (((([(10, 0, [], y14.1.1, IntKind.wrap .i64 (1 + y12.1.1), 0, ())] : List QT0) ++ y15.1.1).length + ([(y16.1.1.1, y16.1.1.2.1, y16.1.1.2.2.1, y16.1.1.2.2.2.1, y16.1.1.2.2.2.2.1, y16.1.1.2.2.2.2.2.1, ()), (8, 0, [], [], 0, 0, ())] : List QT0).length) * 80 ≤ maxBytes))
  (some (((([(10, 0, [], y14.1.1, IntKind.wrap .i64 (1 + y12.1.1), 0, ())] : List QT0) ++ y15.1.1) ++ ([(y16.1.1.1, y16.1.1.2.1, y16.1.1.2.2.1, y16.1.1.2.2.2.1, y16.1.1.2.2.2.2.1, y16.1.1.2.2.2.2.2.1, ()), (8, 0, [], [], 0, 0, ())] : List QT0), ()), ((y16.2.1.1, y16.2.1.2.1, ()), (), (), (), ())))
  none)
  none)
  (bd k (R_ ((y13.2.1.1, y13.2.1.2.1, ()), d_, 3, IntKind.wrap .i64 (deep - 1), ())) fun y17 =>
  br k (decide ((([(10, 0, [], y10.1.1, IntKind.wrap .i64 (1 + y12.1.1), 0, ())] : List QT0).length + y17.1.1.length) * 80 ≤ maxBytes))
  (bd k (spec_l1Rd_more k ((y17.2.1.1, y17.2.1.2.1, ()), y1.1.1, ())) fun y18 =>
  br k (decide (((([(10, 0, [], y10.1.1, IntKind.wrap .i64 (1 + y12.1.1), 0, ())] : List QT0) ++ y17.1.1).length + ([(y18.1.1.1, y18.1.1.2.1, y18.1.1.2.2.1, y18.1.1.2.2.2.1, y18.1.1.2.2.2.2.1, y18.1.1.2.2.2.2.2.1, ()), (8, 0, [], [], 0, 0, ())] : List QT0).length) * 80 ≤ maxBytes))
  (some (((([(10, 0, [], y10.1.1, IntKind.wrap .i64 (1 + y12.1.1), 0, ())] : List QT0) ++ y17.1.1) ++ ([(y18.1.1.1, y18.1.1.2.1, y18.1.1.2.2.1, y18.1.1.2.2.2.1, y18.1.1.2.2.2.2.1, y18.1.1.2.2.2.2.2.1, ()), (8, 0, [], [], 0, 0, ())] : List QT0), ()), ((y18.2.1.1, y18.2.1.2.1, ()), (), (), (), ())))
  none)
  none))
  (bd k (spec_l1Rd_once k ((y11.2.1.1, y11.2.1.2.1, ()), 6, ())) fun y19 =>
  br k (y19.1.1)
  (bd k (spec_l1Rd_few k ((y19.2.1.1, y19.2.1.2.1, ()), d_, 2, ())) fun y20 =>
  bd k (R_ ((y20.2.1.1, y20.2.1.2.1, ()), d_, 3, IntKind.wrap .i64 (deep - 1), ())) fun y21 =>
  br k (decide ((([(9, 0, [], y20.1.1, 0, 0, ())] : List QT0).length + y21.1.1.length) * 80 ≤ maxBytes))
  (bd k (spec_l1Rd_more k ((y21.2.1.1, y21.2.1.2.1, ()), y1.1.1, ())) fun y22 =>
  br k (decide (((([(9, 0, [], y20.1.1, 0, 0, ())] : List QT0) ++ y21.1.1).length + ([(y22.1.1.1, y22.1.1.2.1, y22.1.1.2.2.1, y22.1.1.2.2.2.1, y22.1.1.2.2.2.2.1, y22.1.1.2.2.2.2.2.1, ()), (8, 0, [], [], 0, 0, ())] : List QT0).length) * 80 ≤ maxBytes))
  (some (((([(9, 0, [], y20.1.1, 0, 0, ())] : List QT0) ++ y21.1.1) ++ ([(y22.1.1.1, y22.1.1.2.1, y22.1.1.2.2.1, y22.1.1.2.2.2.1, y22.1.1.2.2.2.2.1, y22.1.1.2.2.2.2.2.1, ()), (8, 0, [], [], 0, 0, ())] : List QT0), ()), ((y22.2.1.1, y22.2.1.2.1, ()), (), (), (), ())))
  none)
  none)
  (bd k (R_ ((y19.2.1.1, y19.2.1.2.1, ()), d_, 3, IntKind.wrap .i64 (deep - 1), ())) fun y23 =>
  br k (decide ((([(9, 0, [], y10.1.1, 0, 0, ())] : List QT0).length + y23.1.1.length) * 80 ≤ maxBytes))
  (bd k (spec_l1Rd_more k ((y23.2.1.1, y23.2.1.2.1, ()), y1.1.1, ())) fun y24 =>
  br k (decide (((([(9, 0, [], y10.1.1, 0, 0, ())] : List QT0) ++ y23.1.1).length + ([(y24.1.1.1, y24.1.1.2.1, y24.1.1.2.2.1, y24.1.1.2.2.2.1, y24.1.1.2.2.2.2.1, y24.1.1.2.2.2.2.2.1, ()), (8, 0, [], [], 0, 0, ())] : List QT0).length) * 80 ≤ maxBytes))
  (some (((([(9, 0, [], y10.1.1, 0, 0, ())] : List QT0) ++ y23.1.1) ++ ([(y24.1.1.1, y24.1.1.2.1, y24.1.1.2.2.1, y24.1.1.2.2.2.1, y24.1.1.2.2.2.2.1, y24.1.1.2.2.2.2.2.1, ()), (8, 0, [], [], 0, 0, ())] : List QT0), ()), ((y24.2.1.1, y24.2.1.2.1, ()), (), (), (), ())))
  none)
  none)))
  ((br k (y2.1.1 == 5)
  (some (decide ((d_.2.1.length : Int) > 0), ()))
  (some (false, ())) : Option (Bool × Unit)).bind fun j25 =>
  br k (j25.1)
  (bd k (spec_l1Rd_below k ((y2.2.1.1, y2.2.1.2.1, ()), (d_.2.1.length : Int), ())) fun y26 =>
  bd k (spec_l1Rd_few k ((y26.2.1.1, y26.2.1.2.1, ()), d_, 2, ())) fun y27 =>
  some ((([(2, y26.1.1, [], y27.1.1, 0, 0, ())] : List QT0), ()), ((y27.2.1.1, y27.2.1.2.1, ()), (), (), (), ())))
  ((br k (y2.1.1 == 6)
  (some (decide ((d_.2.2.1.length : Int) > 0), ()))
  (some (false, ())) : Option (Bool × Unit)).bind fun j28 =>
  br k (j28.1)
  (bd k (spec_l1Rd_below k ((y2.2.1.1, y2.2.1.2.1, ()), (d_.2.2.1.length : Int), ())) fun y29 =>
  bd k (spec_l1Rd_few k ((y29.2.1.1, y29.2.1.2.1, ()), d_, 1, ())) fun y30 =>
  bd k (spec_l1Rd_few k ((y30.2.1.1, y30.2.1.2.1, ()), d_, 1, ())) fun y31 =>
  some ((([(3, y29.1.1, y30.1.1, y31.1.1, 0, 0, ())] : List QT0), ()), ((y31.2.1.1, y31.2.1.2.1, ()), (), (), (), ())))
  (br k (decide (y2.1.1 < 9))
  (bd k (spec_l1Rd_below k ((y2.2.1.1, y2.2.1.2.1, ()), 20, ())) fun y32 =>
  bd k (spec_l1Rd_below k ((y32.2.1.1, y32.2.1.2.1, ()), 12, ())) fun y33 =>
  some ((([(4, y1.1.1, [], [], IntKind.wrap .i64 (y32.1.1 - 8), IntKind.wrap .i64 ((IntKind.wrap .i64 (y32.1.1 - 8)) + y33.1.1), ())] : List QT0), ()), ((y33.2.1.1, y33.2.1.2.1, ()), (), (), (), ())))
  (br k (y2.1.1 == 9)
  (bd k (spec_l1Rd_few k ((y2.2.1.1, y2.2.1.2.1, ()), d_, 2, ())) fun y34 =>
  some ((([(11, 0, [], y34.1.1, 0, 0, ())] : List QT0), ()), ((y34.2.1.1, y34.2.1.2.1, ()), (), (), (), ())))
  (br k (y2.1.1 == 10)
  (bd k (spec_l1Rd_few k ((y2.2.1.1, y2.2.1.2.1, ()), d_, 2, ())) fun y35 =>
  some ((([(12, 0, [], y35.1.1, 0, 0, ())] : List QT0), ()), ((y35.2.1.1, y35.2.1.2.1, ()), (), (), (), ())))
  (br k (y2.1.1 == 11)
  (bd k (spec_l1Rd_below k ((y2.2.1.1, y2.2.1.2.1, ()), 10, ())) fun y36 =>
  bd k (spec_l1Rd_below k ((y36.2.1.1, y36.2.1.2.1, ()), 4, ())) fun y37 =>
  some ((([(13, y1.1.1, [], [], IntKind.wrap .i64 (y36.1.1 - 4), IntKind.wrap .i64 ((IntKind.wrap .i64 (y36.1.1 - 4)) + y37.1.1), ())] : List QT0), ()), ((y37.2.1.1, y37.2.1.2.1, ()), (), (), (), ())))
  (br k (y2.1.1 == 12)
  (bd k (spec_l1Rd_once k ((y2.2.1.1, y2.2.1.2.1, ()), 3, ())) fun y38 =>
  br k (y38.1.1)
  (some ((([(14, 0, [], [], 0, 0, ())] : List QT0), ()), ((y38.2.1.1, y38.2.1.2.1, ()), (), (), (), ())))
  (bd k (spec_l1Rd_few k ((y38.2.1.1, y38.2.1.2.1, ()), d_, 1, ())) fun y39 =>
  some ((([(1, y1.1.1, [], y39.1.1, 0, 0, ())] : List QT0), ()), ((y39.2.1.1, y39.2.1.2.1, ()), (), (), (), ()))))
  (bd k (spec_l1Rd_few k ((y2.2.1.1, y2.2.1.2.1, ()), d_, 1, ())) fun y40 =>
  some ((([(1, y1.1.1, [], y40.1.1, 0, 0, ())] : List QT0), ()), ((y40.2.1.1, y40.2.1.2.1, ()), (), (), (), ())))))))))))
noncomputable def spec_l1Rd_line.sg (k : Nat) (R_ : QT31 → Option QT25) : Sig := ⟨spec_l1Rd_line.A, spec_l1Rd_line.R, spec_l1Rd_line k R_⟩
noncomputable def spec_l1Rd_line.C (k : Nat) (R_ : QT31 → Option QT25) : Ctx := ⟨Tryz.prog, [(17, [spec_l1Rd_below.sg k]), (82, [spec_l1Rd_few.sg k]), (32, [⟨spec_l1Rd_block.A, spec_l1Rd_block.R, R_⟩]), (15, [spec_l1Rd_once.sg k]), (83, [spec_l1Rd_counts.sg k]), (84, [spec_l1Rd_more.sg k])], k, [(43, QS10), (61, QS10), (71, QS10), (103, QS10), (115, QS10), (135, QS10), (157, QS10), (171, QS10), (179, QS10), (187, QS10), (201, QS10), (210, QS10), (216, QS10)], []⟩
theorem spec_l1Rd_line.ev (k : Nat) (R_ : QT31 → Option QT25) (x : spec_l1Rd_line.A.T) : evFunc (spec_l1Rd_line.C k R_) spec_l1Rd_line.ann Tryz.f58 spec_l1Rd_line.A spec_l1Rd_line.R x = spec_l1Rd_line k R_ x := by kernel_rfl
theorem spec_l1Rd_line.ok {L : List (Nat × Obj)}  (k : Nat) (R_ : QT31 → Option QT25) (ih : SigHolds Tryz.prog L 32 ⟨spec_l1Rd_block.A, spec_l1Rd_block.R, R_⟩) : SigHolds Tryz.prog L 58 (spec_l1Rd_line.sg k R_) :=
  sig_of_ev (C := spec_l1Rd_line.C k R_) (holds_cons (allok_cons (spec_l1Rd_below.ok k) allok_nil) (holds_cons (allok_cons (spec_l1Rd_few.ok k) allok_nil) (holds_cons (allok_cons (ih) allok_nil) (holds_cons (allok_cons (spec_l1Rd_once.ok k) allok_nil) (holds_cons (allok_cons (spec_l1Rd_counts.ok k) allok_nil) (holds_cons (allok_cons (spec_l1Rd_more.ok k) allok_nil) holds_nil)))))) (by kernel_rfl) Tryz.func58 (by kernel_rfl) _ _ _ (fun x y h => (spec_l1Rd_line.ev k R_ x).trans h) (by kernel_rfl)
end Go.Pev.F
