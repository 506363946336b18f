/-
  Printed by gen.py: what functions of the program compute, and that they do.
-/
import Derived.Test.YthjihnplkkhpmaaGreatDoorK04
set_option linter.unusedSimpArgs false
set_option linter.unusedVariables false
open Go.Proofs Go.Pev
namespace Go.Pev.F
set_option maxRecDepth 100000
set_option linter.unusedVariables false

/-! loop.example/g00719/spec.DeclOk -/
def spec_DeclOk.A : Sh := (.cons (.pur (.cons (.sl false .str) (.cons (.sl false .str) (.cons (.sl false (.cons .str (.cons (.int .i64) .nil))) .nil)))) .nil)
def spec_DeclOk.R : Sh := (.cons (.pur .bool) .nil)
def spec_DeclOk.ann : Ann := { loops := [(0, [(1, (.box (.cons (.pur (.sl false .str)) (.cons (.pur (.sl false .str)) (.cons (.pur (.sl false (.cons .str (.cons (.int .i64) .nil)))) .nil))))), (3, (.own .str)), (4, (.pur (.int .i64)))]), (2, [(3, (.own .str)), (5, (.pur (.int .i64)))])], joins := [(1, [(21, .bool)]), (13, [(75, .bool)])], keys := [(3, [([22], true), ([1], false), ([1], false), ([22, 25], true), ([1], false), ([1], false), ([25, 28], true), ([], false)])] }
noncomputable def spec_DeclOk.l2 (k : Nat)  (G2 : ((List (List UInt8)) × Int × Unit) → Option ((Bool × Unit) × (Unit × Unit))) : ((List (List UInt8)) × Int × Unit) → Option ((Bool × Unit) × (Unit × Unit)) := fun x => match x with
 | (all, i, ()) =>
  br k (decide (i < (all.length : Int)))
  ((br k (decide (0 ≤ i ∧ i < (all.length : Int)))
  (bd k (all[i.toNat]?) fun x5 =>
  bd k (spec_l3Name k (x5, ())) fun y6 =>
  br k (!y6.1.1)
  (some (true, ()))
  (br k (decide (0 ≤ i ∧ i ≤ (all.length : Int)))
  (br k (decide (0 ≤ i ∧ i < (all.length : Int)))
  (bd k (all[i.toNat]?) fun x7 =>
  bd k (spec_l3Place k (subL all ((0 : Int).toNat) (i.toNat - (0 : Int).toNat), x7, ())) fun y8 =>
  some (decide (y8.1.1 ≥ 0), ()))
  none)
  none))
  none : Option (Bool × Unit)).bind fun j9 =>
  br k (j9.1)
  (some ((false, ()), ((), ())))
  (G2 (all, IntKind.wrap .i64 (i + 1), ())))
  (some ((true, ()), ((), ())))
noncomputable def spec_DeclOk.l0 (k : Nat)  (G0 : (((List (List UInt8)) × (List (List UInt8)) × (List ((List UInt8) × Int × Unit)) × Unit) × (List (List UInt8)) × Int × Unit) → Option ((Bool × Unit) × (Unit × Unit))) : (((List (List UInt8)) × (List (List UInt8)) × (List ((List UInt8) × Int × Unit)) × Unit) × (List (List UInt8)) × Int × Unit) → Option ((Bool × Unit) × (Unit × Unit)) := fun x => match x with
 | ((d__0, d__1, d__2, ()), all, i, ()) =>
  br k (decide (i < (d__2.length : Int)))
  (br k (decide (0 ≤ i))
  (bd k (d__2[i.toNat]?) fun x2 =>
  bd k (spec_l1In k (x2.2.1, 1, 16, ())) fun y3 =>
  br k (!y3.1.1)
  (some ((false, ()), ((), ())))
  (br k (decide (0 ≤ i))
  (bd k (d__2[i.toNat]?) fun x4 =>
  br k (decide ((all.length + ([x4.1] : List (List UInt8)).length) * 16 ≤ maxBytes))
  (G0 ((d__0, d__1, d__2, ()), all ++ ([x4.1] : List (List UInt8)), IntKind.wrap .i64 (i + 1), ()))
  none)
  none))
  none)
  (iter (spec_DeclOk.l2 k) k (all, 0, ()))
noncomputable def spec_DeclOk (k : Nat) : (((List (List UInt8)) × (List (List UInt8)) × (List ((List UInt8) × Int × Unit)) × Unit) × Unit) → Option ((Bool × Unit) × (Unit × Unit)) := fun x => match x with
 | (d_, ()) =>
  (br k (decide ((d_.1.length : Int) > 5))
  (some (true, ()))
  (br k (decide ((d_.2.1.length : Int) > 3))
  (some (true, ()))
  (some (decide ((d_.2.2.1.length : Int) > 2), ()))) : Option (Bool × Unit)).bind fun j1 =>
  br k (j1.1)
  (some ((false, ()), ((), ())))
  (br k (decide ((([] : List (List UInt8)).length + d_.1.length) * 16 ≤ maxBytes))
  (br k (decide (((([] : List (List UInt8)) ++ d_.1).length + d_.2.1.length) * 16 ≤ maxBytes))
  (iter (spec_DeclOk.l0 k) k ((d_.1, d_.2.1, d_.2.2.1, ()), (([] : List (List UInt8)) ++ d_.1) ++ d_.2.1, 0, ()))
  none)
  none)
noncomputable def spec_DeclOk.sg (k : Nat) : Sig := ⟨spec_DeclOk.A, spec_DeclOk.R, spec_DeclOk k⟩
noncomputable def spec_DeclOk.C (k : Nat) : Ctx := ⟨Tryz.prog, [(88, [spec_l1In.sg k]), (89, [spec_l3Name.sg k]), (90, [spec_l3Place.sg k])], k, []⟩
theorem spec_DeclOk.ev (k : Nat) (x : spec_DeclOk.A.T) : evFunc (spec_DeclOk.C k) spec_DeclOk.ann Tryz.f45 spec_DeclOk.A spec_DeclOk.R x = spec_DeclOk k x := by kernel_rfl
theorem spec_DeclOk.ok {L : List (Nat × Obj)}  (k : Nat) : SigHolds Tryz.prog L 45 (spec_DeclOk.sg k) :=
  sig_of_ev (C := spec_DeclOk.C k) (holds_cons (allok_cons (spec_l1In.ok k) allok_nil) (holds_cons (allok_cons (spec_l3Name.ok k) allok_nil) (holds_cons (allok_cons (spec_l3Place.ok k) allok_nil) holds_nil))) (by kernel_rfl) Tryz.func45 (by kernel_rfl) spec_DeclOk.ann spec_DeclOk.A spec_DeclOk.R (fun x y h => (spec_DeclOk.ev k x).trans h) (by kernel_rfl)

/-! loop.example/g00719/spec.StoreNew -/
def spec_StoreNew.A : Sh := (.cons (.pur (.cons (.sl false .str) (.cons (.sl false .str) (.cons (.sl false (.cons .str (.cons (.int .i64) .nil))) .nil)))) .nil)
def spec_StoreNew.R : Sh := (.cons (.agg (.cons (.own (.int .i64)) (.cons (.own .bool) (.cons (.rows (.own (.int .i64))) .nil)))) .nil)
def spec_StoreNew.ann : Ann := { loops := [(0, [(1, (.box (.cons (.pur (.sl false .str)) (.cons (.pur (.sl false .str)) (.cons (.pur (.sl false (.cons .str (.cons (.int .i64) .nil)))) .nil))))), (2, (.box (.cons (.own (.int .i64)) (.cons (.own .bool) (.cons (.rows (.own (.int .i64))) .nil))))), (3, (.box (.cons (.own (.int .i64)) (.cons (.own .bool) (.cons (.rows (.own (.int .i64))) .nil))))), (4, (.pur (.int .i64)))])], joins := [], keys := [(3, [([1], false), ([1], false), ([], false), ([12], true), ([1], false), ([1], false), ([], false), ([16], true), ([12, 16], false), ([3], true), ([3, 12, 16], true)]), (7, [([3], false), ([3], false), ([1], false), ([1], false), ([], false), ([], false), ([], false), ([], false), ([33], true), ([33, 34], true), ([3, 34, 35], true), ([3], false), ([3, 35], true)])] }
noncomputable def spec_StoreNew.l0 (k : Nat)  (G0 : (((List (List UInt8)) × (List (List UInt8)) × (List ((List UInt8) × Int × Unit)) × Unit) × ((List Int) × (List Bool) × (List (List Int)) × Unit) × ((List Int) × (List Bool) × (List (List Int)) × Unit) × Int × Unit) → Option ((((List Int) × (List Bool) × (List (List Int)) × Unit) × Unit) × (Unit × Unit))) : (((List (List UInt8)) × (List (List UInt8)) × (List ((List UInt8) × Int × Unit)) × Unit) × ((List Int) × (List Bool) × (List (List Int)) × Unit) × ((List Int) × (List Bool) × (List (List Int)) × Unit) × Int × Unit) → Option ((((List Int) × (List Bool) × (List (List Int)) × Unit) × Unit) × (Unit × Unit)) := fun x => match x with
 | ((d__0, d__1, d__2, ()), (t2_0, t2_1, t2_2, ()), (s__0, s__1, s__2, ()), i, ()) =>
  br k (decide (i < (d__2.length : Int)))
  (br k (decide (0 ≤ i))
  (bd k (d__2[i.toNat]?) fun x2 =>
  br k (decide (0 ≤ x2.2.1 ∧ x2.2.1 ≤ x2.2.1 ∧ x2.2.1 * 8 ≤ maxBytes))
  (br k (decide ((s__2.length + ([List.replicate x2.2.1.toNat (Kd.z (.int .i64))] : List (List Int)).length) * 24 ≤ maxBytes))
  (G0 ((d__0, d__1, d__2, ()), (t2_0, t2_1, t2_2, ()), (s__0, s__1, s__2 ++ ([List.replicate x2.2.1.toNat (Kd.z (.int .i64))] : List (List Int)), ()), IntKind.wrap .i64 (i + 1), ()))
  none)
  none)
  none)
  (some (((s__0, s__1, s__2, ()), ()), ((), ())))
noncomputable def spec_StoreNew (k : Nat) : (((List (List UInt8)) × (List (List UInt8)) × (List ((List UInt8) × Int × Unit)) × Unit) × Unit) → Option ((((List Int) × (List Bool) × (List (List Int)) × Unit) × Unit) × (Unit × Unit)) := fun x => match x with
 | (d_, ()) =>
  bd k (spec_DeclOk k (d_, ())) fun y1 =>
  br k (!y1.1.1)
  (some ((([], [], ([] : List (List Int)), ()), ()), ((), ())))
  (br k (decide (0 ≤ (d_.1.length : Int) ∧ (d_.1.length : Int) ≤ (d_.1.length : Int) ∧ (d_.1.length : Int) * 8 ≤ maxBytes))
  (br k (decide (0 ≤ (d_.2.1.length : Int) ∧ (d_.2.1.length : Int) ≤ (d_.2.1.length : Int) ∧ (d_.2.1.length : Int) * 1 ≤ maxBytes))
  (iter (spec_StoreNew.l0 k) k ((d_.1, d_.2.1, d_.2.2.1, ()), ([], [], ([] : List (List Int)), ()), (List.replicate (d_.1.length : Int).toNat (Kd.z (.int .i64)), List.replicate (d_.2.1.length : Int).toNat (Kd.z .bool), ([] : List (List Int)), ()), 0, ()))
  none)
  none)
noncomputable def spec_StoreNew.sg (k : Nat) : Sig := ⟨spec_StoreNew.A, spec_StoreNew.R, spec_StoreNew k⟩
noncomputable def spec_StoreNew.C (k : Nat) : Ctx := ⟨Tryz.prog, [(45, [spec_DeclOk.sg k])], k, [(34, (.own (.int .i64)))]⟩
theorem spec_StoreNew.ev (k : Nat) (x : spec_StoreNew.A.T) : evFunc (spec_StoreNew.C k) spec_StoreNew.ann Tryz.f48 spec_StoreNew.A spec_StoreNew.R x = spec_StoreNew k x := by kernel_rfl
theorem spec_StoreNew.ok {L : List (Nat × Obj)}  (k : Nat) : SigHolds Tryz.prog L 48 (spec_StoreNew.sg k) :=
  sig_of_ev (C := spec_StoreNew.C k) (holds_cons (allok_cons (spec_DeclOk.ok k) allok_nil) holds_nil) (by kernel_rfl) Tryz.func48 (by kernel_rfl) spec_StoreNew.ann spec_StoreNew.A spec_StoreNew.R (fun x y h => (spec_StoreNew.ev k x).trans h) (by kernel_rfl)

/-! (*loop.example/g00719/spec.l1Rd).store -/
def spec_l1Rd_store.A : Sh := (.cons (.box (.cons (.pur (.sl false (.int .u8))) (.cons (.pur (.int .i64)) .nil))) (.cons (.pur (.cons (.sl false .str) (.cons (.sl false .str) (.cons (.sl false (.cons .str (.cons (.int .i64) .nil))) .nil)))) .nil))
def spec_l1Rd_store.R : Sh := (.cons (.agg (.cons (.own (.int .i64)) (.cons (.own .bool) (.cons (.rows (.own (.int .i64))) .nil)))) .nil)
def spec_l1Rd_store.ann : Ann := { loops := [(0, [(0, (.box (.cons (.pur (.sl false (.int .u8))) (.cons (.pur (.int .i64)) .nil)))), (4, (.box (.cons (.own (.int .i64)) (.cons (.own .bool) (.cons (.rows (.own (.int .i64))) .nil))))), (5, (.box (.cons (.own (.int .i64)) (.cons (.own .bool) (.cons (.rows (.own (.int .i64))) .nil))))), (6, (.pur (.int .i64)))]), (2, [(0, (.box (.cons (.pur (.sl false (.int .u8))) (.cons (.pur (.int .i64)) .nil)))), (4, (.box (.cons (.own (.int .i64)) (.cons (.own .bool) (.cons (.rows (.own (.int .i64))) .nil))))), (5, (.box (.cons (.own (.int .i64)) (.cons (.own .bool) (.cons (.rows (.own (.int .i64))) .nil))))), (7, (.pur (.int .i64)))]), (4, [(0, (.box (.cons (.pur (.sl false (.int .u8))) (.cons (.pur (.int .i64)) .nil)))), (4, (.box (.cons (.own (.int .i64)) (.cons (.own .bool) (.cons (.rows (.own (.int .i64))) .nil))))), (5, (.box (.cons (.own (.int .i64)) (.cons (.own .bool) (.cons (.rows (.own (.int .i64))) .nil))))), (8, (.pur (.int .i64)))]), (6, [(0, (.box (.cons (.pur (.sl false (.int .u8))) (.cons (.pur (.int .i64)) .nil)))), (4, (.box (.cons (.own (.int .i64)) (.cons (.own .bool) (.cons (.rows (.own (.int .i64))) .nil))))), (5, (.box (.cons (.own (.int .i64)) (.cons (.own .bool) (.cons (.rows (.own (.int .i64))) .nil))))), (8, (.pur (.int .i64))), (9, (.pur (.int .i64)))])], joins := [], keys := [(5, [([5], false), ([5], false), ([], false), ([], false), ([0, 23], true), ([5], false), ([5], true)]), (9, [([5], false), ([5], false), ([], false), ([], false), ([0, 36], true), ([5], false), ([5], true)]), (16, [([5, 50], false), ([5, 50], false), ([], false), ([5, 50], false), ([5, 50, 59], true), ([], false), ([], false), ([0, 62], true), ([], false), ([59], false), ([59], true)])] }
noncomputable def spec_l1Rd_store.l6 (k : Nat) (G4 : (((List Int) × Int × Unit) × ((List Int) × (List Bool) × (List (List Int)) × Unit) × ((List Int) × (List Bool) × (List (List Int)) × Unit) × Int × Unit) → Option ((((List Int) × (List Bool) × (List (List Int)) × Unit) × Unit) × (((List Int) × Int × Unit) × Unit × Unit))) (G6 : (((List Int) × Int × Unit) × ((List Int) × (List Bool) × (List (List Int)) × Unit) × ((List Int) × (List Bool) × (List (List Int)) × Unit) × Int × Int × Unit) → Option ((((List Int) × (List Bool) × (List (List Int)) × Unit) × Unit) × (((List Int) × Int × Unit) × Unit × Unit))) : (((List Int) × Int × Unit) × ((List Int) × (List Bool) × (List (List Int)) × Unit) × ((List Int) × (List Bool) × (List (List Int)) × Unit) × Int × Int × Unit) → Option ((((List Int) × (List Bool) × (List (List Int)) × Unit) × Unit) × (((List Int) × Int × Unit) × Unit × Unit)) := fun x => match x with
 | ((r_0, r_1, ()), (t4_0, t4_1, t4_2, ()), (s__0, s__1, s__2, ()), i, k_, ()) =>
  br k (decide (0 ≤ i ∧ i < (s__2.length : Int)))
  (bd k (s__2[i.toNat]?) fun x6 =>
  br k (decide (k_ < (x6.length : Int)))
  (br k (decide (0 ≤ i ∧ i < (s__2.length : Int)))
  (bd k ((s__2.set i.toNat x6)[i.toNat]?) fun x7 =>
  bd k (spec_l1Rd_below k ((r_0, r_1, ()), 9, ())) fun y8 =>
  br k (decide (0 ≤ k_ ∧ k_ < (x7.length : Int)))
  (bd k (x7[k_.toNat]?) fun x9 =>
  G6 ((y8.2.1.1, y8.2.1.2.1, ()), (t4_0, t4_1, t4_2, ()), (s__0, s__1, (s__2.set i.toNat x6).set i.toNat (x7.set k_.toNat (IntKind.wrap .i64 (y8.1.1 - 3))), ()), i, IntKind.wrap .i64 (k_ + 1), ()))
  none)
  none)
  (G4 ((r_0, r_1, ()), (t4_0, t4_1, t4_2, ()), (s__0, s__1, s__2.set i.toNat x6, ()), IntKind.wrap .i64 (i + 1), ())))
  none
noncomputable def spec_l1Rd_store.l4 (k : Nat)  (G4 : (((List Int) × Int × Unit) × ((List Int) × (List Bool) × (List (List Int)) × Unit) × ((List Int) × (List Bool) × (List (List Int)) × Unit) × Int × Unit) → Option ((((List Int) × (List Bool) × (List (List Int)) × Unit) × Unit) × (((List Int) × Int × Unit) × Unit × Unit))) : (((List Int) × Int × Unit) × ((List Int) × (List Bool) × (List (List Int)) × Unit) × ((List Int) × (List Bool) × (List (List Int)) × Unit) × Int × Unit) → Option ((((List Int) × (List Bool) × (List (List Int)) × Unit) × Unit) × (((List Int) × Int × Unit) × Unit × Unit)) := fun x => match x with
 | ((r_0, r_1, ()), (t4_0, t4_1, t4_2, ()), (s__0, s__1, s__2, ()), i, ()) =>
  br k (decide (i < (s__2.length : Int)))
  (iter (spec_l1Rd_store.l6 k G4) k ((r_0, r_1, ()), (t4_0, t4_1, t4_2, ()), (s__0, s__1, s__2, ()), i, 0, ()))
  (some (((s__0, s__1, s__2, ()), ()), ((r_0, r_1, ()), (), ())))
noncomputable def spec_l1Rd_store.l2 (k : Nat)  (G2 : (((List Int) × Int × Unit) × ((List Int) × (List Bool) × (List (List Int)) × Unit) × ((List Int) × (List Bool) × (List (List Int)) × Unit) × Int × Unit) → Option ((((List Int) × (List Bool) × (List (List Int)) × Unit) × Unit) × (((List Int) × Int × Unit) × Unit × Unit))) : (((List Int) × Int × Unit) × ((List Int) × (List Bool) × (List (List Int)) × Unit) × ((List Int) × (List Bool) × (List (List Int)) × Unit) × Int × Unit) → Option ((((List Int) × (List Bool) × (List (List Int)) × Unit) × Unit) × (((List Int) × Int × Unit) × Unit × Unit)) := fun x => match x with
 | ((r_0, r_1, ()), (t4_0, t4_1, t4_2, ()), (s__0, s__1, s__2, ()), i, ()) =>
  br k (decide (i < (s__1.length : Int)))
  (bd k (spec_l1Rd_once k ((r_0, r_1, ()), 2, ())) fun y4 =>
  br k (decide (0 ≤ i ∧ i < (s__1.length : Int)))
  (bd k (s__1[i.toNat]?) fun x5 =>
  G2 ((y4.2.1.1, y4.2.1.2.1, ()), (t4_0, t4_1, t4_2, ()), (s__0, s__1.set i.toNat y4.1.1, s__2, ()), IntKind.wrap .i64 (i + 1), ()))
  none)
  (iter (spec_l1Rd_store.l4 k) k ((r_0, r_1, ()), (t4_0, t4_1, t4_2, ()), (s__0, s__1, s__2, ()), 0, ()))
noncomputable def spec_l1Rd_store.l0 (k : Nat)  (G0 : (((List Int) × Int × Unit) × ((List Int) × (List Bool) × (List (List Int)) × Unit) × ((List Int) × (List Bool) × (List (List Int)) × Unit) × Int × Unit) → Option ((((List Int) × (List Bool) × (List (List Int)) × Unit) × Unit) × (((List Int) × Int × Unit) × Unit × Unit))) : (((List Int) × Int × Unit) × ((List Int) × (List Bool) × (List (List Int)) × Unit) × ((List Int) × (List Bool) × (List (List Int)) × Unit) × Int × Unit) → Option ((((List Int) × (List Bool) × (List (List Int)) × Unit) × Unit) × (((List Int) × Int × Unit) × Unit × Unit)) := fun x => match x with
 | ((r_0, r_1, ()), (t4_0, t4_1, t4_2, ()), (s__0, s__1, s__2, ()), i, ()) =>
  br k (decide (i < (s__0.length : Int)))
  (bd k (spec_l1Rd_num k ((r_0, r_1, ()), ())) fun y2 =>
  br k (decide (0 ≤ i ∧ i < (s__0.length : Int)))
  (bd k (s__0[i.toNat]?) fun x3 =>
  G0 ((y2.2.1.1, y2.2.1.2.1, ()), (t4_0, t4_1, t4_2, ()), (s__0.set i.toNat y2.1.1, s__1, s__2, ()), IntKind.wrap .i64 (i + 1), ()))
  none)
  (iter (spec_l1Rd_store.l2 k) k ((r_0, r_1, ()), (t4_0, t4_1, t4_2, ()), (s__0, s__1, s__2, ()), 0, ()))
noncomputable def spec_l1Rd_store (k : Nat) : (((List Int) × Int × Unit) × ((List (List UInt8)) × (List (List UInt8)) × (List ((List UInt8) × Int × Unit)) × Unit) × Unit) → Option ((((List Int) × (List Bool) × (List (List Int)) × Unit) × Unit) × (((List Int) × Int × Unit) × Unit × Unit)) := fun x => match x with
 | ((r_0, r_1, ()), d_, ()) =>
  bd k (spec_StoreNew k (d_, ())) fun y1 =>
  iter (spec_l1Rd_store.l0 k) k ((r_0, r_1, ()), ([], [], ([] : List (List Int)), ()), (y1.1.1.1, y1.1.1.2.1, y1.1.1.2.2.1, ()), 0, ())
noncomputable def spec_l1Rd_store.sg (k : Nat) : Sig := ⟨spec_l1Rd_store.A, spec_l1Rd_store.R, spec_l1Rd_store k⟩
noncomputable def spec_l1Rd_store.C (k : Nat) : Ctx := ⟨Tryz.prog, [(48, [spec_StoreNew.sg k]), (109, [spec_l1Rd_num.sg k]), (31, [spec_l1Rd_once.sg k]), (70, [spec_l1Rd_below.sg k])], k, []⟩
theorem spec_l1Rd_store.ev (k : Nat) (x : spec_l1Rd_store.A.T) : evFunc (spec_l1Rd_store.C k) spec_l1Rd_store.ann Tryz.f75 spec_l1Rd_store.A spec_l1Rd_store.R x = spec_l1Rd_store k x := by kernel_rfl
theorem spec_l1Rd_store.ok {L : List (Nat × Obj)}  (k : Nat) : SigHolds Tryz.prog L 75 (spec_l1Rd_store.sg k) :=
  sig_of_ev (C := spec_l1Rd_store.C k) (holds_cons (allok_cons (spec_StoreNew.ok k) allok_nil) (holds_cons (allok_cons (spec_l1Rd_num.ok k) allok_nil) (holds_cons (allok_cons (spec_l1Rd_once.ok k) allok_nil) (holds_cons (allok_cons (spec_l1Rd_below.ok k) allok_nil) holds_nil)))) (by kernel_rfl) Tryz.func75 (by kernel_rfl) spec_l1Rd_store.ann spec_l1Rd_store.A spec_l1Rd_store.R (fun x y h => (spec_l1Rd_store.ev k x).trans h) (by kernel_rfl)

/-! (*loop.example/g00719/spec.l1Rd).near -/
def spec_l1Rd_near.A : Sh := (.cons (.box (.cons (.pur (.sl false (.int .u8))) (.cons (.pur (.int .i64)) .nil))) (.cons (.pur (.int .i64)) (.cons (.pur (.int .i64)) .nil)))
def spec_l1Rd_near.R : Sh := (.cons (.pur (.int .i64)) .nil)
def spec_l1Rd_near.ann : Ann := { loops := [], joins := [], keys := [] }
noncomputable def spec_l1Rd_near (k : Nat) : (((List Int) × Int × Unit) × Int × Int × Unit) → Option ((Int × Unit) × (((List Int) × Int × Unit) × Unit × Unit × Unit)) := fun x => match x with
 | ((r_0, r_1, ()), low, high, ()) =>
  bd k (spec_l1Rd_below k ((r_0, r_1, ()), 8, ())) fun y1 =>
  br k (y1.1.1 == 0)
  (some ((low, ()), ((y1.2.1.1, y1.2.1.2.1, ()), (), (), ())))
  (br k (y1.1.1 == 1)
  (some ((high, ()), ((y1.2.1.1, y1.2.1.2.1, ()), (), (), ())))
  (br k (decide (high < low))
  (some ((low, ()), ((y1.2.1.1, y1.2.1.2.1, ()), (), (), ())))
  (bd k (spec_l1Rd_word k ((y1.2.1.1, y1.2.1.2.1, ()), ())) fun y2 =>
  br k (decide (0 ≤ (1 : Int)))
  (br k (!decide ((IntKind.wrap .u64 (IntKind.wrap .i64 ((IntKind.wrap .i64 (high - low)) + 1))) = 0))
  (some ((IntKind.wrap .i64 (low + (IntKind.wrap .i64 ((y2.1.1.fdiv (2 ^ (min (1 : Int).toNat 64))).tmod (IntKind.wrap .u64 (IntKind.wrap .i64 ((IntKind.wrap .i64 (high - low)) + 1)))))), ()), ((y2.2.1.1, y2.2.1.2.1, ()), (), (), ())))
  none)
  none)))
noncomputable def spec_l1Rd_near.sg (k : Nat) : Sig := ⟨spec_l1Rd_near.A, spec_l1Rd_near.R, spec_l1Rd_near k⟩
noncomputable def spec_l1Rd_near.C (k : Nat) : Ctx := ⟨Tryz.prog, [(70, [spec_l1Rd_below.sg k]), (141, [spec_l1Rd_word.sg k])], k, []⟩
theorem spec_l1Rd_near.ev (k : Nat) (x : spec_l1Rd_near.A.T) : evFunc (spec_l1Rd_near.C k) spec_l1Rd_near.ann Tryz.f142 spec_l1Rd_near.A spec_l1Rd_near.R x = spec_l1Rd_near k x := by kernel_rfl
theorem spec_l1Rd_near.ok {L : List (Nat × Obj)}  (k : Nat) : SigHolds Tryz.prog L 142 (spec_l1Rd_near.sg k) :=
  sig_of_ev (C := spec_l1Rd_near.C k) (holds_cons (allok_cons (spec_l1Rd_below.ok k) allok_nil) (holds_cons (allok_cons (spec_l1Rd_word.ok k) allok_nil) holds_nil)) (by kernel_rfl) Tryz.func142 (by kernel_rfl) spec_l1Rd_near.ann spec_l1Rd_near.A spec_l1Rd_near.R (fun x y h => (spec_l1Rd_near.ev k x).trans h) (by kernel_rfl)

/-! (*loop.example/g00719/spec.l1Rd).off -/
def spec_l1Rd_off.A : Sh := (.cons (.box (.cons (.pur (.sl false (.int .u8))) (.cons (.pur (.int .i64)) .nil))) (.cons (.pur (.int .i64)) (.cons (.pur (.int .i64)) .nil)))
def spec_l1Rd_off.R : Sh := (.cons (.pur (.int .i64)) .nil)
def spec_l1Rd_off.ann : Ann := { loops := [], joins := [], keys := [] }
noncomputable def spec_l1Rd_off (k : Nat) : (((List Int) × Int × Unit) × Int × Int × Unit) → Option ((Int × Unit) × (((List Int) × Int × Unit) × Unit × Unit × Unit)) := fun x => match x with
 | ((r_0, r_1, ()), low, high, ()) =>
  bd k (spec_l1Rd_once k ((r_0, r_1, ()), 24, ())) fun y1 =>
  br k (y1.1.1)
  (bd k (spec_l1Rd_below k ((y1.2.1.1, y1.2.1.2.1, ()), 4, ())) fun y2 =>
  br k (decide (0 ≤ y2.1.1 ∧ y2.1.1 < (([IntKind.wrap .i64 (low - 1), IntKind.wrap .i64 (high + 1), (-9223372036854775808), 9223372036854775807] : List Int).length : Int)))
  (bd k (([IntKind.wrap .i64 (low - 1), IntKind.wrap .i64 (high + 1), (-9223372036854775808), 9223372036854775807] : List Int)[y2.1.1.toNat]?) fun x3 =>
  some ((x3, ()), ((y2.2.1.1, y2.2.1.2.1, ()), (), (), ())))
  none)
  (bd k (spec_l1Rd_near k ((y1.2.1.1, y1.2.1.2.1, ()), low, high, ())) fun y4 =>
  some ((y4.1.1, ()), ((y4.2.1.1, y4.2.1.2.1, ()), (), (), ())))
noncomputable def spec_l1Rd_off.sg (k : Nat) : Sig := ⟨spec_l1Rd_off.A, spec_l1Rd_off.R, spec_l1Rd_off k⟩
noncomputable def spec_l1Rd_off.C (k : Nat) : Ctx := ⟨Tryz.prog, [(31, [spec_l1Rd_once.sg k]), (70, [spec_l1Rd_below.sg k]), (142, [spec_l1Rd_near.sg k])], k, []⟩
theorem spec_l1Rd_off.ev (k : Nat) (x : spec_l1Rd_off.A.T) : evFunc (spec_l1Rd_off.C k) spec_l1Rd_off.ann Tryz.f110 spec_l1Rd_off.A spec_l1Rd_off.R x = spec_l1Rd_off k x := by kernel_rfl
theorem spec_l1Rd_off.ok {L : List (Nat × Obj)}  (k : Nat) : SigHolds Tryz.prog L 110 (spec_l1Rd_off.sg k) :=
  sig_of_ev (C := spec_l1Rd_off.C k) (holds_cons (allok_cons (spec_l1Rd_once.ok k) allok_nil) (holds_cons (allok_cons (spec_l1Rd_below.ok k) allok_nil) (holds_cons (allok_cons (spec_l1Rd_near.ok k) allok_nil) holds_nil))) (by kernel_rfl) Tryz.func110 (by kernel_rfl) spec_l1Rd_off.ann spec_l1Rd_off.A spec_l1Rd_off.R (fun x y h => (spec_l1Rd_off.ev k x).trans h) (by kernel_rfl)

/-! (*loop.example/g00719/spec.l1Rd).hurtDecl -/
def spec_l1Rd_hurtDecl.A : Sh := (.cons (.box (.cons (.pur (.sl false (.int .u8))) (.cons (.pur (.int .i64)) .nil))) (.cons (.pur (.cons (.sl false .str) (.cons (.sl false .str) (.cons (.sl false (.cons .str (.cons (.int .i64) .nil))) .nil)))) .nil))
def spec_l1Rd_hurtDecl.R : Sh := (.cons (.pur (.cons (.sl false .str) (.cons (.sl false .str) (.cons (.sl false (.cons .str (.cons (.int .i64) .nil))) .nil)))) .nil)
def spec_l1Rd_hurtDecl.ann : Ann := { loops := [], joins := [], keys := [] }
noncomputable def spec_l1Rd_hurtDecl (k : Nat) : (((List Int) × Int × Unit) × ((List (List UInt8)) × (List (List UInt8)) × (List ((List UInt8) × Int × Unit)) × Unit) × Unit) → Option ((((List (List UInt8)) × (List (List UInt8)) × (List ((List UInt8) × Int × Unit)) × Unit) × Unit) × (((List Int) × Int × Unit) × Unit × Unit)) := fun x => match x with
 | ((r_0, r_1, ()), d_, ()) =>
  bd k (spec_l1Rd_below k ((r_0, r_1, ()), 24, ())) fun y1 =>
  br k (y1.1.1 == 0)
  (br k (decide ((([] : List (List UInt8)).length + d_.1.length) * 16 ≤ maxBytes))
  (bd k (spec_l1Rd_below k ((y1.2.1.1, y1.2.1.2.1, ()), 6, ())) fun y2 =>
  br k (decide (0 ≤ y2.1.1 ∧ y2.1.1 < (([[120], [105, 102], [88], [], [108, 111, 110, 103, 101, 114, 110, 97, 109, 101], [111, 107, 110, 97, 109, 101]] : List (List UInt8)).length : Int)))
  (bd k (([[120], [105, 102], [88], [], [108, 111, 110, 103, 101, 114, 110, 97, 109, 101], [111, 107, 110, 97, 109, 101]] : List (List UInt8))[y2.1.1.toNat]?) fun x3 =>
  br k (decide (((([] : List (List UInt8)) ++ d_.1).length + ([x3] : List (List UInt8)).length) * 16 ≤ maxBytes))
  (some ((((([] : List (List UInt8)) ++ d_.1) ++ ([x3] : List (List UInt8)), d_.2.1, d_.2.2.1, ()), ()), ((y2.2.1.1, y2.2.1.2.1, ()), (), ())))
  none)
  none)
  none)
  (br k (y1.1.1 == 1)
  (br k (decide ((([] : List ((List UInt8) × Int × Unit)).length + d_.2.2.1.length) * 24 ≤ maxBytes))
  (bd k (spec_l1Rd_off k ((y1.2.1.1, y1.2.1.2.1, ()), 1, 16, ())) fun y4 =>
  br k (decide (((([] : List ((List UInt8) × Int × Unit)) ++ d_.2.2.1).length + ([([100], y4.1.1, ())] : List ((List UInt8) × Int × Unit)).length) * 24 ≤ maxBytes))
  (some (((d_.1, d_.2.1, (([] : List ((List UInt8) × Int × Unit)) ++ d_.2.2.1) ++ ([([100], y4.1.1, ())] : List ((List UInt8) × Int × Unit)), ()), ()), ((y4.2.1.1, y4.2.1.2.1, ()), (), ())))
  none)
  none)
  (br k (y1.1.1 == 2)
  (bd k (spec_l1Rd_below k ((y1.2.1.1, y1.2.1.2.1, ()), 2, ())) fun y5 =>
  br k (decide (0 ≤ (IntKind.wrap .i64 (5 + y5.1.1)) ∧ (IntKind.wrap .i64 (5 + y5.1.1)) ≤ (([[112], [113], [114], [115], [116], [117]] : List (List UInt8)).length : Int)))
  (some (((subL ([[112], [113], [114], [115], [116], [117]] : List (List UInt8)) ((0 : Int).toNat) ((IntKind.wrap .i64 (5 + y5.1.1)).toNat - (0 : Int).toNat), d_.2.1, d_.2.2.1, ()), ()), ((y5.2.1.1, y5.2.1.2.1, ()), (), ())))
  none)
  (some ((d_, ()), ((y1.2.1.1, y1.2.1.2.1, ()), (), ())))))
noncomputable def spec_l1Rd_hurtDecl.sg (k : Nat) : Sig := ⟨spec_l1Rd_hurtDecl.A, spec_l1Rd_hurtDecl.R, spec_l1Rd_hurtDecl k⟩
noncomputable def spec_l1Rd_hurtDecl.C (k : Nat) : Ctx := ⟨Tryz.prog, [(70, [spec_l1Rd_below.sg k]), (110, [spec_l1Rd_off.sg k])], k, []⟩
theorem spec_l1Rd_hurtDecl.ev (k : Nat) (x : spec_l1Rd_hurtDecl.A.T) : evFunc (spec_l1Rd_hurtDecl.C k) spec_l1Rd_hurtDecl.ann Tryz.f76 spec_l1Rd_hurtDecl.A spec_l1Rd_hurtDecl.R x = spec_l1Rd_hurtDecl k x := by kernel_rfl
theorem spec_l1Rd_hurtDecl.ok {L : List (Nat × Obj)}  (k : Nat) : SigHolds Tryz.prog L 76 (spec_l1Rd_hurtDecl.sg k) :=
  sig_of_ev (C := spec_l1Rd_hurtDecl.C k) (holds_cons (allok_cons (spec_l1Rd_below.ok k) allok_nil) (holds_cons (allok_cons (spec_l1Rd_off.ok k) allok_nil) holds_nil)) (by kernel_rfl) Tryz.func76 (by kernel_rfl) spec_l1Rd_hurtDecl.ann spec_l1Rd_hurtDecl.A spec_l1Rd_hurtDecl.R (fun x y h => (spec_l1Rd_hurtDecl.ev k x).trans h) (by kernel_rfl)

/-! loop.example/g00719/spec.DrawStoreOk -/
def spec_DrawStoreOk.A : Sh := (.cons (.pur (.sl false (.int .u8))) .nil)
def spec_DrawStoreOk.R : Sh := (.cons (.pur (.cons (.sl false .str) (.cons (.sl false .str) (.cons (.sl false (.cons .str (.cons (.int .i64) .nil))) .nil)))) (.cons (.agg (.cons (.own (.int .i64)) (.cons (.own .bool) (.cons (.rows (.own (.int .i64))) .nil)))) .nil))
def spec_DrawStoreOk.ann : Ann := { loops := [], joins := [], keys := [(11, [([], false), ([5], false), ([8, 35], true), ([6, 13, 21, 31], false), ([2], true), ([3, 13, 21, 31], true)])] }
noncomputable def spec_DrawStoreOk (k : Nat) : ((List Int) × Unit) → Option ((((List (List UInt8)) × (List (List UInt8)) × (List ((List UInt8) × Int × Unit)) × Unit) × ((List Int) × (List Bool) × (List (List Int)) × Unit) × Unit) × (Unit × Unit)) := fun x => match x with
 | (code, ()) =>
  bd k (spec_l1Open k (code, ())) fun y1 =>
  bd k (spec_l1Rd_decl k ((y1.1.1.1, y1.1.1.2.1, ()), ())) fun y2 =>
  bd k (spec_l1Rd_store k ((y2.2.1.1, y2.2.1.2.1, ()), y2.1.1, ())) fun y3 =>
  bd k (spec_l1Rd_below k ((y3.2.1.1, y3.2.1.2.1, ()), 16, ())) fun y4 =>
  br k (y4.1.1 == 0)
  (br k (decide ((y3.1.1.1.length + ([0] : List Int).length) * 8 ≤ maxBytes))
  (bd k (spec_l1Rd_hurtDecl k ((y4.2.1.1, y4.2.1.2.1, ()), y2.1.1, ())) fun y5 =>
  some ((y5.1.1, (y3.1.1.1 ++ ([0] : List Int), y3.1.1.2.1, y3.1.1.2.2.1, ()), ()), ((), ())))
  none)
  (br k (y4.1.1 == 1)
  (bd k (spec_l1Rd_hurtDecl k ((y4.2.1.1, y4.2.1.2.1, ()), y2.1.1, ())) fun y6 =>
  some ((y6.1.1, (y3.1.1.1, [], y3.1.1.2.2.1, ()), ()), ((), ())))
  (br k (y4.1.1 == 2)
  (br k (decide ((y3.1.1.2.2.1.length + ([[]] : List (List Int)).length) * 24 ≤ maxBytes))
  (bd k (spec_l1Rd_hurtDecl k ((y4.2.1.1, y4.2.1.2.1, ()), y2.1.1, ())) fun y7 =>
  some ((y7.1.1, (y3.1.1.1, y3.1.1.2.1, y3.1.1.2.2.1 ++ ([[]] : List (List Int)), ()), ()), ((), ())))
  none)
  (bd k (spec_l1Rd_hurtDecl k ((y4.2.1.1, y4.2.1.2.1, ()), y2.1.1, ())) fun y8 =>
  some ((y8.1.1, (y3.1.1.1, y3.1.1.2.1, y3.1.1.2.2.1, ()), ()), ((), ())))))
noncomputable def spec_DrawStoreOk.sg (k : Nat) : Sig := ⟨spec_DrawStoreOk.A, spec_DrawStoreOk.R, spec_DrawStoreOk k⟩
noncomputable def spec_DrawStoreOk.C (k : Nat) : Ctx := ⟨Tryz.prog, [(28, [spec_l1Open.sg k]), (29, [spec_l1Rd_decl.sg k]), (75, [spec_l1Rd_store.sg k]), (70, [spec_l1Rd_below.sg k]), (76, [spec_l1Rd_hurtDecl.sg k])], k, [(30, (.own (.int .i64)))]⟩
theorem spec_DrawStoreOk.ev (k : Nat) (x : spec_DrawStoreOk.A.T) : evFunc (spec_DrawStoreOk.C k) spec_DrawStoreOk.ann Tryz.f34 spec_DrawStoreOk.A spec_DrawStoreOk.R x = spec_DrawStoreOk k x := by kernel_rfl
theorem spec_DrawStoreOk.ok {L : List (Nat × Obj)}  (k : Nat) : SigHolds Tryz.prog L 34 (spec_DrawStoreOk.sg k) :=
  sig_of_ev (C := spec_DrawStoreOk.C k) (holds_cons (allok_cons (spec_l1Open.ok k) allok_nil) (holds_cons (allok_cons (spec_l1Rd_decl.ok k) allok_nil) (holds_cons (allok_cons (spec_l1Rd_store.ok k) allok_nil) (holds_cons (allok_cons (spec_l1Rd_below.ok k) allok_nil) (holds_cons (allok_cons (spec_l1Rd_hurtDecl.ok k) allok_nil) holds_nil))))) (by kernel_rfl) Tryz.func34 (by kernel_rfl) spec_DrawStoreOk.ann spec_DrawStoreOk.A spec_DrawStoreOk.R (fun x y h => (spec_DrawStoreOk.ev k x).trans h) (by kernel_rfl)

/-! loop.example/g00719/spec.DrawStoreText -/
def spec_DrawStoreText.A : Sh := (.cons (.pur (.sl false (.int .u8))) .nil)
def spec_DrawStoreText.R : Sh := (.cons (.pur (.cons (.sl false .str) (.cons (.sl false .str) (.cons (.sl false (.cons .str (.cons (.int .i64) .nil))) .nil)))) (.cons (.agg (.cons (.own (.int .i64)) (.cons (.own .bool) (.cons (.rows (.own (.int .i64))) .nil)))) .nil))
def spec_DrawStoreText.ann : Ann := { loops := [], joins := [], keys := [] }
noncomputable def spec_DrawStoreText (k : Nat) : ((List Int) × Unit) → Option ((((List (List UInt8)) × (List (List UInt8)) × (List ((List UInt8) × Int × Unit)) × Unit) × ((List Int) × (List Bool) × (List (List Int)) × Unit) × Unit) × (Unit × Unit)) := fun x => match x with
 | (code, ()) =>
  bd k (spec_DrawStoreOk k (code, ())) fun y1 =>
  some ((y1.1.1, (y1.1.2.1.1, y1.1.2.1.2.1, y1.1.2.1.2.2.1, ()), ()), ((), ()))
noncomputable def spec_DrawStoreText.sg (k : Nat) : Sig := ⟨spec_DrawStoreText.A, spec_DrawStoreText.R, spec_DrawStoreText k⟩
noncomputable def spec_DrawStoreText.C (k : Nat) : Ctx := ⟨Tryz.prog, [(34, [spec_DrawStoreOk.sg k])], k, []⟩
theorem spec_DrawStoreText.ev (k : Nat) (x : spec_DrawStoreText.A.T) : evFunc (spec_DrawStoreText.C k) spec_DrawStoreText.ann Tryz.f8 spec_DrawStoreText.A spec_DrawStoreText.R x = spec_DrawStoreText k x := by kernel_rfl
theorem spec_DrawStoreText.ok {L : List (Nat × Obj)}  (k : Nat) : SigHolds Tryz.prog L 8 (spec_DrawStoreText.sg k) :=
  sig_of_ev (C := spec_DrawStoreText.C k) (holds_cons (allok_cons (spec_DrawStoreOk.ok k) allok_nil) holds_nil) (by kernel_rfl) Tryz.func8 (by kernel_rfl) spec_DrawStoreText.ann spec_DrawStoreText.A spec_DrawStoreText.R (fun x y h => (spec_DrawStoreText.ev k x).trans h) (by kernel_rfl)

/-! slices.Concat[[]string,string] -/
def slices_Concat_string_string.A : Sh := (.cons (.pur (.sl false (.sl false .str))) .nil)
def slices_Concat_string_string.R : Sh := (.cons (.own .str) .nil)
def slices_Concat_string_string.ann : Ann := { loops := [(0, [(0, (.pur (.sl false (.sl false .str)))), (3, (.pur (.int .i64))), (9, (.pur (.sl false (.sl false .str)))), (10, (.pur (.int .i64))), (11, (.pur (.int .i64)))]), (2, [(6, (.own .str)), (25, (.pur (.sl false (.sl false .str)))), (26, (.pur (.int .i64))), (27, (.pur (.int .i64)))])], joins := [], keys := [] }
noncomputable def slices_Concat_string_string.l2 (k : Nat)  (G2 : ((List (List UInt8)) × (List (List (List UInt8))) × Int × Int × Unit) → Option (((List (List UInt8)) × Unit) × (Unit × Unit))) : ((List (List UInt8)) × (List (List (List UInt8))) × Int × Int × Unit) → Option (((List (List UInt8)) × Unit) × (Unit × Unit)) := fun x => match x with
 | (newslice, t25, t26, t27, ()) =>
  br k (decide (t27 < t26))
  (br k (decide (0 ≤ t27))
  (bd k (t25[t27.toNat]?) fun x3 =>
  br k (decide ((newslice.length + x3.length) * 16 ≤ maxBytes))
  (G2 (newslice ++ x3, t25, t26, IntKind.wrap .i64 (t27 + 1), ()))
  none)
  none)
  (some ((newslice, ()), ((), ())))
noncomputable def slices_Concat_string_string.l0 (k : Nat)  (G0 : ((List (List (List UInt8))) × Int × (List (List (List UInt8))) × Int × Int × Unit) → Option (((List (List UInt8)) × Unit) × (Unit × Unit))) : ((List (List (List UInt8))) × Int × (List (List (List UInt8))) × Int × Int × Unit) → Option (((List (List UInt8)) × Unit) × (Unit × Unit)) := fun x => match x with
 | (slices, size, t9, t10, t11, ()) =>
  br k (decide (t11 < t10))
  (br k (decide (0 ≤ t11))
  (bd k (t9[t11.toNat]?) fun x1 =>
  br k (decide ((IntKind.wrap .i64 (size + (x1.length : Int))) < 0))
  (none)
  (G0 (slices, IntKind.wrap .i64 (size + (x1.length : Int)), t9, t10, IntKind.wrap .i64 (t11 + 1), ())))
  none)
  (bd k (Lb.slices_Grow_string_string k ((), size, ())) fun y2 =>
  iter (slices_Concat_string_string.l2 k) k (y2.1.1, slices, (slices.length : Int), 0, ()))
noncomputable def slices_Concat_string_string (k : Nat) : ((List (List (List UInt8))) × Unit) → Option (((List (List UInt8)) × Unit) × (Unit × Unit)) := fun x => match x with
 | (slices, ()) =>
  iter (slices_Concat_string_string.l0 k) k (slices, 0, slices, (slices.length : Int), 0, ())
noncomputable def slices_Concat_string_string.sg (k : Nat) : Sig := ⟨slices_Concat_string_string.A, slices_Concat_string_string.R, slices_Concat_string_string k⟩
noncomputable def slices_Concat_string_string.C (k : Nat) : Ctx := ⟨Tryz.prog, [(150, [Lb.slices_Grow_string_string.sg k])], k, []⟩
theorem slices_Concat_string_string.ev (k : Nat) (x : slices_Concat_string_string.A.T) : evFunc (slices_Concat_string_string.C k) slices_Concat_string_string.ann Tryz.f118 slices_Concat_string_string.A slices_Concat_string_string.R x = slices_Concat_string_string k x := by kernel_rfl
theorem slices_Concat_string_string.ok {L : List (Nat × Obj)}  (k : Nat) : SigHolds Tryz.prog L 118 (slices_Concat_string_string.sg k) :=
  sig_of_ev (C := slices_Concat_string_string.C k) (holds_cons (allok_cons (Lb.slices_Grow_string_string.ok k) allok_nil) holds_nil) (by kernel_rfl) Tryz.func118 (by kernel_rfl) slices_Concat_string_string.ann slices_Concat_string_string.A slices_Concat_string_string.R (fun x y h => (slices_Concat_string_string.ev k x).trans h) (by kernel_rfl)

/-! (loop.example/g00719/impl.Decl).names -/
def impl_Decl_names.A : Sh := (.cons (.pur (.cons (.sl false .str) (.cons (.sl false .str) (.cons (.sl false (.cons .str (.cons (.int .i64) .nil))) .nil)))) .nil)
def impl_Decl_names.R : Sh := (.cons (.own .str) .nil)
def impl_Decl_names.ann : Ann := { loops := [(0, [(3, (.own .str)), (13, (.pur (.sl false (.cons .str (.cons (.int .i64) .nil))))), (14, (.pur (.int .i64))), (15, (.pur (.int .i64)))])], joins := [], keys := [] }
noncomputable def impl_Decl_names.l0 (k : Nat)  (G0 : ((List (List UInt8)) × (List ((List UInt8) × Int × Unit)) × Int × Int × Unit) → Option (((List (List UInt8)) × Unit) × (Unit × Unit))) : ((List (List UInt8)) × (List ((List UInt8) × Int × Unit)) × Int × Int × Unit) → Option (((List (List UInt8)) × Unit) × (Unit × Unit)) := fun x => match x with
 | (out_, t13, t14, t15, ()) =>
  br k (decide (t15 < t14))
  (br k (decide (0 ≤ t15))
  (bd k (t13[t15.toNat]?) fun x2 =>
  br k (decide ((out_.length + ([x2.1] : List (List UInt8)).length) * 16 ≤ maxBytes))
  (G0 (out_ ++ ([x2.1] : List (List UInt8)), t13, t14, IntKind.wrap .i64 (t15 + 1), ()))
  none)
  none)
  (some ((out_, ()), ((), ())))
noncomputable def impl_Decl_names (k : Nat) : (((List (List UInt8)) × (List (List UInt8)) × (List ((List UInt8) × Int × Unit)) × Unit) × Unit) → Option (((List (List UInt8)) × Unit) × (Unit × Unit)) := fun x => match x with
 | (d_, ()) =>
  bd k (slices_Concat_string_string k (([d_.1, d_.2.1] : List (List (List UInt8))), ())) fun y1 =>
  iter (impl_Decl_names.l0 k) k (y1.1.1, d_.2.2.1, (d_.2.2.1.length : Int), 0, ())
noncomputable def impl_Decl_names.sg (k : Nat) : Sig := ⟨impl_Decl_names.A, impl_Decl_names.R, impl_Decl_names k⟩
noncomputable def impl_Decl_names.C (k : Nat) : Ctx := ⟨Tryz.prog, [(118, [slices_Concat_string_string.sg k])], k, []⟩
theorem impl_Decl_names.ev (k : Nat) (x : impl_Decl_names.A.T) : evFunc (impl_Decl_names.C k) impl_Decl_names.ann Tryz.f79 impl_Decl_names.A impl_Decl_names.R x = impl_Decl_names k x := by kernel_rfl
theorem impl_Decl_names.ok {L : List (Nat × Obj)}  (k : Nat) : SigHolds Tryz.prog L 79 (impl_Decl_names.sg k) :=
  sig_of_ev (C := impl_Decl_names.C k) (holds_cons (allok_cons (slices_Concat_string_string.ok k) allok_nil) holds_nil) (by kernel_rfl) Tryz.func79 (by kernel_rfl) impl_Decl_names.ann impl_Decl_names.A impl_Decl_names.R (fun x y h => (impl_Decl_names.ev k x).trans h) (by kernel_rfl)

/-! loop.example/g00719/impl.isLetter -/
def impl_isLetter.A : Sh := (.cons (.pur (.int .u8)) .nil)
def impl_isLetter.R : Sh := (.cons (.pur .bool) .nil)
def impl_isLetter.ann : Ann := { loops := [], joins := [(1, [(2, .bool)])], keys := [] }
noncomputable def impl_isLetter (k : Nat) : (Int × Unit) → Option ((Bool × Unit) × (Unit × Unit)) := fun x => match x with
 | (c, ()) =>
  (br k (decide (c ≥ 97))
  (some (decide (c ≤ 122), ()))
  (some (false, ())) : Option (Bool × Unit)).bind fun j1 =>
  some ((j1.1, ()), ((), ()))
noncomputable def impl_isLetter.sg (k : Nat) : Sig := ⟨impl_isLetter.A, impl_isLetter.R, impl_isLetter k⟩
noncomputable def impl_isLetter.C (k : Nat) : Ctx := ⟨Tryz.prog, [], k, []⟩
theorem impl_isLetter.ev (k : Nat) (x : impl_isLetter.A.T) : evFunc (impl_isLetter.C k) impl_isLetter.ann Tryz.f143 impl_isLetter.A impl_isLetter.R x = impl_isLetter k x := by kernel_rfl
theorem impl_isLetter.ok {L : List (Nat × Obj)}  (k : Nat) : SigHolds Tryz.prog L 143 (impl_isLetter.sg k) :=
  sig_of_ev (C := impl_isLetter.C k) holds_nil (by kernel_rfl) Tryz.func143 (by kernel_rfl) impl_isLetter.ann impl_isLetter.A impl_isLetter.R (fun x y h => (impl_isLetter.ev k x).trans h) (by kernel_rfl)

/-! loop.example/g00719/impl.within -/
def impl_within.A : Sh := (.cons (.pur (.int .i64)) (.cons (.pur (.int .i64)) (.cons (.pur (.int .i64)) .nil)))
def impl_within.R : Sh := (.cons (.pur .bool) .nil)
def impl_within.ann : Ann := { loops := [], joins := [(1, [(6, .bool)])], keys := [] }
noncomputable def impl_within (k : Nat) : (Int × Int × Int × Unit) → Option ((Bool × Unit) × (Unit × Unit × Unit × Unit)) := fun x => match x with
 | (n, low, high, ()) =>
  (br k (decide (low ≤ n))
  (some (decide (n ≤ high), ()))
  (some (false, ())) : Option (Bool × Unit)).bind fun j1 =>
  some ((j1.1, ()), ((), (), (), ()))
noncomputable def impl_within.sg (k : Nat) : Sig := ⟨impl_within.A, impl_within.R, impl_within k⟩
noncomputable def impl_within.C (k : Nat) : Ctx := ⟨Tryz.prog, [], k, []⟩
theorem impl_within.ev (k : Nat) (x : impl_within.A.T) : evFunc (impl_within.C k) impl_within.ann Tryz.f114 impl_within.A impl_within.R x = impl_within k x := by kernel_rfl
theorem impl_within.ok {L : List (Nat × Obj)}  (k : Nat) : SigHolds Tryz.prog L 114 (impl_within.sg k) :=
  sig_of_ev (C := impl_within.C k) holds_nil (by kernel_rfl) Tryz.func114 (by kernel_rfl) impl_within.ann impl_within.A impl_within.R (fun x y h => (impl_within.ev k x).trans h) (by kernel_rfl)

/-! slices.Index[[]string,string] -/
def slices_Index_string_string.A : Sh := (.cons (.pur (.sl false .str)) (.cons (.pur .str) .nil))
def slices_Index_string_string.R : Sh := (.cons (.pur (.int .i64)) .nil)
def slices_Index_string_string.ann : Ann := { loops := [(0, [(0, (.pur (.sl false .str))), (1, (.pur .str)), (7, (.pur (.int .i64))), (8, (.pur (.int .i64)))])], joins := [], keys := [] }
noncomputable def slices_Index_string_string.l0 (k : Nat)  (G0 : ((List (List UInt8)) × (List UInt8) × Int × Int × Unit) → Option ((Int × Unit) × (Unit × Unit × Unit))) : ((List (List UInt8)) × (List UInt8) × Int × Int × Unit) → Option ((Int × Unit) × (Unit × Unit × Unit)) := fun x => match x with
 | (s_, v, t7, t8, ()) =>
  br k (decide (t8 < t7))
  (br k (decide (0 ≤ t8))
  (bd k (s_[t8.toNat]?) fun x1 =>
  br k (v == x1)
  (some ((t8, ()), ((), (), ())))
  (G0 (s_, v, t7, IntKind.wrap .i64 (t8 + 1), ())))
  none)
  (some (((-1), ()), ((), (), ())))
noncomputable def slices_Index_string_string (k : Nat) : ((List (List UInt8)) × (List UInt8) × Unit) → Option ((Int × Unit) × (Unit × Unit × Unit)) := fun x => match x with
 | (s_, v, ()) =>
  iter (slices_Index_string_string.l0 k) k (s_, v, (s_.length : Int), 0, ())
noncomputable def slices_Index_string_string.sg (k : Nat) : Sig := ⟨slices_Index_string_string.A, slices_Index_string_string.R, slices_Index_string_string k⟩
noncomputable def slices_Index_string_string.C (k : Nat) : Ctx := ⟨Tryz.prog, [], k, []⟩
theorem slices_Index_string_string.ev (k : Nat) (x : slices_Index_string_string.A.T) : evFunc (slices_Index_string_string.C k) slices_Index_string_string.ann Tryz.f145 slices_Index_string_string.A slices_Index_string_string.R x = slices_Index_string_string k x := by kernel_rfl
theorem slices_Index_string_string.ok {L : List (Nat × Obj)}  (k : Nat) : SigHolds Tryz.prog L 145 (slices_Index_string_string.sg k) :=
  sig_of_ev (C := slices_Index_string_string.C k) holds_nil (by kernel_rfl) Tryz.func145 (by kernel_rfl) slices_Index_string_string.ann slices_Index_string_string.A slices_Index_string_string.R (fun x y h => (slices_Index_string_string.ev k x).trans h) (by kernel_rfl)

/-! slices.Contains[[]string,string] -/
def slices_Contains_string_string.A : Sh := (.cons (.pur (.sl false .str)) (.cons (.pur .str) .nil))
def slices_Contains_string_string.R : Sh := (.cons (.pur .bool) .nil)
def slices_Contains_string_string.ann : Ann := { loops := [], joins := [], keys := [] }
noncomputable def slices_Contains_string_string (k : Nat) : ((List (List UInt8)) × (List UInt8) × Unit) → Option ((Bool × Unit) × (Unit × Unit × Unit)) := fun x => match x with
 | (s_, v, ()) =>
  bd k (slices_Index_string_string k (s_, v, ())) fun y1 =>
  some ((decide (y1.1.1 ≥ 0), ()), ((), (), ()))
noncomputable def slices_Contains_string_string.sg (k : Nat) : Sig := ⟨slices_Contains_string_string.A, slices_Contains_string_string.R, slices_Contains_string_string k⟩
noncomputable def slices_Contains_string_string.C (k : Nat) : Ctx := ⟨Tryz.prog, [(145, [slices_Index_string_string.sg k])], k, []⟩
theorem slices_Contains_string_string.ev (k : Nat) (x : slices_Contains_string_string.A.T) : evFunc (slices_Contains_string_string.C k) slices_Contains_string_string.ann Tryz.f112 slices_Contains_string_string.A slices_Contains_string_string.R x = slices_Contains_string_string k x := by kernel_rfl
theorem slices_Contains_string_string.ok {L : List (Nat × Obj)}  (k : Nat) : SigHolds Tryz.prog L 112 (slices_Contains_string_string.sg k) :=
  sig_of_ev (C := slices_Contains_string_string.C k) (holds_cons (allok_cons (slices_Index_string_string.ok k) allok_nil) holds_nil) (by kernel_rfl) Tryz.func112 (by kernel_rfl) slices_Contains_string_string.ann slices_Contains_string_string.A slices_Contains_string_string.R (fun x y h => (slices_Contains_string_string.ev k x).trans h) (by kernel_rfl)

/-! loop.example/g00719/impl.isWord -/
def impl_isWord.A : Sh := (.cons (.pur .str) .nil)
def impl_isWord.R : Sh := (.cons (.pur .bool) .nil)
def impl_isWord.ann : Ann := { loops := [], joins := [], keys := [] }
noncomputable def impl_isWord (k : Nat) : ((List UInt8) × Unit) → Option ((Bool × Unit) × (Unit × Unit)) := fun x => match x with
 | (s_, ()) =>
  bd k (Lb.Fields k ([118, 97, 114, 32, 102, 108, 97, 103, 32, 97, 114, 114, 97, 121, 32, 105, 102, 32, 102, 111, 114, 107, 32, 101, 108, 115, 101, 32, 101, 110, 100, 32, 119, 104, 105, 108, 101, 32, 117, 110, 114, 111, 108, 108, 32, 97, 115, 115, 101, 114, 116, 32, 97, 115, 115, 117, 109, 101, 32, 105, 110, 112, 117, 116, 32, 115, 112, 108, 105, 116, 32, 109, 101, 114, 103, 101, 32, 116, 114, 117, 101, 32, 102, 97, 108, 115, 101], ())) fun y1 =>
  bd k (slices_Contains_string_string k (y1.1.1, s_, ())) fun y2 =>
  some ((y2.1.1, ()), ((), ()))
noncomputable def impl_isWord.sg (k : Nat) : Sig := ⟨impl_isWord.A, impl_isWord.R, impl_isWord k⟩
noncomputable def impl_isWord.C (k : Nat) : Ctx := ⟨Tryz.prog, [(175, [Lb.Fields.sg k]), (112, [slices_Contains_string_string.sg k])], k, []⟩
theorem impl_isWord.ev (k : Nat) (x : impl_isWord.A.T) : evFunc (impl_isWord.C k) impl_isWord.ann Tryz.f144 impl_isWord.A impl_isWord.R x = impl_isWord k x := by kernel_rfl
theorem impl_isWord.ok {L : List (Nat × Obj)} (hSp : Lb.NeedSp L) (k : Nat) : SigHolds Tryz.prog L 144 (impl_isWord.sg k) :=
  sig_of_ev (C := impl_isWord.C k) (holds_cons (allok_cons (Lb.Fields.ok hSp k) allok_nil) (holds_cons (allok_cons (slices_Contains_string_string.ok k) allok_nil) holds_nil)) (by kernel_rfl) Tryz.func144 (by kernel_rfl) impl_isWord.ann impl_isWord.A impl_isWord.R (fun x y h => (impl_isWord.ev k x).trans h) (by kernel_rfl)

/-! loop.example/g00719/impl.isName -/
def impl_isName.A : Sh := (.cons (.pur .str) .nil)
def impl_isName.R : Sh := (.cons (.pur .bool) .nil)
def impl_isName.ann : Ann := { loops := [(0, [(0, (.pur .str)), (5, (.pur (.int .i64))), (6, (.pur (.int .i64)))])], joins := [(7, [(2, .bool)])], keys := [] }
noncomputable def impl_isName.l0 (k : Nat)  (G0 : ((List UInt8) × Int × Int × Unit) → Option ((Bool × Unit) × (Unit × Unit))) : ((List UInt8) × Int × Int × Unit) → Option ((Bool × Unit) × (Unit × Unit)) := fun x => match x with
 | (s_, t5, t6, ()) =>
  br k (decide (t6 < t5))
  (br k (decide (0 ≤ t6))
  (bd k (s_[t6.toNat]?) fun b1 =>
  bd k (impl_isLetter k ((b1.toNat : Int), ())) fun y2 =>
  br k (!y2.1.1)
  (some ((false, ()), ((), ())))
  (G0 (s_, t5, IntKind.wrap .i64 (t6 + 1), ())))
  none)
  ((bd k (impl_within k ((s_.length : Int), 1, 8, ())) fun y3 =>
  br k (y3.1.1)
  (bd k (impl_isWord k (s_, ())) fun y4 =>
  some (!y4.1.1, ()))
  (some (false, ())) : Option (Bool × Unit)).bind fun j5 =>
  some ((j5.1, ()), ((), ())))
noncomputable def impl_isName (k : Nat) : ((List UInt8) × Unit) → Option ((Bool × Unit) × (Unit × Unit)) := fun x => match x with
 | (s_, ()) =>
  iter (impl_isName.l0 k) k (s_, (s_.length : Int), 0, ())
noncomputable def impl_isName.sg (k : Nat) : Sig := ⟨impl_isName.A, impl_isName.R, impl_isName k⟩
noncomputable def impl_isName.C (k : Nat) : Ctx := ⟨Tryz.prog, [(143, [impl_isLetter.sg k]), (114, [impl_within.sg k]), (144, [impl_isWord.sg k])], k, []⟩
theorem impl_isName.ev (k : Nat) (x : impl_isName.A.T) : evFunc (impl_isName.C k) impl_isName.ann Tryz.f111 impl_isName.A impl_isName.R x = impl_isName k x := by kernel_rfl
theorem impl_isName.ok {L : List (Nat × Obj)} (hSp : Lb.NeedSp L) (k : Nat) : SigHolds Tryz.prog L 111 (impl_isName.sg k) :=
  sig_of_ev (C := impl_isName.C k) (holds_cons (allok_cons (impl_isLetter.ok k) allok_nil) (holds_cons (allok_cons (impl_within.ok k) allok_nil) (holds_cons (allok_cons (impl_isWord.ok hSp k) allok_nil) holds_nil))) (by kernel_rfl) Tryz.func111 (by kernel_rfl) impl_isName.ann impl_isName.A impl_isName.R (fun x y h => (impl_isName.ev k x).trans h) (by kernel_rfl)

/-! (loop.example/g00719/impl.Decl).isRight$1 -/
def impl_Decl_isRight_1.A : Sh := (.cons (.pur (.cons .str (.cons (.int .i64) .nil))) .nil)
def impl_Decl_isRight_1.R : Sh := (.cons (.pur .bool) .nil)
def impl_Decl_isRight_1.ann : Ann := { loops := [], joins := [], keys := [] }
noncomputable def impl_Decl_isRight_1 (k : Nat) : (((List UInt8) × Int × Unit) × Unit) → Option ((Bool × Unit) × (Unit × Unit)) := fun x => match x with
 | (a, ()) =>
  bd k (impl_within k (a.2.1, 1, 16, ())) fun y1 =>
  some ((y1.1.1, ()), ((), ()))
noncomputable def impl_Decl_isRight_1.sg (k : Nat) : Sig := ⟨impl_Decl_isRight_1.A, impl_Decl_isRight_1.R, impl_Decl_isRight_1 k⟩
noncomputable def impl_Decl_isRight_1.C (k : Nat) : Ctx := ⟨Tryz.prog, [(114, [impl_within.sg k])], k, []⟩
theorem impl_Decl_isRight_1.ev (k : Nat) (x : impl_Decl_isRight_1.A.T) : evFunc (impl_Decl_isRight_1.C k) impl_Decl_isRight_1.ann Tryz.f113 impl_Decl_isRight_1.A impl_Decl_isRight_1.R x = impl_Decl_isRight_1 k x := by kernel_rfl
theorem impl_Decl_isRight_1.ok {L : List (Nat × Obj)}  (k : Nat) : SigHolds Tryz.prog L 113 (impl_Decl_isRight_1.sg k) :=
  sig_of_ev (C := impl_Decl_isRight_1.C k) (holds_cons (allok_cons (impl_within.ok k) allok_nil) holds_nil) (by kernel_rfl) Tryz.func113 (by kernel_rfl) impl_Decl_isRight_1.ann impl_Decl_isRight_1.A impl_Decl_isRight_1.R (fun x y h => (impl_Decl_isRight_1.ev k x).trans h) (by kernel_rfl)

/-! loop.example/g00719/impl.areAll[loop.example/g00719/impl.Arr]$1 -/
def impl_areAll_impl_Arr_1.A : Sh := (.cons (.pur (.cons .str (.cons (.int .i64) .nil))) (.cons (.box (.cons (.fn (.func 113) 0 .nil) .nil)) .nil))
def impl_areAll_impl_Arr_1.R : Sh := (.cons (.pur .bool) .nil)
def impl_areAll_impl_Arr_1.ann : Ann := { loops := [], joins := [], keys := [] }
noncomputable def impl_areAll_impl_Arr_1 (k : Nat) : (((List UInt8) × Int × Unit) × ((Unit) × Unit) × Unit) → Option ((Bool × Unit) × (Unit × ((Unit) × Unit) × Unit)) := fun x => match x with
 | (x_, ((()), ()), ()) =>
  bd k (impl_Decl_isRight_1 k (x_, ())) fun y1 =>
  some ((!y1.1.1, ()), ((), ((()), ()), ()))
noncomputable def impl_areAll_impl_Arr_1.sg (k : Nat) : Sig := ⟨impl_areAll_impl_Arr_1.A, impl_areAll_impl_Arr_1.R, impl_areAll_impl_Arr_1 k⟩
noncomputable def impl_areAll_impl_Arr_1.C (k : Nat) : Ctx := ⟨Tryz.prog, [(113, [impl_Decl_isRight_1.sg k])], k, []⟩
theorem impl_areAll_impl_Arr_1.ev (k : Nat) (x : impl_areAll_impl_Arr_1.A.T) : evFunc (impl_areAll_impl_Arr_1.C k) impl_areAll_impl_Arr_1.ann Tryz.f147 impl_areAll_impl_Arr_1.A impl_areAll_impl_Arr_1.R x = impl_areAll_impl_Arr_1 k x := by kernel_rfl
theorem impl_areAll_impl_Arr_1.ok {L : List (Nat × Obj)}  (k : Nat) : SigHolds Tryz.prog L 147 (impl_areAll_impl_Arr_1.sg k) :=
  sig_of_ev (C := impl_areAll_impl_Arr_1.C k) (holds_cons (allok_cons (impl_Decl_isRight_1.ok k) allok_nil) holds_nil) (by kernel_rfl) Tryz.func147 (by kernel_rfl) impl_areAll_impl_Arr_1.ann impl_areAll_impl_Arr_1.A impl_areAll_impl_Arr_1.R (fun x y h => (impl_areAll_impl_Arr_1.ev k x).trans h) (by kernel_rfl)

/-! slices.IndexFunc[[]loop.example/g00719/impl.Arr,loop.example/g00719/impl.Arr] -/
def slices_IndexFunc_impl_Arr_impl_Arr.A : Sh := (.cons (.pur (.sl false (.cons .str (.cons (.int .i64) .nil)))) (.cons (.fn (.func 147) 0 (.cons (.box (.cons (.fn (.func 113) 0 .nil) .nil)) .nil)) .nil))
def slices_IndexFunc_impl_Arr_impl_Arr.R : Sh := (.cons (.pur (.int .i64)) .nil)
def slices_IndexFunc_impl_Arr_impl_Arr.ann : Ann := { loops := [(0, [(0, (.pur (.sl false (.cons .str (.cons (.int .i64) .nil))))), (1, (.fn (.func 147) 0 (.cons (.box (.cons (.fn (.func 113) 0 .nil) .nil)) .nil))), (7, (.pur (.int .i64))), (8, (.pur (.int .i64)))])], joins := [], keys := [] }
noncomputable def slices_IndexFunc_impl_Arr_impl_Arr.l0 (k : Nat)  (G0 : ((List ((List UInt8) × Int × Unit)) × (((Unit) × Unit) × Unit) × Int × Int × Unit) → Option ((Int × Unit) × (Unit × (((Unit) × Unit) × Unit) × Unit))) : ((List ((List UInt8) × Int × Unit)) × (((Unit) × Unit) × Unit) × Int × Int × Unit) → Option ((Int × Unit) × (Unit × (((Unit) × Unit) × Unit) × Unit)) := fun x => match x with
 | (s_, (((()), ()), ()), t7, t8, ()) =>
  br k (decide (t8 < t7))
  (br k (decide (0 ≤ t8))
  (bd k (s_[t8.toNat]?) fun x1 =>
  bd k (impl_areAll_impl_Arr_1 k (x1, ((()), ()), ())) fun y2 =>
  br k (y2.1.1)
  (some ((t8, ()), ((), (((()), ()), ()), ())))
  (G0 (s_, (((()), ()), ()), t7, IntKind.wrap .i64 (t8 + 1), ())))
  none)
  (some (((-1), ()), ((), (((()), ()), ()), ())))
noncomputable def slices_IndexFunc_impl_Arr_impl_Arr (k : Nat) : ((List ((List UInt8) × Int × Unit)) × (((Unit) × Unit) × Unit) × Unit) → Option ((Int × Unit) × (Unit × (((Unit) × Unit) × Unit) × Unit)) := fun x => match x with
 | (s_, (((()), ()), ()), ()) =>
  iter (slices_IndexFunc_impl_Arr_impl_Arr.l0 k) k (s_, (((()), ()), ()), (s_.length : Int), 0, ())
noncomputable def slices_IndexFunc_impl_Arr_impl_Arr.sg (k : Nat) : Sig := ⟨slices_IndexFunc_impl_Arr_impl_Arr.A, slices_IndexFunc_impl_Arr_impl_Arr.R, slices_IndexFunc_impl_Arr_impl_Arr k⟩
noncomputable def slices_IndexFunc_impl_Arr_impl_Arr.C (k : Nat) : Ctx := ⟨Tryz.prog, [(147, [impl_areAll_impl_Arr_1.sg k])], k, []⟩
theorem slices_IndexFunc_impl_Arr_impl_Arr.ev (k : Nat) (x : slices_IndexFunc_impl_Arr_impl_Arr.A.T) : evFunc (slices_IndexFunc_impl_Arr_impl_Arr.C k) slices_IndexFunc_impl_Arr_impl_Arr.ann Tryz.f176 slices_IndexFunc_impl_Arr_impl_Arr.A slices_IndexFunc_impl_Arr_impl_Arr.R x = slices_IndexFunc_impl_Arr_impl_Arr k x := by kernel_rfl
theorem slices_IndexFunc_impl_Arr_impl_Arr.ok {L : List (Nat × Obj)}  (k : Nat) : SigHolds Tryz.prog L 176 (slices_IndexFunc_impl_Arr_impl_Arr.sg k) :=
  sig_of_ev (C := slices_IndexFunc_impl_Arr_impl_Arr.C k) (holds_cons (allok_cons (impl_areAll_impl_Arr_1.ok k) allok_nil) holds_nil) (by kernel_rfl) Tryz.func176 (by kernel_rfl) slices_IndexFunc_impl_Arr_impl_Arr.ann slices_IndexFunc_impl_Arr_impl_Arr.A slices_IndexFunc_impl_Arr_impl_Arr.R (fun x y h => (slices_IndexFunc_impl_Arr_impl_Arr.ev k x).trans h) (by kernel_rfl)

/-! slices.ContainsFunc[[]loop.example/g00719/impl.Arr,loop.example/g00719/impl.Arr] -/
def slices_ContainsFunc_impl_Arr_impl_Arr.A : Sh := (.cons (.pur (.sl false (.cons .str (.cons (.int .i64) .nil)))) (.cons (.fn (.func 147) 0 (.cons (.box (.cons (.fn (.func 113) 0 .nil) .nil)) .nil)) .nil))
def slices_ContainsFunc_impl_Arr_impl_Arr.R : Sh := (.cons (.pur .bool) .nil)
def slices_ContainsFunc_impl_Arr_impl_Arr.ann : Ann := { loops := [], joins := [], keys := [] }
noncomputable def slices_ContainsFunc_impl_Arr_impl_Arr (k : Nat) : ((List ((List UInt8) × Int × Unit)) × (((Unit) × Unit) × Unit) × Unit) → Option ((Bool × Unit) × (Unit × (((Unit) × Unit) × Unit) × Unit)) := fun x => match x with
 | (s_, (((()), ()), ()), ()) =>
  bd k (slices_IndexFunc_impl_Arr_impl_Arr k (s_, (((()), ()), ()), ())) fun y1 =>
  some ((decide (y1.1.1 ≥ 0), ()), ((), (((()), ()), ()), ()))
noncomputable def slices_ContainsFunc_impl_Arr_impl_Arr.sg (k : Nat) : Sig := ⟨slices_ContainsFunc_impl_Arr_impl_Arr.A, slices_ContainsFunc_impl_Arr_impl_Arr.R, slices_ContainsFunc_impl_Arr_impl_Arr k⟩
noncomputable def slices_ContainsFunc_impl_Arr_impl_Arr.C (k : Nat) : Ctx := ⟨Tryz.prog, [(176, [slices_IndexFunc_impl_Arr_impl_Arr.sg k])], k, []⟩
theorem slices_ContainsFunc_impl_Arr_impl_Arr.ev (k : Nat) (x : slices_ContainsFunc_impl_Arr_impl_Arr.A.T) : evFunc (slices_ContainsFunc_impl_Arr_impl_Arr.C k) slices_ContainsFunc_impl_Arr_impl_Arr.ann Tryz.f146 slices_ContainsFunc_impl_Arr_impl_Arr.A slices_ContainsFunc_impl_Arr_impl_Arr.R x = slices_ContainsFunc_impl_Arr_impl_Arr k x := by kernel_rfl
theorem slices_ContainsFunc_impl_Arr_impl_Arr.ok {L : List (Nat × Obj)}  (k : Nat) : SigHolds Tryz.prog L 146 (slices_ContainsFunc_impl_Arr_impl_Arr.sg k) :=
  sig_of_ev (C := slices_ContainsFunc_impl_Arr_impl_Arr.C k) (holds_cons (allok_cons (slices_IndexFunc_impl_Arr_impl_Arr.ok k) allok_nil) holds_nil) (by kernel_rfl) Tryz.func146 (by kernel_rfl) slices_ContainsFunc_impl_Arr_impl_Arr.ann slices_ContainsFunc_impl_Arr_impl_Arr.A slices_ContainsFunc_impl_Arr_impl_Arr.R (fun x y h => (slices_ContainsFunc_impl_Arr_impl_Arr.ev k x).trans h) (by kernel_rfl)

/-! loop.example/g00719/impl.areAll[loop.example/g00719/impl.Arr] -/
def impl_areAll_impl_Arr.A : Sh := (.cons (.pur (.sl false (.cons .str (.cons (.int .i64) .nil)))) (.cons (.fn (.func 113) 0 .nil) .nil))
def impl_areAll_impl_Arr.R : Sh := (.cons (.pur .bool) .nil)
def impl_areAll_impl_Arr.ann : Ann := { loops := [], joins := [], keys := [] }
noncomputable def impl_areAll_impl_Arr (k : Nat) : ((List ((List UInt8) × Int × Unit)) × (Unit) × Unit) → Option ((Bool × Unit) × (Unit × (Unit) × Unit)) := fun x => match x with
 | (list, (()), ()) =>
  bd k (slices_ContainsFunc_impl_Arr_impl_Arr k (list, (((()), ()), ()), ())) fun y1 =>
  some ((!y1.1.1, ()), ((), (()), ()))
noncomputable def impl_areAll_impl_Arr.sg (k : Nat) : Sig := ⟨impl_areAll_impl_Arr.A, impl_areAll_impl_Arr.R, impl_areAll_impl_Arr k⟩
noncomputable def impl_areAll_impl_Arr.C (k : Nat) : Ctx := ⟨Tryz.prog, [(146, [slices_ContainsFunc_impl_Arr_impl_Arr.sg k])], k, []⟩
theorem impl_areAll_impl_Arr.ev (k : Nat) (x : impl_areAll_impl_Arr.A.T) : evFunc (impl_areAll_impl_Arr.C k) impl_areAll_impl_Arr.ann Tryz.f115 impl_areAll_impl_Arr.A impl_areAll_impl_Arr.R x = impl_areAll_impl_Arr k x := by kernel_rfl
theorem impl_areAll_impl_Arr.ok {L : List (Nat × Obj)}  (k : Nat) : SigHolds Tryz.prog L 115 (impl_areAll_impl_Arr.sg k) :=
  sig_of_ev (C := impl_areAll_impl_Arr.C k) (holds_cons (allok_cons (slices_ContainsFunc_impl_Arr_impl_Arr.ok k) allok_nil) holds_nil) (by kernel_rfl) Tryz.func115 (by kernel_rfl) impl_areAll_impl_Arr.ann impl_areAll_impl_Arr.A impl_areAll_impl_Arr.R (fun x y h => (impl_areAll_impl_Arr.ev k x).trans h) (by kernel_rfl)

end Go.Pev.F
