/-
  Printed by gen.py: what functions of the program compute, and that they do.
-/
import Derived.Test.YthjihnplkkhpmaaGreatDoorK06
set_option linter.unusedSimpArgs false
set_option linter.unusedVariables false
open Go.Proofs Go.Pev
namespace Go.Pev.F
set_option maxRecDepth 100000
set_option linter.unusedVariables false

/-! loop.example/g00719/impl.StoreText -/
def impl_StoreText.A : Sh := (.cons (.pur (.cons (.sl false .str) (.cons (.sl false .str) (.cons (.sl false (.cons .str (.cons (.int .i64) .nil))) .nil)))) (.cons (.pur (.cons (.sl false (.int .i64)) (.cons (.sl false .bool) (.cons (.sl false (.sl false (.int .i64))) .nil)))) .nil))
def impl_StoreText.R : Sh := (.cons (.pur .str) .nil)
def impl_StoreText.ann : Ann := { loops := [(0, [(2, (.box (.cons (.pur (.sl false .str)) (.cons (.pur (.sl false .str)) (.cons (.pur (.sl false (.cons .str (.cons (.int .i64) .nil)))) .nil))))), (3, (.box (.cons (.pur (.sl false (.int .i64))) (.cons (.pur (.sl false .bool)) (.cons (.pur (.sl false (.sl false (.int .i64)))) .nil))))), (5, (.own .str)), (19, (.pur (.sl false (.int .i64)))), (20, (.pur (.int .i64))), (21, (.pur (.int .i64)))]), (2, [(2, (.box (.cons (.pur (.sl false .str)) (.cons (.pur (.sl false .str)) (.cons (.pur (.sl false (.cons .str (.cons (.int .i64) .nil)))) .nil))))), (3, (.box (.cons (.pur (.sl false (.int .i64))) (.cons (.pur (.sl false .bool)) (.cons (.pur (.sl false (.sl false (.int .i64)))) .nil))))), (5, (.own .str)), (38, (.pur (.sl false .bool))), (39, (.pur (.int .i64))), (40, (.pur (.int .i64)))]), (4, [(2, (.box (.cons (.pur (.sl false .str)) (.cons (.pur (.sl false .str)) (.cons (.pur (.sl false (.cons .str (.cons (.int .i64) .nil)))) .nil))))), (5, (.own .str)), (57, (.pur (.sl false (.sl false (.int .i64))))), (58, (.pur (.int .i64))), (59, (.pur (.int .i64)))]), (6, [(2, (.box (.cons (.pur (.sl false .str)) (.cons (.pur (.sl false .str)) (.cons (.pur (.sl false (.cons .str (.cons (.int .i64) .nil)))) .nil))))), (5, (.own .str)), (57, (.pur (.sl false (.sl false (.int .i64))))), (58, (.pur (.int .i64))), (59, (.pur (.int .i64))), (73, (.pur (.sl false (.int .i64)))), (74, (.pur (.int .i64))), (75, (.pur (.int .i64)))])], joins := [], keys := [(7, [([], false), ([2], false), ([2], false), ([], false), ([], false), ([], false), ([], false), ([], false), ([34], true), ([5, 34, 35], true), ([], false)]), (12, [([], false), ([2], false), ([2], false), ([], false), ([], false), ([], false), ([], false), ([], false), ([53], true), ([5, 53, 54], true), ([], false)])] }
noncomputable def impl_StoreText.l6 (k : Nat) (G4 : (((List (List UInt8)) × (List (List UInt8)) × (List ((List UInt8) × Int × Unit)) × Unit) × (List (List UInt8)) × (List (List Int)) × Int × Int × Unit) → Option (((List UInt8) × Unit) × (Unit × Unit × Unit))) (G6 : (((List (List UInt8)) × (List (List UInt8)) × (List ((List UInt8) × Int × Unit)) × Unit) × (List (List UInt8)) × (List (List Int)) × Int × Int × (List Int) × Int × Int × Unit) → Option (((List UInt8) × Unit) × (Unit × Unit × Unit))) : (((List (List UInt8)) × (List (List UInt8)) × (List ((List UInt8) × Int × Unit)) × Unit) × (List (List UInt8)) × (List (List Int)) × Int × Int × (List Int) × Int × Int × Unit) → Option (((List UInt8) × Unit) × (Unit × Unit × Unit)) := fun x => match x with
 | ((d__0, d__1, d__2, ()), out_, t57, t58, t59, t73, t74, t75, ()) =>
  br k (decide (t75 < t74))
  (br k (decide (0 ≤ t75))
  (bd k (t73[t75.toNat]?) fun x10 =>
  bd k (impl_decimal k (x10, ())) fun y11 =>
  br k (decide ((out_.length + ([y11.1.1] : List (List UInt8)).length) * 16 ≤ maxBytes))
  (G6 ((d__0, d__1, d__2, ()), out_ ++ ([y11.1.1] : List (List UInt8)), t57, t58, t59, t73, t74, IntKind.wrap .i64 (t75 + 1), ()))
  none)
  none)
  (G4 ((d__0, d__1, d__2, ()), out_, t57, t58, IntKind.wrap .i64 (t59 + 1), ()))
noncomputable def impl_StoreText.l4 (k : Nat)  (G4 : (((List (List UInt8)) × (List (List UInt8)) × (List ((List UInt8) × Int × Unit)) × Unit) × (List (List UInt8)) × (List (List Int)) × Int × Int × Unit) → Option (((List UInt8) × Unit) × (Unit × Unit × Unit))) : (((List (List UInt8)) × (List (List UInt8)) × (List ((List UInt8) × Int × Unit)) × Unit) × (List (List UInt8)) × (List (List Int)) × Int × Int × Unit) → Option (((List UInt8) × Unit) × (Unit × Unit × Unit)) := fun x => match x with
 | ((d__0, d__1, d__2, ()), out_, t57, t58, t59, ()) =>
  br k (decide (t59 < t58))
  (br k (decide (0 ≤ t59))
  (bd k (t57[t59.toNat]?) fun x8 =>
  br k (decide (0 ≤ t59))
  (bd k (d__2[t59.toNat]?) fun x9 =>
  br k (decide ((out_.length + ([x9.1] : List (List UInt8)).length) * 16 ≤ maxBytes))
  (iter (impl_StoreText.l6 k G4) k ((d__0, d__1, d__2, ()), out_ ++ ([x9.1] : List (List UInt8)), t57, t58, t59, x8, (x8.length : Int), 0, ()))
  none)
  none)
  none)
  (bd k (Lb.Join k (out_, [32], ())) fun y12 =>
  some ((y12.1.1, ()), ((), (), ())))
noncomputable def impl_StoreText.l2 (k : Nat)  (G2 : (((List (List UInt8)) × (List (List UInt8)) × (List ((List UInt8) × Int × Unit)) × Unit) × ((List Int) × (List Bool) × (List (List Int)) × Unit) × (List (List UInt8)) × (List Bool) × Int × Int × Unit) → Option (((List UInt8) × Unit) × (Unit × Unit × Unit))) : (((List (List UInt8)) × (List (List UInt8)) × (List ((List UInt8) × Int × Unit)) × Unit) × ((List Int) × (List Bool) × (List (List Int)) × Unit) × (List (List UInt8)) × (List Bool) × Int × Int × Unit) → Option (((List UInt8) × Unit) × (Unit × Unit × Unit)) := fun x => match x with
 | ((d__0, d__1, d__2, ()), (s__0, s__1, s__2, ()), out_, t38, t39, t40, ()) =>
  br k (decide (t40 < t39))
  (br k (decide (0 ≤ t40))
  (bd k (t38[t40.toNat]?) fun x5 =>
  br k (decide (0 ≤ t40))
  (bd k (d__1[t40.toNat]?) fun x6 =>
  bd k (strconv_FormatBool k (x5, ())) fun y7 =>
  br k (decide ((out_.length + ([x6, y7.1.1] : List (List UInt8)).length) * 16 ≤ maxBytes))
  (G2 ((d__0, d__1, d__2, ()), (s__0, s__1, s__2, ()), out_ ++ ([x6, y7.1.1] : List (List UInt8)), t38, t39, IntKind.wrap .i64 (t40 + 1), ()))
  none)
  none)
  none)
  (iter (impl_StoreText.l4 k) k ((d__0, d__1, d__2, ()), out_, s__2, (s__2.length : Int), 0, ()))
noncomputable def impl_StoreText.l0 (k : Nat)  (G0 : (((List (List UInt8)) × (List (List UInt8)) × (List ((List UInt8) × Int × Unit)) × Unit) × ((List Int) × (List Bool) × (List (List Int)) × Unit) × (List (List UInt8)) × (List Int) × Int × Int × Unit) → Option (((List UInt8) × Unit) × (Unit × Unit × Unit))) : (((List (List UInt8)) × (List (List UInt8)) × (List ((List UInt8) × Int × Unit)) × Unit) × ((List Int) × (List Bool) × (List (List Int)) × Unit) × (List (List UInt8)) × (List Int) × Int × Int × Unit) → Option (((List UInt8) × Unit) × (Unit × Unit × Unit)) := fun x => match x with
 | ((d__0, d__1, d__2, ()), (s__0, s__1, s__2, ()), out_, t19, t20, t21, ()) =>
  br k (decide (t21 < t20))
  (br k (decide (0 ≤ t21))
  (bd k (t19[t21.toNat]?) fun x2 =>
  br k (decide (0 ≤ t21))
  (bd k (d__0[t21.toNat]?) fun x3 =>
  bd k (impl_decimal k (x2, ())) fun y4 =>
  br k (decide ((out_.length + ([x3, y4.1.1] : List (List UInt8)).length) * 16 ≤ maxBytes))
  (G0 ((d__0, d__1, d__2, ()), (s__0, s__1, s__2, ()), out_ ++ ([x3, y4.1.1] : List (List UInt8)), t19, t20, IntKind.wrap .i64 (t21 + 1), ()))
  none)
  none)
  none)
  (iter (impl_StoreText.l2 k) k ((d__0, d__1, d__2, ()), (s__0, s__1, s__2, ()), out_, s__1, (s__1.length : Int), 0, ()))
noncomputable def impl_StoreText (k : Nat) : (((List (List UInt8)) × (List (List UInt8)) × (List ((List UInt8) × Int × Unit)) × Unit) × ((List Int) × (List Bool) × (List (List Int)) × Unit) × Unit) → Option (((List UInt8) × Unit) × (Unit × Unit × Unit)) := fun x => match x with
 | (d_, s_, ()) =>
  bd k (impl_StoreOk k (d_, s_, ())) fun y1 =>
  br k (!y1.1.1)
  (some (([], ()), ((), (), ())))
  (iter (impl_StoreText.l0 k) k ((d_.1, d_.2.1, d_.2.2.1, ()), (s_.1, s_.2.1, s_.2.2.1, ()), [], s_.1, (s_.1.length : Int), 0, ()))
noncomputable def impl_StoreText.sg (k : Nat) : Sig := ⟨impl_StoreText.A, impl_StoreText.R, impl_StoreText k⟩
noncomputable def impl_StoreText.C (k : Nat) : Ctx := ⟨Tryz.prog, [(38, [impl_StoreOk.sg k]), (39, [impl_decimal.sg k]), (40, [strconv_FormatBool.sg k]), (41, [Lb.Join.sg k])], k, []⟩
theorem impl_StoreText.ev (k : Nat) (x : impl_StoreText.A.T) : evFunc (impl_StoreText.C k) impl_StoreText.ann Tryz.f11 impl_StoreText.A impl_StoreText.R x = impl_StoreText k x := by kernel_rfl
theorem impl_StoreText.ok {L : List (Nat × Obj)} (hFmt : Lb.NeedFmt L) (hSp : Lb.NeedSp L) (k : Nat) : SigHolds Tryz.prog L 11 (impl_StoreText.sg k) :=
  sig_of_ev (C := impl_StoreText.C k) (holds_cons (allok_cons (impl_StoreOk.ok hSp k) allok_nil) (holds_cons (allok_cons (impl_decimal.ok hFmt k) allok_nil) (holds_cons (allok_cons (strconv_FormatBool.ok k) allok_nil) (holds_cons (allok_cons (Lb.Join.ok k) allok_nil) holds_nil)))) (by kernel_rfl) Tryz.func11 (by kernel_rfl) impl_StoreText.ann impl_StoreText.A impl_StoreText.R (fun x y h => (impl_StoreText.ev k x).trans h) (by kernel_rfl)

/-! loop.example/g00719/spec.StoreOk -/
def spec_StoreOk.A : Sh := (.cons (.pur (.cons (.sl false .str) (.cons (.sl false .str) (.cons (.sl false (.cons .str (.cons (.int .i64) .nil))) .nil)))) (.cons (.pur (.cons (.sl false (.int .i64)) (.cons (.sl false .bool) (.cons (.sl false (.sl false (.int .i64))) .nil)))) .nil))
def spec_StoreOk.R : Sh := (.cons (.pur .bool) .nil)
def spec_StoreOk.ann : Ann := { loops := [(0, [(2, (.box (.cons (.pur (.sl false .str)) (.cons (.pur (.sl false .str)) (.cons (.pur (.sl false (.cons .str (.cons (.int .i64) .nil)))) .nil))))), (3, (.box (.cons (.pur (.sl false (.int .i64))) (.cons (.pur (.sl false .bool)) (.cons (.pur (.sl false (.sl false (.int .i64)))) .nil))))), (5, (.pur (.int .i64)))])], joins := [(1, [(35, .bool)])], keys := [] }
noncomputable def spec_StoreOk.l0 (k : Nat)  (G0 : (((List (List UInt8)) × (List (List UInt8)) × (List ((List UInt8) × Int × Unit)) × Unit) × ((List Int) × (List Bool) × (List (List Int)) × Unit) × Int × Unit) → Option ((Bool × Unit) × (Unit × Unit × Unit))) : (((List (List UInt8)) × (List (List UInt8)) × (List ((List UInt8) × Int × Unit)) × Unit) × ((List Int) × (List Bool) × (List (List Int)) × Unit) × Int × Unit) → Option ((Bool × Unit) × (Unit × Unit × Unit)) := fun x => match x with
 | ((d__0, d__1, d__2, ()), (s__0, s__1, s__2, ()), i, ()) =>
  br k (decide (i < (s__2.length : Int)))
  (br k (decide (0 ≤ i))
  (bd k (s__2[i.toNat]?) fun x3 =>
  br k (decide (0 ≤ i))
  (bd k (d__2[i.toNat]?) fun x4 =>
  br k ((x3.length : Int) != x4.2.1)
  (some ((false, ()), ((), (), ())))
  (G0 ((d__0, d__1, d__2, ()), (s__0, s__1, s__2, ()), IntKind.wrap .i64 (i + 1), ())))
  none)
  none)
  (some ((true, ()), ((), (), ())))
noncomputable def spec_StoreOk (k : Nat) : (((List (List UInt8)) × (List (List UInt8)) × (List ((List UInt8) × Int × Unit)) × Unit) × ((List Int) × (List Bool) × (List (List Int)) × Unit) × Unit) → Option ((Bool × Unit) × (Unit × Unit × Unit)) := fun x => match x with
 | (d_, s_, ()) =>
  (bd k (spec_DeclOk k (d_, ())) fun y1 =>
  br k (!y1.1.1)
  (some (true, ()))
  (br k ((s_.1.length : Int) != (d_.1.length : Int))
  (some (true, ()))
  (br k ((s_.2.1.length : Int) != (d_.2.1.length : Int))
  (some (true, ()))
  (some ((s_.2.2.1.length : Int) != (d_.2.2.1.length : Int), ())))) : Option (Bool × Unit)).bind fun j2 =>
  br k (j2.1)
  (some ((false, ()), ((), (), ())))
  (iter (spec_StoreOk.l0 k) k ((d_.1, d_.2.1, d_.2.2.1, ()), (s_.1, s_.2.1, s_.2.2.1, ()), 0, ()))
noncomputable def spec_StoreOk.sg (k : Nat) : Sig := ⟨spec_StoreOk.A, spec_StoreOk.R, spec_StoreOk k⟩
noncomputable def spec_StoreOk.C (k : Nat) : Ctx := ⟨Tryz.prog, [(45, [spec_DeclOk.sg k])], k, []⟩
theorem spec_StoreOk.ev (k : Nat) (x : spec_StoreOk.A.T) : evFunc (spec_StoreOk.C k) spec_StoreOk.ann Tryz.f42 spec_StoreOk.A spec_StoreOk.R x = spec_StoreOk k x := by kernel_rfl
theorem spec_StoreOk.ok {L : List (Nat × Obj)}  (k : Nat) : SigHolds Tryz.prog L 42 (spec_StoreOk.sg k) :=
  sig_of_ev (C := spec_StoreOk.C k) (holds_cons (allok_cons (spec_DeclOk.ok k) allok_nil) holds_nil) (by kernel_rfl) Tryz.func42 (by kernel_rfl) spec_StoreOk.ann spec_StoreOk.A spec_StoreOk.R (fun x y h => (spec_StoreOk.ev k x).trans h) (by kernel_rfl)

/-! loop.example/g00719/spec.StoreText -/
def spec_StoreText.A : Sh := (.cons (.pur (.cons (.sl false .str) (.cons (.sl false .str) (.cons (.sl false (.cons .str (.cons (.int .i64) .nil))) .nil)))) (.cons (.pur (.cons (.sl false (.int .i64)) (.cons (.sl false .bool) (.cons (.sl false (.sl false (.int .i64))) .nil)))) .nil))
def spec_StoreText.R : Sh := (.cons (.pur .str) .nil)
def spec_StoreText.ann : Ann := { loops := [(0, [(2, (.box (.cons (.pur (.sl false .str)) (.cons (.pur (.sl false .str)) (.cons (.pur (.sl false (.cons .str (.cons (.int .i64) .nil)))) .nil))))), (3, (.box (.cons (.pur (.sl false (.int .i64))) (.cons (.pur (.sl false .bool)) (.cons (.pur (.sl false (.sl false (.int .i64)))) .nil))))), (5, (.own .str)), (6, (.pur (.int .i64)))]), (2, [(2, (.box (.cons (.pur (.sl false .str)) (.cons (.pur (.sl false .str)) (.cons (.pur (.sl false (.cons .str (.cons (.int .i64) .nil)))) .nil))))), (3, (.box (.cons (.pur (.sl false (.int .i64))) (.cons (.pur (.sl false .bool)) (.cons (.pur (.sl false (.sl false (.int .i64)))) .nil))))), (5, (.own .str)), (7, (.pur (.int .i64)))]), (4, [(2, (.box (.cons (.pur (.sl false .str)) (.cons (.pur (.sl false .str)) (.cons (.pur (.sl false (.cons .str (.cons (.int .i64) .nil)))) .nil))))), (3, (.box (.cons (.pur (.sl false (.int .i64))) (.cons (.pur (.sl false .bool)) (.cons (.pur (.sl false (.sl false (.int .i64)))) .nil))))), (5, (.own .str)), (9, (.pur (.int .i64)))]), (6, [(2, (.box (.cons (.pur (.sl false .str)) (.cons (.pur (.sl false .str)) (.cons (.pur (.sl false (.cons .str (.cons (.int .i64) .nil)))) .nil))))), (3, (.box (.cons (.pur (.sl false (.int .i64))) (.cons (.pur (.sl false .bool)) (.cons (.pur (.sl false (.sl false (.int .i64)))) .nil))))), (5, (.own .str)), (9, (.pur (.int .i64))), (10, (.pur (.int .i64)))])], joins := [], keys := [(7, [([], false), ([2], false), ([2], false), ([], false), ([], false), ([], false), ([3], false), ([3], false), ([], false), ([], false), ([], false), ([], false), ([35], true), ([5, 35, 36], true), ([], false)])] }
noncomputable def spec_StoreText.l6 (k : Nat) (G4 : (((List (List UInt8)) × (List (List UInt8)) × (List ((List UInt8) × Int × Unit)) × Unit) × ((List Int) × (List Bool) × (List (List Int)) × Unit) × (List (List UInt8)) × Int × Unit) → Option (((List UInt8) × Unit) × (Unit × Unit × Unit))) (G6 : (((List (List UInt8)) × (List (List UInt8)) × (List ((List UInt8) × Int × Unit)) × Unit) × ((List Int) × (List Bool) × (List (List Int)) × Unit) × (List (List UInt8)) × Int × Int × Unit) → Option (((List UInt8) × Unit) × (Unit × Unit × Unit))) : (((List (List UInt8)) × (List (List UInt8)) × (List ((List UInt8) × Int × Unit)) × Unit) × ((List Int) × (List Bool) × (List (List Int)) × Unit) × (List (List UInt8)) × Int × Int × Unit) → Option (((List UInt8) × Unit) × (Unit × Unit × Unit)) := fun x => match x with
 | ((d__0, d__1, d__2, ()), (s__0, s__1, s__2, ()), l_, i, k_, ()) =>
  br k (decide (0 ≤ i))
  (bd k (s__2[i.toNat]?) fun x9 =>
  br k (decide (k_ < (x9.length : Int)))
  (br k (decide (0 ≤ i))
  (bd k (s__2[i.toNat]?) fun x10 =>
  br k (decide (0 ≤ k_))
  (bd k (x10[k_.toNat]?) fun x11 =>
  bd k (spec_l1Dec k (x11, ())) fun y12 =>
  br k (decide ((l_.length + ([y12.1.1] : List (List UInt8)).length) * 16 ≤ maxBytes))
  (G6 ((d__0, d__1, d__2, ()), (s__0, s__1, s__2, ()), l_ ++ ([y12.1.1] : List (List UInt8)), i, IntKind.wrap .i64 (k_ + 1), ()))
  none)
  none)
  none)
  (G4 ((d__0, d__1, d__2, ()), (s__0, s__1, s__2, ()), l_, IntKind.wrap .i64 (i + 1), ())))
  none
noncomputable def spec_StoreText.l4 (k : Nat)  (G4 : (((List (List UInt8)) × (List (List UInt8)) × (List ((List UInt8) × Int × Unit)) × Unit) × ((List Int) × (List Bool) × (List (List Int)) × Unit) × (List (List UInt8)) × Int × Unit) → Option (((List UInt8) × Unit) × (Unit × Unit × Unit))) : (((List (List UInt8)) × (List (List UInt8)) × (List ((List UInt8) × Int × Unit)) × Unit) × ((List Int) × (List Bool) × (List (List Int)) × Unit) × (List (List UInt8)) × Int × Unit) → Option (((List UInt8) × Unit) × (Unit × Unit × Unit)) := fun x => match x with
 | ((d__0, d__1, d__2, ()), (s__0, s__1, s__2, ()), l_, i, ()) =>
  br k (decide (i < (s__2.length : Int)))
  (br k (decide (0 ≤ i))
  (bd k (d__2[i.toNat]?) fun x8 =>
  br k (decide ((l_.length + ([x8.1] : List (List UInt8)).length) * 16 ≤ maxBytes))
  (iter (spec_StoreText.l6 k G4) k ((d__0, d__1, d__2, ()), (s__0, s__1, s__2, ()), l_ ++ ([x8.1] : List (List UInt8)), i, 0, ()))
  none)
  none)
  (bd k (spec_l13Joined k (l_, [32], ())) fun y13 =>
  some ((y13.1.1, ()), ((), (), ())))
noncomputable def spec_StoreText.l2 (k : Nat)  (G2 : (((List (List UInt8)) × (List (List UInt8)) × (List ((List UInt8) × Int × Unit)) × Unit) × ((List Int) × (List Bool) × (List (List Int)) × Unit) × (List (List UInt8)) × Int × Unit) → Option (((List UInt8) × Unit) × (Unit × Unit × Unit))) : (((List (List UInt8)) × (List (List UInt8)) × (List ((List UInt8) × Int × Unit)) × Unit) × ((List Int) × (List Bool) × (List (List Int)) × Unit) × (List (List UInt8)) × Int × Unit) → Option (((List UInt8) × Unit) × (Unit × Unit × Unit)) := fun x => match x with
 | ((d__0, d__1, d__2, ()), (s__0, s__1, s__2, ()), l_, i, ()) =>
  br k (decide (i < (s__1.length : Int)))
  (br k (decide (0 ≤ i))
  (bd k (s__1[i.toNat]?) fun x5 =>
  br k (x5)
  (br k (decide (0 ≤ i))
  (bd k (d__1[i.toNat]?) fun x6 =>
  br k (decide ((l_.length + ([x6, [116, 114, 117, 101]] : List (List UInt8)).length) * 16 ≤ maxBytes))
  (G2 ((d__0, d__1, d__2, ()), (s__0, s__1, s__2, ()), l_ ++ ([x6, [116, 114, 117, 101]] : List (List UInt8)), IntKind.wrap .i64 (i + 1), ()))
  none)
  none)
  (br k (decide (0 ≤ i))
  (bd k (d__1[i.toNat]?) fun x7 =>
  br k (decide ((l_.length + ([x7, [102, 97, 108, 115, 101]] : List (List UInt8)).length) * 16 ≤ maxBytes))
  (G2 ((d__0, d__1, d__2, ()), (s__0, s__1, s__2, ()), l_ ++ ([x7, [102, 97, 108, 115, 101]] : List (List UInt8)), IntKind.wrap .i64 (i + 1), ()))
  none)
  none))
  none)
  (iter (spec_StoreText.l4 k) k ((d__0, d__1, d__2, ()), (s__0, s__1, s__2, ()), l_, 0, ()))
noncomputable def spec_StoreText.l0 (k : Nat)  (G0 : (((List (List UInt8)) × (List (List UInt8)) × (List ((List UInt8) × Int × Unit)) × Unit) × ((List Int) × (List Bool) × (List (List Int)) × Unit) × (List (List UInt8)) × Int × Unit) → Option (((List UInt8) × Unit) × (Unit × Unit × Unit))) : (((List (List UInt8)) × (List (List UInt8)) × (List ((List UInt8) × Int × Unit)) × Unit) × ((List Int) × (List Bool) × (List (List Int)) × Unit) × (List (List UInt8)) × Int × Unit) → Option (((List UInt8) × Unit) × (Unit × Unit × Unit)) := fun x => match x with
 | ((d__0, d__1, d__2, ()), (s__0, s__1, s__2, ()), l_, i, ()) =>
  br k (decide (i < (s__0.length : Int)))
  (br k (decide (0 ≤ i))
  (bd k (d__0[i.toNat]?) fun x2 =>
  br k (decide (0 ≤ i))
  (bd k (s__0[i.toNat]?) fun x3 =>
  bd k (spec_l1Dec k (x3, ())) fun y4 =>
  br k (decide ((l_.length + ([x2, y4.1.1] : List (List UInt8)).length) * 16 ≤ maxBytes))
  (G0 ((d__0, d__1, d__2, ()), (s__0, s__1, s__2, ()), l_ ++ ([x2, y4.1.1] : List (List UInt8)), IntKind.wrap .i64 (i + 1), ()))
  none)
  none)
  none)
  (iter (spec_StoreText.l2 k) k ((d__0, d__1, d__2, ()), (s__0, s__1, s__2, ()), l_, 0, ()))
noncomputable def spec_StoreText (k : Nat) : (((List (List UInt8)) × (List (List UInt8)) × (List ((List UInt8) × Int × Unit)) × Unit) × ((List Int) × (List Bool) × (List (List Int)) × Unit) × Unit) → Option (((List UInt8) × Unit) × (Unit × Unit × Unit)) := fun x => match x with
 | (d_, s_, ()) =>
  bd k (spec_StoreOk k (d_, s_, ())) fun y1 =>
  br k (!y1.1.1)
  (some (([], ()), ((), (), ())))
  (iter (spec_StoreText.l0 k) k ((d_.1, d_.2.1, d_.2.2.1, ()), (s_.1, s_.2.1, s_.2.2.1, ()), ([] : List (List UInt8)), 0, ()))
noncomputable def spec_StoreText.sg (k : Nat) : Sig := ⟨spec_StoreText.A, spec_StoreText.R, spec_StoreText k⟩
noncomputable def spec_StoreText.C (k : Nat) : Ctx := ⟨Tryz.prog, [(42, [spec_StoreOk.sg k]), (43, [spec_l1Dec.sg k]), (44, [spec_l13Joined.sg k])], k, []⟩
theorem spec_StoreText.ev (k : Nat) (x : spec_StoreText.A.T) : evFunc (spec_StoreText.C k) spec_StoreText.ann Tryz.f12 spec_StoreText.A spec_StoreText.R x = spec_StoreText k x := by kernel_rfl
theorem spec_StoreText.ok {L : List (Nat × Obj)}  (k : Nat) : SigHolds Tryz.prog L 12 (spec_StoreText.sg k) :=
  sig_of_ev (C := spec_StoreText.C k) (holds_cons (allok_cons (spec_StoreOk.ok k) allok_nil) (holds_cons (allok_cons (spec_l1Dec.ok k) allok_nil) (holds_cons (allok_cons (spec_l13Joined.ok k) allok_nil) holds_nil))) (by kernel_rfl) Tryz.func12 (by kernel_rfl) spec_StoreText.ann spec_StoreText.A spec_StoreText.R (fun x y h => (spec_StoreText.ev k x).trans h) (by kernel_rfl)

/-! loop.example/g00719/laws.byteOf -/
def laws_byteOf.A : Sh := (.cons (.pur (.sl false (.int .u8))) (.cons (.pur (.int .i64)) .nil))
def laws_byteOf.R : Sh := (.cons (.pur (.int .i64)) .nil)
def laws_byteOf.ann : Ann := { loops := [], joins := [], keys := [] }
noncomputable def laws_byteOf (k : Nat) : ((List Int) × Int × Unit) → Option ((Int × Unit) × (Unit × Unit × Unit)) := fun x => match x with
 | (code, i, ()) =>
  br k ((code.length : Int) == 0)
  (some ((0, ()), ((), (), ())))
  (br k (!decide ((code.length : Int) = 0))
  (br k (decide (0 ≤ (i.tmod (code.length : Int))))
  (bd k (code[(i.tmod (code.length : Int)).toNat]?) fun x1 =>
  some ((IntKind.wrap .i64 x1, ()), ((), (), ())))
  none)
  none)
noncomputable def laws_byteOf.sg (k : Nat) : Sig := ⟨laws_byteOf.A, laws_byteOf.R, laws_byteOf k⟩
noncomputable def laws_byteOf.C (k : Nat) : Ctx := ⟨Tryz.prog, [], k, []⟩
theorem laws_byteOf.ev (k : Nat) (x : laws_byteOf.A.T) : evFunc (laws_byteOf.C k) laws_byteOf.ann Tryz.f91 laws_byteOf.A laws_byteOf.R x = laws_byteOf k x := by kernel_rfl
theorem laws_byteOf.ok {L : List (Nat × Obj)}  (k : Nat) : SigHolds Tryz.prog L 91 (laws_byteOf.sg k) :=
  sig_of_ev (C := laws_byteOf.C k) holds_nil (by kernel_rfl) Tryz.func91 (by kernel_rfl) laws_byteOf.ann laws_byteOf.A laws_byteOf.R (fun x y h => (laws_byteOf.ev k x).trans h) (by kernel_rfl)

/-! loop.example/g00719/laws.within -/
def laws_within.A : Sh := (.cons (.pur (.cons (.int .i64) (.cons (.int .i64) .nil))) (.cons (.pur (.sl false (.int .u8))) (.cons (.pur (.int .i64)) .nil)))
def laws_within.R : Sh := (.cons (.pur (.int .i64)) .nil)
def laws_within.ann : Ann := { loops := [], joins := [], keys := [] }
noncomputable def laws_within (k : Nat) : ((Int × Int × Unit) × (List Int) × Int × Unit) → Option ((Int × Unit) × (Unit × Unit × Unit × Unit)) := fun x => match x with
 | (a, code, at_, ()) =>
  bd k (laws_byteOf k (code, at_, ())) fun y1 =>
  bd k (laws_byteOf k (code, IntKind.wrap .i64 (at_ + 1), ())) fun y2 =>
  bd k (laws_byteOf k (code, IntKind.wrap .i64 (at_ + 2), ())) fun y3 =>
  br k (!decide ((4 : Int) = 0))
  (br k ((y3.1.1.tmod 4) == 0)
  (some ((a.1, ()), ((), (), (), ())))
  (br k ((y3.1.1.tmod 4) == 1)
  (some ((a.2.1, ()), ((), (), (), ())))
  (br k ((IntKind.wrap .u64 ((IntKind.wrap .u64 ((IntKind.wrap .u64 a.2.1) - (IntKind.wrap .u64 a.1))) + 1)) == 0)
  (some ((IntKind.wrap .i64 (IntKind.wrap .u64 ((IntKind.wrap .u64 (IntKind.wrap .i64 ((IntKind.wrap .i64 (y1.1.1 * 257)) + y2.1.1))) * 281474976710597)), ()), ((), (), (), ())))
  (br k (!decide ((IntKind.wrap .u64 ((IntKind.wrap .u64 ((IntKind.wrap .u64 a.2.1) - (IntKind.wrap .u64 a.1))) + 1)) = 0))
  (some ((IntKind.wrap .i64 (IntKind.wrap .u64 ((IntKind.wrap .u64 a.1) + ((IntKind.wrap .u64 ((IntKind.wrap .u64 (IntKind.wrap .i64 ((IntKind.wrap .i64 (y1.1.1 * 257)) + y2.1.1))) * 281474976710597)).tmod (IntKind.wrap .u64 ((IntKind.wrap .u64 ((IntKind.wrap .u64 a.2.1) - (IntKind.wrap .u64 a.1))) + 1))))), ()), ((), (), (), ())))
  none))))
  none
noncomputable def laws_within.sg (k : Nat) : Sig := ⟨laws_within.A, laws_within.R, laws_within k⟩
noncomputable def laws_within.C (k : Nat) : Ctx := ⟨Tryz.prog, [(91, [laws_byteOf.sg k])], k, []⟩
theorem laws_within.ev (k : Nat) (x : laws_within.A.T) : evFunc (laws_within.C k) laws_within.ann Tryz.f49 laws_within.A laws_within.R x = laws_within k x := by kernel_rfl
theorem laws_within.ok {L : List (Nat × Obj)}  (k : Nat) : SigHolds Tryz.prog L 49 (laws_within.sg k) :=
  sig_of_ev (C := laws_within.C k) (holds_cons (allok_cons (laws_byteOf.ok k) allok_nil) holds_nil) (by kernel_rfl) Tryz.func49 (by kernel_rfl) laws_within.ann laws_within.A laws_within.R (fun x y h => (laws_within.ev k x).trans h) (by kernel_rfl)

/-! loop.example/g00719/laws.inside -/
def laws_inside.A : Sh := (.cons (.pur (.cons (.sl false .str) (.cons (.sl false .str) (.cons (.sl false (.cons .str (.cons (.int .i64) .nil))) .nil)))) (.cons (.pur (.cons .bool (.cons (.sl false (.cons (.int .i64) (.cons (.int .i64) .nil))) (.cons (.sl false (.cons (.int .i64) (.cons (.int .i64) .nil))) .nil)))) (.cons (.pur (.int .i64)) (.cons (.pur (.sl false (.int .u8))) .nil))))
def laws_inside.R : Sh := (.cons (.agg (.cons (.own (.int .i64)) (.cons (.own .bool) (.cons (.rows (.own (.int .i64))) .nil)))) .nil)
def laws_inside.ann : Ann := { loops := [(0, [(2, (.pur (.int .i64))), (3, (.pur (.sl false (.int .u8)))), (5, (.box (.cons (.pur .bool) (.cons (.pur (.sl false (.cons (.int .i64) (.cons (.int .i64) .nil)))) (.cons (.pur (.sl false (.cons (.int .i64) (.cons (.int .i64) .nil)))) .nil))))), (8, (.box (.cons (.own (.int .i64)) (.cons (.own .bool) (.cons (.own (.sl false (.int .i64))) .nil))))), (9, (.box (.cons (.own (.int .i64)) (.cons (.own .bool) (.cons (.rows (.own (.int .i64))) .nil))))), (10, (.pur (.int .i64)))]), (2, [(2, (.pur (.int .i64))), (3, (.pur (.sl false (.int .u8)))), (5, (.box (.cons (.pur .bool) (.cons (.pur (.sl false (.cons (.int .i64) (.cons (.int .i64) .nil)))) (.cons (.pur (.sl false (.cons (.int .i64) (.cons (.int .i64) .nil)))) .nil))))), (8, (.box (.cons (.own (.int .i64)) (.cons (.own .bool) (.cons (.own (.sl false (.int .i64))) .nil))))), (9, (.box (.cons (.own (.int .i64)) (.cons (.own .bool) (.cons (.rows (.own (.int .i64))) .nil))))), (11, (.pur (.int .i64)))]), (4, [(3, (.pur (.sl false (.int .u8)))), (5, (.box (.cons (.pur .bool) (.cons (.pur (.sl false (.cons (.int .i64) (.cons (.int .i64) .nil)))) (.cons (.pur (.sl false (.cons (.int .i64) (.cons (.int .i64) .nil)))) .nil))))), (8, (.box (.cons (.own (.int .i64)) (.cons (.own .bool) (.cons (.own (.sl false (.int .i64))) .nil))))), (9, (.box (.cons (.own (.int .i64)) (.cons (.own .bool) (.cons (.rows (.own (.int .i64))) .nil))))), (12, (.pur (.int .i64)))]), (6, [(3, (.pur (.sl false (.int .u8)))), (5, (.box (.cons (.pur .bool) (.cons (.pur (.sl false (.cons (.int .i64) (.cons (.int .i64) .nil)))) (.cons (.pur (.sl false (.cons (.int .i64) (.cons (.int .i64) .nil)))) .nil))))), (8, (.box (.cons (.own (.int .i64)) (.cons (.own .bool) (.cons (.own (.sl false (.int .i64))) .nil))))), (9, (.box (.cons (.own (.int .i64)) (.cons (.own .bool) (.cons (.rows (.own (.int .i64))) .nil))))), (12, (.pur (.int .i64))), (13, (.pur (.int .i64)))])], joins := [], keys := [(5, [([9], false), ([9], false), ([], false), ([5], false), ([5], false), ([], false), ([], false), ([], false), ([], false), ([], false), ([], false), ([], false), ([9], false), ([9], true)]), (16, [([9, 65], false), ([9, 65], false), ([], false), ([9, 65], false), ([9, 65, 74], true), ([], false), ([5], false), ([5], false), ([], false), ([], false), ([], false), ([], false), ([], false), ([], false), ([], false), ([], false), ([], false), ([74], false), ([74], true)])] }
noncomputable def laws_inside.l6 (k : Nat) (G4 : ((List Int) × (Bool × (List (Int × Int × Unit)) × (List (Int × Int × Unit)) × Unit) × ((List Int) × (List Bool) × (List (List Int)) × Unit) × ((List Int) × (List Bool) × (List (List Int)) × Unit) × Int × Unit) → Option ((((List Int) × (List Bool) × (List (List Int)) × Unit) × Unit) × (Unit × Unit × Unit × Unit × Unit))) (G6 : ((List Int) × (Bool × (List (Int × Int × Unit)) × (List (Int × Int × Unit)) × Unit) × ((List Int) × (List Bool) × (List (List Int)) × Unit) × ((List Int) × (List Bool) × (List (List Int)) × Unit) × Int × Int × Unit) → Option ((((List Int) × (List Bool) × (List (List Int)) × Unit) × Unit) × (Unit × Unit × Unit × Unit × Unit))) : ((List Int) × (Bool × (List (Int × Int × Unit)) × (List (Int × Int × Unit)) × Unit) × ((List Int) × (List Bool) × (List (List Int)) × Unit) × ((List Int) × (List Bool) × (List (List Int)) × Unit) × Int × Int × Unit) → Option ((((List Int) × (List Bool) × (List (List Int)) × Unit) × Unit) × (Unit × Unit × Unit × Unit × Unit)) := fun x => match x with
 | (code, (e__0, e__1, e__2, ()), (t8_0, t8_1, t8_2, ()), (s__0, s__1, s__2, ()), i, k_, ()) =>
  br k (decide (0 ≤ i ∧ i < (s__2.length : Int)))
  (bd k (s__2[i.toNat]?) fun x6 =>
  br k (decide (k_ < (x6.length : Int)))
  (br k (decide (0 ≤ i ∧ i < (s__2.length : Int)))
  (bd k ((s__2.set i.toNat x6)[i.toNat]?) fun x7 =>
  br k (decide (0 ≤ i))
  (bd k (e__2[i.toNat]?) fun x8 =>
  bd k (laws_within k (x8, code, IntKind.wrap .i64 ((IntKind.wrap .i64 (5 * k_)) + i), ())) fun y9 =>
  br k (decide (0 ≤ k_ ∧ k_ < (x7.length : Int)))
  (bd k (x7[k_.toNat]?) fun x10 =>
  G6 (code, (e__0, e__1, e__2, ()), (t8_0, t8_1, t8_2, ()), (s__0, s__1, (s__2.set i.toNat x6).set i.toNat (x7.set k_.toNat y9.1.1), ()), i, IntKind.wrap .i64 (k_ + 1), ()))
  none)
  none)
  none)
  (G4 (code, (e__0, e__1, e__2, ()), (t8_0, t8_1, t8_2, ()), (s__0, s__1, s__2.set i.toNat x6, ()), IntKind.wrap .i64 (i + 1), ())))
  none
noncomputable def laws_inside.l4 (k : Nat)  (G4 : ((List Int) × (Bool × (List (Int × Int × Unit)) × (List (Int × Int × Unit)) × Unit) × ((List Int) × (List Bool) × (List (List Int)) × Unit) × ((List Int) × (List Bool) × (List (List Int)) × Unit) × Int × Unit) → Option ((((List Int) × (List Bool) × (List (List Int)) × Unit) × Unit) × (Unit × Unit × Unit × Unit × Unit))) : ((List Int) × (Bool × (List (Int × Int × Unit)) × (List (Int × Int × Unit)) × Unit) × ((List Int) × (List Bool) × (List (List Int)) × Unit) × ((List Int) × (List Bool) × (List (List Int)) × Unit) × Int × Unit) → Option ((((List Int) × (List Bool) × (List (List Int)) × Unit) × Unit) × (Unit × Unit × Unit × Unit × Unit)) := fun x => match x with
 | (code, (e__0, e__1, e__2, ()), (t8_0, t8_1, t8_2, ()), (s__0, s__1, s__2, ()), i, ()) =>
  br k (decide (i < (s__2.length : Int)))
  (iter (laws_inside.l6 k G4) k (code, (e__0, e__1, e__2, ()), (t8_0, t8_1, t8_2, ()), (s__0, s__1, s__2, ()), i, 0, ()))
  (some (((s__0, s__1, s__2, ()), ()), ((), (), (), (), ())))
noncomputable def laws_inside.l2 (k : Nat)  (G2 : (Int × (List Int) × (Bool × (List (Int × Int × Unit)) × (List (Int × Int × Unit)) × Unit) × ((List Int) × (List Bool) × (List (List Int)) × Unit) × ((List Int) × (List Bool) × (List (List Int)) × Unit) × Int × Unit) → Option ((((List Int) × (List Bool) × (List (List Int)) × Unit) × Unit) × (Unit × Unit × Unit × Unit × Unit))) : (Int × (List Int) × (Bool × (List (Int × Int × Unit)) × (List (Int × Int × Unit)) × Unit) × ((List Int) × (List Bool) × (List (List Int)) × Unit) × ((List Int) × (List Bool) × (List (List Int)) × Unit) × Int × Unit) → Option ((((List Int) × (List Bool) × (List (List Int)) × Unit) × Unit) × (Unit × Unit × Unit × Unit × Unit)) := fun x => match x with
 | (leaf, code, (e__0, e__1, e__2, ()), (t8_0, t8_1, t8_2, ()), (s__0, s__1, s__2, ()), i, ()) =>
  br k (decide (i < (s__1.length : Int)))
  (br k (decide (0 ≤ (IntKind.wrap .u64 i)))
  (br k (decide (0 ≤ i ∧ i < (s__1.length : Int)))
  (bd k (s__1[i.toNat]?) fun x5 =>
  G2 (leaf, code, (e__0, e__1, e__2, ()), (t8_0, t8_1, t8_2, ()), (s__0, s__1.set i.toNat ((IntKind.wrap .i64 (((BitVec.ofInt 64 (leaf.fdiv (2 ^ (min (IntKind.wrap .u64 i).toNat 64))) &&& BitVec.ofInt 64 1).toNat : Int))) == 1), s__2, ()), IntKind.wrap .i64 (i + 1), ()))
  none)
  none)
  (iter (laws_inside.l4 k) k (code, (e__0, e__1, e__2, ()), (t8_0, t8_1, t8_2, ()), (s__0, s__1, s__2, ()), 0, ()))
noncomputable def laws_inside.l0 (k : Nat)  (G0 : (Int × (List Int) × (Bool × (List (Int × Int × Unit)) × (List (Int × Int × Unit)) × Unit) × ((List Int) × (List Bool) × (List (List Int)) × Unit) × ((List Int) × (List Bool) × (List (List Int)) × Unit) × Int × Unit) → Option ((((List Int) × (List Bool) × (List (List Int)) × Unit) × Unit) × (Unit × Unit × Unit × Unit × Unit))) : (Int × (List Int) × (Bool × (List (Int × Int × Unit)) × (List (Int × Int × Unit)) × Unit) × ((List Int) × (List Bool) × (List (List Int)) × Unit) × ((List Int) × (List Bool) × (List (List Int)) × Unit) × Int × Unit) → Option ((((List Int) × (List Bool) × (List (List Int)) × Unit) × Unit) × (Unit × Unit × Unit × Unit × Unit)) := fun x => match x with
 | (leaf, code, (e__0, e__1, e__2, ()), (t8_0, t8_1, t8_2, ()), (s__0, s__1, s__2, ()), i, ()) =>
  br k (decide (i < (s__0.length : Int)))
  (br k (decide (0 ≤ i))
  (bd k (e__1[i.toNat]?) fun x2 =>
  bd k (laws_within k (x2, code, IntKind.wrap .i64 (3 * i), ())) fun y3 =>
  br k (decide (0 ≤ i ∧ i < (s__0.length : Int)))
  (bd k (s__0[i.toNat]?) fun x4 =>
  G0 (leaf, code, (e__0, e__1, e__2, ()), (t8_0, t8_1, t8_2, ()), (s__0.set i.toNat y3.1.1, s__1, s__2, ()), IntKind.wrap .i64 (i + 1), ()))
  none)
  none)
  (iter (laws_inside.l2 k) k (leaf, code, (e__0, e__1, e__2, ()), (t8_0, t8_1, t8_2, ()), (s__0, s__1, s__2, ()), 0, ()))
noncomputable def laws_inside (k : Nat) : (((List (List UInt8)) × (List (List UInt8)) × (List ((List UInt8) × Int × Unit)) × Unit) × (Bool × (List (Int × Int × Unit)) × (List (Int × Int × Unit)) × Unit) × Int × (List Int) × Unit) → Option ((((List Int) × (List Bool) × (List (List Int)) × Unit) × Unit) × (Unit × Unit × Unit × Unit × Unit)) := fun x => match x with
 | (d_, e_, leaf, code, ()) =>
  bd k (spec_StoreNew k (d_, ())) fun y1 =>
  iter (laws_inside.l0 k) k (leaf, code, (e_.1, e_.2.1, e_.2.2.1, ()), ([], [], [], ()), (y1.1.1.1, y1.1.1.2.1, y1.1.1.2.2.1, ()), 0, ())
noncomputable def laws_inside.sg (k : Nat) : Sig := ⟨laws_inside.A, laws_inside.R, laws_inside k⟩
noncomputable def laws_inside.C (k : Nat) : Ctx := ⟨Tryz.prog, [(48, [spec_StoreNew.sg k]), (49, [laws_within.sg k])], k, []⟩
theorem laws_inside.ev (k : Nat) (x : laws_inside.A.T) : evFunc (laws_inside.C k) laws_inside.ann Tryz.f14 laws_inside.A laws_inside.R x = laws_inside k x := by kernel_rfl
theorem laws_inside.ok {L : List (Nat × Obj)}  (k : Nat) : SigHolds Tryz.prog L 14 (laws_inside.sg k) :=
  sig_of_ev (C := laws_inside.C k) (holds_cons (allok_cons (spec_StoreNew.ok k) allok_nil) (holds_cons (allok_cons (laws_within.ok k) allok_nil) holds_nil)) (by kernel_rfl) Tryz.func14 (by kernel_rfl) laws_inside.ann laws_inside.A laws_inside.R (fun x y h => (laws_inside.ev k x).trans h) (by kernel_rfl)

/-! loop.example/g00719/laws.sameIvs -/
def laws_sameIvs.A : Sh := (.cons (.pur (.sl false (.cons (.int .i64) (.cons (.int .i64) .nil)))) (.cons (.pur (.sl false (.cons (.int .i64) (.cons (.int .i64) .nil)))) .nil))
def laws_sameIvs.R : Sh := (.cons (.pur .bool) .nil)
def laws_sameIvs.ann : Ann := { loops := [(0, [(0, (.pur (.sl false (.cons (.int .i64) (.cons (.int .i64) .nil))))), (1, (.pur (.sl false (.cons (.int .i64) (.cons (.int .i64) .nil))))), (5, (.pur (.int .i64)))])], joins := [], keys := [] }
noncomputable def laws_sameIvs.l0 (k : Nat)  (G0 : ((List (Int × Int × Unit)) × (List (Int × Int × Unit)) × Int × Unit) → Option ((Bool × Unit) × (Unit × Unit × Unit))) : ((List (Int × Int × Unit)) × (List (Int × Int × Unit)) × Int × Unit) → Option ((Bool × Unit) × (Unit × Unit × Unit)) := fun x => match x with
 | (a, b_, i, ()) =>
  br k (decide (i < (a.length : Int)))
  (br k (decide (0 ≤ i))
  (bd k (a[i.toNat]?) fun x1 =>
  br k (decide (0 ≤ i))
  (bd k (b_[i.toNat]?) fun x2 =>
  br k (!((x1.1 == x2.1) && ((x1.2.1 == x2.2.1) && true)))
  (some ((false, ()), ((), (), ())))
  (G0 (a, b_, IntKind.wrap .i64 (i + 1), ())))
  none)
  none)
  (some ((true, ()), ((), (), ())))
noncomputable def laws_sameIvs (k : Nat) : ((List (Int × Int × Unit)) × (List (Int × Int × Unit)) × Unit) → Option ((Bool × Unit) × (Unit × Unit × Unit)) := fun x => match x with
 | (a, b_, ()) =>
  br k ((a.length : Int) != (b_.length : Int))
  (some ((false, ()), ((), (), ())))
  (iter (laws_sameIvs.l0 k) k (a, b_, 0, ()))
noncomputable def laws_sameIvs.sg (k : Nat) : Sig := ⟨laws_sameIvs.A, laws_sameIvs.R, laws_sameIvs k⟩
noncomputable def laws_sameIvs.C (k : Nat) : Ctx := ⟨Tryz.prog, [], k, []⟩
theorem laws_sameIvs.ev (k : Nat) (x : laws_sameIvs.A.T) : evFunc (laws_sameIvs.C k) laws_sameIvs.ann Tryz.f50 laws_sameIvs.A laws_sameIvs.R x = laws_sameIvs k x := by kernel_rfl
theorem laws_sameIvs.ok {L : List (Nat × Obj)}  (k : Nat) : SigHolds Tryz.prog L 50 (laws_sameIvs.sg k) :=
  sig_of_ev (C := laws_sameIvs.C k) holds_nil (by kernel_rfl) Tryz.func50 (by kernel_rfl) laws_sameIvs.ann laws_sameIvs.A laws_sameIvs.R (fun x y h => (laws_sameIvs.ev k x).trans h) (by kernel_rfl)

/-! loop.example/g00719/laws.sameEnv -/
def laws_sameEnv.A : Sh := (.cons (.pur (.cons .bool (.cons (.sl false (.cons (.int .i64) (.cons (.int .i64) .nil))) (.cons (.sl false (.cons (.int .i64) (.cons (.int .i64) .nil))) .nil)))) (.cons (.pur (.cons .bool (.cons (.sl false (.cons (.int .i64) (.cons (.int .i64) .nil))) (.cons (.sl false (.cons (.int .i64) (.cons (.int .i64) .nil))) .nil)))) .nil))
def laws_sameEnv.R : Sh := (.cons (.pur .bool) .nil)
def laws_sameEnv.ann : Ann := { loops := [], joins := [(1, [(4, .bool)])], keys := [] }
noncomputable def laws_sameEnv (k : Nat) : ((Bool × (List (Int × Int × Unit)) × (List (Int × Int × Unit)) × Unit) × (Bool × (List (Int × Int × Unit)) × (List (Int × Int × Unit)) × Unit) × Unit) → Option ((Bool × Unit) × (Unit × Unit × Unit)) := fun x => match x with
 | (a, b_, ()) =>
  (br k (a.1 == b_.1)
  (bd k (laws_sameIvs k (a.2.1, b_.2.1, ())) fun y1 =>
  br k (y1.1.1)
  (bd k (laws_sameIvs k (a.2.2.1, b_.2.2.1, ())) fun y2 =>
  some (y2.1.1, ()))
  (some (false, ())))
  (some (false, ())) : Option (Bool × Unit)).bind fun j3 =>
  some ((j3.1, ()), ((), (), ()))
noncomputable def laws_sameEnv.sg (k : Nat) : Sig := ⟨laws_sameEnv.A, laws_sameEnv.R, laws_sameEnv k⟩
noncomputable def laws_sameEnv.C (k : Nat) : Ctx := ⟨Tryz.prog, [(50, [laws_sameIvs.sg k])], k, []⟩
theorem laws_sameEnv.ev (k : Nat) (x : laws_sameEnv.A.T) : evFunc (laws_sameEnv.C k) laws_sameEnv.ann Tryz.f15 laws_sameEnv.A laws_sameEnv.R x = laws_sameEnv k x := by kernel_rfl
theorem laws_sameEnv.ok {L : List (Nat × Obj)}  (k : Nat) : SigHolds Tryz.prog L 15 (laws_sameEnv.sg k) :=
  sig_of_ev (C := laws_sameEnv.C k) (holds_cons (allok_cons (laws_sameIvs.ok k) allok_nil) holds_nil) (by kernel_rfl) Tryz.func15 (by kernel_rfl) laws_sameEnv.ann laws_sameEnv.A laws_sameEnv.R (fun x y h => (laws_sameEnv.ev k x).trans h) (by kernel_rfl)

/-! loop.example/g00719/laws.sameInts -/
def laws_sameInts.A : Sh := (.cons (.pur (.sl false (.int .i64))) (.cons (.pur (.sl false (.int .i64))) .nil))
def laws_sameInts.R : Sh := (.cons (.pur .bool) .nil)
def laws_sameInts.ann : Ann := { loops := [(0, [(0, (.pur (.sl false (.int .i64)))), (1, (.pur (.sl false (.int .i64)))), (5, (.pur (.int .i64)))])], joins := [], keys := [] }
noncomputable def laws_sameInts.l0 (k : Nat)  (G0 : ((List Int) × (List Int) × Int × Unit) → Option ((Bool × Unit) × (Unit × Unit × Unit))) : ((List Int) × (List Int) × Int × Unit) → Option ((Bool × Unit) × (Unit × Unit × Unit)) := fun x => match x with
 | (a, b_, i, ()) =>
  br k (decide (i < (a.length : Int)))
  (br k (decide (0 ≤ i))
  (bd k (a[i.toNat]?) fun x1 =>
  br k (decide (0 ≤ i))
  (bd k (b_[i.toNat]?) fun x2 =>
  br k (x1 != x2)
  (some ((false, ()), ((), (), ())))
  (G0 (a, b_, IntKind.wrap .i64 (i + 1), ())))
  none)
  none)
  (some ((true, ()), ((), (), ())))
noncomputable def laws_sameInts (k : Nat) : ((List Int) × (List Int) × Unit) → Option ((Bool × Unit) × (Unit × Unit × Unit)) := fun x => match x with
 | (a, b_, ()) =>
  br k ((a.length : Int) != (b_.length : Int))
  (some ((false, ()), ((), (), ())))
  (iter (laws_sameInts.l0 k) k (a, b_, 0, ()))
noncomputable def laws_sameInts.sg (k : Nat) : Sig := ⟨laws_sameInts.A, laws_sameInts.R, laws_sameInts k⟩
noncomputable def laws_sameInts.C (k : Nat) : Ctx := ⟨Tryz.prog, [], k, []⟩
theorem laws_sameInts.ev (k : Nat) (x : laws_sameInts.A.T) : evFunc (laws_sameInts.C k) laws_sameInts.ann Tryz.f51 laws_sameInts.A laws_sameInts.R x = laws_sameInts k x := by kernel_rfl
theorem laws_sameInts.ok {L : List (Nat × Obj)}  (k : Nat) : SigHolds Tryz.prog L 51 (laws_sameInts.sg k) :=
  sig_of_ev (C := laws_sameInts.C k) holds_nil (by kernel_rfl) Tryz.func51 (by kernel_rfl) laws_sameInts.ann laws_sameInts.A laws_sameInts.R (fun x y h => (laws_sameInts.ev k x).trans h) (by kernel_rfl)

/-! loop.example/g00719/laws.sameStore -/
def laws_sameStore.A : Sh := (.cons (.pur (.cons (.sl false (.int .i64)) (.cons (.sl false .bool) (.cons (.sl false (.sl false (.int .i64))) .nil)))) (.cons (.pur (.cons (.sl false (.int .i64)) (.cons (.sl false .bool) (.cons (.sl false (.sl false (.int .i64))) .nil)))) .nil))
def laws_sameStore.R : Sh := (.cons (.pur .bool) .nil)
def laws_sameStore.ann : Ann := { loops := [(0, [(2, (.box (.cons (.pur (.sl false (.int .i64))) (.cons (.pur (.sl false .bool)) (.cons (.pur (.sl false (.sl false (.int .i64)))) .nil))))), (3, (.box (.cons (.pur (.sl false (.int .i64))) (.cons (.pur (.sl false .bool)) (.cons (.pur (.sl false (.sl false (.int .i64)))) .nil))))), (5, (.pur (.int .i64)))]), (2, [(2, (.box (.cons (.pur (.sl false (.int .i64))) (.cons (.pur (.sl false .bool)) (.cons (.pur (.sl false (.sl false (.int .i64)))) .nil))))), (3, (.box (.cons (.pur (.sl false (.int .i64))) (.cons (.pur (.sl false .bool)) (.cons (.pur (.sl false (.sl false (.int .i64)))) .nil))))), (6, (.pur (.int .i64)))])], joins := [(1, [(30, .bool)])], keys := [] }
noncomputable def laws_sameStore.l2 (k : Nat)  (G2 : (((List Int) × (List Bool) × (List (List Int)) × Unit) × ((List Int) × (List Bool) × (List (List Int)) × Unit) × Int × Unit) → Option ((Bool × Unit) × (Unit × Unit × Unit))) : (((List Int) × (List Bool) × (List (List Int)) × Unit) × ((List Int) × (List Bool) × (List (List Int)) × Unit) × Int × Unit) → Option ((Bool × Unit) × (Unit × Unit × Unit)) := fun x => match x with
 | ((a_0, a_1, a_2, ()), (b__0, b__1, b__2, ()), i, ()) =>
  br k (decide (i < (a_2.length : Int)))
  (br k (decide (0 ≤ i))
  (bd k (a_2[i.toNat]?) fun x5 =>
  br k (decide (0 ≤ i))
  (bd k (b__2[i.toNat]?) fun x6 =>
  bd k (laws_sameInts k (x5, x6, ())) fun y7 =>
  br k (!y7.1.1)
  (some ((false, ()), ((), (), ())))
  (G2 ((a_0, a_1, a_2, ()), (b__0, b__1, b__2, ()), IntKind.wrap .i64 (i + 1), ())))
  none)
  none)
  (some ((true, ()), ((), (), ())))
noncomputable def laws_sameStore.l0 (k : Nat)  (G0 : (((List Int) × (List Bool) × (List (List Int)) × Unit) × ((List Int) × (List Bool) × (List (List Int)) × Unit) × Int × Unit) → Option ((Bool × Unit) × (Unit × Unit × Unit))) : (((List Int) × (List Bool) × (List (List Int)) × Unit) × ((List Int) × (List Bool) × (List (List Int)) × Unit) × Int × Unit) → Option ((Bool × Unit) × (Unit × Unit × Unit)) := fun x => match x with
 | ((a_0, a_1, a_2, ()), (b__0, b__1, b__2, ()), i, ()) =>
  br k (decide (i < (a_1.length : Int)))
  (br k (decide (0 ≤ i))
  (bd k (a_1[i.toNat]?) fun x3 =>
  br k (decide (0 ≤ i))
  (bd k (b__1[i.toNat]?) fun x4 =>
  br k (!(x3 == x4))
  (some ((false, ()), ((), (), ())))
  (G0 ((a_0, a_1, a_2, ()), (b__0, b__1, b__2, ()), IntKind.wrap .i64 (i + 1), ())))
  none)
  none)
  (iter (laws_sameStore.l2 k) k ((a_0, a_1, a_2, ()), (b__0, b__1, b__2, ()), 0, ()))
noncomputable def laws_sameStore (k : Nat) : (((List Int) × (List Bool) × (List (List Int)) × Unit) × ((List Int) × (List Bool) × (List (List Int)) × Unit) × Unit) → Option ((Bool × Unit) × (Unit × Unit × Unit)) := fun x => match x with
 | (a, b_, ()) =>
  (bd k (laws_sameInts k (a.1, b_.1, ())) fun y1 =>
  br k (!y1.1.1)
  (some (true, ()))
  (br k ((a.2.1.length : Int) != (b_.2.1.length : Int))
  (some (true, ()))
  (some ((a.2.2.1.length : Int) != (b_.2.2.1.length : Int), ()))) : Option (Bool × Unit)).bind fun j2 =>
  br k (j2.1)
  (some ((false, ()), ((), (), ())))
  (iter (laws_sameStore.l0 k) k ((a.1, a.2.1, a.2.2.1, ()), (b_.1, b_.2.1, b_.2.2.1, ()), 0, ()))
noncomputable def laws_sameStore.sg (k : Nat) : Sig := ⟨laws_sameStore.A, laws_sameStore.R, laws_sameStore k⟩
noncomputable def laws_sameStore.C (k : Nat) : Ctx := ⟨Tryz.prog, [(51, [laws_sameInts.sg k])], k, []⟩
theorem laws_sameStore.ev (k : Nat) (x : laws_sameStore.A.T) : evFunc (laws_sameStore.C k) laws_sameStore.ann Tryz.f16 laws_sameStore.A laws_sameStore.R x = laws_sameStore k x := by kernel_rfl
theorem laws_sameStore.ok {L : List (Nat × Obj)}  (k : Nat) : SigHolds Tryz.prog L 16 (laws_sameStore.sg k) :=
  sig_of_ev (C := laws_sameStore.C k) (holds_cons (allok_cons (laws_sameInts.ok k) allok_nil) holds_nil) (by kernel_rfl) Tryz.func16 (by kernel_rfl) laws_sameStore.ann laws_sameStore.A laws_sameStore.R (fun x y h => (laws_sameStore.ev k x).trans h) (by kernel_rfl)

/-! loop.example/g00719/laws.FnStoreTexts -/
def laws_FnStoreTexts.A : Sh := (.cons (.pur (.sl false (.int .u8))) (.cons (.pur (.sl false (.int .u8))) .nil))
def laws_FnStoreTexts.R : Sh := (.cons (.pur .bool) .nil)
def laws_FnStoreTexts.ann : Ann := { loops := [], joins := [(1, [(17, .bool)]), (5, [(61, .bool)]), (6, [(4, .bool)]), (9, [(4, .bool)])], keys := [] }
noncomputable def laws_FnStoreTexts (k : Nat) : ((List Int) × (List Int) × Unit) → Option ((Bool × Unit) × (Unit × Unit × Unit)) := fun x => match x with
 | (code, more, ()) =>
  (bd k (laws_big k (code, ())) fun y1 =>
  br k (y1.1.1)
  (some (true, ()))
  (bd k (laws_big k (more, ())) fun y2 =>
  some (y2.1.1, ())) : Option (Bool × Unit)).bind fun j3 =>
  br k (j3.1)
  (some ((true, ()), ((), (), ())))
  (bd k (spec_DrawEnvLeq k (code, ())) fun y4 =>
  bd k (spec_DrawStoreText k (code, ())) fun y5 =>
  (bd k (impl_EnvText k (y4.1.1, (y4.1.2.1.1, y4.1.2.1.2.1, y4.1.2.1.2.2.1, ()), ())) fun y6 =>
  bd k (spec_EnvText k (y4.1.1, (y4.1.2.1.1, y4.1.2.1.2.1, y4.1.2.1.2.2.1, ()), ())) fun y7 =>
  br k (!(y6.1.1 == y7.1.1))
  (some (true, ()))
  (bd k (impl_StoreText k (y5.1.1, (y5.1.2.1.1, y5.1.2.1.2.1, y5.1.2.1.2.2.1, ()), ())) fun y8 =>
  bd k (spec_StoreText k (y5.1.1, (y5.1.2.1.1, y5.1.2.1.2.1, y5.1.2.1.2.2.1, ()), ())) fun y9 =>
  br k (!(y8.1.1 == y9.1.1))
  (some (true, ()))
  (bd k (spec_EnvOk k (y4.1.1, (y4.1.2.1.1, y4.1.2.1.2.1, y4.1.2.1.2.2.1, ()), ())) fun y10 =>
  br k (!y10.1.1)
  (some (true, ()))
  (bd k (spec_EnvOk k (y4.1.1, (y4.1.2.2.1.1, y4.1.2.2.1.2.1, y4.1.2.2.1.2.2.1, ()), ())) fun y11 =>
  br k (!y11.1.1)
  (some (true, ()))
  (some (!y4.1.2.1.1, ()))))) : Option (Bool × Unit)).bind fun j12 =>
  br k (j12.1)
  ((bd k (impl_EnvText k (y4.1.1, (y4.1.2.1.1, y4.1.2.1.2.1, y4.1.2.1.2.2.1, ()), ())) fun y13 =>
  bd k (spec_EnvText k (y4.1.1, (y4.1.2.1.1, y4.1.2.1.2.1, y4.1.2.1.2.2.1, ()), ())) fun y14 =>
  br k (y13.1.1 == y14.1.1)
  (bd k (impl_StoreText k (y5.1.1, (y5.1.2.1.1, y5.1.2.1.2.1, y5.1.2.1.2.2.1, ()), ())) fun y15 =>
  bd k (spec_StoreText k (y5.1.1, (y5.1.2.1.1, y5.1.2.1.2.1, y5.1.2.1.2.2.1, ()), ())) fun y16 =>
  some (y15.1.1 == y16.1.1, ()))
  (some (false, ())) : Option (Bool × Unit)).bind fun j17 =>
  some ((j17.1, ()), ((), (), ())))
  (bd k (laws_inside k (y4.1.1, (y4.1.2.1.1, y4.1.2.1.2.1, y4.1.2.1.2.2.1, ()), 0, code, ())) fun y18 =>
  bd k (laws_inside k (y4.1.1, (y4.1.2.1.1, y4.1.2.1.2.1, y4.1.2.1.2.2.1, ()), 0, more, ())) fun y19 =>
  (bd k (impl_EnvText k (y4.1.1, (y4.1.2.1.1, y4.1.2.1.2.1, y4.1.2.1.2.2.1, ()), ())) fun y20 =>
  bd k (impl_EnvText k (y4.1.1, (y4.1.2.2.1.1, y4.1.2.2.1.2.1, y4.1.2.2.1.2.2.1, ()), ())) fun y21 =>
  bd k (laws_sameEnv k ((y4.1.2.1.1, y4.1.2.1.2.1, y4.1.2.1.2.2.1, ()), (y4.1.2.2.1.1, y4.1.2.2.1.2.1, y4.1.2.2.1.2.2.1, ()), ())) fun y22 =>
  br k ((y20.1.1 == y21.1.1) == y22.1.1)
  (bd k (impl_StoreText k (y4.1.1, (y18.1.1.1, y18.1.1.2.1, y18.1.1.2.2.1, ()), ())) fun y23 =>
  bd k (impl_StoreText k (y4.1.1, (y19.1.1.1, y19.1.1.2.1, y19.1.1.2.2.1, ()), ())) fun y24 =>
  bd k (laws_sameStore k ((y18.1.1.1, y18.1.1.2.1, y18.1.1.2.2.1, ()), (y19.1.1.1, y19.1.1.2.1, y19.1.1.2.2.1, ()), ())) fun y25 =>
  some ((y23.1.1 == y24.1.1) == y25.1.1, ()))
  (some (false, ())) : Option (Bool × Unit)).bind fun j26 =>
  some ((j26.1, ()), ((), (), ()))))
noncomputable def laws_FnStoreTexts.sg (k : Nat) : Sig := ⟨laws_FnStoreTexts.A, laws_FnStoreTexts.R, laws_FnStoreTexts k⟩
noncomputable def laws_FnStoreTexts.C (k : Nat) : Ctx := ⟨Tryz.prog, [(6, [laws_big.sg k]), (7, [spec_DrawEnvLeq.sg k]), (8, [spec_DrawStoreText.sg k]), (9, [impl_EnvText.sg k]), (10, [spec_EnvText.sg k]), (11, [impl_StoreText.sg k]), (12, [spec_StoreText.sg k]), (13, [spec_EnvOk.sg k]), (14, [laws_inside.sg k]), (15, [laws_sameEnv.sg k]), (16, [laws_sameStore.sg k])], k, []⟩
theorem laws_FnStoreTexts.ev (k : Nat) (x : laws_FnStoreTexts.A.T) : evFunc (laws_FnStoreTexts.C k) laws_FnStoreTexts.ann Tryz.f3 laws_FnStoreTexts.A laws_FnStoreTexts.R x = laws_FnStoreTexts k x := by kernel_rfl
theorem laws_FnStoreTexts.ok {L : List (Nat × Obj)} (hFmt : Lb.NeedFmt L) (hSp : Lb.NeedSp L) (k : Nat) : SigHolds Tryz.prog L 3 (laws_FnStoreTexts.sg k) :=
  sig_of_ev (C := laws_FnStoreTexts.C k) (holds_cons (allok_cons (laws_big.ok k) allok_nil) (holds_cons (allok_cons (spec_DrawEnvLeq.ok k) allok_nil) (holds_cons (allok_cons (spec_DrawStoreText.ok k) allok_nil) (holds_cons (allok_cons (impl_EnvText.ok hFmt hSp k) allok_nil) (holds_cons (allok_cons (spec_EnvText.ok k) allok_nil) (holds_cons (allok_cons (impl_StoreText.ok hFmt hSp k) allok_nil) (holds_cons (allok_cons (spec_StoreText.ok k) allok_nil) (holds_cons (allok_cons (spec_EnvOk.ok k) allok_nil) (holds_cons (allok_cons (laws_inside.ok k) allok_nil) (holds_cons (allok_cons (laws_sameEnv.ok k) allok_nil) (holds_cons (allok_cons (laws_sameStore.ok k) allok_nil) holds_nil))))))))))) (by kernel_rfl) Tryz.func3 (by kernel_rfl) laws_FnStoreTexts.ann laws_FnStoreTexts.A laws_FnStoreTexts.R (fun x y h => (laws_FnStoreTexts.ev k x).trans h) (by kernel_rfl)

/-! loop.example/g00719/spec.l8Size -/
def spec_l8Size.A : Sh := (.cons (.pur (.cons (.sl false .str) (.cons (.sl false .str) (.cons (.sl false (.cons .str (.cons (.int .i64) .nil))) .nil)))) .nil)
def spec_l8Size.R : Sh := (.cons (.pur (.int .i64)) .nil)
def spec_l8Size.ann : Ann := { loops := [], joins := [], keys := [] }
noncomputable def spec_l8Size (k : Nat) : (((List (List UInt8)) × (List (List UInt8)) × (List ((List UInt8) × Int × Unit)) × Unit) × Unit) → Option ((Int × Unit) × (Unit × Unit)) := fun x => match x with
 | (d_, ()) =>
  br k (decide (0 ≤ (IntKind.wrap .u64 (d_.2.1.length : Int))))
  (some ((IntKind.wrap .i64 (1 * 2 ^ (min (IntKind.wrap .u64 (d_.2.1.length : Int)).toNat 64)), ()), ((), ())))
  none
noncomputable def spec_l8Size.sg (k : Nat) : Sig := ⟨spec_l8Size.A, spec_l8Size.R, spec_l8Size k⟩
noncomputable def spec_l8Size.C (k : Nat) : Ctx := ⟨Tryz.prog, [], k, []⟩
theorem spec_l8Size.ev (k : Nat) (x : spec_l8Size.A.T) : evFunc (spec_l8Size.C k) spec_l8Size.ann Tryz.f60 spec_l8Size.A spec_l8Size.R x = spec_l8Size k x := by kernel_rfl
theorem spec_l8Size.ok {L : List (Nat × Obj)}  (k : Nat) : SigHolds Tryz.prog L 60 (spec_l8Size.sg k) :=
  sig_of_ev (C := spec_l8Size.C k) holds_nil (by kernel_rfl) Tryz.func60 (by kernel_rfl) spec_l8Size.ann spec_l8Size.A spec_l8Size.R (fun x y h => (spec_l8Size.ev k x).trans h) (by kernel_rfl)

/-! (*loop.example/g00719/spec.l1Rd).table -/
def spec_l1Rd_table.A : Sh := (.cons (.box (.cons (.pur (.sl false (.int .u8))) (.cons (.pur (.int .i64)) .nil))) (.cons (.pur (.cons (.sl false .str) (.cons (.sl false .str) (.cons (.sl false (.cons .str (.cons (.int .i64) .nil))) .nil)))) .nil))
def spec_l1Rd_table.R : Sh := (.cons (.rows (.cons (.pur .bool) (.cons (.own (.cons (.int .i64) (.cons (.int .i64) .nil))) (.cons (.own (.cons (.int .i64) (.cons (.int .i64) .nil))) .nil)))) .nil)
def spec_l1Rd_table.ann : Ann := { loops := [(0, [(0, (.box (.cons (.pur (.sl false (.int .u8))) (.cons (.pur (.int .i64)) .nil)))), (3, (.box (.cons (.pur (.sl false .str)) (.cons (.pur (.sl false .str)) (.cons (.pur (.sl false (.cons .str (.cons (.int .i64) .nil)))) .nil))))), (5, (.rows (.cons (.pur .bool) (.cons (.own (.cons (.int .i64) (.cons (.int .i64) .nil))) (.cons (.own (.cons (.int .i64) (.cons (.int .i64) .nil))) .nil))))), (6, (.pur (.int .i64)))])], joins := [], keys := [] }
noncomputable def spec_l1Rd_table.l0 (k : Nat)  (G0 : (((List Int) × Int × Unit) × ((List (List UInt8)) × (List (List UInt8)) × (List ((List UInt8) × Int × Unit)) × Unit) × (List (Bool × (List (Int × Int × Unit)) × (List (Int × Int × Unit)) × Unit)) × Int × Unit) → Option (((List (Bool × (List (Int × Int × Unit)) × (List (Int × Int × Unit)) × Unit)) × Unit) × (((List Int) × Int × Unit) × Unit × Unit))) : (((List Int) × Int × Unit) × ((List (List UInt8)) × (List (List UInt8)) × (List ((List UInt8) × Int × Unit)) × Unit) × (List (Bool × (List (Int × Int × Unit)) × (List (Int × Int × Unit)) × Unit)) × Int × Unit) → Option (((List (Bool × (List (Int × Int × Unit)) × (List (Int × Int × Unit)) × Unit)) × Unit) × (((List Int) × Int × Unit) × Unit × Unit)) := fun x => match x with
 | ((r_0, r_1, ()), (d__0, d__1, d__2, ()), out_, i, ()) =>
  bd k (spec_l8Size k ((d__0, d__1, d__2, ()), ())) fun y1 =>
  br k (decide (i < y1.1.1))
  (bd k (spec_l1Rd_env k ((r_0, r_1, ()), (d__0, d__1, d__2, ()), ())) fun y2 =>
  br k (decide (i > 0))
  (bd k (spec_l1Rd_once k ((y2.2.1.1, y2.2.1.2.1, ()), 2, ())) fun y3 =>
  br k (y3.1.1)
  (bd k (spec_l1Rd_below k ((y3.2.1.1, y3.2.1.2.1, ()), i, ())) fun y4 =>
  br k (decide (0 ≤ y4.1.1 ∧ y4.1.1 < (out_.length : Int)))
  (bd k (out_[y4.1.1.toNat]?) fun x5 =>
  bd k (spec_l6Copy k ((x5.1, x5.2.1, x5.2.2.1, ()), ())) fun y6 =>
  bd k (spec_l1Rd_once k ((y4.2.1.1, y4.2.1.2.1, ()), 6, ())) fun y7 =>
  br k (y7.1.1)
  (br k (decide (((out_.set y4.1.1.toNat (x5.1, x5.2.1, x5.2.2.1, ())).length + ([(false, [], [], ())] : List (Bool × (List (Int × Int × Unit)) × (List (Int × Int × Unit)) × Unit)).length) * 56 ≤ maxBytes))
  (G0 ((y7.2.1.1, y7.2.1.2.1, ()), (d__0, d__1, d__2, ()), (out_.set y4.1.1.toNat (x5.1, x5.2.1, x5.2.2.1, ())) ++ ([(false, [], [], ())] : List (Bool × (List (Int × Int × Unit)) × (List (Int × Int × Unit)) × Unit)), IntKind.wrap .i64 (i + 1), ()))
  none)
  (br k (decide (((out_.set y4.1.1.toNat (x5.1, x5.2.1, x5.2.2.1, ())).length + ([(y6.1.1.1, y6.1.1.2.1, y6.1.1.2.2.1, ())] : List (Bool × (List (Int × Int × Unit)) × (List (Int × Int × Unit)) × Unit)).length) * 56 ≤ maxBytes))
  (G0 ((y7.2.1.1, y7.2.1.2.1, ()), (d__0, d__1, d__2, ()), (out_.set y4.1.1.toNat (x5.1, x5.2.1, x5.2.2.1, ())) ++ ([(y6.1.1.1, y6.1.1.2.1, y6.1.1.2.2.1, ())] : List (Bool × (List (Int × Int × Unit)) × (List (Int × Int × Unit)) × Unit)), IntKind.wrap .i64 (i + 1), ()))
  none))
  none)
  (bd k (spec_l1Rd_once k ((y3.2.1.1, y3.2.1.2.1, ()), 6, ())) fun y8 =>
  br k (y8.1.1)
  (br k (decide ((out_.length + ([(false, [], [], ())] : List (Bool × (List (Int × Int × Unit)) × (List (Int × Int × Unit)) × Unit)).length) * 56 ≤ maxBytes))
  (G0 ((y8.2.1.1, y8.2.1.2.1, ()), (d__0, d__1, d__2, ()), out_ ++ ([(false, [], [], ())] : List (Bool × (List (Int × Int × Unit)) × (List (Int × Int × Unit)) × Unit)), IntKind.wrap .i64 (i + 1), ()))
  none)
  (br k (decide ((out_.length + ([(y2.1.1.1, y2.1.1.2.1, y2.1.1.2.2.1, ())] : List (Bool × (List (Int × Int × Unit)) × (List (Int × Int × Unit)) × Unit)).length) * 56 ≤ maxBytes))
  (G0 ((y8.2.1.1, y8.2.1.2.1, ()), (d__0, d__1, d__2, ()), out_ ++ ([(y2.1.1.1, y2.1.1.2.1, y2.1.1.2.2.1, ())] : List (Bool × (List (Int × Int × Unit)) × (List (Int × Int × Unit)) × Unit)), IntKind.wrap .i64 (i + 1), ()))
  none)))
  (bd k (spec_l1Rd_once k ((y2.2.1.1, y2.2.1.2.1, ()), 6, ())) fun y9 =>
  br k (y9.1.1)
  (br k (decide ((out_.length + ([(false, [], [], ())] : List (Bool × (List (Int × Int × Unit)) × (List (Int × Int × Unit)) × Unit)).length) * 56 ≤ maxBytes))
  (G0 ((y9.2.1.1, y9.2.1.2.1, ()), (d__0, d__1, d__2, ()), out_ ++ ([(false, [], [], ())] : List (Bool × (List (Int × Int × Unit)) × (List (Int × Int × Unit)) × Unit)), IntKind.wrap .i64 (i + 1), ()))
  none)
  (br k (decide ((out_.length + ([(y2.1.1.1, y2.1.1.2.1, y2.1.1.2.2.1, ())] : List (Bool × (List (Int × Int × Unit)) × (List (Int × Int × Unit)) × Unit)).length) * 56 ≤ maxBytes))
  (G0 ((y9.2.1.1, y9.2.1.2.1, ()), (d__0, d__1, d__2, ()), out_ ++ ([(y2.1.1.1, y2.1.1.2.1, y2.1.1.2.2.1, ())] : List (Bool × (List (Int × Int × Unit)) × (List (Int × Int × Unit)) × Unit)), IntKind.wrap .i64 (i + 1), ()))
  none)))
  (some ((out_, ()), ((r_0, r_1, ()), (), ())))
noncomputable def spec_l1Rd_table (k : Nat) : (((List Int) × Int × Unit) × ((List (List UInt8)) × (List (List UInt8)) × (List ((List UInt8) × Int × Unit)) × Unit) × Unit) → Option (((List (Bool × (List (Int × Int × Unit)) × (List (Int × Int × Unit)) × Unit)) × Unit) × (((List Int) × Int × Unit) × Unit × Unit)) := fun x => match x with
 | ((r_0, r_1, ()), d_, ()) =>
  iter (spec_l1Rd_table.l0 k) k ((r_0, r_1, ()), (d_.1, d_.2.1, d_.2.2.1, ()), ([] : List (Bool × (List (Int × Int × Unit)) × (List (Int × Int × Unit)) × Unit)), 0, ())
noncomputable def spec_l1Rd_table.sg (k : Nat) : Sig := ⟨spec_l1Rd_table.A, spec_l1Rd_table.R, spec_l1Rd_table k⟩
noncomputable def spec_l1Rd_table.C (k : Nat) : Ctx := ⟨Tryz.prog, [(60, [spec_l8Size.sg k]), (30, [spec_l1Rd_env.sg k]), (31, [spec_l1Rd_once.sg k]), (70, [spec_l1Rd_below.sg k]), (72, [spec_l6Copy.sg k])], k, [(8, (.cons (.pur .bool) (.cons (.own (.cons (.int .i64) (.cons (.int .i64) .nil))) (.cons (.own (.cons (.int .i64) (.cons (.int .i64) .nil))) .nil)))), (36, (.cons (.pur .bool) (.cons (.own (.cons (.int .i64) (.cons (.int .i64) .nil))) (.cons (.own (.cons (.int .i64) (.cons (.int .i64) .nil))) .nil))))]⟩
theorem spec_l1Rd_table.ev (k : Nat) (x : spec_l1Rd_table.A.T) : evFunc (spec_l1Rd_table.C k) spec_l1Rd_table.ann Tryz.f92 spec_l1Rd_table.A spec_l1Rd_table.R x = spec_l1Rd_table k x := by kernel_rfl
theorem spec_l1Rd_table.ok {L : List (Nat × Obj)}  (k : Nat) : SigHolds Tryz.prog L 92 (spec_l1Rd_table.sg k) :=
  sig_of_ev (C := spec_l1Rd_table.C k) (holds_cons (allok_cons (spec_l8Size.ok k) allok_nil) (holds_cons (allok_cons (spec_l1Rd_env.ok k) allok_nil) (holds_cons (allok_cons (spec_l1Rd_once.ok k) allok_nil) (holds_cons (allok_cons (spec_l1Rd_below.ok k) allok_nil) (holds_cons (allok_cons (spec_l6Copy.ok k) allok_nil) holds_nil))))) (by kernel_rfl) Tryz.func92 (by kernel_rfl) spec_l1Rd_table.ann spec_l1Rd_table.A spec_l1Rd_table.R (fun x y h => (spec_l1Rd_table.ev k x).trans h) (by kernel_rfl)

end Go.Pev.F
