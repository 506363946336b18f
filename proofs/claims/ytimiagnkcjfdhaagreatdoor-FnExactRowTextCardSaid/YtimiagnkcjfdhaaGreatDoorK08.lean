/-
  Printed by gen.py: what functions of the program compute, and that they do.
-/
import Derived.Test.YtimiagnkcjfdhaaGreatDoorK07
set_option linter.unusedSimpArgs false
set_option linter.unusedVariables false
open Go.Proofs Go.Pev
namespace Go.Pev.F
set_option maxRecDepth 100000
set_option linter.unusedVariables false

/-! loop.example/g00719/spec.l9Cmp -/
def spec_l9Cmp.A : Sh := (.cons (.pur (.sl false (.cons (.int .i64) (.cons (.int .i64) .nil)))) (.cons (.pur (.sl false (.cons (.int .i64) (.cons (.int .i64) .nil)))) .nil))
def spec_l9Cmp.R : Sh := (.cons (.pur (.int .i64)) .nil)
def spec_l9Cmp.ann : Ann := { loops := [(0, [(0, (.pur (.sl false (.cons (.int .i64) (.cons (.int .i64) .nil))))), (1, (.pur (.sl false (.cons (.int .i64) (.cons (.int .i64) .nil))))), (5, (.pur (.int .i64)))])], joins := [], keys := [] }
noncomputable def spec_l9Cmp.l0 (k : Nat)  (G0 : ((List (Int × Int × Unit)) × (List (Int × Int × Unit)) × Int × Unit) → Option ((Int × Unit) × (Unit × Unit × Unit))) : ((List (Int × Int × Unit)) × (List (Int × Int × Unit)) × Int × Unit) → Option ((Int × Unit) × (Unit × Unit × Unit)) := fun x => match x with
 | (a, b_, i, ()) =>
  br k (decide (i < (a.length : Int)))
  (br k (decide (0 ≤ i))
  (bd k (a[i.toNat]?) fun x1 =>
  br k (decide (0 ≤ i))
  (bd k (a[i.toNat]?) fun x2 =>
  br k (decide (0 ≤ i))
  (bd k (b_[i.toNat]?) fun x3 =>
  br k (decide (0 ≤ i))
  (bd k (b_[i.toNat]?) fun x4 =>
  br k (decide ((IntKind.wrap .i64 ((IntKind.wrap .i64 (10 * x1.1)) + x2.2.1)) < (IntKind.wrap .i64 ((IntKind.wrap .i64 (10 * x3.1)) + x4.2.1))))
  (some (((-1), ()), ((), (), ())))
  (br k (decide ((IntKind.wrap .i64 ((IntKind.wrap .i64 (10 * x1.1)) + x2.2.1)) > (IntKind.wrap .i64 ((IntKind.wrap .i64 (10 * x3.1)) + x4.2.1))))
  (some ((1, ()), ((), (), ())))
  (G0 (a, b_, IntKind.wrap .i64 (i + 1), ()))))
  none)
  none)
  none)
  none)
  (some ((0, ()), ((), (), ())))
noncomputable def spec_l9Cmp (k : Nat) : ((List (Int × Int × Unit)) × (List (Int × Int × Unit)) × Unit) → Option ((Int × Unit) × (Unit × Unit × Unit)) := fun x => match x with
 | (a, b_, ()) =>
  br k ((a.length : Int) != (b_.length : Int))
  (br k (decide ((a.length : Int) < (b_.length : Int)))
  (some (((-1), ()), ((), (), ())))
  (some ((1, ()), ((), (), ()))))
  (iter (spec_l9Cmp.l0 k) k (a, b_, 0, ()))
noncomputable def spec_l9Cmp.sg (k : Nat) : Sig := ⟨spec_l9Cmp.A, spec_l9Cmp.R, spec_l9Cmp k⟩
noncomputable def spec_l9Cmp.C (k : Nat) : Ctx := ⟨Tryz.prog, [], k⟩
theorem spec_l9Cmp.ev (k : Nat) (x : spec_l9Cmp.A.T) : evFunc (spec_l9Cmp.C k) spec_l9Cmp.ann Tryz.f56 spec_l9Cmp.A spec_l9Cmp.R x = spec_l9Cmp k x := by kernel_rfl
theorem spec_l9Cmp.ok {L : List (Nat × Obj)}  (k : Nat) : SigHolds Tryz.prog L 56 (spec_l9Cmp.sg k) :=
  sig_of_ev (C := spec_l9Cmp.C k) holds_nil (by kernel_rfl) Tryz.func56 (by kernel_rfl) spec_l9Cmp.ann spec_l9Cmp.A spec_l9Cmp.R (fun x y h => (spec_l9Cmp.ev k x).trans h) (by kernel_rfl)

/-! loop.example/g00719/spec.l9Live -/
def spec_l9Live.A : Sh := (.cons (.pur (.sl false (.cons .bool (.cons (.sl false (.cons (.int .i64) (.cons (.int .i64) .nil))) (.cons (.sl false (.cons (.int .i64) (.cons (.int .i64) .nil))) .nil))))) .nil)
def spec_l9Live.R : Sh := (.cons (.pur .bool) .nil)
def spec_l9Live.ann : Ann := { loops := [(0, [(0, (.pur (.sl false (.cons .bool (.cons (.sl false (.cons (.int .i64) (.cons (.int .i64) .nil))) (.cons (.sl false (.cons (.int .i64) (.cons (.int .i64) .nil))) .nil)))))), (3, (.pur (.int .i64)))])], joins := [], keys := [] }
noncomputable def spec_l9Live.l0 (k : Nat)  (G0 : ((List (Bool × (List (Int × Int × Unit)) × (List (Int × Int × Unit)) × Unit)) × Int × Unit) → Option ((Bool × Unit) × (Unit × Unit))) : ((List (Bool × (List (Int × Int × Unit)) × (List (Int × Int × Unit)) × Unit)) × Int × Unit) → Option ((Bool × Unit) × (Unit × Unit)) := fun x => match x with
 | (t, i, ()) =>
  br k (decide (i < (t.length : Int)))
  (br k (decide (0 ≤ i))
  (bd k (t[i.toNat]?) fun x1 =>
  br k (x1.1)
  (some ((true, ()), ((), ())))
  (G0 (t, IntKind.wrap .i64 (i + 1), ())))
  none)
  (some ((false, ()), ((), ())))
noncomputable def spec_l9Live (k : Nat) : ((List (Bool × (List (Int × Int × Unit)) × (List (Int × Int × Unit)) × Unit)) × Unit) → Option ((Bool × Unit) × (Unit × Unit)) := fun x => match x with
 | (t, ()) =>
  iter (spec_l9Live.l0 k) k (t, 0, ())
noncomputable def spec_l9Live.sg (k : Nat) : Sig := ⟨spec_l9Live.A, spec_l9Live.R, spec_l9Live k⟩
noncomputable def spec_l9Live.C (k : Nat) : Ctx := ⟨Tryz.prog, [], k⟩
theorem spec_l9Live.ev (k : Nat) (x : spec_l9Live.A.T) : evFunc (spec_l9Live.C k) spec_l9Live.ann Tryz.f58 spec_l9Live.A spec_l9Live.R x = spec_l9Live k x := by kernel_rfl
theorem spec_l9Live.ok {L : List (Nat × Obj)}  (k : Nat) : SigHolds Tryz.prog L 58 (spec_l9Live.sg k) :=
  sig_of_ev (C := spec_l9Live.C k) holds_nil (by kernel_rfl) Tryz.func58 (by kernel_rfl) spec_l9Live.ann spec_l9Live.A spec_l9Live.R (fun x y h => (spec_l9Live.ev k x).trans h) (by kernel_rfl)

/-! loop.example/g00719/spec.PartsOk -/
def spec_PartsOk.A : Sh := (.cons (.pur (.cons (.sl false .str) (.cons (.sl false .str) (.cons (.sl false (.cons .str (.cons (.int .i64) .nil))) .nil)))) (.cons (.pur (.sl false (.cons (.sl false (.cons (.int .i64) (.cons (.int .i64) .nil))) (.cons (.sl false (.cons .bool (.cons (.sl false (.cons (.int .i64) (.cons (.int .i64) .nil))) (.cons (.sl false (.cons (.int .i64) (.cons (.int .i64) .nil))) .nil)))) .nil)))) .nil))
def spec_PartsOk.R : Sh := (.cons (.pur .bool) .nil)
def spec_PartsOk.ann : Ann := { loops := [(0, [(1, (.pur (.sl false (.cons (.sl false (.cons (.int .i64) (.cons (.int .i64) .nil))) (.cons (.sl false (.cons .bool (.cons (.sl false (.cons (.int .i64) (.cons (.int .i64) .nil))) (.cons (.sl false (.cons (.int .i64) (.cons (.int .i64) .nil))) .nil)))) .nil))))), (2, (.box (.cons (.pur (.sl false .str)) (.cons (.pur (.sl false .str)) (.cons (.pur (.sl false (.cons .str (.cons (.int .i64) .nil)))) .nil))))), (5, (.pur (.int .i64)))])], joins := [(1, [(13, .bool)]), (6, [(64, .bool)])], keys := [] }
noncomputable def spec_PartsOk.l0 (k : Nat)  (G0 : ((List ((List (Int × Int × Unit)) × (List (Bool × (List (Int × Int × Unit)) × (List (Int × Int × Unit)) × Unit)) × Unit)) × ((List (List UInt8)) × (List (List UInt8)) × (List ((List UInt8) × Int × Unit)) × Unit) × Int × Unit) → Option ((Bool × Unit) × (Unit × Unit × Unit))) : ((List ((List (Int × Int × Unit)) × (List (Bool × (List (Int × Int × Unit)) × (List (Int × Int × Unit)) × Unit)) × Unit)) × ((List (List UInt8)) × (List (List UInt8)) × (List ((List UInt8) × Int × Unit)) × Unit) × Int × Unit) → Option ((Bool × Unit) × (Unit × Unit × Unit)) := fun x => match x with
 | (l_, (d__0, d__1, d__2, ()), i, ()) =>
  br k (decide (i < (l_.length : Int)))
  ((br k (decide (0 ≤ i))
  (bd k (l_[i.toNat]?) fun x3 =>
  bd k (spec_TokenOk k (x3.1, ())) fun y4 =>
  br k (!y4.1.1)
  (some (true, ()))
  (br k (decide (i > 0))
  (br k (decide (0 ≤ (IntKind.wrap .i64 (i - 1))))
  (bd k (l_[(IntKind.wrap .i64 (i - 1)).toNat]?) fun x5 =>
  br k (decide (0 ≤ i))
  (bd k (l_[i.toNat]?) fun x6 =>
  bd k (spec_l9Cmp k (x5.1, x6.1, ())) fun y7 =>
  br k (decide (y7.1.1 ≥ 0))
  (some (true, ()))
  (br k (decide (0 ≤ i))
  (bd k (l_[i.toNat]?) fun x8 =>
  bd k (spec_TableOk k ((d__0, d__1, d__2, ()), x8.2.1, ())) fun y9 =>
  br k (!y9.1.1)
  (some (true, ()))
  (br k (decide (0 ≤ i))
  (bd k (l_[i.toNat]?) fun x10 =>
  bd k (spec_l9Live k (x10.2.1, ())) fun y11 =>
  some (!y11.1.1, ()))
  none))
  none))
  none)
  none)
  (br k (decide (0 ≤ i))
  (bd k (l_[i.toNat]?) fun x12 =>
  bd k (spec_TableOk k ((d__0, d__1, d__2, ()), x12.2.1, ())) fun y13 =>
  br k (!y13.1.1)
  (some (true, ()))
  (br k (decide (0 ≤ i))
  (bd k (l_[i.toNat]?) fun x14 =>
  bd k (spec_l9Live k (x14.2.1, ())) fun y15 =>
  some (!y15.1.1, ()))
  none))
  none)))
  none : Option (Bool × Unit)).bind fun j16 =>
  br k (j16.1)
  (some ((false, ()), ((), (), ())))
  (G0 (l_, (d__0, d__1, d__2, ()), IntKind.wrap .i64 (i + 1), ())))
  (some ((true, ()), ((), (), ())))
noncomputable def spec_PartsOk (k : Nat) : (((List (List UInt8)) × (List (List UInt8)) × (List ((List UInt8) × Int × Unit)) × Unit) × (List ((List (Int × Int × Unit)) × (List (Bool × (List (Int × Int × Unit)) × (List (Int × Int × Unit)) × Unit)) × Unit)) × Unit) → Option ((Bool × Unit) × (Unit × Unit × Unit)) := fun x => match x with
 | (d_, l_, ()) =>
  (bd k (spec_DeclOk k (d_, ())) fun y1 =>
  br k (!y1.1.1)
  (some (true, ()))
  (some (decide ((l_.length : Int) > 100), ())) : Option (Bool × Unit)).bind fun j2 =>
  br k (j2.1)
  (some ((false, ()), ((), (), ())))
  (iter (spec_PartsOk.l0 k) k (l_, (d_.1, d_.2.1, d_.2.2.1, ()), 0, ()))
noncomputable def spec_PartsOk.sg (k : Nat) : Sig := ⟨spec_PartsOk.A, spec_PartsOk.R, spec_PartsOk k⟩
noncomputable def spec_PartsOk.C (k : Nat) : Ctx := ⟨Tryz.prog, [(54, [spec_DeclOk.sg k]), (55, [spec_TokenOk.sg k]), (56, [spec_l9Cmp.sg k]), (57, [spec_TableOk.sg k]), (58, [spec_l9Live.sg k])], k⟩
theorem spec_PartsOk.ev (k : Nat) (x : spec_PartsOk.A.T) : evFunc (spec_PartsOk.C k) spec_PartsOk.ann Tryz.f32 spec_PartsOk.A spec_PartsOk.R x = spec_PartsOk k x := by kernel_rfl
theorem spec_PartsOk.ok {L : List (Nat × Obj)}  (k : Nat) : SigHolds Tryz.prog L 32 (spec_PartsOk.sg k) :=
  sig_of_ev (C := spec_PartsOk.C k) (holds_cons (allok_cons (spec_DeclOk.ok k) allok_nil) (holds_cons (allok_cons (spec_TokenOk.ok k) allok_nil) (holds_cons (allok_cons (spec_l9Cmp.ok k) allok_nil) (holds_cons (allok_cons (spec_TableOk.ok k) allok_nil) (holds_cons (allok_cons (spec_l9Live.ok k) allok_nil) holds_nil))))) (by kernel_rfl) Tryz.func32 (by kernel_rfl) spec_PartsOk.ann spec_PartsOk.A spec_PartsOk.R (fun x y h => (spec_PartsOk.ev k x).trans h) (by kernel_rfl)

/-! loop.example/g00719/spec.TokenText -/
def spec_TokenText.A : Sh := (.cons (.pur (.sl false (.cons (.int .i64) (.cons (.int .i64) .nil)))) .nil)
def spec_TokenText.R : Sh := (.cons (.pur .str) .nil)
def spec_TokenText.ann : Ann := { loops := [(0, [(0, (.pur (.sl false (.cons (.int .i64) (.cons (.int .i64) .nil))))), (3, (.pur .str)), (4, (.pur (.int .i64)))])], joins := [], keys := [] }
noncomputable def spec_TokenText.l0 (k : Nat)  (G0 : ((List (Int × Int × Unit)) × (List UInt8) × Int × Unit) → Option (((List UInt8) × Unit) × (Unit × Unit))) : ((List (Int × Int × Unit)) × (List UInt8) × Int × Unit) → Option (((List UInt8) × Unit) × (Unit × Unit)) := fun x => match x with
 | (t, s_, i, ()) =>
  br k (decide (i < (t.length : Int)))
  (br k (decide (0 ≤ i))
  (bd k (t[i.toNat]?) fun x2 =>
  bd k (spec_l1Dec k (x2.1, ())) fun y3 =>
  br k (decide (((y3.1.1.length + ([58] : List UInt8).length : Nat) : Int) ≤ maxInt64))
  (br k (decide (0 ≤ i))
  (bd k (t[i.toNat]?) fun x4 =>
  bd k (spec_l1Dec k (x4.2.1, ())) fun y5 =>
  br k (decide ((((y3.1.1 ++ [58]).length + y5.1.1.length : Nat) : Int) ≤ maxInt64))
  (br k (i == 0)
  (G0 (t, (y3.1.1 ++ [58]) ++ y5.1.1, IntKind.wrap .i64 (i + 1), ()))
  (br k (decide (((s_.length + ([32] : List UInt8).length : Nat) : Int) ≤ maxInt64))
  (br k (decide ((((s_ ++ [32]).length + ((y3.1.1 ++ [58]) ++ y5.1.1).length : Nat) : Int) ≤ maxInt64))
  (G0 (t, (s_ ++ [32]) ++ ((y3.1.1 ++ [58]) ++ y5.1.1), IntKind.wrap .i64 (i + 1), ()))
  none)
  none))
  none)
  none)
  none)
  none)
  (some ((s_, ()), ((), ())))
noncomputable def spec_TokenText (k : Nat) : ((List (Int × Int × Unit)) × Unit) → Option (((List UInt8) × Unit) × (Unit × Unit)) := fun x => match x with
 | (t, ()) =>
  bd k (spec_TokenOk k (t, ())) fun y1 =>
  br k (!y1.1.1)
  (some (([], ()), ((), ())))
  (iter (spec_TokenText.l0 k) k (t, [45], 0, ()))
noncomputable def spec_TokenText.sg (k : Nat) : Sig := ⟨spec_TokenText.A, spec_TokenText.R, spec_TokenText k⟩
noncomputable def spec_TokenText.C (k : Nat) : Ctx := ⟨Tryz.prog, [(55, [spec_TokenOk.sg k]), (91, [spec_l1Dec.sg k])], k⟩
theorem spec_TokenText.ev (k : Nat) (x : spec_TokenText.A.T) : evFunc (spec_TokenText.C k) spec_TokenText.ann Tryz.f59 spec_TokenText.A spec_TokenText.R x = spec_TokenText k x := by kernel_rfl
theorem spec_TokenText.ok {L : List (Nat × Obj)}  (k : Nat) : SigHolds Tryz.prog L 59 (spec_TokenText.sg k) :=
  sig_of_ev (C := spec_TokenText.C k) (holds_cons (allok_cons (spec_TokenOk.ok k) allok_nil) (holds_cons (allok_cons (spec_l1Dec.ok k) allok_nil) holds_nil)) (by kernel_rfl) Tryz.func59 (by kernel_rfl) spec_TokenText.ann spec_TokenText.A spec_TokenText.R (fun x y h => (spec_TokenText.ev k x).trans h) (by kernel_rfl)

/-! loop.example/g00719/spec.l13Row -/
def spec_l13Row.A : Sh := (.cons (.pur (.cons (.sl false .str) (.cons (.sl false .str) (.cons (.sl false (.cons .str (.cons (.int .i64) .nil))) .nil)))) (.cons (.pur (.sl false (.cons (.sl false (.cons (.int .i64) (.cons (.int .i64) .nil))) (.cons (.sl false (.cons .bool (.cons (.sl false (.cons (.int .i64) (.cons (.int .i64) .nil))) (.cons (.sl false (.cons (.int .i64) (.cons (.int .i64) .nil))) .nil)))) .nil)))) .nil))
def spec_l13Row.R : Sh := (.cons (.pur .str) .nil)
def spec_l13Row.ann : Ann := { loops := [(0, [(1, (.pur (.sl false (.cons (.sl false (.cons (.int .i64) (.cons (.int .i64) .nil))) (.cons (.sl false (.cons .bool (.cons (.sl false (.cons (.int .i64) (.cons (.int .i64) .nil))) (.cons (.sl false (.cons (.int .i64) (.cons (.int .i64) .nil))) .nil)))) .nil))))), (2, (.box (.cons (.pur (.sl false .str)) (.cons (.pur (.sl false .str)) (.cons (.pur (.sl false (.cons .str (.cons (.int .i64) .nil)))) .nil))))), (5, (.own .str)), (6, (.pur (.int .i64)))])], joins := [], keys := [(5, [([], false), ([], false), ([], false), ([], false), ([], false), ([], false), ([], false), ([], false), ([2], false), ([2], false), ([], false), ([], false), ([], false), ([], false), ([], false), ([29], true), ([29], false), ([], false), ([32], true), ([5, 32, 33], true), ([], false)])] }
noncomputable def spec_l13Row.l0 (k : Nat)  (G0 : ((List ((List (Int × Int × Unit)) × (List (Bool × (List (Int × Int × Unit)) × (List (Int × Int × Unit)) × Unit)) × Unit)) × ((List (List UInt8)) × (List (List UInt8)) × (List ((List UInt8) × Int × Unit)) × Unit) × (List (List UInt8)) × Int × Unit) → Option (((List UInt8) × Unit) × (Unit × Unit × Unit))) : ((List ((List (Int × Int × Unit)) × (List (Bool × (List (Int × Int × Unit)) × (List (Int × Int × Unit)) × Unit)) × Unit)) × ((List (List UInt8)) × (List (List UInt8)) × (List ((List UInt8) × Int × Unit)) × Unit) × (List (List UInt8)) × Int × Unit) → Option (((List UInt8) × Unit) × (Unit × Unit × Unit)) := fun x => match x with
 | (l_, (d__0, d__1, d__2, ()), out_, i, ()) =>
  br k (decide (i < (l_.length : Int)))
  (br k (decide (0 ≤ i))
  (bd k (l_[i.toNat]?) fun x1 =>
  bd k (spec_TokenText k (x1.1, ())) fun y2 =>
  br k (decide (((y2.1.1.length + ([32] : List UInt8).length : Nat) : Int) ≤ maxInt64))
  (br k (decide (0 ≤ i))
  (bd k (l_[i.toNat]?) fun x3 =>
  bd k (spec_TreeOf k ((d__0, d__1, d__2, ()), x3.2.1, ())) fun y4 =>
  bd k (spec_TreeText k ((d__0, d__1, d__2, ()), (y4.1.1.1, ()), ())) fun y5 =>
  br k (decide ((((y2.1.1 ++ [32]).length + y5.1.1.length : Nat) : Int) ≤ maxInt64))
  (br k (decide ((out_.length + ([(y2.1.1 ++ [32]) ++ y5.1.1] : List (List UInt8)).length) * 16 ≤ maxBytes))
  (G0 (l_, (d__0, d__1, d__2, ()), out_ ++ ([(y2.1.1 ++ [32]) ++ y5.1.1] : List (List UInt8)), IntKind.wrap .i64 (i + 1), ()))
  none)
  none)
  none)
  none)
  none)
  (br k ((out_.length : Int) == 0)
  (some (([110, 111, 110, 101], ()), ((), (), ())))
  (bd k (spec_l13Joined k (out_, [32, 47, 32], ())) fun y6 =>
  some ((y6.1.1, ()), ((), (), ()))))
noncomputable def spec_l13Row (k : Nat) : (((List (List UInt8)) × (List (List UInt8)) × (List ((List UInt8) × Int × Unit)) × Unit) × (List ((List (Int × Int × Unit)) × (List (Bool × (List (Int × Int × Unit)) × (List (Int × Int × Unit)) × Unit)) × Unit)) × Unit) → Option (((List UInt8) × Unit) × (Unit × Unit × Unit)) := fun x => match x with
 | (d_, l_, ()) =>
  iter (spec_l13Row.l0 k) k (l_, (d_.1, d_.2.1, d_.2.2.1, ()), ([] : List (List UInt8)), 0, ())
noncomputable def spec_l13Row.sg (k : Nat) : Sig := ⟨spec_l13Row.A, spec_l13Row.R, spec_l13Row k⟩
noncomputable def spec_l13Row.C (k : Nat) : Ctx := ⟨Tryz.prog, [(59, [spec_TokenText.sg k]), (60, [spec_TreeOf.sg k]), (7, [spec_TreeText.sg k]), (61, [spec_l13Joined.sg k])], k⟩
theorem spec_l13Row.ev (k : Nat) (x : spec_l13Row.A.T) : evFunc (spec_l13Row.C k) spec_l13Row.ann Tryz.f33 spec_l13Row.A spec_l13Row.R x = spec_l13Row k x := by kernel_rfl
theorem spec_l13Row.ok {L : List (Nat × Obj)}  (k : Nat) : SigHolds Tryz.prog L 33 (spec_l13Row.sg k) :=
  sig_of_ev (C := spec_l13Row.C k) (holds_cons (allok_cons (spec_TokenText.ok k) allok_nil) (holds_cons (allok_cons (spec_TreeOf.ok k) allok_nil) (holds_cons (allok_cons (spec_TreeText.ok k) allok_nil) (holds_cons (allok_cons (spec_l13Joined.ok k) allok_nil) holds_nil)))) (by kernel_rfl) Tryz.func33 (by kernel_rfl) spec_l13Row.ann spec_l13Row.A spec_l13Row.R (fun x y h => (spec_l13Row.ev k x).trans h) (by kernel_rfl)

/-! loop.example/g00719/spec.RowText -/
def spec_RowText.A : Sh := (.cons (.pur (.cons (.sl false .str) (.cons (.sl false .str) (.cons (.sl false (.cons .str (.cons (.int .i64) .nil))) .nil)))) (.cons (.pur (.sl false (.cons (.sl false (.cons (.int .i64) (.cons (.int .i64) .nil))) (.cons (.sl false (.cons .bool (.cons (.sl false (.cons (.int .i64) (.cons (.int .i64) .nil))) (.cons (.sl false (.cons (.int .i64) (.cons (.int .i64) .nil))) .nil)))) .nil)))) .nil))
def spec_RowText.R : Sh := (.cons (.pur .str) .nil)
def spec_RowText.ann : Ann := { loops := [], joins := [], keys := [] }
noncomputable def spec_RowText (k : Nat) : (((List (List UInt8)) × (List (List UInt8)) × (List ((List UInt8) × Int × Unit)) × Unit) × (List ((List (Int × Int × Unit)) × (List (Bool × (List (Int × Int × Unit)) × (List (Int × Int × Unit)) × Unit)) × Unit)) × Unit) → Option (((List UInt8) × Unit) × (Unit × Unit × Unit)) := fun x => match x with
 | (d_, l_, ()) =>
  bd k (spec_PartsOk k (d_, l_, ())) fun y1 =>
  br k (!y1.1.1)
  (some (([], ()), ((), (), ())))
  (bd k (spec_l13Row k (d_, l_, ())) fun y2 =>
  some ((y2.1.1, ()), ((), (), ())))
noncomputable def spec_RowText.sg (k : Nat) : Sig := ⟨spec_RowText.A, spec_RowText.R, spec_RowText k⟩
noncomputable def spec_RowText.C (k : Nat) : Ctx := ⟨Tryz.prog, [(32, [spec_PartsOk.sg k]), (33, [spec_l13Row.sg k])], k⟩
theorem spec_RowText.ev (k : Nat) (x : spec_RowText.A.T) : evFunc (spec_RowText.C k) spec_RowText.ann Tryz.f14 spec_RowText.A spec_RowText.R x = spec_RowText k x := by kernel_rfl
theorem spec_RowText.ok {L : List (Nat × Obj)}  (k : Nat) : SigHolds Tryz.prog L 14 (spec_RowText.sg k) :=
  sig_of_ev (C := spec_RowText.C k) (holds_cons (allok_cons (spec_PartsOk.ok k) allok_nil) (holds_cons (allok_cons (spec_l13Row.ok k) allok_nil) holds_nil)) (by kernel_rfl) Tryz.func14 (by kernel_rfl) spec_RowText.ann spec_RowText.A spec_RowText.R (fun x y h => (spec_RowText.ev k x).trans h) (by kernel_rfl)

/-! cmp.isNaN[int] -/
def cmp_isNaN_int.A : Sh := (.cons (.pur (.int .i64)) .nil)
def cmp_isNaN_int.R : Sh := (.cons (.pur .bool) .nil)
def cmp_isNaN_int.ann : Ann := { loops := [], joins := [], keys := [] }
noncomputable def cmp_isNaN_int (k : Nat) : (Int × Unit) → Option ((Bool × Unit) × (Unit × Unit)) := fun x => match x with
 | (x_, ()) =>
  some ((x_ != x_, ()), ((), ()))
noncomputable def cmp_isNaN_int.sg (k : Nat) : Sig := ⟨cmp_isNaN_int.A, cmp_isNaN_int.R, cmp_isNaN_int k⟩
noncomputable def cmp_isNaN_int.C (k : Nat) : Ctx := ⟨Tryz.prog, [], k⟩
theorem cmp_isNaN_int.ev (k : Nat) (x : cmp_isNaN_int.A.T) : evFunc (cmp_isNaN_int.C k) cmp_isNaN_int.ann Tryz.f153 cmp_isNaN_int.A cmp_isNaN_int.R x = cmp_isNaN_int k x := by kernel_rfl
theorem cmp_isNaN_int.ok {L : List (Nat × Obj)}  (k : Nat) : SigHolds Tryz.prog L 153 (cmp_isNaN_int.sg k) :=
  sig_of_ev (C := cmp_isNaN_int.C k) holds_nil (by kernel_rfl) Tryz.func153 (by kernel_rfl) cmp_isNaN_int.ann cmp_isNaN_int.A cmp_isNaN_int.R (fun x y h => (cmp_isNaN_int.ev k x).trans h) (by kernel_rfl)

/-! cmp.Compare[int] -/
def cmp_Compare_int.A : Sh := (.cons (.pur (.int .i64)) (.cons (.pur (.int .i64)) .nil))
def cmp_Compare_int.R : Sh := (.cons (.pur (.int .i64)) .nil)
def cmp_Compare_int.ann : Ann := { loops := [], joins := [], keys := [] }
noncomputable def cmp_Compare_int (k : Nat) : (Int × Int × Unit) → Option ((Int × Unit) × (Unit × Unit × Unit)) := fun x => match x with
 | (x_, y_, ()) =>
  bd k (cmp_isNaN_int k (x_, ())) fun y1 =>
  bd k (cmp_isNaN_int k (y_, ())) fun y2 =>
  br k (y1.1.1)
  (br k (y2.1.1)
  (some ((0, ()), ((), (), ())))
  (some (((-1), ()), ((), (), ()))))
  (br k (y2.1.1)
  (some ((1, ()), ((), (), ())))
  (br k (decide (x_ < y_))
  (some (((-1), ()), ((), (), ())))
  (br k (decide (x_ > y_))
  (some ((1, ()), ((), (), ())))
  (some ((0, ()), ((), (), ()))))))
noncomputable def cmp_Compare_int.sg (k : Nat) : Sig := ⟨cmp_Compare_int.A, cmp_Compare_int.R, cmp_Compare_int k⟩
noncomputable def cmp_Compare_int.C (k : Nat) : Ctx := ⟨Tryz.prog, [(153, [cmp_isNaN_int.sg k])], k⟩
theorem cmp_Compare_int.ev (k : Nat) (x : cmp_Compare_int.A.T) : evFunc (cmp_Compare_int.C k) cmp_Compare_int.ann Tryz.f130 cmp_Compare_int.A cmp_Compare_int.R x = cmp_Compare_int k x := by kernel_rfl
theorem cmp_Compare_int.ok {L : List (Nat × Obj)}  (k : Nat) : SigHolds Tryz.prog L 130 (cmp_Compare_int.sg k) :=
  sig_of_ev (C := cmp_Compare_int.C k) (holds_cons (allok_cons (cmp_isNaN_int.ok k) allok_nil) holds_nil) (by kernel_rfl) Tryz.func130 (by kernel_rfl) cmp_Compare_int.ann cmp_Compare_int.A cmp_Compare_int.R (fun x y h => (cmp_Compare_int.ev k x).trans h) (by kernel_rfl)

/-! cmp.isNaN[int64] -/
def cmp_isNaN_int64.A : Sh := (.cons (.pur (.int .i64)) .nil)
def cmp_isNaN_int64.R : Sh := (.cons (.pur .bool) .nil)
def cmp_isNaN_int64.ann : Ann := { loops := [], joins := [], keys := [] }
noncomputable def cmp_isNaN_int64 (k : Nat) : (Int × Unit) → Option ((Bool × Unit) × (Unit × Unit)) := fun x => match x with
 | (x_, ()) =>
  some ((x_ != x_, ()), ((), ()))
noncomputable def cmp_isNaN_int64.sg (k : Nat) : Sig := ⟨cmp_isNaN_int64.A, cmp_isNaN_int64.R, cmp_isNaN_int64 k⟩
noncomputable def cmp_isNaN_int64.C (k : Nat) : Ctx := ⟨Tryz.prog, [], k⟩
theorem cmp_isNaN_int64.ev (k : Nat) (x : cmp_isNaN_int64.A.T) : evFunc (cmp_isNaN_int64.C k) cmp_isNaN_int64.ann Tryz.f154 cmp_isNaN_int64.A cmp_isNaN_int64.R x = cmp_isNaN_int64 k x := by kernel_rfl
theorem cmp_isNaN_int64.ok {L : List (Nat × Obj)}  (k : Nat) : SigHolds Tryz.prog L 154 (cmp_isNaN_int64.sg k) :=
  sig_of_ev (C := cmp_isNaN_int64.C k) holds_nil (by kernel_rfl) Tryz.func154 (by kernel_rfl) cmp_isNaN_int64.ann cmp_isNaN_int64.A cmp_isNaN_int64.R (fun x y h => (cmp_isNaN_int64.ev k x).trans h) (by kernel_rfl)

/-! cmp.Compare[int64] -/
def cmp_Compare_int64.A : Sh := (.cons (.pur (.int .i64)) (.cons (.pur (.int .i64)) .nil))
def cmp_Compare_int64.R : Sh := (.cons (.pur (.int .i64)) .nil)
def cmp_Compare_int64.ann : Ann := { loops := [], joins := [], keys := [] }
noncomputable def cmp_Compare_int64 (k : Nat) : (Int × Int × Unit) → Option ((Int × Unit) × (Unit × Unit × Unit)) := fun x => match x with
 | (x_, y_, ()) =>
  bd k (cmp_isNaN_int64 k (x_, ())) fun y1 =>
  bd k (cmp_isNaN_int64 k (y_, ())) fun y2 =>
  br k (y1.1.1)
  (br k (y2.1.1)
  (some ((0, ()), ((), (), ())))
  (some (((-1), ()), ((), (), ()))))
  (br k (y2.1.1)
  (some ((1, ()), ((), (), ())))
  (br k (decide (x_ < y_))
  (some (((-1), ()), ((), (), ())))
  (br k (decide (x_ > y_))
  (some ((1, ()), ((), (), ())))
  (some ((0, ()), ((), (), ()))))))
noncomputable def cmp_Compare_int64.sg (k : Nat) : Sig := ⟨cmp_Compare_int64.A, cmp_Compare_int64.R, cmp_Compare_int64 k⟩
noncomputable def cmp_Compare_int64.C (k : Nat) : Ctx := ⟨Tryz.prog, [(154, [cmp_isNaN_int64.sg k])], k⟩
theorem cmp_Compare_int64.ev (k : Nat) (x : cmp_Compare_int64.A.T) : evFunc (cmp_Compare_int64.C k) cmp_Compare_int64.ann Tryz.f133 cmp_Compare_int64.A cmp_Compare_int64.R x = cmp_Compare_int64 k x := by kernel_rfl
theorem cmp_Compare_int64.ok {L : List (Nat × Obj)}  (k : Nat) : SigHolds Tryz.prog L 133 (cmp_Compare_int64.sg k) :=
  sig_of_ev (C := cmp_Compare_int64.C k) (holds_cons (allok_cons (cmp_isNaN_int64.ok k) allok_nil) holds_nil) (by kernel_rfl) Tryz.func133 (by kernel_rfl) cmp_Compare_int64.ann cmp_Compare_int64.A cmp_Compare_int64.R (fun x y h => (cmp_Compare_int64.ev k x).trans h) (by kernel_rfl)

/-! cmp.Or[int] -/
def cmp_Or_int.A : Sh := (.cons (.pur (.sl false (.int .i64))) .nil)
def cmp_Or_int.R : Sh := (.cons (.pur (.int .i64)) .nil)
def cmp_Or_int.ann : Ann := { loops := [(0, [(3, (.pur (.int .i64))), (6, (.pur (.sl false (.int .i64)))), (7, (.pur (.int .i64))), (8, (.pur (.int .i64)))])], joins := [], keys := [] }
noncomputable def cmp_Or_int.l0 (k : Nat)  (G0 : (Int × (List Int) × Int × Int × Unit) → Option ((Int × Unit) × (Unit × Unit))) : (Int × (List Int) × Int × Int × Unit) → Option ((Int × Unit) × (Unit × Unit)) := fun x => match x with
 | (zero, t6, t7, t8, ()) =>
  br k (decide (t8 < t7))
  (br k (decide (0 ≤ t8))
  (bd k (t6[t8.toNat]?) fun x1 =>
  br k (x1 != zero)
  (some ((x1, ()), ((), ())))
  (G0 (zero, t6, t7, IntKind.wrap .i64 (t8 + 1), ())))
  none)
  (some ((zero, ()), ((), ())))
noncomputable def cmp_Or_int (k : Nat) : ((List Int) × Unit) → Option ((Int × Unit) × (Unit × Unit)) := fun x => match x with
 | (vals, ()) =>
  iter (cmp_Or_int.l0 k) k (0, vals, (vals.length : Int), 0, ())
noncomputable def cmp_Or_int.sg (k : Nat) : Sig := ⟨cmp_Or_int.A, cmp_Or_int.R, cmp_Or_int k⟩
noncomputable def cmp_Or_int.C (k : Nat) : Ctx := ⟨Tryz.prog, [], k⟩
theorem cmp_Or_int.ev (k : Nat) (x : cmp_Or_int.A.T) : evFunc (cmp_Or_int.C k) cmp_Or_int.ann Tryz.f129 cmp_Or_int.A cmp_Or_int.R x = cmp_Or_int k x := by kernel_rfl
theorem cmp_Or_int.ok {L : List (Nat × Obj)}  (k : Nat) : SigHolds Tryz.prog L 129 (cmp_Or_int.sg k) :=
  sig_of_ev (C := cmp_Or_int.C k) holds_nil (by kernel_rfl) Tryz.func129 (by kernel_rfl) cmp_Or_int.ann cmp_Or_int.A cmp_Or_int.R (fun x y h => (cmp_Or_int.ev k x).trans h) (by kernel_rfl)

/-! loop.example/g00719/impl.compareTokens$1 -/
def impl_compareTokens_1.A : Sh := (.cons (.pur (.cons (.int .i64) (.cons (.int .i64) .nil))) (.cons (.pur (.cons (.int .i64) (.cons (.int .i64) .nil))) .nil))
def impl_compareTokens_1.R : Sh := (.cons (.pur (.int .i64)) .nil)
def impl_compareTokens_1.ann : Ann := { loops := [], joins := [], keys := [(1, [([2], false), ([2], false), ([3], false), ([3], false), ([], false), ([2], false), ([2], false), ([3], false), ([3], false), ([], false), ([15], true), ([15], false), ([], false)])] }
noncomputable def impl_compareTokens_1 (k : Nat) : ((Int × Int × Unit) × (Int × Int × Unit) × Unit) → Option ((Int × Unit) × (Unit × Unit × Unit)) := fun x => match x with
 | (x_, y_, ()) =>
  bd k (cmp_Compare_int64 k (x_.1, y_.1, ())) fun y1 =>
  bd k (cmp_Compare_int64 k (x_.2.1, y_.2.1, ())) fun y2 =>
  bd k (cmp_Or_int k (([y1.1.1, y2.1.1] : List Int), ())) fun y3 =>
  some ((y3.1.1, ()), ((), (), ()))
noncomputable def impl_compareTokens_1.sg (k : Nat) : Sig := ⟨impl_compareTokens_1.A, impl_compareTokens_1.R, impl_compareTokens_1 k⟩
noncomputable def impl_compareTokens_1.C (k : Nat) : Ctx := ⟨Tryz.prog, [(133, [cmp_Compare_int64.sg k]), (129, [cmp_Or_int.sg k])], k⟩
theorem impl_compareTokens_1.ev (k : Nat) (x : impl_compareTokens_1.A.T) : evFunc (impl_compareTokens_1.C k) impl_compareTokens_1.ann Tryz.f132 impl_compareTokens_1.A impl_compareTokens_1.R x = impl_compareTokens_1 k x := by kernel_rfl
theorem impl_compareTokens_1.ok {L : List (Nat × Obj)}  (k : Nat) : SigHolds Tryz.prog L 132 (impl_compareTokens_1.sg k) :=
  sig_of_ev (C := impl_compareTokens_1.C k) (holds_cons (allok_cons (cmp_Compare_int64.ok k) allok_nil) (holds_cons (allok_cons (cmp_Or_int.ok k) allok_nil) holds_nil)) (by kernel_rfl) Tryz.func132 (by kernel_rfl) impl_compareTokens_1.ann impl_compareTokens_1.A impl_compareTokens_1.R (fun x y h => (impl_compareTokens_1.ev k x).trans h) (by kernel_rfl)

/-! slices.CompareFunc[[]loop.example/g00719/impl.Entry,[]loop.example/g00719/impl.Entry,loop.example/g00719/impl.Entry,loop.example/g00719/impl.Entry] -/
def slices_CompareFunc_impl_Entry_impl_Entry_impl_Entry_impl_Entry.A : Sh := (.cons (.pur (.sl false (.cons (.int .i64) (.cons (.int .i64) .nil)))) (.cons (.pur (.sl false (.cons (.int .i64) (.cons (.int .i64) .nil)))) (.cons (.fn (.func 132) 0 .nil) .nil)))
def slices_CompareFunc_impl_Entry_impl_Entry_impl_Entry_impl_Entry.R : Sh := (.cons (.pur (.int .i64)) .nil)
def slices_CompareFunc_impl_Entry_impl_Entry_impl_Entry_impl_Entry.ann : Ann := { loops := [(0, [(0, (.pur (.sl false (.cons (.int .i64) (.cons (.int .i64) .nil))))), (1, (.pur (.sl false (.cons (.int .i64) (.cons (.int .i64) .nil))))), (2, (.fn (.func 132) 0 .nil)), (11, (.pur (.sl false (.cons (.int .i64) (.cons (.int .i64) .nil))))), (12, (.pur (.int .i64))), (13, (.pur (.int .i64)))])], joins := [], keys := [] }
noncomputable def slices_CompareFunc_impl_Entry_impl_Entry_impl_Entry_impl_Entry.l0 (k : Nat)  (G0 : ((List (Int × Int × Unit)) × (List (Int × Int × Unit)) × (Unit) × (List (Int × Int × Unit)) × Int × Int × Unit) → Option ((Int × Unit) × (Unit × Unit × (Unit) × Unit))) : ((List (Int × Int × Unit)) × (List (Int × Int × Unit)) × (Unit) × (List (Int × Int × Unit)) × Int × Int × Unit) → Option ((Int × Unit) × (Unit × Unit × (Unit) × Unit)) := fun x => match x with
 | (s1, s2, (()), t11, t12, t13, ()) =>
  br k (decide (t13 < t12))
  (br k (decide (0 ≤ t13))
  (bd k (t11[t13.toNat]?) fun x1 =>
  br k (decide (t13 ≥ (s2.length : Int)))
  (some ((1, ()), ((), (), (()), ())))
  (br k (decide (0 ≤ t13))
  (bd k (s2[t13.toNat]?) fun x2 =>
  bd k (impl_compareTokens_1 k (x1, x2, ())) fun y3 =>
  br k (y3.1.1 != 0)
  (some ((y3.1.1, ()), ((), (), (()), ())))
  (G0 (s1, s2, (()), t11, t12, IntKind.wrap .i64 (t13 + 1), ())))
  none))
  none)
  (br k (decide ((s1.length : Int) < (s2.length : Int)))
  (some (((-1), ()), ((), (), (()), ())))
  (some ((0, ()), ((), (), (()), ()))))
noncomputable def slices_CompareFunc_impl_Entry_impl_Entry_impl_Entry_impl_Entry (k : Nat) : ((List (Int × Int × Unit)) × (List (Int × Int × Unit)) × (Unit) × Unit) → Option ((Int × Unit) × (Unit × Unit × (Unit) × Unit)) := fun x => match x with
 | (s1, s2, (()), ()) =>
  iter (slices_CompareFunc_impl_Entry_impl_Entry_impl_Entry_impl_Entry.l0 k) k (s1, s2, (()), s1, (s1.length : Int), 0, ())
noncomputable def slices_CompareFunc_impl_Entry_impl_Entry_impl_Entry_impl_Entry.sg (k : Nat) : Sig := ⟨slices_CompareFunc_impl_Entry_impl_Entry_impl_Entry_impl_Entry.A, slices_CompareFunc_impl_Entry_impl_Entry_impl_Entry_impl_Entry.R, slices_CompareFunc_impl_Entry_impl_Entry_impl_Entry_impl_Entry k⟩
noncomputable def slices_CompareFunc_impl_Entry_impl_Entry_impl_Entry_impl_Entry.C (k : Nat) : Ctx := ⟨Tryz.prog, [(132, [impl_compareTokens_1.sg k])], k⟩
theorem slices_CompareFunc_impl_Entry_impl_Entry_impl_Entry_impl_Entry.ev (k : Nat) (x : slices_CompareFunc_impl_Entry_impl_Entry_impl_Entry_impl_Entry.A.T) : evFunc (slices_CompareFunc_impl_Entry_impl_Entry_impl_Entry_impl_Entry.C k) slices_CompareFunc_impl_Entry_impl_Entry_impl_Entry_impl_Entry.ann Tryz.f131 slices_CompareFunc_impl_Entry_impl_Entry_impl_Entry_impl_Entry.A slices_CompareFunc_impl_Entry_impl_Entry_impl_Entry_impl_Entry.R x = slices_CompareFunc_impl_Entry_impl_Entry_impl_Entry_impl_Entry k x := by kernel_rfl
theorem slices_CompareFunc_impl_Entry_impl_Entry_impl_Entry_impl_Entry.ok {L : List (Nat × Obj)}  (k : Nat) : SigHolds Tryz.prog L 131 (slices_CompareFunc_impl_Entry_impl_Entry_impl_Entry_impl_Entry.sg k) :=
  sig_of_ev (C := slices_CompareFunc_impl_Entry_impl_Entry_impl_Entry_impl_Entry.C k) (holds_cons (allok_cons (impl_compareTokens_1.ok k) allok_nil) holds_nil) (by kernel_rfl) Tryz.func131 (by kernel_rfl) slices_CompareFunc_impl_Entry_impl_Entry_impl_Entry_impl_Entry.ann slices_CompareFunc_impl_Entry_impl_Entry_impl_Entry_impl_Entry.A slices_CompareFunc_impl_Entry_impl_Entry_impl_Entry_impl_Entry.R (fun x y h => (slices_CompareFunc_impl_Entry_impl_Entry_impl_Entry_impl_Entry.ev k x).trans h) (by kernel_rfl)

/-! loop.example/g00719/impl.compareTokens -/
def impl_compareTokens.A : Sh := (.cons (.pur (.sl false (.cons (.int .i64) (.cons (.int .i64) .nil)))) (.cons (.pur (.sl false (.cons (.int .i64) (.cons (.int .i64) .nil)))) .nil))
def impl_compareTokens.R : Sh := (.cons (.pur (.int .i64)) .nil)
def impl_compareTokens.ann : Ann := { loops := [], joins := [], keys := [] }
noncomputable def impl_compareTokens (k : Nat) : ((List (Int × Int × Unit)) × (List (Int × Int × Unit)) × Unit) → Option ((Int × Unit) × (Unit × Unit × Unit)) := fun x => match x with
 | (a, b_, ()) =>
  bd k (cmp_Compare_int k ((a.length : Int), (b_.length : Int), ())) fun y1 =>
  bd k (slices_CompareFunc_impl_Entry_impl_Entry_impl_Entry_impl_Entry k (a, b_, (()), ())) fun y2 =>
  bd k (cmp_Or_int k (([y1.1.1, y2.1.1] : List Int), ())) fun y3 =>
  some ((y3.1.1, ()), ((), (), ()))
noncomputable def impl_compareTokens.sg (k : Nat) : Sig := ⟨impl_compareTokens.A, impl_compareTokens.R, impl_compareTokens k⟩
noncomputable def impl_compareTokens.C (k : Nat) : Ctx := ⟨Tryz.prog, [(130, [cmp_Compare_int.sg k]), (131, [slices_CompareFunc_impl_Entry_impl_Entry_impl_Entry_impl_Entry.sg k]), (129, [cmp_Or_int.sg k])], k⟩
theorem impl_compareTokens.ev (k : Nat) (x : impl_compareTokens.A.T) : evFunc (impl_compareTokens.C k) impl_compareTokens.ann Tryz.f100 impl_compareTokens.A impl_compareTokens.R x = impl_compareTokens k x := by kernel_rfl
theorem impl_compareTokens.ok {L : List (Nat × Obj)}  (k : Nat) : SigHolds Tryz.prog L 100 (impl_compareTokens.sg k) :=
  sig_of_ev (C := impl_compareTokens.C k) (holds_cons (allok_cons (cmp_Compare_int.ok k) allok_nil) (holds_cons (allok_cons (slices_CompareFunc_impl_Entry_impl_Entry_impl_Entry_impl_Entry.ok k) allok_nil) (holds_cons (allok_cons (cmp_Or_int.ok k) allok_nil) holds_nil))) (by kernel_rfl) Tryz.func100 (by kernel_rfl) impl_compareTokens.ann impl_compareTokens.A impl_compareTokens.R (fun x y h => (impl_compareTokens.ev k x).trans h) (by kernel_rfl)

/-! loop.example/g00719/impl.entryOk -/
def impl_entryOk.A : Sh := (.cons (.pur (.cons (.int .i64) (.cons (.int .i64) .nil))) .nil)
def impl_entryOk.R : Sh := (.cons (.pur .bool) .nil)
def impl_entryOk.ann : Ann := { loops := [], joins := [(1, [(2, .bool)])], keys := [] }
noncomputable def impl_entryOk (k : Nat) : ((Int × Int × Unit) × Unit) → Option ((Bool × Unit) × (Unit × Unit)) := fun x => match x with
 | (e_, ()) =>
  (bd k (impl_within k (e_.1, 0, 29, ())) fun y1 =>
  br k (y1.1.1)
  (bd k (impl_within k (e_.2.1, 0, 4, ())) fun y2 =>
  some (y2.1.1, ()))
  (some (false, ())) : Option (Bool × Unit)).bind fun j3 =>
  some ((j3.1, ()), ((), ()))
noncomputable def impl_entryOk.sg (k : Nat) : Sig := ⟨impl_entryOk.A, impl_entryOk.R, impl_entryOk k⟩
noncomputable def impl_entryOk.C (k : Nat) : Ctx := ⟨Tryz.prog, [(98, [impl_within.sg k])], k⟩
theorem impl_entryOk.ev (k : Nat) (x : impl_entryOk.A.T) : evFunc (impl_entryOk.C k) impl_entryOk.ann Tryz.f157 impl_entryOk.A impl_entryOk.R x = impl_entryOk k x := by kernel_rfl
theorem impl_entryOk.ok {L : List (Nat × Obj)}  (k : Nat) : SigHolds Tryz.prog L 157 (impl_entryOk.sg k) :=
  sig_of_ev (C := impl_entryOk.C k) (holds_cons (allok_cons (impl_within.ok k) allok_nil) holds_nil) (by kernel_rfl) Tryz.func157 (by kernel_rfl) impl_entryOk.ann impl_entryOk.A impl_entryOk.R (fun x y h => (impl_entryOk.ev k x).trans h) (by kernel_rfl)

/-! loop.example/g00719/impl.areAll[loop.example/g00719/impl.Entry]$1 -/
def impl_areAll_impl_Entry_1.A : Sh := (.cons (.pur (.cons (.int .i64) (.cons (.int .i64) .nil))) (.cons (.box (.cons (.fn (.func 157) 0 .nil) .nil)) .nil))
def impl_areAll_impl_Entry_1.R : Sh := (.cons (.pur .bool) .nil)
def impl_areAll_impl_Entry_1.ann : Ann := { loops := [], joins := [], keys := [] }
noncomputable def impl_areAll_impl_Entry_1 (k : Nat) : ((Int × Int × Unit) × ((Unit) × Unit) × Unit) → Option ((Bool × Unit) × (Unit × ((Unit) × Unit) × Unit)) := fun x => match x with
 | (x_, ((()), ()), ()) =>
  bd k (impl_entryOk k (x_, ())) fun y1 =>
  some ((!y1.1.1, ()), ((), ((()), ()), ()))
noncomputable def impl_areAll_impl_Entry_1.sg (k : Nat) : Sig := ⟨impl_areAll_impl_Entry_1.A, impl_areAll_impl_Entry_1.R, impl_areAll_impl_Entry_1 k⟩
noncomputable def impl_areAll_impl_Entry_1.C (k : Nat) : Ctx := ⟨Tryz.prog, [(157, [impl_entryOk.sg k])], k⟩
theorem impl_areAll_impl_Entry_1.ev (k : Nat) (x : impl_areAll_impl_Entry_1.A.T) : evFunc (impl_areAll_impl_Entry_1.C k) impl_areAll_impl_Entry_1.ann Tryz.f170 impl_areAll_impl_Entry_1.A impl_areAll_impl_Entry_1.R x = impl_areAll_impl_Entry_1 k x := by kernel_rfl
theorem impl_areAll_impl_Entry_1.ok {L : List (Nat × Obj)}  (k : Nat) : SigHolds Tryz.prog L 170 (impl_areAll_impl_Entry_1.sg k) :=
  sig_of_ev (C := impl_areAll_impl_Entry_1.C k) (holds_cons (allok_cons (impl_entryOk.ok k) allok_nil) holds_nil) (by kernel_rfl) Tryz.func170 (by kernel_rfl) impl_areAll_impl_Entry_1.ann impl_areAll_impl_Entry_1.A impl_areAll_impl_Entry_1.R (fun x y h => (impl_areAll_impl_Entry_1.ev k x).trans h) (by kernel_rfl)

/-! slices.IndexFunc[[]loop.example/g00719/impl.Entry,loop.example/g00719/impl.Entry] -/
def slices_IndexFunc_impl_Entry_impl_Entry.A : Sh := (.cons (.pur (.sl false (.cons (.int .i64) (.cons (.int .i64) .nil)))) (.cons (.fn (.func 170) 0 (.cons (.box (.cons (.fn (.func 157) 0 .nil) .nil)) .nil)) .nil))
def slices_IndexFunc_impl_Entry_impl_Entry.R : Sh := (.cons (.pur (.int .i64)) .nil)
def slices_IndexFunc_impl_Entry_impl_Entry.ann : Ann := { loops := [(0, [(0, (.pur (.sl false (.cons (.int .i64) (.cons (.int .i64) .nil))))), (1, (.fn (.func 170) 0 (.cons (.box (.cons (.fn (.func 157) 0 .nil) .nil)) .nil))), (7, (.pur (.int .i64))), (8, (.pur (.int .i64)))])], joins := [], keys := [] }
noncomputable def slices_IndexFunc_impl_Entry_impl_Entry.l0 (k : Nat)  (G0 : ((List (Int × Int × Unit)) × (((Unit) × Unit) × Unit) × Int × Int × Unit) → Option ((Int × Unit) × (Unit × (((Unit) × Unit) × Unit) × Unit))) : ((List (Int × Int × Unit)) × (((Unit) × Unit) × Unit) × Int × Int × Unit) → Option ((Int × Unit) × (Unit × (((Unit) × Unit) × Unit) × Unit)) := fun x => match x with
 | (s_, (((()), ()), ()), t7, t8, ()) =>
  br k (decide (t8 < t7))
  (br k (decide (0 ≤ t8))
  (bd k (s_[t8.toNat]?) fun x1 =>
  bd k (impl_areAll_impl_Entry_1 k (x1, ((()), ()), ())) fun y2 =>
  br k (y2.1.1)
  (some ((t8, ()), ((), (((()), ()), ()), ())))
  (G0 (s_, (((()), ()), ()), t7, IntKind.wrap .i64 (t8 + 1), ())))
  none)
  (some (((-1), ()), ((), (((()), ()), ()), ())))
noncomputable def slices_IndexFunc_impl_Entry_impl_Entry (k : Nat) : ((List (Int × Int × Unit)) × (((Unit) × Unit) × Unit) × Unit) → Option ((Int × Unit) × (Unit × (((Unit) × Unit) × Unit) × Unit)) := fun x => match x with
 | (s_, (((()), ()), ()), ()) =>
  iter (slices_IndexFunc_impl_Entry_impl_Entry.l0 k) k (s_, (((()), ()), ()), (s_.length : Int), 0, ())
noncomputable def slices_IndexFunc_impl_Entry_impl_Entry.sg (k : Nat) : Sig := ⟨slices_IndexFunc_impl_Entry_impl_Entry.A, slices_IndexFunc_impl_Entry_impl_Entry.R, slices_IndexFunc_impl_Entry_impl_Entry k⟩
noncomputable def slices_IndexFunc_impl_Entry_impl_Entry.C (k : Nat) : Ctx := ⟨Tryz.prog, [(170, [impl_areAll_impl_Entry_1.sg k])], k⟩
theorem slices_IndexFunc_impl_Entry_impl_Entry.ev (k : Nat) (x : slices_IndexFunc_impl_Entry_impl_Entry.A.T) : evFunc (slices_IndexFunc_impl_Entry_impl_Entry.C k) slices_IndexFunc_impl_Entry_impl_Entry.ann Tryz.f178 slices_IndexFunc_impl_Entry_impl_Entry.A slices_IndexFunc_impl_Entry_impl_Entry.R x = slices_IndexFunc_impl_Entry_impl_Entry k x := by kernel_rfl
theorem slices_IndexFunc_impl_Entry_impl_Entry.ok {L : List (Nat × Obj)}  (k : Nat) : SigHolds Tryz.prog L 178 (slices_IndexFunc_impl_Entry_impl_Entry.sg k) :=
  sig_of_ev (C := slices_IndexFunc_impl_Entry_impl_Entry.C k) (holds_cons (allok_cons (impl_areAll_impl_Entry_1.ok k) allok_nil) holds_nil) (by kernel_rfl) Tryz.func178 (by kernel_rfl) slices_IndexFunc_impl_Entry_impl_Entry.ann slices_IndexFunc_impl_Entry_impl_Entry.A slices_IndexFunc_impl_Entry_impl_Entry.R (fun x y h => (slices_IndexFunc_impl_Entry_impl_Entry.ev k x).trans h) (by kernel_rfl)

/-! slices.ContainsFunc[[]loop.example/g00719/impl.Entry,loop.example/g00719/impl.Entry] -/
def slices_ContainsFunc_impl_Entry_impl_Entry.A : Sh := (.cons (.pur (.sl false (.cons (.int .i64) (.cons (.int .i64) .nil)))) (.cons (.fn (.func 170) 0 (.cons (.box (.cons (.fn (.func 157) 0 .nil) .nil)) .nil)) .nil))
def slices_ContainsFunc_impl_Entry_impl_Entry.R : Sh := (.cons (.pur .bool) .nil)
def slices_ContainsFunc_impl_Entry_impl_Entry.ann : Ann := { loops := [], joins := [], keys := [] }
noncomputable def slices_ContainsFunc_impl_Entry_impl_Entry (k : Nat) : ((List (Int × Int × Unit)) × (((Unit) × Unit) × Unit) × Unit) → Option ((Bool × Unit) × (Unit × (((Unit) × Unit) × Unit) × Unit)) := fun x => match x with
 | (s_, (((()), ()), ()), ()) =>
  bd k (slices_IndexFunc_impl_Entry_impl_Entry k (s_, (((()), ()), ()), ())) fun y1 =>
  some ((decide (y1.1.1 ≥ 0), ()), ((), (((()), ()), ()), ()))
noncomputable def slices_ContainsFunc_impl_Entry_impl_Entry.sg (k : Nat) : Sig := ⟨slices_ContainsFunc_impl_Entry_impl_Entry.A, slices_ContainsFunc_impl_Entry_impl_Entry.R, slices_ContainsFunc_impl_Entry_impl_Entry k⟩
noncomputable def slices_ContainsFunc_impl_Entry_impl_Entry.C (k : Nat) : Ctx := ⟨Tryz.prog, [(178, [slices_IndexFunc_impl_Entry_impl_Entry.sg k])], k⟩
theorem slices_ContainsFunc_impl_Entry_impl_Entry.ev (k : Nat) (x : slices_ContainsFunc_impl_Entry_impl_Entry.A.T) : evFunc (slices_ContainsFunc_impl_Entry_impl_Entry.C k) slices_ContainsFunc_impl_Entry_impl_Entry.ann Tryz.f169 slices_ContainsFunc_impl_Entry_impl_Entry.A slices_ContainsFunc_impl_Entry_impl_Entry.R x = slices_ContainsFunc_impl_Entry_impl_Entry k x := by kernel_rfl
theorem slices_ContainsFunc_impl_Entry_impl_Entry.ok {L : List (Nat × Obj)}  (k : Nat) : SigHolds Tryz.prog L 169 (slices_ContainsFunc_impl_Entry_impl_Entry.sg k) :=
  sig_of_ev (C := slices_ContainsFunc_impl_Entry_impl_Entry.C k) (holds_cons (allok_cons (slices_IndexFunc_impl_Entry_impl_Entry.ok k) allok_nil) holds_nil) (by kernel_rfl) Tryz.func169 (by kernel_rfl) slices_ContainsFunc_impl_Entry_impl_Entry.ann slices_ContainsFunc_impl_Entry_impl_Entry.A slices_ContainsFunc_impl_Entry_impl_Entry.R (fun x y h => (slices_ContainsFunc_impl_Entry_impl_Entry.ev k x).trans h) (by kernel_rfl)

/-! loop.example/g00719/impl.areAll[loop.example/g00719/impl.Entry] -/
def impl_areAll_impl_Entry.A : Sh := (.cons (.pur (.sl false (.cons (.int .i64) (.cons (.int .i64) .nil)))) (.cons (.fn (.func 157) 0 .nil) .nil))
def impl_areAll_impl_Entry.R : Sh := (.cons (.pur .bool) .nil)
def impl_areAll_impl_Entry.ann : Ann := { loops := [], joins := [], keys := [] }
noncomputable def impl_areAll_impl_Entry (k : Nat) : ((List (Int × Int × Unit)) × (Unit) × Unit) → Option ((Bool × Unit) × (Unit × (Unit) × Unit)) := fun x => match x with
 | (list, (()), ()) =>
  bd k (slices_ContainsFunc_impl_Entry_impl_Entry k (list, (((()), ()), ()), ())) fun y1 =>
  some ((!y1.1.1, ()), ((), (()), ()))
noncomputable def impl_areAll_impl_Entry.sg (k : Nat) : Sig := ⟨impl_areAll_impl_Entry.A, impl_areAll_impl_Entry.R, impl_areAll_impl_Entry k⟩
noncomputable def impl_areAll_impl_Entry.C (k : Nat) : Ctx := ⟨Tryz.prog, [(169, [slices_ContainsFunc_impl_Entry_impl_Entry.sg k])], k⟩
theorem impl_areAll_impl_Entry.ev (k : Nat) (x : impl_areAll_impl_Entry.A.T) : evFunc (impl_areAll_impl_Entry.C k) impl_areAll_impl_Entry.ann Tryz.f156 impl_areAll_impl_Entry.A impl_areAll_impl_Entry.R x = impl_areAll_impl_Entry k x := by kernel_rfl
theorem impl_areAll_impl_Entry.ok {L : List (Nat × Obj)}  (k : Nat) : SigHolds Tryz.prog L 156 (impl_areAll_impl_Entry.sg k) :=
  sig_of_ev (C := impl_areAll_impl_Entry.C k) (holds_cons (allok_cons (slices_ContainsFunc_impl_Entry_impl_Entry.ok k) allok_nil) holds_nil) (by kernel_rfl) Tryz.func156 (by kernel_rfl) impl_areAll_impl_Entry.ann impl_areAll_impl_Entry.A impl_areAll_impl_Entry.R (fun x y h => (impl_areAll_impl_Entry.ev k x).trans h) (by kernel_rfl)

/-! loop.example/g00719/impl.TokenOk -/
def impl_TokenOk.A : Sh := (.cons (.pur (.sl false (.cons (.int .i64) (.cons (.int .i64) .nil)))) .nil)
def impl_TokenOk.R : Sh := (.cons (.pur .bool) .nil)
def impl_TokenOk.ann : Ann := { loops := [], joins := [], keys := [] }
noncomputable def impl_TokenOk (k : Nat) : ((List (Int × Int × Unit)) × Unit) → Option ((Bool × Unit) × (Unit × Unit)) := fun x => match x with
 | (t, ()) =>
  br k (decide ((t.length : Int) ≤ 3))
  (bd k (impl_areAll_impl_Entry k (t, (()), ())) fun y1 =>
  some ((y1.1.1, ()), ((), ())))
  (some ((false, ()), ((), ())))
noncomputable def impl_TokenOk.sg (k : Nat) : Sig := ⟨impl_TokenOk.A, impl_TokenOk.R, impl_TokenOk k⟩
noncomputable def impl_TokenOk.C (k : Nat) : Ctx := ⟨Tryz.prog, [(156, [impl_areAll_impl_Entry.sg k])], k⟩
theorem impl_TokenOk.ev (k : Nat) (x : impl_TokenOk.A.T) : evFunc (impl_TokenOk.C k) impl_TokenOk.ann Tryz.f136 impl_TokenOk.A impl_TokenOk.R x = impl_TokenOk k x := by kernel_rfl
theorem impl_TokenOk.ok {L : List (Nat × Obj)}  (k : Nat) : SigHolds Tryz.prog L 136 (impl_TokenOk.sg k) :=
  sig_of_ev (C := impl_TokenOk.C k) (holds_cons (allok_cons (impl_areAll_impl_Entry.ok k) allok_nil) holds_nil) (by kernel_rfl) Tryz.func136 (by kernel_rfl) impl_TokenOk.ann impl_TokenOk.A impl_TokenOk.R (fun x y h => (impl_TokenOk.ev k x).trans h) (by kernel_rfl)

/-! (loop.example/g00719/impl.Decl).partOk$1 -/
def impl_Decl_partOk_1.A : Sh := (.cons (.pur (.cons .bool (.cons (.sl false (.cons (.int .i64) (.cons (.int .i64) .nil))) (.cons (.sl false (.cons (.int .i64) (.cons (.int .i64) .nil))) .nil)))) .nil)
def impl_Decl_partOk_1.R : Sh := (.cons (.pur .bool) .nil)
def impl_Decl_partOk_1.ann : Ann := { loops := [], joins := [], keys := [] }
noncomputable def impl_Decl_partOk_1 (k : Nat) : ((Bool × (List (Int × Int × Unit)) × (List (Int × Int × Unit)) × Unit) × Unit) → Option ((Bool × Unit) × (Unit × Unit)) := fun x => match x with
 | (e_, ()) =>
  some ((e_.1, ()), ((), ()))
noncomputable def impl_Decl_partOk_1.sg (k : Nat) : Sig := ⟨impl_Decl_partOk_1.A, impl_Decl_partOk_1.R, impl_Decl_partOk_1 k⟩
noncomputable def impl_Decl_partOk_1.C (k : Nat) : Ctx := ⟨Tryz.prog, [], k⟩
theorem impl_Decl_partOk_1.ev (k : Nat) (x : impl_Decl_partOk_1.A.T) : evFunc (impl_Decl_partOk_1.C k) impl_Decl_partOk_1.ann Tryz.f138 impl_Decl_partOk_1.A impl_Decl_partOk_1.R x = impl_Decl_partOk_1 k x := by kernel_rfl
theorem impl_Decl_partOk_1.ok {L : List (Nat × Obj)}  (k : Nat) : SigHolds Tryz.prog L 138 (impl_Decl_partOk_1.sg k) :=
  sig_of_ev (C := impl_Decl_partOk_1.C k) holds_nil (by kernel_rfl) Tryz.func138 (by kernel_rfl) impl_Decl_partOk_1.ann impl_Decl_partOk_1.A impl_Decl_partOk_1.R (fun x y h => (impl_Decl_partOk_1.ev k x).trans h) (by kernel_rfl)

/-! slices.IndexFunc[[]loop.example/g00719/impl.Env,loop.example/g00719/impl.Env] -/
def slices_IndexFunc_impl_Env_impl_Env_v1.A : Sh := (.cons (.pur (.sl false (.cons .bool (.cons (.sl false (.cons (.int .i64) (.cons (.int .i64) .nil))) (.cons (.sl false (.cons (.int .i64) (.cons (.int .i64) .nil))) .nil))))) (.cons (.fn (.func 138) 0 .nil) .nil))
def slices_IndexFunc_impl_Env_impl_Env_v1.R : Sh := (.cons (.pur (.int .i64)) .nil)
def slices_IndexFunc_impl_Env_impl_Env_v1.ann : Ann := { loops := [(0, [(0, (.pur (.sl false (.cons .bool (.cons (.sl false (.cons (.int .i64) (.cons (.int .i64) .nil))) (.cons (.sl false (.cons (.int .i64) (.cons (.int .i64) .nil))) .nil)))))), (1, (.fn (.func 138) 0 .nil)), (7, (.pur (.int .i64))), (8, (.pur (.int .i64)))])], joins := [], keys := [] }
noncomputable def slices_IndexFunc_impl_Env_impl_Env_v1.l0 (k : Nat)  (G0 : ((List (Bool × (List (Int × Int × Unit)) × (List (Int × Int × Unit)) × Unit)) × (Unit) × Int × Int × Unit) → Option ((Int × Unit) × (Unit × (Unit) × Unit))) : ((List (Bool × (List (Int × Int × Unit)) × (List (Int × Int × Unit)) × Unit)) × (Unit) × Int × Int × Unit) → Option ((Int × Unit) × (Unit × (Unit) × Unit)) := fun x => match x with
 | (s_, (()), t7, t8, ()) =>
  br k (decide (t8 < t7))
  (br k (decide (0 ≤ t8))
  (bd k (s_[t8.toNat]?) fun x1 =>
  bd k (impl_Decl_partOk_1 k (x1, ())) fun y2 =>
  br k (y2.1.1)
  (some ((t8, ()), ((), (()), ())))
  (G0 (s_, (()), t7, IntKind.wrap .i64 (t8 + 1), ())))
  none)
  (some (((-1), ()), ((), (()), ())))
noncomputable def slices_IndexFunc_impl_Env_impl_Env_v1 (k : Nat) : ((List (Bool × (List (Int × Int × Unit)) × (List (Int × Int × Unit)) × Unit)) × (Unit) × Unit) → Option ((Int × Unit) × (Unit × (Unit) × Unit)) := fun x => match x with
 | (s_, (()), ()) =>
  iter (slices_IndexFunc_impl_Env_impl_Env_v1.l0 k) k (s_, (()), (s_.length : Int), 0, ())
noncomputable def slices_IndexFunc_impl_Env_impl_Env_v1.sg (k : Nat) : Sig := ⟨slices_IndexFunc_impl_Env_impl_Env_v1.A, slices_IndexFunc_impl_Env_impl_Env_v1.R, slices_IndexFunc_impl_Env_impl_Env_v1 k⟩
noncomputable def slices_IndexFunc_impl_Env_impl_Env_v1.C (k : Nat) : Ctx := ⟨Tryz.prog, [(138, [impl_Decl_partOk_1.sg k])], k⟩
theorem slices_IndexFunc_impl_Env_impl_Env_v1.ev (k : Nat) (x : slices_IndexFunc_impl_Env_impl_Env_v1.A.T) : evFunc (slices_IndexFunc_impl_Env_impl_Env_v1.C k) slices_IndexFunc_impl_Env_impl_Env_v1.ann Tryz.f158 slices_IndexFunc_impl_Env_impl_Env_v1.A slices_IndexFunc_impl_Env_impl_Env_v1.R x = slices_IndexFunc_impl_Env_impl_Env_v1 k x := by kernel_rfl
theorem slices_IndexFunc_impl_Env_impl_Env_v1.ok {L : List (Nat × Obj)}  (k : Nat) : SigHolds Tryz.prog L 158 (slices_IndexFunc_impl_Env_impl_Env_v1.sg k) :=
  sig_of_ev (C := slices_IndexFunc_impl_Env_impl_Env_v1.C k) (holds_cons (allok_cons (impl_Decl_partOk_1.ok k) allok_nil) holds_nil) (by kernel_rfl) Tryz.func158 (by kernel_rfl) slices_IndexFunc_impl_Env_impl_Env_v1.ann slices_IndexFunc_impl_Env_impl_Env_v1.A slices_IndexFunc_impl_Env_impl_Env_v1.R (fun x y h => (slices_IndexFunc_impl_Env_impl_Env_v1.ev k x).trans h) (by kernel_rfl)

/-! slices.ContainsFunc[[]loop.example/g00719/impl.Env,loop.example/g00719/impl.Env] -/
def slices_ContainsFunc_impl_Env_impl_Env_v1.A : Sh := (.cons (.pur (.sl false (.cons .bool (.cons (.sl false (.cons (.int .i64) (.cons (.int .i64) .nil))) (.cons (.sl false (.cons (.int .i64) (.cons (.int .i64) .nil))) .nil))))) (.cons (.fn (.func 138) 0 .nil) .nil))
def slices_ContainsFunc_impl_Env_impl_Env_v1.R : Sh := (.cons (.pur .bool) .nil)
def slices_ContainsFunc_impl_Env_impl_Env_v1.ann : Ann := { loops := [], joins := [], keys := [] }
noncomputable def slices_ContainsFunc_impl_Env_impl_Env_v1 (k : Nat) : ((List (Bool × (List (Int × Int × Unit)) × (List (Int × Int × Unit)) × Unit)) × (Unit) × Unit) → Option ((Bool × Unit) × (Unit × (Unit) × Unit)) := fun x => match x with
 | (s_, (()), ()) =>
  bd k (slices_IndexFunc_impl_Env_impl_Env_v1 k (s_, (()), ())) fun y1 =>
  some ((decide (y1.1.1 ≥ 0), ()), ((), (()), ()))
noncomputable def slices_ContainsFunc_impl_Env_impl_Env_v1.sg (k : Nat) : Sig := ⟨slices_ContainsFunc_impl_Env_impl_Env_v1.A, slices_ContainsFunc_impl_Env_impl_Env_v1.R, slices_ContainsFunc_impl_Env_impl_Env_v1 k⟩
noncomputable def slices_ContainsFunc_impl_Env_impl_Env_v1.C (k : Nat) : Ctx := ⟨Tryz.prog, [(158, [slices_IndexFunc_impl_Env_impl_Env_v1.sg k])], k⟩
theorem slices_ContainsFunc_impl_Env_impl_Env_v1.ev (k : Nat) (x : slices_ContainsFunc_impl_Env_impl_Env_v1.A.T) : evFunc (slices_ContainsFunc_impl_Env_impl_Env_v1.C k) slices_ContainsFunc_impl_Env_impl_Env_v1.ann Tryz.f137 slices_ContainsFunc_impl_Env_impl_Env_v1.A slices_ContainsFunc_impl_Env_impl_Env_v1.R x = slices_ContainsFunc_impl_Env_impl_Env_v1 k x := by kernel_rfl
theorem slices_ContainsFunc_impl_Env_impl_Env_v1.ok {L : List (Nat × Obj)}  (k : Nat) : SigHolds Tryz.prog L 137 (slices_ContainsFunc_impl_Env_impl_Env_v1.sg k) :=
  sig_of_ev (C := slices_ContainsFunc_impl_Env_impl_Env_v1.C k) (holds_cons (allok_cons (slices_IndexFunc_impl_Env_impl_Env_v1.ok k) allok_nil) holds_nil) (by kernel_rfl) Tryz.func137 (by kernel_rfl) slices_ContainsFunc_impl_Env_impl_Env_v1.ann slices_ContainsFunc_impl_Env_impl_Env_v1.A slices_ContainsFunc_impl_Env_impl_Env_v1.R (fun x y h => (slices_ContainsFunc_impl_Env_impl_Env_v1.ev k x).trans h) (by kernel_rfl)

/-! (loop.example/g00719/impl.Decl).partOk -/
def impl_Decl_partOk.A : Sh := (.cons (.pur (.cons (.sl false .str) (.cons (.sl false .str) (.cons (.sl false (.cons .str (.cons (.int .i64) .nil))) .nil)))) (.cons (.pur (.cons (.sl false (.cons (.int .i64) (.cons (.int .i64) .nil))) (.cons (.sl false (.cons .bool (.cons (.sl false (.cons (.int .i64) (.cons (.int .i64) .nil))) (.cons (.sl false (.cons (.int .i64) (.cons (.int .i64) .nil))) .nil)))) .nil))) .nil))
def impl_Decl_partOk.R : Sh := (.cons (.pur .bool) .nil)
def impl_Decl_partOk.ann : Ann := { loops := [], joins := [], keys := [] }
noncomputable def impl_Decl_partOk (k : Nat) : (((List (List UInt8)) × (List (List UInt8)) × (List ((List UInt8) × Int × Unit)) × Unit) × ((List (Int × Int × Unit)) × (List (Bool × (List (Int × Int × Unit)) × (List (Int × Int × Unit)) × Unit)) × Unit) × Unit) → Option ((Bool × Unit) × (Unit × Unit × Unit)) := fun x => match x with
 | (d_, p, ()) =>
  bd k (impl_TokenOk k (p.1, ())) fun y1 =>
  br k (y1.1.1)
  (bd k (impl_Decl_isTable k (d_, p.2.1, ())) fun y2 =>
  br k (y2.1.1)
  (bd k (slices_ContainsFunc_impl_Env_impl_Env_v1 k (p.2.1, (()), ())) fun y3 =>
  some ((y3.1.1, ()), ((), (), ())))
  (some ((false, ()), ((), (), ()))))
  (some ((false, ()), ((), (), ())))
noncomputable def impl_Decl_partOk.sg (k : Nat) : Sig := ⟨impl_Decl_partOk.A, impl_Decl_partOk.R, impl_Decl_partOk k⟩
noncomputable def impl_Decl_partOk.C (k : Nat) : Ctx := ⟨Tryz.prog, [(136, [impl_TokenOk.sg k]), (82, [impl_Decl_isTable.sg k]), (137, [slices_ContainsFunc_impl_Env_impl_Env_v1.sg k])], k⟩
theorem impl_Decl_partOk.ev (k : Nat) (x : impl_Decl_partOk.A.T) : evFunc (impl_Decl_partOk.C k) impl_Decl_partOk.ann Tryz.f102 impl_Decl_partOk.A impl_Decl_partOk.R x = impl_Decl_partOk k x := by kernel_rfl
theorem impl_Decl_partOk.ok {L : List (Nat × Obj)}  (k : Nat) : SigHolds Tryz.prog L 102 (impl_Decl_partOk.sg k) :=
  sig_of_ev (C := impl_Decl_partOk.C k) (holds_cons (allok_cons (impl_TokenOk.ok k) allok_nil) (holds_cons (allok_cons (impl_Decl_isTable.ok k) allok_nil) (holds_cons (allok_cons (slices_ContainsFunc_impl_Env_impl_Env_v1.ok k) allok_nil) holds_nil))) (by kernel_rfl) Tryz.func102 (by kernel_rfl) impl_Decl_partOk.ann impl_Decl_partOk.A impl_Decl_partOk.R (fun x y h => (impl_Decl_partOk.ev k x).trans h) (by kernel_rfl)

/-! loop.example/g00719/impl.areAll[loop.example/g00719/impl.Part]$1 -/
def impl_areAll_impl_Part_1.A : Sh := (.cons (.pur (.cons (.sl false (.cons (.int .i64) (.cons (.int .i64) .nil))) (.cons (.sl false (.cons .bool (.cons (.sl false (.cons (.int .i64) (.cons (.int .i64) .nil))) (.cons (.sl false (.cons (.int .i64) (.cons (.int .i64) .nil))) .nil)))) .nil))) (.cons (.box (.cons (.fn (.func 102) 1 (.cons (.pur (.cons (.sl false .str) (.cons (.sl false .str) (.cons (.sl false (.cons .str (.cons (.int .i64) .nil))) .nil)))) .nil)) .nil)) .nil))
def impl_areAll_impl_Part_1.R : Sh := (.cons (.pur .bool) .nil)
def impl_areAll_impl_Part_1.ann : Ann := { loops := [], joins := [], keys := [] }
noncomputable def impl_areAll_impl_Part_1 (k : Nat) : (((List (Int × Int × Unit)) × (List (Bool × (List (Int × Int × Unit)) × (List (Int × Int × Unit)) × Unit)) × Unit) × ((((List (List UInt8)) × (List (List UInt8)) × (List ((List UInt8) × Int × Unit)) × Unit) × Unit) × Unit) × Unit) → Option ((Bool × Unit) × (Unit × ((((List (List UInt8)) × (List (List UInt8)) × (List ((List UInt8) × Int × Unit)) × Unit) × Unit) × Unit) × Unit)) := fun x => match x with
 | (x_, ((a1_0_0, ()), ()), ()) =>
  bd k (impl_Decl_partOk k (a1_0_0, x_, ())) fun y1 =>
  some ((!y1.1.1, ()), ((), ((a1_0_0, ()), ()), ()))
noncomputable def impl_areAll_impl_Part_1.sg (k : Nat) : Sig := ⟨impl_areAll_impl_Part_1.A, impl_areAll_impl_Part_1.R, impl_areAll_impl_Part_1 k⟩
noncomputable def impl_areAll_impl_Part_1.C (k : Nat) : Ctx := ⟨Tryz.prog, [(102, [impl_Decl_partOk.sg k])], k⟩
theorem impl_areAll_impl_Part_1.ev (k : Nat) (x : impl_areAll_impl_Part_1.A.T) : evFunc (impl_areAll_impl_Part_1.C k) impl_areAll_impl_Part_1.ann Tryz.f135 impl_areAll_impl_Part_1.A impl_areAll_impl_Part_1.R x = impl_areAll_impl_Part_1 k x := by kernel_rfl
theorem impl_areAll_impl_Part_1.ok {L : List (Nat × Obj)}  (k : Nat) : SigHolds Tryz.prog L 135 (impl_areAll_impl_Part_1.sg k) :=
  sig_of_ev (C := impl_areAll_impl_Part_1.C k) (holds_cons (allok_cons (impl_Decl_partOk.ok k) allok_nil) holds_nil) (by kernel_rfl) Tryz.func135 (by kernel_rfl) impl_areAll_impl_Part_1.ann impl_areAll_impl_Part_1.A impl_areAll_impl_Part_1.R (fun x y h => (impl_areAll_impl_Part_1.ev k x).trans h) (by kernel_rfl)

end Go.Pev.F
