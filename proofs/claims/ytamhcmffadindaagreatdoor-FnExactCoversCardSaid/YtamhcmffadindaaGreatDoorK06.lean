/-
  Printed by gen.py: what functions of the program compute, and that they do.
-/
import Derived.Test.YtamhcmffadindaaGreatDoorK05
open Go.Proofs Go.Pev
namespace Go.Pev.F
set_option maxRecDepth 100000
set_option linter.unusedVariables false

/-! loop.example/g00719/spec.PartsHas -/
def spec_PartsHas.A : Sh := (.cons (.pur (.cons (.sl false .str) (.cons (.sl false .str) (.cons (.sl false (.cons .str (.cons (.int .i64) .nil))) .nil)))) (.cons (.pur (.sl false (.cons (.sl false (.cons (.int .i64) (.cons (.int .i64) .nil))) (.cons (.sl false (.cons .bool (.cons (.sl false (.cons (.int .i64) (.cons (.int .i64) .nil))) (.cons (.sl false (.cons (.int .i64) (.cons (.int .i64) .nil))) .nil)))) .nil)))) (.cons (.pur (.sl false (.cons (.int .i64) (.cons (.int .i64) .nil)))) (.cons (.pur (.cons (.sl false (.int .i64)) (.cons (.sl false .bool) (.cons (.sl false (.sl false (.int .i64))) .nil)))) .nil))))
def spec_PartsHas.R : Sh := (.cons (.pur .bool) .nil)
def spec_PartsHas.ann : Ann := { loops := [], joins := [(1, [(24, .bool)]), (4, [(8, .bool)])], keys := [] }
noncomputable def spec_PartsHas (k : Nat) : (((List (List UInt8)) × (List (List UInt8)) × (List ((List UInt8) × Int × Unit)) × Unit) × (List ((List (Int × Int × Unit)) × (List (Bool × (List (Int × Int × Unit)) × (List (Int × Int × Unit)) × Unit)) × Unit)) × (List (Int × Int × Unit)) × ((List Int) × (List Bool) × (List (List Int)) × Unit) × Unit) → Option ((Bool × Unit) × (Unit × Unit × Unit × Unit × Unit)) := fun x => match x with
 | (d_, l_, t, s_, ()) =>
  (bd k (spec_PartsOk k (d_, l_, ())) fun y1 =>
  br k (!y1.1.1)
  (some (true, ()))
  (bd k (spec_StoreOk k (d_, s_, ())) fun y2 =>
  br k (!y2.1.1)
  (some (true, ()))
  (bd k (spec_TokenOk k (t, ())) fun y3 =>
  some (!y3.1.1, ()))) : Option (Bool × Unit)).bind fun j4 =>
  br k (j4.1)
  (some ((false, ()), ((), (), (), (), ())))
  (bd k (spec_l9Find k (l_, t, ())) fun y5 =>
  (br k (decide (y5.1.1 ≥ 0))
  (br k (decide (0 ≤ y5.1.1))
  (bd k (l_[y5.1.1.toNat]?) fun x6 =>
  bd k (spec_l8Leaf k (s_, ())) fun y7 =>
  br k (decide (0 ≤ y7.1.1))
  (bd k (x6.2.1[y7.1.1.toNat]?) fun x8 =>
  bd k (spec_l6Has k (x8, s_, ())) fun y9 =>
  some (y9.1.1, ()))
  none)
  none)
  (some (false, ())) : Option (Bool × Unit)).bind fun j10 =>
  some ((j10.1, ()), ((), (), (), (), ())))
noncomputable def spec_PartsHas.sg (k : Nat) : Sig := ⟨spec_PartsHas.A, spec_PartsHas.R, spec_PartsHas k⟩
noncomputable def spec_PartsHas.C (k : Nat) : Ctx := ⟨Tryz.prog, [(47, [spec_PartsOk.sg k]), (48, [spec_StoreOk.sg k]), (49, [spec_TokenOk.sg k]), (50, [spec_l9Find.sg k]), (52, [spec_l8Leaf.sg k]), (51, [spec_l6Has.sg k])], k⟩
theorem spec_PartsHas.ev (k : Nat) (x : spec_PartsHas.A.T) : evFunc (spec_PartsHas.C k) spec_PartsHas.ann Tryz.f22 spec_PartsHas.A spec_PartsHas.R x = spec_PartsHas k x := by kernel_rfl
theorem spec_PartsHas.ok {L : List (Nat × Obj)}  (k : Nat) : SigHolds Tryz.prog L 22 (spec_PartsHas.sg k) :=
  sig_of_ev (C := spec_PartsHas.C k) (holds_cons (allok_cons (spec_PartsOk.ok k) allok_nil) (holds_cons (allok_cons (spec_StoreOk.ok k) allok_nil) (holds_cons (allok_cons (spec_TokenOk.ok k) allok_nil) (holds_cons (allok_cons (spec_l9Find.ok k) allok_nil) (holds_cons (allok_cons (spec_l8Leaf.ok k) allok_nil) (holds_cons (allok_cons (spec_l6Has.ok k) allok_nil) holds_nil)))))) (by kernel_rfl) Tryz.func22 (by kernel_rfl) spec_PartsHas.ann spec_PartsHas.A spec_PartsHas.R (fun x y h => (spec_PartsHas.ev k x).trans h) (by kernel_rfl)

/-! loop.example/g00719/spec.Covers -/
def spec_Covers.A : Sh := (.cons (.pur (.cons (.sl false .str) (.cons (.sl false .str) (.cons (.sl false (.cons .str (.cons (.int .i64) .nil))) (.cons (.sl false (.cons (.int .i64) (.cons (.int .i64) (.cons (.sl false (.cons (.int .i64) (.cons (.int .i64) .nil))) (.cons (.sl false (.cons (.int .i64) (.cons (.int .i64) .nil))) (.cons (.int .i64) (.cons (.int .i64) .nil))))))) .nil))))) (.cons (.pur (.sl false (.cons (.sl false (.cons (.sl false (.cons (.int .i64) (.cons (.int .i64) .nil))) (.cons (.sl false (.cons .bool (.cons (.sl false (.cons (.int .i64) (.cons (.int .i64) .nil))) (.cons (.sl false (.cons (.int .i64) (.cons (.int .i64) .nil))) .nil)))) .nil))) .nil))) (.cons (.pur (.cons (.int .i64) (.cons (.sl false (.cons (.int .i64) (.cons (.int .i64) .nil))) (.cons (.sl false (.int .i64)) (.cons (.sl false .bool) (.cons (.sl false (.sl false (.int .i64))) .nil)))))) .nil)))
def spec_Covers.R : Sh := (.cons (.pur .bool) .nil)
def spec_Covers.ann : Ann := { loops := [], joins := [(1, [(6, .bool)])], keys := [] }
noncomputable def spec_Covers (k : Nat) : (((List (List UInt8)) × (List (List UInt8)) × (List ((List UInt8) × Int × Unit)) × (List (Int × Int × (List (Int × Int × Unit)) × (List (Int × Int × Unit)) × Int × Int × Unit)) × Unit) × (List ((List ((List (Int × Int × Unit)) × (List (Bool × (List (Int × Int × Unit)) × (List (Int × Int × Unit)) × Unit)) × Unit)) × Unit)) × (Int × (List (Int × Int × Unit)) × (List Int) × (List Bool) × (List (List Int)) × Unit) × Unit) → Option ((Bool × Unit) × (Unit × Unit × Unit × Unit)) := fun x => match x with
 | (p, rows, s_, ()) =>
  (bd k (spec_ProgOk k (p, ())) fun y1 =>
  br k (y1.1.1)
  (bd k (spec_l1In k (s_.1, 0, IntKind.wrap .i64 ((rows.length : Int) - 1), ())) fun y2 =>
  br k (y2.1.1)
  (br k (decide (0 ≤ s_.1))
  (bd k (rows[s_.1.toNat]?) fun x3 =>
  bd k (spec_PartsHas k ((p.1, p.2.1, p.2.2.1, ()), x3.1, s_.2.1, (s_.2.2.1, s_.2.2.2.1, s_.2.2.2.2.1, ()), ())) fun y4 =>
  some (y4.1.1, ()))
  none)
  (some (false, ())))
  (some (false, ())) : Option (Bool × Unit)).bind fun j5 =>
  some ((j5.1, ()), ((), (), (), ()))
noncomputable def spec_Covers.sg (k : Nat) : Sig := ⟨spec_Covers.A, spec_Covers.R, spec_Covers k⟩
noncomputable def spec_Covers.C (k : Nat) : Ctx := ⟨Tryz.prog, [(20, [spec_ProgOk.sg k]), (21, [spec_l1In.sg k]), (22, [spec_PartsHas.sg k])], k⟩
theorem spec_Covers.ev (k : Nat) (x : spec_Covers.A.T) : evFunc (spec_Covers.C k) spec_Covers.ann Tryz.f7 spec_Covers.A spec_Covers.R x = spec_Covers k x := by kernel_rfl
theorem spec_Covers.ok {L : List (Nat × Obj)}  (k : Nat) : SigHolds Tryz.prog L 7 (spec_Covers.sg k) :=
  sig_of_ev (C := spec_Covers.C k) (holds_cons (allok_cons (spec_ProgOk.ok k) allok_nil) (holds_cons (allok_cons (spec_l1In.ok k) allok_nil) (holds_cons (allok_cons (spec_PartsHas.ok k) allok_nil) holds_nil))) (by kernel_rfl) Tryz.func7 (by kernel_rfl) spec_Covers.ann spec_Covers.A spec_Covers.R (fun x y h => (spec_Covers.ev k x).trans h) (by kernel_rfl)

/-! slices.Concat[[]string,string] -/
def slices_Concat_string_string.A : Sh := (.cons (.pur (.sl false (.sl false .str))) .nil)
def slices_Concat_string_string.R : Sh := (.cons (.own .str) .nil)
def slices_Concat_string_string.ann : Ann := { loops := [(0, [(0, (.pur (.sl false (.sl false .str)))), (3, (.pur (.int .i64))), (9, (.pur (.sl false (.sl false .str)))), (10, (.pur (.int .i64))), (11, (.pur (.int .i64)))]), (2, [(6, (.own .str)), (25, (.pur (.sl false (.sl false .str)))), (26, (.pur (.int .i64))), (27, (.pur (.int .i64)))])], joins := [], keys := [] }
noncomputable def slices_Concat_string_string.l2 (k : Nat)  (G2 : ((List (List UInt8)) × (List (List (List UInt8))) × Int × Int × Unit) → Option (((List (List UInt8)) × Unit) × (Unit × Unit))) : ((List (List UInt8)) × (List (List (List UInt8))) × Int × Int × Unit) → Option (((List (List UInt8)) × Unit) × (Unit × Unit)) := fun x => match x with
 | (newslice, t25, t26, t27, ()) =>
  br k (decide (t27 < t26))
  (br k (decide (0 ≤ t27))
  (bd k (t25[t27.toNat]?) fun x3 =>
  br k (decide ((newslice.length + x3.length) * 16 ≤ maxBytes))
  (G2 (newslice ++ x3, t25, t26, IntKind.wrap .i64 (t27 + 1), ()))
  none)
  none)
  (some ((newslice, ()), ((), ())))
noncomputable def slices_Concat_string_string.l0 (k : Nat)  (G0 : ((List (List (List UInt8))) × Int × (List (List (List UInt8))) × Int × Int × Unit) → Option (((List (List UInt8)) × Unit) × (Unit × Unit))) : ((List (List (List UInt8))) × Int × (List (List (List UInt8))) × Int × Int × Unit) → Option (((List (List UInt8)) × Unit) × (Unit × Unit)) := fun x => match x with
 | (slices, size, t9, t10, t11, ()) =>
  br k (decide (t11 < t10))
  (br k (decide (0 ≤ t11))
  (bd k (t9[t11.toNat]?) fun x1 =>
  br k (decide ((IntKind.wrap .i64 (size + (x1.length : Int))) < 0))
  (none)
  (G0 (slices, IntKind.wrap .i64 (size + (x1.length : Int)), t9, t10, IntKind.wrap .i64 (t11 + 1), ())))
  none)
  (bd k (Lb.slices_Grow_string_string k ((), size, ())) fun y2 =>
  iter (slices_Concat_string_string.l2 k) k (y2.1.1, slices, (slices.length : Int), 0, ()))
noncomputable def slices_Concat_string_string (k : Nat) : ((List (List (List UInt8))) × Unit) → Option (((List (List UInt8)) × Unit) × (Unit × Unit)) := fun x => match x with
 | (slices, ()) =>
  iter (slices_Concat_string_string.l0 k) k (slices, 0, slices, (slices.length : Int), 0, ())
noncomputable def slices_Concat_string_string.sg (k : Nat) : Sig := ⟨slices_Concat_string_string.A, slices_Concat_string_string.R, slices_Concat_string_string k⟩
noncomputable def slices_Concat_string_string.C (k : Nat) : Ctx := ⟨Tryz.prog, [(159, [Lb.slices_Grow_string_string.sg k])], k⟩
theorem slices_Concat_string_string.ev (k : Nat) (x : slices_Concat_string_string.A.T) : evFunc (slices_Concat_string_string.C k) slices_Concat_string_string.ann Tryz.f128 slices_Concat_string_string.A slices_Concat_string_string.R x = slices_Concat_string_string k x := by kernel_rfl
theorem slices_Concat_string_string.ok {L : List (Nat × Obj)}  (k : Nat) : SigHolds Tryz.prog L 128 (slices_Concat_string_string.sg k) :=
  sig_of_ev (C := slices_Concat_string_string.C k) (holds_cons (allok_cons (Lb.slices_Grow_string_string.ok k) allok_nil) holds_nil) (by kernel_rfl) Tryz.func128 (by kernel_rfl) slices_Concat_string_string.ann slices_Concat_string_string.A slices_Concat_string_string.R (fun x y h => (slices_Concat_string_string.ev k x).trans h) (by kernel_rfl)

/-! (loop.example/g00719/impl.Decl).names -/
def impl_Decl_names.A : Sh := (.cons (.pur (.cons (.sl false .str) (.cons (.sl false .str) (.cons (.sl false (.cons .str (.cons (.int .i64) .nil))) .nil)))) .nil)
def impl_Decl_names.R : Sh := (.cons (.own .str) .nil)
def impl_Decl_names.ann : Ann := { loops := [(0, [(3, (.own .str)), (13, (.pur (.sl false (.cons .str (.cons (.int .i64) .nil))))), (14, (.pur (.int .i64))), (15, (.pur (.int .i64)))])], joins := [], keys := [] }
noncomputable def impl_Decl_names.l0 (k : Nat)  (G0 : ((List (List UInt8)) × (List ((List UInt8) × Int × Unit)) × Int × Int × Unit) → Option (((List (List UInt8)) × Unit) × (Unit × Unit))) : ((List (List UInt8)) × (List ((List UInt8) × Int × Unit)) × Int × Int × Unit) → Option (((List (List UInt8)) × Unit) × (Unit × Unit)) := fun x => match x with
 | (out_, t13, t14, t15, ()) =>
  br k (decide (t15 < t14))
  (br k (decide (0 ≤ t15))
  (bd k (t13[t15.toNat]?) fun x2 =>
  br k (decide ((out_.length + ([x2.1] : List (List UInt8)).length) * 16 ≤ maxBytes))
  (G0 (out_ ++ ([x2.1] : List (List UInt8)), t13, t14, IntKind.wrap .i64 (t15 + 1), ()))
  none)
  none)
  (some ((out_, ()), ((), ())))
noncomputable def impl_Decl_names (k : Nat) : (((List (List UInt8)) × (List (List UInt8)) × (List ((List UInt8) × Int × Unit)) × Unit) × Unit) → Option (((List (List UInt8)) × Unit) × (Unit × Unit)) := fun x => match x with
 | (d_, ()) =>
  bd k (slices_Concat_string_string k (([d_.1, d_.2.1] : List (List (List UInt8))), ())) fun y1 =>
  iter (impl_Decl_names.l0 k) k (y1.1.1, d_.2.2.1, (d_.2.2.1.length : Int), 0, ())
noncomputable def impl_Decl_names.sg (k : Nat) : Sig := ⟨impl_Decl_names.A, impl_Decl_names.R, impl_Decl_names k⟩
noncomputable def impl_Decl_names.C (k : Nat) : Ctx := ⟨Tryz.prog, [(128, [slices_Concat_string_string.sg k])], k⟩
theorem impl_Decl_names.ev (k : Nat) (x : impl_Decl_names.A.T) : evFunc (impl_Decl_names.C k) impl_Decl_names.ann Tryz.f93 impl_Decl_names.A impl_Decl_names.R x = impl_Decl_names k x := by kernel_rfl
theorem impl_Decl_names.ok {L : List (Nat × Obj)}  (k : Nat) : SigHolds Tryz.prog L 93 (impl_Decl_names.sg k) :=
  sig_of_ev (C := impl_Decl_names.C k) (holds_cons (allok_cons (slices_Concat_string_string.ok k) allok_nil) holds_nil) (by kernel_rfl) Tryz.func93 (by kernel_rfl) impl_Decl_names.ann impl_Decl_names.A impl_Decl_names.R (fun x y h => (impl_Decl_names.ev k x).trans h) (by kernel_rfl)

/-! loop.example/g00719/impl.isLetter -/
def impl_isLetter.A : Sh := (.cons (.pur (.int .u8)) .nil)
def impl_isLetter.R : Sh := (.cons (.pur .bool) .nil)
def impl_isLetter.ann : Ann := { loops := [], joins := [(1, [(2, .bool)])], keys := [] }
noncomputable def impl_isLetter (k : Nat) : (Int × Unit) → Option ((Bool × Unit) × (Unit × Unit)) := fun x => match x with
 | (c, ()) =>
  (br k (decide (c ≥ 97))
  (some (decide (c ≤ 122), ()))
  (some (false, ())) : Option (Bool × Unit)).bind fun j1 =>
  some ((j1.1, ()), ((), ()))
noncomputable def impl_isLetter.sg (k : Nat) : Sig := ⟨impl_isLetter.A, impl_isLetter.R, impl_isLetter k⟩
noncomputable def impl_isLetter.C (k : Nat) : Ctx := ⟨Tryz.prog, [], k⟩
theorem impl_isLetter.ev (k : Nat) (x : impl_isLetter.A.T) : evFunc (impl_isLetter.C k) impl_isLetter.ann Tryz.f129 impl_isLetter.A impl_isLetter.R x = impl_isLetter k x := by kernel_rfl
theorem impl_isLetter.ok {L : List (Nat × Obj)}  (k : Nat) : SigHolds Tryz.prog L 129 (impl_isLetter.sg k) :=
  sig_of_ev (C := impl_isLetter.C k) holds_nil (by kernel_rfl) Tryz.func129 (by kernel_rfl) impl_isLetter.ann impl_isLetter.A impl_isLetter.R (fun x y h => (impl_isLetter.ev k x).trans h) (by kernel_rfl)

/-! loop.example/g00719/impl.within -/
def impl_within.A : Sh := (.cons (.pur (.int .i64)) (.cons (.pur (.int .i64)) (.cons (.pur (.int .i64)) .nil)))
def impl_within.R : Sh := (.cons (.pur .bool) .nil)
def impl_within.ann : Ann := { loops := [], joins := [(1, [(6, .bool)])], keys := [] }
noncomputable def impl_within (k : Nat) : (Int × Int × Int × Unit) → Option ((Bool × Unit) × (Unit × Unit × Unit × Unit)) := fun x => match x with
 | (n, low, high, ()) =>
  (br k (decide (low ≤ n))
  (some (decide (n ≤ high), ()))
  (some (false, ())) : Option (Bool × Unit)).bind fun j1 =>
  some ((j1.1, ()), ((), (), (), ()))
noncomputable def impl_within.sg (k : Nat) : Sig := ⟨impl_within.A, impl_within.R, impl_within k⟩
noncomputable def impl_within.C (k : Nat) : Ctx := ⟨Tryz.prog, [], k⟩
theorem impl_within.ev (k : Nat) (x : impl_within.A.T) : evFunc (impl_within.C k) impl_within.ann Tryz.f29 impl_within.A impl_within.R x = impl_within k x := by kernel_rfl
theorem impl_within.ok {L : List (Nat × Obj)}  (k : Nat) : SigHolds Tryz.prog L 29 (impl_within.sg k) :=
  sig_of_ev (C := impl_within.C k) holds_nil (by kernel_rfl) Tryz.func29 (by kernel_rfl) impl_within.ann impl_within.A impl_within.R (fun x y h => (impl_within.ev k x).trans h) (by kernel_rfl)

/-! slices.Index[[]string,string] -/
def slices_Index_string_string.A : Sh := (.cons (.pur (.sl false .str)) (.cons (.pur .str) .nil))
def slices_Index_string_string.R : Sh := (.cons (.pur (.int .i64)) .nil)
def slices_Index_string_string.ann : Ann := { loops := [(0, [(0, (.pur (.sl false .str))), (1, (.pur .str)), (7, (.pur (.int .i64))), (8, (.pur (.int .i64)))])], joins := [], keys := [] }
noncomputable def slices_Index_string_string.l0 (k : Nat)  (G0 : ((List (List UInt8)) × (List UInt8) × Int × Int × Unit) → Option ((Int × Unit) × (Unit × Unit × Unit))) : ((List (List UInt8)) × (List UInt8) × Int × Int × Unit) → Option ((Int × Unit) × (Unit × Unit × Unit)) := fun x => match x with
 | (s_, v, t7, t8, ()) =>
  br k (decide (t8 < t7))
  (br k (decide (0 ≤ t8))
  (bd k (s_[t8.toNat]?) fun x1 =>
  br k (v == x1)
  (some ((t8, ()), ((), (), ())))
  (G0 (s_, v, t7, IntKind.wrap .i64 (t8 + 1), ())))
  none)
  (some (((-1), ()), ((), (), ())))
noncomputable def slices_Index_string_string (k : Nat) : ((List (List UInt8)) × (List UInt8) × Unit) → Option ((Int × Unit) × (Unit × Unit × Unit)) := fun x => match x with
 | (s_, v, ()) =>
  iter (slices_Index_string_string.l0 k) k (s_, v, (s_.length : Int), 0, ())
noncomputable def slices_Index_string_string.sg (k : Nat) : Sig := ⟨slices_Index_string_string.A, slices_Index_string_string.R, slices_Index_string_string k⟩
noncomputable def slices_Index_string_string.C (k : Nat) : Ctx := ⟨Tryz.prog, [], k⟩
theorem slices_Index_string_string.ev (k : Nat) (x : slices_Index_string_string.A.T) : evFunc (slices_Index_string_string.C k) slices_Index_string_string.ann Tryz.f131 slices_Index_string_string.A slices_Index_string_string.R x = slices_Index_string_string k x := by kernel_rfl
theorem slices_Index_string_string.ok {L : List (Nat × Obj)}  (k : Nat) : SigHolds Tryz.prog L 131 (slices_Index_string_string.sg k) :=
  sig_of_ev (C := slices_Index_string_string.C k) holds_nil (by kernel_rfl) Tryz.func131 (by kernel_rfl) slices_Index_string_string.ann slices_Index_string_string.A slices_Index_string_string.R (fun x y h => (slices_Index_string_string.ev k x).trans h) (by kernel_rfl)

/-! slices.Contains[[]string,string] -/
def slices_Contains_string_string.A : Sh := (.cons (.pur (.sl false .str)) (.cons (.pur .str) .nil))
def slices_Contains_string_string.R : Sh := (.cons (.pur .bool) .nil)
def slices_Contains_string_string.ann : Ann := { loops := [], joins := [], keys := [] }
noncomputable def slices_Contains_string_string (k : Nat) : ((List (List UInt8)) × (List UInt8) × Unit) → Option ((Bool × Unit) × (Unit × Unit × Unit)) := fun x => match x with
 | (s_, v, ()) =>
  bd k (slices_Index_string_string k (s_, v, ())) fun y1 =>
  some ((decide (y1.1.1 ≥ 0), ()), ((), (), ()))
noncomputable def slices_Contains_string_string.sg (k : Nat) : Sig := ⟨slices_Contains_string_string.A, slices_Contains_string_string.R, slices_Contains_string_string k⟩
noncomputable def slices_Contains_string_string.C (k : Nat) : Ctx := ⟨Tryz.prog, [(131, [slices_Index_string_string.sg k])], k⟩
theorem slices_Contains_string_string.ev (k : Nat) (x : slices_Contains_string_string.A.T) : evFunc (slices_Contains_string_string.C k) slices_Contains_string_string.ann Tryz.f95 slices_Contains_string_string.A slices_Contains_string_string.R x = slices_Contains_string_string k x := by kernel_rfl
theorem slices_Contains_string_string.ok {L : List (Nat × Obj)}  (k : Nat) : SigHolds Tryz.prog L 95 (slices_Contains_string_string.sg k) :=
  sig_of_ev (C := slices_Contains_string_string.C k) (holds_cons (allok_cons (slices_Index_string_string.ok k) allok_nil) holds_nil) (by kernel_rfl) Tryz.func95 (by kernel_rfl) slices_Contains_string_string.ann slices_Contains_string_string.A slices_Contains_string_string.R (fun x y h => (slices_Contains_string_string.ev k x).trans h) (by kernel_rfl)

/-! loop.example/g00719/impl.isWord -/
def impl_isWord.A : Sh := (.cons (.pur .str) .nil)
def impl_isWord.R : Sh := (.cons (.pur .bool) .nil)
def impl_isWord.ann : Ann := { loops := [], joins := [], keys := [] }
noncomputable def impl_isWord (k : Nat) : ((List UInt8) × Unit) → Option ((Bool × Unit) × (Unit × Unit)) := fun x => match x with
 | (s_, ()) =>
  bd k (Lb.Fields k ([118, 97, 114, 32, 102, 108, 97, 103, 32, 97, 114, 114, 97, 121, 32, 105, 102, 32, 102, 111, 114, 107, 32, 101, 108, 115, 101, 32, 101, 110, 100, 32, 119, 104, 105, 108, 101, 32, 117, 110, 114, 111, 108, 108, 32, 97, 115, 115, 101, 114, 116, 32, 97, 115, 115, 117, 109, 101, 32, 105, 110, 112, 117, 116, 32, 115, 112, 108, 105, 116, 32, 109, 101, 114, 103, 101, 32, 116, 114, 117, 101, 32, 102, 97, 108, 115, 101], ())) fun y1 =>
  bd k (slices_Contains_string_string k (y1.1.1, s_, ())) fun y2 =>
  some ((y2.1.1, ()), ((), ()))
noncomputable def impl_isWord.sg (k : Nat) : Sig := ⟨impl_isWord.A, impl_isWord.R, impl_isWord k⟩
noncomputable def impl_isWord.C (k : Nat) : Ctx := ⟨Tryz.prog, [(160, [Lb.Fields.sg k]), (95, [slices_Contains_string_string.sg k])], k⟩
theorem impl_isWord.ev (k : Nat) (x : impl_isWord.A.T) : evFunc (impl_isWord.C k) impl_isWord.ann Tryz.f130 impl_isWord.A impl_isWord.R x = impl_isWord k x := by kernel_rfl
theorem impl_isWord.ok {L : List (Nat × Obj)} (hSp : Lb.NeedSp L) (k : Nat) : SigHolds Tryz.prog L 130 (impl_isWord.sg k) :=
  sig_of_ev (C := impl_isWord.C k) (holds_cons (allok_cons (Lb.Fields.ok hSp k) allok_nil) (holds_cons (allok_cons (slices_Contains_string_string.ok k) allok_nil) holds_nil)) (by kernel_rfl) Tryz.func130 (by kernel_rfl) impl_isWord.ann impl_isWord.A impl_isWord.R (fun x y h => (impl_isWord.ev k x).trans h) (by kernel_rfl)

/-! loop.example/g00719/impl.isName -/
def impl_isName.A : Sh := (.cons (.pur .str) .nil)
def impl_isName.R : Sh := (.cons (.pur .bool) .nil)
def impl_isName.ann : Ann := { loops := [(0, [(0, (.pur .str)), (5, (.pur (.int .i64))), (6, (.pur (.int .i64)))])], joins := [(7, [(2, .bool)])], keys := [] }
noncomputable def impl_isName.l0 (k : Nat)  (G0 : ((List UInt8) × Int × Int × Unit) → Option ((Bool × Unit) × (Unit × Unit))) : ((List UInt8) × Int × Int × Unit) → Option ((Bool × Unit) × (Unit × Unit)) := fun x => match x with
 | (s_, t5, t6, ()) =>
  br k (decide (t6 < t5))
  (br k (decide (0 ≤ t6))
  (bd k (s_[t6.toNat]?) fun b1 =>
  bd k (impl_isLetter k ((b1.toNat : Int), ())) fun y2 =>
  br k (!y2.1.1)
  (some ((false, ()), ((), ())))
  (G0 (s_, t5, IntKind.wrap .i64 (t6 + 1), ())))
  none)
  ((bd k (impl_within k ((s_.length : Int), 1, 8, ())) fun y3 =>
  br k (y3.1.1)
  (bd k (impl_isWord k (s_, ())) fun y4 =>
  some (!y4.1.1, ()))
  (some (false, ())) : Option (Bool × Unit)).bind fun j5 =>
  some ((j5.1, ()), ((), ())))
noncomputable def impl_isName (k : Nat) : ((List UInt8) × Unit) → Option ((Bool × Unit) × (Unit × Unit)) := fun x => match x with
 | (s_, ()) =>
  iter (impl_isName.l0 k) k (s_, (s_.length : Int), 0, ())
noncomputable def impl_isName.sg (k : Nat) : Sig := ⟨impl_isName.A, impl_isName.R, impl_isName k⟩
noncomputable def impl_isName.C (k : Nat) : Ctx := ⟨Tryz.prog, [(129, [impl_isLetter.sg k]), (29, [impl_within.sg k]), (130, [impl_isWord.sg k])], k⟩
theorem impl_isName.ev (k : Nat) (x : impl_isName.A.T) : evFunc (impl_isName.C k) impl_isName.ann Tryz.f94 impl_isName.A impl_isName.R x = impl_isName k x := by kernel_rfl
theorem impl_isName.ok {L : List (Nat × Obj)} (hSp : Lb.NeedSp L) (k : Nat) : SigHolds Tryz.prog L 94 (impl_isName.sg k) :=
  sig_of_ev (C := impl_isName.C k) (holds_cons (allok_cons (impl_isLetter.ok k) allok_nil) (holds_cons (allok_cons (impl_within.ok k) allok_nil) (holds_cons (allok_cons (impl_isWord.ok hSp k) allok_nil) holds_nil))) (by kernel_rfl) Tryz.func94 (by kernel_rfl) impl_isName.ann impl_isName.A impl_isName.R (fun x y h => (impl_isName.ev k x).trans h) (by kernel_rfl)

/-! (loop.example/g00719/impl.Decl).isRight$1 -/
def impl_Decl_isRight_1.A : Sh := (.cons (.pur (.cons .str (.cons (.int .i64) .nil))) .nil)
def impl_Decl_isRight_1.R : Sh := (.cons (.pur .bool) .nil)
def impl_Decl_isRight_1.ann : Ann := { loops := [], joins := [], keys := [] }
noncomputable def impl_Decl_isRight_1 (k : Nat) : (((List UInt8) × Int × Unit) × Unit) → Option ((Bool × Unit) × (Unit × Unit)) := fun x => match x with
 | (a, ()) =>
  bd k (impl_within k (a.2.1, 1, 16, ())) fun y1 =>
  some ((y1.1.1, ()), ((), ()))
noncomputable def impl_Decl_isRight_1.sg (k : Nat) : Sig := ⟨impl_Decl_isRight_1.A, impl_Decl_isRight_1.R, impl_Decl_isRight_1 k⟩
noncomputable def impl_Decl_isRight_1.C (k : Nat) : Ctx := ⟨Tryz.prog, [(29, [impl_within.sg k])], k⟩
theorem impl_Decl_isRight_1.ev (k : Nat) (x : impl_Decl_isRight_1.A.T) : evFunc (impl_Decl_isRight_1.C k) impl_Decl_isRight_1.ann Tryz.f96 impl_Decl_isRight_1.A impl_Decl_isRight_1.R x = impl_Decl_isRight_1 k x := by kernel_rfl
theorem impl_Decl_isRight_1.ok {L : List (Nat × Obj)}  (k : Nat) : SigHolds Tryz.prog L 96 (impl_Decl_isRight_1.sg k) :=
  sig_of_ev (C := impl_Decl_isRight_1.C k) (holds_cons (allok_cons (impl_within.ok k) allok_nil) holds_nil) (by kernel_rfl) Tryz.func96 (by kernel_rfl) impl_Decl_isRight_1.ann impl_Decl_isRight_1.A impl_Decl_isRight_1.R (fun x y h => (impl_Decl_isRight_1.ev k x).trans h) (by kernel_rfl)

/-! loop.example/g00719/impl.areAll[loop.example/g00719/impl.Arr]$1 -/
def impl_areAll_impl_Arr_1.A : Sh := (.cons (.pur (.cons .str (.cons (.int .i64) .nil))) (.cons (.box (.cons (.fn (.func 96) 0 .nil) .nil)) .nil))
def impl_areAll_impl_Arr_1.R : Sh := (.cons (.pur .bool) .nil)
def impl_areAll_impl_Arr_1.ann : Ann := { loops := [], joins := [], keys := [] }
noncomputable def impl_areAll_impl_Arr_1 (k : Nat) : (((List UInt8) × Int × Unit) × ((Unit) × Unit) × Unit) → Option ((Bool × Unit) × (Unit × ((Unit) × Unit) × Unit)) := fun x => match x with
 | (x_, ((()), ()), ()) =>
  bd k (impl_Decl_isRight_1 k (x_, ())) fun y1 =>
  some ((!y1.1.1, ()), ((), ((()), ()), ()))
noncomputable def impl_areAll_impl_Arr_1.sg (k : Nat) : Sig := ⟨impl_areAll_impl_Arr_1.A, impl_areAll_impl_Arr_1.R, impl_areAll_impl_Arr_1 k⟩
noncomputable def impl_areAll_impl_Arr_1.C (k : Nat) : Ctx := ⟨Tryz.prog, [(96, [impl_Decl_isRight_1.sg k])], k⟩
theorem impl_areAll_impl_Arr_1.ev (k : Nat) (x : impl_areAll_impl_Arr_1.A.T) : evFunc (impl_areAll_impl_Arr_1.C k) impl_areAll_impl_Arr_1.ann Tryz.f133 impl_areAll_impl_Arr_1.A impl_areAll_impl_Arr_1.R x = impl_areAll_impl_Arr_1 k x := by kernel_rfl
theorem impl_areAll_impl_Arr_1.ok {L : List (Nat × Obj)}  (k : Nat) : SigHolds Tryz.prog L 133 (impl_areAll_impl_Arr_1.sg k) :=
  sig_of_ev (C := impl_areAll_impl_Arr_1.C k) (holds_cons (allok_cons (impl_Decl_isRight_1.ok k) allok_nil) holds_nil) (by kernel_rfl) Tryz.func133 (by kernel_rfl) impl_areAll_impl_Arr_1.ann impl_areAll_impl_Arr_1.A impl_areAll_impl_Arr_1.R (fun x y h => (impl_areAll_impl_Arr_1.ev k x).trans h) (by kernel_rfl)

/-! slices.IndexFunc[[]loop.example/g00719/impl.Arr,loop.example/g00719/impl.Arr] -/
def slices_IndexFunc_impl_Arr_impl_Arr.A : Sh := (.cons (.pur (.sl false (.cons .str (.cons (.int .i64) .nil)))) (.cons (.fn (.func 133) 0 (.cons (.box (.cons (.fn (.func 96) 0 .nil) .nil)) .nil)) .nil))
def slices_IndexFunc_impl_Arr_impl_Arr.R : Sh := (.cons (.pur (.int .i64)) .nil)
def slices_IndexFunc_impl_Arr_impl_Arr.ann : Ann := { loops := [(0, [(0, (.pur (.sl false (.cons .str (.cons (.int .i64) .nil))))), (1, (.fn (.func 133) 0 (.cons (.box (.cons (.fn (.func 96) 0 .nil) .nil)) .nil))), (7, (.pur (.int .i64))), (8, (.pur (.int .i64)))])], joins := [], keys := [] }
noncomputable def slices_IndexFunc_impl_Arr_impl_Arr.l0 (k : Nat)  (G0 : ((List ((List UInt8) × Int × Unit)) × (((Unit) × Unit) × Unit) × Int × Int × Unit) → Option ((Int × Unit) × (Unit × (((Unit) × Unit) × Unit) × Unit))) : ((List ((List UInt8) × Int × Unit)) × (((Unit) × Unit) × Unit) × Int × Int × Unit) → Option ((Int × Unit) × (Unit × (((Unit) × Unit) × Unit) × Unit)) := fun x => match x with
 | (s_, (((()), ()), ()), t7, t8, ()) =>
  br k (decide (t8 < t7))
  (br k (decide (0 ≤ t8))
  (bd k (s_[t8.toNat]?) fun x1 =>
  bd k (impl_areAll_impl_Arr_1 k (x1, ((()), ()), ())) fun y2 =>
  br k (y2.1.1)
  (some ((t8, ()), ((), (((()), ()), ()), ())))
  (G0 (s_, (((()), ()), ()), t7, IntKind.wrap .i64 (t8 + 1), ())))
  none)
  (some (((-1), ()), ((), (((()), ()), ()), ())))
noncomputable def slices_IndexFunc_impl_Arr_impl_Arr (k : Nat) : ((List ((List UInt8) × Int × Unit)) × (((Unit) × Unit) × Unit) × Unit) → Option ((Int × Unit) × (Unit × (((Unit) × Unit) × Unit) × Unit)) := fun x => match x with
 | (s_, (((()), ()), ()), ()) =>
  iter (slices_IndexFunc_impl_Arr_impl_Arr.l0 k) k (s_, (((()), ()), ()), (s_.length : Int), 0, ())
noncomputable def slices_IndexFunc_impl_Arr_impl_Arr.sg (k : Nat) : Sig := ⟨slices_IndexFunc_impl_Arr_impl_Arr.A, slices_IndexFunc_impl_Arr_impl_Arr.R, slices_IndexFunc_impl_Arr_impl_Arr k⟩
noncomputable def slices_IndexFunc_impl_Arr_impl_Arr.C (k : Nat) : Ctx := ⟨Tryz.prog, [(133, [impl_areAll_impl_Arr_1.sg k])], k⟩
theorem slices_IndexFunc_impl_Arr_impl_Arr.ev (k : Nat) (x : slices_IndexFunc_impl_Arr_impl_Arr.A.T) : evFunc (slices_IndexFunc_impl_Arr_impl_Arr.C k) slices_IndexFunc_impl_Arr_impl_Arr.ann Tryz.f161 slices_IndexFunc_impl_Arr_impl_Arr.A slices_IndexFunc_impl_Arr_impl_Arr.R x = slices_IndexFunc_impl_Arr_impl_Arr k x := by kernel_rfl
theorem slices_IndexFunc_impl_Arr_impl_Arr.ok {L : List (Nat × Obj)}  (k : Nat) : SigHolds Tryz.prog L 161 (slices_IndexFunc_impl_Arr_impl_Arr.sg k) :=
  sig_of_ev (C := slices_IndexFunc_impl_Arr_impl_Arr.C k) (holds_cons (allok_cons (impl_areAll_impl_Arr_1.ok k) allok_nil) holds_nil) (by kernel_rfl) Tryz.func161 (by kernel_rfl) slices_IndexFunc_impl_Arr_impl_Arr.ann slices_IndexFunc_impl_Arr_impl_Arr.A slices_IndexFunc_impl_Arr_impl_Arr.R (fun x y h => (slices_IndexFunc_impl_Arr_impl_Arr.ev k x).trans h) (by kernel_rfl)

/-! slices.ContainsFunc[[]loop.example/g00719/impl.Arr,loop.example/g00719/impl.Arr] -/
def slices_ContainsFunc_impl_Arr_impl_Arr.A : Sh := (.cons (.pur (.sl false (.cons .str (.cons (.int .i64) .nil)))) (.cons (.fn (.func 133) 0 (.cons (.box (.cons (.fn (.func 96) 0 .nil) .nil)) .nil)) .nil))
def slices_ContainsFunc_impl_Arr_impl_Arr.R : Sh := (.cons (.pur .bool) .nil)
def slices_ContainsFunc_impl_Arr_impl_Arr.ann : Ann := { loops := [], joins := [], keys := [] }
noncomputable def slices_ContainsFunc_impl_Arr_impl_Arr (k : Nat) : ((List ((List UInt8) × Int × Unit)) × (((Unit) × Unit) × Unit) × Unit) → Option ((Bool × Unit) × (Unit × (((Unit) × Unit) × Unit) × Unit)) := fun x => match x with
 | (s_, (((()), ()), ()), ()) =>
  bd k (slices_IndexFunc_impl_Arr_impl_Arr k (s_, (((()), ()), ()), ())) fun y1 =>
  some ((decide (y1.1.1 ≥ 0), ()), ((), (((()), ()), ()), ()))
noncomputable def slices_ContainsFunc_impl_Arr_impl_Arr.sg (k : Nat) : Sig := ⟨slices_ContainsFunc_impl_Arr_impl_Arr.A, slices_ContainsFunc_impl_Arr_impl_Arr.R, slices_ContainsFunc_impl_Arr_impl_Arr k⟩
noncomputable def slices_ContainsFunc_impl_Arr_impl_Arr.C (k : Nat) : Ctx := ⟨Tryz.prog, [(161, [slices_IndexFunc_impl_Arr_impl_Arr.sg k])], k⟩
theorem slices_ContainsFunc_impl_Arr_impl_Arr.ev (k : Nat) (x : slices_ContainsFunc_impl_Arr_impl_Arr.A.T) : evFunc (slices_ContainsFunc_impl_Arr_impl_Arr.C k) slices_ContainsFunc_impl_Arr_impl_Arr.ann Tryz.f132 slices_ContainsFunc_impl_Arr_impl_Arr.A slices_ContainsFunc_impl_Arr_impl_Arr.R x = slices_ContainsFunc_impl_Arr_impl_Arr k x := by kernel_rfl
theorem slices_ContainsFunc_impl_Arr_impl_Arr.ok {L : List (Nat × Obj)}  (k : Nat) : SigHolds Tryz.prog L 132 (slices_ContainsFunc_impl_Arr_impl_Arr.sg k) :=
  sig_of_ev (C := slices_ContainsFunc_impl_Arr_impl_Arr.C k) (holds_cons (allok_cons (slices_IndexFunc_impl_Arr_impl_Arr.ok k) allok_nil) holds_nil) (by kernel_rfl) Tryz.func132 (by kernel_rfl) slices_ContainsFunc_impl_Arr_impl_Arr.ann slices_ContainsFunc_impl_Arr_impl_Arr.A slices_ContainsFunc_impl_Arr_impl_Arr.R (fun x y h => (slices_ContainsFunc_impl_Arr_impl_Arr.ev k x).trans h) (by kernel_rfl)

/-! loop.example/g00719/impl.areAll[loop.example/g00719/impl.Arr] -/
def impl_areAll_impl_Arr.A : Sh := (.cons (.pur (.sl false (.cons .str (.cons (.int .i64) .nil)))) (.cons (.fn (.func 96) 0 .nil) .nil))
def impl_areAll_impl_Arr.R : Sh := (.cons (.pur .bool) .nil)
def impl_areAll_impl_Arr.ann : Ann := { loops := [], joins := [], keys := [] }
noncomputable def impl_areAll_impl_Arr (k : Nat) : ((List ((List UInt8) × Int × Unit)) × (Unit) × Unit) → Option ((Bool × Unit) × (Unit × (Unit) × Unit)) := fun x => match x with
 | (list, (()), ()) =>
  bd k (slices_ContainsFunc_impl_Arr_impl_Arr k (list, (((()), ()), ()), ())) fun y1 =>
  some ((!y1.1.1, ()), ((), (()), ()))
noncomputable def impl_areAll_impl_Arr.sg (k : Nat) : Sig := ⟨impl_areAll_impl_Arr.A, impl_areAll_impl_Arr.R, impl_areAll_impl_Arr k⟩
noncomputable def impl_areAll_impl_Arr.C (k : Nat) : Ctx := ⟨Tryz.prog, [(132, [slices_ContainsFunc_impl_Arr_impl_Arr.sg k])], k⟩
theorem impl_areAll_impl_Arr.ev (k : Nat) (x : impl_areAll_impl_Arr.A.T) : evFunc (impl_areAll_impl_Arr.C k) impl_areAll_impl_Arr.ann Tryz.f97 impl_areAll_impl_Arr.A impl_areAll_impl_Arr.R x = impl_areAll_impl_Arr k x := by kernel_rfl
theorem impl_areAll_impl_Arr.ok {L : List (Nat × Obj)}  (k : Nat) : SigHolds Tryz.prog L 97 (impl_areAll_impl_Arr.sg k) :=
  sig_of_ev (C := impl_areAll_impl_Arr.C k) (holds_cons (allok_cons (slices_ContainsFunc_impl_Arr_impl_Arr.ok k) allok_nil) holds_nil) (by kernel_rfl) Tryz.func97 (by kernel_rfl) impl_areAll_impl_Arr.ann impl_areAll_impl_Arr.A impl_areAll_impl_Arr.R (fun x y h => (impl_areAll_impl_Arr.ev k x).trans h) (by kernel_rfl)

/-! (loop.example/g00719/impl.Decl).isRight -/
def impl_Decl_isRight.A : Sh := (.cons (.pur (.cons (.sl false .str) (.cons (.sl false .str) (.cons (.sl false (.cons .str (.cons (.int .i64) .nil))) .nil)))) .nil)
def impl_Decl_isRight.R : Sh := (.cons (.pur .bool) .nil)
def impl_Decl_isRight.ann : Ann := { loops := [(0, [(1, (.box (.cons (.pur (.sl false .str)) (.cons (.pur (.sl false .str)) (.cons (.pur (.sl false (.cons .str (.cons (.int .i64) .nil)))) .nil))))), (3, (.pur (.sl false .str))), (9, (.pur (.sl false .str))), (10, (.pur (.int .i64))), (11, (.pur (.int .i64)))])], joins := [(5, [(25, .bool)])], keys := [] }
noncomputable def impl_Decl_isRight.l0 (k : Nat)  (G0 : (((List (List UInt8)) × (List (List UInt8)) × (List ((List UInt8) × Int × Unit)) × Unit) × (List (List UInt8)) × (List (List UInt8)) × Int × Int × Unit) → Option ((Bool × Unit) × (Unit × Unit))) : (((List (List UInt8)) × (List (List UInt8)) × (List ((List UInt8) × Int × Unit)) × Unit) × (List (List UInt8)) × (List (List UInt8)) × Int × Int × Unit) → Option ((Bool × Unit) × (Unit × Unit)) := fun x => match x with
 | ((d__0, d__1, d__2, ()), list, t9, t10, t11, ()) =>
  br k (decide (t11 < t10))
  (br k (decide (0 ≤ t11))
  (bd k (t9[t11.toNat]?) fun x2 =>
  (bd k (impl_isName k (x2, ())) fun y3 =>
  br k (!y3.1.1)
  (some (true, ()))
  (br k (decide (0 ≤ t11 ∧ t11 ≤ (list.length : Int)))
  (bd k (slices_Contains_string_string k (list.take t11.toNat, x2, ())) fun y4 =>
  some (y4.1.1, ()))
  none) : Option (Bool × Unit)).bind fun j5 =>
  br k (j5.1)
  (some ((false, ()), ((), ())))
  (G0 ((d__0, d__1, d__2, ()), list, t9, t10, IntKind.wrap .i64 (t11 + 1), ())))
  none)
  (br k (decide ((d__0.length : Int) ≤ 5))
  (br k (decide ((d__1.length : Int) ≤ 3))
  (br k (decide ((d__2.length : Int) ≤ 2))
  (bd k (impl_areAll_impl_Arr k (d__2, (()), ())) fun y6 =>
  some ((y6.1.1, ()), ((), ())))
  (some ((false, ()), ((), ()))))
  (some ((false, ()), ((), ()))))
  (some ((false, ()), ((), ()))))
noncomputable def impl_Decl_isRight (k : Nat) : (((List (List UInt8)) × (List (List UInt8)) × (List ((List UInt8) × Int × Unit)) × Unit) × Unit) → Option ((Bool × Unit) × (Unit × Unit)) := fun x => match x with
 | (d_, ()) =>
  bd k (impl_Decl_names k (d_, ())) fun y1 =>
  iter (impl_Decl_isRight.l0 k) k ((d_.1, d_.2.1, d_.2.2.1, ()), y1.1.1, y1.1.1, (y1.1.1.length : Int), 0, ())
noncomputable def impl_Decl_isRight.sg (k : Nat) : Sig := ⟨impl_Decl_isRight.A, impl_Decl_isRight.R, impl_Decl_isRight k⟩
noncomputable def impl_Decl_isRight.C (k : Nat) : Ctx := ⟨Tryz.prog, [(93, [impl_Decl_names.sg k]), (94, [impl_isName.sg k]), (95, [slices_Contains_string_string.sg k]), (97, [impl_areAll_impl_Arr.sg k])], k⟩
theorem impl_Decl_isRight.ev (k : Nat) (x : impl_Decl_isRight.A.T) : evFunc (impl_Decl_isRight.C k) impl_Decl_isRight.ann Tryz.f61 impl_Decl_isRight.A impl_Decl_isRight.R x = impl_Decl_isRight k x := by kernel_rfl
theorem impl_Decl_isRight.ok {L : List (Nat × Obj)} (hSp : Lb.NeedSp L) (k : Nat) : SigHolds Tryz.prog L 61 (impl_Decl_isRight.sg k) :=
  sig_of_ev (C := impl_Decl_isRight.C k) (holds_cons (allok_cons (impl_Decl_names.ok k) allok_nil) (holds_cons (allok_cons (impl_isName.ok hSp k) allok_nil) (holds_cons (allok_cons (slices_Contains_string_string.ok k) allok_nil) (holds_cons (allok_cons (impl_areAll_impl_Arr.ok k) allok_nil) holds_nil)))) (by kernel_rfl) Tryz.func61 (by kernel_rfl) impl_Decl_isRight.ann impl_Decl_isRight.A impl_Decl_isRight.R (fun x y h => (impl_Decl_isRight.ev k x).trans h) (by kernel_rfl)

/-! loop.example/g00719/impl.kindOfE -/
def impl_kindOfE.A : Sh := (.cons (.pur (.int .i64)) .nil)
def impl_kindOfE.R : Sh := (.cons (.pur (.int .i64)) .nil)
def impl_kindOfE.ann : Ann := { loops := [], joins := [], keys := [] }
noncomputable def impl_kindOfE (k : Nat) : (Int × Unit) → Option ((Int × Unit) × (Unit × Unit)) := fun x => match x with
 | (kind, ()) =>
  br k (kind == 1)
  (br k (kind == 1)
  (some ((1, ()), ((), ())))
  (br k (kind == 2)
  (br k (kind == 2)
  (some ((2, ()), ((), ())))
  (some ((0, ()), ((), ()))))
  (br k (kind == 5)
  (br k (kind == 5)
  (some ((2, ()), ((), ())))
  (some ((0, ()), ((), ()))))
  (br k (kind == 6)
  (br k (kind == 6)
  (some ((2, ()), ((), ())))
  (some ((0, ()), ((), ()))))
  (br k (kind == 9)
  (br k (kind == 9)
  (some ((2, ()), ((), ())))
  (some ((0, ()), ((), ()))))
  (br k (kind == 10)
  (br k (kind == 10)
  (some ((2, ()), ((), ())))
  (some ((0, ()), ((), ()))))
  (br k (kind == 11)
  (br k (kind == 11)
  (some ((2, ()), ((), ())))
  (some ((0, ()), ((), ()))))
  (br k (kind == 12)
  (some ((2, ()), ((), ())))
  (some ((0, ()), ((), ())))))))))))
  (br k (kind == 3)
  (some ((1, ()), ((), ())))
  (br k (kind == 2)
  (br k (kind == 2)
  (some ((2, ()), ((), ())))
  (some ((0, ()), ((), ()))))
  (br k (kind == 5)
  (br k (kind == 5)
  (some ((2, ()), ((), ())))
  (some ((0, ()), ((), ()))))
  (br k (kind == 6)
  (br k (kind == 6)
  (some ((2, ()), ((), ())))
  (some ((0, ()), ((), ()))))
  (br k (kind == 9)
  (br k (kind == 9)
  (some ((2, ()), ((), ())))
  (some ((0, ()), ((), ()))))
  (br k (kind == 10)
  (br k (kind == 10)
  (some ((2, ()), ((), ())))
  (some ((0, ()), ((), ()))))
  (br k (kind == 11)
  (br k (kind == 11)
  (some ((2, ()), ((), ())))
  (some ((0, ()), ((), ()))))
  (br k (kind == 12)
  (some ((2, ()), ((), ())))
  (some ((0, ()), ((), ())))))))))))
noncomputable def impl_kindOfE.sg (k : Nat) : Sig := ⟨impl_kindOfE.A, impl_kindOfE.R, impl_kindOfE k⟩
noncomputable def impl_kindOfE.C (k : Nat) : Ctx := ⟨Tryz.prog, [], k⟩
theorem impl_kindOfE.ev (k : Nat) (x : impl_kindOfE.A.T) : evFunc (impl_kindOfE.C k) impl_kindOfE.ann Tryz.f100 impl_kindOfE.A impl_kindOfE.R x = impl_kindOfE k x := by kernel_rfl
theorem impl_kindOfE.ok {L : List (Nat × Obj)}  (k : Nat) : SigHolds Tryz.prog L 100 (impl_kindOfE.sg k) :=
  sig_of_ev (C := impl_kindOfE.C k) holds_nil (by kernel_rfl) Tryz.func100 (by kernel_rfl) impl_kindOfE.ann impl_kindOfE.A impl_kindOfE.R (fun x y h => (impl_kindOfE.ev k x).trans h) (by kernel_rfl)

/-! loop.example/g00719/impl.size[string] -/
def impl_size_string.A : Sh := (.cons (.pur (.sl false .str)) .nil)
def impl_size_string.R : Sh := (.cons (.pur (.int .i64)) .nil)
def impl_size_string.ann : Ann := { loops := [], joins := [], keys := [] }
noncomputable def impl_size_string (k : Nat) : ((List (List UInt8)) × Unit) → Option ((Int × Unit) × (Unit × Unit)) := fun x => match x with
 | (list, ()) =>
  some (((list.length : Int), ()), ((), ()))
noncomputable def impl_size_string.sg (k : Nat) : Sig := ⟨impl_size_string.A, impl_size_string.R, impl_size_string k⟩
noncomputable def impl_size_string.C (k : Nat) : Ctx := ⟨Tryz.prog, [], k⟩
theorem impl_size_string.ev (k : Nat) (x : impl_size_string.A.T) : evFunc (impl_size_string.C k) impl_size_string.ann Tryz.f102 impl_size_string.A impl_size_string.R x = impl_size_string k x := by kernel_rfl
theorem impl_size_string.ok {L : List (Nat × Obj)}  (k : Nat) : SigHolds Tryz.prog L 102 (impl_size_string.sg k) :=
  sig_of_ev (C := impl_size_string.C k) holds_nil (by kernel_rfl) Tryz.func102 (by kernel_rfl) impl_size_string.ann impl_size_string.A impl_size_string.R (fun x y h => (impl_size_string.ev k x).trans h) (by kernel_rfl)

/-! loop.example/g00719/impl.size[loop.example/g00719/impl.Arr] -/
def impl_size_impl_Arr.A : Sh := (.cons (.pur (.sl false (.cons .str (.cons (.int .i64) .nil)))) .nil)
def impl_size_impl_Arr.R : Sh := (.cons (.pur (.int .i64)) .nil)
def impl_size_impl_Arr.ann : Ann := { loops := [], joins := [], keys := [] }
noncomputable def impl_size_impl_Arr (k : Nat) : ((List ((List UInt8) × Int × Unit)) × Unit) → Option ((Int × Unit) × (Unit × Unit)) := fun x => match x with
 | (list, ()) =>
  some (((list.length : Int), ()), ((), ()))
noncomputable def impl_size_impl_Arr.sg (k : Nat) : Sig := ⟨impl_size_impl_Arr.A, impl_size_impl_Arr.R, impl_size_impl_Arr k⟩
noncomputable def impl_size_impl_Arr.C (k : Nat) : Ctx := ⟨Tryz.prog, [], k⟩
theorem impl_size_impl_Arr.ev (k : Nat) (x : impl_size_impl_Arr.A.T) : evFunc (impl_size_impl_Arr.C k) impl_size_impl_Arr.ann Tryz.f103 impl_size_impl_Arr.A impl_size_impl_Arr.R x = impl_size_impl_Arr k x := by kernel_rfl
theorem impl_size_impl_Arr.ok {L : List (Nat × Obj)}  (k : Nat) : SigHolds Tryz.prog L 103 (impl_size_impl_Arr.sg k) :=
  sig_of_ev (C := impl_size_impl_Arr.C k) holds_nil (by kernel_rfl) Tryz.func103 (by kernel_rfl) impl_size_impl_Arr.ann impl_size_impl_Arr.A impl_size_impl_Arr.R (fun x y h => (impl_size_impl_Arr.ev k x).trans h) (by kernel_rfl)

/-! (loop.example/g00719/impl.Decl).isTok -/
def impl_Decl_isTok.A : Sh := (.cons (.pur (.cons (.sl false .str) (.cons (.sl false .str) (.cons (.sl false (.cons .str (.cons (.int .i64) .nil))) .nil)))) (.cons (.pur (.cons (.int .i64) (.cons (.int .i64) .nil))) .nil))
def impl_Decl_isTok.R : Sh := (.cons (.pur .bool) .nil)
def impl_Decl_isTok.ann : Ann := { loops := [], joins := [(10, [(4, .bool)])], keys := [] }
noncomputable def impl_Decl_isTok (k : Nat) : (((List (List UInt8)) × (List (List UInt8)) × (List ((List UInt8) × Int × Unit)) × Unit) × (Int × Int × Unit) × Unit) → Option ((Bool × Unit) × (Unit × Unit × Unit)) := fun x => match x with
 | (d_, t, ()) =>
  br k (t.1 == 1)
  (bd k (impl_within k (t.2.1, 0, 999999999999999999, ())) fun y1 =>
  some ((y1.1.1, ()), ((), (), ())))
  (br k (t.1 == 2)
  (bd k (impl_size_string k (d_.1, ())) fun y2 =>
  bd k (impl_within k (t.2.1, 0, IntKind.wrap .i64 (y2.1.1 - 1), ())) fun y3 =>
  some ((y3.1.1, ()), ((), (), ())))
  (br k (t.1 == 3)
  (bd k (impl_size_string k (d_.2.1, ())) fun y4 =>
  bd k (impl_within k (t.2.1, 0, IntKind.wrap .i64 (y4.1.1 - 1), ())) fun y5 =>
  some ((y5.1.1, ()), ((), (), ())))
  (br k (t.1 == 6)
  (bd k (impl_size_impl_Arr k (d_.2.2.1, ())) fun y6 =>
  bd k (impl_within k (t.2.1, 0, IntKind.wrap .i64 (y6.1.1 - 1), ())) fun y7 =>
  some ((y7.1.1, ()), ((), (), ())))
  ((bd k (impl_within k (t.1, 4, 21, ())) fun y8 =>
  br k (y8.1.1)
  (some (t.2.1 == 0, ()))
  (some (false, ())) : Option (Bool × Unit)).bind fun j9 =>
  some ((j9.1, ()), ((), (), ()))))))
noncomputable def impl_Decl_isTok.sg (k : Nat) : Sig := ⟨impl_Decl_isTok.A, impl_Decl_isTok.R, impl_Decl_isTok k⟩
noncomputable def impl_Decl_isTok.C (k : Nat) : Ctx := ⟨Tryz.prog, [(29, [impl_within.sg k]), (102, [impl_size_string.sg k]), (103, [impl_size_impl_Arr.sg k])], k⟩
theorem impl_Decl_isTok.ev (k : Nat) (x : impl_Decl_isTok.A.T) : evFunc (impl_Decl_isTok.C k) impl_Decl_isTok.ann Tryz.f136 impl_Decl_isTok.A impl_Decl_isTok.R x = impl_Decl_isTok k x := by kernel_rfl
theorem impl_Decl_isTok.ok {L : List (Nat × Obj)}  (k : Nat) : SigHolds Tryz.prog L 136 (impl_Decl_isTok.sg k) :=
  sig_of_ev (C := impl_Decl_isTok.C k) (holds_cons (allok_cons (impl_within.ok k) allok_nil) (holds_cons (allok_cons (impl_size_string.ok k) allok_nil) (holds_cons (allok_cons (impl_size_impl_Arr.ok k) allok_nil) holds_nil))) (by kernel_rfl) Tryz.func136 (by kernel_rfl) impl_Decl_isTok.ann impl_Decl_isTok.A impl_Decl_isTok.R (fun x y h => (impl_Decl_isTok.ev k x).trans h) (by kernel_rfl)

/-! loop.example/g00719/impl.areAll[loop.example/g00719/impl.Tok]$1 -/
def impl_areAll_impl_Tok_1.A : Sh := (.cons (.pur (.cons (.int .i64) (.cons (.int .i64) .nil))) (.cons (.box (.cons (.fn (.func 136) 1 (.cons (.pur (.cons (.sl false .str) (.cons (.sl false .str) (.cons (.sl false (.cons .str (.cons (.int .i64) .nil))) .nil)))) .nil)) .nil)) .nil))
def impl_areAll_impl_Tok_1.R : Sh := (.cons (.pur .bool) .nil)
def impl_areAll_impl_Tok_1.ann : Ann := { loops := [], joins := [], keys := [] }
noncomputable def impl_areAll_impl_Tok_1 (k : Nat) : ((Int × Int × Unit) × ((((List (List UInt8)) × (List (List UInt8)) × (List ((List UInt8) × Int × Unit)) × Unit) × Unit) × Unit) × Unit) → Option ((Bool × Unit) × (Unit × ((((List (List UInt8)) × (List (List UInt8)) × (List ((List UInt8) × Int × Unit)) × Unit) × Unit) × Unit) × Unit)) := fun x => match x with
 | (x_, ((a1_0_0, ()), ()), ()) =>
  bd k (impl_Decl_isTok k (a1_0_0, x_, ())) fun y1 =>
  some ((!y1.1.1, ()), ((), ((a1_0_0, ()), ()), ()))
noncomputable def impl_areAll_impl_Tok_1.sg (k : Nat) : Sig := ⟨impl_areAll_impl_Tok_1.A, impl_areAll_impl_Tok_1.R, impl_areAll_impl_Tok_1 k⟩
noncomputable def impl_areAll_impl_Tok_1.C (k : Nat) : Ctx := ⟨Tryz.prog, [(136, [impl_Decl_isTok.sg k])], k⟩
theorem impl_areAll_impl_Tok_1.ev (k : Nat) (x : impl_areAll_impl_Tok_1.A.T) : evFunc (impl_areAll_impl_Tok_1.C k) impl_areAll_impl_Tok_1.ann Tryz.f163 impl_areAll_impl_Tok_1.A impl_areAll_impl_Tok_1.R x = impl_areAll_impl_Tok_1 k x := by kernel_rfl
theorem impl_areAll_impl_Tok_1.ok {L : List (Nat × Obj)}  (k : Nat) : SigHolds Tryz.prog L 163 (impl_areAll_impl_Tok_1.sg k) :=
  sig_of_ev (C := impl_areAll_impl_Tok_1.C k) (holds_cons (allok_cons (impl_Decl_isTok.ok k) allok_nil) holds_nil) (by kernel_rfl) Tryz.func163 (by kernel_rfl) impl_areAll_impl_Tok_1.ann impl_areAll_impl_Tok_1.A impl_areAll_impl_Tok_1.R (fun x y h => (impl_areAll_impl_Tok_1.ev k x).trans h) (by kernel_rfl)

/-! slices.IndexFunc[[]loop.example/g00719/impl.Tok,loop.example/g00719/impl.Tok] -/
def slices_IndexFunc_impl_Tok_impl_Tok.A : Sh := (.cons (.pur (.sl false (.cons (.int .i64) (.cons (.int .i64) .nil)))) (.cons (.fn (.func 163) 0 (.cons (.box (.cons (.fn (.func 136) 1 (.cons (.pur (.cons (.sl false .str) (.cons (.sl false .str) (.cons (.sl false (.cons .str (.cons (.int .i64) .nil))) .nil)))) .nil)) .nil)) .nil)) .nil))
def slices_IndexFunc_impl_Tok_impl_Tok.R : Sh := (.cons (.pur (.int .i64)) .nil)
def slices_IndexFunc_impl_Tok_impl_Tok.ann : Ann := { loops := [(0, [(0, (.pur (.sl false (.cons (.int .i64) (.cons (.int .i64) .nil))))), (1, (.fn (.func 163) 0 (.cons (.box (.cons (.fn (.func 136) 1 (.cons (.pur (.cons (.sl false .str) (.cons (.sl false .str) (.cons (.sl false (.cons .str (.cons (.int .i64) .nil))) .nil)))) .nil)) .nil)) .nil))), (7, (.pur (.int .i64))), (8, (.pur (.int .i64)))])], joins := [], keys := [] }
noncomputable def slices_IndexFunc_impl_Tok_impl_Tok.l0 (k : Nat)  (G0 : ((List (Int × Int × Unit)) × (((((List (List UInt8)) × (List (List UInt8)) × (List ((List UInt8) × Int × Unit)) × Unit) × Unit) × Unit) × Unit) × Int × Int × Unit) → Option ((Int × Unit) × (Unit × (((((List (List UInt8)) × (List (List UInt8)) × (List ((List UInt8) × Int × Unit)) × Unit) × Unit) × Unit) × Unit) × Unit))) : ((List (Int × Int × Unit)) × (((((List (List UInt8)) × (List (List UInt8)) × (List ((List UInt8) × Int × Unit)) × Unit) × Unit) × Unit) × Unit) × Int × Int × Unit) → Option ((Int × Unit) × (Unit × (((((List (List UInt8)) × (List (List UInt8)) × (List ((List UInt8) × Int × Unit)) × Unit) × Unit) × Unit) × Unit) × Unit)) := fun x => match x with
 | (s_, (((f_0_0_0, ()), ()), ()), t7, t8, ()) =>
  br k (decide (t8 < t7))
  (br k (decide (0 ≤ t8))
  (bd k (s_[t8.toNat]?) fun x1 =>
  bd k (impl_areAll_impl_Tok_1 k (x1, ((f_0_0_0, ()), ()), ())) fun y2 =>
  br k (y2.1.1)
  (some ((t8, ()), ((), (((y2.2.2.1.1.1, ()), ()), ()), ())))
  (G0 (s_, (((y2.2.2.1.1.1, ()), ()), ()), t7, IntKind.wrap .i64 (t8 + 1), ())))
  none)
  (some (((-1), ()), ((), (((f_0_0_0, ()), ()), ()), ())))
noncomputable def slices_IndexFunc_impl_Tok_impl_Tok (k : Nat) : ((List (Int × Int × Unit)) × (((((List (List UInt8)) × (List (List UInt8)) × (List ((List UInt8) × Int × Unit)) × Unit) × Unit) × Unit) × Unit) × Unit) → Option ((Int × Unit) × (Unit × (((((List (List UInt8)) × (List (List UInt8)) × (List ((List UInt8) × Int × Unit)) × Unit) × Unit) × Unit) × Unit) × Unit)) := fun x => match x with
 | (s_, (((f_0_0_0, ()), ()), ()), ()) =>
  iter (slices_IndexFunc_impl_Tok_impl_Tok.l0 k) k (s_, (((f_0_0_0, ()), ()), ()), (s_.length : Int), 0, ())
noncomputable def slices_IndexFunc_impl_Tok_impl_Tok.sg (k : Nat) : Sig := ⟨slices_IndexFunc_impl_Tok_impl_Tok.A, slices_IndexFunc_impl_Tok_impl_Tok.R, slices_IndexFunc_impl_Tok_impl_Tok k⟩
noncomputable def slices_IndexFunc_impl_Tok_impl_Tok.C (k : Nat) : Ctx := ⟨Tryz.prog, [(163, [impl_areAll_impl_Tok_1.sg k])], k⟩
theorem slices_IndexFunc_impl_Tok_impl_Tok.ev (k : Nat) (x : slices_IndexFunc_impl_Tok_impl_Tok.A.T) : evFunc (slices_IndexFunc_impl_Tok_impl_Tok.C k) slices_IndexFunc_impl_Tok_impl_Tok.ann Tryz.f182 slices_IndexFunc_impl_Tok_impl_Tok.A slices_IndexFunc_impl_Tok_impl_Tok.R x = slices_IndexFunc_impl_Tok_impl_Tok k x := by kernel_rfl
theorem slices_IndexFunc_impl_Tok_impl_Tok.ok {L : List (Nat × Obj)}  (k : Nat) : SigHolds Tryz.prog L 182 (slices_IndexFunc_impl_Tok_impl_Tok.sg k) :=
  sig_of_ev (C := slices_IndexFunc_impl_Tok_impl_Tok.C k) (holds_cons (allok_cons (impl_areAll_impl_Tok_1.ok k) allok_nil) holds_nil) (by kernel_rfl) Tryz.func182 (by kernel_rfl) slices_IndexFunc_impl_Tok_impl_Tok.ann slices_IndexFunc_impl_Tok_impl_Tok.A slices_IndexFunc_impl_Tok_impl_Tok.R (fun x y h => (slices_IndexFunc_impl_Tok_impl_Tok.ev k x).trans h) (by kernel_rfl)

/-! slices.ContainsFunc[[]loop.example/g00719/impl.Tok,loop.example/g00719/impl.Tok] -/
def slices_ContainsFunc_impl_Tok_impl_Tok.A : Sh := (.cons (.pur (.sl false (.cons (.int .i64) (.cons (.int .i64) .nil)))) (.cons (.fn (.func 163) 0 (.cons (.box (.cons (.fn (.func 136) 1 (.cons (.pur (.cons (.sl false .str) (.cons (.sl false .str) (.cons (.sl false (.cons .str (.cons (.int .i64) .nil))) .nil)))) .nil)) .nil)) .nil)) .nil))
def slices_ContainsFunc_impl_Tok_impl_Tok.R : Sh := (.cons (.pur .bool) .nil)
def slices_ContainsFunc_impl_Tok_impl_Tok.ann : Ann := { loops := [], joins := [], keys := [] }
noncomputable def slices_ContainsFunc_impl_Tok_impl_Tok (k : Nat) : ((List (Int × Int × Unit)) × (((((List (List UInt8)) × (List (List UInt8)) × (List ((List UInt8) × Int × Unit)) × Unit) × Unit) × Unit) × Unit) × Unit) → Option ((Bool × Unit) × (Unit × (((((List (List UInt8)) × (List (List UInt8)) × (List ((List UInt8) × Int × Unit)) × Unit) × Unit) × Unit) × Unit) × Unit)) := fun x => match x with
 | (s_, (((f_0_0_0, ()), ()), ()), ()) =>
  bd k (slices_IndexFunc_impl_Tok_impl_Tok k (s_, (((f_0_0_0, ()), ()), ()), ())) fun y1 =>
  some ((decide (y1.1.1 ≥ 0), ()), ((), (((y1.2.2.1.1.1.1, ()), ()), ()), ()))
noncomputable def slices_ContainsFunc_impl_Tok_impl_Tok.sg (k : Nat) : Sig := ⟨slices_ContainsFunc_impl_Tok_impl_Tok.A, slices_ContainsFunc_impl_Tok_impl_Tok.R, slices_ContainsFunc_impl_Tok_impl_Tok k⟩
noncomputable def slices_ContainsFunc_impl_Tok_impl_Tok.C (k : Nat) : Ctx := ⟨Tryz.prog, [(182, [slices_IndexFunc_impl_Tok_impl_Tok.sg k])], k⟩
theorem slices_ContainsFunc_impl_Tok_impl_Tok.ev (k : Nat) (x : slices_ContainsFunc_impl_Tok_impl_Tok.A.T) : evFunc (slices_ContainsFunc_impl_Tok_impl_Tok.C k) slices_ContainsFunc_impl_Tok_impl_Tok.ann Tryz.f162 slices_ContainsFunc_impl_Tok_impl_Tok.A slices_ContainsFunc_impl_Tok_impl_Tok.R x = slices_ContainsFunc_impl_Tok_impl_Tok k x := by kernel_rfl
theorem slices_ContainsFunc_impl_Tok_impl_Tok.ok {L : List (Nat × Obj)}  (k : Nat) : SigHolds Tryz.prog L 162 (slices_ContainsFunc_impl_Tok_impl_Tok.sg k) :=
  sig_of_ev (C := slices_ContainsFunc_impl_Tok_impl_Tok.C k) (holds_cons (allok_cons (slices_IndexFunc_impl_Tok_impl_Tok.ok k) allok_nil) holds_nil) (by kernel_rfl) Tryz.func162 (by kernel_rfl) slices_ContainsFunc_impl_Tok_impl_Tok.ann slices_ContainsFunc_impl_Tok_impl_Tok.A slices_ContainsFunc_impl_Tok_impl_Tok.R (fun x y h => (slices_ContainsFunc_impl_Tok_impl_Tok.ev k x).trans h) (by kernel_rfl)

/-! loop.example/g00719/impl.areAll[loop.example/g00719/impl.Tok] -/
def impl_areAll_impl_Tok.A : Sh := (.cons (.pur (.sl false (.cons (.int .i64) (.cons (.int .i64) .nil)))) (.cons (.fn (.func 136) 1 (.cons (.pur (.cons (.sl false .str) (.cons (.sl false .str) (.cons (.sl false (.cons .str (.cons (.int .i64) .nil))) .nil)))) .nil)) .nil))
def impl_areAll_impl_Tok.R : Sh := (.cons (.pur .bool) .nil)
def impl_areAll_impl_Tok.ann : Ann := { loops := [], joins := [], keys := [] }
noncomputable def impl_areAll_impl_Tok (k : Nat) : ((List (Int × Int × Unit)) × (((List (List UInt8)) × (List (List UInt8)) × (List ((List UInt8) × Int × Unit)) × Unit) × Unit) × Unit) → Option ((Bool × Unit) × (Unit × (Unit × Unit) × Unit)) := fun x => match x with
 | (list, (is_0, ()), ()) =>
  bd k (slices_ContainsFunc_impl_Tok_impl_Tok k (list, (((is_0, ()), ()), ()), ())) fun y1 =>
  some ((!y1.1.1, ()), ((), ((), ()), ()))
noncomputable def impl_areAll_impl_Tok.sg (k : Nat) : Sig := ⟨impl_areAll_impl_Tok.A, impl_areAll_impl_Tok.R, impl_areAll_impl_Tok k⟩
noncomputable def impl_areAll_impl_Tok.C (k : Nat) : Ctx := ⟨Tryz.prog, [(162, [slices_ContainsFunc_impl_Tok_impl_Tok.sg k])], k⟩
theorem impl_areAll_impl_Tok.ev (k : Nat) (x : impl_areAll_impl_Tok.A.T) : evFunc (impl_areAll_impl_Tok.C k) impl_areAll_impl_Tok.ann Tryz.f135 impl_areAll_impl_Tok.A impl_areAll_impl_Tok.R x = impl_areAll_impl_Tok k x := by kernel_rfl
theorem impl_areAll_impl_Tok.ok {L : List (Nat × Obj)}  (k : Nat) : SigHolds Tryz.prog L 135 (impl_areAll_impl_Tok.sg k) :=
  sig_of_ev (C := impl_areAll_impl_Tok.C k) (holds_cons (allok_cons (slices_ContainsFunc_impl_Tok_impl_Tok.ok k) allok_nil) holds_nil) (by kernel_rfl) Tryz.func135 (by kernel_rfl) impl_areAll_impl_Tok.ann impl_areAll_impl_Tok.A impl_areAll_impl_Tok.R (fun x y h => (impl_areAll_impl_Tok.ev k x).trans h) (by kernel_rfl)

/-! loop.example/g00719/impl.takes -/
def impl_takes.A : Sh := (.cons (.pur (.int .i64)) .nil)
def impl_takes.R : Sh := (.cons (.own (.int .i64)) .nil)
def impl_takes.ann : Ann := { loops := [], joins := [(1, [(3, .bool)]), (7, [(19, .bool)])], keys := [] }
noncomputable def impl_takes (k : Nat) : (Int × Unit) → Option (((List Int) × Unit) × (Unit × Unit)) := fun x => match x with
 | (op, ()) =>
  (br k (op == 6)
  (some (true, ()))
  (some (op == 7, ())) : Option (Bool × Unit)).bind fun j1 =>
  br k (j1.1)
  (some ((([1] : List Int), ()), ((), ())))
  (bd k (impl_within k (op, 8, 18, ())) fun y2 =>
  br k (y2.1.1)
  (some ((([1, 1] : List Int), ()), ((), ())))
  (br k (op == 19)
  (some ((([2] : List Int), ()), ((), ())))
  ((br k (op == 20)
  (some (true, ()))
  (some (op == 21, ())) : Option (Bool × Unit)).bind fun j3 =>
  br k (j3.1)
  (some ((([2, 2] : List Int), ()), ((), ())))
  (some (([], ()), ((), ()))))))
noncomputable def impl_takes.sg (k : Nat) : Sig := ⟨impl_takes.A, impl_takes.R, impl_takes k⟩
noncomputable def impl_takes.C (k : Nat) : Ctx := ⟨Tryz.prog, [(29, [impl_within.sg k])], k⟩
theorem impl_takes.ev (k : Nat) (x : impl_takes.A.T) : evFunc (impl_takes.C k) impl_takes.ann Tryz.f137 impl_takes.A impl_takes.R x = impl_takes k x := by kernel_rfl
theorem impl_takes.ok {L : List (Nat × Obj)}  (k : Nat) : SigHolds Tryz.prog L 137 (impl_takes.sg k) :=
  sig_of_ev (C := impl_takes.C k) (holds_cons (allok_cons (impl_within.ok k) allok_nil) holds_nil) (by kernel_rfl) Tryz.func137 (by kernel_rfl) impl_takes.ann impl_takes.A impl_takes.R (fun x y h => (impl_takes.ev k x).trans h) (by kernel_rfl)

/-! slices.Equal[[]int64,int64] -/
def slices_Equal_int64_int64.A : Sh := (.cons (.pur (.sl false (.int .i64))) (.cons (.pur (.sl false (.int .i64))) .nil))
def slices_Equal_int64_int64.R : Sh := (.cons (.pur .bool) .nil)
def slices_Equal_int64_int64.ann : Ann := { loops := [(0, [(0, (.pur (.sl false (.int .i64)))), (1, (.pur (.sl false (.int .i64)))), (12, (.pur (.int .i64))), (13, (.pur (.int .i64)))])], joins := [], keys := [] }
noncomputable def slices_Equal_int64_int64.l0 (k : Nat)  (G0 : ((List Int) × (List Int) × Int × Int × Unit) → Option ((Bool × Unit) × (Unit × Unit × Unit))) : ((List Int) × (List Int) × Int × Int × Unit) → Option ((Bool × Unit) × (Unit × Unit × Unit)) := fun x => match x with
 | (s1, s2, t12, t13, ()) =>
  br k (decide (t13 < t12))
  (br k (decide (0 ≤ t13))
  (bd k (s1[t13.toNat]?) fun x1 =>
  br k (decide (0 ≤ t13))
  (bd k (s2[t13.toNat]?) fun x2 =>
  br k (x1 != x2)
  (some ((false, ()), ((), (), ())))
  (G0 (s1, s2, t12, IntKind.wrap .i64 (t13 + 1), ())))
  none)
  none)
  (some ((true, ()), ((), (), ())))
noncomputable def slices_Equal_int64_int64 (k : Nat) : ((List Int) × (List Int) × Unit) → Option ((Bool × Unit) × (Unit × Unit × Unit)) := fun x => match x with
 | (s1, s2, ()) =>
  br k ((s1.length : Int) != (s2.length : Int))
  (some ((false, ()), ((), (), ())))
  (iter (slices_Equal_int64_int64.l0 k) k (s1, s2, (s1.length : Int), 0, ()))
noncomputable def slices_Equal_int64_int64.sg (k : Nat) : Sig := ⟨slices_Equal_int64_int64.A, slices_Equal_int64_int64.R, slices_Equal_int64_int64 k⟩
noncomputable def slices_Equal_int64_int64.C (k : Nat) : Ctx := ⟨Tryz.prog, [], k⟩
theorem slices_Equal_int64_int64.ev (k : Nat) (x : slices_Equal_int64_int64.A.T) : evFunc (slices_Equal_int64_int64.C k) slices_Equal_int64_int64.ann Tryz.f138 slices_Equal_int64_int64.A slices_Equal_int64_int64.R x = slices_Equal_int64_int64 k x := by kernel_rfl
theorem slices_Equal_int64_int64.ok {L : List (Nat × Obj)}  (k : Nat) : SigHolds Tryz.prog L 138 (slices_Equal_int64_int64.sg k) :=
  sig_of_ev (C := slices_Equal_int64_int64.C k) holds_nil (by kernel_rfl) Tryz.func138 (by kernel_rfl) slices_Equal_int64_int64.ann slices_Equal_int64_int64.A slices_Equal_int64_int64.R (fun x y h => (slices_Equal_int64_int64.ev k x).trans h) (by kernel_rfl)

/-! loop.example/g00719/impl.leaves -/
def impl_leaves.A : Sh := (.cons (.pur (.int .i64)) .nil)
def impl_leaves.R : Sh := (.cons (.pur (.int .i64)) .nil)
def impl_leaves.ann : Ann := { loops := [], joins := [(1, [(8, .bool)])], keys := [] }
noncomputable def impl_leaves (k : Nat) : (Int × Unit) → Option ((Int × Unit) × (Unit × Unit)) := fun x => match x with
 | (op, ()) =>
  (bd k (impl_within k (op, 3, 5, ())) fun y1 =>
  br k (y1.1.1)
  (some (true, ()))
  (some (decide (op ≥ 13), ())) : Option (Bool × Unit)).bind fun j2 =>
  br k (j2.1)
  (some ((2, ()), ((), ())))
  (some ((1, ()), ((), ())))
noncomputable def impl_leaves.sg (k : Nat) : Sig := ⟨impl_leaves.A, impl_leaves.R, impl_leaves k⟩
noncomputable def impl_leaves.C (k : Nat) : Ctx := ⟨Tryz.prog, [(29, [impl_within.sg k])], k⟩
theorem impl_leaves.ev (k : Nat) (x : impl_leaves.A.T) : evFunc (impl_leaves.C k) impl_leaves.ann Tryz.f139 impl_leaves.A impl_leaves.R x = impl_leaves k x := by kernel_rfl
theorem impl_leaves.ok {L : List (Nat × Obj)}  (k : Nat) : SigHolds Tryz.prog L 139 (impl_leaves.sg k) :=
  sig_of_ev (C := impl_leaves.C k) (holds_cons (allok_cons (impl_within.ok k) allok_nil) holds_nil) (by kernel_rfl) Tryz.func139 (by kernel_rfl) impl_leaves.ann impl_leaves.A impl_leaves.R (fun x y h => (impl_leaves.ev k x).trans h) (by kernel_rfl)

end Go.Pev.F
