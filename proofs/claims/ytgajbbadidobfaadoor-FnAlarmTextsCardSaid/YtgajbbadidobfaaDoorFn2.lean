/-
  Printed by gen.py: what functions of the program compute, and that they do.
-/
import Derived.Test.YtgajbbadidobfaaDoorFn1
open Go.Proofs Go.Pev
namespace Go.Pev.F
set_option maxRecDepth 100000
set_option linter.unusedVariables false

/-! slices.Concat[[]string,string] -/
def slices_Concat_string_string.A : Sh := (.cons (.pur (.sl false (.sl false .str))) .nil)
def slices_Concat_string_string.R : Sh := (.cons (.own .str) .nil)
def slices_Concat_string_string.ann : Ann := { loops := [(0, [(0, (.pur (.sl false (.sl false .str)))), (3, (.pur (.int .i64))), (9, (.pur (.sl false (.sl false .str)))), (10, (.pur (.int .i64))), (11, (.pur (.int .i64)))]), (2, [(6, (.own .str)), (25, (.pur (.sl false (.sl false .str)))), (26, (.pur (.int .i64))), (27, (.pur (.int .i64)))])], joins := [], keys := [] }
noncomputable def slices_Concat_string_string.l2 (k : Nat)  (G2 : ((List (List UInt8)) × (List (List (List UInt8))) × Int × Int × Unit) → Option (((List (List UInt8)) × Unit) × (Unit × Unit))) : ((List (List UInt8)) × (List (List (List UInt8))) × Int × Int × Unit) → Option (((List (List UInt8)) × Unit) × (Unit × Unit)) := fun x => match x with
 | (newslice, t25, t26, t27, ()) =>
  br k (decide (t27 < t26))
  (br k (decide (0 ≤ t27))
  (bd k (t25[t27.toNat]?) fun x3 =>
  br k (decide ((newslice.length + x3.length) * 16 ≤ maxBytes))
  (G2 (newslice ++ x3, t25, t26, IntKind.wrap .i64 (t27 + 1), ()))
  none)
  none)
  (some ((newslice, ()), ((), ())))
noncomputable def slices_Concat_string_string.l0 (k : Nat)  (G0 : ((List (List (List UInt8))) × Int × (List (List (List UInt8))) × Int × Int × Unit) → Option (((List (List UInt8)) × Unit) × (Unit × Unit))) : ((List (List (List UInt8))) × Int × (List (List (List UInt8))) × Int × Int × Unit) → Option (((List (List UInt8)) × Unit) × (Unit × Unit)) := fun x => match x with
 | (slices, size, t9, t10, t11, ()) =>
  br k (decide (t11 < t10))
  (br k (decide (0 ≤ t11))
  (bd k (t9[t11.toNat]?) fun x1 =>
  br k (decide ((IntKind.wrap .i64 (size + (x1.length : Int))) < 0))
  (none)
  (G0 (slices, IntKind.wrap .i64 (size + (x1.length : Int)), t9, t10, IntKind.wrap .i64 (t11 + 1), ())))
  none)
  (bd k (Lb.slices_Grow_string_string k ((), size, ())) fun y2 =>
  iter (slices_Concat_string_string.l2 k) k (y2.1.1, slices, (slices.length : Int), 0, ()))
noncomputable def slices_Concat_string_string (k : Nat) : ((List (List (List UInt8))) × Unit) → Option (((List (List UInt8)) × Unit) × (Unit × Unit)) := fun x => match x with
 | (slices, ()) =>
  iter (slices_Concat_string_string.l0 k) k (slices, 0, slices, (slices.length : Int), 0, ())
noncomputable def slices_Concat_string_string.sg (k : Nat) : Sig := ⟨slices_Concat_string_string.A, slices_Concat_string_string.R, slices_Concat_string_string k⟩
noncomputable def slices_Concat_string_string.C (k : Nat) : Ctx := ⟨Tryd.prog, [(136, [Lb.slices_Grow_string_string.sg k])], k⟩
theorem slices_Concat_string_string.ev (k : Nat) (x : slices_Concat_string_string.A.T) : evFunc (slices_Concat_string_string.C k) slices_Concat_string_string.ann Tryd.f110 slices_Concat_string_string.A slices_Concat_string_string.R x = slices_Concat_string_string k x := by kernel_rfl
theorem slices_Concat_string_string.ok {L : List (Nat × Obj)}  (k : Nat) : SigHolds Tryd.prog L 110 (slices_Concat_string_string.sg k) :=
  sig_of_ev (C := slices_Concat_string_string.C k) (holds_cons (allok_cons (Lb.slices_Grow_string_string.ok k) allok_nil) holds_nil) (by kernel_rfl) Tryd.func110 (by kernel_rfl) slices_Concat_string_string.ann slices_Concat_string_string.A slices_Concat_string_string.R (fun x y h => (slices_Concat_string_string.ev k x).trans h) (by kernel_rfl)

/-! (loop.example/g00719/impl.Decl).names -/
def impl_Decl_names.A : Sh := (.cons (.pur (.cons (.sl false .str) (.cons (.sl false .str) (.cons (.sl false (.cons .str (.cons (.int .i64) .nil))) .nil)))) .nil)
def impl_Decl_names.R : Sh := (.cons (.own .str) .nil)
def impl_Decl_names.ann : Ann := { loops := [(0, [(3, (.own .str)), (13, (.pur (.sl false (.cons .str (.cons (.int .i64) .nil))))), (14, (.pur (.int .i64))), (15, (.pur (.int .i64)))])], joins := [], keys := [] }
noncomputable def impl_Decl_names.l0 (k : Nat)  (G0 : ((List (List UInt8)) × (List ((List UInt8) × Int × Unit)) × Int × Int × Unit) → Option (((List (List UInt8)) × Unit) × (Unit × Unit))) : ((List (List UInt8)) × (List ((List UInt8) × Int × Unit)) × Int × Int × Unit) → Option (((List (List UInt8)) × Unit) × (Unit × Unit)) := fun x => match x with
 | (out_, t13, t14, t15, ()) =>
  br k (decide (t15 < t14))
  (br k (decide (0 ≤ t15))
  (bd k (t13[t15.toNat]?) fun x2 =>
  br k (decide ((out_.length + ([x2.1] : List (List UInt8)).length) * 16 ≤ maxBytes))
  (G0 (out_ ++ ([x2.1] : List (List UInt8)), t13, t14, IntKind.wrap .i64 (t15 + 1), ()))
  none)
  none)
  (some ((out_, ()), ((), ())))
noncomputable def impl_Decl_names (k : Nat) : (((List (List UInt8)) × (List (List UInt8)) × (List ((List UInt8) × Int × Unit)) × Unit) × Unit) → Option (((List (List UInt8)) × Unit) × (Unit × Unit)) := fun x => match x with
 | (d_, ()) =>
  bd k (slices_Concat_string_string k (([d_.1, d_.2.1] : List (List (List UInt8))), ())) fun y1 =>
  iter (impl_Decl_names.l0 k) k (y1.1.1, d_.2.2.1, (d_.2.2.1.length : Int), 0, ())
noncomputable def impl_Decl_names.sg (k : Nat) : Sig := ⟨impl_Decl_names.A, impl_Decl_names.R, impl_Decl_names k⟩
noncomputable def impl_Decl_names.C (k : Nat) : Ctx := ⟨Tryd.prog, [(110, [slices_Concat_string_string.sg k])], k⟩
theorem impl_Decl_names.ev (k : Nat) (x : impl_Decl_names.A.T) : evFunc (impl_Decl_names.C k) impl_Decl_names.ann Tryd.f87 impl_Decl_names.A impl_Decl_names.R x = impl_Decl_names k x := by kernel_rfl
theorem impl_Decl_names.ok {L : List (Nat × Obj)}  (k : Nat) : SigHolds Tryd.prog L 87 (impl_Decl_names.sg k) :=
  sig_of_ev (C := impl_Decl_names.C k) (holds_cons (allok_cons (slices_Concat_string_string.ok k) allok_nil) holds_nil) (by kernel_rfl) Tryd.func87 (by kernel_rfl) impl_Decl_names.ann impl_Decl_names.A impl_Decl_names.R (fun x y h => (impl_Decl_names.ev k x).trans h) (by kernel_rfl)

/-! loop.example/g00719/impl.isLetter -/
def impl_isLetter.A : Sh := (.cons (.pur (.int .u8)) .nil)
def impl_isLetter.R : Sh := (.cons (.pur .bool) .nil)
def impl_isLetter.ann : Ann := { loops := [], joins := [(1, [(2, .bool)])], keys := [] }
noncomputable def impl_isLetter (k : Nat) : (Int × Unit) → Option ((Bool × Unit) × (Unit × Unit)) := fun x => match x with
 | (c, ()) =>
  (br k (decide (c ≥ 97))
  (some (decide (c ≤ 122), ()))
  (some (false, ())) : Option (Bool × Unit)).bind fun j1 =>
  some ((j1.1, ()), ((), ()))
noncomputable def impl_isLetter.sg (k : Nat) : Sig := ⟨impl_isLetter.A, impl_isLetter.R, impl_isLetter k⟩
noncomputable def impl_isLetter.C (k : Nat) : Ctx := ⟨Tryd.prog, [], k⟩
theorem impl_isLetter.ev (k : Nat) (x : impl_isLetter.A.T) : evFunc (impl_isLetter.C k) impl_isLetter.ann Tryd.f129 impl_isLetter.A impl_isLetter.R x = impl_isLetter k x := by kernel_rfl
theorem impl_isLetter.ok {L : List (Nat × Obj)}  (k : Nat) : SigHolds Tryd.prog L 129 (impl_isLetter.sg k) :=
  sig_of_ev (C := impl_isLetter.C k) holds_nil (by kernel_rfl) Tryd.func129 (by kernel_rfl) impl_isLetter.ann impl_isLetter.A impl_isLetter.R (fun x y h => (impl_isLetter.ev k x).trans h) (by kernel_rfl)

/-! slices.Index[[]string,string] -/
def slices_Index_string_string.A : Sh := (.cons (.pur (.sl false .str)) (.cons (.pur .str) .nil))
def slices_Index_string_string.R : Sh := (.cons (.pur (.int .i64)) .nil)
def slices_Index_string_string.ann : Ann := { loops := [(0, [(0, (.pur (.sl false .str))), (1, (.pur .str)), (7, (.pur (.int .i64))), (8, (.pur (.int .i64)))])], joins := [], keys := [] }
noncomputable def slices_Index_string_string.l0 (k : Nat)  (G0 : ((List (List UInt8)) × (List UInt8) × Int × Int × Unit) → Option ((Int × Unit) × (Unit × Unit × Unit))) : ((List (List UInt8)) × (List UInt8) × Int × Int × Unit) → Option ((Int × Unit) × (Unit × Unit × Unit)) := fun x => match x with
 | (s_, v, t7, t8, ()) =>
  br k (decide (t8 < t7))
  (br k (decide (0 ≤ t8))
  (bd k (s_[t8.toNat]?) fun x1 =>
  br k (v == x1)
  (some ((t8, ()), ((), (), ())))
  (G0 (s_, v, t7, IntKind.wrap .i64 (t8 + 1), ())))
  none)
  (some (((-1), ()), ((), (), ())))
noncomputable def slices_Index_string_string (k : Nat) : ((List (List UInt8)) × (List UInt8) × Unit) → Option ((Int × Unit) × (Unit × Unit × Unit)) := fun x => match x with
 | (s_, v, ()) =>
  iter (slices_Index_string_string.l0 k) k (s_, v, (s_.length : Int), 0, ())
noncomputable def slices_Index_string_string.sg (k : Nat) : Sig := ⟨slices_Index_string_string.A, slices_Index_string_string.R, slices_Index_string_string k⟩
noncomputable def slices_Index_string_string.C (k : Nat) : Ctx := ⟨Tryd.prog, [], k⟩
theorem slices_Index_string_string.ev (k : Nat) (x : slices_Index_string_string.A.T) : evFunc (slices_Index_string_string.C k) slices_Index_string_string.ann Tryd.f131 slices_Index_string_string.A slices_Index_string_string.R x = slices_Index_string_string k x := by kernel_rfl
theorem slices_Index_string_string.ok {L : List (Nat × Obj)}  (k : Nat) : SigHolds Tryd.prog L 131 (slices_Index_string_string.sg k) :=
  sig_of_ev (C := slices_Index_string_string.C k) holds_nil (by kernel_rfl) Tryd.func131 (by kernel_rfl) slices_Index_string_string.ann slices_Index_string_string.A slices_Index_string_string.R (fun x y h => (slices_Index_string_string.ev k x).trans h) (by kernel_rfl)

/-! slices.Contains[[]string,string] -/
def slices_Contains_string_string.A : Sh := (.cons (.pur (.sl false .str)) (.cons (.pur .str) .nil))
def slices_Contains_string_string.R : Sh := (.cons (.pur .bool) .nil)
def slices_Contains_string_string.ann : Ann := { loops := [], joins := [], keys := [] }
noncomputable def slices_Contains_string_string (k : Nat) : ((List (List UInt8)) × (List UInt8) × Unit) → Option ((Bool × Unit) × (Unit × Unit × Unit)) := fun x => match x with
 | (s_, v, ()) =>
  bd k (slices_Index_string_string k (s_, v, ())) fun y1 =>
  some ((decide (y1.1.1 ≥ 0), ()), ((), (), ()))
noncomputable def slices_Contains_string_string.sg (k : Nat) : Sig := ⟨slices_Contains_string_string.A, slices_Contains_string_string.R, slices_Contains_string_string k⟩
noncomputable def slices_Contains_string_string.C (k : Nat) : Ctx := ⟨Tryd.prog, [(131, [slices_Index_string_string.sg k])], k⟩
theorem slices_Contains_string_string.ev (k : Nat) (x : slices_Contains_string_string.A.T) : evFunc (slices_Contains_string_string.C k) slices_Contains_string_string.ann Tryd.f105 slices_Contains_string_string.A slices_Contains_string_string.R x = slices_Contains_string_string k x := by kernel_rfl
theorem slices_Contains_string_string.ok {L : List (Nat × Obj)}  (k : Nat) : SigHolds Tryd.prog L 105 (slices_Contains_string_string.sg k) :=
  sig_of_ev (C := slices_Contains_string_string.C k) (holds_cons (allok_cons (slices_Index_string_string.ok k) allok_nil) holds_nil) (by kernel_rfl) Tryd.func105 (by kernel_rfl) slices_Contains_string_string.ann slices_Contains_string_string.A slices_Contains_string_string.R (fun x y h => (slices_Contains_string_string.ev k x).trans h) (by kernel_rfl)

/-! loop.example/g00719/impl.isWord -/
def impl_isWord.A : Sh := (.cons (.pur .str) .nil)
def impl_isWord.R : Sh := (.cons (.pur .bool) .nil)
def impl_isWord.ann : Ann := { loops := [], joins := [], keys := [] }
noncomputable def impl_isWord (k : Nat) : ((List UInt8) × Unit) → Option ((Bool × Unit) × (Unit × Unit)) := fun x => match x with
 | (s_, ()) =>
  bd k (Lb.Fields k ([118, 97, 114, 32, 102, 108, 97, 103, 32, 97, 114, 114, 97, 121, 32, 105, 102, 32, 102, 111, 114, 107, 32, 101, 108, 115, 101, 32, 101, 110, 100, 32, 119, 104, 105, 108, 101, 32, 117, 110, 114, 111, 108, 108, 32, 97, 115, 115, 101, 114, 116, 32, 97, 115, 115, 117, 109, 101, 32, 105, 110, 112, 117, 116, 32, 115, 112, 108, 105, 116, 32, 109, 101, 114, 103, 101, 32, 116, 114, 117, 101, 32, 102, 97, 108, 115, 101], ())) fun y1 =>
  bd k (slices_Contains_string_string k (y1.1.1, s_, ())) fun y2 =>
  some ((y2.1.1, ()), ((), ()))
noncomputable def impl_isWord.sg (k : Nat) : Sig := ⟨impl_isWord.A, impl_isWord.R, impl_isWord k⟩
noncomputable def impl_isWord.C (k : Nat) : Ctx := ⟨Tryd.prog, [(151, [Lb.Fields.sg k]), (105, [slices_Contains_string_string.sg k])], k⟩
theorem impl_isWord.ev (k : Nat) (x : impl_isWord.A.T) : evFunc (impl_isWord.C k) impl_isWord.ann Tryd.f130 impl_isWord.A impl_isWord.R x = impl_isWord k x := by kernel_rfl
theorem impl_isWord.ok {L : List (Nat × Obj)} (hSp : Lb.NeedSp L) (k : Nat) : SigHolds Tryd.prog L 130 (impl_isWord.sg k) :=
  sig_of_ev (C := impl_isWord.C k) (holds_cons (allok_cons (Lb.Fields.ok hSp k) allok_nil) (holds_cons (allok_cons (slices_Contains_string_string.ok k) allok_nil) holds_nil)) (by kernel_rfl) Tryd.func130 (by kernel_rfl) impl_isWord.ann impl_isWord.A impl_isWord.R (fun x y h => (impl_isWord.ev k x).trans h) (by kernel_rfl)

/-! loop.example/g00719/impl.isName -/
def impl_isName.A : Sh := (.cons (.pur .str) .nil)
def impl_isName.R : Sh := (.cons (.pur .bool) .nil)
def impl_isName.ann : Ann := { loops := [(0, [(0, (.pur .str)), (5, (.pur (.int .i64))), (6, (.pur (.int .i64)))])], joins := [(7, [(2, .bool)])], keys := [] }
noncomputable def impl_isName.l0 (k : Nat)  (G0 : ((List UInt8) × Int × Int × Unit) → Option ((Bool × Unit) × (Unit × Unit))) : ((List UInt8) × Int × Int × Unit) → Option ((Bool × Unit) × (Unit × Unit)) := fun x => match x with
 | (s_, t5, t6, ()) =>
  br k (decide (t6 < t5))
  (br k (decide (0 ≤ t6))
  (bd k (s_[t6.toNat]?) fun b1 =>
  bd k (impl_isLetter k ((b1.toNat : Int), ())) fun y2 =>
  br k (!y2.1.1)
  (some ((false, ()), ((), ())))
  (G0 (s_, t5, IntKind.wrap .i64 (t6 + 1), ())))
  none)
  ((bd k (impl_within k ((s_.length : Int), 1, 8, ())) fun y3 =>
  br k (y3.1.1)
  (bd k (impl_isWord k (s_, ())) fun y4 =>
  some (!y4.1.1, ()))
  (some (false, ())) : Option (Bool × Unit)).bind fun j5 =>
  some ((j5.1, ()), ((), ())))
noncomputable def impl_isName (k : Nat) : ((List UInt8) × Unit) → Option ((Bool × Unit) × (Unit × Unit)) := fun x => match x with
 | (s_, ()) =>
  iter (impl_isName.l0 k) k (s_, (s_.length : Int), 0, ())
noncomputable def impl_isName.sg (k : Nat) : Sig := ⟨impl_isName.A, impl_isName.R, impl_isName k⟩
noncomputable def impl_isName.C (k : Nat) : Ctx := ⟨Tryd.prog, [(129, [impl_isLetter.sg k]), (34, [impl_within.sg k]), (130, [impl_isWord.sg k])], k⟩
theorem impl_isName.ev (k : Nat) (x : impl_isName.A.T) : evFunc (impl_isName.C k) impl_isName.ann Tryd.f104 impl_isName.A impl_isName.R x = impl_isName k x := by kernel_rfl
theorem impl_isName.ok {L : List (Nat × Obj)} (hSp : Lb.NeedSp L) (k : Nat) : SigHolds Tryd.prog L 104 (impl_isName.sg k) :=
  sig_of_ev (C := impl_isName.C k) (holds_cons (allok_cons (impl_isLetter.ok k) allok_nil) (holds_cons (allok_cons (impl_within.ok k) allok_nil) (holds_cons (allok_cons (impl_isWord.ok hSp k) allok_nil) holds_nil))) (by kernel_rfl) Tryd.func104 (by kernel_rfl) impl_isName.ann impl_isName.A impl_isName.R (fun x y h => (impl_isName.ev k x).trans h) (by kernel_rfl)

/-! (loop.example/g00719/impl.Decl).isRight$1 -/
def impl_Decl_isRight_1.A : Sh := (.cons (.pur (.cons .str (.cons (.int .i64) .nil))) .nil)
def impl_Decl_isRight_1.R : Sh := (.cons (.pur .bool) .nil)
def impl_Decl_isRight_1.ann : Ann := { loops := [], joins := [], keys := [] }
noncomputable def impl_Decl_isRight_1 (k : Nat) : (((List UInt8) × Int × Unit) × Unit) → Option ((Bool × Unit) × (Unit × Unit)) := fun x => match x with
 | (a, ()) =>
  bd k (impl_within k (a.2.1, 1, 16, ())) fun y1 =>
  some ((y1.1.1, ()), ((), ()))
noncomputable def impl_Decl_isRight_1.sg (k : Nat) : Sig := ⟨impl_Decl_isRight_1.A, impl_Decl_isRight_1.R, impl_Decl_isRight_1 k⟩
noncomputable def impl_Decl_isRight_1.C (k : Nat) : Ctx := ⟨Tryd.prog, [(34, [impl_within.sg k])], k⟩
theorem impl_Decl_isRight_1.ev (k : Nat) (x : impl_Decl_isRight_1.A.T) : evFunc (impl_Decl_isRight_1.C k) impl_Decl_isRight_1.ann Tryd.f106 impl_Decl_isRight_1.A impl_Decl_isRight_1.R x = impl_Decl_isRight_1 k x := by kernel_rfl
theorem impl_Decl_isRight_1.ok {L : List (Nat × Obj)}  (k : Nat) : SigHolds Tryd.prog L 106 (impl_Decl_isRight_1.sg k) :=
  sig_of_ev (C := impl_Decl_isRight_1.C k) (holds_cons (allok_cons (impl_within.ok k) allok_nil) holds_nil) (by kernel_rfl) Tryd.func106 (by kernel_rfl) impl_Decl_isRight_1.ann impl_Decl_isRight_1.A impl_Decl_isRight_1.R (fun x y h => (impl_Decl_isRight_1.ev k x).trans h) (by kernel_rfl)

/-! loop.example/g00719/impl.areAll[loop.example/g00719/impl.Arr]$1 -/
def impl_areAll_impl_Arr_1.A : Sh := (.cons (.pur (.cons .str (.cons (.int .i64) .nil))) (.cons (.box (.cons (.fn (.func 106) 0 .nil) .nil)) .nil))
def impl_areAll_impl_Arr_1.R : Sh := (.cons (.pur .bool) .nil)
def impl_areAll_impl_Arr_1.ann : Ann := { loops := [], joins := [], keys := [] }
noncomputable def impl_areAll_impl_Arr_1 (k : Nat) : (((List UInt8) × Int × Unit) × ((Unit) × Unit) × Unit) → Option ((Bool × Unit) × (Unit × ((Unit) × Unit) × Unit)) := fun x => match x with
 | (x_, ((()), ()), ()) =>
  bd k (impl_Decl_isRight_1 k (x_, ())) fun y1 =>
  some ((!y1.1.1, ()), ((), ((()), ()), ()))
noncomputable def impl_areAll_impl_Arr_1.sg (k : Nat) : Sig := ⟨impl_areAll_impl_Arr_1.A, impl_areAll_impl_Arr_1.R, impl_areAll_impl_Arr_1 k⟩
noncomputable def impl_areAll_impl_Arr_1.C (k : Nat) : Ctx := ⟨Tryd.prog, [(106, [impl_Decl_isRight_1.sg k])], k⟩
theorem impl_areAll_impl_Arr_1.ev (k : Nat) (x : impl_areAll_impl_Arr_1.A.T) : evFunc (impl_areAll_impl_Arr_1.C k) impl_areAll_impl_Arr_1.ann Tryd.f133 impl_areAll_impl_Arr_1.A impl_areAll_impl_Arr_1.R x = impl_areAll_impl_Arr_1 k x := by kernel_rfl
theorem impl_areAll_impl_Arr_1.ok {L : List (Nat × Obj)}  (k : Nat) : SigHolds Tryd.prog L 133 (impl_areAll_impl_Arr_1.sg k) :=
  sig_of_ev (C := impl_areAll_impl_Arr_1.C k) (holds_cons (allok_cons (impl_Decl_isRight_1.ok k) allok_nil) holds_nil) (by kernel_rfl) Tryd.func133 (by kernel_rfl) impl_areAll_impl_Arr_1.ann impl_areAll_impl_Arr_1.A impl_areAll_impl_Arr_1.R (fun x y h => (impl_areAll_impl_Arr_1.ev k x).trans h) (by kernel_rfl)

/-! slices.IndexFunc[[]loop.example/g00719/impl.Arr,loop.example/g00719/impl.Arr] -/
def slices_IndexFunc_impl_Arr_impl_Arr.A : Sh := (.cons (.pur (.sl false (.cons .str (.cons (.int .i64) .nil)))) (.cons (.fn (.func 133) 0 (.cons (.box (.cons (.fn (.func 106) 0 .nil) .nil)) .nil)) .nil))
def slices_IndexFunc_impl_Arr_impl_Arr.R : Sh := (.cons (.pur (.int .i64)) .nil)
def slices_IndexFunc_impl_Arr_impl_Arr.ann : Ann := { loops := [(0, [(0, (.pur (.sl false (.cons .str (.cons (.int .i64) .nil))))), (1, (.fn (.func 133) 0 (.cons (.box (.cons (.fn (.func 106) 0 .nil) .nil)) .nil))), (7, (.pur (.int .i64))), (8, (.pur (.int .i64)))])], joins := [], keys := [] }
noncomputable def slices_IndexFunc_impl_Arr_impl_Arr.l0 (k : Nat)  (G0 : ((List ((List UInt8) × Int × Unit)) × (((Unit) × Unit) × Unit) × Int × Int × Unit) → Option ((Int × Unit) × (Unit × (((Unit) × Unit) × Unit) × Unit))) : ((List ((List UInt8) × Int × Unit)) × (((Unit) × Unit) × Unit) × Int × Int × Unit) → Option ((Int × Unit) × (Unit × (((Unit) × Unit) × Unit) × Unit)) := fun x => match x with
 | (s_, (((()), ()), ()), t7, t8, ()) =>
  br k (decide (t8 < t7))
  (br k (decide (0 ≤ t8))
  (bd k (s_[t8.toNat]?) fun x1 =>
  bd k (impl_areAll_impl_Arr_1 k (x1, ((()), ()), ())) fun y2 =>
  br k (y2.1.1)
  (some ((t8, ()), ((), (((()), ()), ()), ())))
  (G0 (s_, (((()), ()), ()), t7, IntKind.wrap .i64 (t8 + 1), ())))
  none)
  (some (((-1), ()), ((), (((()), ()), ()), ())))
noncomputable def slices_IndexFunc_impl_Arr_impl_Arr (k : Nat) : ((List ((List UInt8) × Int × Unit)) × (((Unit) × Unit) × Unit) × Unit) → Option ((Int × Unit) × (Unit × (((Unit) × Unit) × Unit) × Unit)) := fun x => match x with
 | (s_, (((()), ()), ()), ()) =>
  iter (slices_IndexFunc_impl_Arr_impl_Arr.l0 k) k (s_, (((()), ()), ()), (s_.length : Int), 0, ())
noncomputable def slices_IndexFunc_impl_Arr_impl_Arr.sg (k : Nat) : Sig := ⟨slices_IndexFunc_impl_Arr_impl_Arr.A, slices_IndexFunc_impl_Arr_impl_Arr.R, slices_IndexFunc_impl_Arr_impl_Arr k⟩
noncomputable def slices_IndexFunc_impl_Arr_impl_Arr.C (k : Nat) : Ctx := ⟨Tryd.prog, [(133, [impl_areAll_impl_Arr_1.sg k])], k⟩
theorem slices_IndexFunc_impl_Arr_impl_Arr.ev (k : Nat) (x : slices_IndexFunc_impl_Arr_impl_Arr.A.T) : evFunc (slices_IndexFunc_impl_Arr_impl_Arr.C k) slices_IndexFunc_impl_Arr_impl_Arr.ann Tryd.f152 slices_IndexFunc_impl_Arr_impl_Arr.A slices_IndexFunc_impl_Arr_impl_Arr.R x = slices_IndexFunc_impl_Arr_impl_Arr k x := by kernel_rfl
theorem slices_IndexFunc_impl_Arr_impl_Arr.ok {L : List (Nat × Obj)}  (k : Nat) : SigHolds Tryd.prog L 152 (slices_IndexFunc_impl_Arr_impl_Arr.sg k) :=
  sig_of_ev (C := slices_IndexFunc_impl_Arr_impl_Arr.C k) (holds_cons (allok_cons (impl_areAll_impl_Arr_1.ok k) allok_nil) holds_nil) (by kernel_rfl) Tryd.func152 (by kernel_rfl) slices_IndexFunc_impl_Arr_impl_Arr.ann slices_IndexFunc_impl_Arr_impl_Arr.A slices_IndexFunc_impl_Arr_impl_Arr.R (fun x y h => (slices_IndexFunc_impl_Arr_impl_Arr.ev k x).trans h) (by kernel_rfl)

/-! slices.ContainsFunc[[]loop.example/g00719/impl.Arr,loop.example/g00719/impl.Arr] -/
def slices_ContainsFunc_impl_Arr_impl_Arr.A : Sh := (.cons (.pur (.sl false (.cons .str (.cons (.int .i64) .nil)))) (.cons (.fn (.func 133) 0 (.cons (.box (.cons (.fn (.func 106) 0 .nil) .nil)) .nil)) .nil))
def slices_ContainsFunc_impl_Arr_impl_Arr.R : Sh := (.cons (.pur .bool) .nil)
def slices_ContainsFunc_impl_Arr_impl_Arr.ann : Ann := { loops := [], joins := [], keys := [] }
noncomputable def slices_ContainsFunc_impl_Arr_impl_Arr (k : Nat) : ((List ((List UInt8) × Int × Unit)) × (((Unit) × Unit) × Unit) × Unit) → Option ((Bool × Unit) × (Unit × (((Unit) × Unit) × Unit) × Unit)) := fun x => match x with
 | (s_, (((()), ()), ()), ()) =>
  bd k (slices_IndexFunc_impl_Arr_impl_Arr k (s_, (((()), ()), ()), ())) fun y1 =>
  some ((decide (y1.1.1 ≥ 0), ()), ((), (((()), ()), ()), ()))
noncomputable def slices_ContainsFunc_impl_Arr_impl_Arr.sg (k : Nat) : Sig := ⟨slices_ContainsFunc_impl_Arr_impl_Arr.A, slices_ContainsFunc_impl_Arr_impl_Arr.R, slices_ContainsFunc_impl_Arr_impl_Arr k⟩
noncomputable def slices_ContainsFunc_impl_Arr_impl_Arr.C (k : Nat) : Ctx := ⟨Tryd.prog, [(152, [slices_IndexFunc_impl_Arr_impl_Arr.sg k])], k⟩
theorem slices_ContainsFunc_impl_Arr_impl_Arr.ev (k : Nat) (x : slices_ContainsFunc_impl_Arr_impl_Arr.A.T) : evFunc (slices_ContainsFunc_impl_Arr_impl_Arr.C k) slices_ContainsFunc_impl_Arr_impl_Arr.ann Tryd.f132 slices_ContainsFunc_impl_Arr_impl_Arr.A slices_ContainsFunc_impl_Arr_impl_Arr.R x = slices_ContainsFunc_impl_Arr_impl_Arr k x := by kernel_rfl
theorem slices_ContainsFunc_impl_Arr_impl_Arr.ok {L : List (Nat × Obj)}  (k : Nat) : SigHolds Tryd.prog L 132 (slices_ContainsFunc_impl_Arr_impl_Arr.sg k) :=
  sig_of_ev (C := slices_ContainsFunc_impl_Arr_impl_Arr.C k) (holds_cons (allok_cons (slices_IndexFunc_impl_Arr_impl_Arr.ok k) allok_nil) holds_nil) (by kernel_rfl) Tryd.func132 (by kernel_rfl) slices_ContainsFunc_impl_Arr_impl_Arr.ann slices_ContainsFunc_impl_Arr_impl_Arr.A slices_ContainsFunc_impl_Arr_impl_Arr.R (fun x y h => (slices_ContainsFunc_impl_Arr_impl_Arr.ev k x).trans h) (by kernel_rfl)

/-! loop.example/g00719/impl.areAll[loop.example/g00719/impl.Arr] -/
def impl_areAll_impl_Arr.A : Sh := (.cons (.pur (.sl false (.cons .str (.cons (.int .i64) .nil)))) (.cons (.fn (.func 106) 0 .nil) .nil))
def impl_areAll_impl_Arr.R : Sh := (.cons (.pur .bool) .nil)
def impl_areAll_impl_Arr.ann : Ann := { loops := [], joins := [], keys := [] }
noncomputable def impl_areAll_impl_Arr (k : Nat) : ((List ((List UInt8) × Int × Unit)) × (Unit) × Unit) → Option ((Bool × Unit) × (Unit × (Unit) × Unit)) := fun x => match x with
 | (list, (()), ()) =>
  bd k (slices_ContainsFunc_impl_Arr_impl_Arr k (list, (((()), ()), ()), ())) fun y1 =>
  some ((!y1.1.1, ()), ((), (()), ()))
noncomputable def impl_areAll_impl_Arr.sg (k : Nat) : Sig := ⟨impl_areAll_impl_Arr.A, impl_areAll_impl_Arr.R, impl_areAll_impl_Arr k⟩
noncomputable def impl_areAll_impl_Arr.C (k : Nat) : Ctx := ⟨Tryd.prog, [(132, [slices_ContainsFunc_impl_Arr_impl_Arr.sg k])], k⟩
theorem impl_areAll_impl_Arr.ev (k : Nat) (x : impl_areAll_impl_Arr.A.T) : evFunc (impl_areAll_impl_Arr.C k) impl_areAll_impl_Arr.ann Tryd.f107 impl_areAll_impl_Arr.A impl_areAll_impl_Arr.R x = impl_areAll_impl_Arr k x := by kernel_rfl
theorem impl_areAll_impl_Arr.ok {L : List (Nat × Obj)}  (k : Nat) : SigHolds Tryd.prog L 107 (impl_areAll_impl_Arr.sg k) :=
  sig_of_ev (C := impl_areAll_impl_Arr.C k) (holds_cons (allok_cons (slices_ContainsFunc_impl_Arr_impl_Arr.ok k) allok_nil) holds_nil) (by kernel_rfl) Tryd.func107 (by kernel_rfl) impl_areAll_impl_Arr.ann impl_areAll_impl_Arr.A impl_areAll_impl_Arr.R (fun x y h => (impl_areAll_impl_Arr.ev k x).trans h) (by kernel_rfl)

/-! (loop.example/g00719/impl.Decl).isRight -/
def impl_Decl_isRight.A : Sh := (.cons (.pur (.cons (.sl false .str) (.cons (.sl false .str) (.cons (.sl false (.cons .str (.cons (.int .i64) .nil))) .nil)))) .nil)
def impl_Decl_isRight.R : Sh := (.cons (.pur .bool) .nil)
def impl_Decl_isRight.ann : Ann := { loops := [(0, [(1, (.box (.cons (.pur (.sl false .str)) (.cons (.pur (.sl false .str)) (.cons (.pur (.sl false (.cons .str (.cons (.int .i64) .nil)))) .nil))))), (3, (.pur (.sl false .str))), (9, (.pur (.sl false .str))), (10, (.pur (.int .i64))), (11, (.pur (.int .i64)))])], joins := [(5, [(25, .bool)])], keys := [] }
noncomputable def impl_Decl_isRight.l0 (k : Nat)  (G0 : (((List (List UInt8)) × (List (List UInt8)) × (List ((List UInt8) × Int × Unit)) × Unit) × (List (List UInt8)) × (List (List UInt8)) × Int × Int × Unit) → Option ((Bool × Unit) × (Unit × Unit))) : (((List (List UInt8)) × (List (List UInt8)) × (List ((List UInt8) × Int × Unit)) × Unit) × (List (List UInt8)) × (List (List UInt8)) × Int × Int × Unit) → Option ((Bool × Unit) × (Unit × Unit)) := fun x => match x with
 | ((d__0, d__1, d__2, ()), list, t9, t10, t11, ()) =>
  br k (decide (t11 < t10))
  (br k (decide (0 ≤ t11))
  (bd k (t9[t11.toNat]?) fun x2 =>
  (bd k (impl_isName k (x2, ())) fun y3 =>
  br k (!y3.1.1)
  (some (true, ()))
  (br k (decide (0 ≤ t11 ∧ t11 ≤ (list.length : Int)))
  (bd k (slices_Contains_string_string k (list.take t11.toNat, x2, ())) fun y4 =>
  some (y4.1.1, ()))
  none) : Option (Bool × Unit)).bind fun j5 =>
  br k (j5.1)
  (some ((false, ()), ((), ())))
  (G0 ((d__0, d__1, d__2, ()), list, t9, t10, IntKind.wrap .i64 (t11 + 1), ())))
  none)
  (br k (decide ((d__0.length : Int) ≤ 5))
  (br k (decide ((d__1.length : Int) ≤ 3))
  (br k (decide ((d__2.length : Int) ≤ 2))
  (bd k (impl_areAll_impl_Arr k (d__2, (()), ())) fun y6 =>
  some ((y6.1.1, ()), ((), ())))
  (some ((false, ()), ((), ()))))
  (some ((false, ()), ((), ()))))
  (some ((false, ()), ((), ()))))
noncomputable def impl_Decl_isRight (k : Nat) : (((List (List UInt8)) × (List (List UInt8)) × (List ((List UInt8) × Int × Unit)) × Unit) × Unit) → Option ((Bool × Unit) × (Unit × Unit)) := fun x => match x with
 | (d_, ()) =>
  bd k (impl_Decl_names k (d_, ())) fun y1 =>
  iter (impl_Decl_isRight.l0 k) k ((d_.1, d_.2.1, d_.2.2.1, ()), y1.1.1, y1.1.1, (y1.1.1.length : Int), 0, ())
noncomputable def impl_Decl_isRight.sg (k : Nat) : Sig := ⟨impl_Decl_isRight.A, impl_Decl_isRight.R, impl_Decl_isRight k⟩
noncomputable def impl_Decl_isRight.C (k : Nat) : Ctx := ⟨Tryd.prog, [(87, [impl_Decl_names.sg k]), (104, [impl_isName.sg k]), (105, [slices_Contains_string_string.sg k]), (107, [impl_areAll_impl_Arr.sg k])], k⟩
theorem impl_Decl_isRight.ev (k : Nat) (x : impl_Decl_isRight.A.T) : evFunc (impl_Decl_isRight.C k) impl_Decl_isRight.ann Tryd.f85 impl_Decl_isRight.A impl_Decl_isRight.R x = impl_Decl_isRight k x := by kernel_rfl
theorem impl_Decl_isRight.ok {L : List (Nat × Obj)} (hSp : Lb.NeedSp L) (k : Nat) : SigHolds Tryd.prog L 85 (impl_Decl_isRight.sg k) :=
  sig_of_ev (C := impl_Decl_isRight.C k) (holds_cons (allok_cons (impl_Decl_names.ok k) allok_nil) (holds_cons (allok_cons (impl_isName.ok hSp k) allok_nil) (holds_cons (allok_cons (slices_Contains_string_string.ok k) allok_nil) (holds_cons (allok_cons (impl_areAll_impl_Arr.ok k) allok_nil) holds_nil)))) (by kernel_rfl) Tryd.func85 (by kernel_rfl) impl_Decl_isRight.ann impl_Decl_isRight.A impl_Decl_isRight.R (fun x y h => (impl_Decl_isRight.ev k x).trans h) (by kernel_rfl)

/-! loop.example/g00719/impl.IvOk -/
def impl_IvOk.A : Sh := (.cons (.pur (.cons (.int .i64) (.cons (.int .i64) .nil))) .nil)
def impl_IvOk.R : Sh := (.cons (.pur .bool) .nil)
def impl_IvOk.ann : Ann := { loops := [], joins := [], keys := [] }
noncomputable def impl_IvOk (k : Nat) : ((Int × Int × Unit) × Unit) → Option ((Bool × Unit) × (Unit × Unit)) := fun x => match x with
 | (a, ()) =>
  some ((decide (a.1 ≤ a.2.1), ()), ((), ()))
noncomputable def impl_IvOk.sg (k : Nat) : Sig := ⟨impl_IvOk.A, impl_IvOk.R, impl_IvOk k⟩
noncomputable def impl_IvOk.C (k : Nat) : Ctx := ⟨Tryd.prog, [], k⟩
theorem impl_IvOk.ev (k : Nat) (x : impl_IvOk.A.T) : evFunc (impl_IvOk.C k) impl_IvOk.ann Tryd.f109 impl_IvOk.A impl_IvOk.R x = impl_IvOk k x := by kernel_rfl
theorem impl_IvOk.ok {L : List (Nat × Obj)}  (k : Nat) : SigHolds Tryd.prog L 109 (impl_IvOk.sg k) :=
  sig_of_ev (C := impl_IvOk.C k) holds_nil (by kernel_rfl) Tryd.func109 (by kernel_rfl) impl_IvOk.ann impl_IvOk.A impl_IvOk.R (fun x y h => (impl_IvOk.ev k x).trans h) (by kernel_rfl)

/-! loop.example/g00719/impl.areAll[loop.example/g00719/impl.Interval]$1 -/
def impl_areAll_impl_Interval_1.A : Sh := (.cons (.pur (.cons (.int .i64) (.cons (.int .i64) .nil))) (.cons (.box (.cons (.fn (.func 109) 0 .nil) .nil)) .nil))
def impl_areAll_impl_Interval_1.R : Sh := (.cons (.pur .bool) .nil)
def impl_areAll_impl_Interval_1.ann : Ann := { loops := [], joins := [], keys := [] }
noncomputable def impl_areAll_impl_Interval_1 (k : Nat) : ((Int × Int × Unit) × ((Unit) × Unit) × Unit) → Option ((Bool × Unit) × (Unit × ((Unit) × Unit) × Unit)) := fun x => match x with
 | (x_, ((()), ()), ()) =>
  bd k (impl_IvOk k (x_, ())) fun y1 =>
  some ((!y1.1.1, ()), ((), ((()), ()), ()))
noncomputable def impl_areAll_impl_Interval_1.sg (k : Nat) : Sig := ⟨impl_areAll_impl_Interval_1.A, impl_areAll_impl_Interval_1.R, impl_areAll_impl_Interval_1 k⟩
noncomputable def impl_areAll_impl_Interval_1.C (k : Nat) : Ctx := ⟨Tryd.prog, [(109, [impl_IvOk.sg k])], k⟩
theorem impl_areAll_impl_Interval_1.ev (k : Nat) (x : impl_areAll_impl_Interval_1.A.T) : evFunc (impl_areAll_impl_Interval_1.C k) impl_areAll_impl_Interval_1.ann Tryd.f135 impl_areAll_impl_Interval_1.A impl_areAll_impl_Interval_1.R x = impl_areAll_impl_Interval_1 k x := by kernel_rfl
theorem impl_areAll_impl_Interval_1.ok {L : List (Nat × Obj)}  (k : Nat) : SigHolds Tryd.prog L 135 (impl_areAll_impl_Interval_1.sg k) :=
  sig_of_ev (C := impl_areAll_impl_Interval_1.C k) (holds_cons (allok_cons (impl_IvOk.ok k) allok_nil) holds_nil) (by kernel_rfl) Tryd.func135 (by kernel_rfl) impl_areAll_impl_Interval_1.ann impl_areAll_impl_Interval_1.A impl_areAll_impl_Interval_1.R (fun x y h => (impl_areAll_impl_Interval_1.ev k x).trans h) (by kernel_rfl)

/-! slices.IndexFunc[[]loop.example/g00719/impl.Interval,loop.example/g00719/impl.Interval] -/
def slices_IndexFunc_impl_Interval_impl_Interval.A : Sh := (.cons (.pur (.sl false (.cons (.int .i64) (.cons (.int .i64) .nil)))) (.cons (.fn (.func 135) 0 (.cons (.box (.cons (.fn (.func 109) 0 .nil) .nil)) .nil)) .nil))
def slices_IndexFunc_impl_Interval_impl_Interval.R : Sh := (.cons (.pur (.int .i64)) .nil)
def slices_IndexFunc_impl_Interval_impl_Interval.ann : Ann := { loops := [(0, [(0, (.pur (.sl false (.cons (.int .i64) (.cons (.int .i64) .nil))))), (1, (.fn (.func 135) 0 (.cons (.box (.cons (.fn (.func 109) 0 .nil) .nil)) .nil))), (7, (.pur (.int .i64))), (8, (.pur (.int .i64)))])], joins := [], keys := [] }
noncomputable def slices_IndexFunc_impl_Interval_impl_Interval.l0 (k : Nat)  (G0 : ((List (Int × Int × Unit)) × (((Unit) × Unit) × Unit) × Int × Int × Unit) → Option ((Int × Unit) × (Unit × (((Unit) × Unit) × Unit) × Unit))) : ((List (Int × Int × Unit)) × (((Unit) × Unit) × Unit) × Int × Int × Unit) → Option ((Int × Unit) × (Unit × (((Unit) × Unit) × Unit) × Unit)) := fun x => match x with
 | (s_, (((()), ()), ()), t7, t8, ()) =>
  br k (decide (t8 < t7))
  (br k (decide (0 ≤ t8))
  (bd k (s_[t8.toNat]?) fun x1 =>
  bd k (impl_areAll_impl_Interval_1 k (x1, ((()), ()), ())) fun y2 =>
  br k (y2.1.1)
  (some ((t8, ()), ((), (((()), ()), ()), ())))
  (G0 (s_, (((()), ()), ()), t7, IntKind.wrap .i64 (t8 + 1), ())))
  none)
  (some (((-1), ()), ((), (((()), ()), ()), ())))
noncomputable def slices_IndexFunc_impl_Interval_impl_Interval (k : Nat) : ((List (Int × Int × Unit)) × (((Unit) × Unit) × Unit) × Unit) → Option ((Int × Unit) × (Unit × (((Unit) × Unit) × Unit) × Unit)) := fun x => match x with
 | (s_, (((()), ()), ()), ()) =>
  iter (slices_IndexFunc_impl_Interval_impl_Interval.l0 k) k (s_, (((()), ()), ()), (s_.length : Int), 0, ())
noncomputable def slices_IndexFunc_impl_Interval_impl_Interval.sg (k : Nat) : Sig := ⟨slices_IndexFunc_impl_Interval_impl_Interval.A, slices_IndexFunc_impl_Interval_impl_Interval.R, slices_IndexFunc_impl_Interval_impl_Interval k⟩
noncomputable def slices_IndexFunc_impl_Interval_impl_Interval.C (k : Nat) : Ctx := ⟨Tryd.prog, [(135, [impl_areAll_impl_Interval_1.sg k])], k⟩
theorem slices_IndexFunc_impl_Interval_impl_Interval.ev (k : Nat) (x : slices_IndexFunc_impl_Interval_impl_Interval.A.T) : evFunc (slices_IndexFunc_impl_Interval_impl_Interval.C k) slices_IndexFunc_impl_Interval_impl_Interval.ann Tryd.f153 slices_IndexFunc_impl_Interval_impl_Interval.A slices_IndexFunc_impl_Interval_impl_Interval.R x = slices_IndexFunc_impl_Interval_impl_Interval k x := by kernel_rfl
theorem slices_IndexFunc_impl_Interval_impl_Interval.ok {L : List (Nat × Obj)}  (k : Nat) : SigHolds Tryd.prog L 153 (slices_IndexFunc_impl_Interval_impl_Interval.sg k) :=
  sig_of_ev (C := slices_IndexFunc_impl_Interval_impl_Interval.C k) (holds_cons (allok_cons (impl_areAll_impl_Interval_1.ok k) allok_nil) holds_nil) (by kernel_rfl) Tryd.func153 (by kernel_rfl) slices_IndexFunc_impl_Interval_impl_Interval.ann slices_IndexFunc_impl_Interval_impl_Interval.A slices_IndexFunc_impl_Interval_impl_Interval.R (fun x y h => (slices_IndexFunc_impl_Interval_impl_Interval.ev k x).trans h) (by kernel_rfl)

/-! slices.ContainsFunc[[]loop.example/g00719/impl.Interval,loop.example/g00719/impl.Interval] -/
def slices_ContainsFunc_impl_Interval_impl_Interval.A : Sh := (.cons (.pur (.sl false (.cons (.int .i64) (.cons (.int .i64) .nil)))) (.cons (.fn (.func 135) 0 (.cons (.box (.cons (.fn (.func 109) 0 .nil) .nil)) .nil)) .nil))
def slices_ContainsFunc_impl_Interval_impl_Interval.R : Sh := (.cons (.pur .bool) .nil)
def slices_ContainsFunc_impl_Interval_impl_Interval.ann : Ann := { loops := [], joins := [], keys := [] }
noncomputable def slices_ContainsFunc_impl_Interval_impl_Interval (k : Nat) : ((List (Int × Int × Unit)) × (((Unit) × Unit) × Unit) × Unit) → Option ((Bool × Unit) × (Unit × (((Unit) × Unit) × Unit) × Unit)) := fun x => match x with
 | (s_, (((()), ()), ()), ()) =>
  bd k (slices_IndexFunc_impl_Interval_impl_Interval k (s_, (((()), ()), ()), ())) fun y1 =>
  some ((decide (y1.1.1 ≥ 0), ()), ((), (((()), ()), ()), ()))
noncomputable def slices_ContainsFunc_impl_Interval_impl_Interval.sg (k : Nat) : Sig := ⟨slices_ContainsFunc_impl_Interval_impl_Interval.A, slices_ContainsFunc_impl_Interval_impl_Interval.R, slices_ContainsFunc_impl_Interval_impl_Interval k⟩
noncomputable def slices_ContainsFunc_impl_Interval_impl_Interval.C (k : Nat) : Ctx := ⟨Tryd.prog, [(153, [slices_IndexFunc_impl_Interval_impl_Interval.sg k])], k⟩
theorem slices_ContainsFunc_impl_Interval_impl_Interval.ev (k : Nat) (x : slices_ContainsFunc_impl_Interval_impl_Interval.A.T) : evFunc (slices_ContainsFunc_impl_Interval_impl_Interval.C k) slices_ContainsFunc_impl_Interval_impl_Interval.ann Tryd.f134 slices_ContainsFunc_impl_Interval_impl_Interval.A slices_ContainsFunc_impl_Interval_impl_Interval.R x = slices_ContainsFunc_impl_Interval_impl_Interval k x := by kernel_rfl
theorem slices_ContainsFunc_impl_Interval_impl_Interval.ok {L : List (Nat × Obj)}  (k : Nat) : SigHolds Tryd.prog L 134 (slices_ContainsFunc_impl_Interval_impl_Interval.sg k) :=
  sig_of_ev (C := slices_ContainsFunc_impl_Interval_impl_Interval.C k) (holds_cons (allok_cons (slices_IndexFunc_impl_Interval_impl_Interval.ok k) allok_nil) holds_nil) (by kernel_rfl) Tryd.func134 (by kernel_rfl) slices_ContainsFunc_impl_Interval_impl_Interval.ann slices_ContainsFunc_impl_Interval_impl_Interval.A slices_ContainsFunc_impl_Interval_impl_Interval.R (fun x y h => (slices_ContainsFunc_impl_Interval_impl_Interval.ev k x).trans h) (by kernel_rfl)

/-! loop.example/g00719/impl.areAll[loop.example/g00719/impl.Interval] -/
def impl_areAll_impl_Interval.A : Sh := (.cons (.pur (.sl false (.cons (.int .i64) (.cons (.int .i64) .nil)))) (.cons (.fn (.func 109) 0 .nil) .nil))
def impl_areAll_impl_Interval.R : Sh := (.cons (.pur .bool) .nil)
def impl_areAll_impl_Interval.ann : Ann := { loops := [], joins := [], keys := [] }
noncomputable def impl_areAll_impl_Interval (k : Nat) : ((List (Int × Int × Unit)) × (Unit) × Unit) → Option ((Bool × Unit) × (Unit × (Unit) × Unit)) := fun x => match x with
 | (list, (()), ()) =>
  bd k (slices_ContainsFunc_impl_Interval_impl_Interval k (list, (((()), ()), ()), ())) fun y1 =>
  some ((!y1.1.1, ()), ((), (()), ()))
noncomputable def impl_areAll_impl_Interval.sg (k : Nat) : Sig := ⟨impl_areAll_impl_Interval.A, impl_areAll_impl_Interval.R, impl_areAll_impl_Interval k⟩
noncomputable def impl_areAll_impl_Interval.C (k : Nat) : Ctx := ⟨Tryd.prog, [(134, [slices_ContainsFunc_impl_Interval_impl_Interval.sg k])], k⟩
theorem impl_areAll_impl_Interval.ev (k : Nat) (x : impl_areAll_impl_Interval.A.T) : evFunc (impl_areAll_impl_Interval.C k) impl_areAll_impl_Interval.ann Tryd.f108 impl_areAll_impl_Interval.A impl_areAll_impl_Interval.R x = impl_areAll_impl_Interval k x := by kernel_rfl
theorem impl_areAll_impl_Interval.ok {L : List (Nat × Obj)}  (k : Nat) : SigHolds Tryd.prog L 108 (impl_areAll_impl_Interval.sg k) :=
  sig_of_ev (C := impl_areAll_impl_Interval.C k) (holds_cons (allok_cons (slices_ContainsFunc_impl_Interval_impl_Interval.ok k) allok_nil) holds_nil) (by kernel_rfl) Tryd.func108 (by kernel_rfl) impl_areAll_impl_Interval.ann impl_areAll_impl_Interval.A impl_areAll_impl_Interval.R (fun x y h => (impl_areAll_impl_Interval.ev k x).trans h) (by kernel_rfl)

/-! (loop.example/g00719/impl.Decl).isEnv -/
def impl_Decl_isEnv.A : Sh := (.cons (.pur (.cons (.sl false .str) (.cons (.sl false .str) (.cons (.sl false (.cons .str (.cons (.int .i64) .nil))) .nil)))) (.cons (.pur (.cons .bool (.cons (.sl false (.cons (.int .i64) (.cons (.int .i64) .nil))) (.cons (.sl false (.cons (.int .i64) (.cons (.int .i64) .nil))) .nil)))) .nil))
def impl_Decl_isEnv.R : Sh := (.cons (.pur .bool) .nil)
def impl_Decl_isEnv.ann : Ann := { loops := [], joins := [(2, [(4, .bool)])], keys := [] }
noncomputable def impl_Decl_isEnv (k : Nat) : (((List (List UInt8)) × (List (List UInt8)) × (List ((List UInt8) × Int × Unit)) × Unit) × (Bool × (List (Int × Int × Unit)) × (List (Int × Int × Unit)) × Unit) × Unit) → Option ((Bool × Unit) × (Unit × Unit × Unit)) := fun x => match x with
 | (d_, e_, ()) =>
  br k (!e_.1)
  ((br k ((e_.2.1.length : Int) == 0)
  (some ((e_.2.2.1.length : Int) == 0, ()))
  (some (false, ())) : Option (Bool × Unit)).bind fun j1 =>
  some ((j1.1, ()), ((), (), ())))
  (br k ((e_.2.1.length : Int) == (d_.1.length : Int))
  (br k ((e_.2.2.1.length : Int) == (d_.2.2.1.length : Int))
  (bd k (impl_areAll_impl_Interval k (e_.2.1, (()), ())) fun y2 =>
  br k (y2.1.1)
  (bd k (impl_areAll_impl_Interval k (e_.2.2.1, (()), ())) fun y3 =>
  some ((y3.1.1, ()), ((), (), ())))
  (some ((false, ()), ((), (), ()))))
  (some ((false, ()), ((), (), ()))))
  (some ((false, ()), ((), (), ()))))
noncomputable def impl_Decl_isEnv.sg (k : Nat) : Sig := ⟨impl_Decl_isEnv.A, impl_Decl_isEnv.R, impl_Decl_isEnv k⟩
noncomputable def impl_Decl_isEnv.C (k : Nat) : Ctx := ⟨Tryd.prog, [(108, [impl_areAll_impl_Interval.sg k])], k⟩
theorem impl_Decl_isEnv.ev (k : Nat) (x : impl_Decl_isEnv.A.T) : evFunc (impl_Decl_isEnv.C k) impl_Decl_isEnv.ann Tryd.f86 impl_Decl_isEnv.A impl_Decl_isEnv.R x = impl_Decl_isEnv k x := by kernel_rfl
theorem impl_Decl_isEnv.ok {L : List (Nat × Obj)}  (k : Nat) : SigHolds Tryd.prog L 86 (impl_Decl_isEnv.sg k) :=
  sig_of_ev (C := impl_Decl_isEnv.C k) (holds_cons (allok_cons (impl_areAll_impl_Interval.ok k) allok_nil) holds_nil) (by kernel_rfl) Tryd.func86 (by kernel_rfl) impl_Decl_isEnv.ann impl_Decl_isEnv.A impl_Decl_isEnv.R (fun x y h => (impl_Decl_isEnv.ev k x).trans h) (by kernel_rfl)

/-! loop.example/g00719/impl.EnvOk -/
def impl_EnvOk.A : Sh := (.cons (.pur (.cons (.sl false .str) (.cons (.sl false .str) (.cons (.sl false (.cons .str (.cons (.int .i64) .nil))) .nil)))) (.cons (.pur (.cons .bool (.cons (.sl false (.cons (.int .i64) (.cons (.int .i64) .nil))) (.cons (.sl false (.cons (.int .i64) (.cons (.int .i64) .nil))) .nil)))) .nil))
def impl_EnvOk.R : Sh := (.cons (.pur .bool) .nil)
def impl_EnvOk.ann : Ann := { loops := [], joins := [(1, [(4, .bool)])], keys := [] }
noncomputable def impl_EnvOk (k : Nat) : (((List (List UInt8)) × (List (List UInt8)) × (List ((List UInt8) × Int × Unit)) × Unit) × (Bool × (List (Int × Int × Unit)) × (List (Int × Int × Unit)) × Unit) × Unit) → Option ((Bool × Unit) × (Unit × Unit × Unit)) := fun x => match x with
 | (d_, e_, ()) =>
  (bd k (impl_Decl_isRight k (d_, ())) fun y1 =>
  br k (y1.1.1)
  (bd k (impl_Decl_isEnv k (d_, e_, ())) fun y2 =>
  some (y2.1.1, ()))
  (some (false, ())) : Option (Bool × Unit)).bind fun j3 =>
  some ((j3.1, ()), ((), (), ()))
noncomputable def impl_EnvOk.sg (k : Nat) : Sig := ⟨impl_EnvOk.A, impl_EnvOk.R, impl_EnvOk k⟩
noncomputable def impl_EnvOk.C (k : Nat) : Ctx := ⟨Tryd.prog, [(85, [impl_Decl_isRight.sg k]), (86, [impl_Decl_isEnv.sg k])], k⟩
theorem impl_EnvOk.ev (k : Nat) (x : impl_EnvOk.A.T) : evFunc (impl_EnvOk.C k) impl_EnvOk.ann Tryd.f53 impl_EnvOk.A impl_EnvOk.R x = impl_EnvOk k x := by kernel_rfl
theorem impl_EnvOk.ok {L : List (Nat × Obj)} (hSp : Lb.NeedSp L) (k : Nat) : SigHolds Tryd.prog L 53 (impl_EnvOk.sg k) :=
  sig_of_ev (C := impl_EnvOk.C k) (holds_cons (allok_cons (impl_Decl_isRight.ok hSp k) allok_nil) (holds_cons (allok_cons (impl_Decl_isEnv.ok k) allok_nil) holds_nil)) (by kernel_rfl) Tryd.func53 (by kernel_rfl) impl_EnvOk.ann impl_EnvOk.A impl_EnvOk.R (fun x y h => (impl_EnvOk.ev k x).trans h) (by kernel_rfl)

/-! loop.example/g00719/impl.named -/
def impl_named.A : Sh := (.cons (.pur (.sl false .str)) (.cons (.pur (.sl false (.cons (.int .i64) (.cons (.int .i64) .nil)))) .nil))
def impl_named.R : Sh := (.cons (.own .str) .nil)
def impl_named.ann : Ann := { loops := [(0, [(0, (.pur (.sl false .str))), (5, (.own .str)), (8, (.pur (.sl false (.cons (.int .i64) (.cons (.int .i64) .nil))))), (9, (.pur (.int .i64))), (10, (.pur (.int .i64)))])], joins := [], keys := [(5, [([5], false), ([], false), ([], false), ([], false), ([], false), ([7], false), ([7], false), ([], false), ([], false), ([7], false), ([7], false), ([], false), ([], false), ([28], true), ([5, 28, 29], true), ([29], false)])] }
noncomputable def impl_named.l0 (k : Nat)  (G0 : ((List (List UInt8)) × (List (List UInt8)) × (List (Int × Int × Unit)) × Int × Int × Unit) → Option (((List (List UInt8)) × Unit) × (Unit × Unit × Unit))) : ((List (List UInt8)) × (List (List UInt8)) × (List (Int × Int × Unit)) × Int × Int × Unit) → Option (((List (List UInt8)) × Unit) × (Unit × Unit × Unit)) := fun x => match x with
 | (names, out_, t8, t9, t10, ()) =>
  br k (decide (t10 < t9))
  (br k (decide (0 ≤ t10))
  (bd k (t8[t10.toNat]?) fun x1 =>
  br k (decide (0 ≤ t10))
  (bd k (names[t10.toNat]?) fun x2 =>
  bd k (impl_decimal k (x1.1, ())) fun y3 =>
  br k (decide (((y3.1.1.length + ([46, 46] : List UInt8).length : Nat) : Int) ≤ maxInt64))
  (bd k (impl_decimal k (x1.2.1, ())) fun y4 =>
  br k (decide ((((y3.1.1 ++ [46, 46]).length + y4.1.1.length : Nat) : Int) ≤ maxInt64))
  (br k (decide ((out_.length + ([x2, (y3.1.1 ++ [46, 46]) ++ y4.1.1] : List (List UInt8)).length) * 16 ≤ maxBytes))
  (G0 (names, out_ ++ ([x2, (y3.1.1 ++ [46, 46]) ++ y4.1.1] : List (List UInt8)), t8, t9, IntKind.wrap .i64 (t10 + 1), ()))
  none)
  none)
  none)
  none)
  none)
  (some ((out_, ()), ((), (), ())))
noncomputable def impl_named (k : Nat) : ((List (List UInt8)) × (List (Int × Int × Unit)) × Unit) → Option (((List (List UInt8)) × Unit) × (Unit × Unit × Unit)) := fun x => match x with
 | (names, list, ()) =>
  iter (impl_named.l0 k) k (names, [], list, (list.length : Int), 0, ())
noncomputable def impl_named.sg (k : Nat) : Sig := ⟨impl_named.A, impl_named.R, impl_named k⟩
noncomputable def impl_named.C (k : Nat) : Ctx := ⟨Tryd.prog, [(35, [impl_decimal.sg k])], k⟩
theorem impl_named.ev (k : Nat) (x : impl_named.A.T) : evFunc (impl_named.C k) impl_named.ann Tryd.f88 impl_named.A impl_named.R x = impl_named k x := by kernel_rfl
theorem impl_named.ok {L : List (Nat × Obj)} (hFmt : Lb.NeedFmt L) (k : Nat) : SigHolds Tryd.prog L 88 (impl_named.sg k) :=
  sig_of_ev (C := impl_named.C k) (holds_cons (allok_cons (impl_decimal.ok hFmt k) allok_nil) holds_nil) (by kernel_rfl) Tryd.func88 (by kernel_rfl) impl_named.ann impl_named.A impl_named.R (fun x y h => (impl_named.ev k x).trans h) (by kernel_rfl)

/-! (loop.example/g00719/impl.Decl).envText -/
def impl_Decl_envText.A : Sh := (.cons (.pur (.cons (.sl false .str) (.cons (.sl false .str) (.cons (.sl false (.cons .str (.cons (.int .i64) .nil))) .nil)))) (.cons (.pur (.cons .bool (.cons (.sl false (.cons (.int .i64) (.cons (.int .i64) .nil))) (.cons (.sl false (.cons (.int .i64) (.cons (.int .i64) .nil))) .nil)))) .nil))
def impl_Decl_envText.R : Sh := (.cons (.pur .str) .nil)
def impl_Decl_envText.ann : Ann := { loops := [], joins := [], keys := [(4, [([2], false), ([2], false), ([3], false), ([3], false), ([16], true), ([11], false), ([2], false), ([2], false), ([], false), ([2], false), ([2], false), ([], false), ([], false), ([11], false), ([3], false), ([3], false), ([11, 28], true), ([16, 28, 29], true), ([29], false)])] }
noncomputable def impl_Decl_envText (k : Nat) : (((List (List UInt8)) × (List (List UInt8)) × (List ((List UInt8) × Int × Unit)) × Unit) × (Bool × (List (Int × Int × Unit)) × (List (Int × Int × Unit)) × Unit) × Unit) → Option (((List UInt8) × Unit) × (Unit × Unit × Unit)) := fun x => match x with
 | (d_, e_, ()) =>
  br k (!e_.1)
  (some (([110, 111, 110, 101], ()), ((), (), ())))
  (bd k (impl_Decl_names k (d_, ())) fun y1 =>
  bd k (impl_named k (d_.1, e_.2.1, ())) fun y2 =>
  br k (decide (0 ≤ (IntKind.wrap .i64 ((d_.1.length : Int) + (d_.2.1.length : Int))) ∧ (IntKind.wrap .i64 ((d_.1.length : Int) + (d_.2.1.length : Int))) ≤ (y1.1.1.length : Int)))
  (bd k (impl_named k (subL y1.1.1 ((IntKind.wrap .i64 ((d_.1.length : Int) + (d_.2.1.length : Int))).toNat) ((y1.1.1.length : Int).toNat - (IntKind.wrap .i64 ((d_.1.length : Int) + (d_.2.1.length : Int))).toNat), e_.2.2.1, ())) fun y3 =>
  br k (decide ((y2.1.1.length + y3.1.1.length) * 16 ≤ maxBytes))
  (br k (((y2.1.1 ++ y3.1.1).length : Int) == 0)
  (some (([97, 108, 108], ()), ((), (), ())))
  (bd k (Lb.Join k (y2.1.1 ++ y3.1.1, [32], ())) fun y4 =>
  some ((y4.1.1, ()), ((), (), ()))))
  none)
  none)
noncomputable def impl_Decl_envText.sg (k : Nat) : Sig := ⟨impl_Decl_envText.A, impl_Decl_envText.R, impl_Decl_envText k⟩
noncomputable def impl_Decl_envText.C (k : Nat) : Ctx := ⟨Tryd.prog, [(87, [impl_Decl_names.sg k]), (88, [impl_named.sg k]), (68, [Lb.Join.sg k])], k⟩
theorem impl_Decl_envText.ev (k : Nat) (x : impl_Decl_envText.A.T) : evFunc (impl_Decl_envText.C k) impl_Decl_envText.ann Tryd.f54 impl_Decl_envText.A impl_Decl_envText.R x = impl_Decl_envText k x := by kernel_rfl
theorem impl_Decl_envText.ok {L : List (Nat × Obj)} (hFmt : Lb.NeedFmt L) (k : Nat) : SigHolds Tryd.prog L 54 (impl_Decl_envText.sg k) :=
  sig_of_ev (C := impl_Decl_envText.C k) (holds_cons (allok_cons (impl_Decl_names.ok k) allok_nil) (holds_cons (allok_cons (impl_named.ok hFmt k) allok_nil) (holds_cons (allok_cons (Lb.Join.ok k) allok_nil) holds_nil))) (by kernel_rfl) Tryd.func54 (by kernel_rfl) impl_Decl_envText.ann impl_Decl_envText.A impl_Decl_envText.R (fun x y h => (impl_Decl_envText.ev k x).trans h) (by kernel_rfl)

/-! loop.example/g00719/impl.EnvText -/
def impl_EnvText.A : Sh := (.cons (.pur (.cons (.sl false .str) (.cons (.sl false .str) (.cons (.sl false (.cons .str (.cons (.int .i64) .nil))) .nil)))) (.cons (.pur (.cons .bool (.cons (.sl false (.cons (.int .i64) (.cons (.int .i64) .nil))) (.cons (.sl false (.cons (.int .i64) (.cons (.int .i64) .nil))) .nil)))) .nil))
def impl_EnvText.R : Sh := (.cons (.pur .str) .nil)
def impl_EnvText.ann : Ann := { loops := [], joins := [], keys := [] }
noncomputable def impl_EnvText (k : Nat) : (((List (List UInt8)) × (List (List UInt8)) × (List ((List UInt8) × Int × Unit)) × Unit) × (Bool × (List (Int × Int × Unit)) × (List (Int × Int × Unit)) × Unit) × Unit) → Option (((List UInt8) × Unit) × (Unit × Unit × Unit)) := fun x => match x with
 | (d_, e_, ()) =>
  bd k (impl_EnvOk k (d_, e_, ())) fun y1 =>
  br k (!y1.1.1)
  (some (([], ()), ((), (), ())))
  (bd k (impl_Decl_envText k (d_, e_, ())) fun y2 =>
  some ((y2.1.1, ()), ((), (), ())))
noncomputable def impl_EnvText.sg (k : Nat) : Sig := ⟨impl_EnvText.A, impl_EnvText.R, impl_EnvText k⟩
noncomputable def impl_EnvText.C (k : Nat) : Ctx := ⟨Tryd.prog, [(53, [impl_EnvOk.sg k]), (54, [impl_Decl_envText.sg k])], k⟩
theorem impl_EnvText.ev (k : Nat) (x : impl_EnvText.A.T) : evFunc (impl_EnvText.C k) impl_EnvText.ann Tryd.f22 impl_EnvText.A impl_EnvText.R x = impl_EnvText k x := by kernel_rfl
theorem impl_EnvText.ok {L : List (Nat × Obj)} (hFmt : Lb.NeedFmt L) (hSp : Lb.NeedSp L) (k : Nat) : SigHolds Tryd.prog L 22 (impl_EnvText.sg k) :=
  sig_of_ev (C := impl_EnvText.C k) (holds_cons (allok_cons (impl_EnvOk.ok hSp k) allok_nil) (holds_cons (allok_cons (impl_Decl_envText.ok hFmt k) allok_nil) holds_nil)) (by kernel_rfl) Tryd.func22 (by kernel_rfl) impl_EnvText.ann impl_EnvText.A impl_EnvText.R (fun x y h => (impl_EnvText.ev k x).trans h) (by kernel_rfl)

/-! loop.example/g00719/laws.eqStringS -/
def laws_eqStringS.A : Sh := (.cons (.pur (.sl false .str)) (.cons (.pur (.sl false .str)) .nil))
def laws_eqStringS.R : Sh := (.cons (.pur .bool) .nil)
def laws_eqStringS.ann : Ann := { loops := [(0, [(0, (.pur (.sl false .str))), (1, (.pur (.sl false .str))), (5, (.pur (.int .i64)))])], joins := [], keys := [] }
noncomputable def laws_eqStringS.l0 (k : Nat)  (G0 : ((List (List UInt8)) × (List (List UInt8)) × Int × Unit) → Option ((Bool × Unit) × (Unit × Unit × Unit))) : ((List (List UInt8)) × (List (List UInt8)) × Int × Unit) → Option ((Bool × Unit) × (Unit × Unit × Unit)) := fun x => match x with
 | (a, b_, i, ()) =>
  br k (decide (i < (a.length : Int)))
  (br k (decide (0 ≤ i))
  (bd k (a[i.toNat]?) fun x1 =>
  br k (decide (0 ≤ i))
  (bd k (b_[i.toNat]?) fun x2 =>
  br k (!(x1 == x2))
  (some ((false, ()), ((), (), ())))
  (G0 (a, b_, IntKind.wrap .i64 (i + 1), ())))
  none)
  none)
  (some ((true, ()), ((), (), ())))
noncomputable def laws_eqStringS (k : Nat) : ((List (List UInt8)) × (List (List UInt8)) × Unit) → Option ((Bool × Unit) × (Unit × Unit × Unit)) := fun x => match x with
 | (a, b_, ()) =>
  br k ((a.length : Int) != (b_.length : Int))
  (some ((false, ()), ((), (), ())))
  (iter (laws_eqStringS.l0 k) k (a, b_, 0, ()))
noncomputable def laws_eqStringS.sg (k : Nat) : Sig := ⟨laws_eqStringS.A, laws_eqStringS.R, laws_eqStringS k⟩
noncomputable def laws_eqStringS.C (k : Nat) : Ctx := ⟨Tryd.prog, [], k⟩
theorem laws_eqStringS.ev (k : Nat) (x : laws_eqStringS.A.T) : evFunc (laws_eqStringS.C k) laws_eqStringS.ann Tryd.f55 laws_eqStringS.A laws_eqStringS.R x = laws_eqStringS k x := by kernel_rfl
theorem laws_eqStringS.ok {L : List (Nat × Obj)}  (k : Nat) : SigHolds Tryd.prog L 55 (laws_eqStringS.sg k) :=
  sig_of_ev (C := laws_eqStringS.C k) holds_nil (by kernel_rfl) Tryd.func55 (by kernel_rfl) laws_eqStringS.ann laws_eqStringS.A laws_eqStringS.R (fun x y h => (laws_eqStringS.ev k x).trans h) (by kernel_rfl)

/-! loop.example/g00719/laws.eqArr -/
def laws_eqArr.A : Sh := (.cons (.pur (.cons .str (.cons (.int .i64) .nil))) (.cons (.pur (.cons .str (.cons (.int .i64) .nil))) .nil))
def laws_eqArr.R : Sh := (.cons (.pur .bool) .nil)
def laws_eqArr.ann : Ann := { loops := [], joins := [], keys := [] }
noncomputable def laws_eqArr (k : Nat) : (((List UInt8) × Int × Unit) × ((List UInt8) × Int × Unit) × Unit) → Option ((Bool × Unit) × (Unit × Unit × Unit)) := fun x => match x with
 | (a, b_, ()) =>
  br k (!(a.1 == b_.1))
  (some ((false, ()), ((), (), ())))
  (br k (a.2.1 != b_.2.1)
  (some ((false, ()), ((), (), ())))
  (some ((true, ()), ((), (), ()))))
noncomputable def laws_eqArr.sg (k : Nat) : Sig := ⟨laws_eqArr.A, laws_eqArr.R, laws_eqArr k⟩
noncomputable def laws_eqArr.C (k : Nat) : Ctx := ⟨Tryd.prog, [], k⟩
theorem laws_eqArr.ev (k : Nat) (x : laws_eqArr.A.T) : evFunc (laws_eqArr.C k) laws_eqArr.ann Tryd.f89 laws_eqArr.A laws_eqArr.R x = laws_eqArr k x := by kernel_rfl
theorem laws_eqArr.ok {L : List (Nat × Obj)}  (k : Nat) : SigHolds Tryd.prog L 89 (laws_eqArr.sg k) :=
  sig_of_ev (C := laws_eqArr.C k) holds_nil (by kernel_rfl) Tryd.func89 (by kernel_rfl) laws_eqArr.ann laws_eqArr.A laws_eqArr.R (fun x y h => (laws_eqArr.ev k x).trans h) (by kernel_rfl)

/-! loop.example/g00719/laws.eqArrS -/
def laws_eqArrS.A : Sh := (.cons (.pur (.sl false (.cons .str (.cons (.int .i64) .nil)))) (.cons (.pur (.sl false (.cons .str (.cons (.int .i64) .nil)))) .nil))
def laws_eqArrS.R : Sh := (.cons (.pur .bool) .nil)
def laws_eqArrS.ann : Ann := { loops := [(0, [(0, (.pur (.sl false (.cons .str (.cons (.int .i64) .nil))))), (1, (.pur (.sl false (.cons .str (.cons (.int .i64) .nil))))), (5, (.pur (.int .i64)))])], joins := [], keys := [] }
noncomputable def laws_eqArrS.l0 (k : Nat)  (G0 : ((List ((List UInt8) × Int × Unit)) × (List ((List UInt8) × Int × Unit)) × Int × Unit) → Option ((Bool × Unit) × (Unit × Unit × Unit))) : ((List ((List UInt8) × Int × Unit)) × (List ((List UInt8) × Int × Unit)) × Int × Unit) → Option ((Bool × Unit) × (Unit × Unit × Unit)) := fun x => match x with
 | (a, b_, i, ()) =>
  br k (decide (i < (a.length : Int)))
  (br k (decide (0 ≤ i))
  (bd k (a[i.toNat]?) fun x1 =>
  br k (decide (0 ≤ i))
  (bd k (b_[i.toNat]?) fun x2 =>
  bd k (laws_eqArr k (x1, x2, ())) fun y3 =>
  br k (!y3.1.1)
  (some ((false, ()), ((), (), ())))
  (G0 (a, b_, IntKind.wrap .i64 (i + 1), ())))
  none)
  none)
  (some ((true, ()), ((), (), ())))
noncomputable def laws_eqArrS (k : Nat) : ((List ((List UInt8) × Int × Unit)) × (List ((List UInt8) × Int × Unit)) × Unit) → Option ((Bool × Unit) × (Unit × Unit × Unit)) := fun x => match x with
 | (a, b_, ()) =>
  br k ((a.length : Int) != (b_.length : Int))
  (some ((false, ()), ((), (), ())))
  (iter (laws_eqArrS.l0 k) k (a, b_, 0, ()))
noncomputable def laws_eqArrS.sg (k : Nat) : Sig := ⟨laws_eqArrS.A, laws_eqArrS.R, laws_eqArrS k⟩
noncomputable def laws_eqArrS.C (k : Nat) : Ctx := ⟨Tryd.prog, [(89, [laws_eqArr.sg k])], k⟩
theorem laws_eqArrS.ev (k : Nat) (x : laws_eqArrS.A.T) : evFunc (laws_eqArrS.C k) laws_eqArrS.ann Tryd.f56 laws_eqArrS.A laws_eqArrS.R x = laws_eqArrS k x := by kernel_rfl
theorem laws_eqArrS.ok {L : List (Nat × Obj)}  (k : Nat) : SigHolds Tryd.prog L 56 (laws_eqArrS.sg k) :=
  sig_of_ev (C := laws_eqArrS.C k) (holds_cons (allok_cons (laws_eqArr.ok k) allok_nil) holds_nil) (by kernel_rfl) Tryd.func56 (by kernel_rfl) laws_eqArrS.ann laws_eqArrS.A laws_eqArrS.R (fun x y h => (laws_eqArrS.ev k x).trans h) (by kernel_rfl)

/-! loop.example/g00719/laws.eqDecl -/
def laws_eqDecl.A : Sh := (.cons (.pur (.cons (.sl false .str) (.cons (.sl false .str) (.cons (.sl false (.cons .str (.cons (.int .i64) .nil))) .nil)))) (.cons (.pur (.cons (.sl false .str) (.cons (.sl false .str) (.cons (.sl false (.cons .str (.cons (.int .i64) .nil))) .nil)))) .nil))
def laws_eqDecl.R : Sh := (.cons (.pur .bool) .nil)
def laws_eqDecl.ann : Ann := { loops := [], joins := [], keys := [] }
noncomputable def laws_eqDecl (k : Nat) : (((List (List UInt8)) × (List (List UInt8)) × (List ((List UInt8) × Int × Unit)) × Unit) × ((List (List UInt8)) × (List (List UInt8)) × (List ((List UInt8) × Int × Unit)) × Unit) × Unit) → Option ((Bool × Unit) × (Unit × Unit × Unit)) := fun x => match x with
 | (a, b_, ()) =>
  bd k (laws_eqStringS k (a.1, b_.1, ())) fun y1 =>
  br k (!y1.1.1)
  (some ((false, ()), ((), (), ())))
  (bd k (laws_eqStringS k (a.2.1, b_.2.1, ())) fun y2 =>
  br k (!y2.1.1)
  (some ((false, ()), ((), (), ())))
  (bd k (laws_eqArrS k (a.2.2.1, b_.2.2.1, ())) fun y3 =>
  br k (!y3.1.1)
  (some ((false, ()), ((), (), ())))
  (some ((true, ()), ((), (), ())))))
noncomputable def laws_eqDecl.sg (k : Nat) : Sig := ⟨laws_eqDecl.A, laws_eqDecl.R, laws_eqDecl k⟩
noncomputable def laws_eqDecl.C (k : Nat) : Ctx := ⟨Tryd.prog, [(55, [laws_eqStringS.sg k]), (56, [laws_eqArrS.sg k])], k⟩
theorem laws_eqDecl.ev (k : Nat) (x : laws_eqDecl.A.T) : evFunc (laws_eqDecl.C k) laws_eqDecl.ann Tryd.f23 laws_eqDecl.A laws_eqDecl.R x = laws_eqDecl k x := by kernel_rfl
theorem laws_eqDecl.ok {L : List (Nat × Obj)}  (k : Nat) : SigHolds Tryd.prog L 23 (laws_eqDecl.sg k) :=
  sig_of_ev (C := laws_eqDecl.C k) (holds_cons (allok_cons (laws_eqStringS.ok k) allok_nil) (holds_cons (allok_cons (laws_eqArrS.ok k) allok_nil) holds_nil)) (by kernel_rfl) Tryd.func23 (by kernel_rfl) laws_eqDecl.ann laws_eqDecl.A laws_eqDecl.R (fun x y h => (laws_eqDecl.ev k x).trans h) (by kernel_rfl)

/-! loop.example/g00719/laws.eqInterval -/
def laws_eqInterval.A : Sh := (.cons (.pur (.cons (.int .i64) (.cons (.int .i64) .nil))) (.cons (.pur (.cons (.int .i64) (.cons (.int .i64) .nil))) .nil))
def laws_eqInterval.R : Sh := (.cons (.pur .bool) .nil)
def laws_eqInterval.ann : Ann := { loops := [], joins := [], keys := [] }
noncomputable def laws_eqInterval (k : Nat) : ((Int × Int × Unit) × (Int × Int × Unit) × Unit) → Option ((Bool × Unit) × (Unit × Unit × Unit)) := fun x => match x with
 | (a, b_, ()) =>
  br k (a.1 != b_.1)
  (some ((false, ()), ((), (), ())))
  (br k (a.2.1 != b_.2.1)
  (some ((false, ()), ((), (), ())))
  (some ((true, ()), ((), (), ()))))
noncomputable def laws_eqInterval.sg (k : Nat) : Sig := ⟨laws_eqInterval.A, laws_eqInterval.R, laws_eqInterval k⟩
noncomputable def laws_eqInterval.C (k : Nat) : Ctx := ⟨Tryd.prog, [], k⟩
theorem laws_eqInterval.ev (k : Nat) (x : laws_eqInterval.A.T) : evFunc (laws_eqInterval.C k) laws_eqInterval.ann Tryd.f90 laws_eqInterval.A laws_eqInterval.R x = laws_eqInterval k x := by kernel_rfl
theorem laws_eqInterval.ok {L : List (Nat × Obj)}  (k : Nat) : SigHolds Tryd.prog L 90 (laws_eqInterval.sg k) :=
  sig_of_ev (C := laws_eqInterval.C k) holds_nil (by kernel_rfl) Tryd.func90 (by kernel_rfl) laws_eqInterval.ann laws_eqInterval.A laws_eqInterval.R (fun x y h => (laws_eqInterval.ev k x).trans h) (by kernel_rfl)

end Go.Pev.F
