/-
  Printed by gen.py: what functions of the program compute, and that they do.
-/
import Derived.Test.YtimiagnkcjfdhaaGreatDoorK04
set_option linter.unusedSimpArgs false
set_option linter.unusedVariables false
open Go.Proofs Go.Pev
namespace Go.Pev.F
set_option maxRecDepth 100000
set_option linter.unusedVariables false

/-! loop.example/g00719/impl.within -/
def impl_within.A : Sh := (.cons (.pur (.int .i64)) (.cons (.pur (.int .i64)) (.cons (.pur (.int .i64)) .nil)))
def impl_within.R : Sh := (.cons (.pur .bool) .nil)
def impl_within.ann : Ann := { loops := [], joins := [(1, [(6, .bool)])], keys := [] }
noncomputable def impl_within (k : Nat) : (Int × Int × Int × Unit) → Option ((Bool × Unit) × (Unit × Unit × Unit × Unit)) := fun x => match x with
 | (n, low, high, ()) =>
  (br k (decide (low ≤ n))
  (some (decide (n ≤ high), ()))
  (some (false, ())) : Option (Bool × Unit)).bind fun j1 =>
  some ((j1.1, ()), ((), (), (), ()))
noncomputable def impl_within.sg (k : Nat) : Sig := ⟨impl_within.A, impl_within.R, impl_within k⟩
noncomputable def impl_within.C (k : Nat) : Ctx := ⟨Tryz.prog, [], k⟩
theorem impl_within.ev (k : Nat) (x : impl_within.A.T) : evFunc (impl_within.C k) impl_within.ann Tryz.f98 impl_within.A impl_within.R x = impl_within k x := by kernel_rfl
theorem impl_within.ok {L : List (Nat × Obj)}  (k : Nat) : SigHolds Tryz.prog L 98 (impl_within.sg k) :=
  sig_of_ev (C := impl_within.C k) holds_nil (by kernel_rfl) Tryz.func98 (by kernel_rfl) impl_within.ann impl_within.A impl_within.R (fun x y h => (impl_within.ev k x).trans h) (by kernel_rfl)

/-! slices.Index[[]string,string] -/
def slices_Index_string_string.A : Sh := (.cons (.pur (.sl false .str)) (.cons (.pur .str) .nil))
def slices_Index_string_string.R : Sh := (.cons (.pur (.int .i64)) .nil)
def slices_Index_string_string.ann : Ann := { loops := [(0, [(0, (.pur (.sl false .str))), (1, (.pur .str)), (7, (.pur (.int .i64))), (8, (.pur (.int .i64)))])], joins := [], keys := [] }
noncomputable def slices_Index_string_string.l0 (k : Nat)  (G0 : ((List (List UInt8)) × (List UInt8) × Int × Int × Unit) → Option ((Int × Unit) × (Unit × Unit × Unit))) : ((List (List UInt8)) × (List UInt8) × Int × Int × Unit) → Option ((Int × Unit) × (Unit × Unit × Unit)) := fun x => match x with
 | (s_, v, t7, t8, ()) =>
  br k (decide (t8 < t7))
  (br k (decide (0 ≤ t8))
  (bd k (s_[t8.toNat]?) fun x1 =>
  br k (v == x1)
  (some ((t8, ()), ((), (), ())))
  (G0 (s_, v, t7, IntKind.wrap .i64 (t8 + 1), ())))
  none)
  (some (((-1), ()), ((), (), ())))
noncomputable def slices_Index_string_string (k : Nat) : ((List (List UInt8)) × (List UInt8) × Unit) → Option ((Int × Unit) × (Unit × Unit × Unit)) := fun x => match x with
 | (s_, v, ()) =>
  iter (slices_Index_string_string.l0 k) k (s_, v, (s_.length : Int), 0, ())
noncomputable def slices_Index_string_string.sg (k : Nat) : Sig := ⟨slices_Index_string_string.A, slices_Index_string_string.R, slices_Index_string_string k⟩
noncomputable def slices_Index_string_string.C (k : Nat) : Ctx := ⟨Tryz.prog, [], k⟩
theorem slices_Index_string_string.ev (k : Nat) (x : slices_Index_string_string.A.T) : evFunc (slices_Index_string_string.C k) slices_Index_string_string.ann Tryz.f126 slices_Index_string_string.A slices_Index_string_string.R x = slices_Index_string_string k x := by kernel_rfl
theorem slices_Index_string_string.ok {L : List (Nat × Obj)}  (k : Nat) : SigHolds Tryz.prog L 126 (slices_Index_string_string.sg k) :=
  sig_of_ev (C := slices_Index_string_string.C k) holds_nil (by kernel_rfl) Tryz.func126 (by kernel_rfl) slices_Index_string_string.ann slices_Index_string_string.A slices_Index_string_string.R (fun x y h => (slices_Index_string_string.ev k x).trans h) (by kernel_rfl)

/-! slices.Contains[[]string,string] -/
def slices_Contains_string_string.A : Sh := (.cons (.pur (.sl false .str)) (.cons (.pur .str) .nil))
def slices_Contains_string_string.R : Sh := (.cons (.pur .bool) .nil)
def slices_Contains_string_string.ann : Ann := { loops := [], joins := [], keys := [] }
noncomputable def slices_Contains_string_string (k : Nat) : ((List (List UInt8)) × (List UInt8) × Unit) → Option ((Bool × Unit) × (Unit × Unit × Unit)) := fun x => match x with
 | (s_, v, ()) =>
  bd k (slices_Index_string_string k (s_, v, ())) fun y1 =>
  some ((decide (y1.1.1 ≥ 0), ()), ((), (), ()))
noncomputable def slices_Contains_string_string.sg (k : Nat) : Sig := ⟨slices_Contains_string_string.A, slices_Contains_string_string.R, slices_Contains_string_string k⟩
noncomputable def slices_Contains_string_string.C (k : Nat) : Ctx := ⟨Tryz.prog, [(126, [slices_Index_string_string.sg k])], k⟩
theorem slices_Contains_string_string.ev (k : Nat) (x : slices_Contains_string_string.A.T) : evFunc (slices_Contains_string_string.C k) slices_Contains_string_string.ann Tryz.f96 slices_Contains_string_string.A slices_Contains_string_string.R x = slices_Contains_string_string k x := by kernel_rfl
theorem slices_Contains_string_string.ok {L : List (Nat × Obj)}  (k : Nat) : SigHolds Tryz.prog L 96 (slices_Contains_string_string.sg k) :=
  sig_of_ev (C := slices_Contains_string_string.C k) (holds_cons (allok_cons (slices_Index_string_string.ok k) allok_nil) holds_nil) (by kernel_rfl) Tryz.func96 (by kernel_rfl) slices_Contains_string_string.ann slices_Contains_string_string.A slices_Contains_string_string.R (fun x y h => (slices_Contains_string_string.ev k x).trans h) (by kernel_rfl)

/-! loop.example/g00719/impl.isWord -/
def impl_isWord.A : Sh := (.cons (.pur .str) .nil)
def impl_isWord.R : Sh := (.cons (.pur .bool) .nil)
def impl_isWord.ann : Ann := { loops := [], joins := [], keys := [] }
noncomputable def impl_isWord (k : Nat) : ((List UInt8) × Unit) → Option ((Bool × Unit) × (Unit × Unit)) := fun x => match x with
 | (s_, ()) =>
  bd k (Lb.Fields k ([118, 97, 114, 32, 102, 108, 97, 103, 32, 97, 114, 114, 97, 121, 32, 105, 102, 32, 102, 111, 114, 107, 32, 101, 108, 115, 101, 32, 101, 110, 100, 32, 119, 104, 105, 108, 101, 32, 117, 110, 114, 111, 108, 108, 32, 97, 115, 115, 101, 114, 116, 32, 97, 115, 115, 117, 109, 101, 32, 105, 110, 112, 117, 116, 32, 115, 112, 108, 105, 116, 32, 109, 101, 114, 103, 101, 32, 116, 114, 117, 101, 32, 102, 97, 108, 115, 101], ())) fun y1 =>
  bd k (slices_Contains_string_string k (y1.1.1, s_, ())) fun y2 =>
  some ((y2.1.1, ()), ((), ()))
noncomputable def impl_isWord.sg (k : Nat) : Sig := ⟨impl_isWord.A, impl_isWord.R, impl_isWord k⟩
noncomputable def impl_isWord.C (k : Nat) : Ctx := ⟨Tryz.prog, [(151, [Lb.Fields.sg k]), (96, [slices_Contains_string_string.sg k])], k⟩
theorem impl_isWord.ev (k : Nat) (x : impl_isWord.A.T) : evFunc (impl_isWord.C k) impl_isWord.ann Tryz.f125 impl_isWord.A impl_isWord.R x = impl_isWord k x := by kernel_rfl
theorem impl_isWord.ok {L : List (Nat × Obj)} (hSp : Lb.NeedSp L) (k : Nat) : SigHolds Tryz.prog L 125 (impl_isWord.sg k) :=
  sig_of_ev (C := impl_isWord.C k) (holds_cons (allok_cons (Lb.Fields.ok hSp k) allok_nil) (holds_cons (allok_cons (slices_Contains_string_string.ok k) allok_nil) holds_nil)) (by kernel_rfl) Tryz.func125 (by kernel_rfl) impl_isWord.ann impl_isWord.A impl_isWord.R (fun x y h => (impl_isWord.ev k x).trans h) (by kernel_rfl)

/-! loop.example/g00719/impl.isName -/
def impl_isName.A : Sh := (.cons (.pur .str) .nil)
def impl_isName.R : Sh := (.cons (.pur .bool) .nil)
def impl_isName.ann : Ann := { loops := [(0, [(0, (.pur .str)), (5, (.pur (.int .i64))), (6, (.pur (.int .i64)))])], joins := [(7, [(2, .bool)])], keys := [] }
noncomputable def impl_isName.l0 (k : Nat)  (G0 : ((List UInt8) × Int × Int × Unit) → Option ((Bool × Unit) × (Unit × Unit))) : ((List UInt8) × Int × Int × Unit) → Option ((Bool × Unit) × (Unit × Unit)) := fun x => match x with
 | (s_, t5, t6, ()) =>
  br k (decide (t6 < t5))
  (br k (decide (0 ≤ t6))
  (bd k (s_[t6.toNat]?) fun b1 =>
  bd k (impl_isLetter k ((b1.toNat : Int), ())) fun y2 =>
  br k (!y2.1.1)
  (some ((false, ()), ((), ())))
  (G0 (s_, t5, IntKind.wrap .i64 (t6 + 1), ())))
  none)
  ((bd k (impl_within k ((s_.length : Int), 1, 8, ())) fun y3 =>
  br k (y3.1.1)
  (bd k (impl_isWord k (s_, ())) fun y4 =>
  some (!y4.1.1, ()))
  (some (false, ())) : Option (Bool × Unit)).bind fun j5 =>
  some ((j5.1, ()), ((), ())))
noncomputable def impl_isName (k : Nat) : ((List UInt8) × Unit) → Option ((Bool × Unit) × (Unit × Unit)) := fun x => match x with
 | (s_, ()) =>
  iter (impl_isName.l0 k) k (s_, (s_.length : Int), 0, ())
noncomputable def impl_isName.sg (k : Nat) : Sig := ⟨impl_isName.A, impl_isName.R, impl_isName k⟩
noncomputable def impl_isName.C (k : Nat) : Ctx := ⟨Tryz.prog, [(124, [impl_isLetter.sg k]), (98, [impl_within.sg k]), (125, [impl_isWord.sg k])], k⟩
theorem impl_isName.ev (k : Nat) (x : impl_isName.A.T) : evFunc (impl_isName.C k) impl_isName.ann Tryz.f95 impl_isName.A impl_isName.R x = impl_isName k x := by kernel_rfl
theorem impl_isName.ok {L : List (Nat × Obj)} (hSp : Lb.NeedSp L) (k : Nat) : SigHolds Tryz.prog L 95 (impl_isName.sg k) :=
  sig_of_ev (C := impl_isName.C k) (holds_cons (allok_cons (impl_isLetter.ok k) allok_nil) (holds_cons (allok_cons (impl_within.ok k) allok_nil) (holds_cons (allok_cons (impl_isWord.ok hSp k) allok_nil) holds_nil))) (by kernel_rfl) Tryz.func95 (by kernel_rfl) impl_isName.ann impl_isName.A impl_isName.R (fun x y h => (impl_isName.ev k x).trans h) (by kernel_rfl)

/-! (loop.example/g00719/impl.Decl).isRight$1 -/
def impl_Decl_isRight_1.A : Sh := (.cons (.pur (.cons .str (.cons (.int .i64) .nil))) .nil)
def impl_Decl_isRight_1.R : Sh := (.cons (.pur .bool) .nil)
def impl_Decl_isRight_1.ann : Ann := { loops := [], joins := [], keys := [] }
noncomputable def impl_Decl_isRight_1 (k : Nat) : (((List UInt8) × Int × Unit) × Unit) → Option ((Bool × Unit) × (Unit × Unit)) := fun x => match x with
 | (a, ()) =>
  bd k (impl_within k (a.2.1, 1, 16, ())) fun y1 =>
  some ((y1.1.1, ()), ((), ()))
noncomputable def impl_Decl_isRight_1.sg (k : Nat) : Sig := ⟨impl_Decl_isRight_1.A, impl_Decl_isRight_1.R, impl_Decl_isRight_1 k⟩
noncomputable def impl_Decl_isRight_1.C (k : Nat) : Ctx := ⟨Tryz.prog, [(98, [impl_within.sg k])], k⟩
theorem impl_Decl_isRight_1.ev (k : Nat) (x : impl_Decl_isRight_1.A.T) : evFunc (impl_Decl_isRight_1.C k) impl_Decl_isRight_1.ann Tryz.f97 impl_Decl_isRight_1.A impl_Decl_isRight_1.R x = impl_Decl_isRight_1 k x := by kernel_rfl
theorem impl_Decl_isRight_1.ok {L : List (Nat × Obj)}  (k : Nat) : SigHolds Tryz.prog L 97 (impl_Decl_isRight_1.sg k) :=
  sig_of_ev (C := impl_Decl_isRight_1.C k) (holds_cons (allok_cons (impl_within.ok k) allok_nil) holds_nil) (by kernel_rfl) Tryz.func97 (by kernel_rfl) impl_Decl_isRight_1.ann impl_Decl_isRight_1.A impl_Decl_isRight_1.R (fun x y h => (impl_Decl_isRight_1.ev k x).trans h) (by kernel_rfl)

/-! loop.example/g00719/impl.areAll[loop.example/g00719/impl.Arr]$1 -/
def impl_areAll_impl_Arr_1.A : Sh := (.cons (.pur (.cons .str (.cons (.int .i64) .nil))) (.cons (.box (.cons (.fn (.func 97) 0 .nil) .nil)) .nil))
def impl_areAll_impl_Arr_1.R : Sh := (.cons (.pur .bool) .nil)
def impl_areAll_impl_Arr_1.ann : Ann := { loops := [], joins := [], keys := [] }
noncomputable def impl_areAll_impl_Arr_1 (k : Nat) : (((List UInt8) × Int × Unit) × ((Unit) × Unit) × Unit) → Option ((Bool × Unit) × (Unit × ((Unit) × Unit) × Unit)) := fun x => match x with
 | (x_, ((()), ()), ()) =>
  bd k (impl_Decl_isRight_1 k (x_, ())) fun y1 =>
  some ((!y1.1.1, ()), ((), ((()), ()), ()))
noncomputable def impl_areAll_impl_Arr_1.sg (k : Nat) : Sig := ⟨impl_areAll_impl_Arr_1.A, impl_areAll_impl_Arr_1.R, impl_areAll_impl_Arr_1 k⟩
noncomputable def impl_areAll_impl_Arr_1.C (k : Nat) : Ctx := ⟨Tryz.prog, [(97, [impl_Decl_isRight_1.sg k])], k⟩
theorem impl_areAll_impl_Arr_1.ev (k : Nat) (x : impl_areAll_impl_Arr_1.A.T) : evFunc (impl_areAll_impl_Arr_1.C k) impl_areAll_impl_Arr_1.ann Tryz.f128 impl_areAll_impl_Arr_1.A impl_areAll_impl_Arr_1.R x = impl_areAll_impl_Arr_1 k x := by kernel_rfl
theorem impl_areAll_impl_Arr_1.ok {L : List (Nat × Obj)}  (k : Nat) : SigHolds Tryz.prog L 128 (impl_areAll_impl_Arr_1.sg k) :=
  sig_of_ev (C := impl_areAll_impl_Arr_1.C k) (holds_cons (allok_cons (impl_Decl_isRight_1.ok k) allok_nil) holds_nil) (by kernel_rfl) Tryz.func128 (by kernel_rfl) impl_areAll_impl_Arr_1.ann impl_areAll_impl_Arr_1.A impl_areAll_impl_Arr_1.R (fun x y h => (impl_areAll_impl_Arr_1.ev k x).trans h) (by kernel_rfl)

/-! slices.IndexFunc[[]loop.example/g00719/impl.Arr,loop.example/g00719/impl.Arr] -/
def slices_IndexFunc_impl_Arr_impl_Arr.A : Sh := (.cons (.pur (.sl false (.cons .str (.cons (.int .i64) .nil)))) (.cons (.fn (.func 128) 0 (.cons (.box (.cons (.fn (.func 97) 0 .nil) .nil)) .nil)) .nil))
def slices_IndexFunc_impl_Arr_impl_Arr.R : Sh := (.cons (.pur (.int .i64)) .nil)
def slices_IndexFunc_impl_Arr_impl_Arr.ann : Ann := { loops := [(0, [(0, (.pur (.sl false (.cons .str (.cons (.int .i64) .nil))))), (1, (.fn (.func 128) 0 (.cons (.box (.cons (.fn (.func 97) 0 .nil) .nil)) .nil))), (7, (.pur (.int .i64))), (8, (.pur (.int .i64)))])], joins := [], keys := [] }
noncomputable def slices_IndexFunc_impl_Arr_impl_Arr.l0 (k : Nat)  (G0 : ((List ((List UInt8) × Int × Unit)) × (((Unit) × Unit) × Unit) × Int × Int × Unit) → Option ((Int × Unit) × (Unit × (((Unit) × Unit) × Unit) × Unit))) : ((List ((List UInt8) × Int × Unit)) × (((Unit) × Unit) × Unit) × Int × Int × Unit) → Option ((Int × Unit) × (Unit × (((Unit) × Unit) × Unit) × Unit)) := fun x => match x with
 | (s_, (((()), ()), ()), t7, t8, ()) =>
  br k (decide (t8 < t7))
  (br k (decide (0 ≤ t8))
  (bd k (s_[t8.toNat]?) fun x1 =>
  bd k (impl_areAll_impl_Arr_1 k (x1, ((()), ()), ())) fun y2 =>
  br k (y2.1.1)
  (some ((t8, ()), ((), (((()), ()), ()), ())))
  (G0 (s_, (((()), ()), ()), t7, IntKind.wrap .i64 (t8 + 1), ())))
  none)
  (some (((-1), ()), ((), (((()), ()), ()), ())))
noncomputable def slices_IndexFunc_impl_Arr_impl_Arr (k : Nat) : ((List ((List UInt8) × Int × Unit)) × (((Unit) × Unit) × Unit) × Unit) → Option ((Int × Unit) × (Unit × (((Unit) × Unit) × Unit) × Unit)) := fun x => match x with
 | (s_, (((()), ()), ()), ()) =>
  iter (slices_IndexFunc_impl_Arr_impl_Arr.l0 k) k (s_, (((()), ()), ()), (s_.length : Int), 0, ())
noncomputable def slices_IndexFunc_impl_Arr_impl_Arr.sg (k : Nat) : Sig := ⟨slices_IndexFunc_impl_Arr_impl_Arr.A, slices_IndexFunc_impl_Arr_impl_Arr.R, slices_IndexFunc_impl_Arr_impl_Arr k⟩
noncomputable def slices_IndexFunc_impl_Arr_impl_Arr.C (k : Nat) : Ctx := ⟨Tryz.prog, [(128, [impl_areAll_impl_Arr_1.sg k])], k⟩
theorem slices_IndexFunc_impl_Arr_impl_Arr.ev (k : Nat) (x : slices_IndexFunc_impl_Arr_impl_Arr.A.T) : evFunc (slices_IndexFunc_impl_Arr_impl_Arr.C k) slices_IndexFunc_impl_Arr_impl_Arr.ann Tryz.f152 slices_IndexFunc_impl_Arr_impl_Arr.A slices_IndexFunc_impl_Arr_impl_Arr.R x = slices_IndexFunc_impl_Arr_impl_Arr k x := by kernel_rfl
theorem slices_IndexFunc_impl_Arr_impl_Arr.ok {L : List (Nat × Obj)}  (k : Nat) : SigHolds Tryz.prog L 152 (slices_IndexFunc_impl_Arr_impl_Arr.sg k) :=
  sig_of_ev (C := slices_IndexFunc_impl_Arr_impl_Arr.C k) (holds_cons (allok_cons (impl_areAll_impl_Arr_1.ok k) allok_nil) holds_nil) (by kernel_rfl) Tryz.func152 (by kernel_rfl) slices_IndexFunc_impl_Arr_impl_Arr.ann slices_IndexFunc_impl_Arr_impl_Arr.A slices_IndexFunc_impl_Arr_impl_Arr.R (fun x y h => (slices_IndexFunc_impl_Arr_impl_Arr.ev k x).trans h) (by kernel_rfl)

/-! slices.ContainsFunc[[]loop.example/g00719/impl.Arr,loop.example/g00719/impl.Arr] -/
def slices_ContainsFunc_impl_Arr_impl_Arr.A : Sh := (.cons (.pur (.sl false (.cons .str (.cons (.int .i64) .nil)))) (.cons (.fn (.func 128) 0 (.cons (.box (.cons (.fn (.func 97) 0 .nil) .nil)) .nil)) .nil))
def slices_ContainsFunc_impl_Arr_impl_Arr.R : Sh := (.cons (.pur .bool) .nil)
def slices_ContainsFunc_impl_Arr_impl_Arr.ann : Ann := { loops := [], joins := [], keys := [] }
noncomputable def slices_ContainsFunc_impl_Arr_impl_Arr (k : Nat) : ((List ((List UInt8) × Int × Unit)) × (((Unit) × Unit) × Unit) × Unit) → Option ((Bool × Unit) × (Unit × (((Unit) × Unit) × Unit) × Unit)) := fun x => match x with
 | (s_, (((()), ()), ()), ()) =>
  bd k (slices_IndexFunc_impl_Arr_impl_Arr k (s_, (((()), ()), ()), ())) fun y1 =>
  some ((decide (y1.1.1 ≥ 0), ()), ((), (((()), ()), ()), ()))
noncomputable def slices_ContainsFunc_impl_Arr_impl_Arr.sg (k : Nat) : Sig := ⟨slices_ContainsFunc_impl_Arr_impl_Arr.A, slices_ContainsFunc_impl_Arr_impl_Arr.R, slices_ContainsFunc_impl_Arr_impl_Arr k⟩
noncomputable def slices_ContainsFunc_impl_Arr_impl_Arr.C (k : Nat) : Ctx := ⟨Tryz.prog, [(152, [slices_IndexFunc_impl_Arr_impl_Arr.sg k])], k⟩
theorem slices_ContainsFunc_impl_Arr_impl_Arr.ev (k : Nat) (x : slices_ContainsFunc_impl_Arr_impl_Arr.A.T) : evFunc (slices_ContainsFunc_impl_Arr_impl_Arr.C k) slices_ContainsFunc_impl_Arr_impl_Arr.ann Tryz.f127 slices_ContainsFunc_impl_Arr_impl_Arr.A slices_ContainsFunc_impl_Arr_impl_Arr.R x = slices_ContainsFunc_impl_Arr_impl_Arr k x := by kernel_rfl
theorem slices_ContainsFunc_impl_Arr_impl_Arr.ok {L : List (Nat × Obj)}  (k : Nat) : SigHolds Tryz.prog L 127 (slices_ContainsFunc_impl_Arr_impl_Arr.sg k) :=
  sig_of_ev (C := slices_ContainsFunc_impl_Arr_impl_Arr.C k) (holds_cons (allok_cons (slices_IndexFunc_impl_Arr_impl_Arr.ok k) allok_nil) holds_nil) (by kernel_rfl) Tryz.func127 (by kernel_rfl) slices_ContainsFunc_impl_Arr_impl_Arr.ann slices_ContainsFunc_impl_Arr_impl_Arr.A slices_ContainsFunc_impl_Arr_impl_Arr.R (fun x y h => (slices_ContainsFunc_impl_Arr_impl_Arr.ev k x).trans h) (by kernel_rfl)

/-! loop.example/g00719/impl.areAll[loop.example/g00719/impl.Arr] -/
def impl_areAll_impl_Arr.A : Sh := (.cons (.pur (.sl false (.cons .str (.cons (.int .i64) .nil)))) (.cons (.fn (.func 97) 0 .nil) .nil))
def impl_areAll_impl_Arr.R : Sh := (.cons (.pur .bool) .nil)
def impl_areAll_impl_Arr.ann : Ann := { loops := [], joins := [], keys := [] }
noncomputable def impl_areAll_impl_Arr (k : Nat) : ((List ((List UInt8) × Int × Unit)) × (Unit) × Unit) → Option ((Bool × Unit) × (Unit × (Unit) × Unit)) := fun x => match x with
 | (list, (()), ()) =>
  bd k (slices_ContainsFunc_impl_Arr_impl_Arr k (list, (((()), ()), ()), ())) fun y1 =>
  some ((!y1.1.1, ()), ((), (()), ()))
noncomputable def impl_areAll_impl_Arr.sg (k : Nat) : Sig := ⟨impl_areAll_impl_Arr.A, impl_areAll_impl_Arr.R, impl_areAll_impl_Arr k⟩
noncomputable def impl_areAll_impl_Arr.C (k : Nat) : Ctx := ⟨Tryz.prog, [(127, [slices_ContainsFunc_impl_Arr_impl_Arr.sg k])], k⟩
theorem impl_areAll_impl_Arr.ev (k : Nat) (x : impl_areAll_impl_Arr.A.T) : evFunc (impl_areAll_impl_Arr.C k) impl_areAll_impl_Arr.ann Tryz.f99 impl_areAll_impl_Arr.A impl_areAll_impl_Arr.R x = impl_areAll_impl_Arr k x := by kernel_rfl
theorem impl_areAll_impl_Arr.ok {L : List (Nat × Obj)}  (k : Nat) : SigHolds Tryz.prog L 99 (impl_areAll_impl_Arr.sg k) :=
  sig_of_ev (C := impl_areAll_impl_Arr.C k) (holds_cons (allok_cons (slices_ContainsFunc_impl_Arr_impl_Arr.ok k) allok_nil) holds_nil) (by kernel_rfl) Tryz.func99 (by kernel_rfl) impl_areAll_impl_Arr.ann impl_areAll_impl_Arr.A impl_areAll_impl_Arr.R (fun x y h => (impl_areAll_impl_Arr.ev k x).trans h) (by kernel_rfl)

/-! (loop.example/g00719/impl.Decl).isRight -/
def impl_Decl_isRight.A : Sh := (.cons (.pur (.cons (.sl false .str) (.cons (.sl false .str) (.cons (.sl false (.cons .str (.cons (.int .i64) .nil))) .nil)))) .nil)
def impl_Decl_isRight.R : Sh := (.cons (.pur .bool) .nil)
def impl_Decl_isRight.ann : Ann := { loops := [(0, [(1, (.box (.cons (.pur (.sl false .str)) (.cons (.pur (.sl false .str)) (.cons (.pur (.sl false (.cons .str (.cons (.int .i64) .nil)))) .nil))))), (3, (.pur (.sl false .str))), (9, (.pur (.sl false .str))), (10, (.pur (.int .i64))), (11, (.pur (.int .i64)))])], joins := [(5, [(25, .bool)])], keys := [] }
noncomputable def impl_Decl_isRight.l0 (k : Nat)  (G0 : (((List (List UInt8)) × (List (List UInt8)) × (List ((List UInt8) × Int × Unit)) × Unit) × (List (List UInt8)) × (List (List UInt8)) × Int × Int × Unit) → Option ((Bool × Unit) × (Unit × Unit))) : (((List (List UInt8)) × (List (List UInt8)) × (List ((List UInt8) × Int × Unit)) × Unit) × (List (List UInt8)) × (List (List UInt8)) × Int × Int × Unit) → Option ((Bool × Unit) × (Unit × Unit)) := fun x => match x with
 | ((d__0, d__1, d__2, ()), list, t9, t10, t11, ()) =>
  br k (decide (t11 < t10))
  (br k (decide (0 ≤ t11))
  (bd k (t9[t11.toNat]?) fun x2 =>
  (bd k (impl_isName k (x2, ())) fun y3 =>
  br k (!y3.1.1)
  (some (true, ()))
  (br k (decide (0 ≤ t11 ∧ t11 ≤ (list.length : Int)))
  (bd k (slices_Contains_string_string k (list.take t11.toNat, x2, ())) fun y4 =>
  some (y4.1.1, ()))
  none) : Option (Bool × Unit)).bind fun j5 =>
  br k (j5.1)
  (some ((false, ()), ((), ())))
  (G0 ((d__0, d__1, d__2, ()), list, t9, t10, IntKind.wrap .i64 (t11 + 1), ())))
  none)
  (br k (decide ((d__0.length : Int) ≤ 5))
  (br k (decide ((d__1.length : Int) ≤ 3))
  (br k (decide ((d__2.length : Int) ≤ 2))
  (bd k (impl_areAll_impl_Arr k (d__2, (()), ())) fun y6 =>
  some ((y6.1.1, ()), ((), ())))
  (some ((false, ()), ((), ()))))
  (some ((false, ()), ((), ()))))
  (some ((false, ()), ((), ()))))
noncomputable def impl_Decl_isRight (k : Nat) : (((List (List UInt8)) × (List (List UInt8)) × (List ((List UInt8) × Int × Unit)) × Unit) × Unit) → Option ((Bool × Unit) × (Unit × Unit)) := fun x => match x with
 | (d_, ()) =>
  bd k (impl_Decl_names k (d_, ())) fun y1 =>
  iter (impl_Decl_isRight.l0 k) k ((d_.1, d_.2.1, d_.2.2.1, ()), y1.1.1, y1.1.1, (y1.1.1.length : Int), 0, ())
noncomputable def impl_Decl_isRight.sg (k : Nat) : Sig := ⟨impl_Decl_isRight.A, impl_Decl_isRight.R, impl_Decl_isRight k⟩
noncomputable def impl_Decl_isRight.C (k : Nat) : Ctx := ⟨Tryz.prog, [(94, [impl_Decl_names.sg k]), (95, [impl_isName.sg k]), (96, [slices_Contains_string_string.sg k]), (99, [impl_areAll_impl_Arr.sg k])], k⟩
theorem impl_Decl_isRight.ev (k : Nat) (x : impl_Decl_isRight.A.T) : evFunc (impl_Decl_isRight.C k) impl_Decl_isRight.ann Tryz.f64 impl_Decl_isRight.A impl_Decl_isRight.R x = impl_Decl_isRight k x := by kernel_rfl
theorem impl_Decl_isRight.ok {L : List (Nat × Obj)} (hSp : Lb.NeedSp L) (k : Nat) : SigHolds Tryz.prog L 64 (impl_Decl_isRight.sg k) :=
  sig_of_ev (C := impl_Decl_isRight.C k) (holds_cons (allok_cons (impl_Decl_names.ok k) allok_nil) (holds_cons (allok_cons (impl_isName.ok hSp k) allok_nil) (holds_cons (allok_cons (slices_Contains_string_string.ok k) allok_nil) (holds_cons (allok_cons (impl_areAll_impl_Arr.ok k) allok_nil) holds_nil)))) (by kernel_rfl) Tryz.func64 (by kernel_rfl) impl_Decl_isRight.ann impl_Decl_isRight.A impl_Decl_isRight.R (fun x y h => (impl_Decl_isRight.ev k x).trans h) (by kernel_rfl)

/-! (loop.example/g00719/impl.Decl).leaves -/
def impl_Decl_leaves.A : Sh := (.cons (.pur (.cons (.sl false .str) (.cons (.sl false .str) (.cons (.sl false (.cons .str (.cons (.int .i64) .nil))) .nil)))) .nil)
def impl_Decl_leaves.R : Sh := (.cons (.pur (.int .i64)) .nil)
def impl_Decl_leaves.ann : Ann := { loops := [], joins := [], keys := [] }
noncomputable def impl_Decl_leaves (k : Nat) : (((List (List UInt8)) × (List (List UInt8)) × (List ((List UInt8) × Int × Unit)) × Unit) × Unit) → Option ((Int × Unit) × (Unit × Unit)) := fun x => match x with
 | (d_, ()) =>
  br k (decide (0 ≤ (d_.2.1.length : Int)))
  (some ((IntKind.wrap .i64 (1 * 2 ^ (min (d_.2.1.length : Int).toNat 64)), ()), ((), ())))
  none
noncomputable def impl_Decl_leaves.sg (k : Nat) : Sig := ⟨impl_Decl_leaves.A, impl_Decl_leaves.R, impl_Decl_leaves k⟩
noncomputable def impl_Decl_leaves.C (k : Nat) : Ctx := ⟨Tryz.prog, [], k⟩
theorem impl_Decl_leaves.ev (k : Nat) (x : impl_Decl_leaves.A.T) : evFunc (impl_Decl_leaves.C k) impl_Decl_leaves.ann Tryz.f79 impl_Decl_leaves.A impl_Decl_leaves.R x = impl_Decl_leaves k x := by kernel_rfl
theorem impl_Decl_leaves.ok {L : List (Nat × Obj)}  (k : Nat) : SigHolds Tryz.prog L 79 (impl_Decl_leaves.sg k) :=
  sig_of_ev (C := impl_Decl_leaves.C k) holds_nil (by kernel_rfl) Tryz.func79 (by kernel_rfl) impl_Decl_leaves.ann impl_Decl_leaves.A impl_Decl_leaves.R (fun x y h => (impl_Decl_leaves.ev k x).trans h) (by kernel_rfl)

/-! loop.example/g00719/impl.size[string] -/
def impl_size_string.A : Sh := (.cons (.pur (.sl false .str)) .nil)
def impl_size_string.R : Sh := (.cons (.pur (.int .i64)) .nil)
def impl_size_string.ann : Ann := { loops := [], joins := [], keys := [] }
noncomputable def impl_size_string (k : Nat) : ((List (List UInt8)) × Unit) → Option ((Int × Unit) × (Unit × Unit)) := fun x => match x with
 | (list, ()) =>
  some (((list.length : Int), ()), ((), ()))
noncomputable def impl_size_string.sg (k : Nat) : Sig := ⟨impl_size_string.A, impl_size_string.R, impl_size_string k⟩
noncomputable def impl_size_string.C (k : Nat) : Ctx := ⟨Tryz.prog, [], k⟩
theorem impl_size_string.ev (k : Nat) (x : impl_size_string.A.T) : evFunc (impl_size_string.C k) impl_size_string.ann Tryz.f69 impl_size_string.A impl_size_string.R x = impl_size_string k x := by kernel_rfl
theorem impl_size_string.ok {L : List (Nat × Obj)}  (k : Nat) : SigHolds Tryz.prog L 69 (impl_size_string.sg k) :=
  sig_of_ev (C := impl_size_string.C k) holds_nil (by kernel_rfl) Tryz.func69 (by kernel_rfl) impl_size_string.ann impl_size_string.A impl_size_string.R (fun x y h => (impl_size_string.ev k x).trans h) (by kernel_rfl)

/-! loop.example/g00719/impl.size[loop.example/g00719/impl.Node] -/
def impl_size_impl_Node.A : Sh := (.cons (.pur (.sl false (.cons (.int .i64) (.cons (.int .i64) (.cons (.int .i64) (.cons .bool (.cons (.sl false (.cons (.int .i64) (.cons (.int .i64) .nil))) (.cons (.sl false (.cons (.int .i64) (.cons (.int .i64) .nil))) .nil)))))))) .nil)
def impl_size_impl_Node.R : Sh := (.cons (.pur (.int .i64)) .nil)
def impl_size_impl_Node.ann : Ann := { loops := [], joins := [], keys := [] }
noncomputable def impl_size_impl_Node (k : Nat) : ((List (Int × Int × Int × Bool × (List (Int × Int × Unit)) × (List (Int × Int × Unit)) × Unit)) × Unit) → Option ((Int × Unit) × (Unit × Unit)) := fun x => match x with
 | (list, ()) =>
  some (((list.length : Int), ()), ((), ()))
noncomputable def impl_size_impl_Node.sg (k : Nat) : Sig := ⟨impl_size_impl_Node.A, impl_size_impl_Node.R, impl_size_impl_Node k⟩
noncomputable def impl_size_impl_Node.C (k : Nat) : Ctx := ⟨Tryz.prog, [], k⟩
theorem impl_size_impl_Node.ev (k : Nat) (x : impl_size_impl_Node.A.T) : evFunc (impl_size_impl_Node.C k) impl_size_impl_Node.ann Tryz.f49 impl_size_impl_Node.A impl_size_impl_Node.R x = impl_size_impl_Node k x := by kernel_rfl
theorem impl_size_impl_Node.ok {L : List (Nat × Obj)}  (k : Nat) : SigHolds Tryz.prog L 49 (impl_size_impl_Node.sg k) :=
  sig_of_ev (C := impl_size_impl_Node.C k) holds_nil (by kernel_rfl) Tryz.func49 (by kernel_rfl) impl_size_impl_Node.ann impl_size_impl_Node.A impl_size_impl_Node.R (fun x y h => (impl_size_impl_Node.ev k x).trans h) (by kernel_rfl)

/-! (loop.example/g00719/impl.Tree).find -/
def impl_Tree_find.A : Sh := (.cons (.pur (.cons (.sl false (.cons (.int .i64) (.cons (.int .i64) (.cons (.int .i64) (.cons .bool (.cons (.sl false (.cons (.int .i64) (.cons (.int .i64) .nil))) (.cons (.sl false (.cons (.int .i64) (.cons (.int .i64) .nil))) .nil))))))) .nil)) (.cons (.pur (.int .i64)) (.cons (.pur (.int .i64)) .nil)))
def impl_Tree_find.R : Sh := (.cons (.pur (.cons .bool (.cons (.sl false (.cons (.int .i64) (.cons (.int .i64) .nil))) (.cons (.sl false (.cons (.int .i64) (.cons (.int .i64) .nil))) .nil)))) (.cons (.pur .bool) .nil))
def impl_Tree_find.ann : Ann := { loops := [(0, [(1, (.pur (.int .i64))), (2, (.pur (.int .i64))), (3, (.box (.cons (.pur (.sl false (.cons (.int .i64) (.cons (.int .i64) (.cons (.int .i64) (.cons .bool (.cons (.sl false (.cons (.int .i64) (.cons (.int .i64) .nil))) (.cons (.sl false (.cons (.int .i64) (.cons (.int .i64) .nil))) .nil)))))))) .nil))), (6, (.box (.cons (.pur .bool) (.cons (.own (.cons (.int .i64) (.cons (.int .i64) .nil))) (.cons (.own (.cons (.int .i64) (.cons (.int .i64) .nil))) .nil))))), (8, (.pur (.int .i64)))])], joins := [], keys := [] }
noncomputable def impl_Tree_find.l0 (k : Nat)  (G0 : (Int × Int × ((List (Int × Int × Int × Bool × (List (Int × Int × Unit)) × (List (Int × Int × Unit)) × Unit)) × Unit) × (Bool × (List (Int × Int × Unit)) × (List (Int × Int × Unit)) × Unit) × Int × Unit) → Option (((Bool × (List (Int × Int × Unit)) × (List (Int × Int × Unit)) × Unit) × Bool × Unit) × (Unit × Unit × Unit × Unit))) : (Int × Int × ((List (Int × Int × Int × Bool × (List (Int × Int × Unit)) × (List (Int × Int × Unit)) × Unit)) × Unit) × (Bool × (List (Int × Int × Unit)) × (List (Int × Int × Unit)) × Unit) × Int × Unit) → Option (((Bool × (List (Int × Int × Unit)) × (List (Int × Int × Unit)) × Unit) × Bool × Unit) × (Unit × Unit × Unit × Unit)) := fun x => match x with
 | (flags, leaf, (t_0, ()), (t6_0, t6_1, t6_2, ()), at_, ()) =>
  br k (decide (at_ ≥ 0))
  (br k (decide (0 ≤ at_))
  (bd k (t_0[at_.toNat]?) fun x2 =>
  br k (x2.1 == (-1))
  (some (((x2.2.2.2.1, x2.2.2.2.2.1, x2.2.2.2.2.2.1, ()), true, ()), ((), (), (), ())))
  (bd k (impl_within k (x2.1, 0, IntKind.wrap .i64 (flags - 1), ())) fun y3 =>
  br k (!y3.1.1)
  (some (((false, [], [], ()), false, ()), ((), (), (), ())))
  (br k (decide (0 ≤ x2.1))
  (br k ((IntKind.wrap .i64 (((BitVec.ofInt 64 (leaf.fdiv (2 ^ (min x2.1.toNat 64))) &&& BitVec.ofInt 64 1).toNat : Int))) == 1)
  (bd k (impl_within k (x2.2.2.1, 0, IntKind.wrap .i64 (at_ - 1), ())) fun y4 =>
  br k (!y4.1.1)
  (some (((false, [], [], ()), false, ()), ((), (), (), ())))
  (G0 (flags, leaf, (t_0, ()), (t6_0, t6_1, t6_2, ()), x2.2.2.1, ())))
  (bd k (impl_within k (x2.2.1, 0, IntKind.wrap .i64 (at_ - 1), ())) fun y5 =>
  br k (!y5.1.1)
  (some (((false, [], [], ()), false, ()), ((), (), (), ())))
  (G0 (flags, leaf, (t_0, ()), (t6_0, t6_1, t6_2, ()), x2.2.1, ()))))
  none)))
  none)
  (some (((false, [], [], ()), false, ()), ((), (), (), ())))
noncomputable def impl_Tree_find (k : Nat) : (((List (Int × Int × Int × Bool × (List (Int × Int × Unit)) × (List (Int × Int × Unit)) × Unit)) × Unit) × Int × Int × Unit) → Option (((Bool × (List (Int × Int × Unit)) × (List (Int × Int × Unit)) × Unit) × Bool × Unit) × (Unit × Unit × Unit × Unit)) := fun x => match x with
 | (t, flags, leaf, ()) =>
  bd k (impl_size_impl_Node k (t.1, ())) fun y1 =>
  iter (impl_Tree_find.l0 k) k (flags, leaf, (t.1, ()), (false, [], [], ()), IntKind.wrap .i64 (y1.1.1 - 1), ())
noncomputable def impl_Tree_find.sg (k : Nat) : Sig := ⟨impl_Tree_find.A, impl_Tree_find.R, impl_Tree_find k⟩
noncomputable def impl_Tree_find.C (k : Nat) : Ctx := ⟨Tryz.prog, [(49, [impl_size_impl_Node.sg k]), (98, [impl_within.sg k])], k⟩
theorem impl_Tree_find.ev (k : Nat) (x : impl_Tree_find.A.T) : evFunc (impl_Tree_find.C k) impl_Tree_find.ann Tryz.f80 impl_Tree_find.A impl_Tree_find.R x = impl_Tree_find k x := by kernel_rfl
theorem impl_Tree_find.ok {L : List (Nat × Obj)}  (k : Nat) : SigHolds Tryz.prog L 80 (impl_Tree_find.sg k) :=
  sig_of_ev (C := impl_Tree_find.C k) (holds_cons (allok_cons (impl_size_impl_Node.ok k) allok_nil) (holds_cons (allok_cons (impl_within.ok k) allok_nil) holds_nil)) (by kernel_rfl) Tryz.func80 (by kernel_rfl) impl_Tree_find.ann impl_Tree_find.A impl_Tree_find.R (fun x y h => (impl_Tree_find.ev k x).trans h) (by kernel_rfl)

/-! slices.Clone[[]loop.example/g00719/impl.Interval,loop.example/g00719/impl.Interval] -/
def slices_Clone_impl_Interval_impl_Interval.A : Sh := (.cons (.pur (.sl false (.cons (.int .i64) (.cons (.int .i64) .nil)))) .nil)
def slices_Clone_impl_Interval_impl_Interval.R : Sh := (.cons (.own (.cons (.int .i64) (.cons (.int .i64) .nil))) .nil)
def slices_Clone_impl_Interval_impl_Interval.ann : Ann := { loops := [], joins := [], keys := [] }
noncomputable def slices_Clone_impl_Interval_impl_Interval (k : Nat) : ((List (Int × Int × Unit)) × Unit) → Option (((List (Int × Int × Unit)) × Unit) × (Unit × Unit)) := fun x => match x with
 | (s_, ()) =>
  br k (s_.isEmpty) (agree
  (some (([], ()), ((), ())))
  (br k (decide ((([] : List (Int × Int × Unit)).length + s_.length) * 16 ≤ maxBytes))
  (some ((([] : List (Int × Int × Unit)) ++ s_, ()), ((), ())))
  none))
  (br k (decide ((([] : List (Int × Int × Unit)).length + s_.length) * 16 ≤ maxBytes))
  (some ((([] : List (Int × Int × Unit)) ++ s_, ()), ((), ())))
  none)
noncomputable def slices_Clone_impl_Interval_impl_Interval.sg (k : Nat) : Sig := ⟨slices_Clone_impl_Interval_impl_Interval.A, slices_Clone_impl_Interval_impl_Interval.R, slices_Clone_impl_Interval_impl_Interval k⟩
noncomputable def slices_Clone_impl_Interval_impl_Interval.C (k : Nat) : Ctx := ⟨Tryz.prog, [], k⟩
theorem slices_Clone_impl_Interval_impl_Interval.ev (k : Nat) (x : slices_Clone_impl_Interval_impl_Interval.A.T) : evFunc (slices_Clone_impl_Interval_impl_Interval.C k) slices_Clone_impl_Interval_impl_Interval.ann Tryz.f112 slices_Clone_impl_Interval_impl_Interval.A slices_Clone_impl_Interval_impl_Interval.R x = slices_Clone_impl_Interval_impl_Interval k x := by kernel_rfl
theorem slices_Clone_impl_Interval_impl_Interval.ok {L : List (Nat × Obj)}  (k : Nat) : SigHolds Tryz.prog L 112 (slices_Clone_impl_Interval_impl_Interval.sg k) :=
  sig_of_ev (C := slices_Clone_impl_Interval_impl_Interval.C k) holds_nil (by kernel_rfl) Tryz.func112 (by kernel_rfl) slices_Clone_impl_Interval_impl_Interval.ann slices_Clone_impl_Interval_impl_Interval.A slices_Clone_impl_Interval_impl_Interval.R (fun x y h => (slices_Clone_impl_Interval_impl_Interval.ev k x).trans h) (by kernel_rfl)

/-! (loop.example/g00719/impl.Env).own -/
def impl_Env_own.A : Sh := (.cons (.pur (.cons .bool (.cons (.sl false (.cons (.int .i64) (.cons (.int .i64) .nil))) (.cons (.sl false (.cons (.int .i64) (.cons (.int .i64) .nil))) .nil)))) .nil)
def impl_Env_own.R : Sh := (.cons (.agg (.cons (.pur .bool) (.cons (.own (.cons (.int .i64) (.cons (.int .i64) .nil))) (.cons (.own (.cons (.int .i64) (.cons (.int .i64) .nil))) .nil)))) .nil)
def impl_Env_own.ann : Ann := { loops := [], joins := [], keys := [(1, [([1], false), ([1], false), ([5], true), ([1], false), ([1], false), ([8], true), ([1], false), ([1, 5], true), ([1, 5], false), ([1, 5, 8], true)])] }
noncomputable def impl_Env_own (k : Nat) : ((Bool × (List (Int × Int × Unit)) × (List (Int × Int × Unit)) × Unit) × Unit) → Option (((Bool × (List (Int × Int × Unit)) × (List (Int × Int × Unit)) × Unit) × Unit) × (Unit × Unit)) := fun x => match x with
 | (e_, ()) =>
  bd k (slices_Clone_impl_Interval_impl_Interval k (e_.2.1, ())) fun y1 =>
  bd k (slices_Clone_impl_Interval_impl_Interval k (e_.2.2.1, ())) fun y2 =>
  some (((e_.1, y1.1.1, y2.1.1, ()), ()), ((), ()))
noncomputable def impl_Env_own.sg (k : Nat) : Sig := ⟨impl_Env_own.A, impl_Env_own.R, impl_Env_own k⟩
noncomputable def impl_Env_own.C (k : Nat) : Ctx := ⟨Tryz.prog, [(112, [slices_Clone_impl_Interval_impl_Interval.sg k])], k⟩
theorem impl_Env_own.ev (k : Nat) (x : impl_Env_own.A.T) : evFunc (impl_Env_own.C k) impl_Env_own.ann Tryz.f81 impl_Env_own.A impl_Env_own.R x = impl_Env_own k x := by kernel_rfl
theorem impl_Env_own.ok {L : List (Nat × Obj)}  (k : Nat) : SigHolds Tryz.prog L 81 (impl_Env_own.sg k) :=
  sig_of_ev (C := impl_Env_own.C k) (holds_cons (allok_cons (slices_Clone_impl_Interval_impl_Interval.ok k) allok_nil) holds_nil) (by kernel_rfl) Tryz.func81 (by kernel_rfl) impl_Env_own.ann impl_Env_own.A impl_Env_own.R (fun x y h => (impl_Env_own.ev k x).trans h) (by kernel_rfl)

/-! loop.example/g00719/impl.size[loop.example/g00719/impl.Env] -/
def impl_size_impl_Env.A : Sh := (.cons (.pur (.sl false (.cons .bool (.cons (.sl false (.cons (.int .i64) (.cons (.int .i64) .nil))) (.cons (.sl false (.cons (.int .i64) (.cons (.int .i64) .nil))) .nil))))) .nil)
def impl_size_impl_Env.R : Sh := (.cons (.pur (.int .i64)) .nil)
def impl_size_impl_Env.ann : Ann := { loops := [], joins := [], keys := [] }
noncomputable def impl_size_impl_Env (k : Nat) : ((List (Bool × (List (Int × Int × Unit)) × (List (Int × Int × Unit)) × Unit)) × Unit) → Option ((Int × Unit) × (Unit × Unit)) := fun x => match x with
 | (list, ()) =>
  some (((list.length : Int), ()), ((), ()))
noncomputable def impl_size_impl_Env.sg (k : Nat) : Sig := ⟨impl_size_impl_Env.A, impl_size_impl_Env.R, impl_size_impl_Env k⟩
noncomputable def impl_size_impl_Env.C (k : Nat) : Ctx := ⟨Tryz.prog, [], k⟩
theorem impl_size_impl_Env.ev (k : Nat) (x : impl_size_impl_Env.A.T) : evFunc (impl_size_impl_Env.C k) impl_size_impl_Env.ann Tryz.f113 impl_size_impl_Env.A impl_size_impl_Env.R x = impl_size_impl_Env k x := by kernel_rfl
theorem impl_size_impl_Env.ok {L : List (Nat × Obj)}  (k : Nat) : SigHolds Tryz.prog L 113 (impl_size_impl_Env.sg k) :=
  sig_of_ev (C := impl_size_impl_Env.C k) holds_nil (by kernel_rfl) Tryz.func113 (by kernel_rfl) impl_size_impl_Env.ann impl_size_impl_Env.A impl_size_impl_Env.R (fun x y h => (impl_size_impl_Env.ev k x).trans h) (by kernel_rfl)

/-! loop.example/g00719/impl.IvOk -/
def impl_IvOk.A : Sh := (.cons (.pur (.cons (.int .i64) (.cons (.int .i64) .nil))) .nil)
def impl_IvOk.R : Sh := (.cons (.pur .bool) .nil)
def impl_IvOk.ann : Ann := { loops := [], joins := [], keys := [] }
noncomputable def impl_IvOk (k : Nat) : ((Int × Int × Unit) × Unit) → Option ((Bool × Unit) × (Unit × Unit)) := fun x => match x with
 | (a, ()) =>
  some ((decide (a.1 ≤ a.2.1), ()), ((), ()))
noncomputable def impl_IvOk.sg (k : Nat) : Sig := ⟨impl_IvOk.A, impl_IvOk.R, impl_IvOk k⟩
noncomputable def impl_IvOk.C (k : Nat) : Ctx := ⟨Tryz.prog, [], k⟩
theorem impl_IvOk.ev (k : Nat) (x : impl_IvOk.A.T) : evFunc (impl_IvOk.C k) impl_IvOk.ann Tryz.f147 impl_IvOk.A impl_IvOk.R x = impl_IvOk k x := by kernel_rfl
theorem impl_IvOk.ok {L : List (Nat × Obj)}  (k : Nat) : SigHolds Tryz.prog L 147 (impl_IvOk.sg k) :=
  sig_of_ev (C := impl_IvOk.C k) holds_nil (by kernel_rfl) Tryz.func147 (by kernel_rfl) impl_IvOk.ann impl_IvOk.A impl_IvOk.R (fun x y h => (impl_IvOk.ev k x).trans h) (by kernel_rfl)

/-! loop.example/g00719/impl.areAll[loop.example/g00719/impl.Interval]$1 -/
def impl_areAll_impl_Interval_1.A : Sh := (.cons (.pur (.cons (.int .i64) (.cons (.int .i64) .nil))) (.cons (.box (.cons (.fn (.func 147) 0 .nil) .nil)) .nil))
def impl_areAll_impl_Interval_1.R : Sh := (.cons (.pur .bool) .nil)
def impl_areAll_impl_Interval_1.ann : Ann := { loops := [], joins := [], keys := [] }
noncomputable def impl_areAll_impl_Interval_1 (k : Nat) : ((Int × Int × Unit) × ((Unit) × Unit) × Unit) → Option ((Bool × Unit) × (Unit × ((Unit) × Unit) × Unit)) := fun x => match x with
 | (x_, ((()), ()), ()) =>
  bd k (impl_IvOk k (x_, ())) fun y1 =>
  some ((!y1.1.1, ()), ((), ((()), ()), ()))
noncomputable def impl_areAll_impl_Interval_1.sg (k : Nat) : Sig := ⟨impl_areAll_impl_Interval_1.A, impl_areAll_impl_Interval_1.R, impl_areAll_impl_Interval_1 k⟩
noncomputable def impl_areAll_impl_Interval_1.C (k : Nat) : Ctx := ⟨Tryz.prog, [(147, [impl_IvOk.sg k])], k⟩
theorem impl_areAll_impl_Interval_1.ev (k : Nat) (x : impl_areAll_impl_Interval_1.A.T) : evFunc (impl_areAll_impl_Interval_1.C k) impl_areAll_impl_Interval_1.ann Tryz.f166 impl_areAll_impl_Interval_1.A impl_areAll_impl_Interval_1.R x = impl_areAll_impl_Interval_1 k x := by kernel_rfl
theorem impl_areAll_impl_Interval_1.ok {L : List (Nat × Obj)}  (k : Nat) : SigHolds Tryz.prog L 166 (impl_areAll_impl_Interval_1.sg k) :=
  sig_of_ev (C := impl_areAll_impl_Interval_1.C k) (holds_cons (allok_cons (impl_IvOk.ok k) allok_nil) holds_nil) (by kernel_rfl) Tryz.func166 (by kernel_rfl) impl_areAll_impl_Interval_1.ann impl_areAll_impl_Interval_1.A impl_areAll_impl_Interval_1.R (fun x y h => (impl_areAll_impl_Interval_1.ev k x).trans h) (by kernel_rfl)

/-! slices.IndexFunc[[]loop.example/g00719/impl.Interval,loop.example/g00719/impl.Interval] -/
def slices_IndexFunc_impl_Interval_impl_Interval.A : Sh := (.cons (.pur (.sl false (.cons (.int .i64) (.cons (.int .i64) .nil)))) (.cons (.fn (.func 166) 0 (.cons (.box (.cons (.fn (.func 147) 0 .nil) .nil)) .nil)) .nil))
def slices_IndexFunc_impl_Interval_impl_Interval.R : Sh := (.cons (.pur (.int .i64)) .nil)
def slices_IndexFunc_impl_Interval_impl_Interval.ann : Ann := { loops := [(0, [(0, (.pur (.sl false (.cons (.int .i64) (.cons (.int .i64) .nil))))), (1, (.fn (.func 166) 0 (.cons (.box (.cons (.fn (.func 147) 0 .nil) .nil)) .nil))), (7, (.pur (.int .i64))), (8, (.pur (.int .i64)))])], joins := [], keys := [] }
noncomputable def slices_IndexFunc_impl_Interval_impl_Interval.l0 (k : Nat)  (G0 : ((List (Int × Int × Unit)) × (((Unit) × Unit) × Unit) × Int × Int × Unit) → Option ((Int × Unit) × (Unit × (((Unit) × Unit) × Unit) × Unit))) : ((List (Int × Int × Unit)) × (((Unit) × Unit) × Unit) × Int × Int × Unit) → Option ((Int × Unit) × (Unit × (((Unit) × Unit) × Unit) × Unit)) := fun x => match x with
 | (s_, (((()), ()), ()), t7, t8, ()) =>
  br k (decide (t8 < t7))
  (br k (decide (0 ≤ t8))
  (bd k (s_[t8.toNat]?) fun x1 =>
  bd k (impl_areAll_impl_Interval_1 k (x1, ((()), ()), ())) fun y2 =>
  br k (y2.1.1)
  (some ((t8, ()), ((), (((()), ()), ()), ())))
  (G0 (s_, (((()), ()), ()), t7, IntKind.wrap .i64 (t8 + 1), ())))
  none)
  (some (((-1), ()), ((), (((()), ()), ()), ())))
noncomputable def slices_IndexFunc_impl_Interval_impl_Interval (k : Nat) : ((List (Int × Int × Unit)) × (((Unit) × Unit) × Unit) × Unit) → Option ((Int × Unit) × (Unit × (((Unit) × Unit) × Unit) × Unit)) := fun x => match x with
 | (s_, (((()), ()), ()), ()) =>
  iter (slices_IndexFunc_impl_Interval_impl_Interval.l0 k) k (s_, (((()), ()), ()), (s_.length : Int), 0, ())
noncomputable def slices_IndexFunc_impl_Interval_impl_Interval.sg (k : Nat) : Sig := ⟨slices_IndexFunc_impl_Interval_impl_Interval.A, slices_IndexFunc_impl_Interval_impl_Interval.R, slices_IndexFunc_impl_Interval_impl_Interval k⟩
noncomputable def slices_IndexFunc_impl_Interval_impl_Interval.C (k : Nat) : Ctx := ⟨Tryz.prog, [(166, [impl_areAll_impl_Interval_1.sg k])], k⟩
theorem slices_IndexFunc_impl_Interval_impl_Interval.ev (k : Nat) (x : slices_IndexFunc_impl_Interval_impl_Interval.A.T) : evFunc (slices_IndexFunc_impl_Interval_impl_Interval.C k) slices_IndexFunc_impl_Interval_impl_Interval.ann Tryz.f176 slices_IndexFunc_impl_Interval_impl_Interval.A slices_IndexFunc_impl_Interval_impl_Interval.R x = slices_IndexFunc_impl_Interval_impl_Interval k x := by kernel_rfl
theorem slices_IndexFunc_impl_Interval_impl_Interval.ok {L : List (Nat × Obj)}  (k : Nat) : SigHolds Tryz.prog L 176 (slices_IndexFunc_impl_Interval_impl_Interval.sg k) :=
  sig_of_ev (C := slices_IndexFunc_impl_Interval_impl_Interval.C k) (holds_cons (allok_cons (impl_areAll_impl_Interval_1.ok k) allok_nil) holds_nil) (by kernel_rfl) Tryz.func176 (by kernel_rfl) slices_IndexFunc_impl_Interval_impl_Interval.ann slices_IndexFunc_impl_Interval_impl_Interval.A slices_IndexFunc_impl_Interval_impl_Interval.R (fun x y h => (slices_IndexFunc_impl_Interval_impl_Interval.ev k x).trans h) (by kernel_rfl)

/-! slices.ContainsFunc[[]loop.example/g00719/impl.Interval,loop.example/g00719/impl.Interval] -/
def slices_ContainsFunc_impl_Interval_impl_Interval.A : Sh := (.cons (.pur (.sl false (.cons (.int .i64) (.cons (.int .i64) .nil)))) (.cons (.fn (.func 166) 0 (.cons (.box (.cons (.fn (.func 147) 0 .nil) .nil)) .nil)) .nil))
def slices_ContainsFunc_impl_Interval_impl_Interval.R : Sh := (.cons (.pur .bool) .nil)
def slices_ContainsFunc_impl_Interval_impl_Interval.ann : Ann := { loops := [], joins := [], keys := [] }
noncomputable def slices_ContainsFunc_impl_Interval_impl_Interval (k : Nat) : ((List (Int × Int × Unit)) × (((Unit) × Unit) × Unit) × Unit) → Option ((Bool × Unit) × (Unit × (((Unit) × Unit) × Unit) × Unit)) := fun x => match x with
 | (s_, (((()), ()), ()), ()) =>
  bd k (slices_IndexFunc_impl_Interval_impl_Interval k (s_, (((()), ()), ()), ())) fun y1 =>
  some ((decide (y1.1.1 ≥ 0), ()), ((), (((()), ()), ()), ()))
noncomputable def slices_ContainsFunc_impl_Interval_impl_Interval.sg (k : Nat) : Sig := ⟨slices_ContainsFunc_impl_Interval_impl_Interval.A, slices_ContainsFunc_impl_Interval_impl_Interval.R, slices_ContainsFunc_impl_Interval_impl_Interval k⟩
noncomputable def slices_ContainsFunc_impl_Interval_impl_Interval.C (k : Nat) : Ctx := ⟨Tryz.prog, [(176, [slices_IndexFunc_impl_Interval_impl_Interval.sg k])], k⟩
theorem slices_ContainsFunc_impl_Interval_impl_Interval.ev (k : Nat) (x : slices_ContainsFunc_impl_Interval_impl_Interval.A.T) : evFunc (slices_ContainsFunc_impl_Interval_impl_Interval.C k) slices_ContainsFunc_impl_Interval_impl_Interval.ann Tryz.f165 slices_ContainsFunc_impl_Interval_impl_Interval.A slices_ContainsFunc_impl_Interval_impl_Interval.R x = slices_ContainsFunc_impl_Interval_impl_Interval k x := by kernel_rfl
theorem slices_ContainsFunc_impl_Interval_impl_Interval.ok {L : List (Nat × Obj)}  (k : Nat) : SigHolds Tryz.prog L 165 (slices_ContainsFunc_impl_Interval_impl_Interval.sg k) :=
  sig_of_ev (C := slices_ContainsFunc_impl_Interval_impl_Interval.C k) (holds_cons (allok_cons (slices_IndexFunc_impl_Interval_impl_Interval.ok k) allok_nil) holds_nil) (by kernel_rfl) Tryz.func165 (by kernel_rfl) slices_ContainsFunc_impl_Interval_impl_Interval.ann slices_ContainsFunc_impl_Interval_impl_Interval.A slices_ContainsFunc_impl_Interval_impl_Interval.R (fun x y h => (slices_ContainsFunc_impl_Interval_impl_Interval.ev k x).trans h) (by kernel_rfl)

/-! loop.example/g00719/impl.areAll[loop.example/g00719/impl.Interval] -/
def impl_areAll_impl_Interval.A : Sh := (.cons (.pur (.sl false (.cons (.int .i64) (.cons (.int .i64) .nil)))) (.cons (.fn (.func 147) 0 .nil) .nil))
def impl_areAll_impl_Interval.R : Sh := (.cons (.pur .bool) .nil)
def impl_areAll_impl_Interval.ann : Ann := { loops := [], joins := [], keys := [] }
noncomputable def impl_areAll_impl_Interval (k : Nat) : ((List (Int × Int × Unit)) × (Unit) × Unit) → Option ((Bool × Unit) × (Unit × (Unit) × Unit)) := fun x => match x with
 | (list, (()), ()) =>
  bd k (slices_ContainsFunc_impl_Interval_impl_Interval k (list, (((()), ()), ()), ())) fun y1 =>
  some ((!y1.1.1, ()), ((), (()), ()))
noncomputable def impl_areAll_impl_Interval.sg (k : Nat) : Sig := ⟨impl_areAll_impl_Interval.A, impl_areAll_impl_Interval.R, impl_areAll_impl_Interval k⟩
noncomputable def impl_areAll_impl_Interval.C (k : Nat) : Ctx := ⟨Tryz.prog, [(165, [slices_ContainsFunc_impl_Interval_impl_Interval.sg k])], k⟩
theorem impl_areAll_impl_Interval.ev (k : Nat) (x : impl_areAll_impl_Interval.A.T) : evFunc (impl_areAll_impl_Interval.C k) impl_areAll_impl_Interval.ann Tryz.f146 impl_areAll_impl_Interval.A impl_areAll_impl_Interval.R x = impl_areAll_impl_Interval k x := by kernel_rfl
theorem impl_areAll_impl_Interval.ok {L : List (Nat × Obj)}  (k : Nat) : SigHolds Tryz.prog L 146 (impl_areAll_impl_Interval.sg k) :=
  sig_of_ev (C := impl_areAll_impl_Interval.C k) (holds_cons (allok_cons (slices_ContainsFunc_impl_Interval_impl_Interval.ok k) allok_nil) holds_nil) (by kernel_rfl) Tryz.func146 (by kernel_rfl) impl_areAll_impl_Interval.ann impl_areAll_impl_Interval.A impl_areAll_impl_Interval.R (fun x y h => (impl_areAll_impl_Interval.ev k x).trans h) (by kernel_rfl)

/-! (loop.example/g00719/impl.Decl).isEnv -/
def impl_Decl_isEnv.A : Sh := (.cons (.pur (.cons (.sl false .str) (.cons (.sl false .str) (.cons (.sl false (.cons .str (.cons (.int .i64) .nil))) .nil)))) (.cons (.pur (.cons .bool (.cons (.sl false (.cons (.int .i64) (.cons (.int .i64) .nil))) (.cons (.sl false (.cons (.int .i64) (.cons (.int .i64) .nil))) .nil)))) .nil))
def impl_Decl_isEnv.R : Sh := (.cons (.pur .bool) .nil)
def impl_Decl_isEnv.ann : Ann := { loops := [], joins := [(2, [(4, .bool)])], keys := [] }
noncomputable def impl_Decl_isEnv (k : Nat) : (((List (List UInt8)) × (List (List UInt8)) × (List ((List UInt8) × Int × Unit)) × Unit) × (Bool × (List (Int × Int × Unit)) × (List (Int × Int × Unit)) × Unit) × Unit) → Option ((Bool × Unit) × (Unit × Unit × Unit)) := fun x => match x with
 | (d_, e_, ()) =>
  br k (!e_.1)
  ((br k ((e_.2.1.length : Int) == 0)
  (some ((e_.2.2.1.length : Int) == 0, ()))
  (some (false, ())) : Option (Bool × Unit)).bind fun j1 =>
  some ((j1.1, ()), ((), (), ())))
  (br k ((e_.2.1.length : Int) == (d_.1.length : Int))
  (br k ((e_.2.2.1.length : Int) == (d_.2.2.1.length : Int))
  (bd k (impl_areAll_impl_Interval k (e_.2.1, (()), ())) fun y2 =>
  br k (y2.1.1)
  (bd k (impl_areAll_impl_Interval k (e_.2.2.1, (()), ())) fun y3 =>
  some ((y3.1.1, ()), ((), (), ())))
  (some ((false, ()), ((), (), ()))))
  (some ((false, ()), ((), (), ()))))
  (some ((false, ()), ((), (), ()))))
noncomputable def impl_Decl_isEnv.sg (k : Nat) : Sig := ⟨impl_Decl_isEnv.A, impl_Decl_isEnv.R, impl_Decl_isEnv k⟩
noncomputable def impl_Decl_isEnv.C (k : Nat) : Ctx := ⟨Tryz.prog, [(146, [impl_areAll_impl_Interval.sg k])], k⟩
theorem impl_Decl_isEnv.ev (k : Nat) (x : impl_Decl_isEnv.A.T) : evFunc (impl_Decl_isEnv.C k) impl_Decl_isEnv.ann Tryz.f115 impl_Decl_isEnv.A impl_Decl_isEnv.R x = impl_Decl_isEnv k x := by kernel_rfl
theorem impl_Decl_isEnv.ok {L : List (Nat × Obj)}  (k : Nat) : SigHolds Tryz.prog L 115 (impl_Decl_isEnv.sg k) :=
  sig_of_ev (C := impl_Decl_isEnv.C k) (holds_cons (allok_cons (impl_areAll_impl_Interval.ok k) allok_nil) holds_nil) (by kernel_rfl) Tryz.func115 (by kernel_rfl) impl_Decl_isEnv.ann impl_Decl_isEnv.A impl_Decl_isEnv.R (fun x y h => (impl_Decl_isEnv.ev k x).trans h) (by kernel_rfl)

/-! loop.example/g00719/impl.areAll[loop.example/g00719/impl.Env]$1 -/
def impl_areAll_impl_Env_1.A : Sh := (.cons (.pur (.cons .bool (.cons (.sl false (.cons (.int .i64) (.cons (.int .i64) .nil))) (.cons (.sl false (.cons (.int .i64) (.cons (.int .i64) .nil))) .nil)))) (.cons (.box (.cons (.fn (.func 115) 1 (.cons (.pur (.cons (.sl false .str) (.cons (.sl false .str) (.cons (.sl false (.cons .str (.cons (.int .i64) .nil))) .nil)))) .nil)) .nil)) .nil))
def impl_areAll_impl_Env_1.R : Sh := (.cons (.pur .bool) .nil)
def impl_areAll_impl_Env_1.ann : Ann := { loops := [], joins := [], keys := [] }
noncomputable def impl_areAll_impl_Env_1 (k : Nat) : ((Bool × (List (Int × Int × Unit)) × (List (Int × Int × Unit)) × Unit) × ((((List (List UInt8)) × (List (List UInt8)) × (List ((List UInt8) × Int × Unit)) × Unit) × Unit) × Unit) × Unit) → Option ((Bool × Unit) × (Unit × ((((List (List UInt8)) × (List (List UInt8)) × (List ((List UInt8) × Int × Unit)) × Unit) × Unit) × Unit) × Unit)) := fun x => match x with
 | (x_, ((a1_0_0, ()), ()), ()) =>
  bd k (impl_Decl_isEnv k (a1_0_0, x_, ())) fun y1 =>
  some ((!y1.1.1, ()), ((), ((a1_0_0, ()), ()), ()))
noncomputable def impl_areAll_impl_Env_1.sg (k : Nat) : Sig := ⟨impl_areAll_impl_Env_1.A, impl_areAll_impl_Env_1.R, impl_areAll_impl_Env_1 k⟩
noncomputable def impl_areAll_impl_Env_1.C (k : Nat) : Ctx := ⟨Tryz.prog, [(115, [impl_Decl_isEnv.sg k])], k⟩
theorem impl_areAll_impl_Env_1.ev (k : Nat) (x : impl_areAll_impl_Env_1.A.T) : evFunc (impl_areAll_impl_Env_1.C k) impl_areAll_impl_Env_1.ann Tryz.f145 impl_areAll_impl_Env_1.A impl_areAll_impl_Env_1.R x = impl_areAll_impl_Env_1 k x := by kernel_rfl
theorem impl_areAll_impl_Env_1.ok {L : List (Nat × Obj)}  (k : Nat) : SigHolds Tryz.prog L 145 (impl_areAll_impl_Env_1.sg k) :=
  sig_of_ev (C := impl_areAll_impl_Env_1.C k) (holds_cons (allok_cons (impl_Decl_isEnv.ok k) allok_nil) holds_nil) (by kernel_rfl) Tryz.func145 (by kernel_rfl) impl_areAll_impl_Env_1.ann impl_areAll_impl_Env_1.A impl_areAll_impl_Env_1.R (fun x y h => (impl_areAll_impl_Env_1.ev k x).trans h) (by kernel_rfl)

/-! slices.IndexFunc[[]loop.example/g00719/impl.Env,loop.example/g00719/impl.Env] -/
def slices_IndexFunc_impl_Env_impl_Env.A : Sh := (.cons (.pur (.sl false (.cons .bool (.cons (.sl false (.cons (.int .i64) (.cons (.int .i64) .nil))) (.cons (.sl false (.cons (.int .i64) (.cons (.int .i64) .nil))) .nil))))) (.cons (.fn (.func 145) 0 (.cons (.box (.cons (.fn (.func 115) 1 (.cons (.pur (.cons (.sl false .str) (.cons (.sl false .str) (.cons (.sl false (.cons .str (.cons (.int .i64) .nil))) .nil)))) .nil)) .nil)) .nil)) .nil))
def slices_IndexFunc_impl_Env_impl_Env.R : Sh := (.cons (.pur (.int .i64)) .nil)
def slices_IndexFunc_impl_Env_impl_Env.ann : Ann := { loops := [(0, [(0, (.pur (.sl false (.cons .bool (.cons (.sl false (.cons (.int .i64) (.cons (.int .i64) .nil))) (.cons (.sl false (.cons (.int .i64) (.cons (.int .i64) .nil))) .nil)))))), (1, (.fn (.func 145) 0 (.cons (.box (.cons (.fn (.func 115) 1 (.cons (.pur (.cons (.sl false .str) (.cons (.sl false .str) (.cons (.sl false (.cons .str (.cons (.int .i64) .nil))) .nil)))) .nil)) .nil)) .nil))), (7, (.pur (.int .i64))), (8, (.pur (.int .i64)))])], joins := [], keys := [] }
noncomputable def slices_IndexFunc_impl_Env_impl_Env.l0 (k : Nat)  (G0 : ((List (Bool × (List (Int × Int × Unit)) × (List (Int × Int × Unit)) × Unit)) × (((((List (List UInt8)) × (List (List UInt8)) × (List ((List UInt8) × Int × Unit)) × Unit) × Unit) × Unit) × Unit) × Int × Int × Unit) → Option ((Int × Unit) × (Unit × (((((List (List UInt8)) × (List (List UInt8)) × (List ((List UInt8) × Int × Unit)) × Unit) × Unit) × Unit) × Unit) × Unit))) : ((List (Bool × (List (Int × Int × Unit)) × (List (Int × Int × Unit)) × Unit)) × (((((List (List UInt8)) × (List (List UInt8)) × (List ((List UInt8) × Int × Unit)) × Unit) × Unit) × Unit) × Unit) × Int × Int × Unit) → Option ((Int × Unit) × (Unit × (((((List (List UInt8)) × (List (List UInt8)) × (List ((List UInt8) × Int × Unit)) × Unit) × Unit) × Unit) × Unit) × Unit)) := fun x => match x with
 | (s_, (((f_0_0_0, ()), ()), ()), t7, t8, ()) =>
  br k (decide (t8 < t7))
  (br k (decide (0 ≤ t8))
  (bd k (s_[t8.toNat]?) fun x1 =>
  bd k (impl_areAll_impl_Env_1 k (x1, ((f_0_0_0, ()), ()), ())) fun y2 =>
  br k (y2.1.1)
  (some ((t8, ()), ((), (((y2.2.2.1.1.1, ()), ()), ()), ())))
  (G0 (s_, (((y2.2.2.1.1.1, ()), ()), ()), t7, IntKind.wrap .i64 (t8 + 1), ())))
  none)
  (some (((-1), ()), ((), (((f_0_0_0, ()), ()), ()), ())))
noncomputable def slices_IndexFunc_impl_Env_impl_Env (k : Nat) : ((List (Bool × (List (Int × Int × Unit)) × (List (Int × Int × Unit)) × Unit)) × (((((List (List UInt8)) × (List (List UInt8)) × (List ((List UInt8) × Int × Unit)) × Unit) × Unit) × Unit) × Unit) × Unit) → Option ((Int × Unit) × (Unit × (((((List (List UInt8)) × (List (List UInt8)) × (List ((List UInt8) × Int × Unit)) × Unit) × Unit) × Unit) × Unit) × Unit)) := fun x => match x with
 | (s_, (((f_0_0_0, ()), ()), ()), ()) =>
  iter (slices_IndexFunc_impl_Env_impl_Env.l0 k) k (s_, (((f_0_0_0, ()), ()), ()), (s_.length : Int), 0, ())
noncomputable def slices_IndexFunc_impl_Env_impl_Env.sg (k : Nat) : Sig := ⟨slices_IndexFunc_impl_Env_impl_Env.A, slices_IndexFunc_impl_Env_impl_Env.R, slices_IndexFunc_impl_Env_impl_Env k⟩
noncomputable def slices_IndexFunc_impl_Env_impl_Env.C (k : Nat) : Ctx := ⟨Tryz.prog, [(145, [impl_areAll_impl_Env_1.sg k])], k⟩
theorem slices_IndexFunc_impl_Env_impl_Env.ev (k : Nat) (x : slices_IndexFunc_impl_Env_impl_Env.A.T) : evFunc (slices_IndexFunc_impl_Env_impl_Env.C k) slices_IndexFunc_impl_Env_impl_Env.ann Tryz.f158 slices_IndexFunc_impl_Env_impl_Env.A slices_IndexFunc_impl_Env_impl_Env.R x = slices_IndexFunc_impl_Env_impl_Env k x := by kernel_rfl
theorem slices_IndexFunc_impl_Env_impl_Env.ok {L : List (Nat × Obj)}  (k : Nat) : SigHolds Tryz.prog L 158 (slices_IndexFunc_impl_Env_impl_Env.sg k) :=
  sig_of_ev (C := slices_IndexFunc_impl_Env_impl_Env.C k) (holds_cons (allok_cons (impl_areAll_impl_Env_1.ok k) allok_nil) holds_nil) (by kernel_rfl) Tryz.func158 (by kernel_rfl) slices_IndexFunc_impl_Env_impl_Env.ann slices_IndexFunc_impl_Env_impl_Env.A slices_IndexFunc_impl_Env_impl_Env.R (fun x y h => (slices_IndexFunc_impl_Env_impl_Env.ev k x).trans h) (by kernel_rfl)

/-! slices.ContainsFunc[[]loop.example/g00719/impl.Env,loop.example/g00719/impl.Env] -/
def slices_ContainsFunc_impl_Env_impl_Env.A : Sh := (.cons (.pur (.sl false (.cons .bool (.cons (.sl false (.cons (.int .i64) (.cons (.int .i64) .nil))) (.cons (.sl false (.cons (.int .i64) (.cons (.int .i64) .nil))) .nil))))) (.cons (.fn (.func 145) 0 (.cons (.box (.cons (.fn (.func 115) 1 (.cons (.pur (.cons (.sl false .str) (.cons (.sl false .str) (.cons (.sl false (.cons .str (.cons (.int .i64) .nil))) .nil)))) .nil)) .nil)) .nil)) .nil))
def slices_ContainsFunc_impl_Env_impl_Env.R : Sh := (.cons (.pur .bool) .nil)
def slices_ContainsFunc_impl_Env_impl_Env.ann : Ann := { loops := [], joins := [], keys := [] }
noncomputable def slices_ContainsFunc_impl_Env_impl_Env (k : Nat) : ((List (Bool × (List (Int × Int × Unit)) × (List (Int × Int × Unit)) × Unit)) × (((((List (List UInt8)) × (List (List UInt8)) × (List ((List UInt8) × Int × Unit)) × Unit) × Unit) × Unit) × Unit) × Unit) → Option ((Bool × Unit) × (Unit × (((((List (List UInt8)) × (List (List UInt8)) × (List ((List UInt8) × Int × Unit)) × Unit) × Unit) × Unit) × Unit) × Unit)) := fun x => match x with
 | (s_, (((f_0_0_0, ()), ()), ()), ()) =>
  bd k (slices_IndexFunc_impl_Env_impl_Env k (s_, (((f_0_0_0, ()), ()), ()), ())) fun y1 =>
  some ((decide (y1.1.1 ≥ 0), ()), ((), (((y1.2.2.1.1.1.1, ()), ()), ()), ()))
noncomputable def slices_ContainsFunc_impl_Env_impl_Env.sg (k : Nat) : Sig := ⟨slices_ContainsFunc_impl_Env_impl_Env.A, slices_ContainsFunc_impl_Env_impl_Env.R, slices_ContainsFunc_impl_Env_impl_Env k⟩
noncomputable def slices_ContainsFunc_impl_Env_impl_Env.C (k : Nat) : Ctx := ⟨Tryz.prog, [(158, [slices_IndexFunc_impl_Env_impl_Env.sg k])], k⟩
theorem slices_ContainsFunc_impl_Env_impl_Env.ev (k : Nat) (x : slices_ContainsFunc_impl_Env_impl_Env.A.T) : evFunc (slices_ContainsFunc_impl_Env_impl_Env.C k) slices_ContainsFunc_impl_Env_impl_Env.ann Tryz.f137 slices_ContainsFunc_impl_Env_impl_Env.A slices_ContainsFunc_impl_Env_impl_Env.R x = slices_ContainsFunc_impl_Env_impl_Env k x := by kernel_rfl
theorem slices_ContainsFunc_impl_Env_impl_Env.ok {L : List (Nat × Obj)}  (k : Nat) : SigHolds Tryz.prog L 137 (slices_ContainsFunc_impl_Env_impl_Env.sg k) :=
  sig_of_ev (C := slices_ContainsFunc_impl_Env_impl_Env.C k) (holds_cons (allok_cons (slices_IndexFunc_impl_Env_impl_Env.ok k) allok_nil) holds_nil) (by kernel_rfl) Tryz.func137 (by kernel_rfl) slices_ContainsFunc_impl_Env_impl_Env.ann slices_ContainsFunc_impl_Env_impl_Env.A slices_ContainsFunc_impl_Env_impl_Env.R (fun x y h => (slices_ContainsFunc_impl_Env_impl_Env.ev k x).trans h) (by kernel_rfl)

end Go.Pev.F
