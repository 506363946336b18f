/-
  Printed by gen.py: what functions of the program compute, and that they do.
-/
import Derived.Test.YtcpeneclncpgaaaGreatDoorK05
set_option linter.unusedSimpArgs false
set_option linter.unusedVariables false
open Go.Proofs Go.Pev
namespace Go.Pev.F
set_option maxRecDepth 100000
set_option linter.unusedVariables false
def slices_Index_string_string.A : Sh := (.cons (.pur (.sl false .str)) QS53)
def slices_Index_string_string.R : Sh := QS12
def slices_Index_string_string.ann : Ann := { loops := [(0, [(0, (.pur (.sl false .str))), (1, (.pur .str)), (7, (.pur (.int .i64))), (8, (.pur (.int .i64)))])], joins := [], keys := [] }
noncomputable def slices_Index_string_string.l0 (k : Nat)  (G0 : ((List (List UInt8)) × (List UInt8) × Int × Int × Unit) → Option QT26) : ((List (List UInt8)) × (List UInt8) × Int × Int × Unit) → Option QT26 := fun x => match x with
 | (s_, v, t7, t8, ()) =>
  br k (decide (t8 < t7))
  (br k (decide (0 ≤ t8))
  (bd k (s_[t8.toNat]?) fun x1 =>
  br k (v == x1)
  (some ((t8, ()), ((), (), ())))
  (G0 (s_, v, t7, IntKind.wrap .i64 (t8 + 1), ())))
  none)
  (some (((-1), ()), ((), (), ())))
noncomputable def slices_Index_string_string (k : Nat) : ((List (List UInt8)) × (List UInt8) × Unit) → Option QT26 := fun x => match x with
 | (s_, v, ()) =>
  iter (slices_Index_string_string.l0 k) k (s_, v, (s_.length : Int), 0, ())
noncomputable def slices_Index_string_string.sg (k : Nat) : Sig := ⟨slices_Index_string_string.A, slices_Index_string_string.R, slices_Index_string_string k⟩
noncomputable def slices_Index_string_string.C (k : Nat) : Ctx := ⟨Tryz.prog, [], k, [], []⟩
theorem slices_Index_string_string.ev (k : Nat) (x : slices_Index_string_string.A.T) : evFunc (slices_Index_string_string.C k) slices_Index_string_string.ann Tryz.f79 slices_Index_string_string.A slices_Index_string_string.R x = slices_Index_string_string k x := by kernel_rfl
theorem slices_Index_string_string.ok {L : List (Nat × Obj)}  (k : Nat) : SigHolds Tryz.prog L 79 (slices_Index_string_string.sg k) :=
  sig_of_ev (C := slices_Index_string_string.C k) holds_nil (by kernel_rfl) Tryz.func79 (by kernel_rfl) _ _ _ (fun x y h => (slices_Index_string_string.ev k x).trans h) (by kernel_rfl)
def slices_Contains_string_string.A : Sh := (.cons (.pur (.sl false .str)) QS53)
def slices_Contains_string_string.R : Sh := QS19
def slices_Contains_string_string.ann : Ann := { loops := [], joins := [], keys := [] }
noncomputable def slices_Contains_string_string (k : Nat) : ((List (List UInt8)) × (List UInt8) × Unit) → Option QT22 := fun x => match x with
 | (s_, v, ()) =>
  bd k (slices_Index_string_string k (s_, v, ())) fun y1 =>
  some ((decide (y1.1.1 ≥ 0), ()), ((), (), ()))
noncomputable def slices_Contains_string_string.sg (k : Nat) : Sig := ⟨slices_Contains_string_string.A, slices_Contains_string_string.R, slices_Contains_string_string k⟩
noncomputable def slices_Contains_string_string.C (k : Nat) : Ctx := ⟨Tryz.prog, [(79, [slices_Index_string_string.sg k])], k, [], []⟩
theorem slices_Contains_string_string.ev (k : Nat) (x : slices_Contains_string_string.A.T) : evFunc (slices_Contains_string_string.C k) slices_Contains_string_string.ann Tryz.f54 slices_Contains_string_string.A slices_Contains_string_string.R x = slices_Contains_string_string k x := by kernel_rfl
theorem slices_Contains_string_string.ok {L : List (Nat × Obj)}  (k : Nat) : SigHolds Tryz.prog L 54 (slices_Contains_string_string.sg k) :=
  sig_of_ev (C := slices_Contains_string_string.C k) (holds_cons (allok_cons (slices_Index_string_string.ok k) allok_nil) holds_nil) (by kernel_rfl) Tryz.func54 (by kernel_rfl) _ _ _ (fun x y h => (slices_Contains_string_string.ev k x).trans h) (by kernel_rfl)
def impl_isWord.A : Sh := QS53
def impl_isWord.R : Sh := QS19
def impl_isWord.ann : Ann := { loops := [], joins := [], keys := [] }
noncomputable def impl_isWord (k : Nat) : ((List UInt8) × Unit) → Option QT21 := fun x => match x with
 | (s_, ()) =>
  bd k (Lb.Fields k ([118, 97, 114, 32, 102, 108, 97, 103, 32, 97, 114, 114, 97, 121, 32, 105, 102, 32, 102, 111, 114, 107, 32, 101, 108, 115, 101, 32, 101, 110, 100, 32, 119, 104, 105, 108, 101, 32, 117, 110, 114, 111, 108, 108, 32, 97, 115, 115, 101, 114, 116, 32, 97, 115, 115, 117, 109, 101, 32, 105, 110, 112, 117, 116, 32, 115, 112, 108, 105, 116, 32, 109, 101, 114, 103, 101, 32, 116, 114, 117, 101, 32, 102, 97, 108, 115, 101], ())) fun y1 =>
  bd k (slices_Contains_string_string k (y1.1.1, s_, ())) fun y2 =>
  some ((y2.1.1, ()), ((), ()))
noncomputable def impl_isWord.sg (k : Nat) : Sig := ⟨impl_isWord.A, impl_isWord.R, impl_isWord k⟩
noncomputable def impl_isWord.C (k : Nat) : Ctx := ⟨Tryz.prog, [(111, [Lb.Fields.sg k]), (54, [slices_Contains_string_string.sg k])], k, [], []⟩
theorem impl_isWord.ev (k : Nat) (x : impl_isWord.A.T) : evFunc (impl_isWord.C k) impl_isWord.ann Tryz.f78 impl_isWord.A impl_isWord.R x = impl_isWord k x := by kernel_rfl
theorem impl_isWord.ok {L : List (Nat × Obj)} (hSp : Lb.NeedSp L) (k : Nat) : SigHolds Tryz.prog L 78 (impl_isWord.sg k) :=
  sig_of_ev (C := impl_isWord.C k) (holds_cons (allok_cons (Lb.Fields.ok hSp k) allok_nil) (holds_cons (allok_cons (slices_Contains_string_string.ok k) allok_nil) holds_nil)) (by kernel_rfl) Tryz.func78 (by kernel_rfl) _ _ _ (fun x y h => (impl_isWord.ev k x).trans h) (by kernel_rfl)
def impl_isName.A : Sh := QS53
def impl_isName.R : Sh := QS19
def impl_isName.ann : Ann := { loops := [(0, [(0, (.pur .str)), (5, (.pur (.int .i64))), (6, (.pur (.int .i64)))])], joins := [(7, [(2, .bool)])], keys := [] }
noncomputable def impl_isName.l0 (k : Nat)  (G0 : ((List UInt8) × Int × Int × Unit) → Option QT21) : ((List UInt8) × Int × Int × Unit) → Option QT21 := fun x => match x with
 | (s_, t5, t6, ()) =>
  br k (decide (t6 < t5))
  (br k (decide (0 ≤ t6))
  (bd k (s_[t6.toNat]?) fun b1 =>
  bd k (impl_isLetter k ((b1.toNat : Int), ())) fun y2 =>
  br k (!y2.1.1)
  (some ((false, ()), ((), ())))
  (G0 (s_, t5, IntKind.wrap .i64 (t6 + 1), ())))
  none)
  ((bd k (impl_within k ((s_.length : Int), 1, 8, ())) fun y3 =>
  br k (y3.1.1)
  (bd k (impl_isWord k (s_, ())) fun y4 =>
  some (!y4.1.1, ()))
  (some (false, ())) : Option (Bool × Unit)).bind fun j5 =>
  some ((j5.1, ()), ((), ())))
noncomputable def impl_isName (k : Nat) : ((List UInt8) × Unit) → Option QT21 := fun x => match x with
 | (s_, ()) =>
  iter (impl_isName.l0 k) k (s_, (s_.length : Int), 0, ())
noncomputable def impl_isName.sg (k : Nat) : Sig := ⟨impl_isName.A, impl_isName.R, impl_isName k⟩
noncomputable def impl_isName.C (k : Nat) : Ctx := ⟨Tryz.prog, [(77, [impl_isLetter.sg k]), (39, [impl_within.sg k]), (78, [impl_isWord.sg k])], k, [], []⟩
theorem impl_isName.ev (k : Nat) (x : impl_isName.A.T) : evFunc (impl_isName.C k) impl_isName.ann Tryz.f53 impl_isName.A impl_isName.R x = impl_isName k x := by kernel_rfl
theorem impl_isName.ok {L : List (Nat × Obj)} (hSp : Lb.NeedSp L) (k : Nat) : SigHolds Tryz.prog L 53 (impl_isName.sg k) :=
  sig_of_ev (C := impl_isName.C k) (holds_cons (allok_cons (impl_isLetter.ok k) allok_nil) (holds_cons (allok_cons (impl_within.ok k) allok_nil) (holds_cons (allok_cons (impl_isWord.ok hSp k) allok_nil) holds_nil))) (by kernel_rfl) Tryz.func53 (by kernel_rfl) _ _ _ (fun x y h => (impl_isName.ev k x).trans h) (by kernel_rfl)
def impl_Decl_isRight_1.A : Sh := (.cons (.pur QK57) .nil)
def impl_Decl_isRight_1.R : Sh := QS19
def impl_Decl_isRight_1.ann : Ann := { loops := [], joins := [], keys := [] }
noncomputable def impl_Decl_isRight_1 (k : Nat) : (QT29 × Unit) → Option QT21 := fun x => match x with
 | (a, ()) =>
  bd k (impl_within k (a.2.1, 1, 16, ())) fun y1 =>
  some ((y1.1.1, ()), ((), ()))
noncomputable def impl_Decl_isRight_1.sg (k : Nat) : Sig := ⟨impl_Decl_isRight_1.A, impl_Decl_isRight_1.R, impl_Decl_isRight_1 k⟩
noncomputable def impl_Decl_isRight_1.C (k : Nat) : Ctx := ⟨Tryz.prog, [(39, [impl_within.sg k])], k, [], []⟩
theorem impl_Decl_isRight_1.ev (k : Nat) (x : impl_Decl_isRight_1.A.T) : evFunc (impl_Decl_isRight_1.C k) impl_Decl_isRight_1.ann Tryz.f55 impl_Decl_isRight_1.A impl_Decl_isRight_1.R x = impl_Decl_isRight_1 k x := by kernel_rfl
theorem impl_Decl_isRight_1.ok {L : List (Nat × Obj)}  (k : Nat) : SigHolds Tryz.prog L 55 (impl_Decl_isRight_1.sg k) :=
  sig_of_ev (C := impl_Decl_isRight_1.C k) (holds_cons (allok_cons (impl_within.ok k) allok_nil) holds_nil) (by kernel_rfl) Tryz.func55 (by kernel_rfl) _ _ _ (fun x y h => (impl_Decl_isRight_1.ev k x).trans h) (by kernel_rfl)
def impl_areAll_impl_Arr_1.A : Sh := (.cons (.pur QK57) (.cons (.box (.cons (.fn (.func 55) 0 .nil) .nil)) .nil))
def impl_areAll_impl_Arr_1.R : Sh := QS19
def impl_areAll_impl_Arr_1.ann : Ann := { loops := [], joins := [], keys := [] }
noncomputable def impl_areAll_impl_Arr_1 (k : Nat) : (QT29 × ((Unit) × Unit) × Unit) → Option ((Bool × Unit) × (Unit × ((Unit) × Unit) × Unit)) := fun x => match x with
 | (x_, ((()), ()), ()) =>
  bd k (impl_Decl_isRight_1 k (x_, ())) fun y1 =>
  some ((!y1.1.1, ()), ((), ((()), ()), ()))
noncomputable def impl_areAll_impl_Arr_1.sg (k : Nat) : Sig := ⟨impl_areAll_impl_Arr_1.A, impl_areAll_impl_Arr_1.R, impl_areAll_impl_Arr_1 k⟩
noncomputable def impl_areAll_impl_Arr_1.C (k : Nat) : Ctx := ⟨Tryz.prog, [(55, [impl_Decl_isRight_1.sg k])], k, [], []⟩
theorem impl_areAll_impl_Arr_1.ev (k : Nat) (x : impl_areAll_impl_Arr_1.A.T) : evFunc (impl_areAll_impl_Arr_1.C k) impl_areAll_impl_Arr_1.ann Tryz.f81 impl_areAll_impl_Arr_1.A impl_areAll_impl_Arr_1.R x = impl_areAll_impl_Arr_1 k x := by kernel_rfl
theorem impl_areAll_impl_Arr_1.ok {L : List (Nat × Obj)}  (k : Nat) : SigHolds Tryz.prog L 81 (impl_areAll_impl_Arr_1.sg k) :=
  sig_of_ev (C := impl_areAll_impl_Arr_1.C k) (holds_cons (allok_cons (impl_Decl_isRight_1.ok k) allok_nil) holds_nil) (by kernel_rfl) Tryz.func81 (by kernel_rfl) _ _ _ (fun x y h => (impl_areAll_impl_Arr_1.ev k x).trans h) (by kernel_rfl)
def slices_IndexFunc_impl_Arr_impl_Arr.A : Sh := (.cons (.pur QK13) (.cons (.fn (.func 81) 0 (.cons (.box (.cons (.fn (.func 55) 0 .nil) .nil)) .nil)) .nil))
def slices_IndexFunc_impl_Arr_impl_Arr.R : Sh := QS12
def slices_IndexFunc_impl_Arr_impl_Arr.ann : Ann := { loops := [(0, [(0, (.pur QK13)), (1, (.fn (.func 81) 0 (.cons (.box (.cons (.fn (.func 55) 0 .nil) .nil)) .nil))), (7, (.pur (.int .i64))), (8, (.pur (.int .i64)))])], joins := [], keys := [] }
noncomputable def slices_IndexFunc_impl_Arr_impl_Arr.l0 (k : Nat)  (G0 : ((List QT29) × QT36 × Int × Int × Unit) → Option QT43) : ((List QT29) × QT36 × Int × Int × Unit) → Option QT43 := fun x => match x with
 | (s_, (((()), ()), ()), t7, t8, ()) =>
  br k (decide (t8 < t7))
  (br k (decide (0 ≤ t8))
  (bd k (s_[t8.toNat]?) fun x1 =>
  bd k (impl_areAll_impl_Arr_1 k (x1, ((()), ()), ())) fun y2 =>
  br k (y2.1.1)
  (some ((t8, ()), ((), (((()), ()), ()), ())))
  (G0 (s_, (((()), ()), ()), t7, IntKind.wrap .i64 (t8 + 1), ())))
  none)
  (some (((-1), ()), ((), (((()), ()), ()), ())))
noncomputable def slices_IndexFunc_impl_Arr_impl_Arr (k : Nat) : ((List QT29) × QT36 × Unit) → Option QT43 := fun x => match x with
 | (s_, (((()), ()), ()), ()) =>
  iter (slices_IndexFunc_impl_Arr_impl_Arr.l0 k) k (s_, (((()), ()), ()), (s_.length : Int), 0, ())
noncomputable def slices_IndexFunc_impl_Arr_impl_Arr.sg (k : Nat) : Sig := ⟨slices_IndexFunc_impl_Arr_impl_Arr.A, slices_IndexFunc_impl_Arr_impl_Arr.R, slices_IndexFunc_impl_Arr_impl_Arr k⟩
noncomputable def slices_IndexFunc_impl_Arr_impl_Arr.C (k : Nat) : Ctx := ⟨Tryz.prog, [(81, [impl_areAll_impl_Arr_1.sg k])], k, [], []⟩
theorem slices_IndexFunc_impl_Arr_impl_Arr.ev (k : Nat) (x : slices_IndexFunc_impl_Arr_impl_Arr.A.T) : evFunc (slices_IndexFunc_impl_Arr_impl_Arr.C k) slices_IndexFunc_impl_Arr_impl_Arr.ann Tryz.f112 slices_IndexFunc_impl_Arr_impl_Arr.A slices_IndexFunc_impl_Arr_impl_Arr.R x = slices_IndexFunc_impl_Arr_impl_Arr k x := by kernel_rfl
theorem slices_IndexFunc_impl_Arr_impl_Arr.ok {L : List (Nat × Obj)}  (k : Nat) : SigHolds Tryz.prog L 112 (slices_IndexFunc_impl_Arr_impl_Arr.sg k) :=
  sig_of_ev (C := slices_IndexFunc_impl_Arr_impl_Arr.C k) (holds_cons (allok_cons (impl_areAll_impl_Arr_1.ok k) allok_nil) holds_nil) (by kernel_rfl) Tryz.func112 (by kernel_rfl) _ _ _ (fun x y h => (slices_IndexFunc_impl_Arr_impl_Arr.ev k x).trans h) (by kernel_rfl)
def slices_ContainsFunc_impl_Arr_impl_Arr.A : Sh := (.cons (.pur QK13) (.cons (.fn (.func 81) 0 (.cons (.box (.cons (.fn (.func 55) 0 .nil) .nil)) .nil)) .nil))
def slices_ContainsFunc_impl_Arr_impl_Arr.R : Sh := QS19
def slices_ContainsFunc_impl_Arr_impl_Arr.ann : Ann := { loops := [], joins := [], keys := [] }
noncomputable def slices_ContainsFunc_impl_Arr_impl_Arr (k : Nat) : ((List QT29) × QT36 × Unit) → Option ((Bool × Unit) × (Unit × QT36 × Unit)) := fun x => match x with
 | (s_, (((()), ()), ()), ()) =>
  bd k (slices_IndexFunc_impl_Arr_impl_Arr k (s_, (((()), ()), ()), ())) fun y1 =>
  some ((decide (y1.1.1 ≥ 0), ()), ((), (((()), ()), ()), ()))
noncomputable def slices_ContainsFunc_impl_Arr_impl_Arr.sg (k : Nat) : Sig := ⟨slices_ContainsFunc_impl_Arr_impl_Arr.A, slices_ContainsFunc_impl_Arr_impl_Arr.R, slices_ContainsFunc_impl_Arr_impl_Arr k⟩
noncomputable def slices_ContainsFunc_impl_Arr_impl_Arr.C (k : Nat) : Ctx := ⟨Tryz.prog, [(112, [slices_IndexFunc_impl_Arr_impl_Arr.sg k])], k, [], []⟩
theorem slices_ContainsFunc_impl_Arr_impl_Arr.ev (k : Nat) (x : slices_ContainsFunc_impl_Arr_impl_Arr.A.T) : evFunc (slices_ContainsFunc_impl_Arr_impl_Arr.C k) slices_ContainsFunc_impl_Arr_impl_Arr.ann Tryz.f80 slices_ContainsFunc_impl_Arr_impl_Arr.A slices_ContainsFunc_impl_Arr_impl_Arr.R x = slices_ContainsFunc_impl_Arr_impl_Arr k x := by kernel_rfl
theorem slices_ContainsFunc_impl_Arr_impl_Arr.ok {L : List (Nat × Obj)}  (k : Nat) : SigHolds Tryz.prog L 80 (slices_ContainsFunc_impl_Arr_impl_Arr.sg k) :=
  sig_of_ev (C := slices_ContainsFunc_impl_Arr_impl_Arr.C k) (holds_cons (allok_cons (slices_IndexFunc_impl_Arr_impl_Arr.ok k) allok_nil) holds_nil) (by kernel_rfl) Tryz.func80 (by kernel_rfl) _ _ _ (fun x y h => (slices_ContainsFunc_impl_Arr_impl_Arr.ev k x).trans h) (by kernel_rfl)
def impl_areAll_impl_Arr.A : Sh := (.cons (.pur QK13) (.cons (.fn (.func 55) 0 .nil) .nil))
def impl_areAll_impl_Arr.R : Sh := QS19
def impl_areAll_impl_Arr.ann : Ann := { loops := [], joins := [], keys := [] }
noncomputable def impl_areAll_impl_Arr (k : Nat) : ((List QT29) × (Unit) × Unit) → Option ((Bool × Unit) × (Unit × (Unit) × Unit)) := fun x => match x with
 | (list, (()), ()) =>
  bd k (slices_ContainsFunc_impl_Arr_impl_Arr k (list, (((()), ()), ()), ())) fun y1 =>
  some ((!y1.1.1, ()), ((), (()), ()))
noncomputable def impl_areAll_impl_Arr.sg (k : Nat) : Sig := ⟨impl_areAll_impl_Arr.A, impl_areAll_impl_Arr.R, impl_areAll_impl_Arr k⟩
noncomputable def impl_areAll_impl_Arr.C (k : Nat) : Ctx := ⟨Tryz.prog, [(80, [slices_ContainsFunc_impl_Arr_impl_Arr.sg k])], k, [], []⟩
theorem impl_areAll_impl_Arr.ev (k : Nat) (x : impl_areAll_impl_Arr.A.T) : evFunc (impl_areAll_impl_Arr.C k) impl_areAll_impl_Arr.ann Tryz.f56 impl_areAll_impl_Arr.A impl_areAll_impl_Arr.R x = impl_areAll_impl_Arr k x := by kernel_rfl
theorem impl_areAll_impl_Arr.ok {L : List (Nat × Obj)}  (k : Nat) : SigHolds Tryz.prog L 56 (impl_areAll_impl_Arr.sg k) :=
  sig_of_ev (C := impl_areAll_impl_Arr.C k) (holds_cons (allok_cons (slices_ContainsFunc_impl_Arr_impl_Arr.ok k) allok_nil) holds_nil) (by kernel_rfl) Tryz.func56 (by kernel_rfl) _ _ _ (fun x y h => (impl_areAll_impl_Arr.ev k x).trans h) (by kernel_rfl)
def impl_Decl_isRight.A : Sh := (.cons QS6 .nil)
def impl_Decl_isRight.R : Sh := QS19
def impl_Decl_isRight.ann : Ann := { loops := [(0, [(1, QS24), (3, (.pur (.sl false .str))), (9, (.pur (.sl false .str))), (10, (.pur (.int .i64))), (11, (.pur (.int .i64)))])], joins := [(5, [(25, .bool)])], keys := [] }
noncomputable def impl_Decl_isRight.l0 (k : Nat)  (G0 : (QT2 × (List (List UInt8)) × (List (List UInt8)) × Int × Int × Unit) → Option QT21) : (QT2 × (List (List UInt8)) × (List (List UInt8)) × Int × Int × Unit) → Option QT21 := fun x => match x with
 | ((d__0, d__1, d__2, ()), list, t9, t10, t11, ()) =>
  br k (decide (t11 < t10))
  (br k (decide (0 ≤ t11))
  (bd k (t9[t11.toNat]?) fun x2 =>
  (bd k (impl_isName k (x2, ())) fun y3 =>
  br k (!y3.1.1)
  (some (true, ()))
  (br k (decide (0 ≤ t11 ∧ t11 ≤ (list.length : Int)))
  (bd k (slices_Contains_string_string k (list.take t11.toNat, x2, ())) fun y4 =>
  some (y4.1.1, ()))
  none) : Option (Bool × Unit)).bind fun j5 =>
  br k (j5.1)
  (some ((false, ()), ((), ())))
  (G0 ((d__0, d__1, d__2, ()), list, t9, t10, IntKind.wrap .i64 (t11 + 1), ())))
  none)
  (br k (decide ((d__0.length : Int) ≤ 5))
  (br k (decide ((d__1.length : Int) ≤ 3))
  (br k (decide ((d__2.length : Int) ≤ 2))
  (bd k (impl_areAll_impl_Arr k (d__2, (()), ())) fun y6 =>
  some ((y6.1.1, ()), ((), ())))
  (some ((false, ()), ((), ()))))
  (some ((false, ()), ((), ()))))
  (some ((false, ()), ((), ()))))
noncomputable def impl_Decl_isRight (k : Nat) : (QT2 × Unit) → Option QT21 := fun x => match x with
 | (d_, ()) =>
  bd k (impl_Decl_names k (d_, ())) fun y1 =>
  iter (impl_Decl_isRight.l0 k) k ((d_.1, d_.2.1, d_.2.2.1, ()), y1.1.1, y1.1.1, (y1.1.1.length : Int), 0, ())
noncomputable def impl_Decl_isRight.sg (k : Nat) : Sig := ⟨impl_Decl_isRight.A, impl_Decl_isRight.R, impl_Decl_isRight k⟩
noncomputable def impl_Decl_isRight.C (k : Nat) : Ctx := ⟨Tryz.prog, [(52, [impl_Decl_names.sg k]), (53, [impl_isName.sg k]), (54, [slices_Contains_string_string.sg k]), (56, [impl_areAll_impl_Arr.sg k])], k, [], []⟩
theorem impl_Decl_isRight.ev (k : Nat) (x : impl_Decl_isRight.A.T) : evFunc (impl_Decl_isRight.C k) impl_Decl_isRight.ann Tryz.f29 impl_Decl_isRight.A impl_Decl_isRight.R x = impl_Decl_isRight k x := by kernel_rfl
theorem impl_Decl_isRight.ok {L : List (Nat × Obj)} (hSp : Lb.NeedSp L) (k : Nat) : SigHolds Tryz.prog L 29 (impl_Decl_isRight.sg k) :=
  sig_of_ev (C := impl_Decl_isRight.C k) (holds_cons (allok_cons (impl_Decl_names.ok k) allok_nil) (holds_cons (allok_cons (impl_isName.ok hSp k) allok_nil) (holds_cons (allok_cons (slices_Contains_string_string.ok k) allok_nil) (holds_cons (allok_cons (impl_areAll_impl_Arr.ok k) allok_nil) holds_nil)))) (by kernel_rfl) Tryz.func29 (by kernel_rfl) _ _ _ (fun x y h => (impl_Decl_isRight.ev k x).trans h) (by kernel_rfl)
def impl_kindOfE.A : Sh := QS12
def impl_kindOfE.R : Sh := QS12
def impl_kindOfE.ann : Ann := { loops := [], joins := [], keys := [] }
noncomputable def impl_kindOfE (k : Nat) : (Int × Unit) → Option QT38 := fun x => match x with
 | (kind, ()) =>
  br k (kind == 1)
  (br k (kind == 1)
  (some ((1, ()), ((), ())))
  (br k (kind == 2)
  (br k (kind == 2)
  (some ((2, ()), ((), ())))
  (some ((0, ()), ((), ()))))
  (br k (kind == 5)
  (br k (kind == 5)
  (some ((2, ()), ((), ())))
  (some ((0, ()), ((), ()))))
  (br k (kind == 6)
  (br k (kind == 6)
  (some ((2, ()), ((), ())))
  (some ((0, ()), ((), ()))))
  (br k (kind == 9)
  (br k (kind == 9)
  (some ((2, ()), ((), ())))
  (some ((0, ()), ((), ()))))
  (br k (kind == 10)
  (br k (kind == 10)
  (some ((2, ()), ((), ())))
  (some ((0, ()), ((), ()))))
  (br k (kind == 11)
  (br k (kind == 11)
  (some ((2, ()), ((), ())))
  (some ((0, ()), ((), ()))))
  (br k (kind == 12)
  (some ((2, ()), ((), ())))
  (some ((0, ()), ((), ())))))))))))
  (br k (kind == 3)
  (some ((1, ()), ((), ())))
  (br k (kind == 2)
  (br k (kind == 2)
  (some ((2, ()), ((), ())))
  (some ((0, ()), ((), ()))))
  (br k (kind == 5)
  (br k (kind == 5)
  (some ((2, ()), ((), ())))
  (some ((0, ()), ((), ()))))
  (br k (kind == 6)
  (br k (kind == 6)
  (some ((2, ()), ((), ())))
  (some ((0, ()), ((), ()))))
  (br k (kind == 9)
  (br k (kind == 9)
  (some ((2, ()), ((), ())))
  (some ((0, ()), ((), ()))))
  (br k (kind == 10)
  (br k (kind == 10)
  (some ((2, ()), ((), ())))
  (some ((0, ()), ((), ()))))
  (br k (kind == 11)
  (br k (kind == 11)
  (some ((2, ()), ((), ())))
  (some ((0, ()), ((), ()))))
  (br k (kind == 12)
  (some ((2, ()), ((), ())))
  (some ((0, ()), ((), ())))))))))))
noncomputable def impl_kindOfE.sg (k : Nat) : Sig := ⟨impl_kindOfE.A, impl_kindOfE.R, impl_kindOfE k⟩
noncomputable def impl_kindOfE.C (k : Nat) : Ctx := ⟨Tryz.prog, [], k, [], []⟩
theorem impl_kindOfE.ev (k : Nat) (x : impl_kindOfE.A.T) : evFunc (impl_kindOfE.C k) impl_kindOfE.ann Tryz.f63 impl_kindOfE.A impl_kindOfE.R x = impl_kindOfE k x := by kernel_rfl
theorem impl_kindOfE.ok {L : List (Nat × Obj)}  (k : Nat) : SigHolds Tryz.prog L 63 (impl_kindOfE.sg k) :=
  sig_of_ev (C := impl_kindOfE.C k) holds_nil (by kernel_rfl) Tryz.func63 (by kernel_rfl) _ _ _ (fun x y h => (impl_kindOfE.ev k x).trans h) (by kernel_rfl)
def impl_size_string.A : Sh := (.cons (.pur (.sl false .str)) .nil)
def impl_size_string.R : Sh := QS12
def impl_size_string.ann : Ann := { loops := [], joins := [], keys := [] }
noncomputable def impl_size_string (k : Nat) : ((List (List UInt8)) × Unit) → Option QT38 := fun x => match x with
 | (list, ()) =>
  some (((list.length : Int), ()), ((), ()))
noncomputable def impl_size_string.sg (k : Nat) : Sig := ⟨impl_size_string.A, impl_size_string.R, impl_size_string k⟩
noncomputable def impl_size_string.C (k : Nat) : Ctx := ⟨Tryz.prog, [], k, [], []⟩
theorem impl_size_string.ev (k : Nat) (x : impl_size_string.A.T) : evFunc (impl_size_string.C k) impl_size_string.ann Tryz.f88 impl_size_string.A impl_size_string.R x = impl_size_string k x := by kernel_rfl
theorem impl_size_string.ok {L : List (Nat × Obj)}  (k : Nat) : SigHolds Tryz.prog L 88 (impl_size_string.sg k) :=
  sig_of_ev (C := impl_size_string.C k) holds_nil (by kernel_rfl) Tryz.func88 (by kernel_rfl) _ _ _ (fun x y h => (impl_size_string.ev k x).trans h) (by kernel_rfl)
def impl_size_impl_Arr.A : Sh := (.cons (.pur QK13) .nil)
def impl_size_impl_Arr.R : Sh := QS12
def impl_size_impl_Arr.ann : Ann := { loops := [], joins := [], keys := [] }
noncomputable def impl_size_impl_Arr (k : Nat) : ((List QT29) × Unit) → Option QT38 := fun x => match x with
 | (list, ()) =>
  some (((list.length : Int), ()), ((), ()))
noncomputable def impl_size_impl_Arr.sg (k : Nat) : Sig := ⟨impl_size_impl_Arr.A, impl_size_impl_Arr.R, impl_size_impl_Arr k⟩
noncomputable def impl_size_impl_Arr.C (k : Nat) : Ctx := ⟨Tryz.prog, [], k, [], []⟩
theorem impl_size_impl_Arr.ev (k : Nat) (x : impl_size_impl_Arr.A.T) : evFunc (impl_size_impl_Arr.C k) impl_size_impl_Arr.ann Tryz.f89 impl_size_impl_Arr.A impl_size_impl_Arr.R x = impl_size_impl_Arr k x := by kernel_rfl
theorem impl_size_impl_Arr.ok {L : List (Nat × Obj)}  (k : Nat) : SigHolds Tryz.prog L 89 (impl_size_impl_Arr.sg k) :=
  sig_of_ev (C := impl_size_impl_Arr.C k) holds_nil (by kernel_rfl) Tryz.func89 (by kernel_rfl) _ _ _ (fun x y h => (impl_size_impl_Arr.ev k x).trans h) (by kernel_rfl)
def impl_Decl_isTok.A : Sh := (.cons QS6 (.cons (.pur QK1) .nil))
def impl_Decl_isTok.R : Sh := QS19
def impl_Decl_isTok.ann : Ann := { loops := [], joins := [(10, [(4, .bool)])], keys := [] }
noncomputable def impl_Decl_isTok (k : Nat) : (QT2 × (Int × Int × Unit) × Unit) → Option QT22 := fun x => match x with
 | (d_, t, ()) =>
  br k (t.1 == 1)
  (bd k (impl_within k (t.2.1, 0, 999999999999999999, ())) fun y1 =>
  some ((y1.1.1, ()), ((), (), ())))
  (br k (t.1 == 2)
  (bd k (impl_size_string k (d_.1, ())) fun y2 =>
  bd k (impl_within k (t.2.1, 0, IntKind.wrap .i64 (y2.1.1 - 1), ())) fun y3 =>
  some ((y3.1.1, ()), ((), (), ())))
  (br k (t.1 == 3)
  (bd k (impl_size_string k (d_.2.1, ())) fun y4 =>
  bd k (impl_within k (t.2.1, 0, IntKind.wrap .i64 (y4.1.1 - 1), ())) fun y5 =>
  some ((y5.1.1, ()), ((), (), ())))
  (br k (t.1 == 6)
  (bd k (impl_size_impl_Arr k (d_.2.2.1, ())) fun y6 =>
  bd k (impl_within k (t.2.1, 0, IntKind.wrap .i64 (y6.1.1 - 1), ())) fun y7 =>
  some ((y7.1.1, ()), ((), (), ())))
  ((bd k (impl_within k (t.1, 4, 21, ())) fun y8 =>
  br k (y8.1.1)
  (some (t.2.1 == 0, ()))
  (some (false, ())) : Option (Bool × Unit)).bind fun j9 =>
  some ((j9.1, ()), ((), (), ()))))))
noncomputable def impl_Decl_isTok.sg (k : Nat) : Sig := ⟨impl_Decl_isTok.A, impl_Decl_isTok.R, impl_Decl_isTok k⟩
noncomputable def impl_Decl_isTok.C (k : Nat) : Ctx := ⟨Tryz.prog, [(39, [impl_within.sg k]), (88, [impl_size_string.sg k]), (89, [impl_size_impl_Arr.sg k])], k, [], []⟩
theorem impl_Decl_isTok.ev (k : Nat) (x : impl_Decl_isTok.A.T) : evFunc (impl_Decl_isTok.C k) impl_Decl_isTok.ann Tryz.f116 impl_Decl_isTok.A impl_Decl_isTok.R x = impl_Decl_isTok k x := by kernel_rfl
theorem impl_Decl_isTok.ok {L : List (Nat × Obj)}  (k : Nat) : SigHolds Tryz.prog L 116 (impl_Decl_isTok.sg k) :=
  sig_of_ev (C := impl_Decl_isTok.C k) (holds_cons (allok_cons (impl_within.ok k) allok_nil) (holds_cons (allok_cons (impl_size_string.ok k) allok_nil) (holds_cons (allok_cons (impl_size_impl_Arr.ok k) allok_nil) holds_nil))) (by kernel_rfl) Tryz.func116 (by kernel_rfl) _ _ _ (fun x y h => (impl_Decl_isTok.ev k x).trans h) (by kernel_rfl)
def impl_areAll_impl_Tok_1.A : Sh := (.cons (.pur QK1) (.cons (.box (.cons (.fn (.func 116) 1 (.cons QS6 .nil)) .nil)) .nil))
def impl_areAll_impl_Tok_1.R : Sh := QS19
def impl_areAll_impl_Tok_1.ann : Ann := { loops := [], joins := [], keys := [] }
noncomputable def impl_areAll_impl_Tok_1 (k : Nat) : ((Int × Int × Unit) × ((QT2 × Unit) × Unit) × Unit) → Option ((Bool × Unit) × (Unit × ((QT2 × Unit) × Unit) × Unit)) := fun x => match x with
 | (x_, ((a1_0_0, ()), ()), ()) =>
  bd k (impl_Decl_isTok k (a1_0_0, x_, ())) fun y1 =>
  some ((!y1.1.1, ()), ((), ((a1_0_0, ()), ()), ()))
noncomputable def impl_areAll_impl_Tok_1.sg (k : Nat) : Sig := ⟨impl_areAll_impl_Tok_1.A, impl_areAll_impl_Tok_1.R, impl_areAll_impl_Tok_1 k⟩
noncomputable def impl_areAll_impl_Tok_1.C (k : Nat) : Ctx := ⟨Tryz.prog, [(116, [impl_Decl_isTok.sg k])], k, [], []⟩
theorem impl_areAll_impl_Tok_1.ev (k : Nat) (x : impl_areAll_impl_Tok_1.A.T) : evFunc (impl_areAll_impl_Tok_1.C k) impl_areAll_impl_Tok_1.ann Tryz.f137 impl_areAll_impl_Tok_1.A impl_areAll_impl_Tok_1.R x = impl_areAll_impl_Tok_1 k x := by kernel_rfl
theorem impl_areAll_impl_Tok_1.ok {L : List (Nat × Obj)}  (k : Nat) : SigHolds Tryz.prog L 137 (impl_areAll_impl_Tok_1.sg k) :=
  sig_of_ev (C := impl_areAll_impl_Tok_1.C k) (holds_cons (allok_cons (impl_Decl_isTok.ok k) allok_nil) holds_nil) (by kernel_rfl) Tryz.func137 (by kernel_rfl) _ _ _ (fun x y h => (impl_areAll_impl_Tok_1.ev k x).trans h) (by kernel_rfl)
def slices_IndexFunc_impl_Tok_impl_Tok.A : Sh := (.cons (.pur (.sl false QK1)) (.cons (.fn (.func 137) 0 (.cons (.box (.cons (.fn (.func 116) 1 (.cons QS6 .nil)) .nil)) .nil)) .nil))
def slices_IndexFunc_impl_Tok_impl_Tok.R : Sh := QS12
def slices_IndexFunc_impl_Tok_impl_Tok.ann : Ann := { loops := [(0, [(0, (.pur (.sl false QK1))), (1, (.fn (.func 137) 0 (.cons (.box (.cons (.fn (.func 116) 1 (.cons QS6 .nil)) .nil)) .nil))), (7, (.pur (.int .i64))), (8, (.pur (.int .i64)))])], joins := [], keys := [] }
noncomputable def slices_IndexFunc_impl_Tok_impl_Tok.l0 (k : Nat)  (G0 : (QT16 × QT33 × Int × Int × Unit) → Option QT44) : (QT16 × QT33 × Int × Int × Unit) → Option QT44 := fun x => match x with
 | (s_, (((f_0_0_0, ()), ()), ()), t7, t8, ()) =>
  br k (decide (t8 < t7))
  (br k (decide (0 ≤ t8))
  (bd k (s_[t8.toNat]?) fun x1 =>
  bd k (impl_areAll_impl_Tok_1 k (x1, ((f_0_0_0, ()), ()), ())) fun y2 =>
  br k (y2.1.1)
  (some ((t8, ()), ((), (((y2.2.2.1.1.1, ()), ()), ()), ())))
  (G0 (s_, (((y2.2.2.1.1.1, ()), ()), ()), t7, IntKind.wrap .i64 (t8 + 1), ())))
  none)
  (some (((-1), ()), ((), (((f_0_0_0, ()), ()), ()), ())))
noncomputable def slices_IndexFunc_impl_Tok_impl_Tok (k : Nat) : (QT16 × QT33 × Unit) → Option QT44 := fun x => match x with
 | (s_, (((f_0_0_0, ()), ()), ()), ()) =>
  iter (slices_IndexFunc_impl_Tok_impl_Tok.l0 k) k (s_, (((f_0_0_0, ()), ()), ()), (s_.length : Int), 0, ())
noncomputable def slices_IndexFunc_impl_Tok_impl_Tok.sg (k : Nat) : Sig := ⟨slices_IndexFunc_impl_Tok_impl_Tok.A, slices_IndexFunc_impl_Tok_impl_Tok.R, slices_IndexFunc_impl_Tok_impl_Tok k⟩
noncomputable def slices_IndexFunc_impl_Tok_impl_Tok.C (k : Nat) : Ctx := ⟨Tryz.prog, [(137, [impl_areAll_impl_Tok_1.sg k])], k, [], []⟩
theorem slices_IndexFunc_impl_Tok_impl_Tok.ev (k : Nat) (x : slices_IndexFunc_impl_Tok_impl_Tok.A.T) : evFunc (slices_IndexFunc_impl_Tok_impl_Tok.C k) slices_IndexFunc_impl_Tok_impl_Tok.ann Tryz.f144 slices_IndexFunc_impl_Tok_impl_Tok.A slices_IndexFunc_impl_Tok_impl_Tok.R x = slices_IndexFunc_impl_Tok_impl_Tok k x := by kernel_rfl
theorem slices_IndexFunc_impl_Tok_impl_Tok.ok {L : List (Nat × Obj)}  (k : Nat) : SigHolds Tryz.prog L 144 (slices_IndexFunc_impl_Tok_impl_Tok.sg k) :=
  sig_of_ev (C := slices_IndexFunc_impl_Tok_impl_Tok.C k) (holds_cons (allok_cons (impl_areAll_impl_Tok_1.ok k) allok_nil) holds_nil) (by kernel_rfl) Tryz.func144 (by kernel_rfl) _ _ _ (fun x y h => (slices_IndexFunc_impl_Tok_impl_Tok.ev k x).trans h) (by kernel_rfl)
def slices_ContainsFunc_impl_Tok_impl_Tok.A : Sh := (.cons (.pur (.sl false QK1)) (.cons (.fn (.func 137) 0 (.cons (.box (.cons (.fn (.func 116) 1 (.cons QS6 .nil)) .nil)) .nil)) .nil))
def slices_ContainsFunc_impl_Tok_impl_Tok.R : Sh := QS19
def slices_ContainsFunc_impl_Tok_impl_Tok.ann : Ann := { loops := [], joins := [], keys := [] }
noncomputable def slices_ContainsFunc_impl_Tok_impl_Tok (k : Nat) : (QT16 × QT33 × Unit) → Option ((Bool × Unit) × (Unit × QT33 × Unit)) := fun x => match x with
 | (s_, (((f_0_0_0, ()), ()), ()), ()) =>
  bd k (slices_IndexFunc_impl_Tok_impl_Tok k (s_, (((f_0_0_0, ()), ()), ()), ())) fun y1 =>
  some ((decide (y1.1.1 ≥ 0), ()), ((), (((y1.2.2.1.1.1.1, ()), ()), ()), ()))
noncomputable def slices_ContainsFunc_impl_Tok_impl_Tok.sg (k : Nat) : Sig := ⟨slices_ContainsFunc_impl_Tok_impl_Tok.A, slices_ContainsFunc_impl_Tok_impl_Tok.R, slices_ContainsFunc_impl_Tok_impl_Tok k⟩
noncomputable def slices_ContainsFunc_impl_Tok_impl_Tok.C (k : Nat) : Ctx := ⟨Tryz.prog, [(144, [slices_IndexFunc_impl_Tok_impl_Tok.sg k])], k, [], []⟩
theorem slices_ContainsFunc_impl_Tok_impl_Tok.ev (k : Nat) (x : slices_ContainsFunc_impl_Tok_impl_Tok.A.T) : evFunc (slices_ContainsFunc_impl_Tok_impl_Tok.C k) slices_ContainsFunc_impl_Tok_impl_Tok.ann Tryz.f136 slices_ContainsFunc_impl_Tok_impl_Tok.A slices_ContainsFunc_impl_Tok_impl_Tok.R x = slices_ContainsFunc_impl_Tok_impl_Tok k x := by kernel_rfl
theorem slices_ContainsFunc_impl_Tok_impl_Tok.ok {L : List (Nat × Obj)}  (k : Nat) : SigHolds Tryz.prog L 136 (slices_ContainsFunc_impl_Tok_impl_Tok.sg k) :=
  sig_of_ev (C := slices_ContainsFunc_impl_Tok_impl_Tok.C k) (holds_cons (allok_cons (slices_IndexFunc_impl_Tok_impl_Tok.ok k) allok_nil) holds_nil) (by kernel_rfl) Tryz.func136 (by kernel_rfl) _ _ _ (fun x y h => (slices_ContainsFunc_impl_Tok_impl_Tok.ev k x).trans h) (by kernel_rfl)
def impl_areAll_impl_Tok.A : Sh := (.cons (.pur (.sl false QK1)) (.cons (.fn (.func 116) 1 (.cons QS6 .nil)) .nil))
def impl_areAll_impl_Tok.R : Sh := QS19
def impl_areAll_impl_Tok.ann : Ann := { loops := [], joins := [], keys := [] }
noncomputable def impl_areAll_impl_Tok (k : Nat) : (QT16 × (QT2 × Unit) × Unit) → Option ((Bool × Unit) × (Unit × (Unit × Unit) × Unit)) := fun x => match x with
 | (list, (is_0, ()), ()) =>
  bd k (slices_ContainsFunc_impl_Tok_impl_Tok k (list, (((is_0, ()), ()), ()), ())) fun y1 =>
  some ((!y1.1.1, ()), ((), ((), ()), ()))
noncomputable def impl_areAll_impl_Tok.sg (k : Nat) : Sig := ⟨impl_areAll_impl_Tok.A, impl_areAll_impl_Tok.R, impl_areAll_impl_Tok k⟩
noncomputable def impl_areAll_impl_Tok.C (k : Nat) : Ctx := ⟨Tryz.prog, [(136, [slices_ContainsFunc_impl_Tok_impl_Tok.sg k])], k, [], []⟩
theorem impl_areAll_impl_Tok.ev (k : Nat) (x : impl_areAll_impl_Tok.A.T) : evFunc (impl_areAll_impl_Tok.C k) impl_areAll_impl_Tok.ann Tryz.f115 impl_areAll_impl_Tok.A impl_areAll_impl_Tok.R x = impl_areAll_impl_Tok k x := by kernel_rfl
theorem impl_areAll_impl_Tok.ok {L : List (Nat × Obj)}  (k : Nat) : SigHolds Tryz.prog L 115 (impl_areAll_impl_Tok.sg k) :=
  sig_of_ev (C := impl_areAll_impl_Tok.C k) (holds_cons (allok_cons (slices_ContainsFunc_impl_Tok_impl_Tok.ok k) allok_nil) holds_nil) (by kernel_rfl) Tryz.func115 (by kernel_rfl) _ _ _ (fun x y h => (impl_areAll_impl_Tok.ev k x).trans h) (by kernel_rfl)
def impl_takes.A : Sh := QS12
def impl_takes.R : Sh := (.cons (.own (.int .i64)) .nil)
def impl_takes.ann : Ann := { loops := [], joins := [(1, [(3, .bool)]), (7, [(19, .bool)])], keys := [] }
noncomputable def impl_takes (k : Nat) : (Int × Unit) → Option (((List Int) × Unit) × (Unit × Unit)) := fun x => match x with
 | (op, ()) =>
  (br k (op == 6)
  (some (true, ()))
  (some (op == 7, ())) : Option (Bool × Unit)).bind fun j1 =>
  br k (j1.1)
  (some ((([1] : List Int), ()), ((), ())))
  (bd k (impl_within k (op, 8, 18, ())) fun y2 =>
  br k (y2.1.1)
  (some ((([1, 1] : List Int), ()), ((), ())))
  (br k (op == 19)
  (some ((([2] : List Int), ()), ((), ())))
  ((br k (op == 20)
  (some (true, ()))
  (some (op == 21, ())) : Option (Bool × Unit)).bind fun j3 =>
  br k (j3.1)
  (some ((([2, 2] : List Int), ()), ((), ())))
  (some (([], ()), ((), ()))))))
noncomputable def impl_takes.sg (k : Nat) : Sig := ⟨impl_takes.A, impl_takes.R, impl_takes k⟩
noncomputable def impl_takes.C (k : Nat) : Ctx := ⟨Tryz.prog, [(39, [impl_within.sg k])], k, [], []⟩
theorem impl_takes.ev (k : Nat) (x : impl_takes.A.T) : evFunc (impl_takes.C k) impl_takes.ann Tryz.f94 impl_takes.A impl_takes.R x = impl_takes k x := by kernel_rfl
theorem impl_takes.ok {L : List (Nat × Obj)}  (k : Nat) : SigHolds Tryz.prog L 94 (impl_takes.sg k) :=
  sig_of_ev (C := impl_takes.C k) (holds_cons (allok_cons (impl_within.ok k) allok_nil) holds_nil) (by kernel_rfl) Tryz.func94 (by kernel_rfl) _ _ _ (fun x y h => (impl_takes.ev k x).trans h) (by kernel_rfl)
def slices_Equal_int64_int64.A : Sh := (.cons QS32 (.cons QS32 .nil))
def slices_Equal_int64_int64.R : Sh := QS19
def slices_Equal_int64_int64.ann : Ann := { loops := [(0, [(0, QS32), (1, QS32), (12, (.pur (.int .i64))), (13, (.pur (.int .i64)))])], joins := [], keys := [] }
noncomputable def slices_Equal_int64_int64.l0 (k : Nat)  (G0 : ((List Int) × (List Int) × Int × Int × Unit) → Option QT22) : ((List Int) × (List Int) × Int × Int × Unit) → Option QT22 := fun x => match x with
 | (s1, s2, t12, t13, ()) =>
  br k (decide (t13 < t12))
  (br k (decide (0 ≤ t13))
  (bd k (s1[t13.toNat]?) fun x1 =>
  br k (decide (0 ≤ t13))
  (bd k (s2[t13.toNat]?) fun x2 =>
  br k (x1 != x2)
  (some ((false, ()), ((), (), ())))
  (G0 (s1, s2, t12, IntKind.wrap .i64 (t13 + 1), ())))
  none)
  none)
  (some ((true, ()), ((), (), ())))
noncomputable def slices_Equal_int64_int64 (k : Nat) : ((List Int) × (List Int) × Unit) → Option QT22 := fun x => match x with
 | (s1, s2, ()) =>
  br k ((s1.length : Int) != (s2.length : Int))
  (some ((false, ()), ((), (), ())))
  (iter (slices_Equal_int64_int64.l0 k) k (s1, s2, (s1.length : Int), 0, ()))
noncomputable def slices_Equal_int64_int64.sg (k : Nat) : Sig := ⟨slices_Equal_int64_int64.A, slices_Equal_int64_int64.R, slices_Equal_int64_int64 k⟩
noncomputable def slices_Equal_int64_int64.C (k : Nat) : Ctx := ⟨Tryz.prog, [], k, [], []⟩
theorem slices_Equal_int64_int64.ev (k : Nat) (x : slices_Equal_int64_int64.A.T) : evFunc (slices_Equal_int64_int64.C k) slices_Equal_int64_int64.ann Tryz.f117 slices_Equal_int64_int64.A slices_Equal_int64_int64.R x = slices_Equal_int64_int64 k x := by kernel_rfl
theorem slices_Equal_int64_int64.ok {L : List (Nat × Obj)}  (k : Nat) : SigHolds Tryz.prog L 117 (slices_Equal_int64_int64.sg k) :=
  sig_of_ev (C := slices_Equal_int64_int64.C k) holds_nil (by kernel_rfl) Tryz.func117 (by kernel_rfl) _ _ _ (fun x y h => (slices_Equal_int64_int64.ev k x).trans h) (by kernel_rfl)
def impl_leaves.A : Sh := QS12
def impl_leaves.R : Sh := QS12
def impl_leaves.ann : Ann := { loops := [], joins := [(1, [(8, .bool)])], keys := [] }
noncomputable def impl_leaves (k : Nat) : (Int × Unit) → Option QT38 := fun x => match x with
 | (op, ()) =>
  (bd k (impl_within k (op, 3, 5, ())) fun y1 =>
  br k (y1.1.1)
  (some (true, ()))
  (some (decide (op ≥ 13), ())) : Option (Bool × Unit)).bind fun j2 =>
  br k (j2.1)
  (some ((2, ()), ((), ())))
  (some ((1, ()), ((), ())))
noncomputable def impl_leaves.sg (k : Nat) : Sig := ⟨impl_leaves.A, impl_leaves.R, impl_leaves k⟩
noncomputable def impl_leaves.C (k : Nat) : Ctx := ⟨Tryz.prog, [(39, [impl_within.sg k])], k, [], []⟩
theorem impl_leaves.ev (k : Nat) (x : impl_leaves.A.T) : evFunc (impl_leaves.C k) impl_leaves.ann Tryz.f118 impl_leaves.A impl_leaves.R x = impl_leaves k x := by kernel_rfl
theorem impl_leaves.ok {L : List (Nat × Obj)}  (k : Nat) : SigHolds Tryz.prog L 118 (impl_leaves.sg k) :=
  sig_of_ev (C := impl_leaves.C k) (holds_cons (allok_cons (impl_within.ok k) allok_nil) holds_nil) (by kernel_rfl) Tryz.func118 (by kernel_rfl) _ _ _ (fun x y h => (impl_leaves.ev k x).trans h) (by kernel_rfl)
def impl_Decl_kindOf.A : Sh := (.cons QS6 QS50)
def impl_Decl_kindOf.R : Sh := QS12
def impl_Decl_kindOf.ann : Ann := { loops := [(0, [(5, (.own (.int .i64))), (20, (.pur (.sl false QK1))), (21, (.pur (.int .i64))), (22, (.pur (.int .i64)))])], joins := [(9, [(43, .bool)])], keys := [(11, [([], false), ([], false), ([5], false), ([7], false), ([7], false), ([], false), ([50], true), ([5, 50, 51], true), ([], false)])] }
noncomputable def impl_Decl_kindOf.l0 (k : Nat)  (G0 : ((List Int) × QT16 × Int × Int × Unit) → Option QT26) : ((List Int) × QT16 × Int × Int × Unit) → Option QT26 := fun x => match x with
 | (pile, t20, t21, t22, ()) =>
  br k (decide (t22 < t21))
  (br k (decide (0 ≤ t22))
  (bd k (t20[t22.toNat]?) fun x2 =>
  bd k (impl_takes k (x2.1, ())) fun y3 =>
  (br k (decide ((IntKind.wrap .i64 ((pile.length : Int) - (y3.1.1.length : Int))) < 0))
  (some (true, ()))
  (br k (decide (0 ≤ (IntKind.wrap .i64 ((pile.length : Int) - (y3.1.1.length : Int))) ∧ (IntKind.wrap .i64 ((pile.length : Int) - (y3.1.1.length : Int))) ≤ (pile.length : Int)))
  (bd k (slices_Equal_int64_int64 k (subL pile ((IntKind.wrap .i64 ((pile.length : Int) - (y3.1.1.length : Int))).toNat) ((pile.length : Int).toNat - (IntKind.wrap .i64 ((pile.length : Int) - (y3.1.1.length : Int))).toNat), y3.1.1, ())) fun y4 =>
  some (!y4.1.1, ()))
  none) : Option (Bool × Unit)).bind fun j5 =>
  br k (j5.1)
  (some ((0, ()), ((), (), ())))
  (br k (decide (0 ≤ (IntKind.wrap .i64 ((pile.length : Int) - (y3.1.1.length : Int))) ∧ (IntKind.wrap .i64 ((pile.length : Int) - (y3.1.1.length : Int))) ≤ (pile.length : Int)))
  (bd k (impl_leaves k (x2.1, ())) fun y6 =>
  br k (decide (((subL pile ((0 : Int).toNat) ((IntKind.wrap .i64 ((pile.length : Int) - (y3.1.1.length : Int))).toNat - (0 : Int).toNat)).length + ([y6.1.1] : List Int).length) * 8 ≤ maxBytes))
  (G0 ((subL pile ((0 : Int).toNat) ((IntKind.wrap .i64 ((pile.length : Int) - (y3.1.1.length : Int))).toNat - (0 : Int).toNat)) ++ ([y6.1.1] : List Int), t20, t21, IntKind.wrap .i64 (t22 + 1), ()))
  none)
  none))
  none)
  (br k ((pile.length : Int) != 1)
  (some ((0, ()), ((), (), ())))
  (br k (decide (0 ≤ (0 : Int) ∧ (0 : Int) < (pile.length : Int)))
  (bd k (pile[(0 : Int).toNat]?) fun x7 =>
  some ((x7, ()), ((), (), ())))
  none))
noncomputable def impl_Decl_kindOf (k : Nat) : (QT2 × QT16 × Unit) → Option QT26 := fun x => match x with
 | (d_, l_, ()) =>
  br k (decide ((l_.length : Int) > 40))
  (some ((0, ()), ((), (), ())))
  (bd k (impl_areAll_impl_Tok k (l_, (d_, ()), ())) fun y1 =>
  br k (!y1.1.1)
  (some ((0, ()), ((), (), ())))
  (iter (impl_Decl_kindOf.l0 k) k ([], l_, (l_.length : Int), 0, ())))
noncomputable def impl_Decl_kindOf.sg (k : Nat) : Sig := ⟨impl_Decl_kindOf.A, impl_Decl_kindOf.R, impl_Decl_kindOf k⟩
noncomputable def impl_Decl_kindOf.C (k : Nat) : Ctx := ⟨Tryz.prog, [(115, [impl_areAll_impl_Tok.sg k]), (94, [impl_takes.sg k]), (117, [slices_Equal_int64_int64.sg k]), (118, [impl_leaves.sg k])], k, [], []⟩
theorem impl_Decl_kindOf.ev (k : Nat) (x : impl_Decl_kindOf.A.T) : evFunc (impl_Decl_kindOf.C k) impl_Decl_kindOf.ann Tryz.f87 impl_Decl_kindOf.A impl_Decl_kindOf.R x = impl_Decl_kindOf k x := by kernel_rfl
theorem impl_Decl_kindOf.ok {L : List (Nat × Obj)}  (k : Nat) : SigHolds Tryz.prog L 87 (impl_Decl_kindOf.sg k) :=
  sig_of_ev (C := impl_Decl_kindOf.C k) (holds_cons (allok_cons (impl_areAll_impl_Tok.ok k) allok_nil) (holds_cons (allok_cons (impl_takes.ok k) allok_nil) (holds_cons (allok_cons (slices_Equal_int64_int64.ok k) allok_nil) (holds_cons (allok_cons (impl_leaves.ok k) allok_nil) holds_nil)))) (by kernel_rfl) Tryz.func87 (by kernel_rfl) _ _ _ (fun x y h => (impl_Decl_kindOf.ev k x).trans h) (by kernel_rfl)
def impl_Line_areEnds.A : Sh := (.cons (.pur QK9) .nil)
def impl_Line_areEnds.R : Sh := QS19
def impl_Line_areEnds.ann : Ann := { loops := [], joins := [(1, [(2, .bool)])], keys := [] }
noncomputable def impl_Line_areEnds (k : Nat) : (QT0 × Unit) → Option QT21 := fun x => match x with
 | (n, ()) =>
  (bd k (impl_within k (n.2.2.2.2.1, (-999999999999999999), n.2.2.2.2.2.1, ())) fun y1 =>
  br k (y1.1.1)
  (some (decide (n.2.2.2.2.2.1 ≤ 999999999999999999), ()))
  (some (false, ())) : Option (Bool × Unit)).bind fun j2 =>
  some ((j2.1, ()), ((), ()))
noncomputable def impl_Line_areEnds.sg (k : Nat) : Sig := ⟨impl_Line_areEnds.A, impl_Line_areEnds.R, impl_Line_areEnds k⟩
noncomputable def impl_Line_areEnds.C (k : Nat) : Ctx := ⟨Tryz.prog, [(39, [impl_within.sg k])], k, [], []⟩
theorem impl_Line_areEnds.ev (k : Nat) (x : impl_Line_areEnds.A.T) : evFunc (impl_Line_areEnds.C k) impl_Line_areEnds.ann Tryz.f90 impl_Line_areEnds.A impl_Line_areEnds.R x = impl_Line_areEnds k x := by kernel_rfl
theorem impl_Line_areEnds.ok {L : List (Nat × Obj)}  (k : Nat) : SigHolds Tryz.prog L 90 (impl_Line_areEnds.sg k) :=
  sig_of_ev (C := impl_Line_areEnds.C k) (holds_cons (allok_cons (impl_within.ok k) allok_nil) holds_nil) (by kernel_rfl) Tryz.func90 (by kernel_rfl) _ _ _ (fun x y h => (impl_Line_areEnds.ev k x).trans h) (by kernel_rfl)
def impl_Line_isPlain.A : Sh := (.cons (.pur QK9) .nil)
def impl_Line_isPlain.R : Sh := QS19
def impl_Line_isPlain.ann : Ann := { loops := [], joins := [(1, [(2, .bool)])], keys := [] }
noncomputable def impl_Line_isPlain (k : Nat) : (QT0 × Unit) → Option QT21 := fun x => match x with
 | (n, ()) =>
  (br k (n.2.1 == 0)
  (br k ((n.2.2.1.length : Int) == 0)
  (br k ((n.2.2.2.1.length : Int) == 0)
  (br k (n.2.2.2.2.1 == 0)
  (some (n.2.2.2.2.2.1 == 0, ()))
  (some (false, ())))
  (some (false, ())))
  (some (false, ())))
  (some (false, ())) : Option (Bool × Unit)).bind fun j1 =>
  some ((j1.1, ()), ((), ()))
noncomputable def impl_Line_isPlain.sg (k : Nat) : Sig := ⟨impl_Line_isPlain.A, impl_Line_isPlain.R, impl_Line_isPlain k⟩
noncomputable def impl_Line_isPlain.C (k : Nat) : Ctx := ⟨Tryz.prog, [], k, [], []⟩
theorem impl_Line_isPlain.ev (k : Nat) (x : impl_Line_isPlain.A.T) : evFunc (impl_Line_isPlain.C k) impl_Line_isPlain.ann Tryz.f91 impl_Line_isPlain.A impl_Line_isPlain.R x = impl_Line_isPlain k x := by kernel_rfl
theorem impl_Line_isPlain.ok {L : List (Nat × Obj)}  (k : Nat) : SigHolds Tryz.prog L 91 (impl_Line_isPlain.sg k) :=
  sig_of_ev (C := impl_Line_isPlain.C k) holds_nil (by kernel_rfl) Tryz.func91 (by kernel_rfl) _ _ _ (fun x y h => (impl_Line_isPlain.ev k x).trans h) (by kernel_rfl)
end Go.Pev.F
