/-
  Printed by gen.py: what functions of the program compute, and that they do.
-/
import Derived.Test.YtimiagnkcjfdhaaGreatDoorK08
set_option linter.unusedSimpArgs false
set_option linter.unusedVariables false
open Go.Proofs Go.Pev
namespace Go.Pev.F
set_option maxRecDepth 100000
set_option linter.unusedVariables false

/-! slices.IndexFunc[[]loop.example/g00719/impl.Part,loop.example/g00719/impl.Part] -/
def slices_IndexFunc_impl_Part_impl_Part.A : Sh := (.cons (.pur (.sl false (.cons (.sl false (.cons (.int .i64) (.cons (.int .i64) .nil))) (.cons (.sl false (.cons .bool (.cons (.sl false (.cons (.int .i64) (.cons (.int .i64) .nil))) (.cons (.sl false (.cons (.int .i64) (.cons (.int .i64) .nil))) .nil)))) .nil)))) (.cons (.fn (.func 135) 0 (.cons (.box (.cons (.fn (.func 102) 1 (.cons (.pur (.cons (.sl false .str) (.cons (.sl false .str) (.cons (.sl false (.cons .str (.cons (.int .i64) .nil))) .nil)))) .nil)) .nil)) .nil)) .nil))
def slices_IndexFunc_impl_Part_impl_Part.R : Sh := (.cons (.pur (.int .i64)) .nil)
def slices_IndexFunc_impl_Part_impl_Part.ann : Ann := { loops := [(0, [(0, (.pur (.sl false (.cons (.sl false (.cons (.int .i64) (.cons (.int .i64) .nil))) (.cons (.sl false (.cons .bool (.cons (.sl false (.cons (.int .i64) (.cons (.int .i64) .nil))) (.cons (.sl false (.cons (.int .i64) (.cons (.int .i64) .nil))) .nil)))) .nil))))), (1, (.fn (.func 135) 0 (.cons (.box (.cons (.fn (.func 102) 1 (.cons (.pur (.cons (.sl false .str) (.cons (.sl false .str) (.cons (.sl false (.cons .str (.cons (.int .i64) .nil))) .nil)))) .nil)) .nil)) .nil))), (7, (.pur (.int .i64))), (8, (.pur (.int .i64)))])], joins := [], keys := [] }
noncomputable def slices_IndexFunc_impl_Part_impl_Part.l0 (k : Nat)  (G0 : ((List ((List (Int × Int × Unit)) × (List (Bool × (List (Int × Int × Unit)) × (List (Int × Int × Unit)) × Unit)) × Unit)) × (((((List (List UInt8)) × (List (List UInt8)) × (List ((List UInt8) × Int × Unit)) × Unit) × Unit) × Unit) × Unit) × Int × Int × Unit) → Option ((Int × Unit) × (Unit × (((((List (List UInt8)) × (List (List UInt8)) × (List ((List UInt8) × Int × Unit)) × Unit) × Unit) × Unit) × Unit) × Unit))) : ((List ((List (Int × Int × Unit)) × (List (Bool × (List (Int × Int × Unit)) × (List (Int × Int × Unit)) × Unit)) × Unit)) × (((((List (List UInt8)) × (List (List UInt8)) × (List ((List UInt8) × Int × Unit)) × Unit) × Unit) × Unit) × Unit) × Int × Int × Unit) → Option ((Int × Unit) × (Unit × (((((List (List UInt8)) × (List (List UInt8)) × (List ((List UInt8) × Int × Unit)) × Unit) × Unit) × Unit) × Unit) × Unit)) := fun x => match x with
 | (s_, (((f_0_0_0, ()), ()), ()), t7, t8, ()) =>
  br k (decide (t8 < t7))
  (br k (decide (0 ≤ t8))
  (bd k (s_[t8.toNat]?) fun x1 =>
  bd k (impl_areAll_impl_Part_1 k (x1, ((f_0_0_0, ()), ()), ())) fun y2 =>
  br k (y2.1.1)
  (some ((t8, ()), ((), (((y2.2.2.1.1.1, ()), ()), ()), ())))
  (G0 (s_, (((y2.2.2.1.1.1, ()), ()), ()), t7, IntKind.wrap .i64 (t8 + 1), ())))
  none)
  (some (((-1), ()), ((), (((f_0_0_0, ()), ()), ()), ())))
noncomputable def slices_IndexFunc_impl_Part_impl_Part (k : Nat) : ((List ((List (Int × Int × Unit)) × (List (Bool × (List (Int × Int × Unit)) × (List (Int × Int × Unit)) × Unit)) × Unit)) × (((((List (List UInt8)) × (List (List UInt8)) × (List ((List UInt8) × Int × Unit)) × Unit) × Unit) × Unit) × Unit) × Unit) → Option ((Int × Unit) × (Unit × (((((List (List UInt8)) × (List (List UInt8)) × (List ((List UInt8) × Int × Unit)) × Unit) × Unit) × Unit) × Unit) × Unit)) := fun x => match x with
 | (s_, (((f_0_0_0, ()), ()), ()), ()) =>
  iter (slices_IndexFunc_impl_Part_impl_Part.l0 k) k (s_, (((f_0_0_0, ()), ()), ()), (s_.length : Int), 0, ())
noncomputable def slices_IndexFunc_impl_Part_impl_Part.sg (k : Nat) : Sig := ⟨slices_IndexFunc_impl_Part_impl_Part.A, slices_IndexFunc_impl_Part_impl_Part.R, slices_IndexFunc_impl_Part_impl_Part k⟩
noncomputable def slices_IndexFunc_impl_Part_impl_Part.C (k : Nat) : Ctx := ⟨Tryz.prog, [(135, [impl_areAll_impl_Part_1.sg k])], k⟩
theorem slices_IndexFunc_impl_Part_impl_Part.ev (k : Nat) (x : slices_IndexFunc_impl_Part_impl_Part.A.T) : evFunc (slices_IndexFunc_impl_Part_impl_Part.C k) slices_IndexFunc_impl_Part_impl_Part.ann Tryz.f155 slices_IndexFunc_impl_Part_impl_Part.A slices_IndexFunc_impl_Part_impl_Part.R x = slices_IndexFunc_impl_Part_impl_Part k x := by kernel_rfl
theorem slices_IndexFunc_impl_Part_impl_Part.ok {L : List (Nat × Obj)}  (k : Nat) : SigHolds Tryz.prog L 155 (slices_IndexFunc_impl_Part_impl_Part.sg k) :=
  sig_of_ev (C := slices_IndexFunc_impl_Part_impl_Part.C k) (holds_cons (allok_cons (impl_areAll_impl_Part_1.ok k) allok_nil) holds_nil) (by kernel_rfl) Tryz.func155 (by kernel_rfl) slices_IndexFunc_impl_Part_impl_Part.ann slices_IndexFunc_impl_Part_impl_Part.A slices_IndexFunc_impl_Part_impl_Part.R (fun x y h => (slices_IndexFunc_impl_Part_impl_Part.ev k x).trans h) (by kernel_rfl)

/-! slices.ContainsFunc[[]loop.example/g00719/impl.Part,loop.example/g00719/impl.Part] -/
def slices_ContainsFunc_impl_Part_impl_Part.A : Sh := (.cons (.pur (.sl false (.cons (.sl false (.cons (.int .i64) (.cons (.int .i64) .nil))) (.cons (.sl false (.cons .bool (.cons (.sl false (.cons (.int .i64) (.cons (.int .i64) .nil))) (.cons (.sl false (.cons (.int .i64) (.cons (.int .i64) .nil))) .nil)))) .nil)))) (.cons (.fn (.func 135) 0 (.cons (.box (.cons (.fn (.func 102) 1 (.cons (.pur (.cons (.sl false .str) (.cons (.sl false .str) (.cons (.sl false (.cons .str (.cons (.int .i64) .nil))) .nil)))) .nil)) .nil)) .nil)) .nil))
def slices_ContainsFunc_impl_Part_impl_Part.R : Sh := (.cons (.pur .bool) .nil)
def slices_ContainsFunc_impl_Part_impl_Part.ann : Ann := { loops := [], joins := [], keys := [] }
noncomputable def slices_ContainsFunc_impl_Part_impl_Part (k : Nat) : ((List ((List (Int × Int × Unit)) × (List (Bool × (List (Int × Int × Unit)) × (List (Int × Int × Unit)) × Unit)) × Unit)) × (((((List (List UInt8)) × (List (List UInt8)) × (List ((List UInt8) × Int × Unit)) × Unit) × Unit) × Unit) × Unit) × Unit) → Option ((Bool × Unit) × (Unit × (((((List (List UInt8)) × (List (List UInt8)) × (List ((List UInt8) × Int × Unit)) × Unit) × Unit) × Unit) × Unit) × Unit)) := fun x => match x with
 | (s_, (((f_0_0_0, ()), ()), ()), ()) =>
  bd k (slices_IndexFunc_impl_Part_impl_Part k (s_, (((f_0_0_0, ()), ()), ()), ())) fun y1 =>
  some ((decide (y1.1.1 ≥ 0), ()), ((), (((y1.2.2.1.1.1.1, ()), ()), ()), ()))
noncomputable def slices_ContainsFunc_impl_Part_impl_Part.sg (k : Nat) : Sig := ⟨slices_ContainsFunc_impl_Part_impl_Part.A, slices_ContainsFunc_impl_Part_impl_Part.R, slices_ContainsFunc_impl_Part_impl_Part k⟩
noncomputable def slices_ContainsFunc_impl_Part_impl_Part.C (k : Nat) : Ctx := ⟨Tryz.prog, [(155, [slices_IndexFunc_impl_Part_impl_Part.sg k])], k⟩
theorem slices_ContainsFunc_impl_Part_impl_Part.ev (k : Nat) (x : slices_ContainsFunc_impl_Part_impl_Part.A.T) : evFunc (slices_ContainsFunc_impl_Part_impl_Part.C k) slices_ContainsFunc_impl_Part_impl_Part.ann Tryz.f134 slices_ContainsFunc_impl_Part_impl_Part.A slices_ContainsFunc_impl_Part_impl_Part.R x = slices_ContainsFunc_impl_Part_impl_Part k x := by kernel_rfl
theorem slices_ContainsFunc_impl_Part_impl_Part.ok {L : List (Nat × Obj)}  (k : Nat) : SigHolds Tryz.prog L 134 (slices_ContainsFunc_impl_Part_impl_Part.sg k) :=
  sig_of_ev (C := slices_ContainsFunc_impl_Part_impl_Part.C k) (holds_cons (allok_cons (slices_IndexFunc_impl_Part_impl_Part.ok k) allok_nil) holds_nil) (by kernel_rfl) Tryz.func134 (by kernel_rfl) slices_ContainsFunc_impl_Part_impl_Part.ann slices_ContainsFunc_impl_Part_impl_Part.A slices_ContainsFunc_impl_Part_impl_Part.R (fun x y h => (slices_ContainsFunc_impl_Part_impl_Part.ev k x).trans h) (by kernel_rfl)

/-! loop.example/g00719/impl.areAll[loop.example/g00719/impl.Part] -/
def impl_areAll_impl_Part.A : Sh := (.cons (.pur (.sl false (.cons (.sl false (.cons (.int .i64) (.cons (.int .i64) .nil))) (.cons (.sl false (.cons .bool (.cons (.sl false (.cons (.int .i64) (.cons (.int .i64) .nil))) (.cons (.sl false (.cons (.int .i64) (.cons (.int .i64) .nil))) .nil)))) .nil)))) (.cons (.fn (.func 102) 1 (.cons (.pur (.cons (.sl false .str) (.cons (.sl false .str) (.cons (.sl false (.cons .str (.cons (.int .i64) .nil))) .nil)))) .nil)) .nil))
def impl_areAll_impl_Part.R : Sh := (.cons (.pur .bool) .nil)
def impl_areAll_impl_Part.ann : Ann := { loops := [], joins := [], keys := [] }
noncomputable def impl_areAll_impl_Part (k : Nat) : ((List ((List (Int × Int × Unit)) × (List (Bool × (List (Int × Int × Unit)) × (List (Int × Int × Unit)) × Unit)) × Unit)) × (((List (List UInt8)) × (List (List UInt8)) × (List ((List UInt8) × Int × Unit)) × Unit) × Unit) × Unit) → Option ((Bool × Unit) × (Unit × (Unit × Unit) × Unit)) := fun x => match x with
 | (list, (is_0, ()), ()) =>
  bd k (slices_ContainsFunc_impl_Part_impl_Part k (list, (((is_0, ()), ()), ()), ())) fun y1 =>
  some ((!y1.1.1, ()), ((), ((), ()), ()))
noncomputable def impl_areAll_impl_Part.sg (k : Nat) : Sig := ⟨impl_areAll_impl_Part.A, impl_areAll_impl_Part.R, impl_areAll_impl_Part k⟩
noncomputable def impl_areAll_impl_Part.C (k : Nat) : Ctx := ⟨Tryz.prog, [(134, [slices_ContainsFunc_impl_Part_impl_Part.sg k])], k⟩
theorem impl_areAll_impl_Part.ev (k : Nat) (x : impl_areAll_impl_Part.A.T) : evFunc (impl_areAll_impl_Part.C k) impl_areAll_impl_Part.ann Tryz.f101 impl_areAll_impl_Part.A impl_areAll_impl_Part.R x = impl_areAll_impl_Part k x := by kernel_rfl
theorem impl_areAll_impl_Part.ok {L : List (Nat × Obj)}  (k : Nat) : SigHolds Tryz.prog L 101 (impl_areAll_impl_Part.sg k) :=
  sig_of_ev (C := impl_areAll_impl_Part.C k) (holds_cons (allok_cons (slices_ContainsFunc_impl_Part_impl_Part.ok k) allok_nil) holds_nil) (by kernel_rfl) Tryz.func101 (by kernel_rfl) impl_areAll_impl_Part.ann impl_areAll_impl_Part.A impl_areAll_impl_Part.R (fun x y h => (impl_areAll_impl_Part.ev k x).trans h) (by kernel_rfl)

/-! (loop.example/g00719/impl.Decl).areParts -/
def impl_Decl_areParts.A : Sh := (.cons (.pur (.cons (.sl false .str) (.cons (.sl false .str) (.cons (.sl false (.cons .str (.cons (.int .i64) .nil))) .nil)))) (.cons (.pur (.sl false (.cons (.sl false (.cons (.int .i64) (.cons (.int .i64) .nil))) (.cons (.sl false (.cons .bool (.cons (.sl false (.cons (.int .i64) (.cons (.int .i64) .nil))) (.cons (.sl false (.cons (.int .i64) (.cons (.int .i64) .nil))) .nil)))) .nil)))) .nil))
def impl_Decl_areParts.R : Sh := (.cons (.pur .bool) .nil)
def impl_Decl_areParts.ann : Ann := { loops := [(0, [(1, (.pur (.sl false (.cons (.sl false (.cons (.int .i64) (.cons (.int .i64) .nil))) (.cons (.sl false (.cons .bool (.cons (.sl false (.cons (.int .i64) (.cons (.int .i64) .nil))) (.cons (.sl false (.cons (.int .i64) (.cons (.int .i64) .nil))) .nil)))) .nil))))), (2, (.box (.cons (.pur (.sl false .str)) (.cons (.pur (.sl false .str)) (.cons (.pur (.sl false (.cons .str (.cons (.int .i64) .nil)))) .nil))))), (5, (.pur (.int .i64)))])], joins := [], keys := [] }
noncomputable def impl_Decl_areParts.l0 (k : Nat)  (G0 : ((List ((List (Int × Int × Unit)) × (List (Bool × (List (Int × Int × Unit)) × (List (Int × Int × Unit)) × Unit)) × Unit)) × ((List (List UInt8)) × (List (List UInt8)) × (List ((List UInt8) × Int × Unit)) × Unit) × Int × Unit) → Option ((Bool × Unit) × (Unit × Unit × Unit))) : ((List ((List (Int × Int × Unit)) × (List (Bool × (List (Int × Int × Unit)) × (List (Int × Int × Unit)) × Unit)) × Unit)) × ((List (List UInt8)) × (List (List UInt8)) × (List ((List UInt8) × Int × Unit)) × Unit) × Int × Unit) → Option ((Bool × Unit) × (Unit × Unit × Unit)) := fun x => match x with
 | (l_, (d__0, d__1, d__2, ()), i, ()) =>
  br k (decide (i < (l_.length : Int)))
  (br k (decide (0 ≤ (IntKind.wrap .i64 (i - 1))))
  (bd k (l_[(IntKind.wrap .i64 (i - 1)).toNat]?) fun x1 =>
  br k (decide (0 ≤ i))
  (bd k (l_[i.toNat]?) fun x2 =>
  bd k (impl_compareTokens k (x1.1, x2.1, ())) fun y3 =>
  br k (decide (y3.1.1 ≥ 0))
  (some ((false, ()), ((), (), ())))
  (G0 (l_, (d__0, d__1, d__2, ()), IntKind.wrap .i64 (i + 1), ())))
  none)
  none)
  (br k (decide ((l_.length : Int) ≤ 100))
  (bd k (impl_areAll_impl_Part k (l_, ((d__0, d__1, d__2, ()), ()), ())) fun y4 =>
  some ((y4.1.1, ()), ((), (), ())))
  (some ((false, ()), ((), (), ()))))
noncomputable def impl_Decl_areParts (k : Nat) : (((List (List UInt8)) × (List (List UInt8)) × (List ((List UInt8) × Int × Unit)) × Unit) × (List ((List (Int × Int × Unit)) × (List (Bool × (List (Int × Int × Unit)) × (List (Int × Int × Unit)) × Unit)) × Unit)) × Unit) → Option ((Bool × Unit) × (Unit × Unit × Unit)) := fun x => match x with
 | (d_, l_, ()) =>
  iter (impl_Decl_areParts.l0 k) k (l_, (d_.1, d_.2.1, d_.2.2.1, ()), 1, ())
noncomputable def impl_Decl_areParts.sg (k : Nat) : Sig := ⟨impl_Decl_areParts.A, impl_Decl_areParts.R, impl_Decl_areParts k⟩
noncomputable def impl_Decl_areParts.C (k : Nat) : Ctx := ⟨Tryz.prog, [(100, [impl_compareTokens.sg k]), (101, [impl_areAll_impl_Part.sg k])], k⟩
theorem impl_Decl_areParts.ev (k : Nat) (x : impl_Decl_areParts.A.T) : evFunc (impl_Decl_areParts.C k) impl_Decl_areParts.ann Tryz.f65 impl_Decl_areParts.A impl_Decl_areParts.R x = impl_Decl_areParts k x := by kernel_rfl
theorem impl_Decl_areParts.ok {L : List (Nat × Obj)}  (k : Nat) : SigHolds Tryz.prog L 65 (impl_Decl_areParts.sg k) :=
  sig_of_ev (C := impl_Decl_areParts.C k) (holds_cons (allok_cons (impl_compareTokens.ok k) allok_nil) (holds_cons (allok_cons (impl_areAll_impl_Part.ok k) allok_nil) holds_nil)) (by kernel_rfl) Tryz.func65 (by kernel_rfl) impl_Decl_areParts.ann impl_Decl_areParts.A impl_Decl_areParts.R (fun x y h => (impl_Decl_areParts.ev k x).trans h) (by kernel_rfl)

/-! loop.example/g00719/impl.PartsOk -/
def impl_PartsOk.A : Sh := (.cons (.pur (.cons (.sl false .str) (.cons (.sl false .str) (.cons (.sl false (.cons .str (.cons (.int .i64) .nil))) .nil)))) (.cons (.pur (.sl false (.cons (.sl false (.cons (.int .i64) (.cons (.int .i64) .nil))) (.cons (.sl false (.cons .bool (.cons (.sl false (.cons (.int .i64) (.cons (.int .i64) .nil))) (.cons (.sl false (.cons (.int .i64) (.cons (.int .i64) .nil))) .nil)))) .nil)))) .nil))
def impl_PartsOk.R : Sh := (.cons (.pur .bool) .nil)
def impl_PartsOk.ann : Ann := { loops := [], joins := [(1, [(4, .bool)])], keys := [] }
noncomputable def impl_PartsOk (k : Nat) : (((List (List UInt8)) × (List (List UInt8)) × (List ((List UInt8) × Int × Unit)) × Unit) × (List ((List (Int × Int × Unit)) × (List (Bool × (List (Int × Int × Unit)) × (List (Int × Int × Unit)) × Unit)) × Unit)) × Unit) → Option ((Bool × Unit) × (Unit × Unit × Unit)) := fun x => match x with
 | (d_, l_, ()) =>
  (bd k (impl_Decl_isRight k (d_, ())) fun y1 =>
  br k (y1.1.1)
  (bd k (impl_Decl_areParts k (d_, l_, ())) fun y2 =>
  some (y2.1.1, ()))
  (some (false, ())) : Option (Bool × Unit)).bind fun j3 =>
  some ((j3.1, ()), ((), (), ()))
noncomputable def impl_PartsOk.sg (k : Nat) : Sig := ⟨impl_PartsOk.A, impl_PartsOk.R, impl_PartsOk k⟩
noncomputable def impl_PartsOk.C (k : Nat) : Ctx := ⟨Tryz.prog, [(64, [impl_Decl_isRight.sg k]), (65, [impl_Decl_areParts.sg k])], k⟩
theorem impl_PartsOk.ev (k : Nat) (x : impl_PartsOk.A.T) : evFunc (impl_PartsOk.C k) impl_PartsOk.ann Tryz.f35 impl_PartsOk.A impl_PartsOk.R x = impl_PartsOk k x := by kernel_rfl
theorem impl_PartsOk.ok {L : List (Nat × Obj)} (hSp : Lb.NeedSp L) (k : Nat) : SigHolds Tryz.prog L 35 (impl_PartsOk.sg k) :=
  sig_of_ev (C := impl_PartsOk.C k) (holds_cons (allok_cons (impl_Decl_isRight.ok hSp k) allok_nil) (holds_cons (allok_cons (impl_Decl_areParts.ok k) allok_nil) holds_nil)) (by kernel_rfl) Tryz.func35 (by kernel_rfl) impl_PartsOk.ann impl_PartsOk.A impl_PartsOk.R (fun x y h => (impl_PartsOk.ev k x).trans h) (by kernel_rfl)

/-! loop.example/g00719/impl.tokenText -/
def impl_tokenText.A : Sh := (.cons (.pur (.sl false (.cons (.int .i64) (.cons (.int .i64) .nil)))) .nil)
def impl_tokenText.R : Sh := (.cons (.pur .str) .nil)
def impl_tokenText.ann : Ann := { loops := [(0, [(3, (.own .str)), (9, (.pur (.sl false (.cons (.int .i64) (.cons (.int .i64) .nil))))), (10, (.pur (.int .i64))), (11, (.pur (.int .i64)))])], joins := [], keys := [(7, [([], false), ([5], false), ([5], false), ([], false), ([], false), ([5], false), ([5], false), ([], false), ([], false), ([24], true), ([3, 24, 25], true), ([], false)])] }
noncomputable def impl_tokenText.l0 (k : Nat)  (G0 : ((List (List UInt8)) × (List (Int × Int × Unit)) × Int × Int × Unit) → Option (((List UInt8) × Unit) × (Unit × Unit))) : ((List (List UInt8)) × (List (Int × Int × Unit)) × Int × Int × Unit) → Option (((List UInt8) × Unit) × (Unit × Unit)) := fun x => match x with
 | (list, t9, t10, t11, ()) =>
  br k (decide (t11 < t10))
  (br k (decide (0 ≤ t11))
  (bd k (t9[t11.toNat]?) fun x1 =>
  bd k (impl_decimal k (x1.1, ())) fun y2 =>
  br k (decide (((y2.1.1.length + ([58] : List UInt8).length : Nat) : Int) ≤ maxInt64))
  (bd k (impl_decimal k (x1.2.1, ())) fun y3 =>
  br k (decide ((((y2.1.1 ++ [58]).length + y3.1.1.length : Nat) : Int) ≤ maxInt64))
  (br k (decide ((list.length + ([(y2.1.1 ++ [58]) ++ y3.1.1] : List (List UInt8)).length) * 16 ≤ maxBytes))
  (G0 (list ++ ([(y2.1.1 ++ [58]) ++ y3.1.1] : List (List UInt8)), t9, t10, IntKind.wrap .i64 (t11 + 1), ()))
  none)
  none)
  none)
  none)
  (bd k (Lb.Join k (list, [32], ())) fun y4 =>
  some ((y4.1.1, ()), ((), ())))
noncomputable def impl_tokenText (k : Nat) : ((List (Int × Int × Unit)) × Unit) → Option (((List UInt8) × Unit) × (Unit × Unit)) := fun x => match x with
 | (t, ()) =>
  br k ((t.length : Int) == 0)
  (some (([45], ()), ((), ())))
  (iter (impl_tokenText.l0 k) k ([], t, (t.length : Int), 0, ()))
noncomputable def impl_tokenText.sg (k : Nat) : Sig := ⟨impl_tokenText.A, impl_tokenText.R, impl_tokenText k⟩
noncomputable def impl_tokenText.C (k : Nat) : Ctx := ⟨Tryz.prog, [(67, [impl_decimal.sg k]), (66, [Lb.Join.sg k])], k⟩
theorem impl_tokenText.ev (k : Nat) (x : impl_tokenText.A.T) : evFunc (impl_tokenText.C k) impl_tokenText.ann Tryz.f38 impl_tokenText.A impl_tokenText.R x = impl_tokenText k x := by kernel_rfl
theorem impl_tokenText.ok {L : List (Nat × Obj)} (hFmt : Lb.NeedFmt L) (k : Nat) : SigHolds Tryz.prog L 38 (impl_tokenText.sg k) :=
  sig_of_ev (C := impl_tokenText.C k) (holds_cons (allok_cons (impl_decimal.ok hFmt k) allok_nil) (holds_cons (allok_cons (Lb.Join.ok k) allok_nil) holds_nil)) (by kernel_rfl) Tryz.func38 (by kernel_rfl) impl_tokenText.ann impl_tokenText.A impl_tokenText.R (fun x y h => (impl_tokenText.ev k x).trans h) (by kernel_rfl)

/-! loop.example/g00719/impl.RowText$1 -/
def impl_RowText_1.A : Sh := (.cons (.pur (.cons (.sl false (.cons (.int .i64) (.cons (.int .i64) .nil))) (.cons (.sl false (.cons .bool (.cons (.sl false (.cons (.int .i64) (.cons (.int .i64) .nil))) (.cons (.sl false (.cons (.int .i64) (.cons (.int .i64) .nil))) .nil)))) .nil))) (.cons (.box (.cons (.pur (.sl false .str)) (.cons (.pur (.sl false .str)) (.cons (.pur (.sl false (.cons .str (.cons (.int .i64) .nil)))) .nil)))) .nil))
def impl_RowText_1.R : Sh := (.cons (.pur .str) .nil)
def impl_RowText_1.ann : Ann := { loops := [], joins := [], keys := [(1, [([2], false), ([2], false), ([], false), ([], false), ([1], false), ([1], false), ([2], false), ([2], false), ([12], true), ([12], false), ([], false), ([], false)])] }
noncomputable def impl_RowText_1 (k : Nat) : (((List (Int × Int × Unit)) × (List (Bool × (List (Int × Int × Unit)) × (List (Int × Int × Unit)) × Unit)) × Unit) × ((List (List UInt8)) × (List (List UInt8)) × (List ((List UInt8) × Int × Unit)) × Unit) × Unit) → Option (((List UInt8) × Unit) × (Unit × ((List (List UInt8)) × (List (List UInt8)) × (List ((List UInt8) × Int × Unit)) × Unit) × Unit)) := fun x => match x with
 | (p, (a1_0, a1_1, a1_2, ()), ()) =>
  bd k (impl_tokenText k (p.1, ())) fun y1 =>
  br k (decide (((y1.1.1.length + ([32] : List UInt8).length : Nat) : Int) ≤ maxInt64))
  (bd k (impl_Decl_treeOf k ((a1_0, a1_1, a1_2, ()), p.2.1, ())) fun y2 =>
  bd k (impl_Decl_treeText k ((a1_0, a1_1, a1_2, ()), (y2.1.1.1, ()), ())) fun y3 =>
  br k (decide ((((y1.1.1 ++ [32]).length + y3.1.1.length : Nat) : Int) ≤ maxInt64))
  (some (((y1.1.1 ++ [32]) ++ y3.1.1, ()), ((), (a1_0, a1_1, a1_2, ()), ())))
  none)
  none
noncomputable def impl_RowText_1.sg (k : Nat) : Sig := ⟨impl_RowText_1.A, impl_RowText_1.R, impl_RowText_1 k⟩
noncomputable def impl_RowText_1.C (k : Nat) : Ctx := ⟨Tryz.prog, [(38, [impl_tokenText.sg k]), (39, [impl_Decl_treeOf.sg k]), (27, [impl_Decl_treeText.sg k])], k⟩
theorem impl_RowText_1.ev (k : Nat) (x : impl_RowText_1.A.T) : evFunc (impl_RowText_1.C k) impl_RowText_1.ann Tryz.f37 impl_RowText_1.A impl_RowText_1.R x = impl_RowText_1 k x := by kernel_rfl
theorem impl_RowText_1.ok {L : List (Nat × Obj)} (hFmt : Lb.NeedFmt L) (k : Nat) : SigHolds Tryz.prog L 37 (impl_RowText_1.sg k) :=
  sig_of_ev (C := impl_RowText_1.C k) (holds_cons (allok_cons (impl_tokenText.ok hFmt k) allok_nil) (holds_cons (allok_cons (impl_Decl_treeOf.ok k) allok_nil) (holds_cons (allok_cons (impl_Decl_treeText.ok hFmt k) allok_nil) holds_nil))) (by kernel_rfl) Tryz.func37 (by kernel_rfl) impl_RowText_1.ann impl_RowText_1.A impl_RowText_1.R (fun x y h => (impl_RowText_1.ev k x).trans h) (by kernel_rfl)

/-! loop.example/g00719/impl.orNone[loop.example/g00719/impl.Part] -/
def impl_orNone_impl_Part.A : Sh := (.cons (.pur (.sl false (.cons (.sl false (.cons (.int .i64) (.cons (.int .i64) .nil))) (.cons (.sl false (.cons .bool (.cons (.sl false (.cons (.int .i64) (.cons (.int .i64) .nil))) (.cons (.sl false (.cons (.int .i64) (.cons (.int .i64) .nil))) .nil)))) .nil)))) (.cons (.fn (.func 37) 0 (.cons (.box (.cons (.pur (.sl false .str)) (.cons (.pur (.sl false .str)) (.cons (.pur (.sl false (.cons .str (.cons (.int .i64) .nil)))) .nil)))) .nil)) .nil))
def impl_orNone_impl_Part.R : Sh := (.cons (.pur .str) .nil)
def impl_orNone_impl_Part.ann : Ann := { loops := [(0, [(1, (.fn (.func 37) 0 (.cons (.box (.cons (.pur (.sl false .str)) (.cons (.pur (.sl false .str)) (.cons (.pur (.sl false (.cons .str (.cons (.int .i64) .nil)))) .nil)))) .nil))), (5, (.own .str)), (8, (.pur (.sl false (.cons (.sl false (.cons (.int .i64) (.cons (.int .i64) .nil))) (.cons (.sl false (.cons .bool (.cons (.sl false (.cons (.int .i64) (.cons (.int .i64) .nil))) (.cons (.sl false (.cons (.int .i64) (.cons (.int .i64) .nil))) .nil)))) .nil))))), (9, (.pur (.int .i64))), (10, (.pur (.int .i64)))])], joins := [], keys := [] }
noncomputable def impl_orNone_impl_Part.l0 (k : Nat)  (G0 : ((((List (List UInt8)) × (List (List UInt8)) × (List ((List UInt8) × Int × Unit)) × Unit) × Unit) × (List (List UInt8)) × (List ((List (Int × Int × Unit)) × (List (Bool × (List (Int × Int × Unit)) × (List (Int × Int × Unit)) × Unit)) × Unit)) × Int × Int × Unit) → Option (((List UInt8) × Unit) × (Unit × (((List (List UInt8)) × (List (List UInt8)) × (List ((List UInt8) × Int × Unit)) × Unit) × Unit) × Unit))) : ((((List (List UInt8)) × (List (List UInt8)) × (List ((List UInt8) × Int × Unit)) × Unit) × Unit) × (List (List UInt8)) × (List ((List (Int × Int × Unit)) × (List (Bool × (List (Int × Int × Unit)) × (List (Int × Int × Unit)) × Unit)) × Unit)) × Int × Int × Unit) → Option (((List UInt8) × Unit) × (Unit × (((List (List UInt8)) × (List (List UInt8)) × (List ((List UInt8) × Int × Unit)) × Unit) × Unit) × Unit)) := fun x => match x with
 | (((text_0_0, text_0_1, text_0_2, ()), ()), out_, t8, t9, t10, ()) =>
  br k (decide (t10 < t9))
  (br k (decide (0 ≤ t10))
  (bd k (t8[t10.toNat]?) fun x1 =>
  bd k (impl_RowText_1 k (x1, (text_0_0, text_0_1, text_0_2, ()), ())) fun y2 =>
  br k (decide ((out_.length + ([y2.1.1] : List (List UInt8)).length) * 16 ≤ maxBytes))
  (G0 (((y2.2.2.1.1, y2.2.2.1.2.1, y2.2.2.1.2.2.1, ()), ()), out_ ++ ([y2.1.1] : List (List UInt8)), t8, t9, IntKind.wrap .i64 (t10 + 1), ()))
  none)
  none)
  (br k ((out_.length : Int) == 0)
  (some (([110, 111, 110, 101], ()), ((), ((text_0_0, text_0_1, text_0_2, ()), ()), ())))
  (bd k (Lb.Join k (out_, [32, 47, 32], ())) fun y3 =>
  some ((y3.1.1, ()), ((), ((text_0_0, text_0_1, text_0_2, ()), ()), ()))))
noncomputable def impl_orNone_impl_Part (k : Nat) : ((List ((List (Int × Int × Unit)) × (List (Bool × (List (Int × Int × Unit)) × (List (Int × Int × Unit)) × Unit)) × Unit)) × (((List (List UInt8)) × (List (List UInt8)) × (List ((List UInt8) × Int × Unit)) × Unit) × Unit) × Unit) → Option (((List UInt8) × Unit) × (Unit × (((List (List UInt8)) × (List (List UInt8)) × (List ((List UInt8) × Int × Unit)) × Unit) × Unit) × Unit)) := fun x => match x with
 | (list, ((text_0_0, text_0_1, text_0_2, ()), ()), ()) =>
  iter (impl_orNone_impl_Part.l0 k) k (((text_0_0, text_0_1, text_0_2, ()), ()), [], list, (list.length : Int), 0, ())
noncomputable def impl_orNone_impl_Part.sg (k : Nat) : Sig := ⟨impl_orNone_impl_Part.A, impl_orNone_impl_Part.R, impl_orNone_impl_Part k⟩
noncomputable def impl_orNone_impl_Part.C (k : Nat) : Ctx := ⟨Tryz.prog, [(37, [impl_RowText_1.sg k]), (66, [Lb.Join.sg k])], k⟩
theorem impl_orNone_impl_Part.ev (k : Nat) (x : impl_orNone_impl_Part.A.T) : evFunc (impl_orNone_impl_Part.C k) impl_orNone_impl_Part.ann Tryz.f36 impl_orNone_impl_Part.A impl_orNone_impl_Part.R x = impl_orNone_impl_Part k x := by kernel_rfl
theorem impl_orNone_impl_Part.ok {L : List (Nat × Obj)} (hFmt : Lb.NeedFmt L) (k : Nat) : SigHolds Tryz.prog L 36 (impl_orNone_impl_Part.sg k) :=
  sig_of_ev (C := impl_orNone_impl_Part.C k) (holds_cons (allok_cons (impl_RowText_1.ok hFmt k) allok_nil) (holds_cons (allok_cons (Lb.Join.ok k) allok_nil) holds_nil)) (by kernel_rfl) Tryz.func36 (by kernel_rfl) impl_orNone_impl_Part.ann impl_orNone_impl_Part.A impl_orNone_impl_Part.R (fun x y h => (impl_orNone_impl_Part.ev k x).trans h) (by kernel_rfl)

/-! loop.example/g00719/impl.RowText -/
def impl_RowText.A : Sh := (.cons (.pur (.cons (.sl false .str) (.cons (.sl false .str) (.cons (.sl false (.cons .str (.cons (.int .i64) .nil))) .nil)))) (.cons (.pur (.sl false (.cons (.sl false (.cons (.int .i64) (.cons (.int .i64) .nil))) (.cons (.sl false (.cons .bool (.cons (.sl false (.cons (.int .i64) (.cons (.int .i64) .nil))) (.cons (.sl false (.cons (.int .i64) (.cons (.int .i64) .nil))) .nil)))) .nil)))) .nil))
def impl_RowText.R : Sh := (.cons (.pur .str) .nil)
def impl_RowText.ann : Ann := { loops := [], joins := [], keys := [] }
noncomputable def impl_RowText (k : Nat) : (((List (List UInt8)) × (List (List UInt8)) × (List ((List UInt8) × Int × Unit)) × Unit) × (List ((List (Int × Int × Unit)) × (List (Bool × (List (Int × Int × Unit)) × (List (Int × Int × Unit)) × Unit)) × Unit)) × Unit) → Option (((List UInt8) × Unit) × (Unit × Unit × Unit)) := fun x => match x with
 | (d_, l_, ()) =>
  bd k (impl_PartsOk k (d_, l_, ())) fun y1 =>
  br k (!y1.1.1)
  (some (([], ()), ((), (), ())))
  (bd k (impl_orNone_impl_Part k (l_, ((d_.1, d_.2.1, d_.2.2.1, ()), ()), ())) fun y2 =>
  some ((y2.1.1, ()), ((), (), ())))
noncomputable def impl_RowText.sg (k : Nat) : Sig := ⟨impl_RowText.A, impl_RowText.R, impl_RowText k⟩
noncomputable def impl_RowText.C (k : Nat) : Ctx := ⟨Tryz.prog, [(35, [impl_PartsOk.sg k]), (36, [impl_orNone_impl_Part.sg k])], k⟩
theorem impl_RowText.ev (k : Nat) (x : impl_RowText.A.T) : evFunc (impl_RowText.C k) impl_RowText.ann Tryz.f16 impl_RowText.A impl_RowText.R x = impl_RowText k x := by kernel_rfl
theorem impl_RowText.ok {L : List (Nat × Obj)} (hFmt : Lb.NeedFmt L) (hSp : Lb.NeedSp L) (k : Nat) : SigHolds Tryz.prog L 16 (impl_RowText.sg k) :=
  sig_of_ev (C := impl_RowText.C k) (holds_cons (allok_cons (impl_PartsOk.ok hSp k) allok_nil) (holds_cons (allok_cons (impl_orNone_impl_Part.ok hFmt k) allok_nil) holds_nil)) (by kernel_rfl) Tryz.func16 (by kernel_rfl) impl_RowText.ann impl_RowText.A impl_RowText.R (fun x y h => (impl_RowText.ev k x).trans h) (by kernel_rfl)

/-! loop.example/g00719/laws.eqEntry -/
def laws_eqEntry.A : Sh := (.cons (.pur (.cons (.int .i64) (.cons (.int .i64) .nil))) (.cons (.pur (.cons (.int .i64) (.cons (.int .i64) .nil))) .nil))
def laws_eqEntry.R : Sh := (.cons (.pur .bool) .nil)
def laws_eqEntry.ann : Ann := { loops := [], joins := [], keys := [] }
noncomputable def laws_eqEntry (k : Nat) : ((Int × Int × Unit) × (Int × Int × Unit) × Unit) → Option ((Bool × Unit) × (Unit × Unit × Unit)) := fun x => match x with
 | (a, b_, ()) =>
  br k (a.1 != b_.1)
  (some ((false, ()), ((), (), ())))
  (br k (a.2.1 != b_.2.1)
  (some ((false, ()), ((), (), ())))
  (some ((true, ()), ((), (), ()))))
noncomputable def laws_eqEntry.sg (k : Nat) : Sig := ⟨laws_eqEntry.A, laws_eqEntry.R, laws_eqEntry k⟩
noncomputable def laws_eqEntry.C (k : Nat) : Ctx := ⟨Tryz.prog, [], k⟩
theorem laws_eqEntry.ev (k : Nat) (x : laws_eqEntry.A.T) : evFunc (laws_eqEntry.C k) laws_eqEntry.ann Tryz.f108 laws_eqEntry.A laws_eqEntry.R x = laws_eqEntry k x := by kernel_rfl
theorem laws_eqEntry.ok {L : List (Nat × Obj)}  (k : Nat) : SigHolds Tryz.prog L 108 (laws_eqEntry.sg k) :=
  sig_of_ev (C := laws_eqEntry.C k) holds_nil (by kernel_rfl) Tryz.func108 (by kernel_rfl) laws_eqEntry.ann laws_eqEntry.A laws_eqEntry.R (fun x y h => (laws_eqEntry.ev k x).trans h) (by kernel_rfl)

/-! loop.example/g00719/laws.eqEntryS -/
def laws_eqEntryS.A : Sh := (.cons (.pur (.sl false (.cons (.int .i64) (.cons (.int .i64) .nil)))) (.cons (.pur (.sl false (.cons (.int .i64) (.cons (.int .i64) .nil)))) .nil))
def laws_eqEntryS.R : Sh := (.cons (.pur .bool) .nil)
def laws_eqEntryS.ann : Ann := { loops := [(0, [(0, (.pur (.sl false (.cons (.int .i64) (.cons (.int .i64) .nil))))), (1, (.pur (.sl false (.cons (.int .i64) (.cons (.int .i64) .nil))))), (5, (.pur (.int .i64)))])], joins := [], keys := [] }
noncomputable def laws_eqEntryS.l0 (k : Nat)  (G0 : ((List (Int × Int × Unit)) × (List (Int × Int × Unit)) × Int × Unit) → Option ((Bool × Unit) × (Unit × Unit × Unit))) : ((List (Int × Int × Unit)) × (List (Int × Int × Unit)) × Int × Unit) → Option ((Bool × Unit) × (Unit × Unit × Unit)) := fun x => match x with
 | (a, b_, i, ()) =>
  br k (decide (i < (a.length : Int)))
  (br k (decide (0 ≤ i))
  (bd k (a[i.toNat]?) fun x1 =>
  br k (decide (0 ≤ i))
  (bd k (b_[i.toNat]?) fun x2 =>
  bd k (laws_eqEntry k (x1, x2, ())) fun y3 =>
  br k (!y3.1.1)
  (some ((false, ()), ((), (), ())))
  (G0 (a, b_, IntKind.wrap .i64 (i + 1), ())))
  none)
  none)
  (some ((true, ()), ((), (), ())))
noncomputable def laws_eqEntryS (k : Nat) : ((List (Int × Int × Unit)) × (List (Int × Int × Unit)) × Unit) → Option ((Bool × Unit) × (Unit × Unit × Unit)) := fun x => match x with
 | (a, b_, ()) =>
  br k ((a.length : Int) != (b_.length : Int))
  (some ((false, ()), ((), (), ())))
  (iter (laws_eqEntryS.l0 k) k (a, b_, 0, ()))
noncomputable def laws_eqEntryS.sg (k : Nat) : Sig := ⟨laws_eqEntryS.A, laws_eqEntryS.R, laws_eqEntryS k⟩
noncomputable def laws_eqEntryS.C (k : Nat) : Ctx := ⟨Tryz.prog, [(108, [laws_eqEntry.sg k])], k⟩
theorem laws_eqEntryS.ev (k : Nat) (x : laws_eqEntryS.A.T) : evFunc (laws_eqEntryS.C k) laws_eqEntryS.ann Tryz.f70 laws_eqEntryS.A laws_eqEntryS.R x = laws_eqEntryS k x := by kernel_rfl
theorem laws_eqEntryS.ok {L : List (Nat × Obj)}  (k : Nat) : SigHolds Tryz.prog L 70 (laws_eqEntryS.sg k) :=
  sig_of_ev (C := laws_eqEntryS.C k) (holds_cons (allok_cons (laws_eqEntry.ok k) allok_nil) holds_nil) (by kernel_rfl) Tryz.func70 (by kernel_rfl) laws_eqEntryS.ann laws_eqEntryS.A laws_eqEntryS.R (fun x y h => (laws_eqEntryS.ev k x).trans h) (by kernel_rfl)

/-! loop.example/g00719/laws.eqEnvS -/
def laws_eqEnvS.A : Sh := (.cons (.pur (.sl false (.cons .bool (.cons (.sl false (.cons (.int .i64) (.cons (.int .i64) .nil))) (.cons (.sl false (.cons (.int .i64) (.cons (.int .i64) .nil))) .nil))))) (.cons (.pur (.sl false (.cons .bool (.cons (.sl false (.cons (.int .i64) (.cons (.int .i64) .nil))) (.cons (.sl false (.cons (.int .i64) (.cons (.int .i64) .nil))) .nil))))) .nil))
def laws_eqEnvS.R : Sh := (.cons (.pur .bool) .nil)
def laws_eqEnvS.ann : Ann := { loops := [(0, [(0, (.pur (.sl false (.cons .bool (.cons (.sl false (.cons (.int .i64) (.cons (.int .i64) .nil))) (.cons (.sl false (.cons (.int .i64) (.cons (.int .i64) .nil))) .nil)))))), (1, (.pur (.sl false (.cons .bool (.cons (.sl false (.cons (.int .i64) (.cons (.int .i64) .nil))) (.cons (.sl false (.cons (.int .i64) (.cons (.int .i64) .nil))) .nil)))))), (5, (.pur (.int .i64)))])], joins := [], keys := [] }
noncomputable def laws_eqEnvS.l0 (k : Nat)  (G0 : ((List (Bool × (List (Int × Int × Unit)) × (List (Int × Int × Unit)) × Unit)) × (List (Bool × (List (Int × Int × Unit)) × (List (Int × Int × Unit)) × Unit)) × Int × Unit) → Option ((Bool × Unit) × (Unit × Unit × Unit))) : ((List (Bool × (List (Int × Int × Unit)) × (List (Int × Int × Unit)) × Unit)) × (List (Bool × (List (Int × Int × Unit)) × (List (Int × Int × Unit)) × Unit)) × Int × Unit) → Option ((Bool × Unit) × (Unit × Unit × Unit)) := fun x => match x with
 | (a, b_, i, ()) =>
  br k (decide (i < (a.length : Int)))
  (br k (decide (0 ≤ i))
  (bd k (a[i.toNat]?) fun x1 =>
  br k (decide (0 ≤ i))
  (bd k (b_[i.toNat]?) fun x2 =>
  bd k (laws_eqEnv k (x1, x2, ())) fun y3 =>
  br k (!y3.1.1)
  (some ((false, ()), ((), (), ())))
  (G0 (a, b_, IntKind.wrap .i64 (i + 1), ())))
  none)
  none)
  (some ((true, ()), ((), (), ())))
noncomputable def laws_eqEnvS (k : Nat) : ((List (Bool × (List (Int × Int × Unit)) × (List (Int × Int × Unit)) × Unit)) × (List (Bool × (List (Int × Int × Unit)) × (List (Int × Int × Unit)) × Unit)) × Unit) → Option ((Bool × Unit) × (Unit × Unit × Unit)) := fun x => match x with
 | (a, b_, ()) =>
  br k ((a.length : Int) != (b_.length : Int))
  (some ((false, ()), ((), (), ())))
  (iter (laws_eqEnvS.l0 k) k (a, b_, 0, ()))
noncomputable def laws_eqEnvS.sg (k : Nat) : Sig := ⟨laws_eqEnvS.A, laws_eqEnvS.R, laws_eqEnvS k⟩
noncomputable def laws_eqEnvS.C (k : Nat) : Ctx := ⟨Tryz.prog, [(86, [laws_eqEnv.sg k])], k⟩
theorem laws_eqEnvS.ev (k : Nat) (x : laws_eqEnvS.A.T) : evFunc (laws_eqEnvS.C k) laws_eqEnvS.ann Tryz.f71 laws_eqEnvS.A laws_eqEnvS.R x = laws_eqEnvS k x := by kernel_rfl
theorem laws_eqEnvS.ok {L : List (Nat × Obj)}  (k : Nat) : SigHolds Tryz.prog L 71 (laws_eqEnvS.sg k) :=
  sig_of_ev (C := laws_eqEnvS.C k) (holds_cons (allok_cons (laws_eqEnv.ok k) allok_nil) holds_nil) (by kernel_rfl) Tryz.func71 (by kernel_rfl) laws_eqEnvS.ann laws_eqEnvS.A laws_eqEnvS.R (fun x y h => (laws_eqEnvS.ev k x).trans h) (by kernel_rfl)

/-! loop.example/g00719/laws.eqPart -/
def laws_eqPart.A : Sh := (.cons (.pur (.cons (.sl false (.cons (.int .i64) (.cons (.int .i64) .nil))) (.cons (.sl false (.cons .bool (.cons (.sl false (.cons (.int .i64) (.cons (.int .i64) .nil))) (.cons (.sl false (.cons (.int .i64) (.cons (.int .i64) .nil))) .nil)))) .nil))) (.cons (.pur (.cons (.sl false (.cons (.int .i64) (.cons (.int .i64) .nil))) (.cons (.sl false (.cons .bool (.cons (.sl false (.cons (.int .i64) (.cons (.int .i64) .nil))) (.cons (.sl false (.cons (.int .i64) (.cons (.int .i64) .nil))) .nil)))) .nil))) .nil))
def laws_eqPart.R : Sh := (.cons (.pur .bool) .nil)
def laws_eqPart.ann : Ann := { loops := [], joins := [], keys := [] }
noncomputable def laws_eqPart (k : Nat) : (((List (Int × Int × Unit)) × (List (Bool × (List (Int × Int × Unit)) × (List (Int × Int × Unit)) × Unit)) × Unit) × ((List (Int × Int × Unit)) × (List (Bool × (List (Int × Int × Unit)) × (List (Int × Int × Unit)) × Unit)) × Unit) × Unit) → Option ((Bool × Unit) × (Unit × Unit × Unit)) := fun x => match x with
 | (a, b_, ()) =>
  bd k (laws_eqEntryS k (a.1, b_.1, ())) fun y1 =>
  br k (!y1.1.1)
  (some ((false, ()), ((), (), ())))
  (bd k (laws_eqEnvS k (a.2.1, b_.2.1, ())) fun y2 =>
  br k (!y2.1.1)
  (some ((false, ()), ((), (), ())))
  (some ((true, ()), ((), (), ()))))
noncomputable def laws_eqPart.sg (k : Nat) : Sig := ⟨laws_eqPart.A, laws_eqPart.R, laws_eqPart k⟩
noncomputable def laws_eqPart.C (k : Nat) : Ctx := ⟨Tryz.prog, [(70, [laws_eqEntryS.sg k]), (71, [laws_eqEnvS.sg k])], k⟩
theorem laws_eqPart.ev (k : Nat) (x : laws_eqPart.A.T) : evFunc (laws_eqPart.C k) laws_eqPart.ann Tryz.f40 laws_eqPart.A laws_eqPart.R x = laws_eqPart k x := by kernel_rfl
theorem laws_eqPart.ok {L : List (Nat × Obj)}  (k : Nat) : SigHolds Tryz.prog L 40 (laws_eqPart.sg k) :=
  sig_of_ev (C := laws_eqPart.C k) (holds_cons (allok_cons (laws_eqEntryS.ok k) allok_nil) (holds_cons (allok_cons (laws_eqEnvS.ok k) allok_nil) holds_nil)) (by kernel_rfl) Tryz.func40 (by kernel_rfl) laws_eqPart.ann laws_eqPart.A laws_eqPart.R (fun x y h => (laws_eqPart.ev k x).trans h) (by kernel_rfl)

/-! loop.example/g00719/laws.eqPartS -/
def laws_eqPartS.A : Sh := (.cons (.pur (.sl false (.cons (.sl false (.cons (.int .i64) (.cons (.int .i64) .nil))) (.cons (.sl false (.cons .bool (.cons (.sl false (.cons (.int .i64) (.cons (.int .i64) .nil))) (.cons (.sl false (.cons (.int .i64) (.cons (.int .i64) .nil))) .nil)))) .nil)))) (.cons (.pur (.sl false (.cons (.sl false (.cons (.int .i64) (.cons (.int .i64) .nil))) (.cons (.sl false (.cons .bool (.cons (.sl false (.cons (.int .i64) (.cons (.int .i64) .nil))) (.cons (.sl false (.cons (.int .i64) (.cons (.int .i64) .nil))) .nil)))) .nil)))) .nil))
def laws_eqPartS.R : Sh := (.cons (.pur .bool) .nil)
def laws_eqPartS.ann : Ann := { loops := [(0, [(0, (.pur (.sl false (.cons (.sl false (.cons (.int .i64) (.cons (.int .i64) .nil))) (.cons (.sl false (.cons .bool (.cons (.sl false (.cons (.int .i64) (.cons (.int .i64) .nil))) (.cons (.sl false (.cons (.int .i64) (.cons (.int .i64) .nil))) .nil)))) .nil))))), (1, (.pur (.sl false (.cons (.sl false (.cons (.int .i64) (.cons (.int .i64) .nil))) (.cons (.sl false (.cons .bool (.cons (.sl false (.cons (.int .i64) (.cons (.int .i64) .nil))) (.cons (.sl false (.cons (.int .i64) (.cons (.int .i64) .nil))) .nil)))) .nil))))), (5, (.pur (.int .i64)))])], joins := [], keys := [] }
noncomputable def laws_eqPartS.l0 (k : Nat)  (G0 : ((List ((List (Int × Int × Unit)) × (List (Bool × (List (Int × Int × Unit)) × (List (Int × Int × Unit)) × Unit)) × Unit)) × (List ((List (Int × Int × Unit)) × (List (Bool × (List (Int × Int × Unit)) × (List (Int × Int × Unit)) × Unit)) × Unit)) × Int × Unit) → Option ((Bool × Unit) × (Unit × Unit × Unit))) : ((List ((List (Int × Int × Unit)) × (List (Bool × (List (Int × Int × Unit)) × (List (Int × Int × Unit)) × Unit)) × Unit)) × (List ((List (Int × Int × Unit)) × (List (Bool × (List (Int × Int × Unit)) × (List (Int × Int × Unit)) × Unit)) × Unit)) × Int × Unit) → Option ((Bool × Unit) × (Unit × Unit × Unit)) := fun x => match x with
 | (a, b_, i, ()) =>
  br k (decide (i < (a.length : Int)))
  (br k (decide (0 ≤ i))
  (bd k (a[i.toNat]?) fun x1 =>
  br k (decide (0 ≤ i))
  (bd k (b_[i.toNat]?) fun x2 =>
  bd k (laws_eqPart k (x1, x2, ())) fun y3 =>
  br k (!y3.1.1)
  (some ((false, ()), ((), (), ())))
  (G0 (a, b_, IntKind.wrap .i64 (i + 1), ())))
  none)
  none)
  (some ((true, ()), ((), (), ())))
noncomputable def laws_eqPartS (k : Nat) : ((List ((List (Int × Int × Unit)) × (List (Bool × (List (Int × Int × Unit)) × (List (Int × Int × Unit)) × Unit)) × Unit)) × (List ((List (Int × Int × Unit)) × (List (Bool × (List (Int × Int × Unit)) × (List (Int × Int × Unit)) × Unit)) × Unit)) × Unit) → Option ((Bool × Unit) × (Unit × Unit × Unit)) := fun x => match x with
 | (a, b_, ()) =>
  br k ((a.length : Int) != (b_.length : Int))
  (some ((false, ()), ((), (), ())))
  (iter (laws_eqPartS.l0 k) k (a, b_, 0, ()))
noncomputable def laws_eqPartS.sg (k : Nat) : Sig := ⟨laws_eqPartS.A, laws_eqPartS.R, laws_eqPartS k⟩
noncomputable def laws_eqPartS.C (k : Nat) : Ctx := ⟨Tryz.prog, [(40, [laws_eqPart.sg k])], k⟩
theorem laws_eqPartS.ev (k : Nat) (x : laws_eqPartS.A.T) : evFunc (laws_eqPartS.C k) laws_eqPartS.ann Tryz.f17 laws_eqPartS.A laws_eqPartS.R x = laws_eqPartS k x := by kernel_rfl
theorem laws_eqPartS.ok {L : List (Nat × Obj)}  (k : Nat) : SigHolds Tryz.prog L 17 (laws_eqPartS.sg k) :=
  sig_of_ev (C := laws_eqPartS.C k) (holds_cons (allok_cons (laws_eqPart.ok k) allok_nil) holds_nil) (by kernel_rfl) Tryz.func17 (by kernel_rfl) laws_eqPartS.ann laws_eqPartS.A laws_eqPartS.R (fun x y h => (laws_eqPartS.ev k x).trans h) (by kernel_rfl)

/-! loop.example/g00719/laws.FnExactRowText -/
def laws_FnExactRowText.A : Sh := (.cons (.pur (.cons (.sl false .str) (.cons (.sl false .str) (.cons (.sl false (.cons .str (.cons (.int .i64) .nil))) .nil)))) (.cons (.pur (.sl false (.cons (.sl false (.cons (.int .i64) (.cons (.int .i64) .nil))) (.cons (.sl false (.cons .bool (.cons (.sl false (.cons (.int .i64) (.cons (.int .i64) .nil))) (.cons (.sl false (.cons (.int .i64) (.cons (.int .i64) .nil))) .nil)))) .nil)))) .nil))
def laws_FnExactRowText.R : Sh := (.cons (.pur .bool) .nil)
def laws_FnExactRowText.ann : Ann := { loops := [], joins := [], keys := [(14, [([7, 26], false), ([2], false), ([37], true), ([26, 37], false), ([], false)])] }
noncomputable def laws_FnExactRowText (k : Nat) : (((List (List UInt8)) × (List (List UInt8)) × (List ((List UInt8) × Int × Unit)) × Unit) × (List ((List (Int × Int × Unit)) × (List (Bool × (List (Int × Int × Unit)) × (List (Int × Int × Unit)) × Unit)) × Unit)) × Unit) → Option ((Bool × Unit) × (Unit × Unit × Unit)) := fun x => match x with
 | (aD, aL, ()) =>
  bd k (laws_szDecl k (aD, 1048576, ())) fun y1 =>
  br k (decide (y1.1.1 < 0))
  (some ((true, ()), ((), (), ())))
  (bd k (laws_szPartS k (aL, y1.1.1, ())) fun y2 =>
  br k (decide (y2.1.1 < 0))
  (some ((true, ()), ((), (), ())))
  (bd k (laws_toDecl k (aD, ())) fun y3 =>
  bd k (laws_toPartS k (aL, ())) fun y4 =>
  bd k (spec_RowText k ((y3.1.1.1, y3.1.1.2.1, y3.1.1.2.2.1, ()), y4.1.1, ())) fun y5 =>
  bd k (laws_toDecl k (aD, ())) fun y6 =>
  bd k (laws_toPartS k (aL, ())) fun y7 =>
  bd k (impl_RowText k ((y6.1.1.1, y6.1.1.2.1, y6.1.1.2.2.1, ()), y7.1.1, ())) fun y8 =>
  br k (!(y8.1.1 == y5.1.1))
  (some ((false, ()), ((), (), ())))
  (bd k (laws_toDecl k (aD, ())) fun y9 =>
  bd k (laws_eqDecl k ((y6.1.1.1, y6.1.1.2.1, y6.1.1.2.2.1, ()), (y9.1.1.1, y9.1.1.2.1, y9.1.1.2.2.1, ()), ())) fun y10 =>
  br k (!y10.1.1)
  (some ((false, ()), ((), (), ())))
  (bd k (laws_toPartS k (aL, ())) fun y11 =>
  bd k (laws_eqPartS k (y7.1.1, y11.1.1, ())) fun y12 =>
  br k (!y12.1.1)
  (some ((false, ()), ((), (), ())))
  (some ((true, ()), ((), (), ())))))))
noncomputable def laws_FnExactRowText.sg (k : Nat) : Sig := ⟨laws_FnExactRowText.A, laws_FnExactRowText.R, laws_FnExactRowText k⟩
noncomputable def laws_FnExactRowText.C (k : Nat) : Ctx := ⟨Tryz.prog, [(5, [laws_szDecl.sg k]), (13, [laws_szPartS.sg k]), (8, [laws_toDecl.sg k]), (15, [laws_toPartS.sg k]), (14, [spec_RowText.sg k]), (16, [impl_RowText.sg k]), (11, [laws_eqDecl.sg k]), (17, [laws_eqPartS.sg k])], k⟩
theorem laws_FnExactRowText.ev (k : Nat) (x : laws_FnExactRowText.A.T) : evFunc (laws_FnExactRowText.C k) laws_FnExactRowText.ann Tryz.f4 laws_FnExactRowText.A laws_FnExactRowText.R x = laws_FnExactRowText k x := by kernel_rfl
theorem laws_FnExactRowText.ok {L : List (Nat × Obj)} (hFmt : Lb.NeedFmt L) (hSp : Lb.NeedSp L) (k : Nat) : SigHolds Tryz.prog L 4 (laws_FnExactRowText.sg k) :=
  sig_of_ev (C := laws_FnExactRowText.C k) (holds_cons (allok_cons (laws_szDecl.ok k) allok_nil) (holds_cons (allok_cons (laws_szPartS.ok k) allok_nil) (holds_cons (allok_cons (laws_toDecl.ok k) allok_nil) (holds_cons (allok_cons (laws_toPartS.ok k) allok_nil) (holds_cons (allok_cons (spec_RowText.ok k) allok_nil) (holds_cons (allok_cons (impl_RowText.ok hFmt hSp k) allok_nil) (holds_cons (allok_cons (laws_eqDecl.ok k) allok_nil) (holds_cons (allok_cons (laws_eqPartS.ok k) allok_nil) holds_nil)))))))) (by kernel_rfl) Tryz.func4 (by kernel_rfl) laws_FnExactRowText.ann laws_FnExactRowText.A laws_FnExactRowText.R (fun x y h => (laws_FnExactRowText.ev k x).trans h) (by kernel_rfl)

end Go.Pev.F
