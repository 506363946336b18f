/-
  Printed by gen.py: what functions of the program compute, and that they do.
-/
import Derived.Test.YtcpeneclncpgaaaGreatDoorK06
set_option linter.unusedSimpArgs false
set_option linter.unusedVariables false
open Go.Proofs Go.Pev
namespace Go.Pev.F
set_option maxRecDepth 100000
set_option linter.unusedVariables false
def impl_Decl_isLine.A : Sh := (.cons QS6 (.cons (.pur QK9) .nil))
def impl_Decl_isLine.R : Sh := QS19
def impl_Decl_isLine.ann : Ann := { loops := [], joins := [(2, [(32, .bool)]), (18, [(85, .bool)]), (19, [(7, .bool)]), (21, [(4, .bool)])], keys := [(11, [([3], false), ([3], false), ([2], false), ([2], false), ([], false), ([], false), ([], false), ([], false), ([6], false), ([6], true)]), (13, [([3], false), ([3], false), ([2], false), ([2], false), ([], false), ([], false), ([], false), ([], false), ([6], false), ([6], true)]), (15, [([3], false), ([3], false), ([2], false), ([2], false), ([], false), ([], false), ([], false), ([], false), ([6], false), ([6], true), ([6], false), ([6], true)])], heads := [(7, [(2, QS24), (3, QS14), (6, QS14), (7, (.pur .bool))]), (11, [(2, QS24), (3, QS14), (6, QS14)]), (12, [(2, QS24), (3, QS14), (6, QS14), (7, (.pur .bool)), (38, (.pur (.int .i64)))])] }
noncomputable def impl_Decl_isLine.h11 (k : Nat)  : (QT2 × QT0 × QT0 × Unit) → Option QT22 := fun x => match x with
 | ((d__0, d__1, d__2, ()), (n_0, n_1, n_2, n_3, n_4, n_5, ()), (rest__0, rest__1, rest__2, rest__3, rest__4, rest__5, ()), ()) =>
  bd k (impl_size_string k (d__0, ())) fun y6 =>
  bd k (impl_within k (n_1, 0, IntKind.wrap .i64 (y6.1.1 - 1), ())) fun y7 =>
  (br k (n_0 == 4)
  (some (true, ()))
  (some (n_0 == 13, ())) : Option (Bool × Unit)).bind fun j8 =>
  br k (j8.1)
  ((br k (y7.1.1)
  (bd k (impl_Line_areEnds k ((n_0, n_1, n_2, n_3, n_4, n_5, ()), ())) fun y9 =>
  br k (y9.1.1)
  (br k (n_0 == 4)
  (some (true, ()))
  (some (decide ((IntKind.wrap .i64 (n_5 - n_4)) ≤ 3), ())))
  (some (false, ())))
  (some (false, ())) : Option (Bool × Unit)).bind fun j10 =>
  (br k (j10.1)
  (bd k (impl_within k (n_0, 1, 14, ())) fun y11 =>
  br k (y11.1.1)
  (bd k (impl_Line_isPlain k ((rest__0, 0, rest__2, rest__3, 0, 0, ()), ())) fun y12 =>
  some (y12.1.1, ()))
  (some (false, ())))
  (some (false, ())) : Option (Bool × Unit)).bind fun j13 =>
  some ((j13.1, ()), ((), (), ())))
  ((br k (y7.1.1)
  (bd k (impl_within k (n_0, 1, 14, ())) fun y14 =>
  br k (y14.1.1)
  (bd k (impl_Line_isPlain k ((rest__0, 0, rest__2, rest__3, rest__4, rest__5, ()), ())) fun y15 =>
  some (y15.1.1, ()))
  (some (false, ())))
  (some (false, ())) : Option (Bool × Unit)).bind fun j16 =>
  some ((j16.1, ()), ((), (), ())))
noncomputable def impl_Decl_isLine.h12 (k : Nat)  : (QT2 × QT0 × QT0 × Bool × Int × Unit) → Option QT22 := fun x => match x with
 | ((d__0, d__1, d__2, ()), (n_0, n_1, n_2, n_3, n_4, n_5, ()), (rest__0, rest__1, rest__2, rest__3, rest__4, rest__5, ()), isRight, t38, ()) =>
  br k (t38 == 2)
  (bd k (impl_size_string k (d__1, ())) fun y17 =>
  bd k (impl_within k (n_1, 0, IntKind.wrap .i64 (y17.1.1 - 1), ())) fun y18 =>
  (br k (n_0 == 4)
  (some (true, ()))
  (some (n_0 == 13, ())) : Option (Bool × Unit)).bind fun j19 =>
  br k (j19.1)
  ((br k (y18.1.1)
  (bd k (impl_Line_areEnds k ((n_0, n_1, n_2, n_3, n_4, n_5, ()), ())) fun y20 =>
  br k (y20.1.1)
  (br k (n_0 == 4)
  (some (true, ()))
  (some (decide ((IntKind.wrap .i64 (n_5 - n_4)) ≤ 3), ())))
  (some (false, ())))
  (some (false, ())) : Option (Bool × Unit)).bind fun j21 =>
  (br k (j21.1)
  (bd k (impl_within k (n_0, 1, 14, ())) fun y22 =>
  br k (y22.1.1)
  (bd k (impl_Line_isPlain k ((rest__0, 0, rest__2, rest__3, 0, 0, ()), ())) fun y23 =>
  some (y23.1.1, ()))
  (some (false, ())))
  (some (false, ())) : Option (Bool × Unit)).bind fun j24 =>
  some ((j24.1, ()), ((), (), ())))
  ((br k (y18.1.1)
  (bd k (impl_within k (n_0, 1, 14, ())) fun y25 =>
  br k (y25.1.1)
  (bd k (impl_Line_isPlain k ((rest__0, 0, rest__2, rest__3, rest__4, rest__5, ()), ())) fun y26 =>
  some (y26.1.1, ()))
  (some (false, ())))
  (some (false, ())) : Option (Bool × Unit)).bind fun j27 =>
  some ((j27.1, ()), ((), (), ()))))
  (br k (t38 == 3)
  (bd k (impl_size_impl_Arr k (d__2, ())) fun y28 =>
  bd k (impl_within k (n_1, 0, IntKind.wrap .i64 (y28.1.1 - 1), ())) fun y29 =>
  (br k (n_0 == 4)
  (some (true, ()))
  (some (n_0 == 13, ())) : Option (Bool × Unit)).bind fun j30 =>
  br k (j30.1)
  ((br k (y29.1.1)
  (bd k (impl_Line_areEnds k ((n_0, n_1, n_2, n_3, n_4, n_5, ()), ())) fun y31 =>
  br k (y31.1.1)
  (br k (n_0 == 4)
  (some (true, ()))
  (some (decide ((IntKind.wrap .i64 (n_5 - n_4)) ≤ 3), ())))
  (some (false, ())))
  (some (false, ())) : Option (Bool × Unit)).bind fun j32 =>
  (br k (j32.1)
  (bd k (impl_within k (n_0, 1, 14, ())) fun y33 =>
  br k (y33.1.1)
  (bd k (impl_Line_isPlain k ((rest__0, 0, [], rest__3, 0, 0, ()), ())) fun y34 =>
  some (y34.1.1, ()))
  (some (false, ())))
  (some (false, ())) : Option (Bool × Unit)).bind fun j35 =>
  some ((j35.1, ()), ((), (), ())))
  ((br k (y29.1.1)
  (bd k (impl_within k (n_0, 1, 14, ())) fun y36 =>
  br k (y36.1.1)
  (bd k (impl_Line_isPlain k ((rest__0, 0, [], rest__3, rest__4, rest__5, ()), ())) fun y37 =>
  some (y37.1.1, ()))
  (some (false, ())))
  (some (false, ())) : Option (Bool × Unit)).bind fun j38 =>
  some ((j38.1, ()), ((), (), ()))))
  (br k (t38 == 10)
  (bd k (impl_within k (n_4, 1, 3, ())) fun y39 =>
  (br k (n_0 == 4)
  (some (true, ()))
  (some (n_0 == 13, ())) : Option (Bool × Unit)).bind fun j40 =>
  br k (j40.1)
  ((br k (y39.1.1)
  (bd k (impl_Line_areEnds k ((n_0, n_1, n_2, n_3, n_4, n_5, ()), ())) fun y41 =>
  br k (y41.1.1)
  (br k (n_0 == 4)
  (some (true, ()))
  (some (decide ((IntKind.wrap .i64 (n_5 - n_4)) ≤ 3), ())))
  (some (false, ())))
  (some (false, ())) : Option (Bool × Unit)).bind fun j42 =>
  (br k (j42.1)
  (bd k (impl_within k (n_0, 1, 14, ())) fun y43 =>
  br k (y43.1.1)
  (bd k (impl_Line_isPlain k ((rest__0, rest__1, rest__2, rest__3, 0, 0, ()), ())) fun y44 =>
  some (y44.1.1, ()))
  (some (false, ())))
  (some (false, ())) : Option (Bool × Unit)).bind fun j45 =>
  some ((j45.1, ()), ((), (), ())))
  ((br k (y39.1.1)
  (bd k (impl_within k (n_0, 1, 14, ())) fun y46 =>
  br k (y46.1.1)
  (bd k (impl_Line_isPlain k ((rest__0, rest__1, rest__2, rest__3, 0, rest__5, ()), ())) fun y47 =>
  some (y47.1.1, ()))
  (some (false, ())))
  (some (false, ())) : Option (Bool × Unit)).bind fun j48 =>
  some ((j48.1, ()), ((), (), ()))))
  ((br k (n_0 == 4)
  (some (true, ()))
  (some (n_0 == 13, ())) : Option (Bool × Unit)).bind fun j49 =>
  br k (j49.1)
  ((br k (isRight)
  (bd k (impl_Line_areEnds k ((n_0, n_1, n_2, n_3, n_4, n_5, ()), ())) fun y50 =>
  br k (y50.1.1)
  (br k (n_0 == 4)
  (some (true, ()))
  (some (decide ((IntKind.wrap .i64 (n_5 - n_4)) ≤ 3), ())))
  (some (false, ())))
  (some (false, ())) : Option (Bool × Unit)).bind fun j51 =>
  (br k (j51.1)
  (bd k (impl_within k (n_0, 1, 14, ())) fun y52 =>
  br k (y52.1.1)
  (bd k (impl_Line_isPlain k ((rest__0, rest__1, rest__2, rest__3, 0, 0, ()), ())) fun y53 =>
  some (y53.1.1, ()))
  (some (false, ())))
  (some (false, ())) : Option (Bool × Unit)).bind fun j54 =>
  some ((j54.1, ()), ((), (), ())))
  ((br k (isRight)
  (bd k (impl_within k (n_0, 1, 14, ())) fun y55 =>
  br k (y55.1.1)
  (bd k (impl_Line_isPlain k ((rest__0, rest__1, rest__2, rest__3, rest__4, rest__5, ()), ())) fun y56 =>
  some (y56.1.1, ()))
  (some (false, ())))
  (some (false, ())) : Option (Bool × Unit)).bind fun j57 =>
  some ((j57.1, ()), ((), (), ()))))))
noncomputable def impl_Decl_isLine.h7 (k : Nat)  : (QT2 × QT0 × QT0 × Bool × Unit) → Option QT22 := fun x => match x with
 | ((d__0, d__1, d__2, ()), (n_0, n_1, n_2, n_3, n_4, n_5, ()), (rest__0, rest__1, rest__2, rest__3, rest__4, rest__5, ()), isRight, ()) =>
  br k (n_0 == 1)
  (br k (n_0 == 1)
  (jn k (impl_Decl_isLine.h11 k) ((d__0, d__1, d__2, ()), (n_0, n_1, n_2, n_3, n_4, n_5, ()), (rest__0, rest__1, rest__2, rest__3, rest__4, rest__5, ()), ()))
  (jn k (impl_Decl_isLine.h12 k) ((d__0, d__1, d__2, ()), (n_0, n_1, n_2, n_3, n_4, n_5, ()), (rest__0, rest__1, rest__2, rest__3, rest__4, rest__5, ()), isRight, n_0, ())))
  (br k (n_0 == 4)
  (br k (n_0 == 4)
  (jn k (impl_Decl_isLine.h11 k) ((d__0, d__1, d__2, ()), (n_0, n_1, n_2, n_3, n_4, n_5, ()), (rest__0, rest__1, rest__2, rest__3, rest__4, rest__5, ()), ()))
  (jn k (impl_Decl_isLine.h12 k) ((d__0, d__1, d__2, ()), (n_0, n_1, n_2, n_3, n_4, n_5, ()), (rest__0, rest__1, rest__2, rest__3, rest__4, rest__5, ()), isRight, n_0, ())))
  (br k (n_0 == 13)
  (jn k (impl_Decl_isLine.h11 k) ((d__0, d__1, d__2, ()), (n_0, n_1, n_2, n_3, n_4, n_5, ()), (rest__0, rest__1, rest__2, rest__3, rest__4, rest__5, ()), ()))
  (jn k (impl_Decl_isLine.h12 k) ((d__0, d__1, d__2, ()), (n_0, n_1, n_2, n_3, n_4, n_5, ()), (rest__0, rest__1, rest__2, rest__3, rest__4, rest__5, ()), isRight, n_0, ()))))
noncomputable def impl_Decl_isLine (k : Nat) : (QT2 × QT0 × Unit) → Option QT22 := fun x => match x with
 | (d_, n, ()) =>
  bd k (impl_kindOfE k (n.1, ())) fun y1 =>
  (br k (decide (y1.1.1 > 0))
  (bd k (impl_Decl_kindOf k (d_, n.2.2.2.1, ())) fun y2 =>
  br k (y2.1.1 != y1.1.1)
  (some (true, ()))
  (br k (n.1 == 3)
  (bd k (impl_Decl_kindOf k (d_, n.2.2.1, ())) fun y3 =>
  some (y3.1.1 != 1, ()))
  (some (false, ()))))
  (br k (n.1 == 3)
  (bd k (impl_Decl_kindOf k (d_, n.2.2.1, ())) fun y4 =>
  some (y4.1.1 != 1, ()))
  (some (false, ()))) : Option (Bool × Unit)).bind fun j5 =>
  br k (j5.1)
  (some ((false, ()), ((), (), ())))
  (br k (decide (y1.1.1 > 0))
  (jn k (impl_Decl_isLine.h7 k) ((d_.1, d_.2.1, d_.2.2.1, ()), (n.1, n.2.1, n.2.2.1, n.2.2.2.1, n.2.2.2.2.1, n.2.2.2.2.2.1, ()), (n.1, n.2.1, n.2.2.1, [], n.2.2.2.2.1, n.2.2.2.2.2.1, ()), true, ()))
  (jn k (impl_Decl_isLine.h7 k) ((d_.1, d_.2.1, d_.2.2.1, ()), (n.1, n.2.1, n.2.2.1, n.2.2.2.1, n.2.2.2.2.1, n.2.2.2.2.2.1, ()), (n.1, n.2.1, n.2.2.1, n.2.2.2.1, n.2.2.2.2.1, n.2.2.2.2.2.1, ()), true, ())))
noncomputable def impl_Decl_isLine.sg (k : Nat) : Sig := ⟨impl_Decl_isLine.A, impl_Decl_isLine.R, impl_Decl_isLine k⟩
noncomputable def impl_Decl_isLine.C (k : Nat) : Ctx := ⟨Tryz.prog, [(63, [impl_kindOfE.sg k]), (87, [impl_Decl_kindOf.sg k]), (88, [impl_size_string.sg k]), (39, [impl_within.sg k]), (90, [impl_Line_areEnds.sg k]), (91, [impl_Line_isPlain.sg k]), (89, [impl_size_impl_Arr.sg k])], k, [], []⟩
theorem impl_Decl_isLine.ev (k : Nat) (x : impl_Decl_isLine.A.T) : evFunc (impl_Decl_isLine.C k) impl_Decl_isLine.ann Tryz.f61 impl_Decl_isLine.A impl_Decl_isLine.R x = impl_Decl_isLine k x := by kernel_rfl
theorem impl_Decl_isLine.ok {L : List (Nat × Obj)}  (k : Nat) : SigHolds Tryz.prog L 61 (impl_Decl_isLine.sg k) :=
  sig_of_ev (C := impl_Decl_isLine.C k) (holds_cons (allok_cons (impl_kindOfE.ok k) allok_nil) (holds_cons (allok_cons (impl_Decl_kindOf.ok k) allok_nil) (holds_cons (allok_cons (impl_size_string.ok k) allok_nil) (holds_cons (allok_cons (impl_within.ok k) allok_nil) (holds_cons (allok_cons (impl_Line_areEnds.ok k) allok_nil) (holds_cons (allok_cons (impl_Line_isPlain.ok k) allok_nil) (holds_cons (allok_cons (impl_size_impl_Arr.ok k) allok_nil) holds_nil))))))) (by kernel_rfl) Tryz.func61 (by kernel_rfl) _ _ _ (fun x y h => (impl_Decl_isLine.ev k x).trans h) (by kernel_rfl)
def impl_areAll_impl_Line_1.A : Sh := (.cons (.pur QK9) (.cons (.box (.cons (.fn (.func 61) 1 (.cons QS6 .nil)) .nil)) .nil))
def impl_areAll_impl_Line_1.R : Sh := QS19
def impl_areAll_impl_Line_1.ann : Ann := { loops := [], joins := [], keys := [] }
noncomputable def impl_areAll_impl_Line_1 (k : Nat) : (QT0 × ((QT2 × Unit) × Unit) × Unit) → Option ((Bool × Unit) × (Unit × ((QT2 × Unit) × Unit) × Unit)) := fun x => match x with
 | (x_, ((a1_0_0, ()), ()), ()) =>
  bd k (impl_Decl_isLine k (a1_0_0, x_, ())) fun y1 =>
  some ((!y1.1.1, ()), ((), ((a1_0_0, ()), ()), ()))
noncomputable def impl_areAll_impl_Line_1.sg (k : Nat) : Sig := ⟨impl_areAll_impl_Line_1.A, impl_areAll_impl_Line_1.R, impl_areAll_impl_Line_1 k⟩
noncomputable def impl_areAll_impl_Line_1.C (k : Nat) : Ctx := ⟨Tryz.prog, [(61, [impl_Decl_isLine.sg k])], k, [], []⟩
theorem impl_areAll_impl_Line_1.ev (k : Nat) (x : impl_areAll_impl_Line_1.A.T) : evFunc (impl_areAll_impl_Line_1.C k) impl_areAll_impl_Line_1.ann Tryz.f86 impl_areAll_impl_Line_1.A impl_areAll_impl_Line_1.R x = impl_areAll_impl_Line_1 k x := by kernel_rfl
theorem impl_areAll_impl_Line_1.ok {L : List (Nat × Obj)}  (k : Nat) : SigHolds Tryz.prog L 86 (impl_areAll_impl_Line_1.sg k) :=
  sig_of_ev (C := impl_areAll_impl_Line_1.C k) (holds_cons (allok_cons (impl_Decl_isLine.ok k) allok_nil) holds_nil) (by kernel_rfl) Tryz.func86 (by kernel_rfl) _ _ _ (fun x y h => (impl_areAll_impl_Line_1.ev k x).trans h) (by kernel_rfl)
def slices_IndexFunc_impl_Line_impl_Line.A : Sh := (.cons (.pur (.sl false QK9)) (.cons (.fn (.func 86) 0 (.cons (.box (.cons (.fn (.func 61) 1 (.cons QS6 .nil)) .nil)) .nil)) .nil))
def slices_IndexFunc_impl_Line_impl_Line.R : Sh := QS12
def slices_IndexFunc_impl_Line_impl_Line.ann : Ann := { loops := [(0, [(0, (.pur (.sl false QK9))), (1, (.fn (.func 86) 0 (.cons (.box (.cons (.fn (.func 61) 1 (.cons QS6 .nil)) .nil)) .nil))), (7, (.pur (.int .i64))), (8, (.pur (.int .i64)))])], joins := [], keys := [] }
noncomputable def slices_IndexFunc_impl_Line_impl_Line.l0 (k : Nat)  (G0 : ((List QT0) × QT33 × Int × Int × Unit) → Option QT44) : ((List QT0) × QT33 × Int × Int × Unit) → Option QT44 := fun x => match x with
 | (s_, (((f_0_0_0, ()), ()), ()), t7, t8, ()) =>
  br k (decide (t8 < t7))
  (br k (decide (0 ≤ t8))
  (bd k (s_[t8.toNat]?) fun x1 =>
  bd k (impl_areAll_impl_Line_1 k (x1, ((f_0_0_0, ()), ()), ())) fun y2 =>
  br k (y2.1.1)
  (some ((t8, ()), ((), (((y2.2.2.1.1.1, ()), ()), ()), ())))
  (G0 (s_, (((y2.2.2.1.1.1, ()), ()), ()), t7, IntKind.wrap .i64 (t8 + 1), ())))
  none)
  (some (((-1), ()), ((), (((f_0_0_0, ()), ()), ()), ())))
noncomputable def slices_IndexFunc_impl_Line_impl_Line (k : Nat) : ((List QT0) × QT33 × Unit) → Option QT44 := fun x => match x with
 | (s_, (((f_0_0_0, ()), ()), ()), ()) =>
  iter (slices_IndexFunc_impl_Line_impl_Line.l0 k) k (s_, (((f_0_0_0, ()), ()), ()), (s_.length : Int), 0, ())
noncomputable def slices_IndexFunc_impl_Line_impl_Line.sg (k : Nat) : Sig := ⟨slices_IndexFunc_impl_Line_impl_Line.A, slices_IndexFunc_impl_Line_impl_Line.R, slices_IndexFunc_impl_Line_impl_Line k⟩
noncomputable def slices_IndexFunc_impl_Line_impl_Line.C (k : Nat) : Ctx := ⟨Tryz.prog, [(86, [impl_areAll_impl_Line_1.sg k])], k, [], []⟩
theorem slices_IndexFunc_impl_Line_impl_Line.ev (k : Nat) (x : slices_IndexFunc_impl_Line_impl_Line.A.T) : evFunc (slices_IndexFunc_impl_Line_impl_Line.C k) slices_IndexFunc_impl_Line_impl_Line.ann Tryz.f114 slices_IndexFunc_impl_Line_impl_Line.A slices_IndexFunc_impl_Line_impl_Line.R x = slices_IndexFunc_impl_Line_impl_Line k x := by kernel_rfl
theorem slices_IndexFunc_impl_Line_impl_Line.ok {L : List (Nat × Obj)}  (k : Nat) : SigHolds Tryz.prog L 114 (slices_IndexFunc_impl_Line_impl_Line.sg k) :=
  sig_of_ev (C := slices_IndexFunc_impl_Line_impl_Line.C k) (holds_cons (allok_cons (impl_areAll_impl_Line_1.ok k) allok_nil) holds_nil) (by kernel_rfl) Tryz.func114 (by kernel_rfl) _ _ _ (fun x y h => (slices_IndexFunc_impl_Line_impl_Line.ev k x).trans h) (by kernel_rfl)
def slices_ContainsFunc_impl_Line_impl_Line.A : Sh := (.cons (.pur (.sl false QK9)) (.cons (.fn (.func 86) 0 (.cons (.box (.cons (.fn (.func 61) 1 (.cons QS6 .nil)) .nil)) .nil)) .nil))
def slices_ContainsFunc_impl_Line_impl_Line.R : Sh := QS19
def slices_ContainsFunc_impl_Line_impl_Line.ann : Ann := { loops := [], joins := [], keys := [] }
noncomputable def slices_ContainsFunc_impl_Line_impl_Line (k : Nat) : ((List QT0) × QT33 × Unit) → Option ((Bool × Unit) × (Unit × QT33 × Unit)) := fun x => match x with
 | (s_, (((f_0_0_0, ()), ()), ()), ()) =>
  bd k (slices_IndexFunc_impl_Line_impl_Line k (s_, (((f_0_0_0, ()), ()), ()), ())) fun y1 =>
  some ((decide (y1.1.1 ≥ 0), ()), ((), (((y1.2.2.1.1.1.1, ()), ()), ()), ()))
noncomputable def slices_ContainsFunc_impl_Line_impl_Line.sg (k : Nat) : Sig := ⟨slices_ContainsFunc_impl_Line_impl_Line.A, slices_ContainsFunc_impl_Line_impl_Line.R, slices_ContainsFunc_impl_Line_impl_Line k⟩
noncomputable def slices_ContainsFunc_impl_Line_impl_Line.C (k : Nat) : Ctx := ⟨Tryz.prog, [(114, [slices_IndexFunc_impl_Line_impl_Line.sg k])], k, [], []⟩
theorem slices_ContainsFunc_impl_Line_impl_Line.ev (k : Nat) (x : slices_ContainsFunc_impl_Line_impl_Line.A.T) : evFunc (slices_ContainsFunc_impl_Line_impl_Line.C k) slices_ContainsFunc_impl_Line_impl_Line.ann Tryz.f85 slices_ContainsFunc_impl_Line_impl_Line.A slices_ContainsFunc_impl_Line_impl_Line.R x = slices_ContainsFunc_impl_Line_impl_Line k x := by kernel_rfl
theorem slices_ContainsFunc_impl_Line_impl_Line.ok {L : List (Nat × Obj)}  (k : Nat) : SigHolds Tryz.prog L 85 (slices_ContainsFunc_impl_Line_impl_Line.sg k) :=
  sig_of_ev (C := slices_ContainsFunc_impl_Line_impl_Line.C k) (holds_cons (allok_cons (slices_IndexFunc_impl_Line_impl_Line.ok k) allok_nil) holds_nil) (by kernel_rfl) Tryz.func85 (by kernel_rfl) _ _ _ (fun x y h => (slices_ContainsFunc_impl_Line_impl_Line.ev k x).trans h) (by kernel_rfl)
def impl_areAll_impl_Line.A : Sh := (.cons (.pur (.sl false QK9)) (.cons (.fn (.func 61) 1 (.cons QS6 .nil)) .nil))
def impl_areAll_impl_Line.R : Sh := QS19
def impl_areAll_impl_Line.ann : Ann := { loops := [], joins := [], keys := [] }
noncomputable def impl_areAll_impl_Line (k : Nat) : ((List QT0) × (QT2 × Unit) × Unit) → Option ((Bool × Unit) × (Unit × (Unit × Unit) × Unit)) := fun x => match x with
 | (list, (is_0, ()), ()) =>
  bd k (slices_ContainsFunc_impl_Line_impl_Line k (list, (((is_0, ()), ()), ()), ())) fun y1 =>
  some ((!y1.1.1, ()), ((), ((), ()), ()))
noncomputable def impl_areAll_impl_Line.sg (k : Nat) : Sig := ⟨impl_areAll_impl_Line.A, impl_areAll_impl_Line.R, impl_areAll_impl_Line k⟩
noncomputable def impl_areAll_impl_Line.C (k : Nat) : Ctx := ⟨Tryz.prog, [(85, [slices_ContainsFunc_impl_Line_impl_Line.sg k])], k, [], []⟩
theorem impl_areAll_impl_Line.ev (k : Nat) (x : impl_areAll_impl_Line.A.T) : evFunc (impl_areAll_impl_Line.C k) impl_areAll_impl_Line.ann Tryz.f60 impl_areAll_impl_Line.A impl_areAll_impl_Line.R x = impl_areAll_impl_Line k x := by kernel_rfl
theorem impl_areAll_impl_Line.ok {L : List (Nat × Obj)}  (k : Nat) : SigHolds Tryz.prog L 60 (impl_areAll_impl_Line.sg k) :=
  sig_of_ev (C := impl_areAll_impl_Line.C k) (holds_cons (allok_cons (slices_ContainsFunc_impl_Line_impl_Line.ok k) allok_nil) holds_nil) (by kernel_rfl) Tryz.func60 (by kernel_rfl) _ _ _ (fun x y h => (impl_areAll_impl_Line.ev k x).trans h) (by kernel_rfl)
def impl_Line_isChoice.A : Sh := (.cons (.pur QK9) .nil)
def impl_Line_isChoice.R : Sh := QS19
def impl_Line_isChoice.ann : Ann := { loops := [], joins := [(1, [(2, .bool)])], keys := [] }
noncomputable def impl_Line_isChoice (k : Nat) : (QT0 × Unit) → Option QT21 := fun x => match x with
 | (n, ()) =>
  (br k (n.1 == 5)
  (some (true, ()))
  (some (n.1 == 6, ())) : Option (Bool × Unit)).bind fun j1 =>
  some ((j1.1, ()), ((), ()))
noncomputable def impl_Line_isChoice.sg (k : Nat) : Sig := ⟨impl_Line_isChoice.A, impl_Line_isChoice.R, impl_Line_isChoice k⟩
noncomputable def impl_Line_isChoice.C (k : Nat) : Ctx := ⟨Tryz.prog, [], k, [], []⟩
theorem impl_Line_isChoice.ev (k : Nat) (x : impl_Line_isChoice.A.T) : evFunc (impl_Line_isChoice.C k) impl_Line_isChoice.ann Tryz.f119 impl_Line_isChoice.A impl_Line_isChoice.R x = impl_Line_isChoice k x := by kernel_rfl
theorem impl_Line_isChoice.ok {L : List (Nat × Obj)}  (k : Nat) : SigHolds Tryz.prog L 119 (impl_Line_isChoice.sg k) :=
  sig_of_ev (C := impl_Line_isChoice.C k) holds_nil (by kernel_rfl) Tryz.func119 (by kernel_rfl) _ _ _ (fun x y h => (impl_Line_isChoice.ev k x).trans h) (by kernel_rfl)
def impl_Line_isLoop.A : Sh := (.cons (.pur QK9) .nil)
def impl_Line_isLoop.R : Sh := QS19
def impl_Line_isLoop.ann : Ann := { loops := [], joins := [(1, [(2, .bool)])], keys := [] }
noncomputable def impl_Line_isLoop (k : Nat) : (QT0 × Unit) → Option QT21 := fun x => match x with
 | (n, ()) =>
  (br k (n.1 == 9)
  (some (true, ()))
  (some (n.1 == 10, ())) : Option (Bool × Unit)).bind fun j1 =>
  some ((j1.1, ()), ((), ()))
noncomputable def impl_Line_isLoop.sg (k : Nat) : Sig := ⟨impl_Line_isLoop.A, impl_Line_isLoop.R, impl_Line_isLoop k⟩
noncomputable def impl_Line_isLoop.C (k : Nat) : Ctx := ⟨Tryz.prog, [], k, [], []⟩
theorem impl_Line_isLoop.ev (k : Nat) (x : impl_Line_isLoop.A.T) : evFunc (impl_Line_isLoop.C k) impl_Line_isLoop.ann Tryz.f93 impl_Line_isLoop.A impl_Line_isLoop.R x = impl_Line_isLoop k x := by kernel_rfl
theorem impl_Line_isLoop.ok {L : List (Nat × Obj)}  (k : Nat) : SigHolds Tryz.prog L 93 (impl_Line_isLoop.sg k) :=
  sig_of_ev (C := impl_Line_isLoop.C k) holds_nil (by kernel_rfl) Tryz.func93 (by kernel_rfl) _ _ _ (fun x y h => (impl_Line_isLoop.ev k x).trans h) (by kernel_rfl)
def impl_frames_next.A : Sh := (.cons (.box (.cons (.own QK1) .nil)) (.cons (.pur (.sl false QK9)) QS12))
def impl_frames_next.R : Sh := (.cons (.pur QK1) QS19)
def impl_frames_next.ann : Ann := { loops := [], joins := [(3, [(21, .bool)]), (6, [(70, .bool)])], keys := [] }
noncomputable def impl_frames_next (k : Nat) : ((QT16 × Unit) × (List QT0) × Int × Unit) → Option (((Int × Int × Unit) × Bool × Unit) × ((QT16 × Unit) × Unit × Unit × Unit)) := fun x => match x with
 | ((f_0, ()), list, at_, ()) =>
  br k (decide (0 ≤ at_))
  (bd k (list[at_.toNat]?) fun x1 =>
  (bd k (impl_Line_isChoice k (x1, ())) fun y2 =>
  br k (y2.1.1)
  (some (true, ()))
  (bd k (impl_Line_isLoop k (x1, ())) fun y3 =>
  some (y3.1.1, ())) : Option (Bool × Unit)).bind fun j4 =>
  br k (j4.1)
  (br k (decide ((f_0.length + ([(at_, (-1), ())] : List (Int × Int × Unit)).length) * 16 ≤ maxBytes))
  (some ((((-1), (-1), ()), true, ()), ((f_0 ++ ([(at_, (-1), ())] : List (Int × Int × Unit)), ()), (), (), ())))
  none)
  (br k (x1.1 == 7)
  ((br k (decide ((IntKind.wrap .i64 ((f_0.length : Int) - 1)) < 0))
  (some (true, ()))
  (br k (decide (0 ≤ (IntKind.wrap .i64 ((f_0.length : Int) - 1)) ∧ (IntKind.wrap .i64 ((f_0.length : Int) - 1)) < (f_0.length : Int)))
  (bd k (f_0[(IntKind.wrap .i64 ((f_0.length : Int) - 1)).toNat]?) fun x5 =>
  br k (decide (0 ≤ x5.1))
  (bd k (list[x5.1.toNat]?) fun x6 =>
  bd k (impl_Line_isChoice k (x6, ())) fun y7 =>
  br k (!y7.1.1)
  (some (true, ()))
  (br k (decide (0 ≤ (IntKind.wrap .i64 ((f_0.length : Int) - 1)) ∧ (IntKind.wrap .i64 ((f_0.length : Int) - 1)) < (f_0.length : Int)))
  (bd k (f_0[(IntKind.wrap .i64 ((f_0.length : Int) - 1)).toNat]?) fun x8 =>
  some (decide (x8.2.1 ≥ 0), ()))
  none))
  none)
  none) : Option (Bool × Unit)).bind fun j9 =>
  br k (j9.1)
  (some (((0, 0, ()), false, ()), ((f_0, ()), (), (), ())))
  (br k (decide (0 ≤ (IntKind.wrap .i64 ((f_0.length : Int) - 1)) ∧ (IntKind.wrap .i64 ((f_0.length : Int) - 1)) < (f_0.length : Int)))
  (bd k (f_0[(IntKind.wrap .i64 ((f_0.length : Int) - 1)).toNat]?) fun x10 =>
  some ((((-1), (-1), ()), true, ()), ((f_0.set ((IntKind.wrap .i64 ((f_0.length : Int) - 1)).toNat) (x10.1, at_, ()), ()), (), (), ())))
  none))
  (br k (x1.1 == 8)
  (br k (decide ((IntKind.wrap .i64 ((f_0.length : Int) - 1)) < 0))
  (some (((0, 0, ()), false, ()), ((f_0, ()), (), (), ())))
  (br k (decide (0 ≤ (IntKind.wrap .i64 ((f_0.length : Int) - 1)) ∧ (IntKind.wrap .i64 ((f_0.length : Int) - 1)) < (f_0.length : Int)))
  (bd k (f_0[(IntKind.wrap .i64 ((f_0.length : Int) - 1)).toNat]?) fun x11 =>
  br k (decide (0 ≤ (IntKind.wrap .i64 ((f_0.length : Int) - 1)) ∧ (IntKind.wrap .i64 ((f_0.length : Int) - 1)) ≤ (f_0.length : Int)))
  (some ((x11, true, ()), ((subL f_0 ((0 : Int).toNat) ((IntKind.wrap .i64 ((f_0.length : Int) - 1)).toNat - (0 : Int).toNat), ()), (), (), ())))
  none)
  none))
  (some ((((-1), (-1), ()), true, ()), ((f_0, ()), (), (), ()))))))
  none
noncomputable def impl_frames_next.sg (k : Nat) : Sig := ⟨impl_frames_next.A, impl_frames_next.R, impl_frames_next k⟩
noncomputable def impl_frames_next.C (k : Nat) : Ctx := ⟨Tryz.prog, [(119, [impl_Line_isChoice.sg k]), (93, [impl_Line_isLoop.sg k])], k, [], []⟩
theorem impl_frames_next.ev (k : Nat) (x : impl_frames_next.A.T) : evFunc (impl_frames_next.C k) impl_frames_next.ann Tryz.f92 impl_frames_next.A impl_frames_next.R x = impl_frames_next k x := by kernel_rfl
theorem impl_frames_next.ok {L : List (Nat × Obj)}  (k : Nat) : SigHolds Tryz.prog L 92 (impl_frames_next.sg k) :=
  sig_of_ev (C := impl_frames_next.C k) (holds_cons (allok_cons (impl_Line_isChoice.ok k) allok_nil) (holds_cons (allok_cons (impl_Line_isLoop.ok k) allok_nil) holds_nil)) (by kernel_rfl) Tryz.func92 (by kernel_rfl) _ _ _ (fun x y h => (impl_frames_next.ev k x).trans h) (by kernel_rfl)
def impl_targets.A : Sh := QS51
def impl_targets.R : Sh := (.cons (.own (.int .i64)) QS19)
def impl_targets.ann : Ann := { loops := [(0, [(0, (.pur (.sl false QK9))), (4, (.own (.int .i64))), (5, (.box (.cons (.own QK1) .nil))), (15, (.pur (.int .i64))), (16, (.pur (.int .i64)))])], joins := [], keys := [(13, [([], false), ([7], false), ([7], false), ([], false), ([], false), ([], false), ([], false), ([7], false), ([7], false), ([4], false), ([4], true), ([4], false), ([4], true)]), (15, [([], false), ([7], false), ([7], false), ([], false), ([7], false), ([7], false), ([7], false), ([7], false), ([], false), ([], false), ([4], false), ([4], true), ([4], false), ([4], true)])] }
noncomputable def impl_targets.l0 (k : Nat)  (G0 : ((List QT0) × (List Int) × (QT16 × Unit) × Int × Int × Unit) → Option (((List Int) × Bool × Unit) × (Unit × Unit))) : ((List QT0) × (List Int) × (QT16 × Unit) × Int × Int × Unit) → Option (((List Int) × Bool × Unit) × (Unit × Unit)) := fun x => match x with
 | (list, out_, (f_0, ()), t15, t16, ()) =>
  br k (decide (t16 < t15))
  (br k (decide (0 ≤ t16 ∧ t16 < (out_.length : Int)))
  (bd k (out_[t16.toNat]?) fun x1 =>
  bd k (impl_frames_next k ((f_0, ()), list, t16, ())) fun y2 =>
  br k (!y2.1.2.1)
  (some (([], false, ()), ((), ())))
  (br k (decide (0 ≤ t16))
  (bd k (list[t16.toNat]?) fun x3 =>
  br k (x3.1 != 8)
  (G0 (list, out_.set t16.toNat (IntKind.wrap .i64 (t16 + 1)), (y2.2.1.1, ()), t15, IntKind.wrap .i64 (t16 + 1), ()))
  (br k (decide (0 ≤ y2.1.1.1 ∧ y2.1.1.1 < ((out_.set t16.toNat (IntKind.wrap .i64 (t16 + 1))).length : Int)))
  (bd k ((out_.set t16.toNat (IntKind.wrap .i64 (t16 + 1)))[y2.1.1.1.toNat]?) fun x4 =>
  br k (decide (0 ≤ y2.1.1.1))
  (bd k (list[y2.1.1.1.toNat]?) fun x5 =>
  bd k (impl_Line_isLoop k (x5, ())) fun y6 =>
  br k (y6.1.1)
  (br k (decide (0 ≤ y2.1.1.1 ∧ y2.1.1.1 < (((out_.set t16.toNat (IntKind.wrap .i64 (t16 + 1))).set y2.1.1.1.toNat t16).length : Int)))
  (bd k (((out_.set t16.toNat (IntKind.wrap .i64 (t16 + 1))).set y2.1.1.1.toNat t16)[y2.1.1.1.toNat]?) fun x7 =>
  br k (decide (0 ≤ t16 ∧ t16 < ((((out_.set t16.toNat (IntKind.wrap .i64 (t16 + 1))).set y2.1.1.1.toNat t16).set y2.1.1.1.toNat (IntKind.wrap .i64 (t16 + 1))).length : Int)))
  (bd k ((((out_.set t16.toNat (IntKind.wrap .i64 (t16 + 1))).set y2.1.1.1.toNat t16).set y2.1.1.1.toNat (IntKind.wrap .i64 (t16 + 1)))[t16.toNat]?) fun x8 =>
  G0 (list, (((out_.set t16.toNat (IntKind.wrap .i64 (t16 + 1))).set y2.1.1.1.toNat t16).set y2.1.1.1.toNat (IntKind.wrap .i64 (t16 + 1))).set t16.toNat y2.1.1.1, (y2.2.1.1, ()), t15, IntKind.wrap .i64 (t16 + 1), ()))
  none)
  none)
  (br k (decide (y2.1.1.2.1 ≥ 0))
  (br k (decide (0 ≤ y2.1.1.1 ∧ y2.1.1.1 < (((out_.set t16.toNat (IntKind.wrap .i64 (t16 + 1))).set y2.1.1.1.toNat t16).length : Int)))
  (bd k (((out_.set t16.toNat (IntKind.wrap .i64 (t16 + 1))).set y2.1.1.1.toNat t16)[y2.1.1.1.toNat]?) fun x9 =>
  br k (decide (0 ≤ y2.1.1.2.1 ∧ y2.1.1.2.1 < ((((out_.set t16.toNat (IntKind.wrap .i64 (t16 + 1))).set y2.1.1.1.toNat t16).set y2.1.1.1.toNat (IntKind.wrap .i64 (y2.1.1.2.1 + 1))).length : Int)))
  (bd k ((((out_.set t16.toNat (IntKind.wrap .i64 (t16 + 1))).set y2.1.1.1.toNat t16).set y2.1.1.1.toNat (IntKind.wrap .i64 (y2.1.1.2.1 + 1)))[y2.1.1.2.1.toNat]?) fun x10 =>
  G0 (list, (((out_.set t16.toNat (IntKind.wrap .i64 (t16 + 1))).set y2.1.1.1.toNat t16).set y2.1.1.1.toNat (IntKind.wrap .i64 (y2.1.1.2.1 + 1))).set y2.1.1.2.1.toNat t16, (y2.2.1.1, ()), t15, IntKind.wrap .i64 (t16 + 1), ()))
  none)
  none)
  (G0 (list, (out_.set t16.toNat (IntKind.wrap .i64 (t16 + 1))).set y2.1.1.1.toNat t16, (y2.2.1.1, ()), t15, IntKind.wrap .i64 (t16 + 1), ()))))
  none)
  none))
  none))
  none)
  (some ((out_, (f_0.length : Int) == 0, ()), ((), ())))
noncomputable def impl_targets (k : Nat) : ((List QT0) × Unit) → Option (((List Int) × Bool × Unit) × (Unit × Unit)) := fun x => match x with
 | (list, ()) =>
  br k (decide (0 ≤ (list.length : Int) ∧ (list.length : Int) ≤ (list.length : Int) ∧ (list.length : Int) * 8 ≤ maxBytes))
  (iter (impl_targets.l0 k) k (list, List.replicate (list.length : Int).toNat (Kd.z (.int .i64)), ([], ()), (list.length : Int), 0, ()))
  none
noncomputable def impl_targets.sg (k : Nat) : Sig := ⟨impl_targets.A, impl_targets.R, impl_targets k⟩
noncomputable def impl_targets.C (k : Nat) : Ctx := ⟨Tryz.prog, [(92, [impl_frames_next.sg k]), (93, [impl_Line_isLoop.sg k])], k, [], []⟩
theorem impl_targets.ev (k : Nat) (x : impl_targets.A.T) : evFunc (impl_targets.C k) impl_targets.ann Tryz.f62 impl_targets.A impl_targets.R x = impl_targets k x := by kernel_rfl
theorem impl_targets.ok {L : List (Nat × Obj)}  (k : Nat) : SigHolds Tryz.prog L 62 (impl_targets.sg k) :=
  sig_of_ev (C := impl_targets.C k) (holds_cons (allok_cons (impl_frames_next.ok k) allok_nil) (holds_cons (allok_cons (impl_Line_isLoop.ok k) allok_nil) holds_nil)) (by kernel_rfl) Tryz.func62 (by kernel_rfl) _ _ _ (fun x y h => (impl_targets.ev k x).trans h) (by kernel_rfl)
def impl_Prog_isRight.A : Sh := (.cons QS23 .nil)
def impl_Prog_isRight.R : Sh := QS19
def impl_Prog_isRight.ann : Ann := { loops := [], joins := [], keys := [] }
noncomputable def impl_Prog_isRight (k : Nat) : (QT8 × Unit) → Option QT21 := fun x => match x with
 | (p, ()) =>
  bd k (impl_Decl_isRight k ((p.1, p.2.1, p.2.2.1, ()), ())) fun y1 =>
  br k (!y1.1.1)
  (some ((false, ()), ((), ())))
  (br k (decide ((p.2.2.2.1.length : Int) > 30))
  (some ((false, ()), ((), ())))
  (bd k (impl_areAll_impl_Line k (p.2.2.2.1, ((p.1, p.2.1, p.2.2.1, ()), ()), ())) fun y2 =>
  br k (!y2.1.1)
  (some ((false, ()), ((), ())))
  (bd k (impl_targets k (p.2.2.2.1, ())) fun y3 =>
  some ((y3.1.2.1, ()), ((), ())))))
noncomputable def impl_Prog_isRight.sg (k : Nat) : Sig := ⟨impl_Prog_isRight.A, impl_Prog_isRight.R, impl_Prog_isRight k⟩
noncomputable def impl_Prog_isRight.C (k : Nat) : Ctx := ⟨Tryz.prog, [(29, [impl_Decl_isRight.sg k]), (60, [impl_areAll_impl_Line.sg k]), (62, [impl_targets.sg k])], k, [], []⟩
theorem impl_Prog_isRight.ev (k : Nat) (x : impl_Prog_isRight.A.T) : evFunc (impl_Prog_isRight.C k) impl_Prog_isRight.ann Tryz.f38 impl_Prog_isRight.A impl_Prog_isRight.R x = impl_Prog_isRight k x := by kernel_rfl
theorem impl_Prog_isRight.ok {L : List (Nat × Obj)} (hSp : Lb.NeedSp L) (k : Nat) : SigHolds Tryz.prog L 38 (impl_Prog_isRight.sg k) :=
  sig_of_ev (C := impl_Prog_isRight.C k) (holds_cons (allok_cons (impl_Decl_isRight.ok hSp k) allok_nil) (holds_cons (allok_cons (impl_areAll_impl_Line.ok k) allok_nil) (holds_cons (allok_cons (impl_targets.ok k) allok_nil) holds_nil))) (by kernel_rfl) Tryz.func38 (by kernel_rfl) _ _ _ (fun x y h => (impl_Prog_isRight.ev k x).trans h) (by kernel_rfl)
def impl_isFuel.A : Sh := (.cons QS23 (.cons QS32 QS12))
def impl_isFuel.R : Sh := QS19
def impl_isFuel.ann : Ann := { loops := [], joins := [(1, [(6, .bool)])], keys := [] }
noncomputable def impl_isFuel (k : Nat) : QT52 → Option ((Bool × Unit) × QT35) := fun x => match x with
 | (p, inputs, fuel, ()) =>
  (bd k (impl_Prog_isRight k (p, ())) fun y1 =>
  br k (y1.1.1)
  (bd k (impl_within k (fuel, 0, 2000, ())) fun y2 =>
  br k (y2.1.1)
  (some (decide ((inputs.length : Int) ≤ 1000), ()))
  (some (false, ())))
  (some (false, ())) : Option (Bool × Unit)).bind fun j3 =>
  some ((j3.1, ()), ((), (), (), ()))
noncomputable def impl_isFuel.sg (k : Nat) : Sig := ⟨impl_isFuel.A, impl_isFuel.R, impl_isFuel k⟩
noncomputable def impl_isFuel.C (k : Nat) : Ctx := ⟨Tryz.prog, [(38, [impl_Prog_isRight.sg k]), (39, [impl_within.sg k])], k, [], []⟩
theorem impl_isFuel.ev (k : Nat) (x : impl_isFuel.A.T) : evFunc (impl_isFuel.C k) impl_isFuel.ann Tryz.f20 impl_isFuel.A impl_isFuel.R x = impl_isFuel k x := by kernel_rfl
theorem impl_isFuel.ok {L : List (Nat × Obj)} (hSp : Lb.NeedSp L) (k : Nat) : SigHolds Tryz.prog L 20 (impl_isFuel.sg k) :=
  sig_of_ev (C := impl_isFuel.C k) (holds_cons (allok_cons (impl_Prog_isRight.ok hSp k) allok_nil) (holds_cons (allok_cons (impl_within.ok k) allok_nil) holds_nil)) (by kernel_rfl) Tryz.func20 (by kernel_rfl) _ _ _ (fun x y h => (impl_isFuel.ev k x).trans h) (by kernel_rfl)
def impl_Prog_targets.A : Sh := (.cons QS23 .nil)
def impl_Prog_targets.R : Sh := (.cons (.own (.int .i64)) .nil)
def impl_Prog_targets.ann : Ann := { loops := [], joins := [], keys := [] }
noncomputable def impl_Prog_targets (k : Nat) : (QT8 × Unit) → Option (((List Int) × Unit) × (Unit × Unit)) := fun x => match x with
 | (p, ()) =>
  bd k (impl_targets k (p.2.2.2.1, ())) fun y1 =>
  some ((y1.1.1, ()), ((), ()))
noncomputable def impl_Prog_targets.sg (k : Nat) : Sig := ⟨impl_Prog_targets.A, impl_Prog_targets.R, impl_Prog_targets k⟩
noncomputable def impl_Prog_targets.C (k : Nat) : Ctx := ⟨Tryz.prog, [(62, [impl_targets.sg k])], k, [], []⟩
theorem impl_Prog_targets.ev (k : Nat) (x : impl_Prog_targets.A.T) : evFunc (impl_Prog_targets.C k) impl_Prog_targets.ann Tryz.f40 impl_Prog_targets.A impl_Prog_targets.R x = impl_Prog_targets k x := by kernel_rfl
theorem impl_Prog_targets.ok {L : List (Nat × Obj)}  (k : Nat) : SigHolds Tryz.prog L 40 (impl_Prog_targets.sg k) :=
  sig_of_ev (C := impl_Prog_targets.C k) (holds_cons (allok_cons (impl_targets.ok k) allok_nil) holds_nil) (by kernel_rfl) Tryz.func40 (by kernel_rfl) _ _ _ (fun x y h => (impl_Prog_targets.ev k x).trans h) (by kernel_rfl)
def impl_Decl_newStore.A : Sh := (.cons QS6 .nil)
def impl_Decl_newStore.R : Sh := (.cons (.agg QS17) .nil)
def impl_Decl_newStore.ann : Ann := { loops := [(0, [(2, (.box QS17)), (3, (.box QS17)), (16, (.pur QK13)), (17, (.pur (.int .i64))), (18, (.pur (.int .i64)))])], joins := [], keys := [(1, [([1], false), ([1], false), ([], false), ([9], true), ([1], false), ([1], false), ([], false), ([13], true), ([9, 13], false), ([3], true), ([3, 9, 13], true)]), (5, [([3], false), ([3], false), ([5], false), ([5], false), ([26], true), ([26, 27], true), ([3, 27, 28], true), ([3], false), ([3, 28], true)])] }
noncomputable def impl_Decl_newStore.l0 (k : Nat)  (G0 : (QT7 × QT7 × (List QT29) × Int × Int × Unit) → Option QT41) : (QT7 × QT7 × (List QT29) × Int × Int × Unit) → Option QT41 := fun x => match x with
 | ((t2_0, t2_1, t2_2, ()), (s__0, s__1, s__2, ()), t16, t17, t18, ()) =>
  br k (decide (t18 < t17))
  (br k (decide (0 ≤ t18))
  (bd k (t16[t18.toNat]?) fun x1 =>
  br k (decide (0 ≤ x1.2.1 ∧ x1.2.1 ≤ x1.2.1 ∧ x1.2.1 * 8 ≤ maxBytes))
  (br k (decide ((s__2.length + ([List.replicate x1.2.1.toNat (Kd.z (.int .i64))] : List (List Int)).length) * 24 ≤ maxBytes))
  (G0 ((t2_0, t2_1, t2_2, ()), (s__0, s__1, s__2 ++ ([List.replicate x1.2.1.toNat (Kd.z (.int .i64))] : List (List Int)), ()), t16, t17, IntKind.wrap .i64 (t18 + 1), ()))
  none)
  none)
  none)
  (some (((s__0, s__1, s__2, ()), ()), ((), ())))
noncomputable def impl_Decl_newStore (k : Nat) : (QT2 × Unit) → Option QT41 := fun x => match x with
 | (d_, ()) =>
  br k (decide (0 ≤ (d_.1.length : Int) ∧ (d_.1.length : Int) ≤ (d_.1.length : Int) ∧ (d_.1.length : Int) * 8 ≤ maxBytes))
  (br k (decide (0 ≤ (d_.2.1.length : Int) ∧ (d_.2.1.length : Int) ≤ (d_.2.1.length : Int) ∧ (d_.2.1.length : Int) * 1 ≤ maxBytes))
  (iter (impl_Decl_newStore.l0 k) k (([], [], ([] : List (List Int)), ()), (List.replicate (d_.1.length : Int).toNat (Kd.z (.int .i64)), List.replicate (d_.2.1.length : Int).toNat (Kd.z .bool), ([] : List (List Int)), ()), d_.2.2.1, (d_.2.2.1.length : Int), 0, ()))
  none)
  none
noncomputable def impl_Decl_newStore.sg (k : Nat) : Sig := ⟨impl_Decl_newStore.A, impl_Decl_newStore.R, impl_Decl_newStore k⟩
noncomputable def impl_Decl_newStore.C (k : Nat) : Ctx := ⟨Tryz.prog, [], k, [(27, (.own (.int .i64)))], []⟩
theorem impl_Decl_newStore.ev (k : Nat) (x : impl_Decl_newStore.A.T) : evFunc (impl_Decl_newStore.C k) impl_Decl_newStore.ann Tryz.f41 impl_Decl_newStore.A impl_Decl_newStore.R x = impl_Decl_newStore k x := by kernel_rfl
theorem impl_Decl_newStore.ok {L : List (Nat × Obj)}  (k : Nat) : SigHolds Tryz.prog L 41 (impl_Decl_newStore.sg k) :=
  sig_of_ev (C := impl_Decl_newStore.C k) holds_nil (by kernel_rfl) Tryz.func41 (by kernel_rfl) _ _ _ (fun x y h => (impl_Decl_newStore.ev k x).trans h) (by kernel_rfl)
def impl_newMachine.A : Sh := (.cons QS23 (.cons QS32 .nil))
def impl_newMachine.R : Sh := (.cons QS3 .nil)
def impl_newMachine.ann : Ann := { loops := [], joins := [], keys := [(1, [([2], false), ([2], false), ([7], true), ([], false), ([2], false), ([2], false), ([11], true), ([11], false), ([7, 11], false), ([7, 11, 14], true), ([], false)])] }
noncomputable def impl_newMachine (k : Nat) : (QT8 × (List Int) × Unit) → Option ((QT4 × Unit) × (Unit × Unit × Unit)) := fun x => match x with
 | (p, inputs, ()) =>
  bd k (impl_Prog_targets k (p, ())) fun y1 =>
  bd k (impl_Decl_newStore k ((p.1, p.2.1, p.2.2.1, ()), ())) fun y2 =>
  some (((p.1, p.2.1, p.2.2.1, p.2.2.2.1, y1.1.1, inputs, 0, 0, y2.1.1.1, y2.1.1.2.1, y2.1.1.2.2.1, 0, 0, [], ()), ()), ((), (), ()))
noncomputable def impl_newMachine.sg (k : Nat) : Sig := ⟨impl_newMachine.A, impl_newMachine.R, impl_newMachine k⟩
noncomputable def impl_newMachine.C (k : Nat) : Ctx := ⟨Tryz.prog, [(40, [impl_Prog_targets.sg k]), (41, [impl_Decl_newStore.sg k])], k, [], []⟩
theorem impl_newMachine.ev (k : Nat) (x : impl_newMachine.A.T) : evFunc (impl_newMachine.C k) impl_newMachine.ann Tryz.f21 impl_newMachine.A impl_newMachine.R x = impl_newMachine k x := by kernel_rfl
theorem impl_newMachine.ok {L : List (Nat × Obj)}  (k : Nat) : SigHolds Tryz.prog L 21 (impl_newMachine.sg k) :=
  sig_of_ev (C := impl_newMachine.C k) (holds_cons (allok_cons (impl_Prog_targets.ok k) allok_nil) (holds_cons (allok_cons (impl_Decl_newStore.ok k) allok_nil) holds_nil)) (by kernel_rfl) Tryz.func21 (by kernel_rfl) _ _ _ (fun x y h => (impl_newMachine.ev k x).trans h) (by kernel_rfl)
def impl_size_impl_Line.A : Sh := QS51
def impl_size_impl_Line.R : Sh := QS12
def impl_size_impl_Line.ann : Ann := { loops := [], joins := [], keys := [] }
noncomputable def impl_size_impl_Line (k : Nat) : ((List QT0) × Unit) → Option QT38 := fun x => match x with
 | (list, ()) =>
  some (((list.length : Int), ()), ((), ()))
noncomputable def impl_size_impl_Line.sg (k : Nat) : Sig := ⟨impl_size_impl_Line.A, impl_size_impl_Line.R, impl_size_impl_Line k⟩
noncomputable def impl_size_impl_Line.C (k : Nat) : Ctx := ⟨Tryz.prog, [], k, [], []⟩
theorem impl_size_impl_Line.ev (k : Nat) (x : impl_size_impl_Line.A.T) : evFunc (impl_size_impl_Line.C k) impl_size_impl_Line.ann Tryz.f42 impl_size_impl_Line.A impl_size_impl_Line.R x = impl_size_impl_Line k x := by kernel_rfl
theorem impl_size_impl_Line.ok {L : List (Nat × Obj)}  (k : Nat) : SigHolds Tryz.prog L 42 (impl_size_impl_Line.sg k) :=
  sig_of_ev (C := impl_size_impl_Line.C k) holds_nil (by kernel_rfl) Tryz.func42 (by kernel_rfl) _ _ _ (fun x y h => (impl_size_impl_Line.ev k x).trans h) (by kernel_rfl)
def impl_Run_1.A : Sh := .nil
def impl_Run_1.R : Sh := .nil
def impl_Run_1.ann : Ann := { loops := [], joins := [], keys := [] }
noncomputable def impl_Run_1 (k : Nat) : (Unit) → Option ((Unit) × (Unit)) := fun x => match x with
 | (()) =>
  some ((()), (()))
noncomputable def impl_Run_1.sg (k : Nat) : Sig := ⟨impl_Run_1.A, impl_Run_1.R, impl_Run_1 k⟩
noncomputable def impl_Run_1.C (k : Nat) : Ctx := ⟨Tryz.prog, [], k, [], []⟩
theorem impl_Run_1.ev (k : Nat) (x : impl_Run_1.A.T) : evFunc (impl_Run_1.C k) impl_Run_1.ann Tryz.f23 impl_Run_1.A impl_Run_1.R x = impl_Run_1 k x := by kernel_rfl
theorem impl_Run_1.ok {L : List (Nat × Obj)}  (k : Nat) : SigHolds Tryz.prog L 23 (impl_Run_1.sg k) :=
  sig_of_ev (C := impl_Run_1.C k) holds_nil (by kernel_rfl) Tryz.func23 (by kernel_rfl) _ _ _ (fun x y h => (impl_Run_1.ev k x).trans h) (by kernel_rfl)
def impl_truth.A : Sh := QS19
def impl_truth.R : Sh := QS12
def impl_truth.ann : Ann := { loops := [], joins := [], keys := [] }
noncomputable def impl_truth (k : Nat) : (Bool × Unit) → Option QT38 := fun x => match x with
 | (is, ()) =>
  br k (is)
  (some ((1, ()), ((), ())))
  (some ((0, ()), ((), ())))
noncomputable def impl_truth.sg (k : Nat) : Sig := ⟨impl_truth.A, impl_truth.R, impl_truth k⟩
noncomputable def impl_truth.C (k : Nat) : Ctx := ⟨Tryz.prog, [], k, [], []⟩
theorem impl_truth.ev (k : Nat) (x : impl_truth.A.T) : evFunc (impl_truth.C k) impl_truth.ann Tryz.f120 impl_truth.A impl_truth.R x = impl_truth k x := by kernel_rfl
theorem impl_truth.ok {L : List (Nat × Obj)}  (k : Nat) : SigHolds Tryz.prog L 120 (impl_truth.sg k) :=
  sig_of_ev (C := impl_truth.C k) holds_nil (by kernel_rfl) Tryz.func120 (by kernel_rfl) _ _ _ (fun x y h => (impl_truth.ev k x).trans h) (by kernel_rfl)
def impl_Store_thing.A : Sh := (.cons QS20 (.cons (.pur QK1) .nil))
def impl_Store_thing.R : Sh := QS12
def impl_Store_thing.ann : Ann := { loops := [], joins := [], keys := [] }
noncomputable def impl_Store_thing (k : Nat) : (QT7 × (Int × Int × Unit) × Unit) → Option QT26 := fun x => match x with
 | (s_, t, ()) =>
  br k (t.1 == 1)
  (some ((t.2.1, ()), ((), (), ())))
  (br k (t.1 == 2)
  (br k (decide (0 ≤ t.2.1))
  (bd k (s_.1[t.2.1.toNat]?) fun x1 =>
  some ((x1, ()), ((), (), ())))
  none)
  (br k (t.1 == 3)
  (br k (decide (0 ≤ t.2.1))
  (bd k (s_.2.1[t.2.1.toNat]?) fun x2 =>
  bd k (impl_truth k (x2, ())) fun y3 =>
  some ((y3.1.1, ()), ((), (), ())))
  none)
  (bd k (impl_truth k (t.1 == 4, ())) fun y4 =>
  some ((y4.1.1, ()), ((), (), ())))))
noncomputable def impl_Store_thing.sg (k : Nat) : Sig := ⟨impl_Store_thing.A, impl_Store_thing.R, impl_Store_thing k⟩
noncomputable def impl_Store_thing.C (k : Nat) : Ctx := ⟨Tryz.prog, [(120, [impl_truth.sg k])], k, [], []⟩
theorem impl_Store_thing.ev (k : Nat) (x : impl_Store_thing.A.T) : evFunc (impl_Store_thing.C k) impl_Store_thing.ann Tryz.f95 impl_Store_thing.A impl_Store_thing.R x = impl_Store_thing k x := by kernel_rfl
theorem impl_Store_thing.ok {L : List (Nat × Obj)}  (k : Nat) : SigHolds Tryz.prog L 95 (impl_Store_thing.sg k) :=
  sig_of_ev (C := impl_Store_thing.C k) (holds_cons (allok_cons (impl_truth.ok k) allok_nil) holds_nil) (by kernel_rfl) Tryz.func95 (by kernel_rfl) _ _ _ (fun x y h => (impl_Store_thing.ev k x).trans h) (by kernel_rfl)
end Go.Pev.F
