/-
  Printed by gen.py: what functions of the program compute, and that they do.
-/
import Derived.Test.YtamhcmffadindaaGreatDoorK06
open Go.Proofs Go.Pev
namespace Go.Pev.F
set_option maxRecDepth 100000
set_option linter.unusedVariables false

/-! (loop.example/g00719/impl.Decl).kindOf -/
def impl_Decl_kindOf.A : Sh := (.cons (.pur (.cons (.sl false .str) (.cons (.sl false .str) (.cons (.sl false (.cons .str (.cons (.int .i64) .nil))) .nil)))) (.cons (.pur (.sl false (.cons (.int .i64) (.cons (.int .i64) .nil)))) .nil))
def impl_Decl_kindOf.R : Sh := (.cons (.pur (.int .i64)) .nil)
def impl_Decl_kindOf.ann : Ann := { loops := [(0, [(5, (.own (.int .i64))), (20, (.pur (.sl false (.cons (.int .i64) (.cons (.int .i64) .nil))))), (21, (.pur (.int .i64))), (22, (.pur (.int .i64)))])], joins := [(9, [(43, .bool)])], keys := [(11, [([], false), ([], false), ([5], false), ([7], false), ([7], false), ([], false), ([50], true), ([5, 50, 51], true), ([], false)])] }
noncomputable def impl_Decl_kindOf.l0 (k : Nat)  (G0 : ((List Int) × (List (Int × Int × Unit)) × Int × Int × Unit) → Option ((Int × Unit) × (Unit × Unit × Unit))) : ((List Int) × (List (Int × Int × Unit)) × Int × Int × Unit) → Option ((Int × Unit) × (Unit × Unit × Unit)) := fun x => match x with
 | (pile, t20, t21, t22, ()) =>
  br k (decide (t22 < t21))
  (br k (decide (0 ≤ t22))
  (bd k (t20[t22.toNat]?) fun x2 =>
  bd k (impl_takes k (x2.1, ())) fun y3 =>
  (br k (decide ((IntKind.wrap .i64 ((pile.length : Int) - (y3.1.1.length : Int))) < 0))
  (some (true, ()))
  (br k (decide (0 ≤ (IntKind.wrap .i64 ((pile.length : Int) - (y3.1.1.length : Int))) ∧ (IntKind.wrap .i64 ((pile.length : Int) - (y3.1.1.length : Int))) ≤ (pile.length : Int)))
  (bd k (slices_Equal_int64_int64 k (subL pile ((IntKind.wrap .i64 ((pile.length : Int) - (y3.1.1.length : Int))).toNat) ((pile.length : Int).toNat - (IntKind.wrap .i64 ((pile.length : Int) - (y3.1.1.length : Int))).toNat), y3.1.1, ())) fun y4 =>
  some (!y4.1.1, ()))
  none) : Option (Bool × Unit)).bind fun j5 =>
  br k (j5.1)
  (some ((0, ()), ((), (), ())))
  (br k (decide (0 ≤ (IntKind.wrap .i64 ((pile.length : Int) - (y3.1.1.length : Int))) ∧ (IntKind.wrap .i64 ((pile.length : Int) - (y3.1.1.length : Int))) ≤ (pile.length : Int)))
  (bd k (impl_leaves k (x2.1, ())) fun y6 =>
  br k (decide (((subL pile ((0 : Int).toNat) ((IntKind.wrap .i64 ((pile.length : Int) - (y3.1.1.length : Int))).toNat - (0 : Int).toNat)).length + ([y6.1.1] : List Int).length) * 8 ≤ maxBytes))
  (G0 ((subL pile ((0 : Int).toNat) ((IntKind.wrap .i64 ((pile.length : Int) - (y3.1.1.length : Int))).toNat - (0 : Int).toNat)) ++ ([y6.1.1] : List Int), t20, t21, IntKind.wrap .i64 (t22 + 1), ()))
  none)
  none))
  none)
  (br k ((pile.length : Int) != 1)
  (some ((0, ()), ((), (), ())))
  (br k (decide (0 ≤ (0 : Int) ∧ (0 : Int) < (pile.length : Int)))
  (bd k (pile[(0 : Int).toNat]?) fun x7 =>
  some ((x7, ()), ((), (), ())))
  none))
noncomputable def impl_Decl_kindOf (k : Nat) : (((List (List UInt8)) × (List (List UInt8)) × (List ((List UInt8) × Int × Unit)) × Unit) × (List (Int × Int × Unit)) × Unit) → Option ((Int × Unit) × (Unit × Unit × Unit)) := fun x => match x with
 | (d_, l_, ()) =>
  br k (decide ((l_.length : Int) > 40))
  (some ((0, ()), ((), (), ())))
  (bd k (impl_areAll_impl_Tok k (l_, (d_, ()), ())) fun y1 =>
  br k (!y1.1.1)
  (some ((0, ()), ((), (), ())))
  (iter (impl_Decl_kindOf.l0 k) k ([], l_, (l_.length : Int), 0, ())))
noncomputable def impl_Decl_kindOf.sg (k : Nat) : Sig := ⟨impl_Decl_kindOf.A, impl_Decl_kindOf.R, impl_Decl_kindOf k⟩
noncomputable def impl_Decl_kindOf.C (k : Nat) : Ctx := ⟨Tryz.prog, [(135, [impl_areAll_impl_Tok.sg k]), (137, [impl_takes.sg k]), (138, [slices_Equal_int64_int64.sg k]), (139, [impl_leaves.sg k])], k⟩
theorem impl_Decl_kindOf.ev (k : Nat) (x : impl_Decl_kindOf.A.T) : evFunc (impl_Decl_kindOf.C k) impl_Decl_kindOf.ann Tryz.f101 impl_Decl_kindOf.A impl_Decl_kindOf.R x = impl_Decl_kindOf k x := by kernel_rfl
theorem impl_Decl_kindOf.ok {L : List (Nat × Obj)}  (k : Nat) : SigHolds Tryz.prog L 101 (impl_Decl_kindOf.sg k) :=
  sig_of_ev (C := impl_Decl_kindOf.C k) (holds_cons (allok_cons (impl_areAll_impl_Tok.ok k) allok_nil) (holds_cons (allok_cons (impl_takes.ok k) allok_nil) (holds_cons (allok_cons (slices_Equal_int64_int64.ok k) allok_nil) (holds_cons (allok_cons (impl_leaves.ok k) allok_nil) holds_nil)))) (by kernel_rfl) Tryz.func101 (by kernel_rfl) impl_Decl_kindOf.ann impl_Decl_kindOf.A impl_Decl_kindOf.R (fun x y h => (impl_Decl_kindOf.ev k x).trans h) (by kernel_rfl)

/-! (loop.example/g00719/impl.Line).areEnds -/
def impl_Line_areEnds.A : Sh := (.cons (.pur (.cons (.int .i64) (.cons (.int .i64) (.cons (.sl false (.cons (.int .i64) (.cons (.int .i64) .nil))) (.cons (.sl false (.cons (.int .i64) (.cons (.int .i64) .nil))) (.cons (.int .i64) (.cons (.int .i64) .nil))))))) .nil)
def impl_Line_areEnds.R : Sh := (.cons (.pur .bool) .nil)
def impl_Line_areEnds.ann : Ann := { loops := [], joins := [(1, [(2, .bool)])], keys := [] }
noncomputable def impl_Line_areEnds (k : Nat) : ((Int × Int × (List (Int × Int × Unit)) × (List (Int × Int × Unit)) × Int × Int × Unit) × Unit) → Option ((Bool × Unit) × (Unit × Unit)) := fun x => match x with
 | (n, ()) =>
  (bd k (impl_within k (n.2.2.2.2.1, (-999999999999999999), n.2.2.2.2.2.1, ())) fun y1 =>
  br k (y1.1.1)
  (some (decide (n.2.2.2.2.2.1 ≤ 999999999999999999), ()))
  (some (false, ())) : Option (Bool × Unit)).bind fun j2 =>
  some ((j2.1, ()), ((), ()))
noncomputable def impl_Line_areEnds.sg (k : Nat) : Sig := ⟨impl_Line_areEnds.A, impl_Line_areEnds.R, impl_Line_areEnds k⟩
noncomputable def impl_Line_areEnds.C (k : Nat) : Ctx := ⟨Tryz.prog, [(29, [impl_within.sg k])], k⟩
theorem impl_Line_areEnds.ev (k : Nat) (x : impl_Line_areEnds.A.T) : evFunc (impl_Line_areEnds.C k) impl_Line_areEnds.ann Tryz.f104 impl_Line_areEnds.A impl_Line_areEnds.R x = impl_Line_areEnds k x := by kernel_rfl
theorem impl_Line_areEnds.ok {L : List (Nat × Obj)}  (k : Nat) : SigHolds Tryz.prog L 104 (impl_Line_areEnds.sg k) :=
  sig_of_ev (C := impl_Line_areEnds.C k) (holds_cons (allok_cons (impl_within.ok k) allok_nil) holds_nil) (by kernel_rfl) Tryz.func104 (by kernel_rfl) impl_Line_areEnds.ann impl_Line_areEnds.A impl_Line_areEnds.R (fun x y h => (impl_Line_areEnds.ev k x).trans h) (by kernel_rfl)

/-! (loop.example/g00719/impl.Line).isPlain -/
def impl_Line_isPlain.A : Sh := (.cons (.pur (.cons (.int .i64) (.cons (.int .i64) (.cons (.sl false (.cons (.int .i64) (.cons (.int .i64) .nil))) (.cons (.sl false (.cons (.int .i64) (.cons (.int .i64) .nil))) (.cons (.int .i64) (.cons (.int .i64) .nil))))))) .nil)
def impl_Line_isPlain.R : Sh := (.cons (.pur .bool) .nil)
def impl_Line_isPlain.ann : Ann := { loops := [], joins := [(1, [(2, .bool)])], keys := [] }
noncomputable def impl_Line_isPlain (k : Nat) : ((Int × Int × (List (Int × Int × Unit)) × (List (Int × Int × Unit)) × Int × Int × Unit) × Unit) → Option ((Bool × Unit) × (Unit × Unit)) := fun x => match x with
 | (n, ()) =>
  (br k (n.2.1 == 0)
  (br k ((n.2.2.1.length : Int) == 0)
  (br k ((n.2.2.2.1.length : Int) == 0)
  (br k (n.2.2.2.2.1 == 0)
  (some (n.2.2.2.2.2.1 == 0, ()))
  (some (false, ())))
  (some (false, ())))
  (some (false, ())))
  (some (false, ())) : Option (Bool × Unit)).bind fun j1 =>
  some ((j1.1, ()), ((), ()))
noncomputable def impl_Line_isPlain.sg (k : Nat) : Sig := ⟨impl_Line_isPlain.A, impl_Line_isPlain.R, impl_Line_isPlain k⟩
noncomputable def impl_Line_isPlain.C (k : Nat) : Ctx := ⟨Tryz.prog, [], k⟩
theorem impl_Line_isPlain.ev (k : Nat) (x : impl_Line_isPlain.A.T) : evFunc (impl_Line_isPlain.C k) impl_Line_isPlain.ann Tryz.f105 impl_Line_isPlain.A impl_Line_isPlain.R x = impl_Line_isPlain k x := by kernel_rfl
theorem impl_Line_isPlain.ok {L : List (Nat × Obj)}  (k : Nat) : SigHolds Tryz.prog L 105 (impl_Line_isPlain.sg k) :=
  sig_of_ev (C := impl_Line_isPlain.C k) holds_nil (by kernel_rfl) Tryz.func105 (by kernel_rfl) impl_Line_isPlain.ann impl_Line_isPlain.A impl_Line_isPlain.R (fun x y h => (impl_Line_isPlain.ev k x).trans h) (by kernel_rfl)

/-! (loop.example/g00719/impl.Decl).isLine -/
def impl_Decl_isLine.A : Sh := (.cons (.pur (.cons (.sl false .str) (.cons (.sl false .str) (.cons (.sl false (.cons .str (.cons (.int .i64) .nil))) .nil)))) (.cons (.pur (.cons (.int .i64) (.cons (.int .i64) (.cons (.sl false (.cons (.int .i64) (.cons (.int .i64) .nil))) (.cons (.sl false (.cons (.int .i64) (.cons (.int .i64) .nil))) (.cons (.int .i64) (.cons (.int .i64) .nil))))))) .nil))
def impl_Decl_isLine.R : Sh := (.cons (.pur .bool) .nil)
def impl_Decl_isLine.ann : Ann := { loops := [], joins := [(2, [(32, .bool)]), (18, [(85, .bool)]), (19, [(7, .bool)]), (21, [(4, .bool)])], keys := [(11, [([3], false), ([3], false), ([2], false), ([2], false), ([], false), ([], false), ([], false), ([], false), ([6], false), ([6], true)]), (13, [([3], false), ([3], false), ([2], false), ([2], false), ([], false), ([], false), ([], false), ([], false), ([6], false), ([6], true)]), (15, [([3], false), ([3], false), ([2], false), ([2], false), ([], false), ([], false), ([], false), ([], false), ([6], false), ([6], true), ([6], false), ([6], true)])], heads := [(7, [(2, (.box (.cons (.pur (.sl false .str)) (.cons (.pur (.sl false .str)) (.cons (.pur (.sl false (.cons .str (.cons (.int .i64) .nil)))) .nil))))), (3, (.box (.cons (.pur (.int .i64)) (.cons (.pur (.int .i64)) (.cons (.pur (.sl false (.cons (.int .i64) (.cons (.int .i64) .nil)))) (.cons (.pur (.sl false (.cons (.int .i64) (.cons (.int .i64) .nil)))) (.cons (.pur (.int .i64)) (.cons (.pur (.int .i64)) .nil)))))))), (6, (.box (.cons (.pur (.int .i64)) (.cons (.pur (.int .i64)) (.cons (.pur (.sl false (.cons (.int .i64) (.cons (.int .i64) .nil)))) (.cons (.pur (.sl false (.cons (.int .i64) (.cons (.int .i64) .nil)))) (.cons (.pur (.int .i64)) (.cons (.pur (.int .i64)) .nil)))))))), (7, (.pur .bool))]), (11, [(2, (.box (.cons (.pur (.sl false .str)) (.cons (.pur (.sl false .str)) (.cons (.pur (.sl false (.cons .str (.cons (.int .i64) .nil)))) .nil))))), (3, (.box (.cons (.pur (.int .i64)) (.cons (.pur (.int .i64)) (.cons (.pur (.sl false (.cons (.int .i64) (.cons (.int .i64) .nil)))) (.cons (.pur (.sl false (.cons (.int .i64) (.cons (.int .i64) .nil)))) (.cons (.pur (.int .i64)) (.cons (.pur (.int .i64)) .nil)))))))), (6, (.box (.cons (.pur (.int .i64)) (.cons (.pur (.int .i64)) (.cons (.pur (.sl false (.cons (.int .i64) (.cons (.int .i64) .nil)))) (.cons (.pur (.sl false (.cons (.int .i64) (.cons (.int .i64) .nil)))) (.cons (.pur (.int .i64)) (.cons (.pur (.int .i64)) .nil))))))))]), (12, [(2, (.box (.cons (.pur (.sl false .str)) (.cons (.pur (.sl false .str)) (.cons (.pur (.sl false (.cons .str (.cons (.int .i64) .nil)))) .nil))))), (3, (.box (.cons (.pur (.int .i64)) (.cons (.pur (.int .i64)) (.cons (.pur (.sl false (.cons (.int .i64) (.cons (.int .i64) .nil)))) (.cons (.pur (.sl false (.cons (.int .i64) (.cons (.int .i64) .nil)))) (.cons (.pur (.int .i64)) (.cons (.pur (.int .i64)) .nil)))))))), (6, (.box (.cons (.pur (.int .i64)) (.cons (.pur (.int .i64)) (.cons (.pur (.sl false (.cons (.int .i64) (.cons (.int .i64) .nil)))) (.cons (.pur (.sl false (.cons (.int .i64) (.cons (.int .i64) .nil)))) (.cons (.pur (.int .i64)) (.cons (.pur (.int .i64)) .nil)))))))), (7, (.pur .bool)), (38, (.pur (.int .i64)))])] }
noncomputable def impl_Decl_isLine.h11 (k : Nat)  : (((List (List UInt8)) × (List (List UInt8)) × (List ((List UInt8) × Int × Unit)) × Unit) × (Int × Int × (List (Int × Int × Unit)) × (List (Int × Int × Unit)) × Int × Int × Unit) × (Int × Int × (List (Int × Int × Unit)) × (List (Int × Int × Unit)) × Int × Int × Unit) × Unit) → Option ((Bool × Unit) × (Unit × Unit × Unit)) := fun x => match x with
 | ((d__0, d__1, d__2, ()), (n_0, n_1, n_2, n_3, n_4, n_5, ()), (rest__0, rest__1, rest__2, rest__3, rest__4, rest__5, ()), ()) =>
  bd k (impl_size_string k (d__0, ())) fun y6 =>
  bd k (impl_within k (n_1, 0, IntKind.wrap .i64 (y6.1.1 - 1), ())) fun y7 =>
  (br k (n_0 == 4)
  (some (true, ()))
  (some (n_0 == 13, ())) : Option (Bool × Unit)).bind fun j8 =>
  br k (j8.1)
  ((br k (y7.1.1)
  (bd k (impl_Line_areEnds k ((n_0, n_1, n_2, n_3, n_4, n_5, ()), ())) fun y9 =>
  br k (y9.1.1)
  (br k (n_0 == 4)
  (some (true, ()))
  (some (decide ((IntKind.wrap .i64 (n_5 - n_4)) ≤ 3), ())))
  (some (false, ())))
  (some (false, ())) : Option (Bool × Unit)).bind fun j10 =>
  (br k (j10.1)
  (bd k (impl_within k (n_0, 1, 14, ())) fun y11 =>
  br k (y11.1.1)
  (bd k (impl_Line_isPlain k ((rest__0, 0, rest__2, rest__3, 0, 0, ()), ())) fun y12 =>
  some (y12.1.1, ()))
  (some (false, ())))
  (some (false, ())) : Option (Bool × Unit)).bind fun j13 =>
  some ((j13.1, ()), ((), (), ())))
  ((br k (y7.1.1)
  (bd k (impl_within k (n_0, 1, 14, ())) fun y14 =>
  br k (y14.1.1)
  (bd k (impl_Line_isPlain k ((rest__0, 0, rest__2, rest__3, rest__4, rest__5, ()), ())) fun y15 =>
  some (y15.1.1, ()))
  (some (false, ())))
  (some (false, ())) : Option (Bool × Unit)).bind fun j16 =>
  some ((j16.1, ()), ((), (), ())))
noncomputable def impl_Decl_isLine.h12 (k : Nat)  : (((List (List UInt8)) × (List (List UInt8)) × (List ((List UInt8) × Int × Unit)) × Unit) × (Int × Int × (List (Int × Int × Unit)) × (List (Int × Int × Unit)) × Int × Int × Unit) × (Int × Int × (List (Int × Int × Unit)) × (List (Int × Int × Unit)) × Int × Int × Unit) × Bool × Int × Unit) → Option ((Bool × Unit) × (Unit × Unit × Unit)) := fun x => match x with
 | ((d__0, d__1, d__2, ()), (n_0, n_1, n_2, n_3, n_4, n_5, ()), (rest__0, rest__1, rest__2, rest__3, rest__4, rest__5, ()), isRight, t38, ()) =>
  br k (t38 == 2)
  (bd k (impl_size_string k (d__1, ())) fun y17 =>
  bd k (impl_within k (n_1, 0, IntKind.wrap .i64 (y17.1.1 - 1), ())) fun y18 =>
  (br k (n_0 == 4)
  (some (true, ()))
  (some (n_0 == 13, ())) : Option (Bool × Unit)).bind fun j19 =>
  br k (j19.1)
  ((br k (y18.1.1)
  (bd k (impl_Line_areEnds k ((n_0, n_1, n_2, n_3, n_4, n_5, ()), ())) fun y20 =>
  br k (y20.1.1)
  (br k (n_0 == 4)
  (some (true, ()))
  (some (decide ((IntKind.wrap .i64 (n_5 - n_4)) ≤ 3), ())))
  (some (false, ())))
  (some (false, ())) : Option (Bool × Unit)).bind fun j21 =>
  (br k (j21.1)
  (bd k (impl_within k (n_0, 1, 14, ())) fun y22 =>
  br k (y22.1.1)
  (bd k (impl_Line_isPlain k ((rest__0, 0, rest__2, rest__3, 0, 0, ()), ())) fun y23 =>
  some (y23.1.1, ()))
  (some (false, ())))
  (some (false, ())) : Option (Bool × Unit)).bind fun j24 =>
  some ((j24.1, ()), ((), (), ())))
  ((br k (y18.1.1)
  (bd k (impl_within k (n_0, 1, 14, ())) fun y25 =>
  br k (y25.1.1)
  (bd k (impl_Line_isPlain k ((rest__0, 0, rest__2, rest__3, rest__4, rest__5, ()), ())) fun y26 =>
  some (y26.1.1, ()))
  (some (false, ())))
  (some (false, ())) : Option (Bool × Unit)).bind fun j27 =>
  some ((j27.1, ()), ((), (), ()))))
  (br k (t38 == 3)
  (bd k (impl_size_impl_Arr k (d__2, ())) fun y28 =>
  bd k (impl_within k (n_1, 0, IntKind.wrap .i64 (y28.1.1 - 1), ())) fun y29 =>
  (br k (n_0 == 4)
  (some (true, ()))
  (some (n_0 == 13, ())) : Option (Bool × Unit)).bind fun j30 =>
  br k (j30.1)
  ((br k (y29.1.1)
  (bd k (impl_Line_areEnds k ((n_0, n_1, n_2, n_3, n_4, n_5, ()), ())) fun y31 =>
  br k (y31.1.1)
  (br k (n_0 == 4)
  (some (true, ()))
  (some (decide ((IntKind.wrap .i64 (n_5 - n_4)) ≤ 3), ())))
  (some (false, ())))
  (some (false, ())) : Option (Bool × Unit)).bind fun j32 =>
  (br k (j32.1)
  (bd k (impl_within k (n_0, 1, 14, ())) fun y33 =>
  br k (y33.1.1)
  (bd k (impl_Line_isPlain k ((rest__0, 0, [], rest__3, 0, 0, ()), ())) fun y34 =>
  some (y34.1.1, ()))
  (some (false, ())))
  (some (false, ())) : Option (Bool × Unit)).bind fun j35 =>
  some ((j35.1, ()), ((), (), ())))
  ((br k (y29.1.1)
  (bd k (impl_within k (n_0, 1, 14, ())) fun y36 =>
  br k (y36.1.1)
  (bd k (impl_Line_isPlain k ((rest__0, 0, [], rest__3, rest__4, rest__5, ()), ())) fun y37 =>
  some (y37.1.1, ()))
  (some (false, ())))
  (some (false, ())) : Option (Bool × Unit)).bind fun j38 =>
  some ((j38.1, ()), ((), (), ()))))
  (br k (t38 == 10)
  (bd k (impl_within k (n_4, 1, 3, ())) fun y39 =>
  (br k (n_0 == 4)
  (some (true, ()))
  (some (n_0 == 13, ())) : Option (Bool × Unit)).bind fun j40 =>
  br k (j40.1)
  ((br k (y39.1.1)
  (bd k (impl_Line_areEnds k ((n_0, n_1, n_2, n_3, n_4, n_5, ()), ())) fun y41 =>
  br k (y41.1.1)
  (br k (n_0 == 4)
  (some (true, ()))
  (some (decide ((IntKind.wrap .i64 (n_5 - n_4)) ≤ 3), ())))
  (some (false, ())))
  (some (false, ())) : Option (Bool × Unit)).bind fun j42 =>
  (br k (j42.1)
  (bd k (impl_within k (n_0, 1, 14, ())) fun y43 =>
  br k (y43.1.1)
  (bd k (impl_Line_isPlain k ((rest__0, rest__1, rest__2, rest__3, 0, 0, ()), ())) fun y44 =>
  some (y44.1.1, ()))
  (some (false, ())))
  (some (false, ())) : Option (Bool × Unit)).bind fun j45 =>
  some ((j45.1, ()), ((), (), ())))
  ((br k (y39.1.1)
  (bd k (impl_within k (n_0, 1, 14, ())) fun y46 =>
  br k (y46.1.1)
  (bd k (impl_Line_isPlain k ((rest__0, rest__1, rest__2, rest__3, 0, rest__5, ()), ())) fun y47 =>
  some (y47.1.1, ()))
  (some (false, ())))
  (some (false, ())) : Option (Bool × Unit)).bind fun j48 =>
  some ((j48.1, ()), ((), (), ()))))
  ((br k (n_0 == 4)
  (some (true, ()))
  (some (n_0 == 13, ())) : Option (Bool × Unit)).bind fun j49 =>
  br k (j49.1)
  ((br k (isRight)
  (bd k (impl_Line_areEnds k ((n_0, n_1, n_2, n_3, n_4, n_5, ()), ())) fun y50 =>
  br k (y50.1.1)
  (br k (n_0 == 4)
  (some (true, ()))
  (some (decide ((IntKind.wrap .i64 (n_5 - n_4)) ≤ 3), ())))
  (some (false, ())))
  (some (false, ())) : Option (Bool × Unit)).bind fun j51 =>
  (br k (j51.1)
  (bd k (impl_within k (n_0, 1, 14, ())) fun y52 =>
  br k (y52.1.1)
  (bd k (impl_Line_isPlain k ((rest__0, rest__1, rest__2, rest__3, 0, 0, ()), ())) fun y53 =>
  some (y53.1.1, ()))
  (some (false, ())))
  (some (false, ())) : Option (Bool × Unit)).bind fun j54 =>
  some ((j54.1, ()), ((), (), ())))
  ((br k (isRight)
  (bd k (impl_within k (n_0, 1, 14, ())) fun y55 =>
  br k (y55.1.1)
  (bd k (impl_Line_isPlain k ((rest__0, rest__1, rest__2, rest__3, rest__4, rest__5, ()), ())) fun y56 =>
  some (y56.1.1, ()))
  (some (false, ())))
  (some (false, ())) : Option (Bool × Unit)).bind fun j57 =>
  some ((j57.1, ()), ((), (), ()))))))
noncomputable def impl_Decl_isLine.h7 (k : Nat)  : (((List (List UInt8)) × (List (List UInt8)) × (List ((List UInt8) × Int × Unit)) × Unit) × (Int × Int × (List (Int × Int × Unit)) × (List (Int × Int × Unit)) × Int × Int × Unit) × (Int × Int × (List (Int × Int × Unit)) × (List (Int × Int × Unit)) × Int × Int × Unit) × Bool × Unit) → Option ((Bool × Unit) × (Unit × Unit × Unit)) := fun x => match x with
 | ((d__0, d__1, d__2, ()), (n_0, n_1, n_2, n_3, n_4, n_5, ()), (rest__0, rest__1, rest__2, rest__3, rest__4, rest__5, ()), isRight, ()) =>
  br k (n_0 == 1)
  (br k (n_0 == 1)
  (jn k (impl_Decl_isLine.h11 k) ((d__0, d__1, d__2, ()), (n_0, n_1, n_2, n_3, n_4, n_5, ()), (rest__0, rest__1, rest__2, rest__3, rest__4, rest__5, ()), ()))
  (jn k (impl_Decl_isLine.h12 k) ((d__0, d__1, d__2, ()), (n_0, n_1, n_2, n_3, n_4, n_5, ()), (rest__0, rest__1, rest__2, rest__3, rest__4, rest__5, ()), isRight, n_0, ())))
  (br k (n_0 == 4)
  (br k (n_0 == 4)
  (jn k (impl_Decl_isLine.h11 k) ((d__0, d__1, d__2, ()), (n_0, n_1, n_2, n_3, n_4, n_5, ()), (rest__0, rest__1, rest__2, rest__3, rest__4, rest__5, ()), ()))
  (jn k (impl_Decl_isLine.h12 k) ((d__0, d__1, d__2, ()), (n_0, n_1, n_2, n_3, n_4, n_5, ()), (rest__0, rest__1, rest__2, rest__3, rest__4, rest__5, ()), isRight, n_0, ())))
  (br k (n_0 == 13)
  (jn k (impl_Decl_isLine.h11 k) ((d__0, d__1, d__2, ()), (n_0, n_1, n_2, n_3, n_4, n_5, ()), (rest__0, rest__1, rest__2, rest__3, rest__4, rest__5, ()), ()))
  (jn k (impl_Decl_isLine.h12 k) ((d__0, d__1, d__2, ()), (n_0, n_1, n_2, n_3, n_4, n_5, ()), (rest__0, rest__1, rest__2, rest__3, rest__4, rest__5, ()), isRight, n_0, ()))))
noncomputable def impl_Decl_isLine (k : Nat) : (((List (List UInt8)) × (List (List UInt8)) × (List ((List UInt8) × Int × Unit)) × Unit) × (Int × Int × (List (Int × Int × Unit)) × (List (Int × Int × Unit)) × Int × Int × Unit) × Unit) → Option ((Bool × Unit) × (Unit × Unit × Unit)) := fun x => match x with
 | (d_, n, ()) =>
  bd k (impl_kindOfE k (n.1, ())) fun y1 =>
  (br k (decide (y1.1.1 > 0))
  (bd k (impl_Decl_kindOf k (d_, n.2.2.2.1, ())) fun y2 =>
  br k (y2.1.1 != y1.1.1)
  (some (true, ()))
  (br k (n.1 == 3)
  (bd k (impl_Decl_kindOf k (d_, n.2.2.1, ())) fun y3 =>
  some (y3.1.1 != 1, ()))
  (some (false, ()))))
  (br k (n.1 == 3)
  (bd k (impl_Decl_kindOf k (d_, n.2.2.1, ())) fun y4 =>
  some (y4.1.1 != 1, ()))
  (some (false, ()))) : Option (Bool × Unit)).bind fun j5 =>
  br k (j5.1)
  (some ((false, ()), ((), (), ())))
  (br k (decide (y1.1.1 > 0))
  (jn k (impl_Decl_isLine.h7 k) ((d_.1, d_.2.1, d_.2.2.1, ()), (n.1, n.2.1, n.2.2.1, n.2.2.2.1, n.2.2.2.2.1, n.2.2.2.2.2.1, ()), (n.1, n.2.1, n.2.2.1, [], n.2.2.2.2.1, n.2.2.2.2.2.1, ()), true, ()))
  (jn k (impl_Decl_isLine.h7 k) ((d_.1, d_.2.1, d_.2.2.1, ()), (n.1, n.2.1, n.2.2.1, n.2.2.2.1, n.2.2.2.2.1, n.2.2.2.2.2.1, ()), (n.1, n.2.1, n.2.2.1, n.2.2.2.1, n.2.2.2.2.1, n.2.2.2.2.2.1, ()), true, ())))
noncomputable def impl_Decl_isLine.sg (k : Nat) : Sig := ⟨impl_Decl_isLine.A, impl_Decl_isLine.R, impl_Decl_isLine k⟩
noncomputable def impl_Decl_isLine.C (k : Nat) : Ctx := ⟨Tryz.prog, [(100, [impl_kindOfE.sg k]), (101, [impl_Decl_kindOf.sg k]), (102, [impl_size_string.sg k]), (29, [impl_within.sg k]), (104, [impl_Line_areEnds.sg k]), (105, [impl_Line_isPlain.sg k]), (103, [impl_size_impl_Arr.sg k])], k⟩
theorem impl_Decl_isLine.ev (k : Nat) (x : impl_Decl_isLine.A.T) : evFunc (impl_Decl_isLine.C k) impl_Decl_isLine.ann Tryz.f63 impl_Decl_isLine.A impl_Decl_isLine.R x = impl_Decl_isLine k x := by kernel_rfl
theorem impl_Decl_isLine.ok {L : List (Nat × Obj)}  (k : Nat) : SigHolds Tryz.prog L 63 (impl_Decl_isLine.sg k) :=
  sig_of_ev (C := impl_Decl_isLine.C k) (holds_cons (allok_cons (impl_kindOfE.ok k) allok_nil) (holds_cons (allok_cons (impl_Decl_kindOf.ok k) allok_nil) (holds_cons (allok_cons (impl_size_string.ok k) allok_nil) (holds_cons (allok_cons (impl_within.ok k) allok_nil) (holds_cons (allok_cons (impl_Line_areEnds.ok k) allok_nil) (holds_cons (allok_cons (impl_Line_isPlain.ok k) allok_nil) (holds_cons (allok_cons (impl_size_impl_Arr.ok k) allok_nil) holds_nil))))))) (by kernel_rfl) Tryz.func63 (by kernel_rfl) impl_Decl_isLine.ann impl_Decl_isLine.A impl_Decl_isLine.R (fun x y h => (impl_Decl_isLine.ev k x).trans h) (by kernel_rfl)

/-! loop.example/g00719/impl.areAll[loop.example/g00719/impl.Line]$1 -/
def impl_areAll_impl_Line_1.A : Sh := (.cons (.pur (.cons (.int .i64) (.cons (.int .i64) (.cons (.sl false (.cons (.int .i64) (.cons (.int .i64) .nil))) (.cons (.sl false (.cons (.int .i64) (.cons (.int .i64) .nil))) (.cons (.int .i64) (.cons (.int .i64) .nil))))))) (.cons (.box (.cons (.fn (.func 63) 1 (.cons (.pur (.cons (.sl false .str) (.cons (.sl false .str) (.cons (.sl false (.cons .str (.cons (.int .i64) .nil))) .nil)))) .nil)) .nil)) .nil))
def impl_areAll_impl_Line_1.R : Sh := (.cons (.pur .bool) .nil)
def impl_areAll_impl_Line_1.ann : Ann := { loops := [], joins := [], keys := [] }
noncomputable def impl_areAll_impl_Line_1 (k : Nat) : ((Int × Int × (List (Int × Int × Unit)) × (List (Int × Int × Unit)) × Int × Int × Unit) × ((((List (List UInt8)) × (List (List UInt8)) × (List ((List UInt8) × Int × Unit)) × Unit) × Unit) × Unit) × Unit) → Option ((Bool × Unit) × (Unit × ((((List (List UInt8)) × (List (List UInt8)) × (List ((List UInt8) × Int × Unit)) × Unit) × Unit) × Unit) × Unit)) := fun x => match x with
 | (x_, ((a1_0_0, ()), ()), ()) =>
  bd k (impl_Decl_isLine k (a1_0_0, x_, ())) fun y1 =>
  some ((!y1.1.1, ()), ((), ((a1_0_0, ()), ()), ()))
noncomputable def impl_areAll_impl_Line_1.sg (k : Nat) : Sig := ⟨impl_areAll_impl_Line_1.A, impl_areAll_impl_Line_1.R, impl_areAll_impl_Line_1 k⟩
noncomputable def impl_areAll_impl_Line_1.C (k : Nat) : Ctx := ⟨Tryz.prog, [(63, [impl_Decl_isLine.sg k])], k⟩
theorem impl_areAll_impl_Line_1.ev (k : Nat) (x : impl_areAll_impl_Line_1.A.T) : evFunc (impl_areAll_impl_Line_1.C k) impl_areAll_impl_Line_1.ann Tryz.f99 impl_areAll_impl_Line_1.A impl_areAll_impl_Line_1.R x = impl_areAll_impl_Line_1 k x := by kernel_rfl
theorem impl_areAll_impl_Line_1.ok {L : List (Nat × Obj)}  (k : Nat) : SigHolds Tryz.prog L 99 (impl_areAll_impl_Line_1.sg k) :=
  sig_of_ev (C := impl_areAll_impl_Line_1.C k) (holds_cons (allok_cons (impl_Decl_isLine.ok k) allok_nil) holds_nil) (by kernel_rfl) Tryz.func99 (by kernel_rfl) impl_areAll_impl_Line_1.ann impl_areAll_impl_Line_1.A impl_areAll_impl_Line_1.R (fun x y h => (impl_areAll_impl_Line_1.ev k x).trans h) (by kernel_rfl)

/-! slices.IndexFunc[[]loop.example/g00719/impl.Line,loop.example/g00719/impl.Line] -/
def slices_IndexFunc_impl_Line_impl_Line.A : Sh := (.cons (.pur (.sl false (.cons (.int .i64) (.cons (.int .i64) (.cons (.sl false (.cons (.int .i64) (.cons (.int .i64) .nil))) (.cons (.sl false (.cons (.int .i64) (.cons (.int .i64) .nil))) (.cons (.int .i64) (.cons (.int .i64) .nil)))))))) (.cons (.fn (.func 99) 0 (.cons (.box (.cons (.fn (.func 63) 1 (.cons (.pur (.cons (.sl false .str) (.cons (.sl false .str) (.cons (.sl false (.cons .str (.cons (.int .i64) .nil))) .nil)))) .nil)) .nil)) .nil)) .nil))
def slices_IndexFunc_impl_Line_impl_Line.R : Sh := (.cons (.pur (.int .i64)) .nil)
def slices_IndexFunc_impl_Line_impl_Line.ann : Ann := { loops := [(0, [(0, (.pur (.sl false (.cons (.int .i64) (.cons (.int .i64) (.cons (.sl false (.cons (.int .i64) (.cons (.int .i64) .nil))) (.cons (.sl false (.cons (.int .i64) (.cons (.int .i64) .nil))) (.cons (.int .i64) (.cons (.int .i64) .nil))))))))), (1, (.fn (.func 99) 0 (.cons (.box (.cons (.fn (.func 63) 1 (.cons (.pur (.cons (.sl false .str) (.cons (.sl false .str) (.cons (.sl false (.cons .str (.cons (.int .i64) .nil))) .nil)))) .nil)) .nil)) .nil))), (7, (.pur (.int .i64))), (8, (.pur (.int .i64)))])], joins := [], keys := [] }
noncomputable def slices_IndexFunc_impl_Line_impl_Line.l0 (k : Nat)  (G0 : ((List (Int × Int × (List (Int × Int × Unit)) × (List (Int × Int × Unit)) × Int × Int × Unit)) × (((((List (List UInt8)) × (List (List UInt8)) × (List ((List UInt8) × Int × Unit)) × Unit) × Unit) × Unit) × Unit) × Int × Int × Unit) → Option ((Int × Unit) × (Unit × (((((List (List UInt8)) × (List (List UInt8)) × (List ((List UInt8) × Int × Unit)) × Unit) × Unit) × Unit) × Unit) × Unit))) : ((List (Int × Int × (List (Int × Int × Unit)) × (List (Int × Int × Unit)) × Int × Int × Unit)) × (((((List (List UInt8)) × (List (List UInt8)) × (List ((List UInt8) × Int × Unit)) × Unit) × Unit) × Unit) × Unit) × Int × Int × Unit) → Option ((Int × Unit) × (Unit × (((((List (List UInt8)) × (List (List UInt8)) × (List ((List UInt8) × Int × Unit)) × Unit) × Unit) × Unit) × Unit) × Unit)) := fun x => match x with
 | (s_, (((f_0_0_0, ()), ()), ()), t7, t8, ()) =>
  br k (decide (t8 < t7))
  (br k (decide (0 ≤ t8))
  (bd k (s_[t8.toNat]?) fun x1 =>
  bd k (impl_areAll_impl_Line_1 k (x1, ((f_0_0_0, ()), ()), ())) fun y2 =>
  br k (y2.1.1)
  (some ((t8, ()), ((), (((y2.2.2.1.1.1, ()), ()), ()), ())))
  (G0 (s_, (((y2.2.2.1.1.1, ()), ()), ()), t7, IntKind.wrap .i64 (t8 + 1), ())))
  none)
  (some (((-1), ()), ((), (((f_0_0_0, ()), ()), ()), ())))
noncomputable def slices_IndexFunc_impl_Line_impl_Line (k : Nat) : ((List (Int × Int × (List (Int × Int × Unit)) × (List (Int × Int × Unit)) × Int × Int × Unit)) × (((((List (List UInt8)) × (List (List UInt8)) × (List ((List UInt8) × Int × Unit)) × Unit) × Unit) × Unit) × Unit) × Unit) → Option ((Int × Unit) × (Unit × (((((List (List UInt8)) × (List (List UInt8)) × (List ((List UInt8) × Int × Unit)) × Unit) × Unit) × Unit) × Unit) × Unit)) := fun x => match x with
 | (s_, (((f_0_0_0, ()), ()), ()), ()) =>
  iter (slices_IndexFunc_impl_Line_impl_Line.l0 k) k (s_, (((f_0_0_0, ()), ()), ()), (s_.length : Int), 0, ())
noncomputable def slices_IndexFunc_impl_Line_impl_Line.sg (k : Nat) : Sig := ⟨slices_IndexFunc_impl_Line_impl_Line.A, slices_IndexFunc_impl_Line_impl_Line.R, slices_IndexFunc_impl_Line_impl_Line k⟩
noncomputable def slices_IndexFunc_impl_Line_impl_Line.C (k : Nat) : Ctx := ⟨Tryz.prog, [(99, [impl_areAll_impl_Line_1.sg k])], k⟩
theorem slices_IndexFunc_impl_Line_impl_Line.ev (k : Nat) (x : slices_IndexFunc_impl_Line_impl_Line.A.T) : evFunc (slices_IndexFunc_impl_Line_impl_Line.C k) slices_IndexFunc_impl_Line_impl_Line.ann Tryz.f134 slices_IndexFunc_impl_Line_impl_Line.A slices_IndexFunc_impl_Line_impl_Line.R x = slices_IndexFunc_impl_Line_impl_Line k x := by kernel_rfl
theorem slices_IndexFunc_impl_Line_impl_Line.ok {L : List (Nat × Obj)}  (k : Nat) : SigHolds Tryz.prog L 134 (slices_IndexFunc_impl_Line_impl_Line.sg k) :=
  sig_of_ev (C := slices_IndexFunc_impl_Line_impl_Line.C k) (holds_cons (allok_cons (impl_areAll_impl_Line_1.ok k) allok_nil) holds_nil) (by kernel_rfl) Tryz.func134 (by kernel_rfl) slices_IndexFunc_impl_Line_impl_Line.ann slices_IndexFunc_impl_Line_impl_Line.A slices_IndexFunc_impl_Line_impl_Line.R (fun x y h => (slices_IndexFunc_impl_Line_impl_Line.ev k x).trans h) (by kernel_rfl)

/-! slices.ContainsFunc[[]loop.example/g00719/impl.Line,loop.example/g00719/impl.Line] -/
def slices_ContainsFunc_impl_Line_impl_Line.A : Sh := (.cons (.pur (.sl false (.cons (.int .i64) (.cons (.int .i64) (.cons (.sl false (.cons (.int .i64) (.cons (.int .i64) .nil))) (.cons (.sl false (.cons (.int .i64) (.cons (.int .i64) .nil))) (.cons (.int .i64) (.cons (.int .i64) .nil)))))))) (.cons (.fn (.func 99) 0 (.cons (.box (.cons (.fn (.func 63) 1 (.cons (.pur (.cons (.sl false .str) (.cons (.sl false .str) (.cons (.sl false (.cons .str (.cons (.int .i64) .nil))) .nil)))) .nil)) .nil)) .nil)) .nil))
def slices_ContainsFunc_impl_Line_impl_Line.R : Sh := (.cons (.pur .bool) .nil)
def slices_ContainsFunc_impl_Line_impl_Line.ann : Ann := { loops := [], joins := [], keys := [] }
noncomputable def slices_ContainsFunc_impl_Line_impl_Line (k : Nat) : ((List (Int × Int × (List (Int × Int × Unit)) × (List (Int × Int × Unit)) × Int × Int × Unit)) × (((((List (List UInt8)) × (List (List UInt8)) × (List ((List UInt8) × Int × Unit)) × Unit) × Unit) × Unit) × Unit) × Unit) → Option ((Bool × Unit) × (Unit × (((((List (List UInt8)) × (List (List UInt8)) × (List ((List UInt8) × Int × Unit)) × Unit) × Unit) × Unit) × Unit) × Unit)) := fun x => match x with
 | (s_, (((f_0_0_0, ()), ()), ()), ()) =>
  bd k (slices_IndexFunc_impl_Line_impl_Line k (s_, (((f_0_0_0, ()), ()), ()), ())) fun y1 =>
  some ((decide (y1.1.1 ≥ 0), ()), ((), (((y1.2.2.1.1.1.1, ()), ()), ()), ()))
noncomputable def slices_ContainsFunc_impl_Line_impl_Line.sg (k : Nat) : Sig := ⟨slices_ContainsFunc_impl_Line_impl_Line.A, slices_ContainsFunc_impl_Line_impl_Line.R, slices_ContainsFunc_impl_Line_impl_Line k⟩
noncomputable def slices_ContainsFunc_impl_Line_impl_Line.C (k : Nat) : Ctx := ⟨Tryz.prog, [(134, [slices_IndexFunc_impl_Line_impl_Line.sg k])], k⟩
theorem slices_ContainsFunc_impl_Line_impl_Line.ev (k : Nat) (x : slices_ContainsFunc_impl_Line_impl_Line.A.T) : evFunc (slices_ContainsFunc_impl_Line_impl_Line.C k) slices_ContainsFunc_impl_Line_impl_Line.ann Tryz.f98 slices_ContainsFunc_impl_Line_impl_Line.A slices_ContainsFunc_impl_Line_impl_Line.R x = slices_ContainsFunc_impl_Line_impl_Line k x := by kernel_rfl
theorem slices_ContainsFunc_impl_Line_impl_Line.ok {L : List (Nat × Obj)}  (k : Nat) : SigHolds Tryz.prog L 98 (slices_ContainsFunc_impl_Line_impl_Line.sg k) :=
  sig_of_ev (C := slices_ContainsFunc_impl_Line_impl_Line.C k) (holds_cons (allok_cons (slices_IndexFunc_impl_Line_impl_Line.ok k) allok_nil) holds_nil) (by kernel_rfl) Tryz.func98 (by kernel_rfl) slices_ContainsFunc_impl_Line_impl_Line.ann slices_ContainsFunc_impl_Line_impl_Line.A slices_ContainsFunc_impl_Line_impl_Line.R (fun x y h => (slices_ContainsFunc_impl_Line_impl_Line.ev k x).trans h) (by kernel_rfl)

/-! loop.example/g00719/impl.areAll[loop.example/g00719/impl.Line] -/
def impl_areAll_impl_Line.A : Sh := (.cons (.pur (.sl false (.cons (.int .i64) (.cons (.int .i64) (.cons (.sl false (.cons (.int .i64) (.cons (.int .i64) .nil))) (.cons (.sl false (.cons (.int .i64) (.cons (.int .i64) .nil))) (.cons (.int .i64) (.cons (.int .i64) .nil)))))))) (.cons (.fn (.func 63) 1 (.cons (.pur (.cons (.sl false .str) (.cons (.sl false .str) (.cons (.sl false (.cons .str (.cons (.int .i64) .nil))) .nil)))) .nil)) .nil))
def impl_areAll_impl_Line.R : Sh := (.cons (.pur .bool) .nil)
def impl_areAll_impl_Line.ann : Ann := { loops := [], joins := [], keys := [] }
noncomputable def impl_areAll_impl_Line (k : Nat) : ((List (Int × Int × (List (Int × Int × Unit)) × (List (Int × Int × Unit)) × Int × Int × Unit)) × (((List (List UInt8)) × (List (List UInt8)) × (List ((List UInt8) × Int × Unit)) × Unit) × Unit) × Unit) → Option ((Bool × Unit) × (Unit × (Unit × Unit) × Unit)) := fun x => match x with
 | (list, (is_0, ()), ()) =>
  bd k (slices_ContainsFunc_impl_Line_impl_Line k (list, (((is_0, ()), ()), ()), ())) fun y1 =>
  some ((!y1.1.1, ()), ((), ((), ()), ()))
noncomputable def impl_areAll_impl_Line.sg (k : Nat) : Sig := ⟨impl_areAll_impl_Line.A, impl_areAll_impl_Line.R, impl_areAll_impl_Line k⟩
noncomputable def impl_areAll_impl_Line.C (k : Nat) : Ctx := ⟨Tryz.prog, [(98, [slices_ContainsFunc_impl_Line_impl_Line.sg k])], k⟩
theorem impl_areAll_impl_Line.ev (k : Nat) (x : impl_areAll_impl_Line.A.T) : evFunc (impl_areAll_impl_Line.C k) impl_areAll_impl_Line.ann Tryz.f62 impl_areAll_impl_Line.A impl_areAll_impl_Line.R x = impl_areAll_impl_Line k x := by kernel_rfl
theorem impl_areAll_impl_Line.ok {L : List (Nat × Obj)}  (k : Nat) : SigHolds Tryz.prog L 62 (impl_areAll_impl_Line.sg k) :=
  sig_of_ev (C := impl_areAll_impl_Line.C k) (holds_cons (allok_cons (slices_ContainsFunc_impl_Line_impl_Line.ok k) allok_nil) holds_nil) (by kernel_rfl) Tryz.func62 (by kernel_rfl) impl_areAll_impl_Line.ann impl_areAll_impl_Line.A impl_areAll_impl_Line.R (fun x y h => (impl_areAll_impl_Line.ev k x).trans h) (by kernel_rfl)

/-! (loop.example/g00719/impl.Line).isChoice -/
def impl_Line_isChoice.A : Sh := (.cons (.pur (.cons (.int .i64) (.cons (.int .i64) (.cons (.sl false (.cons (.int .i64) (.cons (.int .i64) .nil))) (.cons (.sl false (.cons (.int .i64) (.cons (.int .i64) .nil))) (.cons (.int .i64) (.cons (.int .i64) .nil))))))) .nil)
def impl_Line_isChoice.R : Sh := (.cons (.pur .bool) .nil)
def impl_Line_isChoice.ann : Ann := { loops := [], joins := [(1, [(2, .bool)])], keys := [] }
noncomputable def impl_Line_isChoice (k : Nat) : ((Int × Int × (List (Int × Int × Unit)) × (List (Int × Int × Unit)) × Int × Int × Unit) × Unit) → Option ((Bool × Unit) × (Unit × Unit)) := fun x => match x with
 | (n, ()) =>
  (br k (n.1 == 5)
  (some (true, ()))
  (some (n.1 == 6, ())) : Option (Bool × Unit)).bind fun j1 =>
  some ((j1.1, ()), ((), ()))
noncomputable def impl_Line_isChoice.sg (k : Nat) : Sig := ⟨impl_Line_isChoice.A, impl_Line_isChoice.R, impl_Line_isChoice k⟩
noncomputable def impl_Line_isChoice.C (k : Nat) : Ctx := ⟨Tryz.prog, [], k⟩
theorem impl_Line_isChoice.ev (k : Nat) (x : impl_Line_isChoice.A.T) : evFunc (impl_Line_isChoice.C k) impl_Line_isChoice.ann Tryz.f140 impl_Line_isChoice.A impl_Line_isChoice.R x = impl_Line_isChoice k x := by kernel_rfl
theorem impl_Line_isChoice.ok {L : List (Nat × Obj)}  (k : Nat) : SigHolds Tryz.prog L 140 (impl_Line_isChoice.sg k) :=
  sig_of_ev (C := impl_Line_isChoice.C k) holds_nil (by kernel_rfl) Tryz.func140 (by kernel_rfl) impl_Line_isChoice.ann impl_Line_isChoice.A impl_Line_isChoice.R (fun x y h => (impl_Line_isChoice.ev k x).trans h) (by kernel_rfl)

/-! (loop.example/g00719/impl.Line).isLoop -/
def impl_Line_isLoop.A : Sh := (.cons (.pur (.cons (.int .i64) (.cons (.int .i64) (.cons (.sl false (.cons (.int .i64) (.cons (.int .i64) .nil))) (.cons (.sl false (.cons (.int .i64) (.cons (.int .i64) .nil))) (.cons (.int .i64) (.cons (.int .i64) .nil))))))) .nil)
def impl_Line_isLoop.R : Sh := (.cons (.pur .bool) .nil)
def impl_Line_isLoop.ann : Ann := { loops := [], joins := [(1, [(2, .bool)])], keys := [] }
noncomputable def impl_Line_isLoop (k : Nat) : ((Int × Int × (List (Int × Int × Unit)) × (List (Int × Int × Unit)) × Int × Int × Unit) × Unit) → Option ((Bool × Unit) × (Unit × Unit)) := fun x => match x with
 | (n, ()) =>
  (br k (n.1 == 9)
  (some (true, ()))
  (some (n.1 == 10, ())) : Option (Bool × Unit)).bind fun j1 =>
  some ((j1.1, ()), ((), ()))
noncomputable def impl_Line_isLoop.sg (k : Nat) : Sig := ⟨impl_Line_isLoop.A, impl_Line_isLoop.R, impl_Line_isLoop k⟩
noncomputable def impl_Line_isLoop.C (k : Nat) : Ctx := ⟨Tryz.prog, [], k⟩
theorem impl_Line_isLoop.ev (k : Nat) (x : impl_Line_isLoop.A.T) : evFunc (impl_Line_isLoop.C k) impl_Line_isLoop.ann Tryz.f107 impl_Line_isLoop.A impl_Line_isLoop.R x = impl_Line_isLoop k x := by kernel_rfl
theorem impl_Line_isLoop.ok {L : List (Nat × Obj)}  (k : Nat) : SigHolds Tryz.prog L 107 (impl_Line_isLoop.sg k) :=
  sig_of_ev (C := impl_Line_isLoop.C k) holds_nil (by kernel_rfl) Tryz.func107 (by kernel_rfl) impl_Line_isLoop.ann impl_Line_isLoop.A impl_Line_isLoop.R (fun x y h => (impl_Line_isLoop.ev k x).trans h) (by kernel_rfl)

/-! (*loop.example/g00719/impl.frames).next -/
def impl_frames_next.A : Sh := (.cons (.box (.cons (.own (.cons (.int .i64) (.cons (.int .i64) .nil))) .nil)) (.cons (.pur (.sl false (.cons (.int .i64) (.cons (.int .i64) (.cons (.sl false (.cons (.int .i64) (.cons (.int .i64) .nil))) (.cons (.sl false (.cons (.int .i64) (.cons (.int .i64) .nil))) (.cons (.int .i64) (.cons (.int .i64) .nil)))))))) (.cons (.pur (.int .i64)) .nil)))
def impl_frames_next.R : Sh := (.cons (.pur (.cons (.int .i64) (.cons (.int .i64) .nil))) (.cons (.pur .bool) .nil))
def impl_frames_next.ann : Ann := { loops := [], joins := [(3, [(21, .bool)]), (6, [(70, .bool)])], keys := [] }
noncomputable def impl_frames_next (k : Nat) : (((List (Int × Int × Unit)) × Unit) × (List (Int × Int × (List (Int × Int × Unit)) × (List (Int × Int × Unit)) × Int × Int × Unit)) × Int × Unit) → Option (((Int × Int × Unit) × Bool × Unit) × (((List (Int × Int × Unit)) × Unit) × Unit × Unit × Unit)) := fun x => match x with
 | ((f_0, ()), list, at_, ()) =>
  br k (decide (0 ≤ at_))
  (bd k (list[at_.toNat]?) fun x1 =>
  (bd k (impl_Line_isChoice k (x1, ())) fun y2 =>
  br k (y2.1.1)
  (some (true, ()))
  (bd k (impl_Line_isLoop k (x1, ())) fun y3 =>
  some (y3.1.1, ())) : Option (Bool × Unit)).bind fun j4 =>
  br k (j4.1)
  (br k (decide ((f_0.length + ([(at_, (-1), ())] : List (Int × Int × Unit)).length) * 16 ≤ maxBytes))
  (some ((((-1), (-1), ()), true, ()), ((f_0 ++ ([(at_, (-1), ())] : List (Int × Int × Unit)), ()), (), (), ())))
  none)
  (br k (x1.1 == 7)
  ((br k (decide ((IntKind.wrap .i64 ((f_0.length : Int) - 1)) < 0))
  (some (true, ()))
  (br k (decide (0 ≤ (IntKind.wrap .i64 ((f_0.length : Int) - 1)) ∧ (IntKind.wrap .i64 ((f_0.length : Int) - 1)) < (f_0.length : Int)))
  (bd k (f_0[(IntKind.wrap .i64 ((f_0.length : Int) - 1)).toNat]?) fun x5 =>
  br k (decide (0 ≤ x5.1))
  (bd k (list[x5.1.toNat]?) fun x6 =>
  bd k (impl_Line_isChoice k (x6, ())) fun y7 =>
  br k (!y7.1.1)
  (some (true, ()))
  (br k (decide (0 ≤ (IntKind.wrap .i64 ((f_0.length : Int) - 1)) ∧ (IntKind.wrap .i64 ((f_0.length : Int) - 1)) < (f_0.length : Int)))
  (bd k (f_0[(IntKind.wrap .i64 ((f_0.length : Int) - 1)).toNat]?) fun x8 =>
  some (decide (x8.2.1 ≥ 0), ()))
  none))
  none)
  none) : Option (Bool × Unit)).bind fun j9 =>
  br k (j9.1)
  (some (((0, 0, ()), false, ()), ((f_0, ()), (), (), ())))
  (br k (decide (0 ≤ (IntKind.wrap .i64 ((f_0.length : Int) - 1)) ∧ (IntKind.wrap .i64 ((f_0.length : Int) - 1)) < (f_0.length : Int)))
  (bd k (f_0[(IntKind.wrap .i64 ((f_0.length : Int) - 1)).toNat]?) fun x10 =>
  some ((((-1), (-1), ()), true, ()), ((f_0.set ((IntKind.wrap .i64 ((f_0.length : Int) - 1)).toNat) (x10.1, at_, ()), ()), (), (), ())))
  none))
  (br k (x1.1 == 8)
  (br k (decide ((IntKind.wrap .i64 ((f_0.length : Int) - 1)) < 0))
  (some (((0, 0, ()), false, ()), ((f_0, ()), (), (), ())))
  (br k (decide (0 ≤ (IntKind.wrap .i64 ((f_0.length : Int) - 1)) ∧ (IntKind.wrap .i64 ((f_0.length : Int) - 1)) < (f_0.length : Int)))
  (bd k (f_0[(IntKind.wrap .i64 ((f_0.length : Int) - 1)).toNat]?) fun x11 =>
  br k (decide (0 ≤ (IntKind.wrap .i64 ((f_0.length : Int) - 1)) ∧ (IntKind.wrap .i64 ((f_0.length : Int) - 1)) ≤ (f_0.length : Int)))
  (some ((x11, true, ()), ((subL f_0 ((0 : Int).toNat) ((IntKind.wrap .i64 ((f_0.length : Int) - 1)).toNat - (0 : Int).toNat), ()), (), (), ())))
  none)
  none))
  (some ((((-1), (-1), ()), true, ()), ((f_0, ()), (), (), ()))))))
  none
noncomputable def impl_frames_next.sg (k : Nat) : Sig := ⟨impl_frames_next.A, impl_frames_next.R, impl_frames_next k⟩
noncomputable def impl_frames_next.C (k : Nat) : Ctx := ⟨Tryz.prog, [(140, [impl_Line_isChoice.sg k]), (107, [impl_Line_isLoop.sg k])], k⟩
theorem impl_frames_next.ev (k : Nat) (x : impl_frames_next.A.T) : evFunc (impl_frames_next.C k) impl_frames_next.ann Tryz.f106 impl_frames_next.A impl_frames_next.R x = impl_frames_next k x := by kernel_rfl
theorem impl_frames_next.ok {L : List (Nat × Obj)}  (k : Nat) : SigHolds Tryz.prog L 106 (impl_frames_next.sg k) :=
  sig_of_ev (C := impl_frames_next.C k) (holds_cons (allok_cons (impl_Line_isChoice.ok k) allok_nil) (holds_cons (allok_cons (impl_Line_isLoop.ok k) allok_nil) holds_nil)) (by kernel_rfl) Tryz.func106 (by kernel_rfl) impl_frames_next.ann impl_frames_next.A impl_frames_next.R (fun x y h => (impl_frames_next.ev k x).trans h) (by kernel_rfl)

/-! loop.example/g00719/impl.targets -/
def impl_targets.A : Sh := (.cons (.pur (.sl false (.cons (.int .i64) (.cons (.int .i64) (.cons (.sl false (.cons (.int .i64) (.cons (.int .i64) .nil))) (.cons (.sl false (.cons (.int .i64) (.cons (.int .i64) .nil))) (.cons (.int .i64) (.cons (.int .i64) .nil)))))))) .nil)
def impl_targets.R : Sh := (.cons (.own (.int .i64)) (.cons (.pur .bool) .nil))
def impl_targets.ann : Ann := { loops := [(0, [(0, (.pur (.sl false (.cons (.int .i64) (.cons (.int .i64) (.cons (.sl false (.cons (.int .i64) (.cons (.int .i64) .nil))) (.cons (.sl false (.cons (.int .i64) (.cons (.int .i64) .nil))) (.cons (.int .i64) (.cons (.int .i64) .nil))))))))), (4, (.own (.int .i64))), (5, (.box (.cons (.own (.cons (.int .i64) (.cons (.int .i64) .nil))) .nil))), (15, (.pur (.int .i64))), (16, (.pur (.int .i64)))])], joins := [], keys := [(13, [([], false), ([7], false), ([7], false), ([], false), ([], false), ([], false), ([], false), ([7], false), ([7], false), ([4], false), ([4], true), ([4], false), ([4], true)]), (15, [([], false), ([7], false), ([7], false), ([], false), ([7], false), ([7], false), ([7], false), ([7], false), ([], false), ([], false), ([4], false), ([4], true), ([4], false), ([4], true)])] }
noncomputable def impl_targets.l0 (k : Nat)  (G0 : ((List (Int × Int × (List (Int × Int × Unit)) × (List (Int × Int × Unit)) × Int × Int × Unit)) × (List Int) × ((List (Int × Int × Unit)) × Unit) × Int × Int × Unit) → Option (((List Int) × Bool × Unit) × (Unit × Unit))) : ((List (Int × Int × (List (Int × Int × Unit)) × (List (Int × Int × Unit)) × Int × Int × Unit)) × (List Int) × ((List (Int × Int × Unit)) × Unit) × Int × Int × Unit) → Option (((List Int) × Bool × Unit) × (Unit × Unit)) := fun x => match x with
 | (list, out_, (f_0, ()), t15, t16, ()) =>
  br k (decide (t16 < t15))
  (br k (decide (0 ≤ t16 ∧ t16 < (out_.length : Int)))
  (bd k (out_[t16.toNat]?) fun x1 =>
  bd k (impl_frames_next k ((f_0, ()), list, t16, ())) fun y2 =>
  br k (!y2.1.2.1)
  (some (([], false, ()), ((), ())))
  (br k (decide (0 ≤ t16))
  (bd k (list[t16.toNat]?) fun x3 =>
  br k (x3.1 != 8)
  (G0 (list, out_.set t16.toNat (IntKind.wrap .i64 (t16 + 1)), (y2.2.1.1, ()), t15, IntKind.wrap .i64 (t16 + 1), ()))
  (br k (decide (0 ≤ y2.1.1.1 ∧ y2.1.1.1 < ((out_.set t16.toNat (IntKind.wrap .i64 (t16 + 1))).length : Int)))
  (bd k ((out_.set t16.toNat (IntKind.wrap .i64 (t16 + 1)))[y2.1.1.1.toNat]?) fun x4 =>
  br k (decide (0 ≤ y2.1.1.1))
  (bd k (list[y2.1.1.1.toNat]?) fun x5 =>
  bd k (impl_Line_isLoop k (x5, ())) fun y6 =>
  br k (y6.1.1)
  (br k (decide (0 ≤ y2.1.1.1 ∧ y2.1.1.1 < (((out_.set t16.toNat (IntKind.wrap .i64 (t16 + 1))).set y2.1.1.1.toNat t16).length : Int)))
  (bd k (((out_.set t16.toNat (IntKind.wrap .i64 (t16 + 1))).set y2.1.1.1.toNat t16)[y2.1.1.1.toNat]?) fun x7 =>
  br k (decide (0 ≤ t16 ∧ t16 < ((((out_.set t16.toNat (IntKind.wrap .i64 (t16 + 1))).set y2.1.1.1.toNat t16).set y2.1.1.1.toNat (IntKind.wrap .i64 (t16 + 1))).length : Int)))
  (bd k ((((out_.set t16.toNat (IntKind.wrap .i64 (t16 + 1))).set y2.1.1.1.toNat t16).set y2.1.1.1.toNat (IntKind.wrap .i64 (t16 + 1)))[t16.toNat]?) fun x8 =>
  G0 (list, (((out_.set t16.toNat (IntKind.wrap .i64 (t16 + 1))).set y2.1.1.1.toNat t16).set y2.1.1.1.toNat (IntKind.wrap .i64 (t16 + 1))).set t16.toNat y2.1.1.1, (y2.2.1.1, ()), t15, IntKind.wrap .i64 (t16 + 1), ()))
  none)
  none)
  (br k (decide (y2.1.1.2.1 ≥ 0))
  (br k (decide (0 ≤ y2.1.1.1 ∧ y2.1.1.1 < (((out_.set t16.toNat (IntKind.wrap .i64 (t16 + 1))).set y2.1.1.1.toNat t16).length : Int)))
  (bd k (((out_.set t16.toNat (IntKind.wrap .i64 (t16 + 1))).set y2.1.1.1.toNat t16)[y2.1.1.1.toNat]?) fun x9 =>
  br k (decide (0 ≤ y2.1.1.2.1 ∧ y2.1.1.2.1 < ((((out_.set t16.toNat (IntKind.wrap .i64 (t16 + 1))).set y2.1.1.1.toNat t16).set y2.1.1.1.toNat (IntKind.wrap .i64 (y2.1.1.2.1 + 1))).length : Int)))
  (bd k ((((out_.set t16.toNat (IntKind.wrap .i64 (t16 + 1))).set y2.1.1.1.toNat t16).set y2.1.1.1.toNat (IntKind.wrap .i64 (y2.1.1.2.1 + 1)))[y2.1.1.2.1.toNat]?) fun x10 =>
  G0 (list, (((out_.set t16.toNat (IntKind.wrap .i64 (t16 + 1))).set y2.1.1.1.toNat t16).set y2.1.1.1.toNat (IntKind.wrap .i64 (y2.1.1.2.1 + 1))).set y2.1.1.2.1.toNat t16, (y2.2.1.1, ()), t15, IntKind.wrap .i64 (t16 + 1), ()))
  none)
  none)
  (G0 (list, (out_.set t16.toNat (IntKind.wrap .i64 (t16 + 1))).set y2.1.1.1.toNat t16, (y2.2.1.1, ()), t15, IntKind.wrap .i64 (t16 + 1), ()))))
  none)
  none))
  none))
  none)
  (some ((out_, (f_0.length : Int) == 0, ()), ((), ())))
noncomputable def impl_targets (k : Nat) : ((List (Int × Int × (List (Int × Int × Unit)) × (List (Int × Int × Unit)) × Int × Int × Unit)) × Unit) → Option (((List Int) × Bool × Unit) × (Unit × Unit)) := fun x => match x with
 | (list, ()) =>
  br k (decide (0 ≤ (list.length : Int) ∧ (list.length : Int) ≤ (list.length : Int) ∧ (list.length : Int) * 8 ≤ maxBytes))
  (iter (impl_targets.l0 k) k (list, List.replicate (list.length : Int).toNat (Kd.z (.int .i64)), ([], ()), (list.length : Int), 0, ()))
  none
noncomputable def impl_targets.sg (k : Nat) : Sig := ⟨impl_targets.A, impl_targets.R, impl_targets k⟩
noncomputable def impl_targets.C (k : Nat) : Ctx := ⟨Tryz.prog, [(106, [impl_frames_next.sg k]), (107, [impl_Line_isLoop.sg k])], k⟩
theorem impl_targets.ev (k : Nat) (x : impl_targets.A.T) : evFunc (impl_targets.C k) impl_targets.ann Tryz.f64 impl_targets.A impl_targets.R x = impl_targets k x := by kernel_rfl
theorem impl_targets.ok {L : List (Nat × Obj)}  (k : Nat) : SigHolds Tryz.prog L 64 (impl_targets.sg k) :=
  sig_of_ev (C := impl_targets.C k) (holds_cons (allok_cons (impl_frames_next.ok k) allok_nil) (holds_cons (allok_cons (impl_Line_isLoop.ok k) allok_nil) holds_nil)) (by kernel_rfl) Tryz.func64 (by kernel_rfl) impl_targets.ann impl_targets.A impl_targets.R (fun x y h => (impl_targets.ev k x).trans h) (by kernel_rfl)

/-! (loop.example/g00719/impl.Prog).isRight -/
def impl_Prog_isRight.A : Sh := (.cons (.pur (.cons (.sl false .str) (.cons (.sl false .str) (.cons (.sl false (.cons .str (.cons (.int .i64) .nil))) (.cons (.sl false (.cons (.int .i64) (.cons (.int .i64) (.cons (.sl false (.cons (.int .i64) (.cons (.int .i64) .nil))) (.cons (.sl false (.cons (.int .i64) (.cons (.int .i64) .nil))) (.cons (.int .i64) (.cons (.int .i64) .nil))))))) .nil))))) .nil)
def impl_Prog_isRight.R : Sh := (.cons (.pur .bool) .nil)
def impl_Prog_isRight.ann : Ann := { loops := [], joins := [], keys := [] }
noncomputable def impl_Prog_isRight (k : Nat) : (((List (List UInt8)) × (List (List UInt8)) × (List ((List UInt8) × Int × Unit)) × (List (Int × Int × (List (Int × Int × Unit)) × (List (Int × Int × Unit)) × Int × Int × Unit)) × Unit) × Unit) → Option ((Bool × Unit) × (Unit × Unit)) := fun x => match x with
 | (p, ()) =>
  bd k (impl_Decl_isRight k ((p.1, p.2.1, p.2.2.1, ()), ())) fun y1 =>
  br k (!y1.1.1)
  (some ((false, ()), ((), ())))
  (br k (decide ((p.2.2.2.1.length : Int) > 30))
  (some ((false, ()), ((), ())))
  (bd k (impl_areAll_impl_Line k (p.2.2.2.1, ((p.1, p.2.1, p.2.2.1, ()), ()), ())) fun y2 =>
  br k (!y2.1.1)
  (some ((false, ()), ((), ())))
  (bd k (impl_targets k (p.2.2.2.1, ())) fun y3 =>
  some ((y3.1.2.1, ()), ((), ())))))
noncomputable def impl_Prog_isRight.sg (k : Nat) : Sig := ⟨impl_Prog_isRight.A, impl_Prog_isRight.R, impl_Prog_isRight k⟩
noncomputable def impl_Prog_isRight.C (k : Nat) : Ctx := ⟨Tryz.prog, [(61, [impl_Decl_isRight.sg k]), (62, [impl_areAll_impl_Line.sg k]), (64, [impl_targets.sg k])], k⟩
theorem impl_Prog_isRight.ev (k : Nat) (x : impl_Prog_isRight.A.T) : evFunc (impl_Prog_isRight.C k) impl_Prog_isRight.ann Tryz.f28 impl_Prog_isRight.A impl_Prog_isRight.R x = impl_Prog_isRight k x := by kernel_rfl
theorem impl_Prog_isRight.ok {L : List (Nat × Obj)} (hSp : Lb.NeedSp L) (k : Nat) : SigHolds Tryz.prog L 28 (impl_Prog_isRight.sg k) :=
  sig_of_ev (C := impl_Prog_isRight.C k) (holds_cons (allok_cons (impl_Decl_isRight.ok hSp k) allok_nil) (holds_cons (allok_cons (impl_areAll_impl_Line.ok k) allok_nil) (holds_cons (allok_cons (impl_targets.ok k) allok_nil) holds_nil))) (by kernel_rfl) Tryz.func28 (by kernel_rfl) impl_Prog_isRight.ann impl_Prog_isRight.A impl_Prog_isRight.R (fun x y h => (impl_Prog_isRight.ev k x).trans h) (by kernel_rfl)

/-! loop.example/g00719/impl.size[loop.example/g00719/impl.Row] -/
def impl_size_impl_Row.A : Sh := (.cons (.pur (.sl false (.cons (.sl false (.cons (.sl false (.cons (.int .i64) (.cons (.int .i64) .nil))) (.cons (.sl false (.cons .bool (.cons (.sl false (.cons (.int .i64) (.cons (.int .i64) .nil))) (.cons (.sl false (.cons (.int .i64) (.cons (.int .i64) .nil))) .nil)))) .nil))) .nil))) .nil)
def impl_size_impl_Row.R : Sh := (.cons (.pur (.int .i64)) .nil)
def impl_size_impl_Row.ann : Ann := { loops := [], joins := [], keys := [] }
noncomputable def impl_size_impl_Row (k : Nat) : ((List ((List ((List (Int × Int × Unit)) × (List (Bool × (List (Int × Int × Unit)) × (List (Int × Int × Unit)) × Unit)) × Unit)) × Unit)) × Unit) → Option ((Int × Unit) × (Unit × Unit)) := fun x => match x with
 | (list, ()) =>
  some (((list.length : Int), ()), ((), ()))
noncomputable def impl_size_impl_Row.sg (k : Nat) : Sig := ⟨impl_size_impl_Row.A, impl_size_impl_Row.R, impl_size_impl_Row k⟩
noncomputable def impl_size_impl_Row.C (k : Nat) : Ctx := ⟨Tryz.prog, [], k⟩
theorem impl_size_impl_Row.ev (k : Nat) (x : impl_size_impl_Row.A.T) : evFunc (impl_size_impl_Row.C k) impl_size_impl_Row.ann Tryz.f30 impl_size_impl_Row.A impl_size_impl_Row.R x = impl_size_impl_Row k x := by kernel_rfl
theorem impl_size_impl_Row.ok {L : List (Nat × Obj)}  (k : Nat) : SigHolds Tryz.prog L 30 (impl_size_impl_Row.sg k) :=
  sig_of_ev (C := impl_size_impl_Row.C k) holds_nil (by kernel_rfl) Tryz.func30 (by kernel_rfl) impl_size_impl_Row.ann impl_size_impl_Row.A impl_size_impl_Row.R (fun x y h => (impl_size_impl_Row.ev k x).trans h) (by kernel_rfl)

/-! cmp.isNaN[int] -/
def cmp_isNaN_int.A : Sh := (.cons (.pur (.int .i64)) .nil)
def cmp_isNaN_int.R : Sh := (.cons (.pur .bool) .nil)
def cmp_isNaN_int.ann : Ann := { loops := [], joins := [], keys := [] }
noncomputable def cmp_isNaN_int (k : Nat) : (Int × Unit) → Option ((Bool × Unit) × (Unit × Unit)) := fun x => match x with
 | (x_, ()) =>
  some ((x_ != x_, ()), ((), ()))
noncomputable def cmp_isNaN_int.sg (k : Nat) : Sig := ⟨cmp_isNaN_int.A, cmp_isNaN_int.R, cmp_isNaN_int k⟩
noncomputable def cmp_isNaN_int.C (k : Nat) : Ctx := ⟨Tryz.prog, [], k⟩
theorem cmp_isNaN_int.ev (k : Nat) (x : cmp_isNaN_int.A.T) : evFunc (cmp_isNaN_int.C k) cmp_isNaN_int.ann Tryz.f169 cmp_isNaN_int.A cmp_isNaN_int.R x = cmp_isNaN_int k x := by kernel_rfl
theorem cmp_isNaN_int.ok {L : List (Nat × Obj)}  (k : Nat) : SigHolds Tryz.prog L 169 (cmp_isNaN_int.sg k) :=
  sig_of_ev (C := cmp_isNaN_int.C k) holds_nil (by kernel_rfl) Tryz.func169 (by kernel_rfl) cmp_isNaN_int.ann cmp_isNaN_int.A cmp_isNaN_int.R (fun x y h => (cmp_isNaN_int.ev k x).trans h) (by kernel_rfl)

/-! cmp.Compare[int] -/
def cmp_Compare_int.A : Sh := (.cons (.pur (.int .i64)) (.cons (.pur (.int .i64)) .nil))
def cmp_Compare_int.R : Sh := (.cons (.pur (.int .i64)) .nil)
def cmp_Compare_int.ann : Ann := { loops := [], joins := [], keys := [] }
noncomputable def cmp_Compare_int (k : Nat) : (Int × Int × Unit) → Option ((Int × Unit) × (Unit × Unit × Unit)) := fun x => match x with
 | (x_, y_, ()) =>
  bd k (cmp_isNaN_int k (x_, ())) fun y1 =>
  bd k (cmp_isNaN_int k (y_, ())) fun y2 =>
  br k (y1.1.1)
  (br k (y2.1.1)
  (some ((0, ()), ((), (), ())))
  (some (((-1), ()), ((), (), ()))))
  (br k (y2.1.1)
  (some ((1, ()), ((), (), ())))
  (br k (decide (x_ < y_))
  (some (((-1), ()), ((), (), ())))
  (br k (decide (x_ > y_))
  (some ((1, ()), ((), (), ())))
  (some ((0, ()), ((), (), ()))))))
noncomputable def cmp_Compare_int.sg (k : Nat) : Sig := ⟨cmp_Compare_int.A, cmp_Compare_int.R, cmp_Compare_int k⟩
noncomputable def cmp_Compare_int.C (k : Nat) : Ctx := ⟨Tryz.prog, [(169, [cmp_isNaN_int.sg k])], k⟩
theorem cmp_Compare_int.ev (k : Nat) (x : cmp_Compare_int.A.T) : evFunc (cmp_Compare_int.C k) cmp_Compare_int.ann Tryz.f144 cmp_Compare_int.A cmp_Compare_int.R x = cmp_Compare_int k x := by kernel_rfl
theorem cmp_Compare_int.ok {L : List (Nat × Obj)}  (k : Nat) : SigHolds Tryz.prog L 144 (cmp_Compare_int.sg k) :=
  sig_of_ev (C := cmp_Compare_int.C k) (holds_cons (allok_cons (cmp_isNaN_int.ok k) allok_nil) holds_nil) (by kernel_rfl) Tryz.func144 (by kernel_rfl) cmp_Compare_int.ann cmp_Compare_int.A cmp_Compare_int.R (fun x y h => (cmp_Compare_int.ev k x).trans h) (by kernel_rfl)

/-! cmp.isNaN[int64] -/
def cmp_isNaN_int64.A : Sh := (.cons (.pur (.int .i64)) .nil)
def cmp_isNaN_int64.R : Sh := (.cons (.pur .bool) .nil)
def cmp_isNaN_int64.ann : Ann := { loops := [], joins := [], keys := [] }
noncomputable def cmp_isNaN_int64 (k : Nat) : (Int × Unit) → Option ((Bool × Unit) × (Unit × Unit)) := fun x => match x with
 | (x_, ()) =>
  some ((x_ != x_, ()), ((), ()))
noncomputable def cmp_isNaN_int64.sg (k : Nat) : Sig := ⟨cmp_isNaN_int64.A, cmp_isNaN_int64.R, cmp_isNaN_int64 k⟩
noncomputable def cmp_isNaN_int64.C (k : Nat) : Ctx := ⟨Tryz.prog, [], k⟩
theorem cmp_isNaN_int64.ev (k : Nat) (x : cmp_isNaN_int64.A.T) : evFunc (cmp_isNaN_int64.C k) cmp_isNaN_int64.ann Tryz.f170 cmp_isNaN_int64.A cmp_isNaN_int64.R x = cmp_isNaN_int64 k x := by kernel_rfl
theorem cmp_isNaN_int64.ok {L : List (Nat × Obj)}  (k : Nat) : SigHolds Tryz.prog L 170 (cmp_isNaN_int64.sg k) :=
  sig_of_ev (C := cmp_isNaN_int64.C k) holds_nil (by kernel_rfl) Tryz.func170 (by kernel_rfl) cmp_isNaN_int64.ann cmp_isNaN_int64.A cmp_isNaN_int64.R (fun x y h => (cmp_isNaN_int64.ev k x).trans h) (by kernel_rfl)

/-! cmp.Compare[int64] -/
def cmp_Compare_int64.A : Sh := (.cons (.pur (.int .i64)) (.cons (.pur (.int .i64)) .nil))
def cmp_Compare_int64.R : Sh := (.cons (.pur (.int .i64)) .nil)
def cmp_Compare_int64.ann : Ann := { loops := [], joins := [], keys := [] }
noncomputable def cmp_Compare_int64 (k : Nat) : (Int × Int × Unit) → Option ((Int × Unit) × (Unit × Unit × Unit)) := fun x => match x with
 | (x_, y_, ()) =>
  bd k (cmp_isNaN_int64 k (x_, ())) fun y1 =>
  bd k (cmp_isNaN_int64 k (y_, ())) fun y2 =>
  br k (y1.1.1)
  (br k (y2.1.1)
  (some ((0, ()), ((), (), ())))
  (some (((-1), ()), ((), (), ()))))
  (br k (y2.1.1)
  (some ((1, ()), ((), (), ())))
  (br k (decide (x_ < y_))
  (some (((-1), ()), ((), (), ())))
  (br k (decide (x_ > y_))
  (some ((1, ()), ((), (), ())))
  (some ((0, ()), ((), (), ()))))))
noncomputable def cmp_Compare_int64.sg (k : Nat) : Sig := ⟨cmp_Compare_int64.A, cmp_Compare_int64.R, cmp_Compare_int64 k⟩
noncomputable def cmp_Compare_int64.C (k : Nat) : Ctx := ⟨Tryz.prog, [(170, [cmp_isNaN_int64.sg k])], k⟩
theorem cmp_Compare_int64.ev (k : Nat) (x : cmp_Compare_int64.A.T) : evFunc (cmp_Compare_int64.C k) cmp_Compare_int64.ann Tryz.f147 cmp_Compare_int64.A cmp_Compare_int64.R x = cmp_Compare_int64 k x := by kernel_rfl
theorem cmp_Compare_int64.ok {L : List (Nat × Obj)}  (k : Nat) : SigHolds Tryz.prog L 147 (cmp_Compare_int64.sg k) :=
  sig_of_ev (C := cmp_Compare_int64.C k) (holds_cons (allok_cons (cmp_isNaN_int64.ok k) allok_nil) holds_nil) (by kernel_rfl) Tryz.func147 (by kernel_rfl) cmp_Compare_int64.ann cmp_Compare_int64.A cmp_Compare_int64.R (fun x y h => (cmp_Compare_int64.ev k x).trans h) (by kernel_rfl)

/-! cmp.Or[int] -/
def cmp_Or_int.A : Sh := (.cons (.pur (.sl false (.int .i64))) .nil)
def cmp_Or_int.R : Sh := (.cons (.pur (.int .i64)) .nil)
def cmp_Or_int.ann : Ann := { loops := [(0, [(3, (.pur (.int .i64))), (6, (.pur (.sl false (.int .i64)))), (7, (.pur (.int .i64))), (8, (.pur (.int .i64)))])], joins := [], keys := [] }
noncomputable def cmp_Or_int.l0 (k : Nat)  (G0 : (Int × (List Int) × Int × Int × Unit) → Option ((Int × Unit) × (Unit × Unit))) : (Int × (List Int) × Int × Int × Unit) → Option ((Int × Unit) × (Unit × Unit)) := fun x => match x with
 | (zero, t6, t7, t8, ()) =>
  br k (decide (t8 < t7))
  (br k (decide (0 ≤ t8))
  (bd k (t6[t8.toNat]?) fun x1 =>
  br k (x1 != zero)
  (some ((x1, ()), ((), ())))
  (G0 (zero, t6, t7, IntKind.wrap .i64 (t8 + 1), ())))
  none)
  (some ((zero, ()), ((), ())))
noncomputable def cmp_Or_int (k : Nat) : ((List Int) × Unit) → Option ((Int × Unit) × (Unit × Unit)) := fun x => match x with
 | (vals, ()) =>
  iter (cmp_Or_int.l0 k) k (0, vals, (vals.length : Int), 0, ())
noncomputable def cmp_Or_int.sg (k : Nat) : Sig := ⟨cmp_Or_int.A, cmp_Or_int.R, cmp_Or_int k⟩
noncomputable def cmp_Or_int.C (k : Nat) : Ctx := ⟨Tryz.prog, [], k⟩
theorem cmp_Or_int.ev (k : Nat) (x : cmp_Or_int.A.T) : evFunc (cmp_Or_int.C k) cmp_Or_int.ann Tryz.f143 cmp_Or_int.A cmp_Or_int.R x = cmp_Or_int k x := by kernel_rfl
theorem cmp_Or_int.ok {L : List (Nat × Obj)}  (k : Nat) : SigHolds Tryz.prog L 143 (cmp_Or_int.sg k) :=
  sig_of_ev (C := cmp_Or_int.C k) holds_nil (by kernel_rfl) Tryz.func143 (by kernel_rfl) cmp_Or_int.ann cmp_Or_int.A cmp_Or_int.R (fun x y h => (cmp_Or_int.ev k x).trans h) (by kernel_rfl)

end Go.Pev.F
