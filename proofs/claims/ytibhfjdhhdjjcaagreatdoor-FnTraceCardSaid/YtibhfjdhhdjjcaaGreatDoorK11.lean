/-
  Printed by gen.py: what functions of the program compute, and that they do.
-/
import Derived.Test.YtibhfjdhhdjjcaaGreatDoorK10
set_option linter.unusedSimpArgs false
set_option linter.unusedVariables false
open Go.Proofs Go.Pev
namespace Go.Pev.F
set_option maxRecDepth 100000
variable {L : List (Nat × Obj)}
noncomputable def z167 (k : Nat) : ((List Int) × Unit) → Option QT25 := fun x => match x with
 | (code, ()) =>
  some ((decide ((code.length : Int) > 1048576), ()), ((), ()))
noncomputable def z167.sg (k : Nat) : Sig := ⟨QS59, QS19, z167 k, []⟩
theorem z167.ok (k : Nat) : SigHolds Tryz.prog L 18 (z167.sg k) :=
  soe (C := ⟨Tryz.prog, [], k, [], []⟩) holds_nil Tryz.func18 {} fun _ => by kernel_rfl
noncomputable def z168 (k : Nat) : ((List Int) × Unit) → Option ((QT14 × Unit) × (Unit × Unit)) := fun x => match x with
 | (code, ()) =>
  some (((code, 0, ()), ()), ((), ()))
noncomputable def z168.sg (k : Nat) : Sig := ⟨QS59, (.cons QS23 .nil), z168 k, []⟩
theorem z168.ok (k : Nat) : SigHolds Tryz.prog L 96 (z168.sg k) :=
  soe (C := ⟨Tryz.prog, [], k, [], []⟩) holds_nil Tryz.func96 {} fun _ => by kernel_rfl
noncomputable def z76 (k : Nat) : (QT14 × Unit) → Option ((Int × Unit) × (QT14 × Unit)) := fun x => match x with
 | ((r_0, r_1, ()), ()) =>
  br k (decide (r_1 ≥ (r_0.length : Int)))
  (some ((0, ()), ((r_0, r_1, ()), ())))
  (br k (decide (0 ≤ (IntKind.wrap .i64 ((IntKind.wrap .i64 (r_1 + 1)) - 1))))
  (bd k (r_0[(IntKind.wrap .i64 ((IntKind.wrap .i64 (r_1 + 1)) - 1)).toNat]?) fun x1 =>
  some ((IntKind.wrap .i64 x1, ()), ((r_0, IntKind.wrap .i64 (r_1 + 1), ()), ())))
  none)
noncomputable def z76.sg (k : Nat) : Sig := ⟨(.cons QS23 .nil), QS6, z76 k, []⟩
theorem z76.ok (k : Nat) : SigHolds Tryz.prog L 145 (z76.sg k) :=
  soe (C := ⟨Tryz.prog, [], k, [], []⟩) holds_nil Tryz.func145 {} fun _ => by kernel_rfl
noncomputable def z6 (k : Nat) : (QT14 × Int × Unit) → Option ((Int × Unit) × (QT14 × Unit × Unit)) := fun x => match x with
 | ((r_0, r_1, ()), n, ()) =>
  br k (decide (n ≤ 1))
  (some ((0, ()), ((r_0, r_1, ()), (), ())))
  (br k (decide (n ≤ 256))
  (bd k (z76 k ((r_0, r_1, ()), ())) fun y1 =>
  br k (!decide (n = 0))
  (some ((y1.1.1.tmod n, ()), ((y1.2.1.1, y1.2.1.2.1, ()), (), ())))
  none)
  (bd k (z76 k ((r_0, r_1, ()), ())) fun y2 =>
  bd k (z76 k ((y2.2.1.1, y2.2.1.2.1, ()), ())) fun y3 =>
  br k (!decide (n = 0))
  (some (((IntKind.wrap .i64 ((IntKind.wrap .i64 (y2.1.1 * 256)) + y3.1.1)).tmod n, ()), ((y3.2.1.1, y3.2.1.2.1, ()), (), ())))
  none))
noncomputable def z6.sg (k : Nat) : Sig := ⟨(.cons QS23 QS6), QS6, z6 k, []⟩
theorem z6.ok (k : Nat) : SigHolds Tryz.prog L 100 (z6.sg k) :=
  soe (C := ⟨Tryz.prog, [(145, [z76.sg k])], k, [], []⟩) (hc1 (z76.ok k) holds_nil) Tryz.func100 {} fun _ => by kernel_rfl
noncomputable def z14 (k : Nat) : (QT14 × Int × Unit) → Option ((Bool × Unit) × (QT14 × Unit × Unit)) := fun x => match x with
 | ((r_0, r_1, ()), n, ()) =>
  bd k (z6 k ((r_0, r_1, ()), n, ())) fun y1 =>
  some ((y1.1.1 == (IntKind.wrap .i64 (n - 1)), ()), ((y1.2.1.1, y1.2.1.2.1, ()), (), ()))
noncomputable def z14.sg (k : Nat) : Sig := ⟨(.cons QS23 QS6), QS19, z14 k, []⟩
theorem z14.ok (k : Nat) : SigHolds Tryz.prog L 98 (z14.sg k) :=
  soe (C := ⟨Tryz.prog, [(100, [z6.sg k])], k, [], []⟩) (hc1 (z6.ok k) holds_nil) Tryz.func98 {} fun _ => by kernel_rfl
noncomputable def z169 (k : Nat) : (QT14 × Unit) → Option ((QT2 × Unit) × (QT14 × Unit)) := fun x => match x with
 | ((r_0, r_1, ()), ()) =>
  bd k (z6 k ((r_0, r_1, ()), 4, ())) fun y1 =>
  br k (decide (0 ≤ (IntKind.wrap .i64 (1 + y1.1.1)) ∧ (IntKind.wrap .i64 (1 + y1.1.1)) ≤ (([[120], [121], [105], [110], [107]] : List (List UInt8)).length : Int)))
  (bd k (z6 k ((y1.2.1.1, y1.2.1.2.1, ()), 2, ())) fun y2 =>
  br k (decide (0 ≤ (IntKind.wrap .i64 (1 + y2.1.1)) ∧ (IntKind.wrap .i64 (1 + y2.1.1)) ≤ (([[98], [99], [102]] : List (List UInt8)).length : Int)))
  (bd k (z14 k ((y2.2.1.1, y2.2.1.2.1, ()), 3, ())) fun y3 =>
  br k (y3.1.1)
  (bd k (z6 k ((y3.2.1.1, y3.2.1.2.1, ()), 4, ())) fun y4 =>
  br k (decide (0 ≤ y4.1.1 ∧ y4.1.1 ≤ (([[98], [99], [102]] : List (List UInt8)).length : Int)))
  (bd k (z14 k ((y4.2.1.1, y4.2.1.2.1, ()), 2, ())) fun y5 =>
  br k (y5.1.1)
  (bd k (z6 k ((y5.2.1.1, y5.2.1.2.1, ()), 6, ())) fun y6 =>
  some (((subL ([[120], [121], [105], [110], [107]] : List (List UInt8)) ((0 : Int).toNat) ((IntKind.wrap .i64 (1 + y1.1.1)).toNat - (0 : Int).toNat), subL ([[98], [99], [102]] : List (List UInt8)) ((0 : Int).toNat) (y4.1.1.toNat - (0 : Int).toNat), ([([97], IntKind.wrap .i64 (1 + y6.1.1), ())] : List QT39), ()), ()), ((y6.2.1.1, y6.2.1.2.1, ()), ())))
  (some (((subL ([[120], [121], [105], [110], [107]] : List (List UInt8)) ((0 : Int).toNat) ((IntKind.wrap .i64 (1 + y1.1.1)).toNat - (0 : Int).toNat), subL ([[98], [99], [102]] : List (List UInt8)) ((0 : Int).toNat) (y4.1.1.toNat - (0 : Int).toNat), [], ()), ()), ((y5.2.1.1, y5.2.1.2.1, ()), ()))))
  none)
  (bd k (z14 k ((y3.2.1.1, y3.2.1.2.1, ()), 2, ())) fun y7 =>
  br k (y7.1.1)
  (bd k (z6 k ((y7.2.1.1, y7.2.1.2.1, ()), 6, ())) fun y8 =>
  some (((subL ([[120], [121], [105], [110], [107]] : List (List UInt8)) ((0 : Int).toNat) ((IntKind.wrap .i64 (1 + y1.1.1)).toNat - (0 : Int).toNat), subL ([[98], [99], [102]] : List (List UInt8)) ((0 : Int).toNat) ((IntKind.wrap .i64 (1 + y2.1.1)).toNat - (0 : Int).toNat), ([([97], IntKind.wrap .i64 (1 + y8.1.1), ())] : List QT39), ()), ()), ((y8.2.1.1, y8.2.1.2.1, ()), ())))
  (some (((subL ([[120], [121], [105], [110], [107]] : List (List UInt8)) ((0 : Int).toNat) ((IntKind.wrap .i64 (1 + y1.1.1)).toNat - (0 : Int).toNat), subL ([[98], [99], [102]] : List (List UInt8)) ((0 : Int).toNat) ((IntKind.wrap .i64 (1 + y2.1.1)).toNat - (0 : Int).toNat), [], ()), ()), ((y7.2.1.1, y7.2.1.2.1, ()), ())))))
  none)
  none
noncomputable def z169.sg (k : Nat) : Sig := ⟨(.cons QS23 .nil), (.cons QS4 .nil), z169 k, []⟩
theorem z169.ok (k : Nat) : SigHolds Tryz.prog L 141 (z169.sg k) :=
  soe (C := ⟨Tryz.prog, [(100, [z6.sg k]), (98, [z14.sg k])], k, [], []⟩) (hc1 (z6.ok k) (hc1 (z14.ok k) holds_nil)) Tryz.func141 { keys := [(1, [([4], true), ([], false), ([0, 6], true), ([], false), ([4], false), ([9], true), ([], false), ([0, 11], true), ([], false), ([9], false), ([4, 9], false), ([3], true), ([3, 4, 9], true)])] } fun _ => by kernel_rfl
def z12.A : Sh := (.cons QS23 (.cons QS4 QS6))
def z12.R : Sh := (.cons (.own QK0) .nil)
def z12.ann : Ann := { loops := [], joins := [(2, [(12, .bool)]), (4, [(28, .bool)]), (9, [(47, .bool)])], keys := [(10, [([], false), ([4], false), ([], false), ([], false), ([0, 60], true), ([], false), ([4], false), ([4], false), ([], false), ([0, 65], true), ([], false), ([67], true), ([60, 67, 68], true), ([], false)]), (16, [([], false), ([4], false), ([], false), ([], false), ([0, 92], true), ([], false), ([4], false), ([], false), ([], false), ([0, 97], true), ([92, 97, 98], true), ([], false), ([], false), ([101], true), ([98, 101, 102], true), ([], false)])] }
noncomputable def z12.f (k : Nat) (R_ : QT60 → Option QT46) : QT60 → Option QT46 := fun x => match x with
 | ((r_0, r_1, ()), d_, deep, ()) =>
  bd k (z6 k ((r_0, r_1, ()), 8, ())) fun y1 =>
  (br k (decide (y1.1.1 < 3))
  (some (decide ((d_.1.length : Int) > 0), ()))
  (some (false, ())) : Option (Bool × Unit)).bind fun j2 =>
  br k (j2.1)
  (bd k (z6 k ((y1.2.1.1, y1.2.1.2.1, ()), (d_.1.length : Int), ())) fun y3 =>
  some ((([(2, y3.1.1, ())] : List (Int × Int × Unit)), ()), ((y3.2.1.1, y3.2.1.2.1, ()), (), (), ())))
  ((br k (decide (y1.1.1 < 4))
  (some (true, ()))
  (some (decide (deep ≤ 0), ())) : Option (Bool × Unit)).bind fun j4 =>
  br k (j4.1)
  (bd k (z6 k ((y1.2.1.1, y1.2.1.2.1, ()), 12, ())) fun y5 =>
  bd k (z14 k ((y5.2.1.1, y5.2.1.2.1, ()), 20, ())) fun y6 =>
  br k (y6.1.1)
  (bd k (z6 k ((y6.2.1.1, y6.2.1.2.1, ()), 4, ())) fun y7 =>
  br k (decide (0 ≤ y7.1.1 ∧ y7.1.1 < (([999999999999999999, 999999999999999999, 1000000000000000000, 1000] : List Int).length : Int)))
  (bd k (([999999999999999999, 999999999999999999, 1000000000000000000, 1000] : List Int)[y7.1.1.toNat]?) fun x8 =>
  some ((([(1, x8, ())] : List (Int × Int × Unit)), ()), ((y7.2.1.1, y7.2.1.2.1, ()), (), (), ())))
  none)
  (some ((([(1, y5.1.1, ())] : List (Int × Int × Unit)), ()), ((y6.2.1.1, y6.2.1.2.1, ()), (), (), ()))))
  ((br k (y1.1.1 == 4)
  (some (decide ((d_.2.2.1.length : Int) > 0), ()))
  (some (false, ())) : Option (Bool × Unit)).bind fun j9 =>
  br k (j9.1)
  (bd k (R_ ((y1.2.1.1, y1.2.1.2.1, ()), d_, IntKind.wrap .i64 (deep - 1), ())) fun y10 =>
  bd k (z6 k ((y10.2.1.1, y10.2.1.2.1, ()), (d_.2.2.1.length : Int), ())) fun y11 =>
  br k (decide ((y10.1.1.length + ([(6, y11.1.1, ())] : List (Int × Int × Unit)).length) * 16 ≤ maxBytes))
  (some ((y10.1.1 ++ ([(6, y11.1.1, ())] : List (Int × Int × Unit)), ()), ((y11.2.1.1, y11.2.1.2.1, ()), (), (), ())))
  none)
  (br k (y1.1.1 == 4)
  (bd k (R_ ((y1.2.1.1, y1.2.1.2.1, ()), d_, IntKind.wrap .i64 (deep - 1), ())) fun y12 =>
  br k (decide ((y12.1.1.length + ([(7, 0, ())] : List (Int × Int × Unit)).length) * 16 ≤ maxBytes))
  (some ((y12.1.1 ++ ([(7, 0, ())] : List (Int × Int × Unit)), ()), ((y12.2.1.1, y12.2.1.2.1, ()), (), (), ())))
  none)
  (bd k (z6 k ((y1.2.1.1, y1.2.1.2.1, ()), 3, ())) fun y13 =>
  bd k (z14 k ((y13.2.1.1, y13.2.1.2.1, ()), 4, ())) fun y14 =>
  br k (y14.1.1)
  (bd k (z6 k ((y14.2.1.1, y14.2.1.2.1, ()), 2, ())) fun y15 =>
  bd k (R_ ((y15.2.1.1, y15.2.1.2.1, ()), d_, IntKind.wrap .i64 (deep - 1), ())) fun y16 =>
  bd k (R_ ((y16.2.1.1, y16.2.1.2.1, ()), d_, IntKind.wrap .i64 (deep - 1), ())) fun y17 =>
  br k (decide ((y16.1.1.length + y17.1.1.length) * 16 ≤ maxBytes))
  (br k (decide (((y16.1.1 ++ y17.1.1).length + ([(IntKind.wrap .i64 (11 + y15.1.1), 0, ())] : List (Int × Int × Unit)).length) * 16 ≤ maxBytes))
  (some (((y16.1.1 ++ y17.1.1) ++ ([(IntKind.wrap .i64 (11 + y15.1.1), 0, ())] : List (Int × Int × Unit)), ()), ((y17.2.1.1, y17.2.1.2.1, ()), (), (), ())))
  none)
  none)
  (bd k (R_ ((y14.2.1.1, y14.2.1.2.1, ()), d_, IntKind.wrap .i64 (deep - 1), ())) fun y18 =>
  bd k (R_ ((y18.2.1.1, y18.2.1.2.1, ()), d_, IntKind.wrap .i64 (deep - 1), ())) fun y19 =>
  br k (decide ((y18.1.1.length + y19.1.1.length) * 16 ≤ maxBytes))
  (br k (decide (((y18.1.1 ++ y19.1.1).length + ([(IntKind.wrap .i64 (8 + y13.1.1), 0, ())] : List (Int × Int × Unit)).length) * 16 ≤ maxBytes))
  (some (((y18.1.1 ++ y19.1.1) ++ ([(IntKind.wrap .i64 (8 + y13.1.1), 0, ())] : List (Int × Int × Unit)), ()), ((y19.2.1.1, y19.2.1.2.1, ()), (), (), ())))
  none)
  none)))))
noncomputable def z12 (k : Nat) : QT60 → Option QT46 := iter (z12.f k) k
noncomputable def z12.sg (k : Nat) : Sig := ⟨z12.A, z12.R, z12 k, []⟩
noncomputable def z12.C (k : Nat) (R_ : QT60 → Option QT46) : Ctx := ⟨Tryz.prog, [(100, [z6.sg k]), (98, [z14.sg k]), (257, [⟨z12.A, z12.R, R_, []⟩])], k, [], []⟩
theorem z12.ev (k : Nat) (R_ : QT60 → Option QT46) (x : z12.A.T) : evFunc (z12.C k R_) z12.ann Tryz.f257 z12.A z12.R x = z12.f k R_ x := by kernel_rfl
theorem z12.oks {L : List (Nat × Obj)}  (k : Nat) : (n : Nat) → SigHolds Tryz.prog L 257 ⟨z12.A, z12.R, iter (z12.f k) n, []⟩
  | 0 => sig_zero Tryz.func257 (by kernel_rfl) (by kernel_rfl)
  | n + 1 => have ih := z12.oks  k n
    sig_of_ev (C := z12.C k (iter (z12.f k) n)) (holds_cons (allok_cons (z6.ok k) allok_nil) (holds_cons (allok_cons (z14.ok k) allok_nil) (holds_cons (allok_cons (ih) allok_nil) holds_nil))) (by kernel_rfl) Tryz.func257 (by kernel_rfl) _ _ _ (fun x y h => (z12.ev k _ x).trans h) (by kernel_rfl)
theorem z12.ok (k : Nat) : SigHolds Tryz.prog L 257 (z12.sg k) := z12.oks  k k
def z13.A : Sh := (.cons QS23 (.cons QS4 QS22))
def z13.R : Sh := (.cons (.own QK0) .nil)
def z13.ann : Ann := { loops := [], joins := [(4, [(18, .bool)]), (6, [(38, .bool)]), (8, [(52, .bool)])], keys := [(9, [([], false), ([5], false), ([], false), ([], false), ([0, 63], true), ([], false), ([5], false), ([], false), ([], false), ([0, 68], true), ([63, 68, 69], true), ([], false), ([0, 71], true), ([], false), ([], false), ([74], true), ([69, 74, 75], true), ([], false)]), (13, [([], false), ([5], false), ([], false), ([], false), ([], false), ([0, 96], true), ([], false), ([5], false), ([], false), ([], false), ([], false), ([0, 102], true), ([96, 102, 103], true), ([], false), ([0, 105], true), ([], false), ([], false), ([108], true), ([103, 108, 109], true), ([], false)])] }
noncomputable def z13.f (k : Nat) (R_ : QT35 → Option QT52) : QT35 → Option QT52 := fun x => match x with
 | ((r_0, r_1, ()), d_, kind, deep, ()) =>
  br k (kind == 1)
  (bd k (z12 k ((r_0, r_1, ()), d_, deep, ())) fun y1 =>
  some ((y1.1.1, ()), ((y1.2.1.1, y1.2.1.2.1, ()), (), (), (), ())))
  (bd k (z6 k ((r_0, r_1, ()), 8, ())) fun y2 =>
  (br k (decide (deep ≤ 0))
  (br k (decide ((d_.2.1.length : Int) > 0))
  (some (decide (y2.1.1 < 5), ()))
  (some (false, ())))
  (some (false, ())) : Option (Bool × Unit)).bind fun j3 =>
  br k (j3.1)
  (bd k (z6 k ((y2.2.1.1, y2.2.1.2.1, ()), (d_.2.1.length : Int), ())) fun y4 =>
  some ((([(3, y4.1.1, ())] : List (Int × Int × Unit)), ()), ((y4.2.1.1, y4.2.1.2.1, ()), (), (), (), ())))
  ((br k (decide (deep ≤ 0))
  (some (decide (y2.1.1 < 6), ()))
  (some (false, ())) : Option (Bool × Unit)).bind fun j5 =>
  br k (j5.1)
  (bd k (z6 k ((y2.2.1.1, y2.2.1.2.1, ()), 2, ())) fun y6 =>
  br k (decide (0 ≤ y6.1.1 ∧ y6.1.1 < (([4, 5] : List Int).length : Int)))
  (bd k (([4, 5] : List Int)[y6.1.1.toNat]?) fun x7 =>
  some ((([(x7, 0, ())] : List (Int × Int × Unit)), ()), ((y6.2.1.1, y6.2.1.2.1, ()), (), (), (), ())))
  none)
  ((br k (decide (y2.1.1 < 4))
  (some (true, ()))
  (some (decide (deep ≤ 0), ())) : Option (Bool × Unit)).bind fun j8 =>
  br k (j8.1)
  (bd k (z12 k ((y2.2.1.1, y2.2.1.2.1, ()), d_, IntKind.wrap .i64 (deep - 1), ())) fun y9 =>
  bd k (z12 k ((y9.2.1.1, y9.2.1.2.1, ()), d_, IntKind.wrap .i64 (deep - 1), ())) fun y10 =>
  br k (decide ((y9.1.1.length + y10.1.1.length) * 16 ≤ maxBytes))
  (bd k (z6 k ((y10.2.1.1, y10.2.1.2.1, ()), 6, ())) fun y11 =>
  br k (decide (((y9.1.1 ++ y10.1.1).length + ([(IntKind.wrap .i64 (13 + y11.1.1), 0, ())] : List (Int × Int × Unit)).length) * 16 ≤ maxBytes))
  (some (((y9.1.1 ++ y10.1.1) ++ ([(IntKind.wrap .i64 (13 + y11.1.1), 0, ())] : List (Int × Int × Unit)), ()), ((y11.2.1.1, y11.2.1.2.1, ()), (), (), (), ())))
  none)
  none)
  (br k (y2.1.1 == 4)
  (bd k (R_ ((y2.2.1.1, y2.2.1.2.1, ()), d_, kind, IntKind.wrap .i64 (deep - 1), ())) fun y12 =>
  br k (decide ((y12.1.1.length + ([(19, 0, ())] : List (Int × Int × Unit)).length) * 16 ≤ maxBytes))
  (some ((y12.1.1 ++ ([(19, 0, ())] : List (Int × Int × Unit)), ()), ((y12.2.1.1, y12.2.1.2.1, ()), (), (), (), ())))
  none)
  (br k (decide (y2.1.1 < 7))
  (bd k (R_ ((y2.2.1.1, y2.2.1.2.1, ()), d_, kind, IntKind.wrap .i64 (deep - 1), ())) fun y13 =>
  bd k (R_ ((y13.2.1.1, y13.2.1.2.1, ()), d_, kind, IntKind.wrap .i64 (deep - 1), ())) fun y14 =>
  br k (decide ((y13.1.1.length + y14.1.1.length) * 16 ≤ maxBytes))
  (bd k (z6 k ((y14.2.1.1, y14.2.1.2.1, ()), 2, ())) fun y15 =>
  br k (decide (((y13.1.1 ++ y14.1.1).length + ([(IntKind.wrap .i64 (20 + y15.1.1), 0, ())] : List (Int × Int × Unit)).length) * 16 ≤ maxBytes))
  (some (((y13.1.1 ++ y14.1.1) ++ ([(IntKind.wrap .i64 (20 + y15.1.1), 0, ())] : List (Int × Int × Unit)), ()), ((y15.2.1.1, y15.2.1.2.1, ()), (), (), (), ())))
  none)
  none)
  (bd k (R_ ((y2.2.1.1, y2.2.1.2.1, ()), d_, kind, 0, ())) fun y16 =>
  some ((y16.1.1, ()), ((y16.2.1.1, y16.2.1.2.1, ()), (), (), (), ()))))))))
noncomputable def z13 (k : Nat) : QT35 → Option QT52 := iter (z13.f k) k
noncomputable def z13.sg (k : Nat) : Sig := ⟨z13.A, z13.R, z13 k, []⟩
noncomputable def z13.C (k : Nat) (R_ : QT35 → Option QT52) : Ctx := ⟨Tryz.prog, [(257, [z12.sg k]), (100, [z6.sg k]), (249, [⟨z13.A, z13.R, R_, []⟩])], k, [], []⟩
theorem z13.ev (k : Nat) (R_ : QT35 → Option QT52) (x : z13.A.T) : evFunc (z13.C k R_) z13.ann Tryz.f249 z13.A z13.R x = z13.f k R_ x := by kernel_rfl
theorem z13.oks {L : List (Nat × Obj)}  (k : Nat) : (n : Nat) → SigHolds Tryz.prog L 249 ⟨z13.A, z13.R, iter (z13.f k) n, []⟩
  | 0 => sig_zero Tryz.func249 (by kernel_rfl) (by kernel_rfl)
  | n + 1 => have ih := z13.oks  k n
    sig_of_ev (C := z13.C k (iter (z13.f k) n)) (holds_cons (allok_cons (z12.ok k) allok_nil) (holds_cons (allok_cons (z6.ok k) allok_nil) (holds_cons (allok_cons (ih) allok_nil) holds_nil))) (by kernel_rfl) Tryz.func249 (by kernel_rfl) _ _ _ (fun x y h => (z13.ev k _ x).trans h) (by kernel_rfl)
theorem z13.ok (k : Nat) : SigHolds Tryz.prog L 249 (z13.sg k) := z13.oks  k k
noncomputable def z44 (k : Nat) : QT60 → Option QT46 := fun x => match x with
 | ((r_0, r_1, ()), d_, kind, ()) =>
  bd k (z6 k ((r_0, r_1, ()), 2, ())) fun y1 =>
  bd k (z13 k ((y1.2.1.1, y1.2.1.2.1, ()), d_, kind, IntKind.wrap .i64 (1 + y1.1.1), ())) fun y2 =>
  some ((y2.1.1, ()), ((y2.2.1.1, y2.2.1.2.1, ()), (), (), ()))
noncomputable def z44.sg (k : Nat) : Sig := ⟨(.cons QS23 (.cons QS4 QS6)), (.cons (.own QK0) .nil), z44 k, []⟩
theorem z44.ok (k : Nat) : SigHolds Tryz.prog L 230 (z44.sg k) :=
  soe (C := ⟨Tryz.prog, [(100, [z6.sg k]), (249, [z13.sg k])], k, [], []⟩) (hc1 (z6.ok k) (hc1 (z13.ok k) holds_nil)) Tryz.func230 { keys := [(1, [([], false), ([4], false), ([], false), ([], false), ([0, 11], true), ([], false), ([0, 13], true), ([], false)])] } fun _ => by kernel_rfl
noncomputable def z170 (k : Nat) : QT60 → Option QT46 := fun x => match x with
 | ((r_0, r_1, ()), d_, v, ()) =>
  bd k (z6 k ((r_0, r_1, ()), 9, ())) fun y1 =>
  bd k (z6 k ((y1.2.1.1, y1.2.1.2.1, ()), 2, ())) fun y2 =>
  some ((([(2, v, ()), (1, IntKind.wrap .i64 (1 + y1.1.1), ()), (IntKind.wrap .i64 (13 + y2.1.1), 0, ())] : List (Int × Int × Unit)), ()), ((y2.2.1.1, y2.2.1.2.1, ()), (), (), ()))
noncomputable def z170.sg (k : Nat) : Sig := ⟨(.cons QS23 (.cons QS4 QS6)), (.cons (.own QK0) .nil), z170 k, []⟩
theorem z170.ok (k : Nat) : SigHolds Tryz.prog L 231 (z170.sg k) :=
  soe (C := ⟨Tryz.prog, [(100, [z6.sg k])], k, [], []⟩) (hc1 (z6.ok k) holds_nil) Tryz.func231 {} fun _ => by kernel_rfl
noncomputable def z92 (k : Nat) : (QT14 × Int × Unit) → Option ((QT1 × Unit) × (QT14 × Unit × Unit)) := fun x => match x with
 | ((r_0, r_1, ()), v, ()) =>
  bd k (z6 k ((r_0, r_1, ()), 2, ())) fun y1 =>
  some (((1, v, [], ([(2, v, ()), (1, IntKind.wrap .i64 (1 + y1.1.1), ()), (8, 0, ())] : List (Int × Int × Unit)), 0, 0, ()), ()), ((y1.2.1.1, y1.2.1.2.1, ()), (), ()))
noncomputable def z92.sg (k : Nat) : Sig := ⟨(.cons QS23 QS6), (.cons (.agg QS8) .nil), z92 k, []⟩
theorem z92.ok (k : Nat) : SigHolds Tryz.prog L 232 (z92.sg k) :=
  soe (C := ⟨Tryz.prog, [(100, [z6.sg k])], k, [], []⟩) (hc1 (z6.ok k) holds_nil) Tryz.func232 {} fun _ => by kernel_rfl
end Go.Pev.F
