/-
  Printed by gen.py: what functions of the program compute, and that they do.
-/
import Derived.Test.YtibhfjdhhdjjcaaGreatDoorK11
set_option linter.unusedSimpArgs false
set_option linter.unusedVariables false
open Go.Proofs Go.Pev
namespace Go.Pev.F
set_option maxRecDepth 100000
variable {L : List (Nat × Obj)}
def z10.A : Sh := (.cons QS23 (.cons QS4 QS22))
def z10.R : Sh := (.cons (.rows QS8) .nil)
def z19.A : Sh := (.cons QS23 (.cons QS4 QS22))
def z19.R : Sh := (.cons (.rows QS8) .nil)
def z19.ann : Ann := { loops := [], joins := [(3, [(24, .bool)]), (9, [(73, .bool)]), (18, [(117, .bool)]), (20, [(136, .bool)])], keys := [(4, [([], false), ([0, 36], true), ([], false), ([], false), ([5], false), ([0, 40], true), ([40], false), ([11], true), ([11, 40], true)]), (5, [([11], false), ([40, 43], true), ([], false), ([5], false), ([], false), ([], false), ([0, 48], true), ([43, 48, 49], true), ([], false)]), (7, [([], false), ([], false), ([61], true), ([49, 61, 62], true), ([], false), ([5], false), ([], false), ([], false), ([0, 67], true), ([62, 67, 68], true), ([], false)]), (16, [([13], false), ([87, 100, 103], true), ([], false), ([5], false), ([], false), ([], false), ([0, 108], true), ([103, 108, 109], true), ([], false)]), (19, [([], false), ([5], false), ([5], false), ([], false), ([0, 130], true), ([], false), ([5], false), ([0, 133], true), ([133], false), ([133, 135], true), ([], false)]), (21, [([], false), ([5], false), ([5], false), ([], false), ([0, 149], true), ([], false), ([5], false), ([0, 152], true), ([], false), ([5], false), ([0, 155], true), ([152, 155], false), ([152, 155, 157], true), ([], false)])] }
noncomputable def z19 (k : Nat) (R_ : QT35 → Option QT31) : QT35 → Option QT31 := fun x => match x with
 | ((r_0, r_1, ()), d_, most, deep, ()) =>
  bd k (z6 k ((r_0, r_1, ()), (d_.1.length : Int), ())) fun y1 =>
  bd k (z6 k ((y1.2.1.1, y1.2.1.2.1, ()), 16, ())) fun y2 =>
  (br k (decide (y2.1.1 < 2))
  (br k (decide (deep > 0))
  (some (decide (most > 5), ()))
  (some (false, ())))
  (some (false, ())) : Option (Bool × Unit)).bind fun j3 =>
  br k (j3.1)
  (bd k (z6 k ((y2.2.1.1, y2.2.1.2.1, ()), 2, ())) fun y4 =>
  bd k (z44 k ((y4.2.1.1, y4.2.1.2.1, ()), d_, 2, ())) fun y5 =>
  bd k (R_ ((y5.2.1.1, y5.2.1.2.1, ()), d_, 3, IntKind.wrap .i64 (deep - 1), ())) fun y6 =>
  br k (decide ((([(IntKind.wrap .i64 (5 + y4.1.1), 0, [], y5.1.1, 0, 0, ())] : List QT1).length + y6.1.1.length) * 80 ≤ maxBytes))
  (bd k (z14 k ((y6.2.1.1, y6.2.1.2.1, ()), 2, ())) fun y7 =>
  br k (y7.1.1)
  (br k (decide ((IntKind.wrap .i64 (((([(IntKind.wrap .i64 (5 + y4.1.1), 0, [], y5.1.1, 0, 0, ())] : List QT1) ++ y6.1.1).length : Int) + 4)) < most))
  (br k (decide (((([(IntKind.wrap .i64 (5 + y4.1.1), 0, [], y5.1.1, 0, 0, ())] : List QT1) ++ y6.1.1).length + ([(7, 0, [], [], 0, 0, ())] : List QT1).length) * 80 ≤ maxBytes))
  (bd k (R_ ((y7.2.1.1, y7.2.1.2.1, ()), d_, 2, IntKind.wrap .i64 (deep - 1), ())) fun y8 =>
  br k (decide ((((([(IntKind.wrap .i64 (5 + y4.1.1), 0, [], y5.1.1, 0, 0, ())] : List QT1) ++ y6.1.1) ++ ([(7, 0, [], [], 0, 0, ())] : List QT1)).length + y8.1.1.length) * 80 ≤ maxBytes))
  (br k (decide (((((([(IntKind.wrap .i64 (5 + y4.1.1), 0, [], y5.1.1, 0, 0, ())] : List QT1) ++ y6.1.1) ++ ([(7, 0, [], [], 0, 0, ())] : List QT1)) ++ y8.1.1).length + ([(8, 0, [], [], 0, 0, ())] : List QT1).length) * 80 ≤ maxBytes))
  (some (((((([(IntKind.wrap .i64 (5 + y4.1.1), 0, [], y5.1.1, 0, 0, ())] : List QT1) ++ y6.1.1) ++ ([(7, 0, [], [], 0, 0, ())] : List QT1)) ++ y8.1.1) ++ ([(8, 0, [], [], 0, 0, ())] : List QT1), ()), ((y8.2.1.1, y8.2.1.2.1, ()), (), (), (), ())))
  none)
  none)
  none)
  (br k (decide (((([(IntKind.wrap .i64 (5 + y4.1.1), 0, [], y5.1.1, 0, 0, ())] : List QT1) ++ y6.1.1).length + ([(8, 0, [], [], 0, 0, ())] : List QT1).length) * 80 ≤ maxBytes))
  (some (((([(IntKind.wrap .i64 (5 + y4.1.1), 0, [], y5.1.1, 0, 0, ())] : List QT1) ++ y6.1.1) ++ ([(8, 0, [], [], 0, 0, ())] : List QT1), ()), ((y7.2.1.1, y7.2.1.2.1, ()), (), (), (), ())))
  none))
  (br k (decide (((([(IntKind.wrap .i64 (5 + y4.1.1), 0, [], y5.1.1, 0, 0, ())] : List QT1) ++ y6.1.1).length + ([(8, 0, [], [], 0, 0, ())] : List QT1).length) * 80 ≤ maxBytes))
  (some (((([(IntKind.wrap .i64 (5 + y4.1.1), 0, [], y5.1.1, 0, 0, ())] : List QT1) ++ y6.1.1) ++ ([(8, 0, [], [], 0, 0, ())] : List QT1), ()), ((y7.2.1.1, y7.2.1.2.1, ()), (), (), (), ())))
  none))
  none)
  ((br k (decide (y2.1.1 < 5))
  (br k (decide (deep > 0))
  (some (decide (most > 6), ()))
  (some (false, ())))
  (some (false, ())) : Option (Bool × Unit)).bind fun j9 =>
  br k (j9.1)
  (bd k (z170 k ((y2.2.1.1, y2.2.1.2.1, ()), d_, y1.1.1, ())) fun y10 =>
  bd k (z14 k ((y10.2.1.1, y10.2.1.2.1, ()), 3, ())) fun y11 =>
  br k (y11.1.1)
  (bd k (z6 k ((y11.2.1.1, y11.2.1.2.1, ()), 3, ())) fun y12 =>
  bd k (z14 k ((y12.2.1.1, y12.2.1.2.1, ()), 6, ())) fun y13 =>
  br k (y13.1.1)
  (bd k (z44 k ((y13.2.1.1, y13.2.1.2.1, ()), d_, 2, ())) fun y14 =>
  bd k (R_ ((y14.2.1.1, y14.2.1.2.1, ()), d_, 3, IntKind.wrap .i64 (deep - 1), ())) fun y15 =>
  br k (decide ((([(10, 0, [], y14.1.1, IntKind.wrap .i64 (1 + y12.1.1), 0, ())] : List QT1).length + y15.1.1.length) * 80 ≤ maxBytes))
  (bd k (z92 k ((y15.2.1.1, y15.2.1.2.1, ()), y1.1.1, ())) fun y16 =>
  br k (decide (((([(10, 0, [], y14.1.1, IntKind.wrap .i64 (1 + y12.1.1), 0, ())] : List QT1) ++ y15.1.1).length + ([(y16.1.1.1, y16.1.1.2.1, y16.1.1.2.2.1, y16.1.1.2.2.2.1, y16.1.1.2.2.2.2.1, y16.1.1.2.2.2.2.2.1, ()), (8, 0, [], [], 0, 0, ())] : List QT1).length) * 80 ≤ maxBytes))
  (some (((([(10, 0, [], y14.1.1, IntKind.wrap .i64 (1 + y12.1.1), 0, ())] : List QT1) ++ y15.1.1) ++ ([(y16.1.1.1, y16.1.1.2.1, y16.1.1.2.2.1, y16.1.1.2.2.2.1, y16.1.1.2.2.2.2.1, y16.1.1.2.2.2.2.2.1, ()), (8, 0, [], [], 0, 0, ())] : List QT1), ()), ((y16.2.1.1, y16.2.1.2.1, ()), (), (), (), ())))
  none)
  none)
  (bd k (R_ ((y13.2.1.1, y13.2.1.2.1, ()), d_, 3, IntKind.wrap .i64 (deep - 1), ())) fun y17 =>
  br k (decide ((([(10, 0, [], y10.1.1, IntKind.wrap .i64 (1 + y12.1.1), 0, ())] : List QT1).length + y17.1.1.length) * 80 ≤ maxBytes))
  (bd k (z92 k ((y17.2.1.1, y17.2.1.2.1, ()), y1.1.1, ())) fun y18 =>
  br k (decide (((([(10, 0, [], y10.1.1, IntKind.wrap .i64 (1 + y12.1.1), 0, ())] : List QT1) ++ y17.1.1).length + ([(y18.1.1.1, y18.1.1.2.1, y18.1.1.2.2.1, y18.1.1.2.2.2.1, y18.1.1.2.2.2.2.1, y18.1.1.2.2.2.2.2.1, ()), (8, 0, [], [], 0, 0, ())] : List QT1).length) * 80 ≤ maxBytes))
  (some (((([(10, 0, [], y10.1.1, IntKind.wrap .i64 (1 + y12.1.1), 0, ())] : List QT1) ++ y17.1.1) ++ ([(y18.1.1.1, y18.1.1.2.1, y18.1.1.2.2.1, y18.1.1.2.2.2.1, y18.1.1.2.2.2.2.1, y18.1.1.2.2.2.2.2.1, ()), (8, 0, [], [], 0, 0, ())] : List QT1), ()), ((y18.2.1.1, y18.2.1.2.1, ()), (), (), (), ())))
  none)
  none))
  (bd k (z14 k ((y11.2.1.1, y11.2.1.2.1, ()), 6, ())) fun y19 =>
  br k (y19.1.1)
  (bd k (z44 k ((y19.2.1.1, y19.2.1.2.1, ()), d_, 2, ())) fun y20 =>
  bd k (R_ ((y20.2.1.1, y20.2.1.2.1, ()), d_, 3, IntKind.wrap .i64 (deep - 1), ())) fun y21 =>
  br k (decide ((([(9, 0, [], y20.1.1, 0, 0, ())] : List QT1).length + y21.1.1.length) * 80 ≤ maxBytes))
  (bd k (z92 k ((y21.2.1.1, y21.2.1.2.1, ()), y1.1.1, ())) fun y22 =>
  br k (decide (((([(9, 0, [], y20.1.1, 0, 0, ())] : List QT1) ++ y21.1.1).length + ([(y22.1.1.1, y22.1.1.2.1, y22.1.1.2.2.1, y22.1.1.2.2.2.1, y22.1.1.2.2.2.2.1, y22.1.1.2.2.2.2.2.1, ()), (8, 0, [], [], 0, 0, ())] : List QT1).length) * 80 ≤ maxBytes))
  (some (((([(9, 0, [], y20.1.1, 0, 0, ())] : List QT1) ++ y21.1.1) ++ ([(y22.1.1.1, y22.1.1.2.1, y22.1.1.2.2.1, y22.1.1.2.2.2.1, y22.1.1.2.2.2.2.1, y22.1.1.2.2.2.2.2.1, ()), (8, 0, [], [], 0, 0, ())] : List QT1), ()), ((y22.2.1.1, y22.2.1.2.1, ()), (), (), (), ())))
  none)
  none)
  (bd k (R_ ((y19.2.1.1, y19.2.1.2.1, ()), d_, 3, IntKind.wrap .i64 (deep - 1), ())) fun y23 =>
  br k (decide ((([(9, 0, [], y10.1.1, 0, 0, ())] : List QT1).length + y23.1.1.length) * 80 ≤ maxBytes))
  (bd k (z92 k ((y23.2.1.1, y23.2.1.2.1, ()), y1.1.1, ())) fun y24 =>
  br k (decide (((([(9, 0, [], y10.1.1, 0, 0, ())] : List QT1) ++ y23.1.1).length + ([(y24.1.1.1, y24.1.1.2.1, y24.1.1.2.2.1, y24.1.1.2.2.2.1, y24.1.1.2.2.2.2.1, y24.1.1.2.2.2.2.2.1, ()), (8, 0, [], [], 0, 0, ())] : List QT1).length) * 80 ≤ maxBytes))
  (some (((([(9, 0, [], y10.1.1, 0, 0, ())] : List QT1) ++ y23.1.1) ++ ([(y24.1.1.1, y24.1.1.2.1, y24.1.1.2.2.1, y24.1.1.2.2.2.1, y24.1.1.2.2.2.2.1, y24.1.1.2.2.2.2.2.1, ()), (8, 0, [], [], 0, 0, ())] : List QT1), ()), ((y24.2.1.1, y24.2.1.2.1, ()), (), (), (), ())))
  none)
  none)))
  ((br k (y2.1.1 == 5)
  (some (decide ((d_.2.1.length : Int) > 0), ()))
  (some (false, ())) : Option (Bool × Unit)).bind fun j25 =>
  br k (j25.1)
  (bd k (z6 k ((y2.2.1.1, y2.2.1.2.1, ()), (d_.2.1.length : Int), ())) fun y26 =>
  bd k (z44 k ((y26.2.1.1, y26.2.1.2.1, ()), d_, 2, ())) fun y27 =>
  some ((([(2, y26.1.1, [], y27.1.1, 0, 0, ())] : List QT1), ()), ((y27.2.1.1, y27.2.1.2.1, ()), (), (), (), ())))
  ((br k (y2.1.1 == 6)
  (some (decide ((d_.2.2.1.length : Int) > 0), ()))
  (some (false, ())) : Option (Bool × Unit)).bind fun j28 =>
  br k (j28.1)
  (bd k (z6 k ((y2.2.1.1, y2.2.1.2.1, ()), (d_.2.2.1.length : Int), ())) fun y29 =>
  bd k (z44 k ((y29.2.1.1, y29.2.1.2.1, ()), d_, 1, ())) fun y30 =>
  bd k (z44 k ((y30.2.1.1, y30.2.1.2.1, ()), d_, 1, ())) fun y31 =>
  some ((([(3, y29.1.1, y30.1.1, y31.1.1, 0, 0, ())] : List QT1), ()), ((y31.2.1.1, y31.2.1.2.1, ()), (), (), (), ())))
  (br k (decide (y2.1.1 < 9))
  (bd k (z6 k ((y2.2.1.1, y2.2.1.2.1, ()), 20, ())) fun y32 =>
  bd k (z6 k ((y32.2.1.1, y32.2.1.2.1, ()), 12, ())) fun y33 =>
  some ((([(4, y1.1.1, [], [], IntKind.wrap .i64 (y32.1.1 - 8), IntKind.wrap .i64 ((IntKind.wrap .i64 (y32.1.1 - 8)) + y33.1.1), ())] : List QT1), ()), ((y33.2.1.1, y33.2.1.2.1, ()), (), (), (), ())))
  (br k (y2.1.1 == 9)
  (bd k (z44 k ((y2.2.1.1, y2.2.1.2.1, ()), d_, 2, ())) fun y34 =>
  some ((([(11, 0, [], y34.1.1, 0, 0, ())] : List QT1), ()), ((y34.2.1.1, y34.2.1.2.1, ()), (), (), (), ())))
  (br k (y2.1.1 == 10)
  (bd k (z44 k ((y2.2.1.1, y2.2.1.2.1, ()), d_, 2, ())) fun y35 =>
  some ((([(12, 0, [], y35.1.1, 0, 0, ())] : List QT1), ()), ((y35.2.1.1, y35.2.1.2.1, ()), (), (), (), ())))
  (br k (y2.1.1 == 11)
  (bd k (z6 k ((y2.2.1.1, y2.2.1.2.1, ()), 10, ())) fun y36 =>
  bd k (z6 k ((y36.2.1.1, y36.2.1.2.1, ()), 4, ())) fun y37 =>
  some ((([(13, y1.1.1, [], [], IntKind.wrap .i64 (y36.1.1 - 4), IntKind.wrap .i64 ((IntKind.wrap .i64 (y36.1.1 - 4)) + y37.1.1), ())] : List QT1), ()), ((y37.2.1.1, y37.2.1.2.1, ()), (), (), (), ())))
  (br k (y2.1.1 == 12)
  (bd k (z14 k ((y2.2.1.1, y2.2.1.2.1, ()), 3, ())) fun y38 =>
  br k (y38.1.1)
  (some ((([(14, 0, [], [], 0, 0, ())] : List QT1), ()), ((y38.2.1.1, y38.2.1.2.1, ()), (), (), (), ())))
  (bd k (z44 k ((y38.2.1.1, y38.2.1.2.1, ()), d_, 1, ())) fun y39 =>
  some ((([(1, y1.1.1, [], y39.1.1, 0, 0, ())] : List QT1), ()), ((y39.2.1.1, y39.2.1.2.1, ()), (), (), (), ()))))
  (bd k (z44 k ((y2.2.1.1, y2.2.1.2.1, ()), d_, 1, ())) fun y40 =>
  some ((([(1, y1.1.1, [], y40.1.1, 0, 0, ())] : List QT1), ()), ((y40.2.1.1, y40.2.1.2.1, ()), (), (), (), ())))))))))))
noncomputable def z19.sg (k : Nat) (R_ : QT35 → Option QT31) : Sig := ⟨z19.A, z19.R, z19 k R_, []⟩
noncomputable def z19.C (k : Nat) (R_ : QT35 → Option QT31) : Ctx := ⟨Tryz.prog, [(100, [z6.sg k]), (230, [z44.sg k]), (142, [⟨z10.A, z10.R, R_, []⟩]), (98, [z14.sg k]), (231, [z170.sg k]), (232, [z92.sg k])], k, [(43, QS8), (61, QS8), (71, QS8), (103, QS8), (115, QS8), (135, QS8), (157, QS8), (171, QS8), (179, QS8), (187, QS8), (201, QS8), (210, QS8), (216, QS8)], []⟩
theorem z19.ev (k : Nat) (R_ : QT35 → Option QT31) (x : z19.A.T) : evFunc (z19.C k R_) z19.ann Tryz.f194 z19.A z19.R x = z19 k R_ x := by kernel_rfl
theorem z19.ok (k : Nat) (R_ : QT35 → Option QT31) (ih : SigHolds Tryz.prog L 142 ⟨z10.A, z10.R, R_, []⟩) : SigHolds Tryz.prog L 194 (z19.sg k R_) :=
  sig_of_ev (C := z19.C k R_) (holds_cons (allok_cons (z6.ok k) allok_nil) (holds_cons (allok_cons (z44.ok k) allok_nil) (holds_cons (allok_cons (ih) allok_nil) (holds_cons (allok_cons (z14.ok k) allok_nil) (holds_cons (allok_cons (z170.ok k) allok_nil) (holds_cons (allok_cons (z92.ok k) allok_nil) holds_nil)))))) (by kernel_rfl) Tryz.func194 (by kernel_rfl) _ _ _ (fun x y h => (z19.ev k R_ x).trans h) (by kernel_rfl)
def z10.ann : Ann := { loops := [(0, [(0, QS23), (2, (.pur (.int .i64))), (3, (.pur (.int .i64))), (5, QS26), (9, (.rows QS8)), (10, (.pur (.int .i64)))])], joins := [(3, [(22, .bool)])], keys := [] }
noncomputable def z10.l0 (k : Nat) (R_ : QT35 → Option QT31) : E2 ((QT14 × Int × Int × QT2 × (List QT1) × Int × Unit) → Option QT31) := fun G0 x => match x with
 | ((r_0, r_1, ()), most, deep, (d__0, d__1, d__2, ()), out_, i, ()) =>
  (br k (decide (i > 0))
  (some (decide ((out_.length : Int) < most), ()))
  (some (false, ())) : Option (Bool × Unit)).bind fun j2 =>
  br k (j2.1)
  (bd k (z19 k R_ ((r_0, r_1, ()), (d__0, d__1, d__2, ()), IntKind.wrap .i64 (most - (out_.length : Int)), deep, ())) fun y3 =>
  br k (decide ((out_.length + y3.1.1.length) * 80 ≤ maxBytes))
  (G0 ((y3.2.1.1, y3.2.1.2.1, ()), most, deep, (d__0, d__1, d__2, ()), out_ ++ y3.1.1, IntKind.wrap .i64 (i - 1), ()))
  none)
  (some ((out_, ()), ((r_0, r_1, ()), (), (), (), ())))
noncomputable def z10.f (k : Nat) (R_ : QT35 → Option QT31) : QT35 → Option QT31 := fun x => match x with
 | ((r_0, r_1, ()), d_, most, deep, ()) =>
  bd k (z6 k ((r_0, r_1, ()), 4, ())) fun y1 =>
  iter (z10.l0 k R_) k ((y1.2.1.1, y1.2.1.2.1, ()), most, deep, (d_.1, d_.2.1, d_.2.2.1, ()), ([] : List QT1), IntKind.wrap .i64 (1 + y1.1.1), ())
noncomputable def z10 (k : Nat) : QT35 → Option QT31 := iter (z10.f k) k
noncomputable def z10.sg (k : Nat) : Sig := ⟨z10.A, z10.R, z10 k, []⟩
noncomputable def z10.C (k : Nat) (R_ : QT35 → Option QT31) : Ctx := ⟨Tryz.prog, [(100, [z6.sg k]), (194, [z19.sg k R_])], k, [(11, QS8)], []⟩
theorem z10.ev (k : Nat) (R_ : QT35 → Option QT31) (x : z10.A.T) : evFunc (z10.C k R_) z10.ann Tryz.f142 z10.A z10.R x = z10.f k R_ x := by kernel_rfl
theorem z10.oks {L : List (Nat × Obj)}  (k : Nat) : (n : Nat) → SigHolds Tryz.prog L 142 ⟨z10.A, z10.R, iter (z10.f k) n, []⟩
  | 0 => sig_zero Tryz.func142 (by kernel_rfl) (by kernel_rfl)
  | n + 1 => have ih := z10.oks  k n
    sig_of_ev (C := z10.C k (iter (z10.f k) n)) (holds_cons (allok_cons (z6.ok k) allok_nil) (holds_cons (allok_cons (z19.ok k _ ih) allok_nil) holds_nil)) (by kernel_rfl) Tryz.func142 (by kernel_rfl) _ _ _ (fun x y h => (z10.ev k _ x).trans h) (by kernel_rfl)
theorem z10.ok (k : Nat) : SigHolds Tryz.prog L 142 (z10.sg k) := z10.oks  k k
noncomputable def z107.l0 (k : Nat) : E2 ((QT14 × QT11 × QT2 × QT11 × Int × Unit) → Option ((QT11 × Unit) × (QT14 × Unit))) := fun G0 x => match x with
 | ((r_0, r_1, ()), (t2_0, t2_1, t2_2, t2_3, ()), (d__0, d__1, d__2, ()), (p_0, p_1, p_2, p_3, ()), i, ()) =>
  br k (decide (i > 0))
  (bd k (z10 k ((r_0, r_1, ()), (d__0, d__1, d__2, ()), IntKind.wrap .i64 (26 - (p_3.length : Int)), 2, ())) fun y3 =>
  br k (decide ((p_3.length + y3.1.1.length) * 80 ≤ maxBytes))
  (G0 ((y3.2.1.1, y3.2.1.2.1, ()), (t2_0, t2_1, t2_2, t2_3, ()), (d__0, d__1, d__2, ()), (p_0, p_1, p_2, p_3 ++ y3.1.1, ()), IntKind.wrap .i64 (i - 1), ()))
  none)
  (br k (decide ((p_3.length : Int) > 30))
  (some (((p_0, p_1, p_2, ([(4, 0, [], [], 0, 9, ())] : List QT1), ()), ()), ((r_0, r_1, ()), ())))
  (some (((p_0, p_1, p_2, p_3, ()), ()), ((r_0, r_1, ()), ()))))
noncomputable def z107 (k : Nat) : (QT14 × Unit) → Option ((QT11 × Unit) × (QT14 × Unit)) := fun x => match x with
 | ((r_0, r_1, ()), ()) =>
  bd k (z169 k ((r_0, r_1, ()), ())) fun y1 =>
  bd k (z6 k ((y1.2.1.1, y1.2.1.2.1, ()), 3, ())) fun y2 =>
  iter (z107.l0 k) k ((y2.2.1.1, y2.2.1.2.1, ()), ([], [], [], ([] : List QT1), ()), (y1.1.1.1, y1.1.1.2.1, y1.1.1.2.2.1, ()), (y1.1.1.1, y1.1.1.2.1, y1.1.1.2.2.1, ([] : List QT1), ()), IntKind.wrap .i64 (1 + y2.1.1), ())
noncomputable def z107.sg (k : Nat) : Sig := ⟨(.cons QS23 .nil), (.cons (.agg QS33) .nil), z107 k, []⟩
theorem z107.ok (k : Nat) : SigHolds Tryz.prog L 97 (z107.sg k) :=
  soe (C := ⟨Tryz.prog, [(141, [z169.sg k]), (100, [z6.sg k]), (142, [z10.sg k])], k, [(33, QS8)], []⟩) (hc1 (z169.ok k) (hc1 (z6.ok k) (hc1 (z10.ok k) holds_nil))) Tryz.func97 { loops := [(0, [(0, QS23), (2, (.box (.cons (.own .str) (.cons (.own .str) (.cons (.own QK73) (.cons (.rows QS8) .nil)))))), (3, QS26), (4, (.box QS33)), (5, (.pur (.int .i64)))])], keys := [(6, [([4], false), ([4], false), ([], false), ([3], false), ([4], false), ([4], false), ([4], false), ([], false), ([0, 25], true), ([4, 25, 26], true), ([4], false), ([4, 26], true)])] } fun _ => by kernel_rfl
noncomputable def z45.l0 (k : Nat) : E2 ((QT14 × Int × Int × Unit) → Option ((Int × Unit) × (QT14 × Unit))) := fun G0 x => match x with
 | ((r_0, r_1, ()), x_, i, ()) =>
  br k (decide (i < 8))
  (br k (decide (0 ≤ (8 : Int)))
  (bd k (z76 k ((r_0, r_1, ()), ())) fun y1 =>
  G0 ((y1.2.1.1, y1.2.1.2.1, ()), IntKind.wrap .u64 (((BitVec.ofInt 64 (IntKind.wrap .u64 (x_ * 2 ^ (min (8 : Int).toNat 64))) ||| BitVec.ofInt 64 (IntKind.wrap .u64 y1.1.1)).toNat : Int)), IntKind.wrap .i64 (i + 1), ()))
  none)
  (some ((x_, ()), ((r_0, r_1, ()), ())))
noncomputable def z45 (k : Nat) : (QT14 × Unit) → Option ((Int × Unit) × (QT14 × Unit)) := fun x => match x with
 | ((r_0, r_1, ()), ()) =>
  iter (z45.l0 k) k ((r_0, r_1, ()), 0, 0, ())
noncomputable def z45.sg (k : Nat) : Sig := ⟨(.cons QS23 .nil), (.cons (.pur (.int .u64)) .nil), z45 k, []⟩
theorem z45.ok (k : Nat) : SigHolds Tryz.prog L 195 (z45.sg k) :=
  soe (C := ⟨Tryz.prog, [(145, [z76.sg k])], k, [], []⟩) (hc1 (z76.ok k) holds_nil) Tryz.func195 { loops := [(0, [(0, QS23), (3, (.pur (.int .u64))), (4, (.pur (.int .i64)))])] } fun _ => by kernel_rfl
noncomputable def z171 (k : Nat) : (QT14 × Int × Int × Unit) → Option ((Int × Unit) × (QT14 × Unit × Unit × Unit)) := fun x => match x with
 | ((r_0, r_1, ()), low, high, ()) =>
  bd k (z6 k ((r_0, r_1, ()), 8, ())) fun y1 =>
  br k (y1.1.1 == 0)
  (some ((low, ()), ((y1.2.1.1, y1.2.1.2.1, ()), (), (), ())))
  (br k (y1.1.1 == 1)
  (some ((high, ()), ((y1.2.1.1, y1.2.1.2.1, ()), (), (), ())))
  (br k (decide (high < low))
  (some ((low, ()), ((y1.2.1.1, y1.2.1.2.1, ()), (), (), ())))
  (bd k (z45 k ((y1.2.1.1, y1.2.1.2.1, ()), ())) fun y2 =>
  br k (decide (0 ≤ (1 : Int)))
  (br k (!decide ((IntKind.wrap .u64 (IntKind.wrap .i64 ((IntKind.wrap .i64 (high - low)) + 1))) = 0))
  (some ((IntKind.wrap .i64 (low + (IntKind.wrap .i64 ((y2.1.1.fdiv (2 ^ (min (1 : Int).toNat 64))).tmod (IntKind.wrap .u64 (IntKind.wrap .i64 ((IntKind.wrap .i64 (high - low)) + 1)))))), ()), ((y2.2.1.1, y2.2.1.2.1, ()), (), (), ())))
  none)
  none)))
noncomputable def z171.sg (k : Nat) : Sig := ⟨(.cons QS23 QS22), QS6, z171 k, []⟩
theorem z171.ok (k : Nat) : SigHolds Tryz.prog L 146 (z171.sg k) :=
  soe (C := ⟨Tryz.prog, [(100, [z6.sg k]), (195, [z45.sg k])], k, [], []⟩) (hc1 (z6.ok k) (hc1 (z45.ok k) holds_nil)) Tryz.func146 {} fun _ => by kernel_rfl
noncomputable def z23 (k : Nat) : (QT14 × Int × Int × Unit) → Option ((Int × Unit) × (QT14 × Unit × Unit × Unit)) := fun x => match x with
 | ((r_0, r_1, ()), low, high, ()) =>
  bd k (z14 k ((r_0, r_1, ()), 24, ())) fun y1 =>
  br k (y1.1.1)
  (bd k (z6 k ((y1.2.1.1, y1.2.1.2.1, ()), 4, ())) fun y2 =>
  br k (decide (0 ≤ y2.1.1 ∧ y2.1.1 < (([IntKind.wrap .i64 (low - 1), IntKind.wrap .i64 (high + 1), (-9223372036854775808), 9223372036854775807] : List Int).length : Int)))
  (bd k (([IntKind.wrap .i64 (low - 1), IntKind.wrap .i64 (high + 1), (-9223372036854775808), 9223372036854775807] : List Int)[y2.1.1.toNat]?) fun x3 =>
  some ((x3, ()), ((y2.2.1.1, y2.2.1.2.1, ()), (), (), ())))
  none)
  (bd k (z171 k ((y1.2.1.1, y1.2.1.2.1, ()), low, high, ())) fun y4 =>
  some ((y4.1.1, ()), ((y4.2.1.1, y4.2.1.2.1, ()), (), (), ())))
noncomputable def z23.sg (k : Nat) : Sig := ⟨(.cons QS23 QS22), QS6, z23 k, []⟩
theorem z23.ok (k : Nat) : SigHolds Tryz.prog L 101 (z23.sg k) :=
  soe (C := ⟨Tryz.prog, [(98, [z14.sg k]), (100, [z6.sg k]), (146, [z171.sg k])], k, [], []⟩) (hc1 (z14.ok k) (hc1 (z6.ok k) (hc1 (z171.ok k) holds_nil))) Tryz.func101 {} fun _ => by kernel_rfl
noncomputable def z172 (k : Nat) : (QT14 × QT2 × Unit) → Option ((QT2 × Unit) × (QT14 × Unit × Unit)) := fun x => match x with
 | ((r_0, r_1, ()), d_, ()) =>
  bd k (z6 k ((r_0, r_1, ()), 24, ())) fun y1 =>
  br k (y1.1.1 == 0)
  (br k (decide ((([] : List (List UInt8)).length + d_.1.length) * 16 ≤ maxBytes))
  (bd k (z6 k ((y1.2.1.1, y1.2.1.2.1, ()), 6, ())) fun y2 =>
  br k (decide (0 ≤ y2.1.1 ∧ y2.1.1 < (([[120], [105, 102], [88], [], [108, 111, 110, 103, 101, 114, 110, 97, 109, 101], [111, 107, 110, 97, 109, 101]] : List (List UInt8)).length : Int)))
  (bd k (([[120], [105, 102], [88], [], [108, 111, 110, 103, 101, 114, 110, 97, 109, 101], [111, 107, 110, 97, 109, 101]] : List (List UInt8))[y2.1.1.toNat]?) fun x3 =>
  br k (decide (((([] : List (List UInt8)) ++ d_.1).length + ([x3] : List (List UInt8)).length) * 16 ≤ maxBytes))
  (some ((((([] : List (List UInt8)) ++ d_.1) ++ ([x3] : List (List UInt8)), d_.2.1, d_.2.2.1, ()), ()), ((y2.2.1.1, y2.2.1.2.1, ()), (), ())))
  none)
  none)
  none)
  (br k (y1.1.1 == 1)
  (br k (decide ((([] : List QT39).length + d_.2.2.1.length) * 24 ≤ maxBytes))
  (bd k (z23 k ((y1.2.1.1, y1.2.1.2.1, ()), 1, 16, ())) fun y4 =>
  br k (decide (((([] : List QT39) ++ d_.2.2.1).length + ([([100], y4.1.1, ())] : List QT39).length) * 24 ≤ maxBytes))
  (some (((d_.1, d_.2.1, (([] : List QT39) ++ d_.2.2.1) ++ ([([100], y4.1.1, ())] : List QT39), ()), ()), ((y4.2.1.1, y4.2.1.2.1, ()), (), ())))
  none)
  none)
  (br k (y1.1.1 == 2)
  (bd k (z6 k ((y1.2.1.1, y1.2.1.2.1, ()), 2, ())) fun y5 =>
  br k (decide (0 ≤ (IntKind.wrap .i64 (5 + y5.1.1)) ∧ (IntKind.wrap .i64 (5 + y5.1.1)) ≤ (([[112], [113], [114], [115], [116], [117]] : List (List UInt8)).length : Int)))
  (some (((subL ([[112], [113], [114], [115], [116], [117]] : List (List UInt8)) ((0 : Int).toNat) ((IntKind.wrap .i64 (5 + y5.1.1)).toNat - (0 : Int).toNat), d_.2.1, d_.2.2.1, ()), ()), ((y5.2.1.1, y5.2.1.2.1, ()), (), ())))
  none)
  (some ((d_, ()), ((y1.2.1.1, y1.2.1.2.1, ()), (), ())))))
noncomputable def z172.sg (k : Nat) : Sig := ⟨(.cons QS23 (.cons QS4 .nil)), (.cons QS4 .nil), z172 k, []⟩
theorem z172.ok (k : Nat) : SigHolds Tryz.prog L 143 (z172.sg k) :=
  soe (C := ⟨Tryz.prog, [(100, [z6.sg k]), (101, [z23.sg k])], k, [], []⟩) (hc1 (z6.ok k) (hc1 (z23.ok k) holds_nil)) Tryz.func143 {} fun _ => by kernel_rfl
noncomputable def z108.l1 (k : Nat) : E2 ((QT14 × QT7 × Int × Unit) → Option ((QT7 × Unit) × (QT14 × Unit × Unit))) := fun G1 x => match x with
 | ((r_0, r_1, ()), l_, i, ()) =>
  (br k (decide (i < 42))
  (br k (!decide ((4 : Int) = 0))
  (some (decide ((l_.length : Int) < (IntKind.wrap .i64 (39 + ((r_0.length : Int).tmod 4)))), ()))
  none)
  (some (false, ())) : Option (Bool × Unit)).bind fun j9 =>
  br k (j9.1)
  (br k (decide ((l_.length + ([(19, 0, ())] : List (Int × Int × Unit)).length) * 16 ≤ maxBytes))
  (G1 ((r_0, r_1, ()), l_ ++ ([(19, 0, ())] : List (Int × Int × Unit)), IntKind.wrap .i64 (i + 1), ()))
  none)
  (some ((l_, ()), ((r_0, r_1, ()), (), ())))
noncomputable def z108 (k : Nat) : (QT14 × QT7 × Unit) → Option ((QT7 × Unit) × (QT14 × Unit × Unit)) := fun x => match x with
 | ((r_0, r_1, ()), l_, ()) =>
  bd k (z6 k ((r_0, r_1, ()), 20, ())) fun y1 =>
  br k (y1.1.1 == 0)
  (bd k (z6 k ((y1.2.1.1, y1.2.1.2.1, ()), IntKind.wrap .i64 ((l_.length : Int) + 1), ())) fun y2 =>
  br k (decide (0 ≤ y2.1.1 ∧ y2.1.1 ≤ (l_.length : Int)))
  (some ((subL l_ ((0 : Int).toNat) (y2.1.1.toNat - (0 : Int).toNat), ()), ((y2.2.1.1, y2.2.1.2.1, ()), (), ())))
  none)
  (br k (y1.1.1 == 1)
  (bd k (z6 k ((y1.2.1.1, y1.2.1.2.1, ()), (l_.length : Int), ())) fun y3 =>
  bd k (z23 k ((y3.2.1.1, y3.2.1.2.1, ()), 1, 21, ())) fun y4 =>
  br k (decide (0 ≤ y3.1.1 ∧ y3.1.1 < (l_.length : Int)))
  (bd k (l_[y3.1.1.toNat]?) fun x5 =>
  some ((l_.set y3.1.1.toNat (y4.1.1, x5.2.1, ()), ()), ((y4.2.1.1, y4.2.1.2.1, ()), (), ())))
  none)
  (br k (y1.1.1 == 2)
  (bd k (z6 k ((y1.2.1.1, y1.2.1.2.1, ()), (l_.length : Int), ())) fun y6 =>
  bd k (z23 k ((y6.2.1.1, y6.2.1.2.1, ()), 0, 3, ())) fun y7 =>
  br k (decide (0 ≤ y6.1.1 ∧ y6.1.1 < (l_.length : Int)))
  (bd k (l_[y6.1.1.toNat]?) fun x8 =>
  some ((l_.set y6.1.1.toNat (x8.1, y7.1.1, ()), ()), ((y7.2.1.1, y7.2.1.2.1, ()), (), ())))
  none)
  (br k (y1.1.1 == 3)
  (iter (z108.l1 k) k ((y1.2.1.1, y1.2.1.2.1, ()), l_, 0, ()))
  (some ((l_, ()), ((y1.2.1.1, y1.2.1.2.1, ()), (), ()))))))
noncomputable def z108.sg (k : Nat) : Sig := ⟨(.cons QS23 (.cons (.own QK0) .nil)), (.cons (.own QK0) .nil), z108 k, []⟩
theorem z108.ok (k : Nat) : SigHolds Tryz.prog L 144 (z108.sg k) :=
  soe (C := ⟨Tryz.prog, [(100, [z6.sg k]), (101, [z23.sg k])], k, [], []⟩) (hc1 (z6.ok k) (hc1 (z23.ok k) holds_nil)) Tryz.func144 { loops := [(1, [(0, QS23), (1, (.own QK0)), (5, (.pur (.int .i64)))])], joins := [(10, [(54, .bool)])] } fun _ => by kernel_rfl
end Go.Pev.F
