/-
  Printed by gen.py: what functions of the program compute, and that they do.
-/
import Derived.Test.YtibhfjdhhdjjcaaGreatDoorProg
import Derived.Test.YtibhfjdhhdjjcaaGreatDoorK02
import Derived.Test.YtibhfjdhhdjjcaaGreatDoorK03
import Derived.KernelRfl
set_option linter.unusedSimpArgs false
set_option linter.unusedVariables false
open Go.Proofs Go.Pev
namespace Go.Pev.F
set_option maxRecDepth 100000
abbrev QK0 : Kd := (.cons (.int .i64) (.cons (.int .i64) .nil))
abbrev QT1 : Type := (Int × Int × (List (Int × Int × Unit)) × (List (Int × Int × Unit)) × Int × Int × Unit)
abbrev QT2 : Type := ((List (List UInt8)) × (List (List UInt8)) × (List ((List UInt8) × Int × Unit)) × Unit)
abbrev QS3 : Sh := (.box (.cons (.pur (.sl false .str)) (.cons (.pur (.sl false .str)) (.cons (.pur (.sl false (.cons .str (.cons (.int .i64) .nil)))) (.cons (.pur (.sl false (.cons (.int .i64) (.cons (.int .i64) (.cons (.sl false QK0) (.cons (.sl false QK0) QK0)))))) (.cons (.own (.int .i64)) (.cons (.pur (.sl false (.int .i64))) (.cons (.pur (.int .i64)) (.cons (.pur (.int .i64)) (.cons (.own (.int .i64)) (.cons (.own .bool) (.cons (.rows (.own (.int .i64))) (.cons (.pur (.int .i64)) (.cons (.pur (.int .i64)) (.cons (.own QK0) .nil)))))))))))))))
abbrev QS4 : Sh := (.pur (.cons (.sl false .str) (.cons (.sl false .str) (.cons (.sl false (.cons .str (.cons (.int .i64) .nil))) .nil))))
abbrev QT5 : Type := ((List (List UInt8)) × (List (List UInt8)) × (List ((List UInt8) × Int × Unit)) × (List QT1) × (List Int) × (List Int) × Int × Int × (List Int) × (List Bool) × (List (List Int)) × Int × Int × (List (Int × Int × Unit)) × Unit)
abbrev QS6 : Sh := (.cons (.pur (.int .i64)) .nil)
abbrev QT7 : Type := (List (Int × Int × Unit))
abbrev QS8 : Sh := (.cons (.pur (.int .i64)) (.cons (.pur (.int .i64)) (.cons (.own QK0) (.cons (.own QK0) (.cons (.pur (.int .i64)) QS6)))))
abbrev QK9 : Kd := (.cons (.int .i64) (.cons (.int .i64) (.cons (.sl false QK0) (.cons (.sl false QK0) QK0))))
abbrev QT10 : Type := ((List Int) × (List Bool) × (List (List Int)) × Unit)
abbrev QT11 : Type := ((List (List UInt8)) × (List (List UInt8)) × (List ((List UInt8) × Int × Unit)) × (List QT1) × Unit)
abbrev QK12 : Kd := (.cons (.sl false (.int .i64)) (.cons (.sl false .bool) (.cons (.sl false (.sl false (.int .i64))) .nil)))
abbrev QK13 : Kd := (.cons .bool (.cons (.sl false QK0) (.cons (.sl false QK0) .nil)))
abbrev QT14 : Type := ((List Int) × Int × Unit)
abbrev QS15 : Sh := (.cons (.own (.int .i64)) (.cons (.own .bool) (.cons (.rows (.own (.int .i64))) .nil)))
abbrev QT16 : Type := (Int × QT7 × (List Int) × (List Bool) × (List (List Int)) × Unit)
abbrev QK17 : Kd := (.sl false (.cons .str (.cons (.int .i64) .nil)))
abbrev QS18 : Sh := (.box (.cons (.pur (.int .i64)) (.cons (.pur (.int .i64)) (.cons (.pur (.sl false QK0)) (.cons (.pur (.sl false QK0)) (.cons (.pur (.int .i64)) QS6))))))
abbrev QS19 : Sh := (.cons (.pur .bool) .nil)
abbrev QS20 : Sh := (.box (.cons (.pur (.sl false (.int .i64))) (.cons (.pur (.sl false .bool)) (.cons (.pur (.sl false (.sl false (.int .i64)))) .nil))))
abbrev QT21 : Type := ((Bool × Unit) × (Unit × Unit × Unit))
abbrev QS22 : Sh := (.cons (.pur (.int .i64)) QS6)
abbrev QS23 : Sh := (.box (.cons (.pur (.sl false (.int .u8))) QS6))
abbrev QS24 : Sh := (.pur (.cons (.sl false .str) (.cons (.sl false .str) (.cons QK17 (.cons (.sl false QK9) .nil)))))
abbrev QT25 : Type := ((Bool × Unit) × (Unit × Unit))
abbrev QS26 : Sh := (.box (.cons (.pur (.sl false .str)) (.cons (.pur (.sl false .str)) (.cons (.pur QK17) .nil))))
abbrev QT27 : Type := (List (Bool × QT7 × QT7 × Unit))
abbrev QT28 : Type := ((Int × Unit) × (Unit × Unit × Unit))
abbrev QS29 : Sh := (.pur (.sl false (.int .i64)))
abbrev QK30 : Kd := (.cons (.sl false QK0) (.cons (.sl false QK13) .nil))
abbrev QT31 : Type := (((List QT1) × Unit) × (QT14 × Unit × Unit × Unit × Unit))
abbrev QT32 : Type := (((QT2 × Unit) × Unit) × Unit)
abbrev QS33 : Sh := (.cons (.pur (.sl false .str)) (.cons (.pur (.sl false .str)) (.cons (.pur QK17) (.cons (.rows QS8) .nil))))
abbrev QT34 : Type := ((Int × Int × Unit) × (Unit × Unit × Unit))
abbrev QT35 : Type := (QT14 × QT2 × Int × Int × Unit)
abbrev QT36 : Type := ((Int × Unit) × (Unit × Unit))
abbrev QT37 : Type := (Unit × Unit × Unit × Unit)
abbrev QT38 : Type := (Int × Int × (List Int) × (List Bool) × (List (List Int)) × Int × Int × Unit)
abbrev QT39 : Type := ((List UInt8) × Int × Unit)
abbrev QT40 : Type := ((Int × QT10 × Int × Int × Unit) × (Unit × Unit × Unit × Unit × Unit × Unit × Unit × Unit))
abbrev QS41 : Sh := (.cons (.pur (.sl false QK0)) .nil)
abbrev QT42 : Type := (((Unit) × Unit) × Unit)
abbrev QS43 : Sh := (.pur (.cons (.int .i64) (.cons (.int .i64) (.cons (.sl false (.int .i64)) (.cons (.sl false .bool) (.cons (.sl false (.sl false (.int .i64))) QK0))))))
abbrev QT44 : Type := (List (QT7 × QT27 × Unit))
abbrev QS45 : Sh := (.cons (.pur (.int .i64)) (.cons (.own QK0) QS15))
abbrev QT46 : Type := ((QT7 × Unit) × (QT14 × Unit × Unit × Unit))
abbrev QT47 : Type := ((Int × Unit) × (Unit × QT32 × Unit))
abbrev QT48 : Type := ((Int × Int × Unit) × Unit)
abbrev QS49 : Sh := (.box (.cons (.pur (.sl false .str)) (.cons (.pur (.sl false .str)) (.cons (.pur QK17) (.cons (.pur (.sl false QK9)) .nil)))))
abbrev QK50 : Kd := (.cons (.int .i64) (.cons (.sl false QK0) QK12))
abbrev QT51 : Type := (QT11 × (List Int) × Int × Unit)
abbrev QT52 : Type := ((QT7 × Unit) × (QT14 × Unit × Unit × Unit × Unit))
abbrev QT53 : Type := ((QT10 × Unit) × (Unit × Unit))
abbrev QT54 : Type := ((Bool × Unit) × (Unit × (Unit × Unit) × Unit))
abbrev QT55 : Type := ((Int × Unit) × (Unit × QT42 × Unit))
abbrev QT56 : Type := (((List (List UInt8)) × Unit) × (Unit × Unit))
abbrev QT57 : Type := ((Bool × Unit) × (Unit × ((QT2 × Unit) × Unit) × Unit))
abbrev QS58 : Sh := (.cons (.pur QK12) .nil)
abbrev QS59 : Sh := (.cons (.pur (.sl false (.int .u8))) .nil)
abbrev QT60 : Type := (QT14 × QT2 × Int × Unit)
abbrev QT61 : Type := ((Int × Unit) × (QT5 × Unit))
abbrev QS62 : Sh := (.cons (.pur (.int .i64)) QS22)
abbrev QT63 : Type := (((List QT16) × Unit) × (QT5 × Unit) × Unit)
abbrev QS64 : Sh := (.cons QS24 (.cons QS29 QS6))
abbrev QT65 : Type := ((Bool × Unit) × (Unit × (Unit) × Unit))
abbrev QT66 : Type := (Bool × QT7 × QT7 × Unit)
abbrev QS67 : Sh := (.cons (.pur .str) .nil)
abbrev QT68 : Type := ((Bool × Unit) × (Unit × QT32 × Unit))
abbrev QT69 : Type := (Int × Int × Int × Unit)
abbrev QT70 : Type := (((List Int) × Unit) × (Unit × Unit))
abbrev QS71 : Sh := (.cons (.own (.int .i64)) .nil)
abbrev QT72 : Type := ((Bool × Unit) × (Unit × ((Unit) × Unit) × Unit))
abbrev QK73 : Kd := (.cons .str (.cons (.int .i64) .nil))
theorem soe {C : Ctx} {L : List (Nat × Obj)} {f : FuncId} {fn : Func} {sg : Sig} (hC : C.Holds L) (hf : C.P.funcs[f]? = some fn) (ann : Ann) (he : ∀ x, evFunc C ann fn sg.args sg.res x = sg.den x) (h1 : C.P.follows .mixedOrders = true := by kernel_rfl) (h2 : (fn.name == "runtime.NumGoroutine") = false := by kernel_rfl) (h3 : fn.body.isNone = false := by kernel_rfl) (h4 : sg.al = ann.al := by kernel_rfl) : SigHolds C.P L f sg := by
  obtain ⟨a, r, d, al⟩ := sg
  dsimp only at h4
  subst h4
  exact sig_of_ev hC h1 hf h2 ann a r (fun x y h => (he x).trans h) h3
theorem hc1 {P : Program} {L : List (Nat × Obj)} {k : Nat} {f : FuncId} {sg : Sig} {r : List (FuncId × List Sig)} {dp : List (Nat × Sh)} {il : List (FuncId × List (Nat × InA))} (h : SigHolds P L f sg) (hr : Ctx.Holds ⟨P, r, k, dp, il⟩ L) : Ctx.Holds ⟨P, (f, [sg]) :: r, k, dp, il⟩ L := holds_cons (allok_cons h allok_nil) hr
abbrev E2 (X : Type) := X → X
variable {L : List (Nat × Obj)}
noncomputable def z11 (k : Nat) : QT69 → Option ((Bool × Unit) × QT37) := fun x => match x with
 | (n, low, high, ()) =>
  (br k (decide (n ≥ low))
  (some (decide (n ≤ high), ()))
  (some (false, ())) : Option (Bool × Unit)).bind fun j1 =>
  some ((j1.1, ()), ((), (), (), ()))
noncomputable def z11.sg (k : Nat) : Sig := ⟨QS62, QS19, z11 k, []⟩
theorem z11.ok (k : Nat) : SigHolds Tryz.prog L 75 (z11.sg k) :=
  soe (C := ⟨Tryz.prog, [], k, [], []⟩) holds_nil Tryz.func75 { joins := [(1, [(6, .bool)])] } fun _ => by kernel_rfl
noncomputable def z64.l0 (k : Nat) : E2 (((List UInt8) × (List (List UInt8)) × Int × Unit) → Option QT25) := fun G0 x => match x with
 | (s_, keys, i, ()) =>
  br k (decide (i < (keys.length : Int)))
  (br k (decide (0 ≤ i ∧ i < (keys.length : Int)))
  (bd k (keys[i.toNat]?) fun x1 =>
  br k (x1 == s_)
  (some ((true, ()), ((), ())))
  (G0 (s_, keys, IntKind.wrap .i64 (i + 1), ())))
  none)
  (some ((false, ()), ((), ())))
noncomputable def z64 (k : Nat) : ((List UInt8) × Unit) → Option QT25 := fun x => match x with
 | (s_, ()) =>
  iter (z64.l0 k) k (s_, ([[118, 97, 114], [102, 108, 97, 103], [97, 114, 114, 97, 121], [105, 102], [102, 111, 114, 107], [101, 108, 115, 101], [101, 110, 100], [119, 104, 105, 108, 101], [117, 110, 114, 111, 108, 108], [97, 115, 115, 101, 114, 116], [97, 115, 115, 117, 109, 101], [105, 110, 112, 117, 116], [115, 112, 108, 105, 116], [109, 101, 114, 103, 101], [116, 114, 117, 101], [102, 97, 108, 115, 101]] : List (List UInt8)), 0, ())
noncomputable def z64.sg (k : Nat) : Sig := ⟨QS67, QS19, z64 k, []⟩
theorem z64.ok (k : Nat) : SigHolds Tryz.prog L 184 (z64.sg k) :=
  soe (C := ⟨Tryz.prog, [], k, [], []⟩) holds_nil Tryz.func184 { loops := [(0, [(0, (.pur .str)), (3, (.own .str)), (4, (.pur (.int .i64)))])] } fun _ => by kernel_rfl
noncomputable def z65.l0 (k : Nat) : E2 (QT39 → Option QT25) := fun G0 x => match x with
 | (s_, i, ()) =>
  br k (decide (i < (s_.length : Int)))
  ((br k (decide (0 ≤ i))
  (bd k (s_[i.toNat]?) fun b1 =>
  br k (decide ((b1.toNat : Int) < 97))
  (some (true, ()))
  (br k (decide (0 ≤ i))
  (bd k (s_[i.toNat]?) fun b2 =>
  some (decide ((b2.toNat : Int) > 122), ()))
  none))
  none : Option (Bool × Unit)).bind fun j3 =>
  br k (j3.1)
  (some ((false, ()), ((), ())))
  (G0 (s_, IntKind.wrap .i64 (i + 1), ())))
  ((bd k (z11 k ((s_.length : Int), 1, 8, ())) fun y4 =>
  br k (y4.1.1)
  (bd k (z64 k (s_, ())) fun y5 =>
  some (!y5.1.1, ()))
  (some (false, ())) : Option (Bool × Unit)).bind fun j6 =>
  some ((j6.1, ()), ((), ())))
noncomputable def z65 (k : Nat) : ((List UInt8) × Unit) → Option QT25 := fun x => match x with
 | (s_, ()) =>
  iter (z65.l0 k) k (s_, 0, ())
noncomputable def z65.sg (k : Nat) : Sig := ⟨QS67, QS19, z65 k, []⟩
theorem z65.ok (k : Nat) : SigHolds Tryz.prog L 129 (z65.sg k) :=
  soe (C := ⟨Tryz.prog, [(75, [z11.sg k]), (184, [z64.sg k])], k, [], []⟩) (hc1 (z11.ok k) (hc1 (z64.ok k) holds_nil)) Tryz.func129 { loops := [(0, [(0, (.pur .str)), (3, (.pur (.int .i64)))])], joins := [(4, [(19, .bool)]), (6, [(2, .bool)])] } fun _ => by kernel_rfl
noncomputable def z85.l0 (k : Nat) : E2 (((List (List UInt8)) × (List UInt8) × Int × Unit) → Option QT28) := fun G0 x => match x with
 | (l_, s_, i, ()) =>
  br k (decide (i < (l_.length : Int)))
  (br k (decide (0 ≤ i))
  (bd k (l_[i.toNat]?) fun x1 =>
  br k (x1 == s_)
  (some ((i, ()), ((), (), ())))
  (G0 (l_, s_, IntKind.wrap .i64 (i + 1), ())))
  none)
  (some (((-1), ()), ((), (), ())))
noncomputable def z85 (k : Nat) : ((List (List UInt8)) × (List UInt8) × Unit) → Option QT28 := fun x => match x with
 | (l_, s_, ()) =>
  iter (z85.l0 k) k (l_, s_, 0, ())
noncomputable def z85.sg (k : Nat) : Sig := ⟨(.cons (.pur (.sl false .str)) QS67), QS6, z85 k, []⟩
theorem z85.ok (k : Nat) : SigHolds Tryz.prog L 130 (z85.sg k) :=
  soe (C := ⟨Tryz.prog, [], k, [], []⟩) holds_nil Tryz.func130 { loops := [(0, [(0, (.pur (.sl false .str))), (1, (.pur .str)), (5, (.pur (.int .i64)))])] } fun _ => by kernel_rfl
noncomputable def z18.l2 (k : Nat) : E2 (((List (List UInt8)) × Int × Unit) → Option QT25) := fun G2 x => match x with
 | (all, i, ()) =>
  br k (decide (i < (all.length : Int)))
  ((br k (decide (0 ≤ i ∧ i < (all.length : Int)))
  (bd k (all[i.toNat]?) fun x5 =>
  bd k (z65 k (x5, ())) fun y6 =>
  br k (!y6.1.1)
  (some (true, ()))
  (br k (decide (0 ≤ i ∧ i ≤ (all.length : Int)))
  (br k (decide (0 ≤ i ∧ i < (all.length : Int)))
  (bd k (all[i.toNat]?) fun x7 =>
  bd k (z85 k (subL all ((0 : Int).toNat) (i.toNat - (0 : Int).toNat), x7, ())) fun y8 =>
  some (decide (y8.1.1 ≥ 0), ()))
  none)
  none))
  none : Option (Bool × Unit)).bind fun j9 =>
  br k (j9.1)
  (some ((false, ()), ((), ())))
  (G2 (all, IntKind.wrap .i64 (i + 1), ())))
  (some ((true, ()), ((), ())))
noncomputable def z18.l0 (k : Nat) : E2 ((QT2 × (List (List UInt8)) × Int × Unit) → Option QT25) := fun G0 x => match x with
 | ((d__0, d__1, d__2, ()), all, i, ()) =>
  br k (decide (i < (d__2.length : Int)))
  (br k (decide (0 ≤ i))
  (bd k (d__2[i.toNat]?) fun x2 =>
  bd k (z11 k (x2.2.1, 1, 16, ())) fun y3 =>
  br k (!y3.1.1)
  (some ((false, ()), ((), ())))
  (br k (decide (0 ≤ i))
  (bd k (d__2[i.toNat]?) fun x4 =>
  br k (decide ((all.length + ([x4.1] : List (List UInt8)).length) * 16 ≤ maxBytes))
  (G0 ((d__0, d__1, d__2, ()), all ++ ([x4.1] : List (List UInt8)), IntKind.wrap .i64 (i + 1), ()))
  none)
  none))
  none)
  (iter (z18.l2 k) k (all, 0, ()))
noncomputable def z18 (k : Nat) : (QT2 × Unit) → Option QT25 := fun x => match x with
 | (d_, ()) =>
  (br k (decide ((d_.1.length : Int) > 5))
  (some (true, ()))
  (br k (decide ((d_.2.1.length : Int) > 3))
  (some (true, ()))
  (some (decide ((d_.2.2.1.length : Int) > 2), ()))) : Option (Bool × Unit)).bind fun j1 =>
  br k (j1.1)
  (some ((false, ()), ((), ())))
  (br k (decide ((([] : List (List UInt8)).length + d_.1.length) * 16 ≤ maxBytes))
  (br k (decide (((([] : List (List UInt8)) ++ d_.1).length + d_.2.1.length) * 16 ≤ maxBytes))
  (iter (z18.l0 k) k ((d_.1, d_.2.1, d_.2.2.1, ()), (([] : List (List UInt8)) ++ d_.1) ++ d_.2.1, 0, ()))
  none)
  none)
noncomputable def z18.sg (k : Nat) : Sig := ⟨(.cons QS4 .nil), QS19, z18 k, []⟩
theorem z18.ok (k : Nat) : SigHolds Tryz.prog L 77 (z18.sg k) :=
  soe (C := ⟨Tryz.prog, [(75, [z11.sg k]), (129, [z65.sg k]), (130, [z85.sg k])], k, [], []⟩) (hc1 (z11.ok k) (hc1 (z65.ok k) (hc1 (z85.ok k) holds_nil))) Tryz.func77 { loops := [(0, [(1, QS26), (3, (.own .str)), (4, (.pur (.int .i64)))]), (2, [(3, (.own .str)), (5, (.pur (.int .i64)))])], joins := [(1, [(21, .bool)]), (13, [(75, .bool)])], keys := [(3, [([22], true), ([1], false), ([1], false), ([22, 25], true), ([1], false), ([1], false), ([25, 28], true), ([], false)])] } fun _ => by kernel_rfl
noncomputable def z121 (k : Nat) : (QT2 × Int × Unit) → Option ((Int × Bool × Int × Bool × Unit) × (Unit × Unit × Unit)) := fun x => match x with
 | (d_, kind, ()) =>
  br k (kind == 1)
  (some (((d_.1.length : Int), false, 1, false, ()), ((), (), ())))
  (br k (kind == 2)
  (some (((d_.2.1.length : Int), false, 2, false, ()), ((), (), ())))
  (br k (kind == 3)
  (some (((d_.2.2.1.length : Int), true, 1, false, ()), ((), (), ())))
  (br k (kind == 4)
  (br k (kind == 4)
  (some (((d_.1.length : Int), false, 0, true, ()), ((), (), ())))
  (br k (kind == 5)
  (br k (kind == 5)
  (some (((-1), false, 2, kind == 10, ()), ((), (), ())))
  (some (((-1), false, 0, false, ()), ((), (), ()))))
  (br k (kind == 6)
  (br k (kind == 6)
  (some (((-1), false, 2, kind == 10, ()), ((), (), ())))
  (some (((-1), false, 0, false, ()), ((), (), ()))))
  (br k (kind == 9)
  (br k (kind == 9)
  (some (((-1), false, 2, kind == 10, ()), ((), (), ())))
  (some (((-1), false, 0, false, ()), ((), (), ()))))
  (br k (kind == 10)
  (br k (kind == 10)
  (some (((-1), false, 2, kind == 10, ()), ((), (), ())))
  (some (((-1), false, 0, false, ()), ((), (), ()))))
  (br k (kind == 11)
  (br k (kind == 11)
  (some (((-1), false, 2, kind == 10, ()), ((), (), ())))
  (some (((-1), false, 0, false, ()), ((), (), ()))))
  (br k (kind == 12)
  (some (((-1), false, 2, kind == 10, ()), ((), (), ())))
  (some (((-1), false, 0, false, ()), ((), (), ()))))))))))
  (br k (kind == 13)
  (some (((d_.1.length : Int), false, 0, true, ()), ((), (), ())))
  (br k (kind == 5)
  (br k (kind == 5)
  (some (((-1), false, 2, kind == 10, ()), ((), (), ())))
  (some (((-1), false, 0, false, ()), ((), (), ()))))
  (br k (kind == 6)
  (br k (kind == 6)
  (some (((-1), false, 2, kind == 10, ()), ((), (), ())))
  (some (((-1), false, 0, false, ()), ((), (), ()))))
  (br k (kind == 9)
  (br k (kind == 9)
  (some (((-1), false, 2, kind == 10, ()), ((), (), ())))
  (some (((-1), false, 0, false, ()), ((), (), ()))))
  (br k (kind == 10)
  (br k (kind == 10)
  (some (((-1), false, 2, kind == 10, ()), ((), (), ())))
  (some (((-1), false, 0, false, ()), ((), (), ()))))
  (br k (kind == 11)
  (br k (kind == 11)
  (some (((-1), false, 2, kind == 10, ()), ((), (), ())))
  (some (((-1), false, 0, false, ()), ((), (), ()))))
  (br k (kind == 12)
  (some (((-1), false, 2, kind == 10, ()), ((), (), ())))
  (some (((-1), false, 0, false, ()), ((), (), ())))))))))))))
noncomputable def z121.sg (k : Nat) : Sig := ⟨(.cons QS4 QS6), (.cons (.pur (.int .i64)) (.cons (.pur .bool) (.cons (.pur (.int .i64)) QS19))), z121 k, []⟩
theorem z121.ok (k : Nat) : SigHolds Tryz.prog L 182 (z121.sg k) :=
  soe (C := ⟨Tryz.prog, [], k, [], []⟩) holds_nil Tryz.func182 {} fun _ => by kernel_rfl
noncomputable def z97 (k : Nat) : (Int × Unit) → Option QT36 := fun x => match x with
 | (op, ()) =>
  br k (decide (op ≤ 5))
  (some ((0, ()), ((), ())))
  ((br k (decide (op ≤ 7))
  (some (true, ()))
  (some (op == 19, ())) : Option (Bool × Unit)).bind fun j1 =>
  br k (j1.1)
  (some ((1, ()), ((), ())))
  (some ((2, ()), ((), ()))))
noncomputable def z97.sg (k : Nat) : Sig := ⟨QS6, QS6, z97 k, []⟩
theorem z97.ok (k : Nat) : SigHolds Tryz.prog L 105 (z97.sg k) :=
  soe (C := ⟨Tryz.prog, [], k, [], []⟩) holds_nil Tryz.func105 { joins := [(3, [(6, .bool)])] } fun _ => by kernel_rfl
noncomputable def z149 (k : Nat) : (Int × Unit) → Option ((Int × Int × Unit) × (Unit × Unit)) := fun x => match x with
 | (op, ()) =>
  (br k (op == 3)
  (some (true, ()))
  (br k (op == 4)
  (some (true, ()))
  (some (op == 5, ()))) : Option (Bool × Unit)).bind fun j1 =>
  br k (j1.1)
  (some ((0, 2, ()), ((), ())))
  (br k (decide (op ≤ 12))
  (some ((1, 1, ()), ((), ())))
  (br k (decide (op ≤ 18))
  (some ((1, 2, ()), ((), ())))
  (some ((2, 2, ()), ((), ())))))
noncomputable def z149.sg (k : Nat) : Sig := ⟨QS6, QS22, z149 k, []⟩
theorem z149.ok (k : Nat) : SigHolds Tryz.prog L 221 (z149.sg k) :=
  soe (C := ⟨Tryz.prog, [], k, [], []⟩) holds_nil Tryz.func221 { joins := [(1, [(4, .bool)])] } fun _ => by kernel_rfl
noncomputable def z150 (k : Nat) : (QT2 × (Int × Int × Unit) × Unit) → Option QT21 := fun x => match x with
 | (d_, t, ()) =>
  br k (t.1 == 1)
  (bd k (z11 k (t.2.1, 0, 999999999999999999, ())) fun y1 =>
  some ((y1.1.1, ()), ((), (), ())))
  (br k (t.1 == 2)
  (bd k (z11 k (t.2.1, 0, IntKind.wrap .i64 ((d_.1.length : Int) - 1), ())) fun y2 =>
  some ((y2.1.1, ()), ((), (), ())))
  (br k (t.1 == 3)
  (bd k (z11 k (t.2.1, 0, IntKind.wrap .i64 ((d_.2.1.length : Int) - 1), ())) fun y3 =>
  some ((y3.1.1, ()), ((), (), ())))
  (br k (t.1 == 6)
  (bd k (z11 k (t.2.1, 0, IntKind.wrap .i64 ((d_.2.2.1.length : Int) - 1), ())) fun y4 =>
  some ((y4.1.1, ()), ((), (), ())))
  ((bd k (z11 k (t.1, 4, 21, ())) fun y5 =>
  br k (y5.1.1)
  (some (t.2.1 == 0, ()))
  (some (false, ())) : Option (Bool × Unit)).bind fun j6 =>
  some ((j6.1, ()), ((), (), ()))))))
noncomputable def z150.sg (k : Nat) : Sig := ⟨(.cons QS4 (.cons (.pur QK0) .nil)), QS19, z150 k, []⟩
theorem z150.ok (k : Nat) : SigHolds Tryz.prog L 222 (z150.sg k) :=
  soe (C := ⟨Tryz.prog, [(75, [z11.sg k])], k, [], []⟩) (hc1 (z11.ok k) holds_nil) Tryz.func222 { joins := [(10, [(4, .bool)])] } fun _ => by kernel_rfl
end Go.Pev.F
