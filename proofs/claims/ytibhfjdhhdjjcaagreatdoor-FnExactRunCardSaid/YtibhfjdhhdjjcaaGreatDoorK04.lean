/-
  Printed by gen.py: what functions of the program compute, and that they do.
-/
import Derived.Test.YtibhfjdhhdjjcaaGreatDoorProg
import Derived.Test.YtibhfjdhhdjjcaaGreatDoorK02
import Derived.Test.YtibhfjdhhdjjcaaGreatDoorK03
import Derived.KernelRfl
set_option linter.unusedSimpArgs false
set_option linter.unusedVariables false
open Go.Proofs Go.Pev
namespace Go.Pev.F
set_option maxRecDepth 100000
abbrev QK0 : Kd := (.cons (.int .i64) (.cons (.int .i64) (.cons (.sl false (.cons (.int .i64) (.cons (.int .i64) .nil))) (.cons (.sl false (.cons (.int .i64) (.cons (.int .i64) .nil))) (.cons (.int .i64) (.cons (.int .i64) .nil))))))
abbrev QT1 : Type := (Int × Int × (List (Int × Int × Unit)) × (List (Int × Int × Unit)) × Int × Int × Unit)
abbrev QS2 : Sh := (.box (.cons (.pur (.sl false .str)) (.cons (.pur (.sl false .str)) (.cons (.pur (.sl false (.cons .str (.cons (.int .i64) .nil)))) (.cons (.pur (.sl false QK0)) (.cons (.own (.int .i64)) (.cons (.pur (.sl false (.int .i64))) (.cons (.pur (.int .i64)) (.cons (.pur (.int .i64)) (.cons (.own (.int .i64)) (.cons (.own .bool) (.cons (.rows (.own (.int .i64))) (.cons (.pur (.int .i64)) (.cons (.pur (.int .i64)) (.cons (.own (.cons (.int .i64) (.cons (.int .i64) .nil))) .nil)))))))))))))))
abbrev QT3 : Type := ((List (List UInt8)) × (List (List UInt8)) × (List ((List UInt8) × Int × Unit)) × (List QT1) × (List Int) × (List Int) × Int × Int × (List Int) × (List Bool) × (List (List Int)) × Int × Int × (List (Int × Int × Unit)) × Unit)
abbrev QS4 : Sh := (.cons (.pur (.int .i64)) .nil)
abbrev QT5 : Type := ((List (List UInt8)) × (List (List UInt8)) × (List ((List UInt8) × Int × Unit)) × Unit)
abbrev QK6 : Kd := (.cons (.int .i64) (.cons (.int .i64) .nil))
abbrev QK7 : Kd := (.sl false (.cons .str (.cons (.int .i64) .nil)))
abbrev QT8 : Type := ((List Int) × (List Bool) × (List (List Int)) × Unit)
abbrev QT9 : Type := ((List (List UInt8)) × (List (List UInt8)) × (List ((List UInt8) × Int × Unit)) × (List QT1) × Unit)
abbrev QS10 : Sh := (.box (.cons (.pur (.int .i64)) (.cons (.pur (.int .i64)) (.cons (.pur (.sl false QK6)) (.cons (.pur (.sl false QK6)) (.cons (.pur (.int .i64)) QS4))))))
abbrev QS11 : Sh := (.pur (.cons (.sl false .str) (.cons (.sl false .str) (.cons QK7 .nil))))
abbrev QS12 : Sh := (.pur (.cons (.sl false .str) (.cons (.sl false .str) (.cons QK7 (.cons (.sl false QK0) .nil)))))
abbrev QS13 : Sh := (.cons (.pur .bool) .nil)
abbrev QT14 : Type := ((Int × Unit) × (Unit × Unit × Unit))
abbrev QS15 : Sh := (.cons (.pur (.int .i64)) QS4)
abbrev QS16 : Sh := (.cons (.own (.int .i64)) (.cons (.own .bool) (.cons (.rows (.own (.int .i64))) .nil)))
abbrev QT17 : Type := ((Bool × Unit) × (Unit × Unit × Unit))
abbrev QS18 : Sh := (.pur (.cons (.sl false (.int .i64)) (.cons (.sl false .bool) (.cons (.sl false (.sl false (.int .i64))) .nil))))
abbrev QT19 : Type := (List (Int × Int × Unit))
abbrev QS20 : Sh := (.pur (.sl false (.int .i64)))
abbrev QS21 : Sh := (.cons (.pur (.int .i64)) (.cons (.pur (.int .i64)) (.cons (.own QK6) (.cons (.own QK6) QS15))))
abbrev QT22 : Type := ((List UInt8) × Int × Unit)
abbrev QT23 : Type := ((Bool × Unit) × (Unit × Unit))
abbrev QT24 : Type := (Int × Int × (List Int) × (List Bool) × (List (List Int)) × Int × Int × Unit)
abbrev QS25 : Sh := (.box (.cons (.pur (.sl false .str)) (.cons (.pur (.sl false .str)) (.cons (.pur QK7) .nil))))
abbrev QS26 : Sh := (.box (.cons QS20 (.cons (.pur (.sl false .bool)) (.cons (.pur (.sl false (.sl false (.int .i64)))) .nil))))
abbrev QT27 : Type := ((Int × Int × Unit) × (Unit × Unit × Unit))
abbrev QK28 : Kd := (.cons .str (.cons (.int .i64) .nil))
abbrev QS29 : Sh := (.pur (.cons (.int .i64) (.cons (.int .i64) (.cons (.sl false (.int .i64)) (.cons (.sl false .bool) (.cons (.sl false (.sl false (.int .i64))) QK6))))))
abbrev QT30 : Type := ((Int × QT8 × Int × Int × Unit) × (Unit × Unit × Unit × Unit × Unit × Unit × Unit × Unit))
abbrev QT31 : Type := (Unit × Unit × Unit × Unit)
abbrev QT32 : Type := ((Int × Unit) × (Unit × Unit))
abbrev QT33 : Type := (((QT5 × Unit) × Unit) × Unit)
abbrev QT34 : Type := (((List (List UInt8)) × Unit) × (Unit × Unit))
abbrev QT35 : Type := (((Unit) × Unit) × Unit)
abbrev QS36 : Sh := (.pur (.sl false (.sl false (.int .i64))))
abbrev QS37 : Sh := (.cons (.pur (.sl false QK6)) .nil)
abbrev QS38 : Sh := (.cons (.pur (.sl false QK0)) .nil)
abbrev QT39 : Type := (((List Int) × Unit) × (Unit × Unit))
abbrev QT40 : Type := ((QT8 × Unit) × (Unit × Unit))
abbrev QT41 : Type := ((Int × Unit) × (QT3 × Unit))
abbrev QS42 : Sh := (.cons (.pur .str) .nil)
abbrev QS43 : Sh := (.cons (.pur (.int .i64)) QS15)
abbrev QT44 : Type := (QT9 × (List Int) × Int × Unit)
abbrev QS45 : Sh := (.pur (.sl false .bool))
abbrev QT46 : Type := (Int × Int × Int × Unit)
abbrev QT47 : Type := ((Int × Unit) × (Unit × QT35 × Unit))
abbrev QT48 : Type := ((Int × Unit) × (Unit × QT33 × Unit))
abbrev QS49 : Sh := (.cons QS12 (.cons QS20 QS4))
theorem soe {C : Ctx} {L : List (Nat × Obj)} {f : FuncId} {fn : Func} {sg : Sig} (hC : C.Holds L) (hf : C.P.funcs[f]? = some fn) (ann : Ann) (he : ∀ x, evFunc C ann fn sg.args sg.res x = sg.den x) (h1 : C.P.follows .mixedOrders = true := by kernel_rfl) (h2 : (fn.name == "runtime.NumGoroutine") = false := by kernel_rfl) (h3 : fn.body.isNone = false := by kernel_rfl) (h4 : sg.al = ann.al := by kernel_rfl) : SigHolds C.P L f sg := by
  obtain ⟨a, r, d, al⟩ := sg
  dsimp only at h4
  subst h4
  exact sig_of_ev hC h1 hf h2 ann a r (fun x y h => (he x).trans h) h3
theorem hc1 {P : Program} {L : List (Nat × Obj)} {k : Nat} {f : FuncId} {sg : Sig} {r : List (FuncId × List Sig)} {dp : List (Nat × Sh)} {il : List (FuncId × List (Nat × InA))} (h : SigHolds P L f sg) (hr : Ctx.Holds ⟨P, r, k, dp, il⟩ L) : Ctx.Holds ⟨P, (f, [sg]) :: r, k, dp, il⟩ L := holds_cons (allok_cons h allok_nil) hr
abbrev E2 (X : Type) := X → X
noncomputable def z35.l0 (k : Nat) : E2 (((List (List UInt8)) × Int × Int × Unit) → Option QT14) := fun G0 x => match x with
 | (a, left, i, ()) =>
  br k (decide (i < (a.length : Int)))
  (br k (decide (0 ≤ i))
  (bd k (a[i.toNat]?) fun x1 =>
  br k (decide ((IntKind.wrap .i64 (left - (x1.length : Int))) < 0))
  (some (((-1), ()), ((), (), ())))
  (G0 (a, IntKind.wrap .i64 (left - (x1.length : Int)), IntKind.wrap .i64 (i + 1), ())))
  none)
  (some ((left, ()), ((), (), ())))
noncomputable def z35 (k : Nat) : ((List (List UInt8)) × Int × Unit) → Option QT14 := fun x => match x with
 | (a, left, ()) =>
  br k (decide ((IntKind.wrap .i64 (left - (a.length : Int))) < 0))
  (some (((-1), ()), ((), (), ())))
  (iter (z35.l0 k) k (a, IntKind.wrap .i64 (left - (a.length : Int)), 0, ()))
noncomputable def z35.sg (k : Nat) : Sig := ⟨(.cons (.pur (.sl false .str)) QS4), QS4, z35 k, []⟩
theorem z35.ok {L : List (Nat × Obj)} (k : Nat) : SigHolds Tryz.prog L 71 (z35.sg k) :=
  soe (C := ⟨Tryz.prog, [], k, [], []⟩) holds_nil Tryz.func71 { loops := [(0, [(0, (.pur (.sl false .str))), (1, (.pur (.int .i64))), (5, (.pur (.int .i64)))])] } fun _ => by kernel_rfl
noncomputable def z122 (k : Nat) : (QT22 × Int × Unit) → Option QT14 := fun x => match x with
 | (a, left, ()) =>
  br k (decide ((IntKind.wrap .i64 (left - (a.1.length : Int))) < 0))
  (some (((-1), ()), ((), (), ())))
  (some ((IntKind.wrap .i64 (left - (a.1.length : Int)), ()), ((), (), ())))
noncomputable def z122.sg (k : Nat) : Sig := ⟨(.cons (.pur QK28) QS4), QS4, z122 k, []⟩
theorem z122.ok {L : List (Nat × Obj)} (k : Nat) : SigHolds Tryz.prog L 124 (z122.sg k) :=
  soe (C := ⟨Tryz.prog, [], k, [], []⟩) holds_nil Tryz.func124 {} fun _ => by kernel_rfl
noncomputable def z47.l0 (k : Nat) : E2 (((List QT22) × Int × Int × Unit) → Option QT14) := fun G0 x => match x with
 | (a, left, i, ()) =>
  br k (decide (i < (a.length : Int)))
  (br k (decide (0 ≤ i))
  (bd k (a[i.toNat]?) fun x1 =>
  bd k (z122 k (x1, left, ())) fun y2 =>
  br k (decide (y2.1.1 < 0))
  (some (((-1), ()), ((), (), ())))
  (G0 (a, y2.1.1, IntKind.wrap .i64 (i + 1), ())))
  none)
  (some ((left, ()), ((), (), ())))
noncomputable def z47 (k : Nat) : ((List QT22) × Int × Unit) → Option QT14 := fun x => match x with
 | (a, left, ()) =>
  br k (decide ((IntKind.wrap .i64 (left - (a.length : Int))) < 0))
  (some (((-1), ()), ((), (), ())))
  (iter (z47.l0 k) k (a, IntKind.wrap .i64 (left - (a.length : Int)), 0, ()))
noncomputable def z47.sg (k : Nat) : Sig := ⟨(.cons (.pur QK7) QS4), QS4, z47 k, []⟩
theorem z47.ok {L : List (Nat × Obj)} (k : Nat) : SigHolds Tryz.prog L 72 (z47.sg k) :=
  soe (C := ⟨Tryz.prog, [(124, [z122.sg k])], k, [], []⟩) (hc1 (z122.ok k) holds_nil) Tryz.func72 { loops := [(0, [(0, (.pur QK7)), (1, (.pur (.int .i64))), (5, (.pur (.int .i64)))])] } fun _ => by kernel_rfl
noncomputable def z123 (k : Nat) : (QT5 × Int × Unit) → Option QT14 := fun x => match x with
 | (a, left, ()) =>
  bd k (z35 k (a.1, left, ())) fun y1 =>
  br k (decide (y1.1.1 < 0))
  (some (((-1), ()), ((), (), ())))
  (bd k (z35 k (a.2.1, y1.1.1, ())) fun y2 =>
  br k (decide (y2.1.1 < 0))
  (some (((-1), ()), ((), (), ())))
  (bd k (z47 k (a.2.2.1, y2.1.1, ())) fun y3 =>
  br k (decide (y3.1.1 < 0))
  (some (((-1), ()), ((), (), ())))
  (some ((y3.1.1, ()), ((), (), ())))))
noncomputable def z123.sg (k : Nat) : Sig := ⟨(.cons QS11 QS4), QS4, z123 k, []⟩
theorem z123.ok {L : List (Nat × Obj)} (k : Nat) : SigHolds Tryz.prog L 30 (z123.sg k) :=
  soe (C := ⟨Tryz.prog, [(71, [z35.sg k]), (72, [z47.sg k])], k, [], []⟩) (hc1 (z35.ok k) (hc1 (z47.ok k) holds_nil)) Tryz.func30 {} fun _ => by kernel_rfl
noncomputable def z96 (k : Nat) : (QT19 × Int × Unit) → Option QT14 := fun x => match x with
 | (a, left, ()) =>
  br k (decide ((IntKind.wrap .i64 (left - (a.length : Int))) < 0))
  (some (((-1), ()), ((), (), ())))
  (some ((IntKind.wrap .i64 (left - (a.length : Int)), ()), ((), (), ())))
noncomputable def z96.sg (k : Nat) : Sig := ⟨(.cons (.pur (.sl false QK6)) QS4), QS4, z96 k, []⟩
theorem z96.ok {L : List (Nat × Obj)} (k : Nat) : SigHolds Tryz.prog L 125 (z96.sg k) :=
  soe (C := ⟨Tryz.prog, [], k, [], []⟩) holds_nil Tryz.func125 {} fun _ => by kernel_rfl
noncomputable def z124 (k : Nat) : (QT1 × Int × Unit) → Option QT14 := fun x => match x with
 | (a, left, ()) =>
  bd k (z96 k (a.2.2.1, left, ())) fun y1 =>
  br k (decide (y1.1.1 < 0))
  (some (((-1), ()), ((), (), ())))
  (bd k (z96 k (a.2.2.2.1, y1.1.1, ())) fun y2 =>
  br k (decide (y2.1.1 < 0))
  (some (((-1), ()), ((), (), ())))
  (some ((y2.1.1, ()), ((), (), ()))))
noncomputable def z124.sg (k : Nat) : Sig := ⟨(.cons (.pur QK0) QS4), QS4, z124 k, []⟩
theorem z124.ok {L : List (Nat × Obj)} (k : Nat) : SigHolds Tryz.prog L 73 (z124.sg k) :=
  soe (C := ⟨Tryz.prog, [(125, [z96.sg k])], k, [], []⟩) (hc1 (z96.ok k) holds_nil) Tryz.func73 {} fun _ => by kernel_rfl
noncomputable def z48.l0 (k : Nat) : E2 (((List QT1) × Int × Int × Unit) → Option QT14) := fun G0 x => match x with
 | (a, left, i, ()) =>
  br k (decide (i < (a.length : Int)))
  (br k (decide (0 ≤ i))
  (bd k (a[i.toNat]?) fun x1 =>
  bd k (z124 k (x1, left, ())) fun y2 =>
  br k (decide (y2.1.1 < 0))
  (some (((-1), ()), ((), (), ())))
  (G0 (a, y2.1.1, IntKind.wrap .i64 (i + 1), ())))
  none)
  (some ((left, ()), ((), (), ())))
noncomputable def z48 (k : Nat) : ((List QT1) × Int × Unit) → Option QT14 := fun x => match x with
 | (a, left, ()) =>
  br k (decide ((IntKind.wrap .i64 (left - (a.length : Int))) < 0))
  (some (((-1), ()), ((), (), ())))
  (iter (z48.l0 k) k (a, IntKind.wrap .i64 (left - (a.length : Int)), 0, ()))
noncomputable def z48.sg (k : Nat) : Sig := ⟨(.cons (.pur (.sl false QK0)) QS4), QS4, z48 k, []⟩
theorem z48.ok {L : List (Nat × Obj)} (k : Nat) : SigHolds Tryz.prog L 31 (z48.sg k) :=
  soe (C := ⟨Tryz.prog, [(73, [z124.sg k])], k, [], []⟩) (hc1 (z124.ok k) holds_nil) Tryz.func31 { loops := [(0, [(0, (.pur (.sl false QK0))), (1, (.pur (.int .i64))), (5, (.pur (.int .i64)))])] } fun _ => by kernel_rfl
noncomputable def z125 (k : Nat) : (QT9 × Int × Unit) → Option QT14 := fun x => match x with
 | (a, left, ()) =>
  bd k (z123 k ((a.1, a.2.1, a.2.2.1, ()), left, ())) fun y1 =>
  br k (decide (y1.1.1 < 0))
  (some (((-1), ()), ((), (), ())))
  (bd k (z48 k (a.2.2.2.1, y1.1.1, ())) fun y2 =>
  br k (decide (y2.1.1 < 0))
  (some (((-1), ()), ((), (), ())))
  (some ((y2.1.1, ()), ((), (), ()))))
noncomputable def z125.sg (k : Nat) : Sig := ⟨(.cons QS12 QS4), QS4, z125 k, []⟩
theorem z125.ok {L : List (Nat × Obj)} (k : Nat) : SigHolds Tryz.prog L 6 (z125.sg k) :=
  soe (C := ⟨Tryz.prog, [(30, [z123.sg k]), (31, [z48.sg k])], k, [], []⟩) (hc1 (z123.ok k) (hc1 (z48.ok k) holds_nil)) Tryz.func6 {} fun _ => by kernel_rfl
noncomputable def z36.l0 (k : Nat) : E2 (((List (List UInt8)) × (List (List UInt8)) × Int × Unit) → Option QT34) := fun G0 x => match x with
 | (a, out_, i, ()) =>
  br k (decide (i < (a.length : Int)))
  (br k (decide (0 ≤ i))
  (bd k (a[i.toNat]?) fun x1 =>
  br k (decide (0 ≤ i ∧ i < (out_.length : Int)))
  (bd k (out_[i.toNat]?) fun x2 =>
  G0 (a, out_.set i.toNat x1, IntKind.wrap .i64 (i + 1), ()))
  none)
  none)
  (some ((out_, ()), ((), ())))
noncomputable def z36 (k : Nat) : ((List (List UInt8)) × Unit) → Option QT34 := fun x => match x with
 | (a, ()) =>
  br k (decide (0 ≤ (a.length : Int) ∧ (a.length : Int) ≤ (a.length : Int) ∧ (a.length : Int) * 16 ≤ maxBytes))
  (iter (z36.l0 k) k (a, List.replicate (a.length : Int).toNat (Kd.z .str), 0, ()))
  none
noncomputable def z36.sg (k : Nat) : Sig := ⟨(.cons (.pur (.sl false .str)) .nil), (.cons (.own .str) .nil), z36 k, []⟩
theorem z36.ok {L : List (Nat × Obj)} (k : Nat) : SigHolds Tryz.prog L 80 (z36.sg k) :=
  soe (C := ⟨Tryz.prog, [], k, [], []⟩) holds_nil Tryz.func80 { loops := [(0, [(0, (.pur (.sl false .str))), (3, (.own .str)), (4, (.pur (.int .i64)))])] } fun _ => by kernel_rfl
noncomputable def z160 (k : Nat) : (QT22 × Unit) → Option ((QT22 × Unit) × (Unit × Unit)) := fun x => match x with
 | (a, ()) =>
  some ((a, ()), ((), ()))
noncomputable def z160.sg (k : Nat) : Sig := ⟨(.cons (.pur QK28) .nil), (.cons (.pur QK28) .nil), z160 k, []⟩
theorem z160.ok {L : List (Nat × Obj)} (k : Nat) : SigHolds Tryz.prog L 131 (z160.sg k) :=
  soe (C := ⟨Tryz.prog, [], k, [], []⟩) holds_nil Tryz.func131 {} fun _ => by kernel_rfl
noncomputable def z50.l0 (k : Nat) : E2 (((List QT22) × (List QT22) × Int × Unit) → Option (((List QT22) × Unit) × (Unit × Unit))) := fun G0 x => match x with
 | (a, out_, i, ()) =>
  br k (decide (i < (a.length : Int)))
  (br k (decide (0 ≤ i))
  (bd k (a[i.toNat]?) fun x1 =>
  bd k (z160 k (x1, ())) fun y2 =>
  br k (decide (0 ≤ i ∧ i < (out_.length : Int)))
  (bd k (out_[i.toNat]?) fun x3 =>
  G0 (a, out_.set i.toNat y2.1.1, IntKind.wrap .i64 (i + 1), ()))
  none)
  none)
  (some ((out_, ()), ((), ())))
noncomputable def z50 (k : Nat) : ((List QT22) × Unit) → Option (((List QT22) × Unit) × (Unit × Unit)) := fun x => match x with
 | (a, ()) =>
  br k (decide (0 ≤ (a.length : Int) ∧ (a.length : Int) ≤ (a.length : Int) ∧ (a.length : Int) * 24 ≤ maxBytes))
  (iter (z50.l0 k) k (a, List.replicate (a.length : Int).toNat (Kd.z QK28), 0, ()))
  none
noncomputable def z50.sg (k : Nat) : Sig := ⟨(.cons (.pur QK7) .nil), (.cons (.own QK28) .nil), z50 k, []⟩
theorem z50.ok {L : List (Nat × Obj)} (k : Nat) : SigHolds Tryz.prog L 81 (z50.sg k) :=
  soe (C := ⟨Tryz.prog, [(131, [z160.sg k])], k, [], []⟩) (hc1 (z160.ok k) holds_nil) Tryz.func81 { loops := [(0, [(0, (.pur QK7)), (3, (.own QK28)), (4, (.pur (.int .i64)))])] } fun _ => by kernel_rfl
noncomputable def z126 (k : Nat) : (QT5 × Unit) → Option ((QT5 × Unit) × (Unit × Unit)) := fun x => match x with
 | (a, ()) =>
  bd k (z36 k (a.1, ())) fun y1 =>
  bd k (z36 k (a.2.1, ())) fun y2 =>
  bd k (z50 k (a.2.2.1, ())) fun y3 =>
  some (((y1.1.1, y2.1.1, y3.1.1, ()), ()), ((), ()))
noncomputable def z126.sg (k : Nat) : Sig := ⟨(.cons QS11 .nil), (.cons (.agg (.cons (.own .str) (.cons (.own .str) (.cons (.own QK28) .nil)))) .nil), z126 k, []⟩
theorem z126.ok {L : List (Nat × Obj)} (k : Nat) : SigHolds Tryz.prog L 36 (z126.sg k) :=
  soe (C := ⟨Tryz.prog, [(80, [z36.sg k]), (81, [z50.sg k])], k, [], []⟩) (hc1 (z36.ok k) (hc1 (z50.ok k) holds_nil)) Tryz.func36 {} fun _ => by kernel_rfl
noncomputable def z161 (k : Nat) : ((Int × Int × Unit) × Unit) → Option (((Int × Int × Unit) × Unit) × (Unit × Unit)) := fun x => match x with
 | (a, ()) =>
  some ((a, ()), ((), ()))
noncomputable def z161.sg (k : Nat) : Sig := ⟨(.cons (.pur QK6) .nil), (.cons (.pur QK6) .nil), z161 k, []⟩
theorem z161.ok {L : List (Nat × Obj)} (k : Nat) : SigHolds Tryz.prog L 185 (z161.sg k) :=
  soe (C := ⟨Tryz.prog, [], k, [], []⟩) holds_nil Tryz.func185 {} fun _ => by kernel_rfl
noncomputable def z37.l0 (k : Nat) : E2 ((QT19 × QT19 × Int × Unit) → Option ((QT19 × Unit) × (Unit × Unit))) := fun G0 x => match x with
 | (a, out_, i, ()) =>
  br k (decide (i < (a.length : Int)))
  (br k (decide (0 ≤ i))
  (bd k (a[i.toNat]?) fun x1 =>
  bd k (z161 k (x1, ())) fun y2 =>
  br k (decide (0 ≤ i ∧ i < (out_.length : Int)))
  (bd k (out_[i.toNat]?) fun x3 =>
  G0 (a, out_.set i.toNat y2.1.1, IntKind.wrap .i64 (i + 1), ()))
  none)
  none)
  (some ((out_, ()), ((), ())))
noncomputable def z37 (k : Nat) : (QT19 × Unit) → Option ((QT19 × Unit) × (Unit × Unit)) := fun x => match x with
 | (a, ()) =>
  br k (decide (0 ≤ (a.length : Int) ∧ (a.length : Int) ≤ (a.length : Int) ∧ (a.length : Int) * 16 ≤ maxBytes))
  (iter (z37.l0 k) k (a, List.replicate (a.length : Int).toNat (Kd.z QK6), 0, ()))
  none
noncomputable def z37.sg (k : Nat) : Sig := ⟨QS37, (.cons (.own QK6) .nil), z37 k, []⟩
theorem z37.ok {L : List (Nat × Obj)} (k : Nat) : SigHolds Tryz.prog L 132 (z37.sg k) :=
  soe (C := ⟨Tryz.prog, [(185, [z161.sg k])], k, [], []⟩) (hc1 (z161.ok k) holds_nil) Tryz.func132 { loops := [(0, [(0, (.pur (.sl false QK6))), (3, (.own QK6)), (4, (.pur (.int .i64)))])] } fun _ => by kernel_rfl
noncomputable def z127 (k : Nat) : (QT1 × Unit) → Option ((QT1 × Unit) × (Unit × Unit)) := fun x => match x with
 | (a, ()) =>
  bd k (z37 k (a.2.2.1, ())) fun y1 =>
  bd k (z37 k (a.2.2.2.1, ())) fun y2 =>
  some (((a.1, a.2.1, y1.1.1, y2.1.1, a.2.2.2.2.1, a.2.2.2.2.2.1, ()), ()), ((), ()))
noncomputable def z127.sg (k : Nat) : Sig := ⟨(.cons (.pur QK0) .nil), (.cons (.agg QS21) .nil), z127 k, []⟩
theorem z127.ok {L : List (Nat × Obj)} (k : Nat) : SigHolds Tryz.prog L 82 (z127.sg k) :=
  soe (C := ⟨Tryz.prog, [(132, [z37.sg k])], k, [], []⟩) (hc1 (z37.ok k) holds_nil) Tryz.func82 {} fun _ => by kernel_rfl
noncomputable def z52.l0 (k : Nat) : E2 (((List QT1) × (List QT1) × Int × Unit) → Option (((List QT1) × Unit) × (Unit × Unit))) := fun G0 x => match x with
 | (a, out_, i, ()) =>
  br k (decide (i < (a.length : Int)))
  (br k (decide (0 ≤ i))
  (bd k (a[i.toNat]?) fun x1 =>
  bd k (z127 k (x1, ())) fun y2 =>
  br k (decide (0 ≤ i ∧ i < (out_.length : Int)))
  (bd k (out_[i.toNat]?) fun x3 =>
  G0 (a, out_.set i.toNat (y2.1.1.1, y2.1.1.2.1, y2.1.1.2.2.1, y2.1.1.2.2.2.1, y2.1.1.2.2.2.2.1, y2.1.1.2.2.2.2.2.1, ()), IntKind.wrap .i64 (i + 1), ()))
  none)
  none)
  (some ((out_, ()), ((), ())))
noncomputable def z52 (k : Nat) : ((List QT1) × Unit) → Option (((List QT1) × Unit) × (Unit × Unit)) := fun x => match x with
 | (a, ()) =>
  br k (decide (0 ≤ (a.length : Int) ∧ (a.length : Int) ≤ (a.length : Int) ∧ (a.length : Int) * 80 ≤ maxBytes))
  (iter (z52.l0 k) k (a, List.replicate (a.length : Int).toNat (Sh.z QS21), 0, ()))
  none
noncomputable def z52.sg (k : Nat) : Sig := ⟨QS38, (.cons (.rows QS21) .nil), z52 k, []⟩
theorem z52.ok {L : List (Nat × Obj)} (k : Nat) : SigHolds Tryz.prog L 37 (z52.sg k) :=
  soe (C := ⟨Tryz.prog, [(82, [z127.sg k])], k, [(7, QS21)], []⟩) (hc1 (z127.ok k) holds_nil) Tryz.func37 { loops := [(0, [(0, (.pur (.sl false QK0))), (3, (.rows QS21)), (4, (.pur (.int .i64)))])] } fun _ => by kernel_rfl
noncomputable def z85 (k : Nat) : (QT9 × Unit) → Option ((QT9 × Unit) × (Unit × Unit)) := fun x => match x with
 | (a, ()) =>
  bd k (z126 k ((a.1, a.2.1, a.2.2.1, ()), ())) fun y1 =>
  bd k (z52 k (a.2.2.2.1, ())) fun y2 =>
  some (((y1.1.1.1, y1.1.1.2.1, y1.1.1.2.2.1, y2.1.1, ()), ()), ((), ()))
noncomputable def z85.sg (k : Nat) : Sig := ⟨(.cons QS12 .nil), (.cons (.agg (.cons (.own .str) (.cons (.own .str) (.cons (.own QK28) (.cons (.rows QS21) .nil))))) .nil), z85 k, []⟩
theorem z85.ok {L : List (Nat × Obj)} (k : Nat) : SigHolds Tryz.prog L 8 (z85.sg k) :=
  soe (C := ⟨Tryz.prog, [(36, [z126.sg k]), (37, [z52.sg k])], k, [], []⟩) (hc1 (z126.ok k) (hc1 (z52.ok k) holds_nil)) Tryz.func8 {} fun _ => by kernel_rfl
noncomputable def z27.l0 (k : Nat) : E2 (((List Int) × (List Int) × Int × Unit) → Option QT39) := fun G0 x => match x with
 | (a, out_, i, ()) =>
  br k (decide (i < (a.length : Int)))
  (br k (decide (0 ≤ i))
  (bd k (a[i.toNat]?) fun x1 =>
  br k (decide (0 ≤ i ∧ i < (out_.length : Int)))
  (bd k (out_[i.toNat]?) fun x2 =>
  G0 (a, out_.set i.toNat x1, IntKind.wrap .i64 (i + 1), ()))
  none)
  none)
  (some ((out_, ()), ((), ())))
noncomputable def z27 (k : Nat) : ((List Int) × Unit) → Option QT39 := fun x => match x with
 | (a, ()) =>
  br k (decide (0 ≤ (a.length : Int) ∧ (a.length : Int) ≤ (a.length : Int) ∧ (a.length : Int) * 8 ≤ maxBytes))
  (iter (z27.l0 k) k (a, List.replicate (a.length : Int).toNat (Kd.z (.int .i64)), 0, ()))
  none
noncomputable def z27.sg (k : Nat) : Sig := ⟨(.cons QS20 .nil), (.cons (.own (.int .i64)) .nil), z27 k, []⟩
theorem z27.ok {L : List (Nat × Obj)} (k : Nat) : SigHolds Tryz.prog L 9 (z27.sg k) :=
  soe (C := ⟨Tryz.prog, [], k, [], []⟩) holds_nil Tryz.func9 { loops := [(0, [(0, QS20), (3, (.own (.int .i64))), (4, (.pur (.int .i64)))])] } fun _ => by kernel_rfl
noncomputable def z8 (k : Nat) : QT46 → Option ((Bool × Unit) × QT31) := fun x => match x with
 | (n, low, high, ()) =>
  (br k (decide (n ≥ low))
  (some (decide (n ≤ high), ()))
  (some (false, ())) : Option (Bool × Unit)).bind fun j1 =>
  some ((j1.1, ()), ((), (), (), ()))
noncomputable def z8.sg (k : Nat) : Sig := ⟨QS43, QS13, z8 k, []⟩
theorem z8.ok {L : List (Nat × Obj)} (k : Nat) : SigHolds Tryz.prog L 75 (z8.sg k) :=
  soe (C := ⟨Tryz.prog, [], k, [], []⟩) holds_nil Tryz.func75 { joins := [(1, [(6, .bool)])] } fun _ => by kernel_rfl
noncomputable def z54.l0 (k : Nat) : E2 (((List UInt8) × (List (List UInt8)) × Int × Unit) → Option QT23) := fun G0 x => match x with
 | (s_, keys, i, ()) =>
  br k (decide (i < (keys.length : Int)))
  (br k (decide (0 ≤ i ∧ i < (keys.length : Int)))
  (bd k (keys[i.toNat]?) fun x1 =>
  br k (x1 == s_)
  (some ((true, ()), ((), ())))
  (G0 (s_, keys, IntKind.wrap .i64 (i + 1), ())))
  none)
  (some ((false, ()), ((), ())))
noncomputable def z54 (k : Nat) : ((List UInt8) × Unit) → Option QT23 := fun x => match x with
 | (s_, ()) =>
  iter (z54.l0 k) k (s_, ([[118, 97, 114], [102, 108, 97, 103], [97, 114, 114, 97, 121], [105, 102], [102, 111, 114, 107], [101, 108, 115, 101], [101, 110, 100], [119, 104, 105, 108, 101], [117, 110, 114, 111, 108, 108], [97, 115, 115, 101, 114, 116], [97, 115, 115, 117, 109, 101], [105, 110, 112, 117, 116], [115, 112, 108, 105, 116], [109, 101, 114, 103, 101], [116, 114, 117, 101], [102, 97, 108, 115, 101]] : List (List UInt8)), 0, ())
noncomputable def z54.sg (k : Nat) : Sig := ⟨QS42, QS13, z54 k, []⟩
theorem z54.ok {L : List (Nat × Obj)} (k : Nat) : SigHolds Tryz.prog L 184 (z54.sg k) :=
  soe (C := ⟨Tryz.prog, [], k, [], []⟩) holds_nil Tryz.func184 { loops := [(0, [(0, (.pur .str)), (3, (.own .str)), (4, (.pur (.int .i64)))])] } fun _ => by kernel_rfl
noncomputable def z55.l0 (k : Nat) : E2 (QT22 → Option QT23) := fun G0 x => match x with
 | (s_, i, ()) =>
  br k (decide (i < (s_.length : Int)))
  ((br k (decide (0 ≤ i))
  (bd k (s_[i.toNat]?) fun b1 =>
  br k (decide ((b1.toNat : Int) < 97))
  (some (true, ()))
  (br k (decide (0 ≤ i))
  (bd k (s_[i.toNat]?) fun b2 =>
  some (decide ((b2.toNat : Int) > 122), ()))
  none))
  none : Option (Bool × Unit)).bind fun j3 =>
  br k (j3.1)
  (some ((false, ()), ((), ())))
  (G0 (s_, IntKind.wrap .i64 (i + 1), ())))
  ((bd k (z8 k ((s_.length : Int), 1, 8, ())) fun y4 =>
  br k (y4.1.1)
  (bd k (z54 k (s_, ())) fun y5 =>
  some (!y5.1.1, ()))
  (some (false, ())) : Option (Bool × Unit)).bind fun j6 =>
  some ((j6.1, ()), ((), ())))
noncomputable def z55 (k : Nat) : ((List UInt8) × Unit) → Option QT23 := fun x => match x with
 | (s_, ()) =>
  iter (z55.l0 k) k (s_, 0, ())
noncomputable def z55.sg (k : Nat) : Sig := ⟨QS42, QS13, z55 k, []⟩
theorem z55.ok {L : List (Nat × Obj)} (k : Nat) : SigHolds Tryz.prog L 129 (z55.sg k) :=
  soe (C := ⟨Tryz.prog, [(75, [z8.sg k]), (184, [z54.sg k])], k, [], []⟩) (hc1 (z8.ok k) (hc1 (z54.ok k) holds_nil)) Tryz.func129 { loops := [(0, [(0, (.pur .str)), (3, (.pur (.int .i64)))])], joins := [(4, [(19, .bool)]), (6, [(2, .bool)])] } fun _ => by kernel_rfl
noncomputable def z73.l0 (k : Nat) : E2 (((List (List UInt8)) × (List UInt8) × Int × Unit) → Option QT14) := fun G0 x => match x with
 | (l_, s_, i, ()) =>
  br k (decide (i < (l_.length : Int)))
  (br k (decide (0 ≤ i))
  (bd k (l_[i.toNat]?) fun x1 =>
  br k (x1 == s_)
  (some ((i, ()), ((), (), ())))
  (G0 (l_, s_, IntKind.wrap .i64 (i + 1), ())))
  none)
  (some (((-1), ()), ((), (), ())))
noncomputable def z73 (k : Nat) : ((List (List UInt8)) × (List UInt8) × Unit) → Option QT14 := fun x => match x with
 | (l_, s_, ()) =>
  iter (z73.l0 k) k (l_, s_, 0, ())
noncomputable def z73.sg (k : Nat) : Sig := ⟨(.cons (.pur (.sl false .str)) QS42), QS4, z73 k, []⟩
theorem z73.ok {L : List (Nat × Obj)} (k : Nat) : SigHolds Tryz.prog L 130 (z73.sg k) :=
  soe (C := ⟨Tryz.prog, [], k, [], []⟩) holds_nil Tryz.func130 { loops := [(0, [(0, (.pur (.sl false .str))), (1, (.pur .str)), (5, (.pur (.int .i64)))])] } fun _ => by kernel_rfl
noncomputable def z13.l2 (k : Nat) : E2 (((List (List UInt8)) × Int × Unit) → Option QT23) := fun G2 x => match x with
 | (all, i, ()) =>
  br k (decide (i < (all.length : Int)))
  ((br k (decide (0 ≤ i ∧ i < (all.length : Int)))
  (bd k (all[i.toNat]?) fun x5 =>
  bd k (z55 k (x5, ())) fun y6 =>
  br k (!y6.1.1)
  (some (true, ()))
  (br k (decide (0 ≤ i ∧ i ≤ (all.length : Int)))
  (br k (decide (0 ≤ i ∧ i < (all.length : Int)))
  (bd k (all[i.toNat]?) fun x7 =>
  bd k (z73 k (subL all ((0 : Int).toNat) (i.toNat - (0 : Int).toNat), x7, ())) fun y8 =>
  some (decide (y8.1.1 ≥ 0), ()))
  none)
  none))
  none : Option (Bool × Unit)).bind fun j9 =>
  br k (j9.1)
  (some ((false, ()), ((), ())))
  (G2 (all, IntKind.wrap .i64 (i + 1), ())))
  (some ((true, ()), ((), ())))
noncomputable def z13.l0 (k : Nat) : E2 ((QT5 × (List (List UInt8)) × Int × Unit) → Option QT23) := fun G0 x => match x with
 | ((d__0, d__1, d__2, ()), all, i, ()) =>
  br k (decide (i < (d__2.length : Int)))
  (br k (decide (0 ≤ i))
  (bd k (d__2[i.toNat]?) fun x2 =>
  bd k (z8 k (x2.2.1, 1, 16, ())) fun y3 =>
  br k (!y3.1.1)
  (some ((false, ()), ((), ())))
  (br k (decide (0 ≤ i))
  (bd k (d__2[i.toNat]?) fun x4 =>
  br k (decide ((all.length + ([x4.1] : List (List UInt8)).length) * 16 ≤ maxBytes))
  (G0 ((d__0, d__1, d__2, ()), all ++ ([x4.1] : List (List UInt8)), IntKind.wrap .i64 (i + 1), ()))
  none)
  none))
  none)
  (iter (z13.l2 k) k (all, 0, ()))
noncomputable def z13 (k : Nat) : (QT5 × Unit) → Option QT23 := fun x => match x with
 | (d_, ()) =>
  (br k (decide ((d_.1.length : Int) > 5))
  (some (true, ()))
  (br k (decide ((d_.2.1.length : Int) > 3))
  (some (true, ()))
  (some (decide ((d_.2.2.1.length : Int) > 2), ()))) : Option (Bool × Unit)).bind fun j1 =>
  br k (j1.1)
  (some ((false, ()), ((), ())))
  (br k (decide ((([] : List (List UInt8)).length + d_.1.length) * 16 ≤ maxBytes))
  (br k (decide (((([] : List (List UInt8)) ++ d_.1).length + d_.2.1.length) * 16 ≤ maxBytes))
  (iter (z13.l0 k) k ((d_.1, d_.2.1, d_.2.2.1, ()), (([] : List (List UInt8)) ++ d_.1) ++ d_.2.1, 0, ()))
  none)
  none)
noncomputable def z13.sg (k : Nat) : Sig := ⟨(.cons QS11 .nil), QS13, z13 k, []⟩
theorem z13.ok {L : List (Nat × Obj)} (k : Nat) : SigHolds Tryz.prog L 77 (z13.sg k) :=
  soe (C := ⟨Tryz.prog, [(75, [z8.sg k]), (129, [z55.sg k]), (130, [z73.sg k])], k, [], []⟩) (hc1 (z8.ok k) (hc1 (z55.ok k) (hc1 (z73.ok k) holds_nil))) Tryz.func77 { loops := [(0, [(1, QS25), (3, (.own .str)), (4, (.pur (.int .i64)))]), (2, [(3, (.own .str)), (5, (.pur (.int .i64)))])], joins := [(1, [(21, .bool)]), (13, [(75, .bool)])], keys := [(3, [([22], true), ([1], false), ([1], false), ([22, 25], true), ([1], false), ([1], false), ([25, 28], true), ([], false)])] } fun _ => by kernel_rfl
noncomputable def z97 (k : Nat) : (QT5 × Int × Unit) → Option ((Int × Bool × Int × Bool × Unit) × (Unit × Unit × Unit)) := fun x => match x with
 | (d_, kind, ()) =>
  br k (kind == 1)
  (some (((d_.1.length : Int), false, 1, false, ()), ((), (), ())))
  (br k (kind == 2)
  (some (((d_.2.1.length : Int), false, 2, false, ()), ((), (), ())))
  (br k (kind == 3)
  (some (((d_.2.2.1.length : Int), true, 1, false, ()), ((), (), ())))
  (br k (kind == 4)
  (br k (kind == 4)
  (some (((d_.1.length : Int), false, 0, true, ()), ((), (), ())))
  (br k (kind == 5)
  (br k (kind == 5)
  (some (((-1), false, 2, kind == 10, ()), ((), (), ())))
  (some (((-1), false, 0, false, ()), ((), (), ()))))
  (br k (kind == 6)
  (br k (kind == 6)
  (some (((-1), false, 2, kind == 10, ()), ((), (), ())))
  (some (((-1), false, 0, false, ()), ((), (), ()))))
  (br k (kind == 9)
  (br k (kind == 9)
  (some (((-1), false, 2, kind == 10, ()), ((), (), ())))
  (some (((-1), false, 0, false, ()), ((), (), ()))))
  (br k (kind == 10)
  (br k (kind == 10)
  (some (((-1), false, 2, kind == 10, ()), ((), (), ())))
  (some (((-1), false, 0, false, ()), ((), (), ()))))
  (br k (kind == 11)
  (br k (kind == 11)
  (some (((-1), false, 2, kind == 10, ()), ((), (), ())))
  (some (((-1), false, 0, false, ()), ((), (), ()))))
  (br k (kind == 12)
  (some (((-1), false, 2, kind == 10, ()), ((), (), ())))
  (some (((-1), false, 0, false, ()), ((), (), ()))))))))))
  (br k (kind == 13)
  (some (((d_.1.length : Int), false, 0, true, ()), ((), (), ())))
  (br k (kind == 5)
  (br k (kind == 5)
  (some (((-1), false, 2, kind == 10, ()), ((), (), ())))
  (some (((-1), false, 0, false, ()), ((), (), ()))))
  (br k (kind == 6)
  (br k (kind == 6)
  (some (((-1), false, 2, kind == 10, ()), ((), (), ())))
  (some (((-1), false, 0, false, ()), ((), (), ()))))
  (br k (kind == 9)
  (br k (kind == 9)
  (some (((-1), false, 2, kind == 10, ()), ((), (), ())))
  (some (((-1), false, 0, false, ()), ((), (), ()))))
  (br k (kind == 10)
  (br k (kind == 10)
  (some (((-1), false, 2, kind == 10, ()), ((), (), ())))
  (some (((-1), false, 0, false, ()), ((), (), ()))))
  (br k (kind == 11)
  (br k (kind == 11)
  (some (((-1), false, 2, kind == 10, ()), ((), (), ())))
  (some (((-1), false, 0, false, ()), ((), (), ()))))
  (br k (kind == 12)
  (some (((-1), false, 2, kind == 10, ()), ((), (), ())))
  (some (((-1), false, 0, false, ()), ((), (), ())))))))))))))
noncomputable def z97.sg (k : Nat) : Sig := ⟨(.cons QS11 QS4), (.cons (.pur (.int .i64)) (.cons (.pur .bool) (.cons (.pur (.int .i64)) QS13))), z97 k, []⟩
theorem z97.ok {L : List (Nat × Obj)} (k : Nat) : SigHolds Tryz.prog L 182 (z97.sg k) :=
  soe (C := ⟨Tryz.prog, [], k, [], []⟩) holds_nil Tryz.func182 {} fun _ => by kernel_rfl
noncomputable def z86 (k : Nat) : (Int × Unit) → Option QT32 := fun x => match x with
 | (op, ()) =>
  br k (decide (op ≤ 5))
  (some ((0, ()), ((), ())))
  ((br k (decide (op ≤ 7))
  (some (true, ()))
  (some (op == 19, ())) : Option (Bool × Unit)).bind fun j1 =>
  br k (j1.1)
  (some ((1, ()), ((), ())))
  (some ((2, ()), ((), ()))))
noncomputable def z86.sg (k : Nat) : Sig := ⟨QS4, QS4, z86 k, []⟩
theorem z86.ok {L : List (Nat × Obj)} (k : Nat) : SigHolds Tryz.prog L 105 (z86.sg k) :=
  soe (C := ⟨Tryz.prog, [], k, [], []⟩) holds_nil Tryz.func105 { joins := [(3, [(6, .bool)])] } fun _ => by kernel_rfl
noncomputable def z128 (k : Nat) : (Int × Unit) → Option ((Int × Int × Unit) × (Unit × Unit)) := fun x => match x with
 | (op, ()) =>
  (br k (op == 3)
  (some (true, ()))
  (br k (op == 4)
  (some (true, ()))
  (some (op == 5, ()))) : Option (Bool × Unit)).bind fun j1 =>
  br k (j1.1)
  (some ((0, 2, ()), ((), ())))
  (br k (decide (op ≤ 12))
  (some ((1, 1, ()), ((), ())))
  (br k (decide (op ≤ 18))
  (some ((1, 2, ()), ((), ())))
  (some ((2, 2, ()), ((), ())))))
noncomputable def z128.sg (k : Nat) : Sig := ⟨QS4, QS15, z128 k, []⟩
theorem z128.ok {L : List (Nat × Obj)} (k : Nat) : SigHolds Tryz.prog L 221 (z128.sg k) :=
  soe (C := ⟨Tryz.prog, [], k, [], []⟩) holds_nil Tryz.func221 { joins := [(1, [(4, .bool)])] } fun _ => by kernel_rfl
noncomputable def z129 (k : Nat) : (QT5 × (Int × Int × Unit) × Unit) → Option QT17 := fun x => match x with
 | (d_, t, ()) =>
  br k (t.1 == 1)
  (bd k (z8 k (t.2.1, 0, 999999999999999999, ())) fun y1 =>
  some ((y1.1.1, ()), ((), (), ())))
  (br k (t.1 == 2)
  (bd k (z8 k (t.2.1, 0, IntKind.wrap .i64 ((d_.1.length : Int) - 1), ())) fun y2 =>
  some ((y2.1.1, ()), ((), (), ())))
  (br k (t.1 == 3)
  (bd k (z8 k (t.2.1, 0, IntKind.wrap .i64 ((d_.2.1.length : Int) - 1), ())) fun y3 =>
  some ((y3.1.1, ()), ((), (), ())))
  (br k (t.1 == 6)
  (bd k (z8 k (t.2.1, 0, IntKind.wrap .i64 ((d_.2.2.1.length : Int) - 1), ())) fun y4 =>
  some ((y4.1.1, ()), ((), (), ())))
  ((bd k (z8 k (t.1, 4, 21, ())) fun y5 =>
  br k (y5.1.1)
  (some (t.2.1 == 0, ()))
  (some (false, ())) : Option (Bool × Unit)).bind fun j6 =>
  some ((j6.1, ()), ((), (), ()))))))
noncomputable def z129.sg (k : Nat) : Sig := ⟨(.cons QS11 (.cons (.pur QK6) .nil)), QS13, z129 k, []⟩
theorem z129.ok {L : List (Nat × Obj)} (k : Nat) : SigHolds Tryz.prog L 222 (z129.sg k) :=
  soe (C := ⟨Tryz.prog, [(75, [z8.sg k])], k, [], []⟩) (hc1 (z8.ok k) holds_nil) Tryz.func222 { joins := [(10, [(4, .bool)])] } fun _ => by kernel_rfl
end Go.Pev.F
