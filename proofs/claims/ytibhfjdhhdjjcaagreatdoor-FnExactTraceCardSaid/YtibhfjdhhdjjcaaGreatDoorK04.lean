/-
  Printed by gen.py: what functions of the program compute, and that they do.
-/
import Derived.Test.YtibhfjdhhdjjcaaGreatDoorProg
import Derived.Test.YtibhfjdhhdjjcaaGreatDoorK02
import Derived.Test.YtibhfjdhhdjjcaaGreatDoorK03
import Derived.KernelRfl
set_option linter.unusedSimpArgs false
set_option linter.unusedVariables false
open Go.Proofs Go.Pev
namespace Go.Pev.F
set_option maxRecDepth 100000
abbrev QK0 : Kd := (.cons (.int .i64) (.cons (.int .i64) .nil))
abbrev QT1 : Type := (Int × Int × (List (Int × Int × Unit)) × (List (Int × Int × Unit)) × Int × Int × Unit)
abbrev QK2 : Kd := (.cons (.int .i64) (.cons (.int .i64) (.cons (.sl false QK0) (.cons (.sl false QK0) QK0))))
abbrev QT3 : Type := ((List (List UInt8)) × (List (List UInt8)) × (List ((List UInt8) × Int × Unit)) × (List QT1) × (List Int) × (List Int) × Int × Int × (List Int) × (List Bool) × (List (List Int)) × Int × Int × (List (Int × Int × Unit)) × Unit)
abbrev QS4 : Sh := (.box (.cons (.pur (.sl false .str)) (.cons (.pur (.sl false .str)) (.cons (.pur (.sl false (.cons .str (.cons (.int .i64) .nil)))) (.cons (.pur (.sl false QK2)) (.cons (.own (.int .i64)) (.cons (.pur (.sl false (.int .i64))) (.cons (.pur (.int .i64)) (.cons (.pur (.int .i64)) (.cons (.own (.int .i64)) (.cons (.own .bool) (.cons (.rows (.own (.int .i64))) (.cons (.pur (.int .i64)) (.cons (.pur (.int .i64)) (.cons (.own QK0) .nil)))))))))))))))
abbrev QS5 : Sh := (.cons (.pur (.int .i64)) .nil)
abbrev QT6 : Type := ((List (List UInt8)) × (List (List UInt8)) × (List ((List UInt8) × Int × Unit)) × Unit)
abbrev QT7 : Type := (Int × (List (Int × Int × Unit)) × (List Int) × (List Bool) × (List (List Int)) × Unit)
abbrev QK8 : Kd := (.sl false (.cons .str (.cons (.int .i64) .nil)))
abbrev QT9 : Type := ((List Int) × (List Bool) × (List (List Int)) × Unit)
abbrev QS10 : Sh := (.cons (.own (.int .i64)) (.cons (.own .bool) (.cons (.rows (.own (.int .i64))) .nil)))
abbrev QK11 : Kd := (.cons (.sl false (.int .i64)) (.cons (.sl false .bool) (.cons (.sl false (.sl false (.int .i64))) .nil)))
abbrev QT12 : Type := ((List (List UInt8)) × (List (List UInt8)) × (List ((List UInt8) × Int × Unit)) × (List QT1) × Unit)
abbrev QS13 : Sh := (.box (.cons (.pur (.int .i64)) (.cons (.pur (.int .i64)) (.cons (.pur (.sl false QK0)) (.cons (.pur (.sl false QK0)) (.cons (.pur (.int .i64)) QS5))))))
abbrev QS14 : Sh := (.pur (.cons (.sl false .str) (.cons (.sl false .str) (.cons QK8 .nil))))
abbrev QT15 : Type := (List (Int × Int × Unit))
abbrev QT16 : Type := ((Int × Unit) × (Unit × Unit × Unit))
abbrev QS17 : Sh := (.cons (.pur .bool) .nil)
abbrev QT18 : Type := ((Bool × Unit) × (Unit × Unit × Unit))
abbrev QS19 : Sh := (.pur (.cons (.sl false .str) (.cons (.sl false .str) (.cons QK8 (.cons (.sl false QK2) .nil)))))
abbrev QS20 : Sh := (.cons (.pur (.int .i64)) QS5)
abbrev QS21 : Sh := (.box (.cons (.pur (.sl false (.int .i64))) (.cons (.pur (.sl false .bool)) (.cons (.pur (.sl false (.sl false (.int .i64)))) .nil))))
abbrev QT22 : Type := ((Bool × Unit) × (Unit × Unit))
abbrev QS23 : Sh := (.cons (.pur (.int .i64)) (.cons (.pur (.int .i64)) (.cons (.own QK0) (.cons (.own QK0) QS20))))
abbrev QT24 : Type := ((List UInt8) × Int × Unit)
abbrev QS25 : Sh := (.box (.cons (.pur (.sl false .str)) (.cons (.pur (.sl false .str)) (.cons (.pur QK8) .nil))))
abbrev QT26 : Type := ((Int × Int × Unit) × (Unit × Unit × Unit))
abbrev QS27 : Sh := (.pur (.sl false (.int .i64)))
abbrev QK28 : Kd := (.cons .str (.cons (.int .i64) .nil))
abbrev QT29 : Type := (Unit × Unit × Unit × Unit)
abbrev QT30 : Type := ((Int × QT9 × Int × Int × Unit) × (Unit × Unit × Unit × Unit × Unit × Unit × Unit × Unit))
abbrev QK31 : Kd := (.cons (.int .i64) (.cons (.sl false QK0) QK11))
abbrev QS32 : Sh := (.cons (.pur (.int .i64)) (.cons (.own QK0) QS10))
abbrev QT33 : Type := ((Int × Unit) × (Unit × Unit))
abbrev QT34 : Type := (((QT6 × Unit) × Unit) × Unit)
abbrev QS35 : Sh := (.cons (.pur (.sl false QK0)) .nil)
abbrev QT36 : Type := (((List (List UInt8)) × Unit) × (Unit × Unit))
abbrev QT37 : Type := (((Unit) × Unit) × Unit)
abbrev QS38 : Sh := (.pur (.sl false (.sl false (.int .i64))))
abbrev QT39 : Type := ((QT9 × Unit) × (Unit × Unit))
abbrev QS40 : Sh := (.cons (.pur (.sl false QK2)) .nil)
abbrev QT41 : Type := (((List Int) × Unit) × (Unit × Unit))
abbrev QT42 : Type := ((Int × Unit) × (QT3 × Unit))
abbrev QS43 : Sh := (.cons (.pur .str) .nil)
abbrev QS44 : Sh := (.cons (.pur (.int .i64)) QS20)
abbrev QT45 : Type := (((List QT7) × Unit) × (QT3 × Unit) × Unit)
abbrev QT46 : Type := (QT12 × (List Int) × Int × Unit)
abbrev QS47 : Sh := (.pur (.sl false .bool))
abbrev QT48 : Type := (Int × Int × Int × Unit)
abbrev QT49 : Type := ((Int × Unit) × (Unit × QT37 × Unit))
abbrev QT50 : Type := ((Int × Unit) × (Unit × QT34 × Unit))
abbrev QT51 : Type := ((Int × Unit) × (QT15 × Unit × Unit))
abbrev QS52 : Sh := (.cons (.own (.int .i64)) .nil)
abbrev QS53 : Sh := (.cons QS19 (.cons QS27 QS5))
theorem soe {C : Ctx} {L : List (Nat × Obj)} {f : FuncId} {fn : Func} {sg : Sig} (hC : C.Holds L) (hf : C.P.funcs[f]? = some fn) (ann : Ann) (he : ∀ x, evFunc C ann fn sg.args sg.res x = sg.den x) (h1 : C.P.follows .mixedOrders = true := by kernel_rfl) (h2 : (fn.name == "runtime.NumGoroutine") = false := by kernel_rfl) (h3 : fn.body.isNone = false := by kernel_rfl) (h4 : sg.al = ann.al := by kernel_rfl) : SigHolds C.P L f sg := by
  obtain ⟨a, r, d, al⟩ := sg
  dsimp only at h4
  subst h4
  exact sig_of_ev hC h1 hf h2 ann a r (fun x y h => (he x).trans h) h3
theorem hc1 {P : Program} {L : List (Nat × Obj)} {k : Nat} {f : FuncId} {sg : Sig} {r : List (FuncId × List Sig)} {dp : List (Nat × Sh)} {il : List (FuncId × List (Nat × InA))} (h : SigHolds P L f sg) (hr : Ctx.Holds ⟨P, r, k, dp, il⟩ L) : Ctx.Holds ⟨P, (f, [sg]) :: r, k, dp, il⟩ L := holds_cons (allok_cons h allok_nil) hr
abbrev E2 (X : Type) := X → X
noncomputable def z41.l0 (k : Nat) : E2 (((List (List UInt8)) × Int × Int × Unit) → Option QT16) := fun G0 x => match x with
 | (a, left, i, ()) =>
  br k (decide (i < (a.length : Int)))
  (br k (decide (0 ≤ i))
  (bd k (a[i.toNat]?) fun x1 =>
  br k (decide ((IntKind.wrap .i64 (left - (x1.length : Int))) < 0))
  (some (((-1), ()), ((), (), ())))
  (G0 (a, IntKind.wrap .i64 (left - (x1.length : Int)), IntKind.wrap .i64 (i + 1), ())))
  none)
  (some ((left, ()), ((), (), ())))
noncomputable def z41 (k : Nat) : ((List (List UInt8)) × Int × Unit) → Option QT16 := fun x => match x with
 | (a, left, ()) =>
  br k (decide ((IntKind.wrap .i64 (left - (a.length : Int))) < 0))
  (some (((-1), ()), ((), (), ())))
  (iter (z41.l0 k) k (a, IntKind.wrap .i64 (left - (a.length : Int)), 0, ()))
noncomputable def z41.sg (k : Nat) : Sig := ⟨(.cons (.pur (.sl false .str)) QS5), QS5, z41 k, []⟩
theorem z41.ok {L : List (Nat × Obj)} (k : Nat) : SigHolds Tryz.prog L 71 (z41.sg k) :=
  soe (C := ⟨Tryz.prog, [], k, [], []⟩) holds_nil Tryz.func71 { loops := [(0, [(0, (.pur (.sl false .str))), (1, (.pur (.int .i64))), (5, (.pur (.int .i64)))])] } fun _ => by kernel_rfl
noncomputable def z132 (k : Nat) : (QT24 × Int × Unit) → Option QT16 := fun x => match x with
 | (a, left, ()) =>
  br k (decide ((IntKind.wrap .i64 (left - (a.1.length : Int))) < 0))
  (some (((-1), ()), ((), (), ())))
  (some ((IntKind.wrap .i64 (left - (a.1.length : Int)), ()), ((), (), ())))
noncomputable def z132.sg (k : Nat) : Sig := ⟨(.cons (.pur QK28) QS5), QS5, z132 k, []⟩
theorem z132.ok {L : List (Nat × Obj)} (k : Nat) : SigHolds Tryz.prog L 124 (z132.sg k) :=
  soe (C := ⟨Tryz.prog, [], k, [], []⟩) holds_nil Tryz.func124 {} fun _ => by kernel_rfl
noncomputable def z54.l0 (k : Nat) : E2 (((List QT24) × Int × Int × Unit) → Option QT16) := fun G0 x => match x with
 | (a, left, i, ()) =>
  br k (decide (i < (a.length : Int)))
  (br k (decide (0 ≤ i))
  (bd k (a[i.toNat]?) fun x1 =>
  bd k (z132 k (x1, left, ())) fun y2 =>
  br k (decide (y2.1.1 < 0))
  (some (((-1), ()), ((), (), ())))
  (G0 (a, y2.1.1, IntKind.wrap .i64 (i + 1), ())))
  none)
  (some ((left, ()), ((), (), ())))
noncomputable def z54 (k : Nat) : ((List QT24) × Int × Unit) → Option QT16 := fun x => match x with
 | (a, left, ()) =>
  br k (decide ((IntKind.wrap .i64 (left - (a.length : Int))) < 0))
  (some (((-1), ()), ((), (), ())))
  (iter (z54.l0 k) k (a, IntKind.wrap .i64 (left - (a.length : Int)), 0, ()))
noncomputable def z54.sg (k : Nat) : Sig := ⟨(.cons (.pur QK8) QS5), QS5, z54 k, []⟩
theorem z54.ok {L : List (Nat × Obj)} (k : Nat) : SigHolds Tryz.prog L 72 (z54.sg k) :=
  soe (C := ⟨Tryz.prog, [(124, [z132.sg k])], k, [], []⟩) (hc1 (z132.ok k) holds_nil) Tryz.func72 { loops := [(0, [(0, (.pur QK8)), (1, (.pur (.int .i64))), (5, (.pur (.int .i64)))])] } fun _ => by kernel_rfl
noncomputable def z133 (k : Nat) : (QT6 × Int × Unit) → Option QT16 := fun x => match x with
 | (a, left, ()) =>
  bd k (z41 k (a.1, left, ())) fun y1 =>
  br k (decide (y1.1.1 < 0))
  (some (((-1), ()), ((), (), ())))
  (bd k (z41 k (a.2.1, y1.1.1, ())) fun y2 =>
  br k (decide (y2.1.1 < 0))
  (some (((-1), ()), ((), (), ())))
  (bd k (z54 k (a.2.2.1, y2.1.1, ())) fun y3 =>
  br k (decide (y3.1.1 < 0))
  (some (((-1), ()), ((), (), ())))
  (some ((y3.1.1, ()), ((), (), ())))))
noncomputable def z133.sg (k : Nat) : Sig := ⟨(.cons QS14 QS5), QS5, z133 k, []⟩
theorem z133.ok {L : List (Nat × Obj)} (k : Nat) : SigHolds Tryz.prog L 30 (z133.sg k) :=
  soe (C := ⟨Tryz.prog, [(71, [z41.sg k]), (72, [z54.sg k])], k, [], []⟩) (hc1 (z41.ok k) (hc1 (z54.ok k) holds_nil)) Tryz.func30 {} fun _ => by kernel_rfl
noncomputable def z107 (k : Nat) : (QT15 × Int × Unit) → Option QT16 := fun x => match x with
 | (a, left, ()) =>
  br k (decide ((IntKind.wrap .i64 (left - (a.length : Int))) < 0))
  (some (((-1), ()), ((), (), ())))
  (some ((IntKind.wrap .i64 (left - (a.length : Int)), ()), ((), (), ())))
noncomputable def z107.sg (k : Nat) : Sig := ⟨(.cons (.pur (.sl false QK0)) QS5), QS5, z107 k, []⟩
theorem z107.ok {L : List (Nat × Obj)} (k : Nat) : SigHolds Tryz.prog L 125 (z107.sg k) :=
  soe (C := ⟨Tryz.prog, [], k, [], []⟩) holds_nil Tryz.func125 {} fun _ => by kernel_rfl
noncomputable def z134 (k : Nat) : (QT1 × Int × Unit) → Option QT16 := fun x => match x with
 | (a, left, ()) =>
  bd k (z107 k (a.2.2.1, left, ())) fun y1 =>
  br k (decide (y1.1.1 < 0))
  (some (((-1), ()), ((), (), ())))
  (bd k (z107 k (a.2.2.2.1, y1.1.1, ())) fun y2 =>
  br k (decide (y2.1.1 < 0))
  (some (((-1), ()), ((), (), ())))
  (some ((y2.1.1, ()), ((), (), ()))))
noncomputable def z134.sg (k : Nat) : Sig := ⟨(.cons (.pur QK2) QS5), QS5, z134 k, []⟩
theorem z134.ok {L : List (Nat × Obj)} (k : Nat) : SigHolds Tryz.prog L 73 (z134.sg k) :=
  soe (C := ⟨Tryz.prog, [(125, [z107.sg k])], k, [], []⟩) (hc1 (z107.ok k) holds_nil) Tryz.func73 {} fun _ => by kernel_rfl
noncomputable def z55.l0 (k : Nat) : E2 (((List QT1) × Int × Int × Unit) → Option QT16) := fun G0 x => match x with
 | (a, left, i, ()) =>
  br k (decide (i < (a.length : Int)))
  (br k (decide (0 ≤ i))
  (bd k (a[i.toNat]?) fun x1 =>
  bd k (z134 k (x1, left, ())) fun y2 =>
  br k (decide (y2.1.1 < 0))
  (some (((-1), ()), ((), (), ())))
  (G0 (a, y2.1.1, IntKind.wrap .i64 (i + 1), ())))
  none)
  (some ((left, ()), ((), (), ())))
noncomputable def z55 (k : Nat) : ((List QT1) × Int × Unit) → Option QT16 := fun x => match x with
 | (a, left, ()) =>
  br k (decide ((IntKind.wrap .i64 (left - (a.length : Int))) < 0))
  (some (((-1), ()), ((), (), ())))
  (iter (z55.l0 k) k (a, IntKind.wrap .i64 (left - (a.length : Int)), 0, ()))
noncomputable def z55.sg (k : Nat) : Sig := ⟨(.cons (.pur (.sl false QK2)) QS5), QS5, z55 k, []⟩
theorem z55.ok {L : List (Nat × Obj)} (k : Nat) : SigHolds Tryz.prog L 31 (z55.sg k) :=
  soe (C := ⟨Tryz.prog, [(73, [z134.sg k])], k, [], []⟩) (hc1 (z134.ok k) holds_nil) Tryz.func31 { loops := [(0, [(0, (.pur (.sl false QK2))), (1, (.pur (.int .i64))), (5, (.pur (.int .i64)))])] } fun _ => by kernel_rfl
noncomputable def z135 (k : Nat) : (QT12 × Int × Unit) → Option QT16 := fun x => match x with
 | (a, left, ()) =>
  bd k (z133 k ((a.1, a.2.1, a.2.2.1, ()), left, ())) fun y1 =>
  br k (decide (y1.1.1 < 0))
  (some (((-1), ()), ((), (), ())))
  (bd k (z55 k (a.2.2.2.1, y1.1.1, ())) fun y2 =>
  br k (decide (y2.1.1 < 0))
  (some (((-1), ()), ((), (), ())))
  (some ((y2.1.1, ()), ((), (), ()))))
noncomputable def z135.sg (k : Nat) : Sig := ⟨(.cons QS19 QS5), QS5, z135 k, []⟩
theorem z135.ok {L : List (Nat × Obj)} (k : Nat) : SigHolds Tryz.prog L 6 (z135.sg k) :=
  soe (C := ⟨Tryz.prog, [(30, [z133.sg k]), (31, [z55.sg k])], k, [], []⟩) (hc1 (z133.ok k) (hc1 (z55.ok k) holds_nil)) Tryz.func6 {} fun _ => by kernel_rfl
noncomputable def z42.l0 (k : Nat) : E2 (((List (List UInt8)) × (List (List UInt8)) × Int × Unit) → Option QT36) := fun G0 x => match x with
 | (a, out_, i, ()) =>
  br k (decide (i < (a.length : Int)))
  (br k (decide (0 ≤ i))
  (bd k (a[i.toNat]?) fun x1 =>
  br k (decide (0 ≤ i ∧ i < (out_.length : Int)))
  (bd k (out_[i.toNat]?) fun x2 =>
  G0 (a, out_.set i.toNat x1, IntKind.wrap .i64 (i + 1), ()))
  none)
  none)
  (some ((out_, ()), ((), ())))
noncomputable def z42 (k : Nat) : ((List (List UInt8)) × Unit) → Option QT36 := fun x => match x with
 | (a, ()) =>
  br k (decide (0 ≤ (a.length : Int) ∧ (a.length : Int) ≤ (a.length : Int) ∧ (a.length : Int) * 16 ≤ maxBytes))
  (iter (z42.l0 k) k (a, List.replicate (a.length : Int).toNat (Kd.z .str), 0, ()))
  none
noncomputable def z42.sg (k : Nat) : Sig := ⟨(.cons (.pur (.sl false .str)) .nil), (.cons (.own .str) .nil), z42 k, []⟩
theorem z42.ok {L : List (Nat × Obj)} (k : Nat) : SigHolds Tryz.prog L 80 (z42.sg k) :=
  soe (C := ⟨Tryz.prog, [], k, [], []⟩) holds_nil Tryz.func80 { loops := [(0, [(0, (.pur (.sl false .str))), (3, (.own .str)), (4, (.pur (.int .i64)))])] } fun _ => by kernel_rfl
noncomputable def z170 (k : Nat) : (QT24 × Unit) → Option ((QT24 × Unit) × (Unit × Unit)) := fun x => match x with
 | (a, ()) =>
  some ((a, ()), ((), ()))
noncomputable def z170.sg (k : Nat) : Sig := ⟨(.cons (.pur QK28) .nil), (.cons (.pur QK28) .nil), z170 k, []⟩
theorem z170.ok {L : List (Nat × Obj)} (k : Nat) : SigHolds Tryz.prog L 131 (z170.sg k) :=
  soe (C := ⟨Tryz.prog, [], k, [], []⟩) holds_nil Tryz.func131 {} fun _ => by kernel_rfl
noncomputable def z56.l0 (k : Nat) : E2 (((List QT24) × (List QT24) × Int × Unit) → Option (((List QT24) × Unit) × (Unit × Unit))) := fun G0 x => match x with
 | (a, out_, i, ()) =>
  br k (decide (i < (a.length : Int)))
  (br k (decide (0 ≤ i))
  (bd k (a[i.toNat]?) fun x1 =>
  bd k (z170 k (x1, ())) fun y2 =>
  br k (decide (0 ≤ i ∧ i < (out_.length : Int)))
  (bd k (out_[i.toNat]?) fun x3 =>
  G0 (a, out_.set i.toNat y2.1.1, IntKind.wrap .i64 (i + 1), ()))
  none)
  none)
  (some ((out_, ()), ((), ())))
noncomputable def z56 (k : Nat) : ((List QT24) × Unit) → Option (((List QT24) × Unit) × (Unit × Unit)) := fun x => match x with
 | (a, ()) =>
  br k (decide (0 ≤ (a.length : Int) ∧ (a.length : Int) ≤ (a.length : Int) ∧ (a.length : Int) * 24 ≤ maxBytes))
  (iter (z56.l0 k) k (a, List.replicate (a.length : Int).toNat (Kd.z QK28), 0, ()))
  none
noncomputable def z56.sg (k : Nat) : Sig := ⟨(.cons (.pur QK8) .nil), (.cons (.own QK28) .nil), z56 k, []⟩
theorem z56.ok {L : List (Nat × Obj)} (k : Nat) : SigHolds Tryz.prog L 81 (z56.sg k) :=
  soe (C := ⟨Tryz.prog, [(131, [z170.sg k])], k, [], []⟩) (hc1 (z170.ok k) holds_nil) Tryz.func81 { loops := [(0, [(0, (.pur QK8)), (3, (.own QK28)), (4, (.pur (.int .i64)))])] } fun _ => by kernel_rfl
noncomputable def z136 (k : Nat) : (QT6 × Unit) → Option ((QT6 × Unit) × (Unit × Unit)) := fun x => match x with
 | (a, ()) =>
  bd k (z42 k (a.1, ())) fun y1 =>
  bd k (z42 k (a.2.1, ())) fun y2 =>
  bd k (z56 k (a.2.2.1, ())) fun y3 =>
  some (((y1.1.1, y2.1.1, y3.1.1, ()), ()), ((), ()))
noncomputable def z136.sg (k : Nat) : Sig := ⟨(.cons QS14 .nil), (.cons (.agg (.cons (.own .str) (.cons (.own .str) (.cons (.own QK28) .nil)))) .nil), z136 k, []⟩
theorem z136.ok {L : List (Nat × Obj)} (k : Nat) : SigHolds Tryz.prog L 36 (z136.sg k) :=
  soe (C := ⟨Tryz.prog, [(80, [z42.sg k]), (81, [z56.sg k])], k, [], []⟩) (hc1 (z42.ok k) (hc1 (z56.ok k) holds_nil)) Tryz.func36 {} fun _ => by kernel_rfl
noncomputable def z171 (k : Nat) : ((Int × Int × Unit) × Unit) → Option (((Int × Int × Unit) × Unit) × (Unit × Unit)) := fun x => match x with
 | (a, ()) =>
  some ((a, ()), ((), ()))
noncomputable def z171.sg (k : Nat) : Sig := ⟨(.cons (.pur QK0) .nil), (.cons (.pur QK0) .nil), z171 k, []⟩
theorem z171.ok {L : List (Nat × Obj)} (k : Nat) : SigHolds Tryz.prog L 185 (z171.sg k) :=
  soe (C := ⟨Tryz.prog, [], k, [], []⟩) holds_nil Tryz.func185 {} fun _ => by kernel_rfl
noncomputable def z43.l0 (k : Nat) : E2 ((QT15 × QT15 × Int × Unit) → Option ((QT15 × Unit) × (Unit × Unit))) := fun G0 x => match x with
 | (a, out_, i, ()) =>
  br k (decide (i < (a.length : Int)))
  (br k (decide (0 ≤ i))
  (bd k (a[i.toNat]?) fun x1 =>
  bd k (z171 k (x1, ())) fun y2 =>
  br k (decide (0 ≤ i ∧ i < (out_.length : Int)))
  (bd k (out_[i.toNat]?) fun x3 =>
  G0 (a, out_.set i.toNat y2.1.1, IntKind.wrap .i64 (i + 1), ()))
  none)
  none)
  (some ((out_, ()), ((), ())))
noncomputable def z43 (k : Nat) : (QT15 × Unit) → Option ((QT15 × Unit) × (Unit × Unit)) := fun x => match x with
 | (a, ()) =>
  br k (decide (0 ≤ (a.length : Int) ∧ (a.length : Int) ≤ (a.length : Int) ∧ (a.length : Int) * 16 ≤ maxBytes))
  (iter (z43.l0 k) k (a, List.replicate (a.length : Int).toNat (Kd.z QK0), 0, ()))
  none
noncomputable def z43.sg (k : Nat) : Sig := ⟨QS35, (.cons (.own QK0) .nil), z43 k, []⟩
theorem z43.ok {L : List (Nat × Obj)} (k : Nat) : SigHolds Tryz.prog L 132 (z43.sg k) :=
  soe (C := ⟨Tryz.prog, [(185, [z171.sg k])], k, [], []⟩) (hc1 (z171.ok k) holds_nil) Tryz.func132 { loops := [(0, [(0, (.pur (.sl false QK0))), (3, (.own QK0)), (4, (.pur (.int .i64)))])] } fun _ => by kernel_rfl
noncomputable def z137 (k : Nat) : (QT1 × Unit) → Option ((QT1 × Unit) × (Unit × Unit)) := fun x => match x with
 | (a, ()) =>
  bd k (z43 k (a.2.2.1, ())) fun y1 =>
  bd k (z43 k (a.2.2.2.1, ())) fun y2 =>
  some (((a.1, a.2.1, y1.1.1, y2.1.1, a.2.2.2.2.1, a.2.2.2.2.2.1, ()), ()), ((), ()))
noncomputable def z137.sg (k : Nat) : Sig := ⟨(.cons (.pur QK2) .nil), (.cons (.agg QS23) .nil), z137 k, []⟩
theorem z137.ok {L : List (Nat × Obj)} (k : Nat) : SigHolds Tryz.prog L 82 (z137.sg k) :=
  soe (C := ⟨Tryz.prog, [(132, [z43.sg k])], k, [], []⟩) (hc1 (z43.ok k) holds_nil) Tryz.func82 {} fun _ => by kernel_rfl
noncomputable def z57.l0 (k : Nat) : E2 (((List QT1) × (List QT1) × Int × Unit) → Option (((List QT1) × Unit) × (Unit × Unit))) := fun G0 x => match x with
 | (a, out_, i, ()) =>
  br k (decide (i < (a.length : Int)))
  (br k (decide (0 ≤ i))
  (bd k (a[i.toNat]?) fun x1 =>
  bd k (z137 k (x1, ())) fun y2 =>
  br k (decide (0 ≤ i ∧ i < (out_.length : Int)))
  (bd k (out_[i.toNat]?) fun x3 =>
  G0 (a, out_.set i.toNat (y2.1.1.1, y2.1.1.2.1, y2.1.1.2.2.1, y2.1.1.2.2.2.1, y2.1.1.2.2.2.2.1, y2.1.1.2.2.2.2.2.1, ()), IntKind.wrap .i64 (i + 1), ()))
  none)
  none)
  (some ((out_, ()), ((), ())))
noncomputable def z57 (k : Nat) : ((List QT1) × Unit) → Option (((List QT1) × Unit) × (Unit × Unit)) := fun x => match x with
 | (a, ()) =>
  br k (decide (0 ≤ (a.length : Int) ∧ (a.length : Int) ≤ (a.length : Int) ∧ (a.length : Int) * 80 ≤ maxBytes))
  (iter (z57.l0 k) k (a, List.replicate (a.length : Int).toNat (Sh.z QS23), 0, ()))
  none
noncomputable def z57.sg (k : Nat) : Sig := ⟨QS40, (.cons (.rows QS23) .nil), z57 k, []⟩
theorem z57.ok {L : List (Nat × Obj)} (k : Nat) : SigHolds Tryz.prog L 37 (z57.sg k) :=
  soe (C := ⟨Tryz.prog, [(82, [z137.sg k])], k, [(7, QS23)], []⟩) (hc1 (z137.ok k) holds_nil) Tryz.func37 { loops := [(0, [(0, (.pur (.sl false QK2))), (3, (.rows QS23)), (4, (.pur (.int .i64)))])] } fun _ => by kernel_rfl
noncomputable def z95 (k : Nat) : (QT12 × Unit) → Option ((QT12 × Unit) × (Unit × Unit)) := fun x => match x with
 | (a, ()) =>
  bd k (z136 k ((a.1, a.2.1, a.2.2.1, ()), ())) fun y1 =>
  bd k (z57 k (a.2.2.2.1, ())) fun y2 =>
  some (((y1.1.1.1, y1.1.1.2.1, y1.1.1.2.2.1, y2.1.1, ()), ()), ((), ()))
noncomputable def z95.sg (k : Nat) : Sig := ⟨(.cons QS19 .nil), (.cons (.agg (.cons (.own .str) (.cons (.own .str) (.cons (.own QK28) (.cons (.rows QS23) .nil))))) .nil), z95 k, []⟩
theorem z95.ok {L : List (Nat × Obj)} (k : Nat) : SigHolds Tryz.prog L 8 (z95.sg k) :=
  soe (C := ⟨Tryz.prog, [(36, [z136.sg k]), (37, [z57.sg k])], k, [], []⟩) (hc1 (z136.ok k) (hc1 (z57.ok k) holds_nil)) Tryz.func8 {} fun _ => by kernel_rfl
noncomputable def z29.l0 (k : Nat) : E2 (((List Int) × (List Int) × Int × Unit) → Option QT41) := fun G0 x => match x with
 | (a, out_, i, ()) =>
  br k (decide (i < (a.length : Int)))
  (br k (decide (0 ≤ i))
  (bd k (a[i.toNat]?) fun x1 =>
  br k (decide (0 ≤ i ∧ i < (out_.length : Int)))
  (bd k (out_[i.toNat]?) fun x2 =>
  G0 (a, out_.set i.toNat x1, IntKind.wrap .i64 (i + 1), ()))
  none)
  none)
  (some ((out_, ()), ((), ())))
noncomputable def z29 (k : Nat) : ((List Int) × Unit) → Option QT41 := fun x => match x with
 | (a, ()) =>
  br k (decide (0 ≤ (a.length : Int) ∧ (a.length : Int) ≤ (a.length : Int) ∧ (a.length : Int) * 8 ≤ maxBytes))
  (iter (z29.l0 k) k (a, List.replicate (a.length : Int).toNat (Kd.z (.int .i64)), 0, ()))
  none
noncomputable def z29.sg (k : Nat) : Sig := ⟨(.cons QS27 .nil), QS52, z29 k, []⟩
theorem z29.ok {L : List (Nat × Obj)} (k : Nat) : SigHolds Tryz.prog L 9 (z29.sg k) :=
  soe (C := ⟨Tryz.prog, [], k, [], []⟩) holds_nil Tryz.func9 { loops := [(0, [(0, QS27), (3, (.own (.int .i64))), (4, (.pur (.int .i64)))])] } fun _ => by kernel_rfl
noncomputable def z8 (k : Nat) : QT48 → Option ((Bool × Unit) × QT29) := fun x => match x with
 | (n, low, high, ()) =>
  (br k (decide (n ≥ low))
  (some (decide (n ≤ high), ()))
  (some (false, ())) : Option (Bool × Unit)).bind fun j1 =>
  some ((j1.1, ()), ((), (), (), ()))
noncomputable def z8.sg (k : Nat) : Sig := ⟨QS44, QS17, z8 k, []⟩
theorem z8.ok {L : List (Nat × Obj)} (k : Nat) : SigHolds Tryz.prog L 75 (z8.sg k) :=
  soe (C := ⟨Tryz.prog, [], k, [], []⟩) holds_nil Tryz.func75 { joins := [(1, [(6, .bool)])] } fun _ => by kernel_rfl
noncomputable def z58.l0 (k : Nat) : E2 (((List UInt8) × (List (List UInt8)) × Int × Unit) → Option QT22) := fun G0 x => match x with
 | (s_, keys, i, ()) =>
  br k (decide (i < (keys.length : Int)))
  (br k (decide (0 ≤ i ∧ i < (keys.length : Int)))
  (bd k (keys[i.toNat]?) fun x1 =>
  br k (x1 == s_)
  (some ((true, ()), ((), ())))
  (G0 (s_, keys, IntKind.wrap .i64 (i + 1), ())))
  none)
  (some ((false, ()), ((), ())))
noncomputable def z58 (k : Nat) : ((List UInt8) × Unit) → Option QT22 := fun x => match x with
 | (s_, ()) =>
  iter (z58.l0 k) k (s_, ([[118, 97, 114], [102, 108, 97, 103], [97, 114, 114, 97, 121], [105, 102], [102, 111, 114, 107], [101, 108, 115, 101], [101, 110, 100], [119, 104, 105, 108, 101], [117, 110, 114, 111, 108, 108], [97, 115, 115, 101, 114, 116], [97, 115, 115, 117, 109, 101], [105, 110, 112, 117, 116], [115, 112, 108, 105, 116], [109, 101, 114, 103, 101], [116, 114, 117, 101], [102, 97, 108, 115, 101]] : List (List UInt8)), 0, ())
noncomputable def z58.sg (k : Nat) : Sig := ⟨QS43, QS17, z58 k, []⟩
theorem z58.ok {L : List (Nat × Obj)} (k : Nat) : SigHolds Tryz.prog L 184 (z58.sg k) :=
  soe (C := ⟨Tryz.prog, [], k, [], []⟩) holds_nil Tryz.func184 { loops := [(0, [(0, (.pur .str)), (3, (.own .str)), (4, (.pur (.int .i64)))])] } fun _ => by kernel_rfl
noncomputable def z59.l0 (k : Nat) : E2 (QT24 → Option QT22) := fun G0 x => match x with
 | (s_, i, ()) =>
  br k (decide (i < (s_.length : Int)))
  ((br k (decide (0 ≤ i))
  (bd k (s_[i.toNat]?) fun b1 =>
  br k (decide ((b1.toNat : Int) < 97))
  (some (true, ()))
  (br k (decide (0 ≤ i))
  (bd k (s_[i.toNat]?) fun b2 =>
  some (decide ((b2.toNat : Int) > 122), ()))
  none))
  none : Option (Bool × Unit)).bind fun j3 =>
  br k (j3.1)
  (some ((false, ()), ((), ())))
  (G0 (s_, IntKind.wrap .i64 (i + 1), ())))
  ((bd k (z8 k ((s_.length : Int), 1, 8, ())) fun y4 =>
  br k (y4.1.1)
  (bd k (z58 k (s_, ())) fun y5 =>
  some (!y5.1.1, ()))
  (some (false, ())) : Option (Bool × Unit)).bind fun j6 =>
  some ((j6.1, ()), ((), ())))
noncomputable def z59 (k : Nat) : ((List UInt8) × Unit) → Option QT22 := fun x => match x with
 | (s_, ()) =>
  iter (z59.l0 k) k (s_, 0, ())
noncomputable def z59.sg (k : Nat) : Sig := ⟨QS43, QS17, z59 k, []⟩
theorem z59.ok {L : List (Nat × Obj)} (k : Nat) : SigHolds Tryz.prog L 129 (z59.sg k) :=
  soe (C := ⟨Tryz.prog, [(75, [z8.sg k]), (184, [z58.sg k])], k, [], []⟩) (hc1 (z8.ok k) (hc1 (z58.ok k) holds_nil)) Tryz.func129 { loops := [(0, [(0, (.pur .str)), (3, (.pur (.int .i64)))])], joins := [(4, [(19, .bool)]), (6, [(2, .bool)])] } fun _ => by kernel_rfl
noncomputable def z80.l0 (k : Nat) : E2 (((List (List UInt8)) × (List UInt8) × Int × Unit) → Option QT16) := fun G0 x => match x with
 | (l_, s_, i, ()) =>
  br k (decide (i < (l_.length : Int)))
  (br k (decide (0 ≤ i))
  (bd k (l_[i.toNat]?) fun x1 =>
  br k (x1 == s_)
  (some ((i, ()), ((), (), ())))
  (G0 (l_, s_, IntKind.wrap .i64 (i + 1), ())))
  none)
  (some (((-1), ()), ((), (), ())))
noncomputable def z80 (k : Nat) : ((List (List UInt8)) × (List UInt8) × Unit) → Option QT16 := fun x => match x with
 | (l_, s_, ()) =>
  iter (z80.l0 k) k (l_, s_, 0, ())
noncomputable def z80.sg (k : Nat) : Sig := ⟨(.cons (.pur (.sl false .str)) QS43), QS5, z80 k, []⟩
theorem z80.ok {L : List (Nat × Obj)} (k : Nat) : SigHolds Tryz.prog L 130 (z80.sg k) :=
  soe (C := ⟨Tryz.prog, [], k, [], []⟩) holds_nil Tryz.func130 { loops := [(0, [(0, (.pur (.sl false .str))), (1, (.pur .str)), (5, (.pur (.int .i64)))])] } fun _ => by kernel_rfl
noncomputable def z13.l2 (k : Nat) : E2 (((List (List UInt8)) × Int × Unit) → Option QT22) := fun G2 x => match x with
 | (all, i, ()) =>
  br k (decide (i < (all.length : Int)))
  ((br k (decide (0 ≤ i ∧ i < (all.length : Int)))
  (bd k (all[i.toNat]?) fun x5 =>
  bd k (z59 k (x5, ())) fun y6 =>
  br k (!y6.1.1)
  (some (true, ()))
  (br k (decide (0 ≤ i ∧ i ≤ (all.length : Int)))
  (br k (decide (0 ≤ i ∧ i < (all.length : Int)))
  (bd k (all[i.toNat]?) fun x7 =>
  bd k (z80 k (subL all ((0 : Int).toNat) (i.toNat - (0 : Int).toNat), x7, ())) fun y8 =>
  some (decide (y8.1.1 ≥ 0), ()))
  none)
  none))
  none : Option (Bool × Unit)).bind fun j9 =>
  br k (j9.1)
  (some ((false, ()), ((), ())))
  (G2 (all, IntKind.wrap .i64 (i + 1), ())))
  (some ((true, ()), ((), ())))
noncomputable def z13.l0 (k : Nat) : E2 ((QT6 × (List (List UInt8)) × Int × Unit) → Option QT22) := fun G0 x => match x with
 | ((d__0, d__1, d__2, ()), all, i, ()) =>
  br k (decide (i < (d__2.length : Int)))
  (br k (decide (0 ≤ i))
  (bd k (d__2[i.toNat]?) fun x2 =>
  bd k (z8 k (x2.2.1, 1, 16, ())) fun y3 =>
  br k (!y3.1.1)
  (some ((false, ()), ((), ())))
  (br k (decide (0 ≤ i))
  (bd k (d__2[i.toNat]?) fun x4 =>
  br k (decide ((all.length + ([x4.1] : List (List UInt8)).length) * 16 ≤ maxBytes))
  (G0 ((d__0, d__1, d__2, ()), all ++ ([x4.1] : List (List UInt8)), IntKind.wrap .i64 (i + 1), ()))
  none)
  none))
  none)
  (iter (z13.l2 k) k (all, 0, ()))
noncomputable def z13 (k : Nat) : (QT6 × Unit) → Option QT22 := fun x => match x with
 | (d_, ()) =>
  (br k (decide ((d_.1.length : Int) > 5))
  (some (true, ()))
  (br k (decide ((d_.2.1.length : Int) > 3))
  (some (true, ()))
  (some (decide ((d_.2.2.1.length : Int) > 2), ()))) : Option (Bool × Unit)).bind fun j1 =>
  br k (j1.1)
  (some ((false, ()), ((), ())))
  (br k (decide ((([] : List (List UInt8)).length + d_.1.length) * 16 ≤ maxBytes))
  (br k (decide (((([] : List (List UInt8)) ++ d_.1).length + d_.2.1.length) * 16 ≤ maxBytes))
  (iter (z13.l0 k) k ((d_.1, d_.2.1, d_.2.2.1, ()), (([] : List (List UInt8)) ++ d_.1) ++ d_.2.1, 0, ()))
  none)
  none)
noncomputable def z13.sg (k : Nat) : Sig := ⟨(.cons QS14 .nil), QS17, z13 k, []⟩
theorem z13.ok {L : List (Nat × Obj)} (k : Nat) : SigHolds Tryz.prog L 77 (z13.sg k) :=
  soe (C := ⟨Tryz.prog, [(75, [z8.sg k]), (129, [z59.sg k]), (130, [z80.sg k])], k, [], []⟩) (hc1 (z8.ok k) (hc1 (z59.ok k) (hc1 (z80.ok k) holds_nil))) Tryz.func77 { loops := [(0, [(1, QS25), (3, (.own .str)), (4, (.pur (.int .i64)))]), (2, [(3, (.own .str)), (5, (.pur (.int .i64)))])], joins := [(1, [(21, .bool)]), (13, [(75, .bool)])], keys := [(3, [([22], true), ([1], false), ([1], false), ([22, 25], true), ([1], false), ([1], false), ([25, 28], true), ([], false)])] } fun _ => by kernel_rfl
noncomputable def z108 (k : Nat) : (QT6 × Int × Unit) → Option ((Int × Bool × Int × Bool × Unit) × (Unit × Unit × Unit)) := fun x => match x with
 | (d_, kind, ()) =>
  br k (kind == 1)
  (some (((d_.1.length : Int), false, 1, false, ()), ((), (), ())))
  (br k (kind == 2)
  (some (((d_.2.1.length : Int), false, 2, false, ()), ((), (), ())))
  (br k (kind == 3)
  (some (((d_.2.2.1.length : Int), true, 1, false, ()), ((), (), ())))
  (br k (kind == 4)
  (br k (kind == 4)
  (some (((d_.1.length : Int), false, 0, true, ()), ((), (), ())))
  (br k (kind == 5)
  (br k (kind == 5)
  (some (((-1), false, 2, kind == 10, ()), ((), (), ())))
  (some (((-1), false, 0, false, ()), ((), (), ()))))
  (br k (kind == 6)
  (br k (kind == 6)
  (some (((-1), false, 2, kind == 10, ()), ((), (), ())))
  (some (((-1), false, 0, false, ()), ((), (), ()))))
  (br k (kind == 9)
  (br k (kind == 9)
  (some (((-1), false, 2, kind == 10, ()), ((), (), ())))
  (some (((-1), false, 0, false, ()), ((), (), ()))))
  (br k (kind == 10)
  (br k (kind == 10)
  (some (((-1), false, 2, kind == 10, ()), ((), (), ())))
  (some (((-1), false, 0, false, ()), ((), (), ()))))
  (br k (kind == 11)
  (br k (kind == 11)
  (some (((-1), false, 2, kind == 10, ()), ((), (), ())))
  (some (((-1), false, 0, false, ()), ((), (), ()))))
  (br k (kind == 12)
  (some (((-1), false, 2, kind == 10, ()), ((), (), ())))
  (some (((-1), false, 0, false, ()), ((), (), ()))))))))))
  (br k (kind == 13)
  (some (((d_.1.length : Int), false, 0, true, ()), ((), (), ())))
  (br k (kind == 5)
  (br k (kind == 5)
  (some (((-1), false, 2, kind == 10, ()), ((), (), ())))
  (some (((-1), false, 0, false, ()), ((), (), ()))))
  (br k (kind == 6)
  (br k (kind == 6)
  (some (((-1), false, 2, kind == 10, ()), ((), (), ())))
  (some (((-1), false, 0, false, ()), ((), (), ()))))
  (br k (kind == 9)
  (br k (kind == 9)
  (some (((-1), false, 2, kind == 10, ()), ((), (), ())))
  (some (((-1), false, 0, false, ()), ((), (), ()))))
  (br k (kind == 10)
  (br k (kind == 10)
  (some (((-1), false, 2, kind == 10, ()), ((), (), ())))
  (some (((-1), false, 0, false, ()), ((), (), ()))))
  (br k (kind == 11)
  (br k (kind == 11)
  (some (((-1), false, 2, kind == 10, ()), ((), (), ())))
  (some (((-1), false, 0, false, ()), ((), (), ()))))
  (br k (kind == 12)
  (some (((-1), false, 2, kind == 10, ()), ((), (), ())))
  (some (((-1), false, 0, false, ()), ((), (), ())))))))))))))
noncomputable def z108.sg (k : Nat) : Sig := ⟨(.cons QS14 QS5), (.cons (.pur (.int .i64)) (.cons (.pur .bool) (.cons (.pur (.int .i64)) QS17))), z108 k, []⟩
theorem z108.ok {L : List (Nat × Obj)} (k : Nat) : SigHolds Tryz.prog L 182 (z108.sg k) :=
  soe (C := ⟨Tryz.prog, [], k, [], []⟩) holds_nil Tryz.func182 {} fun _ => by kernel_rfl
noncomputable def z96 (k : Nat) : (Int × Unit) → Option QT33 := fun x => match x with
 | (op, ()) =>
  br k (decide (op ≤ 5))
  (some ((0, ()), ((), ())))
  ((br k (decide (op ≤ 7))
  (some (true, ()))
  (some (op == 19, ())) : Option (Bool × Unit)).bind fun j1 =>
  br k (j1.1)
  (some ((1, ()), ((), ())))
  (some ((2, ()), ((), ()))))
noncomputable def z96.sg (k : Nat) : Sig := ⟨QS5, QS5, z96 k, []⟩
theorem z96.ok {L : List (Nat × Obj)} (k : Nat) : SigHolds Tryz.prog L 105 (z96.sg k) :=
  soe (C := ⟨Tryz.prog, [], k, [], []⟩) holds_nil Tryz.func105 { joins := [(3, [(6, .bool)])] } fun _ => by kernel_rfl
noncomputable def z138 (k : Nat) : (Int × Unit) → Option ((Int × Int × Unit) × (Unit × Unit)) := fun x => match x with
 | (op, ()) =>
  (br k (op == 3)
  (some (true, ()))
  (br k (op == 4)
  (some (true, ()))
  (some (op == 5, ()))) : Option (Bool × Unit)).bind fun j1 =>
  br k (j1.1)
  (some ((0, 2, ()), ((), ())))
  (br k (decide (op ≤ 12))
  (some ((1, 1, ()), ((), ())))
  (br k (decide (op ≤ 18))
  (some ((1, 2, ()), ((), ())))
  (some ((2, 2, ()), ((), ())))))
noncomputable def z138.sg (k : Nat) : Sig := ⟨QS5, QS20, z138 k, []⟩
theorem z138.ok {L : List (Nat × Obj)} (k : Nat) : SigHolds Tryz.prog L 221 (z138.sg k) :=
  soe (C := ⟨Tryz.prog, [], k, [], []⟩) holds_nil Tryz.func221 { joins := [(1, [(4, .bool)])] } fun _ => by kernel_rfl
noncomputable def z139 (k : Nat) : (QT6 × (Int × Int × Unit) × Unit) → Option QT18 := fun x => match x with
 | (d_, t, ()) =>
  br k (t.1 == 1)
  (bd k (z8 k (t.2.1, 0, 999999999999999999, ())) fun y1 =>
  some ((y1.1.1, ()), ((), (), ())))
  (br k (t.1 == 2)
  (bd k (z8 k (t.2.1, 0, IntKind.wrap .i64 ((d_.1.length : Int) - 1), ())) fun y2 =>
  some ((y2.1.1, ()), ((), (), ())))
  (br k (t.1 == 3)
  (bd k (z8 k (t.2.1, 0, IntKind.wrap .i64 ((d_.2.1.length : Int) - 1), ())) fun y3 =>
  some ((y3.1.1, ()), ((), (), ())))
  (br k (t.1 == 6)
  (bd k (z8 k (t.2.1, 0, IntKind.wrap .i64 ((d_.2.2.1.length : Int) - 1), ())) fun y4 =>
  some ((y4.1.1, ()), ((), (), ())))
  ((bd k (z8 k (t.1, 4, 21, ())) fun y5 =>
  br k (y5.1.1)
  (some (t.2.1 == 0, ()))
  (some (false, ())) : Option (Bool × Unit)).bind fun j6 =>
  some ((j6.1, ()), ((), (), ()))))))
noncomputable def z139.sg (k : Nat) : Sig := ⟨(.cons QS14 (.cons (.pur QK0) .nil)), QS17, z139 k, []⟩
theorem z139.ok {L : List (Nat × Obj)} (k : Nat) : SigHolds Tryz.prog L 222 (z139.sg k) :=
  soe (C := ⟨Tryz.prog, [(75, [z8.sg k])], k, [], []⟩) (hc1 (z8.ok k) holds_nil) Tryz.func222 { joins := [(10, [(4, .bool)])] } fun _ => by kernel_rfl
end Go.Pev.F
