/-
  strings.Fields, as a contract.
-/
import Derived.Test.YtgajbbadidobfaaDoorPevRow
import Derived.Test.YtgajbbadidobfaaDoorShelfFields
import Derived.Lib.LaidTab
import Derived.KernelRfl
open Go.Proofs
namespace Go.Pev.F.Lb

/-- The table of white signs is laid. -/
def NeedSp (L : List (Nat × Obj)) : Prop := ∃ t fr, (4, Obj.cells (Go.Lib.asciiSpaceTab.map fun z => Value.int .u8 z).toArray t fr) ∈ L

def Fields.A : Sh := .cons (.pur .str) .nil
def Fields.R : Sh := .cons (.own .str) .nil
noncomputable def Fields (_ : Nat) : (List UInt8 × Unit) → Option ((List (List UInt8) × Unit) × (Unit × Unit)) := fun x =>
  if x.1.length < 4294967281 ∧ x.1.all (fun b => decide (b.toNat < 128)) = true then some ((Go.Lib.fields x.1, ()), ((), ())) else none
noncomputable def Fields.sg (k : Nat) : Sig := ⟨Fields.A, Fields.R, Fields k⟩

theorem sp_of {L : List (Nat × Obj)} {w : World} (h : NeedSp L) (hL : Laid L (fun _ => False) w.heap) : Go.Lib.TabIs Tryd.prog w "strings.asciiSpace" .u8 Go.Lib.asciiSpaceTab := by
  obtain ⟨t, fr, hm⟩ := h
  have h1 := (hL _ hm).2
  have hg : Tryd.prog.globalNamed "strings.asciiSpace" = some 4 := by kernel_rfl
  unfold Go.Lib.TabIs World.var?
  rw [hg]
  simp only [Option.bind_some]
  simp only at h1
  rw [h1]

theorem strs_elems (h : Array Obj) (ok : Nat → Prop) (l : List (List UInt8)) : ElemsR (fun x cs => Rep h ok .str x cs) Kd.str.n l (l.map fun x => Value.string ⟨x.toArray⟩).toArray 0 := by
  refine ⟨by simp [Kd.n], fun i hi => ?_⟩
  show sub _ _ 1 = _
  simp only [sub, Kd.n, Nat.mul_one, Nat.zero_add]
  rw [List.drop_eq_getElem_cons (by simpa using hi)]
  simp

theorem Fields.ok {L : List (Nat × Obj)} (h : NeedSp L) (k : Nat) : SigHolds Tryd.prog L 151 (Fields.sg k) :=
  sig_pur Tryd.func151 (by kernel_rfl) (by kernel_rfl) rfl fun w x vs y F _ hLd hsh hy => by
    obtain ⟨(s : List UInt8), ⟨⟩⟩ := x
    obtain ⟨v1, r, rfl, p1, hsh⟩ := shR_cons hsh
    obtain ⟨rfl, _⟩ := shR_nil hsh
    obtain rfl := payR_str p1
    simp only [Fields] at hy
    split at hy
    · rename_i hc
      obtain ⟨h1, h2⟩ := hc
      cases hy
      refine (Tryd.strings_Fields ⟨s.toArray⟩ w (by simpa [ByteArray.size] using h1) (fun j b hb => of_decide_eq_true (List.all_eq_true.1 h2 b (List.mem_of_getElem? hb))) (sp_of h hLd)).mono fun e w' ⟨he, hw⟩ => ?_
      subst hw
      refine ⟨[_], [w.heap.size], he, ⟨_, [], [w.heap.size], [], rfl, rfl, ⟨_, rfl, rfl, _, _, rfl, Nat.le_refl _, .inr ⟨w.heap.size, 0, _, _, rfl, rfl, heap_alloc_new _ _, strs_elems _ _ _, ?_⟩⟩, rfl, rfl⟩, by simp, fun b hb => by simp at hb; omega, kept_alloc _ _ _⟩
      simp [Kd.n]
    · cases hy

theorem NeedSp.mono {L L' : List (Nat × Obj)} (h : NeedSp L) (hs : ∀ p ∈ L, p ∈ L') : NeedSp L' := by
  obtain ⟨t, fr, hm⟩ := h
  exact ⟨t, fr, hs _ hm⟩

theorem needSp_of {w : World} (h : Go.Lib.TabIs Tryd.prog w "strings.asciiSpace" .u8 Go.Lib.asciiSpaceTab) : ∃ L, NeedSp L ∧ Laid L (fun _ => False) w.heap := by
  obtain ⟨t, fr, hc⟩ := var_obj (g := 4) (by kernel_rfl) h
  refine ⟨[(_, .cells _ t fr)], ⟨t, fr, List.mem_singleton.2 rfl⟩, fun p hp => ?_⟩
  rw [List.mem_singleton] at hp
  subst hp
  exact ⟨fun h => h, hc⟩
end Go.Pev.F.Lb
