/-
  strconv.FormatInt at base 10, as a contract.
-/
import Derived.Test.YtgajbbadidobfaaDoorPevRow
import Derived.Test.YtgajbbadidobfaaDoorShelfFmt
import Derived.Lib.LaidTab
import Derived.KernelRfl
open Go.Proofs
namespace Go.Pev.F.Lb

/-- The table of powers is laid. -/
def NeedFmt (L : List (Nat × Obj)) : Prop := ∃ t fr, (1, Obj.cells (Go.Lib.pow10Tab.map fun z => Value.int .u64 z).toArray t fr) ∈ L

def FormatInt.A : Sh := .cons (.pur (.int .i64)) (.cons (.pur (.int .i64)) .nil)
def FormatInt.R : Sh := .cons (.pur .str) .nil
noncomputable def FormatInt (_ : Nat) : (Int × Int × Unit) → Option ((List UInt8 × Unit) × (Unit × Unit × Unit)) := fun x => if x.2.1 = 10 ∧ -9223372036854775808 ≤ x.1 ∧ x.1 ≤ 9223372036854775807 then some ((Go.Lib.itoa x.1, ()), ((), (), ())) else none
noncomputable def FormatInt.sg (k : Nat) : Sig := ⟨FormatInt.A, FormatInt.R, FormatInt k⟩

theorem tab_of {L : List (Nat × Obj)} {w : World} (h : NeedFmt L) (hL : Laid L (fun _ => False) w.heap) : Go.Lib.TabIs Tryd.prog w "internal/strconv.uint64pow10" .u64 Go.Lib.pow10Tab := by
  obtain ⟨t, fr, hm⟩ := h
  have h1 := (hL _ hm).2
  have hg : Tryd.prog.globalNamed "internal/strconv.uint64pow10" = some 1 := by kernel_rfl
  unfold Go.Lib.TabIs World.var?
  rw [hg]
  simp only [Option.bind_some]
  simp only at h1
  rw [h1]

theorem FormatInt.ok {L : List (Nat × Obj)} (h : NeedFmt L) (k : Nat) : SigHolds Tryd.prog L 72 (FormatInt.sg k) :=
  sig_pur Tryd.func72 (by kernel_rfl) (by kernel_rfl) rfl fun w x vs y F hF hLd hsh hy => by
    obtain ⟨n, b, ⟨⟩⟩ := x
    obtain ⟨v1, r, rfl, p1, hsh⟩ := shR_cons hsh
    obtain ⟨v2, r, rfl, p2, hsh⟩ := shR_cons hsh
    obtain ⟨rfl, _⟩ := shR_nil hsh
    obtain rfl := payR_int p1
    obtain rfl := payR_int p2
    simp only [FormatInt] at hy
    split at hy
    · rename_i hc
      obtain ⟨rfl, h0, h1⟩ := hc
      cases hy
      refine (Tryd.strconv_FormatInt_10 n h0 h1 w (tab_of h hLd)).mono fun e w' ⟨he, k, os, hw⟩ => ?_
      subst hw
      exact ⟨[_], [], he, shR_cons_mk payR_str_mk ⟨rfl, rfl⟩, List.nodup_nil, fun b hb => by simp at hb, kept_grow _ _ _⟩
    · cases hy

theorem NeedFmt.mono {L L' : List (Nat × Obj)} (h : NeedFmt L) (hs : ∀ p ∈ L, p ∈ L') : NeedFmt L' := by
  obtain ⟨t, fr, hm⟩ := h
  exact ⟨t, fr, hs _ hm⟩

theorem needFmt_of {w : World} (h : Go.Lib.TabIs Tryd.prog w "internal/strconv.uint64pow10" .u64 Go.Lib.pow10Tab) : ∃ L, NeedFmt L ∧ Laid L (fun _ => False) w.heap := by
  obtain ⟨t, fr, hc⟩ := var_obj (g := 1) (by kernel_rfl) h
  refine ⟨[(_, .cells _ t fr)], ⟨t, fr, List.mem_singleton.2 rfl⟩, fun p hp => ?_⟩
  rw [List.mem_singleton] at hp
  subst hp
  exact ⟨fun h => h, hc⟩
end Go.Pev.F.Lb
