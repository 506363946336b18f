/-
  strings.Join, as a contract.
-/
import Derived.Test.YtgajbbadidobfaaDoorPevRow
import Derived.Test.YtgajbbadidobfaaDoorShelfJoin
import Derived.KernelRfl
open Go.Proofs
namespace Go.Pev.F.Lb

def Join.A : Sh := .cons (.pur (.sl false .str)) (.cons (.pur .str) .nil)
def Join.R : Sh := .cons (.pur .str) .nil
noncomputable def Join (_ : Nat) : (List (List UInt8) × List UInt8 × Unit) → Option ((List UInt8 × Unit) × (Unit × Unit × Unit)) := fun x =>
  if x.1.length ≤ 140737488355328 ∧ (Go.Lib.join x.1 x.2.1).length ≤ 140737488355328 then some ((Go.Lib.join x.1 x.2.1, ()), ((), (), ())) else none
noncomputable def Join.sg (k : Nat) : Sig := ⟨Join.A, Join.R, Join k⟩

theorem bytes_back (l : List (List UInt8)) : (l.map fun x => (⟨x.toArray⟩ : ByteArray)).map (·.data.toList) = l := by
  rw [List.map_map]
  conv => rhs; rw [← List.map_id l]
  exact List.map_congr_left fun x _ => by simp

theorem Join.ok {L : List (Nat × Obj)} (k : Nat) : SigHolds Tryd.prog L 68 (Join.sg k) :=
  sig_pur Tryd.func68 (by kernel_rfl) (by kernel_rfl) rfl fun w x vs y F _ _ hsh hy => by
    obtain ⟨(l : List (List UInt8)), (s : List UInt8), ⟨⟩⟩ := x
    obtain ⟨v1, r, rfl, p1, hsh⟩ := shR_cons hsh
    obtain ⟨v2, r, rfl, p2, hsh⟩ := shR_cons hsh
    obtain ⟨rfl, _⟩ := shR_nil hsh
    obtain rfl := payR_str p2
    obtain ⟨a, c, rfl, hc, hel⟩ := payR_sl p1
    simp only [Join] at hy
    split at hy
    · rename_i hl
      obtain ⟨hl1, hl2⟩ := hl
      cases hy
      by_cases h0 : l = []
      · subst h0
        refine (Tryd.strings_Join_none a c ⟨s.toArray⟩ w).mono fun e w' ⟨he, hw⟩ => ?_
        subst hw
        exact ⟨[_], [], he, shR_cons_mk payR_str_mk ⟨rfl, rfl⟩, List.nodup_nil, fun b hb => by simp at hb, kept_refl _⟩
      · rcases hel with h | ⟨b, o, r, rfl, _, hr, he⟩
        · exact absurd h h0
        · have h := Tryd.strings_Join b o c (l.map fun x => (⟨x.toArray⟩ : ByteArray)) ⟨s.toArray⟩ w (fun j x hx => by
              rw [List.getElem?_map] at hx
              obtain ⟨z, hz, rfl⟩ := Option.map_eq_some_iff.1 hx
              obtain ⟨hj, rfl⟩ := List.getElem?_eq_some_iff.1 hz
              have h1 := he.2 j hj
              rw [rowCells_cell hr]
              have h2 : sub r (o + j * 1) 1 = [.string ⟨(l[j]).toArray⟩] := h1
              rw [Nat.mul_one] at h2
              have h3 := congrArg (fun z => z[0]?) h2
              simp only [sub, List.getElem?_take, List.getElem?_drop, List.getElem?_cons_zero] at h3
              simpa using h3) (rowCells_lt hr) (by rw [List.length_map]; exact hl1) (by rw [List.length_map]; exact hc) (by rw [bytes_back]; exact hl2)
          rw [List.length_map, bytes_back] at h
          refine h.mono fun e w' ⟨he, hw⟩ => ?_
          exact ⟨[_], [], he, shR_cons_mk payR_str_mk ⟨rfl, rfl⟩, List.nodup_nil, fun b hb => by simp at hb, kept_below hw⟩
    · cases hy
end Go.Pev.F.Lb
