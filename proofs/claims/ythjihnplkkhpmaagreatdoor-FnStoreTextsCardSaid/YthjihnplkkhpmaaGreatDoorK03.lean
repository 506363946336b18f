/- Contracts of the library's functions at this dump, laid (out of the kit's shelf, by its own tools, trimmed). -/
import Derived.Shelf.Strings.OnBuilder
import Derived.Shelf.LaysM
import Derived.Test.YthjihnplkkhpmaaGreatDoorProg
import Derived.Test.YthjihnplkkhpmaaGreatDoorK02
import Derived.KernelRfl
set_option linter.unusedSimpArgs false
set_option linter.unusedVariables false
section
namespace Go.Proofs
open Go.Shelf
def Tryz.lays156_ren : Go.Shelf.Ren := ⟨fun | 156 => 41 | 165 => 85 | 166 => 86 | 169 => 87 | 240 => 121 | 241 => 122 | 276 => 155 | 277 => 156 | n => n, fun | 31 => 24 | 9 => 9 | 3 => 3 | 4 => 4 | 0 => 0 | 20 => 20 | 72 => 118 | 76 => 122 | 70 => 116 | 37 => 22 | 75 => 121 | 127 => 157 | 164 => 184 | 5 => 5 | 80 => 124 | n => n, fun | n => n⟩
theorem Tryz.lays156 : Go.Proofs.Lays.n156 Tryz.prog Tryz.lays156_ren := {
  mixed := by kernel_rfl
  f156 := Tryz.func41.trans (congrArg some (by kernel_rfl))
  f165 := Tryz.func85.trans (congrArg some (by kernel_rfl))
  f166 := Tryz.func86.trans (congrArg some (by kernel_rfl))
  f169 := Tryz.func87.trans (congrArg some (by kernel_rfl))
  f240 := Tryz.func121.trans (congrArg some (by kernel_rfl))
  f241 := Tryz.func122.trans (congrArg some (by kernel_rfl))
  f276 := Tryz.func155.trans (congrArg some (by kernel_rfl))
  f277 := Tryz.func156.trans (congrArg some (by kernel_rfl))
  t0 := Tryz.underlying0
  a0 := Tryz.isAgg0
  z0 := Tryz.sizeOf0
  v0 := Tryz.zeroValue0
  t3 := Tryz.underlying3
  a3 := Tryz.isAgg3
  z3 := Tryz.sizeOf3
  v3 := Tryz.zeroValue3
  t4 := Tryz.underlying4
  a4 := Tryz.isAgg4
  z4 := Tryz.sizeOf4
  v4 := Tryz.zeroValue4
  t9 := Tryz.underlying9
  a9 := Tryz.isAgg9
  z9 := Tryz.sizeOf9
  v9 := Tryz.zeroValue9
  t20 := Tryz.underlying20
  a20 := Tryz.isAgg20
  z20 := Tryz.sizeOf20
  v20 := Tryz.zeroValue20
  t31 := Tryz.underlying24
  a31 := Tryz.isAgg24
  z31 := Tryz.sizeOf24
  v31 := Tryz.zeroValue24
  t37 := Tryz.underlying22
  a37 := Tryz.isAgg22
  z37 := Tryz.sizeOf22
  v37 := Tryz.zeroValue22
  t70 := Tryz.underlying116
  a70 := Tryz.isAgg116
  z70 := Tryz.sizeOf116
  v70 := Tryz.zeroValue116
  t72 := Tryz.underlying118
  a72 := Tryz.isAgg118
  z72 := Tryz.sizeOf118
  v72 := Tryz.zeroValue118
  t75 := Tryz.underlying121
  a75 := Tryz.isAgg121
  z75 := Tryz.sizeOf121
  v75 := Tryz.zeroValue121
  t76 := Tryz.underlying122
  a76 := Tryz.isAgg122
  z76 := Tryz.sizeOf122
  v76 := Tryz.zeroValue122
  t127 := Tryz.underlying157
  a127 := Tryz.isAgg157
  z127 := Tryz.sizeOf157
  v127 := Tryz.zeroValue157
  t164 := Tryz.underlying184
  a164 := Tryz.isAgg184
  z164 := Tryz.sizeOf184
  v164 := Tryz.zeroValue184 }
theorem Tryz.Builder_Extra_156 : Builder.Extra Tryz.prog Tryz.lays156_ren := {
  sizeBuilder := by kernel_rfl
  liesBuilder := by kernel_rfl
  t5 := Tryz.underlying5
  a5 := Tryz.isAgg5
  z5 := Tryz.sizeOf5
  v5 := Tryz.zeroValue5
  infoByte := by kernel_rfl
  cellsByte := by kernel_rfl
  sizeByte := by kernel_rfl
  neB5 := by decide }
open Go.RowKit in
/-- No element: the empty string; the world is as it was. (Whatever the slice's address and capacity: a nil slice too.) (LAID: no walk: one application.) -/
theorem Tryz.strings_Join_none (a : Option Addr) (c : Nat) (sep : ByteArray) (w : World) :
    Calls Tryz.prog 41 #[.slice a 0 c, .string sep] w fun e w' => e = .returned (.string ⟨#[]⟩) ∧ w' = w := Any.strings_Join_none Tryz.lays156 Tryz.Builder_Extra_156 a c sep w
open Go.RowKit in
/-- strings.Join: "Join concatenates the elements of its first argument to create a single string. The separator string sep is placed between elements in the resulting string.": HOWEVER MANY ELEMENTS. Below the heap's end the world is as it was. (LAID: no walk: one application.) -/
theorem Tryz.strings_Join (bk o c : Nat) (xs : List ByteArray) (sep : ByteArray) (w : World) (hcells : ∀ (j : Nat) x, xs[j]? = some x → w.cell? ⟨bk, o + j, none⟩ = some (.string x)) (hbk : bk < w.heap.size) (hN : xs.length ≤ 140737488355328) (hcap : xs.length ≤ c) (hlen : (Lib.join (xs.map (·.data.toList)) sep.data.toList).length ≤ 140737488355328) :
    Calls Tryz.prog 41 #[.slice (some ⟨bk, o, none⟩) xs.length c, .string sep] w fun e w' => e = .returned (.string ⟨(Lib.join (xs.map (·.data.toList)) sep.data.toList).toArray⟩) ∧ Below w.heap.size w w' := Any.strings_Join Tryz.lays156 Tryz.Builder_Extra_156 bk o c xs sep w hcells hbk hN hcap hlen
end Go.Proofs
end

section
/-
  strings.Join, as a contract.
-/
open Go.Proofs
namespace Go.Pev.F.Lb

def Join.A : Sh := .cons (.pur (.sl false .str)) (.cons (.pur .str) .nil)
def Join.R : Sh := .cons (.pur .str) .nil
noncomputable def Join (_ : Nat) : (List (List UInt8) × List UInt8 × Unit) → Option ((List UInt8 × Unit) × (Unit × Unit × Unit)) := fun x =>
  if x.1.length ≤ 140737488355328 ∧ (Go.Lib.join x.1 x.2.1).length ≤ 140737488355328 then some ((Go.Lib.join x.1 x.2.1, ()), ((), (), ())) else none
noncomputable def Join.sg (k : Nat) : Sig := ⟨Join.A, Join.R, Join k⟩

theorem bytes_back (l : List (List UInt8)) : (l.map fun x => (⟨x.toArray⟩ : ByteArray)).map (·.data.toList) = l := by
  rw [List.map_map]
  conv => rhs; rw [← List.map_id l]
  exact List.map_congr_left fun x _ => by simp

theorem Join.ok {L : List (Nat × Obj)} (k : Nat) : SigHolds Tryz.prog L 41 (Join.sg k) :=
  sig_pur Tryz.func41 (by kernel_rfl) (by kernel_rfl) rfl fun w x vs y F _ _ hsh hy => by
    obtain ⟨(l : List (List UInt8)), (s : List UInt8), ⟨⟩⟩ := x
    obtain ⟨v1, r, rfl, p1, hsh⟩ := shR_cons hsh
    obtain ⟨v2, r, rfl, p2, hsh⟩ := shR_cons hsh
    obtain ⟨rfl, _⟩ := shR_nil hsh
    obtain rfl := payR_str p2
    obtain ⟨a, c, rfl, hc, hel⟩ := payR_sl p1
    simp only [Join] at hy
    split at hy
    · rename_i hl
      obtain ⟨hl1, hl2⟩ := hl
      cases hy
      by_cases h0 : l = []
      · subst h0
        refine (Tryz.strings_Join_none a c ⟨s.toArray⟩ w).mono fun e w' ⟨he, hw⟩ => ?_
        subst hw
        exact ⟨[_], [], he, shR_cons_mk payR_str_mk ⟨rfl, rfl⟩, List.nodup_nil, fun b hb => by simp at hb, kept_refl _⟩
      · rcases hel with h | ⟨b, o, r, rfl, _, hr, he⟩
        · exact absurd h h0
        · have h := Tryz.strings_Join b o c (l.map fun x => (⟨x.toArray⟩ : ByteArray)) ⟨s.toArray⟩ w (fun j x hx => by
              rw [List.getElem?_map] at hx
              obtain ⟨z, hz, rfl⟩ := Option.map_eq_some_iff.1 hx
              obtain ⟨hj, rfl⟩ := List.getElem?_eq_some_iff.1 hz
              have h1 := he.2 j hj
              rw [rowCells_cell hr]
              have h2 : sub r (o + j * 1) 1 = [.string ⟨(l[j]).toArray⟩] := h1
              rw [Nat.mul_one] at h2
              have h3 := congrArg (fun z => z[0]?) h2
              simp only [sub, List.getElem?_take, List.getElem?_drop, List.getElem?_cons_zero] at h3
              simpa using h3) (rowCells_lt hr) (by rw [List.length_map]; exact hl1) (by rw [List.length_map]; exact hc) (by rw [bytes_back]; exact hl2)
          rw [List.length_map, bytes_back] at h
          refine h.mono fun e w' ⟨he, hw⟩ => ?_
          exact ⟨[_], [], he, shR_cons_mk payR_str_mk ⟨rfl, rfl⟩, List.nodup_nil, fun b hb => by simp at hb, kept_below hw⟩
    · cases hy
end Go.Pev.F.Lb
end
