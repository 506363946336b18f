/-
  PEV, part 9: steps that write: what stays.
-/
import Derived.Test.YtgajbbadidobfaaDoorPevRO5
import Derived.Deep.Upon
set_option linter.unusedVariables false
set_option linter.unusedSimpArgs false
namespace Go.Pev

/-- What a step may make of a name. -/
def EC : Option (Option OB) → Option (Option OB) → Prop
  | none, _ => True
  | some _, some none => True
  | some (some (.box _)), some (some (.box _)) => True
  | some (some (.row k _ l)), some (some (.row k' _ l')) => k = k' ∧ l.length = l'.length
  | some (some (.row k _ l)), some (some (.frow k' _ l')) => k = k' ∧ l.length = l'.length
  | some (some (.frow k _ l)), some (some (.frow k' _ l')) => k = k' ∧ l.length = l'.length
  | _, _ => False

theorem EC.refl (x : Option (Option OB)) : EC x x := by
  match x with
  | none => trivial
  | some none => trivial
  | some (some (.box _)) => trivial
  | some (some (.row _ _ _)) => exact ⟨rfl, rfl⟩
  | some (some (.frow _ _ _)) => exact ⟨rfl, rfl⟩

theorem EC.dead {x : Option (Option OB)} : EC x (some none) := by
  match x with
  | none => trivial
  | some none => trivial
  | some (some (.box _)) => trivial
  | some (some (.row _ _ _)) => trivial
  | some (some (.frow _ _ _)) => trivial

/-- The thing is one's own. -/
def isOwn : Option (Option OB) → Prop
  | some (some (.box _)) => True
  | some (some (.row _ _ _)) => True
  | _ => False

section
variable {F : Nat → Prop} {G G' : Gh} {ow ow' : OW} {h h' : Array Obj}

theorem own_iff {b : Nat} : Own G ow b ↔ ∃ d j o, isOwn (nameOf ow d j) ∧ G d j = some (b, o) := by
  unfold Own isOwn
  exact Iff.rfl

theorem HandR.mono {d j off : Nat} {len : Option Nat} {v : Value} (hG : nameOf ow d j ≠ none → G' d j = G d j) (hE : EC (nameOf ow d j) (nameOf ow' d j))
    (hsz : ∀ b r, rowCells h b = some r → ∃ r', rowCells h' b = some r' ∧ r'.size = r.size) (hv : HandR h G ow d j off len v) : HandR h' G' ow' d j off len v := by
  have hand : ∀ {n off len : Nat}, G' d j = G d j → HandV h G n d j off len v → HandV h' G' n d j off len v := by
    intro n off len hg hv
    obtain ⟨a, c, rfl, hlc, hv⟩ := hv
    refine ⟨a, c, rfl, hlc, ?_⟩
    rcases hv with ⟨h0, h1⟩ | ⟨b, o, o', r, hG, ha, hr, ho, hs⟩
    · exact .inl ⟨by rw [hg, h0], h1⟩
    · obtain ⟨r', hr', hrs⟩ := hsz b r hr
      exact .inr ⟨b, o, o', r', by rw [hg, hG], ha, hr', ho, by rw [hrs]; exact hs⟩
  have one : ∀ {n off len : Nat}, HandV h G n d j off len v → v.oneCell' = true := by
    intro n off len hv
    obtain ⟨a, c, rfl, _⟩ := hv
    rfl
  unfold HandR at hv ⊢
  generalize nameOf ow d j = x at hG hE hv
  generalize nameOf ow' d j = y at hE
  match x, y, hE, hv with
  | some none, some none, _, hv => exact hv
  | some (some (.row k _ l)), some none, _, hv => exact one hv.2
  | some (some (.frow k _ l)), some none, _, hv => exact one hv.2
  | some (some (.row k _ l)), some (some (.row k' _ l')), hE, hv =>
    obtain ⟨rfl, e⟩ := hE
    dsimp only at hv ⊢
    rw [← e]
    exact ⟨hv.1, hand (hG (by simp)) hv.2⟩
  | some (some (.row k _ l)), some (some (.frow k' _ l')), hE, hv =>
    obtain ⟨rfl, e⟩ := hE
    dsimp only at hv ⊢
    rw [← e]
    exact ⟨hv.1, hand (hG (by simp)) hv.2⟩
  | some (some (.frow k _ l)), some (some (.frow k' _ l')), hE, hv =>
    obtain ⟨rfl, e⟩ := hE
    dsimp only at hv ⊢
    rw [← e]
    exact ⟨hv.1, hand (hG (by simp)) hv.2⟩

theorem SvRep.mono {ok ok' : Nat → Prop} (hG : ∀ d j, nameOf ow d j ≠ none → G' d j = G d j) (hE : ∀ d j, EC (nameOf ow d j) (nameOf ow' d j))
    (hok : ∀ b r, ok b → rowCells h b = some r → ok' b ∧ rowCells h' b = some r) (hsz : ∀ b r, rowCells h b = some r → ∃ r', rowCells h' b = some r' ∧ r'.size = r.size)
    {s : SV} {v : Value} (e : SvRep h ok G ow s v) : SvRep h' ok' G' ow' s v := by
  induction e with
  | v hk hx => exact .v hk (Rep.mono hok _ hx)
  | lb b => exact .lb b
  | dead v => exact .dead v
  | nils => exact .nils
  | agg hl _ ih => exact .agg hl ih
  | tup hl _ ih => exact .tup hl ih
  | fn h1 h2 _ _ ih1 ih2 => exact .fn h1 h2 ih1 ih2
  | wh hv => exact .wh (hv.mono (hG _ _) (hE _ _) hsz)
  | os hv => exact .os (hv.mono (hG _ _) (hE _ _) hsz)
  | @bp d j c val hv =>
    refine .bp ?_
    have hg := hG d j
    have he := hE d j
    generalize nameOf ow d j = x at hg he hv
    generalize nameOf ow' d j = y at he
    match x, y, he, hv with
    | some none, some none, _, hv => exact hv
    | some (some (.box _)), some none, _, hv => obtain ⟨_, _, _, rfl⟩ := hv; rfl
    | some (some (.box _)), some (some (.box _)), _, hv => obtain ⟨b, o, hb, rfl⟩ := hv; exact ⟨b, o, by rw [hg (by simp), hb], rfl⟩
  | @rp d j ver e c val hv =>
    refine .rp ?_
    have hg := hG d j
    have he := hE d j
    generalize nameOf ow d j = x at hg he hv
    generalize nameOf ow' d j = y at he
    match x, y, he, hv with
    | some none, some none, _, hv => exact hv
    | some (some (.row _ _ _)), some none, _, hv => obtain ⟨_, _, _, _, rfl⟩ := hv; rfl
    | some (some (.frow _ _ _)), some none, _, hv => obtain ⟨_, _, _, _, rfl⟩ := hv; rfl
    | some (some (.row k _ l)), some (some (.row k' _ l')), he, hv =>
      obtain ⟨rfl, e⟩ := he
      obtain ⟨hl, b, o, hb, rfl⟩ := hv
      exact ⟨by omega, b, o, by rw [hg (by simp), hb], rfl⟩
    | some (some (.row k _ l)), some (some (.frow k' _ l')), he, hv =>
      obtain ⟨rfl, e⟩ := he
      obtain ⟨hl, b, o, hb, rfl⟩ := hv
      exact ⟨by omega, b, o, by rw [hg (by simp), hb], rfl⟩
    | some (some (.frow k _ l)), some (some (.frow k' _ l')), he, hv =>
      obtain ⟨rfl, e⟩ := he
      obtain ⟨hl, b, o, hb, rfl⟩ := hv
      exact ⟨by omega, b, o, by rw [hg (by simp), hb], rfl⟩
  | ip hk hb hr hs hx =>
    obtain ⟨hb', hr'⟩ := hok _ _ hb hr
    exact .ip hk hb' hr' hs (Rep.mono hok _ hx)

theorem ObRep.mono {ok ok' : Nat → Prop} (hG : ∀ d j, nameOf ow d j ≠ none → G' d j = G d j) (hE : ∀ d j, EC (nameOf ow d j) (nameOf ow' d j))
    (hok : ∀ b r, ok b → rowCells h b = some r → ok' b ∧ rowCells h' b = some r) (hsz : ∀ b r, rowCells h b = some r → ∃ r', rowCells h' b = some r' ∧ r'.size = r.size)
    {d j : Nat} {o : OB} (hn : nameOf ow d j ≠ none) (hb : isOwn (some (some o)) → ∀ b c, G d j = some (b, c) → h'[b]? = h[b]?) (e : ObRep h ok G ow d j o) : ObRep h' ok' G' ow' d j o := by
  cases o with
  | box cells =>
    obtain ⟨b, o, r, et, hg, hr, hs, hc⟩ := e
    exact ⟨b, o, r, et, by rw [hG d j hn, hg], by rw [hb trivial b o hg, hr], hs, fun i hi hr => (hc i hi hr).mono hG hE hok hsz⟩
  | row k ver l =>
    obtain ⟨hk, e⟩ := e
    refine ⟨hk, ?_⟩
    rw [hG d j hn]
    cases hg : G d j with
    | none => simpa [hg] using e
    | some p =>
      obtain ⟨b, o⟩ := p
      simp only [hg] at e
      obtain ⟨r, et, hr, he⟩ := e
      exact ⟨r, et, by rw [hb trivial b o hg, hr], he.mono fun x cs hx => Rep.mono hok _ hx⟩
  | frow k ver l =>
    obtain ⟨hk, e⟩ := e
    refine ⟨hk, ?_⟩
    rw [hG d j hn]
    cases hg : G d j with
    | none => simpa [hg] using e
    | some p =>
      obtain ⟨b, o⟩ := p
      simp only [hg] at e
      rcases e with e | ⟨hb, r, hr, he⟩
      · exact .inl e
      · obtain ⟨hb', hr'⟩ := hok b r hb hr
        exact .inr ⟨hb', r, hr', he.mono fun x cs hx => Rep.mono hok _ hx⟩
end

/-- A step: what was stays, but what was one's own may have been written. -/
structure Tr (F : Nat → Prop) (G : Gh) (ow : OW) (w : World) (G' : Gh) (ow' : OW) (w' : World) : Prop where
  hrep : HRep F G' ow' w'.heap
  sv : ∀ s v, Sv F G ow w.heap s v → Sv F G' ow' w'.heap s v
  kept : Kept (Own G ow) w w'
  own : ∀ b, Own G' ow' b → Own G ow b ∨ w.heap.size ≤ b
  len : ow'.length = ow.length

theorem Kept.refl (I : Nat → Prop) (w : World) : Kept I w w := ⟨Nat.le_refl _, fun _ _ _ => rfl, fun b r et f h => ⟨r, h, rfl⟩, rfl, rfl, rfl⟩

theorem Kept.trans {I J : Nat → Prop} {w w' w'' : World} (h1 : Kept I w w') (h2 : Kept J w' w'') (hJ : ∀ b, J b → I b ∨ w.heap.size ≤ b) : Kept I w w'' :=
  ⟨Nat.le_trans h1.size h2.size, fun b hb hI => by
    rw [h2.heap b (Nat.lt_of_lt_of_le hb h1.size) (fun hj => by rcases hJ b hj with h | h; exact hI h; omega), h1.heap b hb hI], fun b r et f h => by
    obtain ⟨r1, e1, s1⟩ := h1.cells b r et f h
    obtain ⟨r2, e2, s2⟩ := h2.cells b r1 et f e1
    exact ⟨r2, e2, by omega⟩, by rw [h2.os, h1.os], by rw [h2.output, h1.output], by rw [h2.tape, h1.tape]⟩

theorem Tr.refl {F : Nat → Prop} {G : Gh} {ow : OW} {w : World} (h : HRep F G ow w.heap) : Tr F G ow w G ow w :=
  ⟨h, fun _ _ h => h, .refl _ _, fun _ h => .inl h, rfl⟩

theorem Tr.trans {F : Nat → Prop} {G G' G'' : Gh} {ow ow' ow'' : OW} {w w' w'' : World} (h1 : Tr F G ow w G' ow' w') (h2 : Tr F G' ow' w' G'' ow'' w'') : Tr F G ow w G'' ow'' w'' :=
  ⟨h2.hrep, fun s v h => h2.sv s v (h1.sv s v h), h1.kept.trans h2.kept h1.own, fun b hb => by
    rcases h2.own b hb with h | h
    · exact h1.own b h
    · exact .inr (Nat.le_trans h1.kept.size h), by rw [h2.len, h1.len]⟩

section
variable {F : Nat → Prop} {G G' : Gh} {ow ow' : OW} {w w' : World}

theorem Own.lt (hh : HRep F G ow w.heap) {b : Nat} (hb : Own G ow b) : b < w.heap.size := by
  obtain ⟨d, j, o, hn, hg⟩ := own_iff.1 hb
  have key : ∀ ob, nameOf ow d j = some (some ob) → isOwn (some (some ob)) → b < w.heap.size := by
    intro ob hob hi
    have := hh.obs d j ob hob
    cases ob with
    | box cells =>
      obtain ⟨b', o', r, et, hg', hr, _⟩ := this
      rw [hg] at hg'; cases hg'
      exact (Array.getElem?_eq_some_iff.1 hr).1
    | row k ver l =>
      have := this.2
      simp only [hg] at this
      obtain ⟨r, et, hr, _⟩ := this
      exact (Array.getElem?_eq_some_iff.1 hr).1
    | frow _ _ _ => exact hi.elim
  generalize hx : nameOf ow d j = x at hn
  match x, hn with
  | some (some ob), hn => exact key ob hx hn

theorem rowCells_lt {h : Array Obj} {b : Nat} {r : Array Value} (hr : rowCells h b = some r) : b < h.size := by
  unfold rowCells at hr
  split at hr
  · rename_i e; exact (Array.getElem?_eq_some_iff.1 e).1
  · cases hr

theorem ok_kept (hk : Kept (Own G ow) w w') (ho : ∀ b, Own G' ow' b → Own G ow b ∨ w.heap.size ≤ b) (b : Nat) (r : Array Value) (hb : okF F G ow b) (hr : rowCells w.heap b = some r) :
    okF F G' ow' b ∧ rowCells w'.heap b = some r := by
  have hlt := rowCells_lt hr
  refine ⟨⟨hb.1, fun h => ?_⟩, ?_⟩
  · rcases ho b h with h | h
    · exact hb.2 h
    · omega
  · unfold rowCells
    rw [hk.heap b hlt hb.2]
    exact hr

theorem size_kept (hk : Kept (Own G ow) w w') (hsz : ∀ b r, Own G ow b → rowCells w.heap b = some r → ∃ r', rowCells w'.heap b = some r' ∧ r'.size = r.size) (b : Nat) (r : Array Value) (hr : rowCells w.heap b = some r) :
    ∃ r', rowCells w'.heap b = some r' ∧ r'.size = r.size := by
  by_cases hb : Own G ow b
  · exact hsz b r hb hr
  · exact ⟨r, by unfold rowCells; rw [hk.heap b (rowCells_lt hr) hb]; exact hr, rfl⟩

theorem tr_of (hh : HRep F G ow w.heap) (hF : ∀ b, F b → b < w.heap.size) (hG : ∀ d j, nameOf ow d j ≠ none → G' d j = G d j) (hE : ∀ d j, EC (nameOf ow d j) (nameOf ow' d j))
    (hk : Kept (Own G ow) w w') (ho : ∀ b, Own G' ow' b → Own G ow b ∨ w.heap.size ≤ b)
    (hsz : ∀ b r, Own G ow b → rowCells w.heap b = some r → ∃ r', rowCells w'.heap b = some r' ∧ r'.size = r.size)
    (hob : ∀ d j o, nameOf ow' d j = some (some o) →
      (nameOf ow d j = some (some o) ∧ (isOwn (some (some o)) → ∀ b c, G d j = some (b, c) → w'.heap[b]? = w.heap[b]?)) ∨
      ((∀ s v, Sv F G ow w.heap s v → Sv F G' ow' w'.heap s v) → (∀ b r, okF F G ow b → rowCells w.heap b = some r → okF F G' ow' b ∧ rowCells w'.heap b = some r) → ObRep w'.heap (okF F G' ow') G' ow' d j o))
    (hap : ∀ d j d' j' b o o', isOwn (nameOf ow' d j) → isOwn (nameOf ow' d' j') → G' d j = some (b, o) → G' d' j' = some (b, o') → d = d' ∧ j = j')
    (hl : ow'.length = ow.length) : Tr F G ow w G' ow' w' := by
  have hok := ok_kept (F := F) hk ho
  have hs := size_kept hk hsz
  have hsv : ∀ s v, Sv F G ow w.heap s v → Sv F G' ow' w'.heap s v := fun s v e => SvRep.mono hG hE hok hs e
  refine ⟨⟨fun d j o hn => ?_, hap, fun b hb => ?_⟩, hsv, hk, ho, hl⟩
  · rcases hob d j o hn with ⟨h1, h2⟩ | h1
    · exact ObRep.mono hG hE hok hs (by rw [h1]; simp) h2 (hh.obs d j o h1)
    · exact h1 hsv hok
  · rcases ho b hb with h | h
    · exact hh.notF b h
    · intro hf
      have := hF b hf
      omega

/-! ### Names -/

theorem nameOf_putOb {d j : Nat} {o : Option OB} {d' j' : Nat} (hn : nameOf ow d j ≠ none) : nameOf (putOb ow d j o) d' j' = if d' = d ∧ j' = j then some o else nameOf ow d' j' := by
  unfold nameOf at hn ⊢
  unfold putOb
  cases hd : ow[d]? with
  | none => simp [hd] at hn
  | some l =>
    simp only [hd, Option.bind_some] at hn
    have hlt := (List.getElem?_eq_some_iff.1 hd).1
    have hj : j < l.length := by
      rcases Nat.lt_or_ge j l.length with h | h
      · exact h
      · exact absurd (List.getElem?_eq_none h) hn
    by_cases h1 : d' = d
    · subst h1
      simp only [List.getElem?_set_self hlt, Option.bind_some, true_and]
      by_cases h2 : j' = j
      · subst h2; simp [hj]
      · simp [h2, hd, List.getElem?_set_ne (Ne.symm h2)]
    · simp [h1, List.getElem?_set_ne (Ne.symm h1)]

theorem length_putOb {d j : Nat} {o : Option OB} : (putOb ow d j o).length = ow.length := by
  unfold putOb; split <;> simp

theorem newObs_some {d : Nat} {l : List OB} {ow' : OW} (h : newObs ow d l = some ow') :
    ow'.length = ow.length ∧ (l = [] ∨ ow[d]? = some []) ∧ ∀ d' j, nameOf ow' d' j = if d' = d ∧ l ≠ [] then l[j]?.map some else nameOf ow d' j := by
  unfold newObs at h
  split at h
  · cases h; exact ⟨rfl, .inl rfl, fun d' j => by simp⟩
  · rename_i hl
    split at h
    · rename_i hd
      cases h
      refine ⟨by simp, .inr hd, fun d' j => ?_⟩
      have hlt := (List.getElem?_eq_some_iff.1 hd).1
      have hl' : l ≠ [] := fun e => hl e
      unfold nameOf
      by_cases h1 : d' = d
      · subst h1; simp [List.getElem?_set_self hlt, hl']
      · simp [h1, List.getElem?_set_ne (Ne.symm h1)]
    · cases h

theorem nameOf_empty {d : Nat} (h : ow[d]? = some []) (j : Nat) : nameOf ow d j = none := by simp [nameOf, h]

/-! ### New blocks -/

theorem heap_alloc_old (w : World) (o : Obj) {b : Nat} (hb : b < w.heap.size) : (w.alloc o).heap[b]? = w.heap[b]? := by
  show (w.heap.push o)[b]? = _
  rw [Array.getElem?_push]
  rw [if_neg (by omega)]

theorem heap_alloc_new (w : World) (o : Obj) : (w.alloc o).heap[w.heap.size]? = some o := by
  show (w.heap.push o)[w.heap.size]? = some o
  simp

theorem kept_alloc (I : Nat → Prop) (w : World) (o : Obj) : Kept I w (w.alloc o) :=
  ⟨by simp, fun b hb _ => heap_alloc_old w o hb, fun b r et f h => ⟨r, by rw [heap_alloc_old w o (Array.getElem?_eq_some_iff.1 h).1]; exact h, rfl⟩, rfl, rfl, rfl⟩

theorem kept_drew (I : Nat → Prop) (w : World) : Kept I w w.drew := ⟨Nat.le_refl _, fun _ _ _ => rfl, fun b r et f h => ⟨r, h, rfl⟩, rfl, rfl, rfl⟩

/-- Where a new thing lies. -/
def Gh.new (G : Gh) (d : Nat) (p : Nat → Option (Nat × Nat)) : Gh := fun d' j => if d' = d then p j else G d' j

/-- One new thing in a new block. -/
theorem tr_alloc (hh : HRep F G ow w.heap) (hF : ∀ b, F b → b < w.heap.size) {d : Nat} {ob : OB} (hn : newObs ow d [ob] = some ow') {w1 : World} (h1 : w1.heap = w.heap) (hos : w1.os = w.os) (hout : w1.output = w.output) (htape : w1.tape = w.tape) (c : Obj) (o : Nat)
    (hob : (∀ s v, Sv F G ow w.heap s v → Sv F (G.new d fun _ => some (w.heap.size, o)) ow' (w1.alloc c).heap s v) →
      (∀ b r, okF F G ow b → rowCells w.heap b = some r → okF F (G.new d fun _ => some (w.heap.size, o)) ow' b ∧ rowCells (w1.alloc c).heap b = some r) → ObRep (w1.alloc c).heap (okF F (G.new d fun _ => some (w.heap.size, o)) ow') (G.new d fun _ => some (w.heap.size, o)) ow' d 0 ob) :
    Tr F G ow w (G.new d fun _ => some (w.heap.size, o)) ow' (w1.alloc c) := by
  obtain ⟨hl, he, hnm⟩ := newObs_some hn
  have he : ow[d]? = some [] := by rcases he with h | h; cases h; exact h
  have hnm' : ∀ d' j, nameOf ow' d' j = if d' = d then [ob][j]?.map some else nameOf ow d' j := fun d' j => by rw [hnm]; simp
  have hGn : ∀ d' j, nameOf ow d' j ≠ none → (G.new d fun _ => some (w.heap.size, o)) d' j = G d' j := fun d' j hx => by
    unfold Gh.new
    rw [if_neg]
    intro e
    rw [e, nameOf_empty he] at hx
    exact hx rfl
  have hk : Kept (Own G ow) w (w1.alloc c) := ⟨by simp [h1], fun b hb _ => by rw [heap_alloc_old w1 c (by rw [h1]; exact hb), h1], fun b r et f h => ⟨r, by rw [heap_alloc_old w1 c (by rw [h1]; exact (Array.getElem?_eq_some_iff.1 h).1), h1]; exact h, rfl⟩, hos, hout, htape⟩
  have key0 : ∀ d' j, d' ≠ d → (G.new d fun _ => some (w.heap.size, o)) d' j = G d' j := fun d' j hd => by simp [Gh.new, hd]
  have keyd : ∀ j, (G.new d fun _ => some (w.heap.size, o)) d j = some (w.heap.size, o) := fun j => by simp [Gh.new]
  have hj0 : ∀ j, isOwn (nameOf ow' d j) → j = 0 := fun j hx => by
    rw [hnm', if_pos rfl] at hx
    cases j with
    | zero => rfl
    | succ j => simp [isOwn] at hx
  refine tr_of hh hF hGn (fun d' j => ?_) hk (fun b hb => ?_) (fun b r _ hr => ⟨r, ?_, rfl⟩) (fun d' j ob' hx => ?_) (fun d1 j1 d2 j2 b o1 o2 h1 h2 g1 g2 => ?_) hl
  · by_cases hd : d' = d
    · subst hd; rw [nameOf_empty he]; trivial
    · rw [hnm', if_neg hd]; exact .refl _
  · obtain ⟨d', j, o', hx, hg⟩ := own_iff.1 hb
    by_cases hd : d' = d
    · subst hd
      rw [keyd] at hg; cases hg
      exact .inr (Nat.le_refl _)
    · rw [hnm', if_neg hd] at hx
      rw [key0 d' j hd] at hg
      exact .inl (own_iff.2 ⟨d', j, o', hx, hg⟩)
  · unfold rowCells
    rw [heap_alloc_old w1 c (by rw [h1]; exact rowCells_lt hr), h1]
    exact hr
  · by_cases hd : d' = d
    · subst hd
      right
      intro hsv hok
      cases j with
      | zero =>
        rw [hnm', if_pos rfl] at hx
        simp at hx
        subst hx
        exact hob hsv hok
      | succ j =>
        rw [hnm', if_pos rfl] at hx
        simp at hx
    · left
      rw [hnm', if_neg hd] at hx
      refine ⟨hx, fun hi b cc hg => ?_⟩
      have : Own G ow b := own_iff.2 ⟨d', j, cc, by rw [hx]; exact hi, hg⟩
      rw [heap_alloc_old w1 c (by rw [h1]; exact Own.lt hh this), h1]
  · have lt : ∀ {d' j' b' o'}, d' ≠ d → isOwn (nameOf ow' d' j') → (G.new d fun _ => some (w.heap.size, o)) d' j' = some (b', o') → b' < w.heap.size := by
      intro d' j' b' o' hd hi hg
      rw [key0 d' j' hd] at hg
      rw [hnm', if_neg hd] at hi
      exact Own.lt hh (own_iff.2 ⟨d', j', o', hi, hg⟩)
    by_cases e1 : d1 = d
    · by_cases e2 : d2 = d
      · subst e1; subst e2
        exact ⟨rfl, by rw [hj0 j1 h1, hj0 j2 h2]⟩
      · have := lt e2 h2 g2
        rw [e1, keyd] at g1; cases g1
        omega
    · by_cases e2 : d2 = d
      · have := lt e1 h1 g1
        rw [e2, keyd] at g2; cases g2
        omega
      · rw [key0 d1 j1 e1] at g1
        rw [key0 d2 j2 e2] at g2
        rw [hnm', if_neg e1] at h1
        rw [hnm', if_neg e2] at h2
        exact hh.apart d1 j1 d2 j2 b o1 o2 h1 h2 g1 g2

end

end Go.Pev
