/-
  PEV, part 19b: a step that looks at some of what is owned alone.
-/
import Derived.Test.YtgajbbadidobfaaDoorPevOp
set_option linter.unusedVariables false
set_option linter.unusedSimpArgs false
namespace Go.Pev

/-! ### Lists -/

theorem maskOW_get (K : List Nat) : (l : OW) → (i n : Nat) → (maskOW K i l)[n]? = (l[n]?).map fun x => if K.contains (i + n) then x else dummyL
  | [], _, _ => rfl
  | a :: r, i, 0 => by simp [maskOW]
  | a :: r, i, n + 1 => by
    simp only [maskOW, List.getElem?_cons_succ]
    rw [maskOW_get K r (i + 1) n]
    have : i + 1 + n = i + (n + 1) := by omega
    rw [this]

theorem mergeOW_get (K : List Nat) : (l s : OW) → (i n : Nat) → (mergeOW K i l s)[n]? = (l[n]?).map fun x => if K.contains (i + n) then (s[n]?).getD x else x
  | [], _, _, _ => rfl
  | a :: r, s, i, 0 => by cases s <;> simp [mergeOW]
  | a :: r, s, i, n + 1 => by
    simp only [mergeOW, List.getElem?_cons_succ]
    rw [mergeOW_get K r s.tail (i + 1) n]
    have : i + 1 + n = i + (n + 1) := by omega
    rw [this]
    cases s <;> simp

theorem mask_merge {K K' : List Nat} (h : ∀ d, K.contains d = true → K'.contains d = false) (l s : OW) : maskOW K' 0 (mergeOW K 0 l s) = maskOW K' 0 l := by
  apply List.ext_getElem?
  intro n
  rw [maskOW_get, maskOW_get, mergeOW_get]
  cases l[n]? with
  | none => rfl
  | some x =>
    simp only [Option.map_some, Nat.zero_add]
    cases hk : K.contains n with
    | true => rw [h n hk]; simp only [Bool.false_eq_true, if_false]
    | false => simp only [Bool.false_eq_true, if_false]

theorem merge_comm {K K' : List Nat} (h : ∀ d, K.contains d = true → K'.contains d = false) (l s s' : OW) : mergeOW K' 0 (mergeOW K 0 l s) s' = mergeOW K 0 (mergeOW K' 0 l s') s := by
  apply List.ext_getElem?
  intro n
  simp only [mergeOW_get, Nat.zero_add]
  cases l[n]? with
  | none => rfl
  | some x =>
    simp only [Option.map_some, Option.some.injEq]
    cases hk : K.contains n with
    | true => rw [h n hk]; simp only [Bool.false_eq_true, if_false, if_true]
    | false => simp only [Bool.false_eq_true, if_false]

theorem smallOW_get {ow : OW} : smallOW ow = true ↔ ∀ (n : Nat) (l : List (Option OB)), ow[n]? = some l → l.length ≤ 64 := by
  unfold smallOW
  rw [List.all_eq_true]
  constructor
  · intro h n l hl
    have := h l (List.mem_of_getElem? hl)
    simpa using this
  · intro h l hl
    obtain ⟨n, hn⟩ := List.mem_iff_getElem?.1 hl
    simpa using h n l hn

theorem small_merge {K : List Nat} {l s : OW} (hl : smallOW l = true) (hs : smallOW s = true) : smallOW (mergeOW K 0 l s) = true := by
  rw [smallOW_get] at hl hs ⊢
  intro n x hx
  rw [mergeOW_get] at hx
  cases h1 : l[n]? with
  | none => rw [h1] at hx; cases hx
  | some y =>
    rw [h1] at hx
    simp only [Option.map_some, Option.some.injEq] at hx
    subst hx
    split
    · cases h2 : s[n]? with
      | none => simpa using hl n y h1
      | some z => simpa using hs n z h2
    · exact hl n y h1

theorem frameOW_get (K : List Nat) : (l : OW) → (i : Nat) → frameOW K i l = true → ∀ n x, l[n]? = some x → (if K.contains (i + n) then x.all (obIn K) else x.all (·.isNone) && x.length == 64) = true
  | [], _, _, _, _, h => by simp at h
  | a :: r, i, hf, 0, x, h => by
    simp only [List.getElem?_cons_zero, Option.some.injEq] at h
    subst h
    simp only [frameOW, Bool.and_eq_true] at hf
    exact hf.1
  | a :: r, i, hf, n + 1, x, h => by
    simp only [frameOW, Bool.and_eq_true] at hf
    have := frameOW_get K r (i + 1) hf.2 n x (by simpa using h)
    have e : i + 1 + n = i + (n + 1) := by omega
    rw [e] at this
    exact this

theorem length_merge (K : List Nat) (l s : OW) : (mergeOW K 0 l s).length = l.length := by
  have key : ∀ (l s : OW) (i : Nat), (mergeOW K i l s).length = l.length := by
    intro l
    induction l with
    | nil => intro s i; rfl
    | cons a r ih => intro s i; simp [mergeOW, ih]
  exact key l s 0

theorem length_mask (K : List Nat) (l : OW) : (maskOW K 0 l).length = l.length := by
  have key : ∀ (l : OW) (i : Nat), (maskOW K i l).length = l.length := by
    intro l
    induction l with
    | nil => intro i; rfl
    | cons a r ih => intro i; simp [maskOW, ih]
  exact key l 0

/-! ### Names -/

section
variable {F : Nat → Prop} {G G1 : Gh} {ow ow1 : OW} {w w1 : World} {K : List Nat}

theorem nameOf_mask_in {d : Nat} (hd : K.contains d = true) (j : Nat) : nameOf (maskOW K 0 ow) d j = nameOf ow d j := by
  unfold nameOf
  rw [maskOW_get]
  cases ow[d]? with
  | none => rfl
  | some l => simp only [Option.map_some, Nat.zero_add, hd, if_true]

theorem dummy_get {j : Nat} : dummyL[j]? = if j < 64 then some none else none := by
  unfold dummyL
  rw [List.getElem?_replicate]

theorem nameOf_mask_out {d : Nat} (hd : K.contains d = false) (j : Nat) : nameOf (maskOW K 0 ow) d j = none ∨ nameOf (maskOW K 0 ow) d j = some none := by
  unfold nameOf
  rw [maskOW_get]
  cases ow[d]? with
  | none => exact .inl rfl
  | some l =>
    simp only [Option.map_some, Nat.zero_add, hd, Bool.false_eq_true, if_false, Option.bind_some]
    rw [dummy_get]
    split
    · exact .inr rfl
    · exact .inl rfl

theorem nameOf_mask_dead (hs : smallOW ow = true) {d : Nat} (hd : K.contains d = false) {j : Nat} (hn : nameOf ow d j ≠ none) : nameOf (maskOW K 0 ow) d j = some none := by
  unfold nameOf at hn ⊢
  rw [maskOW_get]
  cases hl : ow[d]? with
  | none => rw [hl] at hn; exact absurd rfl hn
  | some l =>
    rw [hl] at hn
    simp only [Option.bind_some] at hn
    have hj : j < l.length := by
      rcases Nat.lt_or_ge j l.length with h | h
      · exact h
      · exact absurd (List.getElem?_eq_none h) hn
    have := smallOW_get.1 hs d l hl
    simp only [Option.map_some, Nat.zero_add, hd, Bool.false_eq_true, if_false, Option.bind_some]
    rw [dummy_get, if_pos (by omega)]

theorem nameOf_merge_in (hl : ow1.length = ow.length) {d : Nat} (hd : K.contains d = true) (j : Nat) : nameOf (mergeOW K 0 ow ow1) d j = nameOf ow1 d j := by
  unfold nameOf
  rw [mergeOW_get]
  rcases Nat.lt_or_ge d ow.length with h | h
  · simp only [List.getElem?_eq_getElem h, List.getElem?_eq_getElem (show d < ow1.length by omega), Option.map_some, Nat.zero_add, hd, if_true, Option.getD_some]
  · rw [List.getElem?_eq_none h, List.getElem?_eq_none (show ow1.length ≤ d by omega)]; rfl

theorem nameOf_merge_out {d : Nat} (hd : K.contains d = false) (j : Nat) : nameOf (mergeOW K 0 ow ow1) d j = nameOf ow d j := by
  unfold nameOf
  rw [mergeOW_get]
  cases ow[d]? with
  | none => rfl
  | some l => simp only [Option.map_some, Nat.zero_add, hd, Bool.false_eq_true, if_false]

theorem mask_EC (hs : smallOW ow = true) (d j : Nat) : EC (nameOf ow d j) (nameOf (maskOW K 0 ow) d j) := by
  cases hd : K.contains d with
  | true => rw [nameOf_mask_in hd]; exact .refl _
  | false =>
    by_cases hn : nameOf ow d j = none
    · rw [hn]; trivial
    · rw [nameOf_mask_dead hs hd hn]; exact .dead

/-- What a step must leave alone: what is owned under other keys, too. -/
def FM (F : Nat → Prop) (G : Gh) (ow : OW) (K : List Nat) (b : Nat) : Prop := F b ∨ ∃ d j o, K.contains d = false ∧ isOwn (nameOf ow d j) ∧ G d j = some (b, o)

theorem own_mask {b : Nat} (h : Own G (maskOW K 0 ow) b) : ∃ d j o, K.contains d = true ∧ isOwn (nameOf ow d j) ∧ G d j = some (b, o) := by
  obtain ⟨d, j, o, h1, h2⟩ := own_iff.1 h
  cases hd : K.contains d with
  | true => rw [nameOf_mask_in hd] at h1; exact ⟨d, j, o, hd, h1, h2⟩
  | false => rcases nameOf_mask_out (ow := ow) hd j with h | h <;> rw [h] at h1 <;> exact h1.elim

theorem own_of_mask {b : Nat} (h : Own G (maskOW K 0 ow) b) : Own G ow b := by
  obtain ⟨d, j, o, _, h1, h2⟩ := own_mask h
  exact own_iff.2 ⟨d, j, o, h1, h2⟩

theorem FM_lt (hh : HRep F G ow w.heap) (hF : ∀ b, F b → b < w.heap.size) {b : Nat} (h : FM F G ow K b) : b < w.heap.size := by
  rcases h with h | ⟨d, j, o, _, h1, h2⟩
  · exact hF b h
  · exact Own.lt hh (own_iff.2 ⟨d, j, o, h1, h2⟩)

theorem ok_mask {b : Nat} (h : okF F G ow b) : okF (FM F G ow K) G (maskOW K 0 ow) b := by
  refine ⟨fun hf => ?_, fun ho => h.2 (own_of_mask ho)⟩
  rcases hf with hf | ⟨d, j, o, _, h1, h2⟩
  · exact h.1 hf
  · exact h.2 (own_iff.2 ⟨d, j, o, h1, h2⟩)

theorem sv_mask (hs : smallOW ow = true) {h : Array Obj} {s : SV} {v : Value} (e : Sv F G ow h s v) : Sv (FM F G ow K) G (maskOW K 0 ow) h s v :=
  SvRep.mono (fun _ _ _ => rfl) (mask_EC hs) (fun b r hb hr => ⟨ok_mask hb, hr⟩) (fun b r hr => ⟨r, hr, rfl⟩) e

theorem hrep_mask (hs : smallOW ow = true) {h : Array Obj} (hh : HRep F G ow h) : HRep (FM F G ow K) G (maskOW K 0 ow) h := by
  have hin : ∀ d j, isOwn (nameOf (maskOW K 0 ow) d j) → K.contains d = true ∧ isOwn (nameOf ow d j) := by
    intro d j hi
    cases hd : K.contains d with
    | true => rw [nameOf_mask_in hd] at hi; exact ⟨rfl, hi⟩
    | false => rcases nameOf_mask_out (ow := ow) hd j with h | h <;> rw [h] at hi <;> exact hi.elim
  refine ⟨fun d j o hn => ?_, fun d j d' j' b o o' h1 h2 h3 h4 => ?_, fun b hb hf => ?_⟩
  · cases hd : K.contains d with
    | true =>
      rw [nameOf_mask_in hd] at hn
      exact ObRep.mono (fun _ _ _ => rfl) (mask_EC hs) (fun b r hb hr => ⟨ok_mask hb, hr⟩) (fun b r hr => ⟨r, hr, rfl⟩) (by rw [hn]; simp) (fun _ _ _ _ => rfl) (hh.obs d j o hn)
    | false => rcases nameOf_mask_out (ow := ow) hd j with h | h <;> rw [h] at hn <;> cases hn
  · exact hh.apart d j d' j' b o o' (hin d j h1).2 (hin d' j' h2).2 h3 h4
  · obtain ⟨d, j, o, hd, h1, h2⟩ := own_mask hb
    rcases hf with hf | ⟨d', j', o', hd', h3, h4⟩
    · exact hh.notF b (own_of_mask hb) hf
    · obtain ⟨rfl, _⟩ := hh.apart d j d' j' b o o' h1 h3 h2 h4
      rw [hd] at hd'; cases hd'

def GM (K : List Nat) (G G1 : Gh) : Gh := fun d j => if K.contains d then G1 d j else G d j

theorem GM_in {d : Nat} (hd : K.contains d = true) (j : Nat) : GM K G G1 d j = G1 d j := by simp only [GM, hd, if_true]
theorem GM_out {d : Nat} (hd : K.contains d = false) (j : Nat) : GM K G G1 d j = G d j := by simp only [GM, hd, Bool.false_eq_true, if_false]

theorem HandR.same {h : Array Obj} {G G' : Gh} {ow ow' : OW} {d j off : Nat} {len : Option Nat} {v : Value} (hn : nameOf ow' d j = nameOf ow d j) (hG : G' d j = G d j) (hv : HandR h G ow d j off len v) : HandR h G' ow' d j off len v := by
  unfold HandR HandV at hv ⊢
  rw [hn, hG]
  exact hv

/-- Where all handles lie under the keys. -/
theorem sv_in {h : Array Obj} {ok ok' : Nat → Prop} {G G' : Gh} {ow ow' : OW} (hn : ∀ d j, K.contains d = true → nameOf ow' d j = nameOf ow d j) (hG : ∀ d j, K.contains d = true → G' d j = G d j)
    (hok : ∀ b r, ok b → rowCells h b = some r → ok' b ∧ rowCells h b = some r) {s : SV} {v : Value} (e : SvRep h ok G ow s v) : ∀ f, svIn K f s = true → SvRep h ok' G' ow' s v := by
  induction e with
  | v hk hx => intro f _; exact .v hk (Rep.mono hok _ hx)
  | lb b => intro f _; exact .lb b
  | dead v => intro f _; exact .dead v
  | nils => intro f _; exact .nils
  | agg hl _ ih =>
    intro f hf
    cases f with
    | zero => cases hf
    | succ f =>
      simp only [svIn, List.all_eq_true] at hf
      exact .agg hl fun i h1 h2 => ih i h1 h2 f (hf _ (List.getElem_mem _))
  | tup hl _ ih =>
    intro f hf
    cases f with
    | zero => cases hf
    | succ f =>
      simp only [svIn, List.all_eq_true] at hf
      exact .tup hl fun i h1 h2 => ih i h1 h2 f (hf _ (List.getElem_mem _))
  | fn h1 h2 _ _ ih1 ih2 =>
    intro f hf
    cases f with
    | zero => cases hf
    | succ f =>
      simp only [svIn, Bool.and_eq_true, List.all_eq_true] at hf
      exact .fn h1 h2 (fun i a b => ih1 i a b f (hf.1 _ (List.getElem_mem _))) (fun i a b => ih2 i a b f (hf.2 _ (List.getElem_mem _)))
  | wh hv =>
    intro f hf
    cases f with
    | zero => cases hf
    | succ f => exact .wh (hv.same (hn _ _ hf) (hG _ _ hf))
  | os hv =>
    intro f hf
    cases f with
    | zero => cases hf
    | succ f => exact .os (hv.same (hn _ _ hf) (hG _ _ hf))
  | @bp d j c val hv =>
    intro f hf
    cases f with
    | zero => cases hf
    | succ f =>
      refine .bp ?_
      rw [hn d j hf, hG d j hf]
      exact hv
  | @rp d j ver e c val hv =>
    intro f hf
    cases f with
    | zero => cases hf
    | succ f =>
      refine .rp ?_
      rw [hn d j hf, hG d j hf]
      exact hv
  | ip hk hb hr hs hx =>
    intro f _
    obtain ⟨hb', hr'⟩ := hok _ _ hb hr
    exact .ip hk hb' hr' hs (Rep.mono hok _ hx)

/-- What was there, with a step under the keys behind it. -/
theorem sv_across (hh : HRep F G ow w.heap) (hs : smallOW ow = true) (hsz : ∀ b r, rowCells w.heap b = some r → ∃ r', rowCells w1.heap b = some r' ∧ r'.size = r.size) {ow2 : OW} {G2 : Gh}
    (hsv : ∀ s v, Sv (FM F G ow K) G (maskOW K 0 ow) w.heap s v → Sv (FM F G ow K) G1 ow1 w1.heap s v)
    (hin : ∀ d j, K.contains d = true → nameOf ow2 d j = nameOf ow1 d j ∧ G2 d j = G1 d j) (hout : ∀ d j, K.contains d = false → nameOf ow2 d j = nameOf ow d j ∧ G2 d j = G d j)
    (hok : ∀ b r, okF F G ow b → rowCells w.heap b = some r → okF F G2 ow2 b ∧ rowCells w1.heap b = some r) {s : SV} {v : Value} (e : Sv F G ow w.heap s v) : Sv F G2 ow2 w1.heap s v := by
  induction e with
  | v hk hx => exact .v hk (Rep.mono hok _ hx)
  | lb b => exact .lb b
  | dead v => exact .dead v
  | nils => exact .nils
  | agg hl _ ih => exact .agg hl ih
  | tup hl _ ih => exact .tup hl ih
  | fn h1 h2 _ _ ih1 ih2 => exact .fn h1 h2 ih1 ih2
  | @wh d j ver val hv =>
    cases hd : K.contains d with
    | true =>
      have := hsv _ _ (sv_mask hs (.wh (ver := ver) hv))
      cases this with
      | wh hv => exact .wh (hv.same (hin d j hd).1 (hin d j hd).2)
    | false => exact .wh (hv.mono (fun _ => (hout d j hd).2) (by rw [(hout d j hd).1]; exact .refl _) hsz)
  | @os d j ver off len val hv =>
    cases hd : K.contains d with
    | true =>
      have := hsv _ _ (sv_mask hs (.os (ver := ver) hv))
      cases this with
      | os hv => exact .os (hv.same (hin d j hd).1 (hin d j hd).2)
    | false => exact .os (hv.mono (fun _ => (hout d j hd).2) (by rw [(hout d j hd).1]; exact .refl _) hsz)
  | @bp d j c val hv =>
    cases hd : K.contains d with
    | true =>
      have := hsv _ _ (sv_mask hs (.bp (c := c) hv))
      cases this with
      | bp hv =>
        refine .bp ?_
        rw [(hin d j hd).1, (hin d j hd).2]
        exact hv
    | false =>
      refine .bp ?_
      rw [(hout d j hd).1, (hout d j hd).2]
      exact hv
  | @rp d j ver e c val hv =>
    cases hd : K.contains d with
    | true =>
      have := hsv _ _ (sv_mask hs (.rp (ver := ver) hv))
      cases this with
      | rp hv =>
        refine .rp ?_
        rw [(hin d j hd).1, (hin d j hd).2]
        exact hv
    | false =>
      refine .rp ?_
      rw [(hout d j hd).1, (hout d j hd).2]
      exact hv
  | ip hk hb hr hs hx =>
    obtain ⟨hb', hr'⟩ := hok _ _ hb hr
    exact .ip hk hb' hr' hs (Rep.mono hok _ hx)

theorem ObRep.same {h h' : Array Obj} {ok ok' : Nat → Prop} {G G' : Gh} {ow ow' : OW} {d j : Nat} {o : OB} (hG : G' d j = G d j) (hb : isOwn (some (some o)) → ∀ b c, G d j = some (b, c) → h'[b]? = h[b]?)
    (hok : ∀ b r, ok b → rowCells h b = some r → ok' b ∧ rowCells h' b = some r) (hsv : ∀ cells, o = .box cells → ∀ s ∈ cells, ∀ v, SvRep h ok G ow s v → SvRep h' ok' G' ow' s v) (e : ObRep h ok G ow d j o) : ObRep h' ok' G' ow' d j o := by
  cases o with
  | box cells =>
    obtain ⟨b, o, r, et, hg, hr, hs, hc⟩ := e
    exact ⟨b, o, r, et, by rw [hG, hg], by rw [hb trivial b o hg, hr], hs, fun i hi hr => hsv cells rfl _ (List.getElem_mem _) _ (hc i hi hr)⟩
  | row k ver l =>
    obtain ⟨hk, e⟩ := e
    refine ⟨hk, ?_⟩
    rw [hG]
    cases hg : G d j with
    | none => simpa [hg] using e
    | some p =>
      obtain ⟨b, o⟩ := p
      simp only [hg] at e
      obtain ⟨r, et, hr, he⟩ := e
      exact ⟨r, et, by rw [hb trivial b o hg, hr], he.mono fun x cs hx => Rep.mono hok _ hx⟩
  | frow k ver l =>
    obtain ⟨hk, e⟩ := e
    refine ⟨hk, ?_⟩
    rw [hG]
    cases hg : G d j with
    | none => simpa [hg] using e
    | some p =>
      obtain ⟨b, o⟩ := p
      simp only [hg] at e
      rcases e with e | ⟨hb, r, hr, he⟩
      · exact .inl e
      · obtain ⟨hb', hr'⟩ := hok b r hb hr
        exact .inr ⟨hb', r, hr', he.mono fun x cs hx => Rep.mono hok _ hx⟩

theorem tr_unmask (hh : HRep F G ow w.heap) (hF : ∀ b, F b → b < w.heap.size) (hs : smallOW ow = true) (ht : Tr (FM F G ow K) G (maskOW K 0 ow) w G1 ow1 w1) (hK : okM K ow1 = true) :
    Tr F G ow w (GM K G G1) (mergeOW K 0 ow ow1) w1 ∧ ∀ s v f, svIn K f s = true → Sv (FM F G ow K) G1 ow1 w1.heap s v → Sv F (GM K G G1) (mergeOW K 0 ow ow1) w1.heap s v := by
  have hlen : ow1.length = ow.length := by rw [ht.len, length_mask]
  simp only [okM, Bool.and_eq_true] at hK
  have hin : ∀ d j, K.contains d = true → nameOf (mergeOW K 0 ow ow1) d j = nameOf ow1 d j ∧ GM K G G1 d j = G1 d j := fun d j hd => ⟨nameOf_merge_in hlen hd j, GM_in hd j⟩
  have hout : ∀ d j, K.contains d = false → nameOf (mergeOW K 0 ow ow1) d j = nameOf ow d j ∧ GM K G G1 d j = G d j := fun d j hd => ⟨nameOf_merge_out hd j, GM_out hd j⟩
  -- who owns behind it
  have hown : ∀ b, Own (GM K G G1) (mergeOW K 0 ow ow1) b → (Own G1 ow1 b) ∨ (∃ d j o, K.contains d = false ∧ isOwn (nameOf ow d j) ∧ G d j = some (b, o)) := by
    intro b hb
    obtain ⟨d, j, o, h1, h2⟩ := own_iff.1 hb
    cases hd : K.contains d with
    | true => rw [(hin d j hd).1] at h1; rw [(hin d j hd).2] at h2; exact .inl (own_iff.2 ⟨d, j, o, h1, h2⟩)
    | false => rw [(hout d j hd).1] at h1; rw [(hout d j hd).2] at h2; exact .inr ⟨d, j, o, hd, h1, h2⟩
  have hkept : Kept (Own G ow) w w1 := ⟨ht.kept.size, fun b hb ho => ht.kept.heap b hb fun h => ho (own_of_mask h), ht.kept.cells, ht.kept.os, ht.kept.output, ht.kept.tape⟩
  have hokr : ∀ b r, okF F G ow b → rowCells w.heap b = some r → okF F (GM K G G1) (mergeOW K 0 ow ow1) b ∧ rowCells w1.heap b = some r := by
    intro b r hb hr
    have hlt := rowCells_lt hr
    refine ⟨⟨hb.1, fun h => ?_⟩, ?_⟩
    · rcases hown b h with h | ⟨d, j, o, _, h1, h2⟩
      · rcases ht.own b h with h | h
        · exact hb.2 (own_of_mask h)
        · omega
      · exact hb.2 (own_iff.2 ⟨d, j, o, h1, h2⟩)
    · unfold rowCells
      rw [hkept.heap b hlt hb.2]
      exact hr
  have hok1 : ∀ b r, okF (FM F G ow K) G1 ow1 b → rowCells w1.heap b = some r → okF F (GM K G G1) (mergeOW K 0 ow ow1) b ∧ rowCells w1.heap b = some r := by
    intro b r hb hr
    refine ⟨⟨fun h => hb.1 (.inl h), fun h => ?_⟩, hr⟩
    rcases hown b h with h | h
    · exact hb.2 h
    · exact hb.1 (.inr h)
  have hsz : ∀ b r, rowCells w.heap b = some r → ∃ r', rowCells w1.heap b = some r' ∧ r'.size = r.size := by
    intro b r hr
    unfold rowCells at hr
    split at hr
    · rename_i c et f hc
      cases hr
      obtain ⟨r', h1, h2⟩ := ht.kept.cells b _ _ _ hc
      exact ⟨r', by unfold rowCells; rw [h1], h2⟩
    · cases hr
  have hsv : ∀ s v, Sv F G ow w.heap s v → Sv F (GM K G G1) (mergeOW K 0 ow ow1) w1.heap s v := fun s v e => sv_across hh hs hsz ht.sv hin hout hokr e
  have hsv1 : ∀ s v f, svIn K f s = true → Sv (FM F G ow K) G1 ow1 w1.heap s v → Sv F (GM K G G1) (mergeOW K 0 ow ow1) w1.heap s v := fun s v f hf e =>
    sv_in (fun d j hd => (hin d j hd).1) (fun d j hd => (hin d j hd).2) hok1 e f hf
  -- what is owned elsewhere is as it was
  have hstay : ∀ d j b o, K.contains d = false → isOwn (nameOf ow d j) → G d j = some (b, o) → w1.heap[b]? = w.heap[b]? := by
    intro d j b o hd h1 h2
    refine ht.kept.heap b (Own.lt hh (own_iff.2 ⟨d, j, o, h1, h2⟩)) fun h => ?_
    obtain ⟨d', j', o', hd', h3, h4⟩ := own_mask h
    obtain ⟨rfl, _⟩ := hh.apart d j d' j' b o o' h1 h3 h2 h4
    rw [hd] at hd'; cases hd'
  refine ⟨⟨⟨fun d j o hn => ?_, fun d j d' j' b o o' h1 h2 h3 h4 => ?_, fun b hb hf => ?_⟩, hsv, hkept, fun b hb => ?_, length_merge K ow ow1⟩, hsv1⟩
  · cases hd : K.contains d with
    | true =>
      rw [(hin d j hd).1] at hn
      refine ObRep.same (hin d j hd).2 (fun _ _ _ _ => rfl) hok1 (fun cells hc s hs v e => hsv1 s v 8 ?_ e) (ht.hrep.obs d j o hn)
      subst hc
      unfold nameOf at hn
      cases hl : ow1[d]? with
      | none => rw [hl] at hn; cases hn
      | some l =>
        rw [hl] at hn
        simp only [Option.bind_some] at hn
        have := frameOW_get K ow1 0 hK.1 d l hl
        simp only [Nat.zero_add, hd, if_true, List.all_eq_true] at this
        have := this _ (List.mem_of_getElem? hn)
        simp only [obIn, List.all_eq_true] at this
        exact this s hs
    | false =>
      rw [(hout d j hd).1] at hn
      exact ObRep.same (hout d j hd).2 (fun hi b c hg => hstay d j b c hd (by rw [hn]; exact hi) hg) hokr (fun cells hc s hs v e => hsv s v e) (hh.obs d j o hn)
  · cases hd : K.contains d with
    | true =>
      rw [(hin d j hd).1] at h1; rw [(hin d j hd).2] at h3
      cases hd' : K.contains d' with
      | true =>
        rw [(hin d' j' hd').1] at h2; rw [(hin d' j' hd').2] at h4
        exact ht.hrep.apart d j d' j' b o o' h1 h2 h3 h4
      | false =>
        rw [(hout d' j' hd').1] at h2; rw [(hout d' j' hd').2] at h4
        exact absurd (.inr ⟨d', j', o', hd', h2, h4⟩) (ht.hrep.notF b (own_iff.2 ⟨d, j, o, h1, h3⟩))
    | false =>
      rw [(hout d j hd).1] at h1; rw [(hout d j hd).2] at h3
      cases hd' : K.contains d' with
      | true =>
        rw [(hin d' j' hd').1] at h2; rw [(hin d' j' hd').2] at h4
        exact absurd (.inr ⟨d, j, o, hd, h1, h3⟩) (ht.hrep.notF b (own_iff.2 ⟨d', j', o', h2, h4⟩))
      | false =>
        rw [(hout d' j' hd').1] at h2; rw [(hout d' j' hd').2] at h4
        exact hh.apart d j d' j' b o o' h1 h2 h3 h4
  · rcases hown b hb with h | ⟨d, j, o, _, h1, h2⟩
    · exact ht.hrep.notF b h (.inl hf)
    · exact hh.notF b (own_iff.2 ⟨d, j, o, h1, h2⟩) hf
  · rcases hown b hb with h | ⟨d, j, o, _, h1, h2⟩
    · rcases ht.own b h with h | h
      · exact .inl (own_of_mask h)
      · exact .inr h
    · exact .inl (own_iff.2 ⟨d, j, o, h1, h2⟩)

theorem merge_mask (K : List Nat) (ow : OW) : mergeOW K 0 ow (maskOW K 0 ow) = ow := by
  apply List.ext_getElem?
  intro n
  rw [mergeOW_get, maskOW_get]
  cases ow[n]? with
  | none => rfl
  | some x =>
    simp only [Option.map_some, Nat.zero_add, Option.getD_some]
    cases hk : K.contains n with
    | true => simp only [if_true]
    | false => simp only [Bool.false_eq_true, if_false]

theorem GM_self (K : List Nat) (G : Gh) : GM K G G = G := by
  funext d j
  unfold GM
  split <;> rfl

/-- A step that turns nothing. -/
theorem tr_unmask_read (hh : HRep F G ow w.heap) (hF : ∀ b, F b → b < w.heap.size) (hs : smallOW ow = true) (ht : Tr (FM F G ow K) G (maskOW K 0 ow) w G (maskOW K 0 ow) w1) (hK : okM K (maskOW K 0 ow) = true) :
    Tr F G ow w G ow w1 ∧ ∀ s v f, svIn K f s = true → Sv (FM F G ow K) G (maskOW K 0 ow) w1.heap s v → Sv F G ow w1.heap s v := by
  have := tr_unmask hh hF hs ht hK
  rw [merge_mask, GM_self] at this
  exact this

end
end Go.Pev
