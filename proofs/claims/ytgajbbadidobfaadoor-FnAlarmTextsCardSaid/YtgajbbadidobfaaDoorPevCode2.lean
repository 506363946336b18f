/-
  PEV, part 20: states made anew, loops, code.
-/
import Derived.Test.YtgajbbadidobfaaDoorPevCode
namespace Go.Pev

section
variable {F : Nat → Prop} {G : Gh} {w : World}

/-- One slot more. -/
theorem add_slot {st : St} {f1 : List Nat} (hh : HRep (FP F f1) G st.ow w.heap) {tmps : List Value} (hs : Svs (FP F f1) G st.ow w.heap st.sl tmps) {sh : Sh} {x : sh.T} {v : Value} (e : ShR w.heap (okF (FP F f1) G st.ow) sh x [v] f1) (hnd : f1.Nodup) (hF : ∀ b ∈ f1, ¬ F b)
    {s : Nat} (hem : st.ow[s]? = some []) (hv : tmps[s]? = some v) :
    ∃ G', HRep F G' (st.ow.set s ((unpk s sh x 0).2.map some)) w.heap ∧ Svs F G' (st.ow.set s ((unpk s sh x 0).2.map some)) w.heap (st.sl.set s ((unpk s sh x 0).1.headD .dead)) tmps ∧
      ∀ b, Own G' (st.ow.set s ((unpk s sh x 0).2.map some)) b ↔ Own G st.ow b ∨ b ∈ f1 := by
  have hn : newObs st.ow s (unpk s sh x 0).2 = some (st.ow.set s ((unpk s sh x 0).2.map some)) := by
    unfold newObs
    split
    · rename_i h
      rw [h]
      congr 1
      apply List.ext_getElem?
      intro i
      by_cases hi : s = i
      · subst hi
        rw [List.getElem?_set_self (List.getElem?_eq_some_iff.1 hem).1, hem]
        rfl
      · rw [List.getElem?_set_ne hi]
    · rw [hem]
  obtain ⟨G', h1, h2, h3, h4, _⟩ := state_new hh e hnd hF hn
  refine ⟨G', h1, ⟨by simp [hs.1], fun i i1 i2 => ?_⟩, h4⟩
  obtain ⟨u, hu, hsv⟩ := h2.single
  have hsv : Sv F G' (st.ow.set s ((unpk s sh x 0).2.map some)) w.heap ((unpk s sh x 0).1.headD .dead) v := by rw [hu]; exact hsv
  by_cases hi : s = i
  · subst hi
    rw [List.getElem_set_self]
    rw [List.getElem?_eq_getElem i2] at hv
    rw [Option.some.inj hv]
    exact hsv
  · rw [List.getElem_set_ne hi]
    exact h3 _ _ (hs.2 i (by simpa using i1) i2)

theorem empty_state (F : Nat → Prop) (w : World) (nt : Nat) {tmps : List Value} (hl : tmps.length = nt) :
    HRep F (fun _ _ => none) (List.replicate nt []) w.heap ∧ Svs F (fun _ _ => none) (List.replicate nt []) w.heap (List.replicate nt SV.dead) tmps ∧ ∀ b, ¬ Own (fun _ _ => none) (List.replicate nt []) b := by
  refine ⟨⟨fun d j o hn => ?_, fun d j d' j' b o o' _ _ hg _ => (by cases hg), fun b hb => ?_⟩, ⟨by simp [hl], fun i h1 h2 => by simp only [List.getElem_replicate]; exact .dead _⟩, fun b hb => ?_⟩
  · unfold nameOf at hn
    cases h : (List.replicate nt ([] : List (Option OB)))[d]? with
    | none => rw [h] at hn; cases hn
    | some l =>
      rw [h] at hn
      have : l = [] := by
        obtain ⟨h1, h2⟩ := List.getElem?_eq_some_iff.1 h
        simpa using h2.symm
      subst this
      simp at hn
  · obtain ⟨_, _, _, _, hg⟩ := own_iff.1 hb; cases hg
  · obtain ⟨_, _, _, _, hg⟩ := own_iff.1 hb; cases hg

theorem mkSt_sound {nt : Nat} {tmps : List Value} (hl : tmps.length = nt) {ok0 : Nat → Prop} : (l : List (Nat × Sh)) → okLive nt l = true → {F : Nat → Prop} → {x : (slotsSh l).T} → {fp : List Nat} →
    ShR w.heap ok0 (slotsSh l) x (l.map fun p => tmps.getD p.1 undef) fp → fp.Nodup → (∀ b ∈ fp, ¬ F b) → (∀ b, ok0 b → ¬ F b ∧ b ∉ fp) →
    ∃ G, HRep F G (mkSt nt l x).ow w.heap ∧ Svs F G (mkSt nt l x).ow w.heap (mkSt nt l x).sl tmps ∧ (∀ b, Own G (mkSt nt l x).ow b ↔ b ∈ fp) ∧ ∀ d, d < nt → d ∉ l.map (·.1) → (mkSt nt l x).ow[d]? = some []
  | [], _, F, x, fp, e, _, _, _ => by
    obtain ⟨h1, h2, h3⟩ := empty_state F w nt hl
    obtain ⟨_, rfl⟩ := e
    exact ⟨_, h1, h2, fun b => ⟨fun h => absurd h (h3 b), fun h => by simp at h⟩, fun d hd _ => by simp [mkSt, hd]⟩
  | (s, sh) :: r, hlv, F, x, fp, e, hnd, hF, hok => by
    simp only [okLive, Bool.and_eq_true, decide_eq_true_eq, Bool.not_eq_true'] at hlv
    obtain ⟨⟨hs, hsr⟩, hr⟩ := hlv
    obtain ⟨v, r', f1, f2, h1, rfl, e1, e2⟩ := e
    simp only [List.map_cons, List.cons.injEq] at h1
    obtain ⟨rfl, rfl⟩ := h1
    rw [List.nodup_append] at hnd
    obtain ⟨G, g1, g2, g3, g4⟩ := mkSt_sound hl r hr (F := FP F f1) (x := x.2) e2 hnd.2.1
      (fun b hb hx => by
        rcases hx with hx | hx
        · exact hF b (List.mem_append.2 (.inr hb)) hx
        · exact hnd.2.2 b hx b hb rfl)
      (fun b hb => by
        obtain ⟨a1, a2⟩ := hok b hb
        exact ⟨fun hx => by
          rcases hx with hx | hx
          · exact a1 hx
          · exact a2 (List.mem_append.2 (.inl hx)), fun hx => a2 (List.mem_append.2 (.inr hx))⟩)
    have hsr' : s ∉ r.map (·.1) := by simpa using hsr
    have hv : tmps[s]? = some (tmps.getD s undef) := by simp [List.getD, show s < tmps.length by omega]
    obtain ⟨G', q1, q2, q3⟩ := add_slot (st := mkSt nt r x.2) g1 g2 (ShR.mono (fun b rr hb hrr => ⟨⟨fun hx => by
      obtain ⟨a1, a2⟩ := hok b hb
      rcases hx with hx | hx
      · exact a1 hx
      · exact a2 (List.mem_append.2 (.inl hx)), fun hx => (hok b hb).2 (List.mem_append.2 (.inr ((g3 b).1 hx)))⟩, hrr⟩) sh (fun _ _ => rfl) e1) hnd.1 (fun b hb => hF b (List.mem_append.2 (.inl hb))) (g4 s hs hsr') hv
    refine ⟨G', q1, q2, fun b => ?_, fun d hd hdn => ?_⟩
    · rw [show Own G' (mkSt nt ((s, sh) :: r) x).ow b ↔ _ from q3 b, g3 b, List.mem_append]
      exact Or.comm
    · simp only [List.map_cons, List.mem_cons, not_or] at hdn
      show ((mkSt nt r x.2).ow.set s _)[d]? = some []
      rw [List.getElem?_set_ne (Ne.symm hdn.1)]
      exact g4 d hd hdn.2

theorem mkArg_sound {nt : Nat} {tmps : List Value} (hl : tmps.length = nt) {ok0 : Nat → Prop} : (s : Sh) → s.chain = true → (i : Nat) → i + s.len ≤ nt → {F : Nat → Prop} → {x : s.T} → {vs : List Value} → {fp : List Nat} →
    ShR w.heap ok0 s x vs fp → (∀ j, j < vs.length → tmps[i + j]? = vs[j]?) → fp.Nodup → (∀ b ∈ fp, ¬ F b) → (∀ b, ok0 b → ¬ F b ∧ b ∉ fp) →
    ∃ G, HRep F G (mkArg nt s x i).ow w.heap ∧ Svs F G (mkArg nt s x i).ow w.heap (mkArg nt s x i).sl tmps ∧ (∀ b, Own G (mkArg nt s x i).ow b ↔ b ∈ fp) ∧ ∀ d, d < i → d < nt → (mkArg nt s x i).ow[d]? = some []
  | .nil, _, i, _, F, x, vs, fp, e, _, _, _, _ => by
    obtain ⟨h1, h2, h3⟩ := empty_state F w nt hl
    obtain ⟨_, rfl⟩ := e
    exact ⟨_, h1, h2, fun b => ⟨fun h => absurd h (h3 b), fun h => by simp at h⟩, fun d _ hd => by simp [mkArg, hd]⟩
  | .cons sh b, hc, i, hi, F, x, vs, fp, e, hv, hnd, hF, hok => by
    obtain ⟨v, r', f1, f2, rfl, rfl, e1, e2⟩ := e
    simp only [Sh.len] at hi
    rw [List.nodup_append] at hnd
    obtain ⟨G, g1, g2, g3, g4⟩ := mkArg_sound hl b (by simpa [Sh.chain] using hc) (i + 1) (by omega) (F := FP F f1) (x := x.2) e2
      (fun j hj => by have := hv (j + 1) (by simpa using hj); rw [show i + (j + 1) = i + 1 + j by omega] at this; simpa using this) hnd.2.1
      (fun b hb hx => by
        rcases hx with hx | hx
        · exact hF b (List.mem_append.2 (.inr hb)) hx
        · exact hnd.2.2 b hx b hb rfl)
      (fun b hb => by
        obtain ⟨a1, a2⟩ := hok b hb
        exact ⟨fun hx => by
          rcases hx with hx | hx
          · exact a1 hx
          · exact a2 (List.mem_append.2 (.inl hx)), fun hx => a2 (List.mem_append.2 (.inr hx))⟩)
    have hv0 : tmps[i]? = some v := by have := hv 0 (by simp); simpa using this
    obtain ⟨G', q1, q2, q3⟩ := add_slot (st := mkArg nt b x.2 (i + 1)) g1 g2 (ShR.mono (fun b rr hb hrr => ⟨⟨fun hx => by
      obtain ⟨a1, a2⟩ := hok b hb
      rcases hx with hx | hx
      · exact a1 hx
      · exact a2 (List.mem_append.2 (.inl hx)), fun hx => (hok b hb).2 (List.mem_append.2 (.inr ((g3 b).1 hx)))⟩, hrr⟩) sh (fun _ _ => rfl) e1) hnd.1 (fun b hb => hF b (List.mem_append.2 (.inl hb))) (g4 i (by omega) (by omega)) hv0
    refine ⟨G', q1, q2, fun b' => ?_, fun d hd hdn => ?_⟩
    · rw [show Own G' (mkArg nt (.cons sh b) x i).ow b' ↔ _ from q3 b', g3 b', List.mem_append]
      exact Or.comm
    · show ((mkArg nt b x.2 (i + 1)).ow.set i _)[d]? = some []
      rw [List.getElem?_set_ne (by omega)]
      exact g4 d (by omega) hdn
  | .pur _, hc, _, _, _, _, _, _, _, _, _, _, _ => by simp [Sh.chain] at hc
  | .own _, hc, _, _, _, _, _, _, _, _, _, _, _ => by simp [Sh.chain] at hc
  | .row _, hc, _, _, _, _, _, _, _, _, _, _, _ => by simp [Sh.chain] at hc
  | .box _, hc, _, _, _, _, _, _, _, _, _, _, _ => by simp [Sh.chain] at hc
  | .agg _, hc, _, _, _, _, _, _, _, _, _, _, _ => by simp [Sh.chain] at hc
  | .fn _ _ _, hc, _, _, _, _, _, _, _, _, _, _, _ => by simp [Sh.chain] at hc
  | .ign, hc, _, _, _, _, _, _, _, _, _, _, _ => by simp [Sh.chain] at hc
  | .nl, hc, _, _, _, _, _, _, _, _, _, _, _ => by simp [Sh.chain] at hc

end

section
variable {F : Nat → Prop} {fp : List Nat} {L : List (Nat × Obj)} {w0 : World} {vs : List Value} {C : Ctx} {nt : Nat} {fr : Nat → Bool}

/-- At a loop's head. -/
theorem repack (hE : Env F fp L w0) {live : List (Nat × Sh)} (hlv : okLive nt live = true) {st : St} {a : Act} {w : World} (h : StI nt fr F fp w0 vs st a w) {y : (slotsSh live).T × OW} (e : pk (slotsSh live) (live.map fun p => opd st.sl (.tmp p.1)) st.ow = some y) :
    StI nt fr F fp w0 vs (mkSt nt live y.1) a w := by
  obtain ⟨G, hs, hh, hown⟩ := h.ex
  have hρ := opd_rho hs
  have hargs : Svs F G st.ow w.heap (live.map fun p => opd st.sl (.tmp p.1)) (live.map fun p => a.tmps.toList.getD p.1 undef) := by
    refine ⟨by simp, fun i h1 h2 => ?_⟩
    simp only [List.getElem_map]
    have := hρ (.tmp (live[i]'(by simpa using h1)).1)
    simpa [Act.eval] using this
  obtain ⟨f, hT, hO, hnd, hrep⟩ := pk_sound (slotsSh live) (x := y.1) (ow1 := y.2) (hE.wideAt h.kept) hh hargs e
  obtain ⟨G', g1, g2, g3, _⟩ := mkSt_sound (nt := nt) (tmps := a.tmps.toList) (by simpa using h.size) live hlv (F := F) hrep hnd (fun b hb => hh.notF b (hO.own hb)) (fun b hb => ⟨fun hx => hb.1 (.inl hx), fun hx => hb.1 (.inr hx)⟩)
  exact ⟨⟨G', g2, g1, fun b hb => hown b (hO.own ((g3 b).1 hb))⟩, h.kept, h.defers, h.args, h.size⟩

/-- What is left to do, as a postcondition. -/
def QK {α : Type} (nt : Nat) (fr : Nat → Bool) (F : Nat → Prop) (fp : List Nat) (w0 : World) (vs : List Value) (K : Ks α) (r : α) : Exit → Act → World → Prop
  | .normal, a, w => ∃ st, StI nt fr F fp w0 vs st a w ∧ K.normal st = some r
  | .exit i, a, w => ∃ st, StI nt fr F fp w0 vs st a w ∧ K.exit i st = some r
  | .ret, a, w => ∃ st, StI nt fr F fp w0 vs st a w ∧ K.ret st = some r
  | _, _, _ => False

theorem evLoop_sound {α : Type} (hE : Env F fp L w0) {P : Program} {live : List (Nat × Sh)} (hlv : okLive nt live = true) {c : Code} {K : Ks α} {r : α} {ev : St → (St → Option α) → Option α}
    (hbody : ∀ k st a w, ev st k = some r → StI nt fr F fp w0 vs st a w → c.wp P (QK nt fr F fp w0 vs { K with normal := k } r) a w) :
    (n : Nat) → {x : (slotsSh live).T} → {a : Act} → {w : World} → evLoop nt live ev n x = some r → StI nt fr F fp w0 vs (mkSt nt live x) a w → Code.rounds P c (QK nt fr F fp w0 vs K r) n a w
  | 0, _, _, _, e, _ => by cases e
  | n + 1, x, a, w, e, h => by
    rw [rounds_succ]
    refine wp_mono (hbody _ _ _ _ e h) fun ex a' w' hq => ?_
    cases ex with
    | normal =>
      obtain ⟨st, h1, h2⟩ := hq
      dsimp only at h2
      split at h2
      · rename_i y hy
        exact evLoop_sound hE hlv hbody n h2 (repack hE hlv h1 hy)
      · cases h2
    | exit i => exact hq
    | ret => exact hq
    | _ => exact hq.elim

end
end Go.Pev
