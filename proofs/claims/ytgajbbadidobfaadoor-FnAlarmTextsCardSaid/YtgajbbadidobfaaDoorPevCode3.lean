/-
  PEV, part 21: code and functions.
-/
import Derived.Test.YtgajbbadidobfaaDoorPevCode2
set_option linter.unusedVariables false
set_option linter.unusedSimpArgs false
namespace Go.Pev

section
variable {F : Nat → Prop} {fp : List Nat} {L : List (Nat × Obj)} {w0 : World} {vs : List Value} {C : Ctx} {nt : Nat} {fr : Nat → Bool}

/-! ### Regions joined -/

theorem joinLeaf_sound {G : Gh} {ow : OW} {w : World} {k : Kd} {s : SV} {v : Value} (hs : Sv F G ow w.heap s v) {x : k.T} (e : joinLeaf k s = some x) : Sv F G ow w.heap (.v k x) v := by
  unfold joinLeaf at e
  split at e
  · split at e
    · rename_i hk
      subst hk
      have e := Option.some.inj e
      subst e
      exact hs
    · cases e
  · split at e
    · cases e
      rw [hs.lb_inv]
      exact .bool _
    · cases e
  · split at e
    · cases e
      cases hs
      exact .v rfl ⟨none, 0, rfl, Nat.le_refl _, .inl rfl⟩
    · cases e
  · cases e

theorem keptSl_sound {G : Gh} {ow : OW} {w : World} {sl sl0 : List SV} {tmps : List Value} (hs : Svs F G ow w.heap sl tmps) (h0 : Svs F G ow w.heap sl0 tmps) : (l : List (Nat × Kd)) → {p : keptT l} → packKept l sl = some p → Svs F G ow w.heap (keptSl l p sl0) tmps
  | [], _, _ => h0
  | (d, k) :: r, p, e => by
    simp only [packKept] at e
    split at e
    · rename_i x hx
      split at e
      · rename_i y hy
        cases e
        have ih := keptSl_sound hs h0 r hy
        refine ⟨by simp [keptSl, ih.1], fun i h1 h2 => ?_⟩
        simp only [keptSl] at h1 ⊢
        by_cases hd : d = i
        · subst hd
          simp only [List.getElem_set_self]
          have hlt : d < sl.length := by rw [hs.1]; exact h2
          have e1 : opd sl (.tmp d) = sl[d] := by simp [opd, hlt]
          rw [e1] at hx
          exact joinLeaf_sound (hs.2 d hlt h2) hx
        · simp only [List.getElem_set_ne hd]
          exact ih.2 i (by simpa using h1) h2
      · cases e
    · cases e

theorem foldl_dead (ops : List Oper) : (sl : List SV) → (ops.foldl (fun sl o => setSl sl o.dst .dead) sl).length = sl.length ∧ ∀ d, (∃ o ∈ ops, o.dst = some d) ∧ (∀ (h : d < (ops.foldl (fun sl o => setSl sl o.dst .dead) sl).length), (ops.foldl (fun sl o => setSl sl o.dst .dead) sl)[d] = .dead) ∨
    (¬ ∃ o ∈ ops, o.dst = some d) ∧ (ops.foldl (fun sl o => setSl sl o.dst .dead) sl)[d]? = sl[d]? := by
  induction ops with
  | nil => intro sl; exact ⟨rfl, fun d => .inr ⟨by simp, rfl⟩⟩
  | cons o ops ih =>
    intro sl
    obtain ⟨h1, h2⟩ := ih (setSl sl o.dst .dead)
    have hlen : (setSl sl o.dst .dead).length = sl.length := by cases hd : o.dst <;> simp [setSl]
    refine ⟨by simp only [List.foldl_cons]; rw [h1, hlen], fun d => ?_⟩
    simp only [List.foldl_cons]
    rcases h2 d with ⟨⟨o', ho', hd'⟩, h3⟩ | ⟨hn, h3⟩
    · exact .inl ⟨⟨o', by simp [ho'], hd'⟩, h3⟩
    · by_cases hd : o.dst = some d
      · refine .inl ⟨⟨o, by simp, hd⟩, fun h => ?_⟩
        have : (ops.foldl (fun sl o => setSl sl o.dst .dead) (setSl sl o.dst .dead))[d]? = some .dead := by
          rw [h3, hd]
          simp only [setSl]
          rw [List.getElem?_set_self (by rw [h1, hlen] at h; exact h)]
        rw [List.getElem?_eq_getElem h] at this
        exact Option.some.inj this
      · refine .inr ⟨?_, ?_⟩
        · rintro ⟨o', ho', hd'⟩
          rcases List.mem_cons.1 ho' with rfl | ho'
          · exact hd hd'
          · exact hn ⟨o', ho', hd'⟩
        · rw [h3]
          cases hx : o.dst with
          | none => rfl
          | some x =>
            simp only [setSl]
            rw [List.getElem?_set_ne (fun e => hd (by rw [hx, e]))]

/-- The slots behind a joined region. -/
theorem joined_state {ops : Array Oper} {st : St} {sl' : List SV} {a' : Act} {w' : World} (h : StI nt fr F fp w0 vs ⟨sl', st.ow⟩ a' w') (hag : ∀ d, ¬ (∃ o ∈ ops.toList, o.dst = some d) → sl'[d]? = st.sl[d]?) (hlen : st.sl.length = nt) {kept : List (Nat × Kd)} {p : keptT kept} (e : packKept kept sl' = some p) :
    StI nt fr F fp w0 vs ⟨keptSl kept p (ops.toList.foldl (fun sl o => setSl sl o.dst .dead) st.sl), st.ow⟩ a' w' := by
  obtain ⟨G, hs, hh, hown⟩ := h.ex
  obtain ⟨f1, f2⟩ := foldl_dead ops.toList st.sl
  have h0 : Svs F G st.ow w'.heap (ops.toList.foldl (fun sl o => setSl sl o.dst .dead) st.sl) a'.tmps.toList := by
    refine ⟨by rw [f1, hlen]; simp [h.size], fun i h1 h2 => ?_⟩
    rcases f2 i with ⟨_, h3⟩ | ⟨hn, h3⟩
    · rw [h3 h1]; exact .dead _
    · have h4 : i < sl'.length := by rw [hs.1]; exact h2
      rw [← hag i hn, List.getElem?_eq_getElem h1, List.getElem?_eq_getElem h4] at h3
      rw [Option.some.inj h3]
      exact hs.2 i h4 h2
  exact ⟨⟨G, keptSl_sound hs h0 kept e, hh, hown⟩, h.kept, h.defers, h.args, h.size⟩

theorem StI.len {st : St} {a : Act} {w : World} (h : StI nt fr F fp w0 vs st a w) : st.sl.length = nt := by
  obtain ⟨G, hs, _⟩ := h.ex
  rw [hs.1]; simpa using h.size

/-! ### Code -/

/-- Regions whose order is drawn. -/
def DrawSoundJ (C : Ctx) (L : List (Nat × Obj)) : Prop :=
  ∀ {α : Type} {nt : Nat} {fr : Nat → Bool} {F : Nat → Prop} {fp : List Nat} {w0 : World} {vs : List Value} {id : Nat} {ops : Array Oper} {st : St} {a : Act} {w : World} {k : List SV → Option α} {r : α}, Env F fp L w0 →
    (ops.toList.all fun o => match o.dst with | some d => fr d | none => true) = true → StI nt fr F fp w0 vs st a w → anyOk ops (apartSAt ops) = true →
    evJsA C ops st.ow ops.toList.zipIdx st.sl k = some r → ∀ Q : Exit → Act → World → Prop,
    (∀ sl' a' w', k sl' = some r → StI nt fr F fp w0 vs ⟨sl', st.ow⟩ a' w' → (∀ d, ¬ (∃ o ∈ ops.toList, o.dst = some d) → sl'[d]? = st.sl[d]?) → Q .normal a' w') → (Code.region id ops true).wp C.P Q a w

def DrawSoundM (C : Ctx) (L : List (Nat × Obj)) : Prop :=
  ∀ {α : Type} {nt : Nat} {fr : Nat → Bool} {F : Nat → Prop} {fp : List Nat} {w0 : World} {vs : List Value} {id : Nat} {ops : Array Oper} {ks : List (List Nat × Bool)} {st : St} {a : Act} {w : World} {k : St → Option α} {r : α}, Env F fp L w0 →
    (ops.toList.all fun o => match o.dst with | some d => fr d | none => true) = true → StI nt fr F fp w0 vs st a w → anyOk ops (apartM ops ks) = true →
    evOpsM C ops ks ops.toList.zipIdx st k = some r → ∀ Q : Exit → Act → World → Prop,
    (∀ st' a' w', k st' = some r → StI nt fr F fp w0 vs st' a' w' → Q .normal a' w') → (Code.region id ops true).wp C.P Q a w

def DrawSound (C : Ctx) (L : List (Nat × Obj)) : Prop := DrawSoundJ C L ∧ DrawSoundM C L

theorem evCode_sound {α : Type} (hC : C.Holds L) (hD : DrawSound C L) (hE : Env F fp L w0) (ann : Ann) : (c : Code) → dstOk fr c = true → {bid : Nat} → {K : Ks α} → {r : α} → {st : St} → {a : Act} → {w : World} →
    evCode C ann nt c bid st K = some r → StI nt fr F fp w0 vs st a w → c.wp C.P (QK nt fr F fp w0 vs K r) a w
  | .skip, _, _, K, r, st, a, w, e, h => wp_skip ⟨st, h, by simpa [evCode] using e⟩
  | .exit id, _, _, K, r, st, a, w, e, h => wp_exit ⟨st, h, by simpa [evCode] using e⟩
  | .ret, _, _, K, r, st, a, w, e, h => wp_ret ⟨st, h, by simpa [evCode] using e⟩
  | .seq x y, hd, bid, K, r, st, a, w, e, h => by
    simp only [dstOk, Bool.and_eq_true] at hd
    simp only [evCode] at e
    refine wp_seq (wp_mono (evCode_sound hC hD hE ann x hd.1 e h) fun ex a' w' hq => ?_)
    cases ex with
    | normal => obtain ⟨st', h1, h2⟩ := hq; exact evCode_sound hC hD hE ann y hd.2 h2 h1
    | exit i => exact hq
    | ret => exact hq
    | _ => exact hq.elim
  | .cond o x y, hd, bid, K, r, st, a, w, e, h => by
    simp only [dstOk, Bool.and_eq_true] at hd
    simp only [evCode] at e
    obtain ⟨G, hs, hh, hown⟩ := h.ex
    have hρ := opd_rho hs o
    split at e
    · rename_i t ht
      rw [ht] at hρ
      refine wp_cond hρ.lb_inv ?_
      cases t with
      | true => exact evCode_sound hC hD hE ann x hd.1 e h
      | false => exact evCode_sound hC hD hE ann y hd.2 e h
    · rename_i t ht
      rw [ht] at hρ
      refine wp_cond hρ.bool_inv ?_
      rw [br_eq] at e
      cases t with
      | true => exact evCode_sound hC hD hE ann x hd.1 e h
      | false => exact evCode_sound hC hD hE ann y hd.2 e h
    · cases e
  | .block id x, hd, bid, K, r, st, a, w, e, h => by
    simp only [dstOk] at hd
    simp only [evCode] at e
    refine wp_block (wp_mono (evCode_sound hC hD hE ann x hd e h) fun ex a' w' hq => ?_)
    cases ex with
    | normal => exact hq
    | exit i =>
      obtain ⟨st', h1, h2⟩ := hq
      by_cases hi : i = id
      · subst hi
        simp only [beq_self_eq_true, if_true] at h2
        simp only [Exit.inBlock, if_true]
        exact ⟨st', h1, h2⟩
      · have hb : (i == id) = false := by simpa using hi
        simp only [hb, Bool.false_eq_true, if_false] at h2
        simp only [Exit.inBlock, hi, if_false]
        exact ⟨st', h1, h2⟩
    | ret => exact hq
    | _ => exact hq.elim
  | .loop x, hd, bid, K, r, st, a, w, e, h => by
    simp only [dstOk] at hd
    simp only [evCode] at e
    split at e
    · cases e
    · rename_i id live _
      split at e
      · rename_i hlv
        split at e
        · rename_i y hy
          exact wp_loop_rounds C.fuel (evLoop_sound hE hlv (fun k st a w e h => evCode_sound hC hD hE ann x hd e h) C.fuel e (repack hE hlv h hy))
        · cases e
      · cases e
  | .region id ops draw, hd, bid, K, r, st, a, w, e, h => by
    simp only [dstOk] at hd
    obtain ⟨hl, hr⟩ := region_list ops hd
    simp only [evCode] at e
    split at e
    · rename_i id' kept _
      have fin : ∀ p, K.normal ⟨keptSl kept p (ops.toList.foldl (fun sl o => setSl sl o.dst .dead) st.sl), st.ow⟩ = some r → ∀ sl' a' w', packKept kept sl' = some p → StI nt fr F fp w0 vs ⟨sl', st.ow⟩ a' w' → (∀ d, ¬ (∃ o ∈ ops.toList, o.dst = some d) → sl'[d]? = st.sl[d]?) → QK nt fr F fp w0 vs K r .normal a' w' :=
        fun p e sl' a' w' h1 h2 h3 => ⟨_, joined_state h2 h3 h.len h1, e⟩
      cases draw with
      | true =>
        simp only [if_true] at e
        split at e
        · rename_i hdr
          rw [Option.bind_eq_some_iff] at e
          obtain ⟨p, hp, e⟩ := e
          exact hD.1 hE hd h hdr hp _ (fin p e)
        · cases e
      | false =>
        simp only [Bool.false_eq_true, if_false] at e
        rw [Option.bind_eq_some_iff] at e
        obtain ⟨p, hp, e⟩ := e
        refine wp_region ?_
        rw [← hr]
        refine evJs_sound (D := fun d => ∃ o ∈ ops.toList, o.dst = some d) (sl0 := st.sl) hC hE (fin p e) ops.toList.zipIdx (fun q hq => ⟨(hl q hq).1, fun d hx => ⟨(hl q hq).2 d hx, ?_⟩⟩) h (fun _ _ => rfl) hp
        have := List.mem_zipIdx' hq
        exact ⟨q.1, by rw [this.2]; exact List.getElem_mem _, hx⟩
    · cases draw with
      | true =>
        simp only [if_true] at e
        split at e
        · split at e
          · rename_i hdr
            exact hD.2 hE hd h hdr e _ fun st' a' w' h1 h2 => ⟨st', h2, h1⟩
          · cases e
        · split at e
          · rename_i hdr
            exact hD.1 hE hd h hdr e _ fun sl' a' w' h1 h2 _ => ⟨_, h2, h1⟩
          · cases e
      | false =>
        simp only [Bool.false_eq_true, if_false] at e
        refine wp_region ?_
        rw [← hr]
        exact evOps_sound hC hE (fun st' a' w' h1 h2 => ⟨st', h2, h1⟩) _ hl h e
  | .label _, _, _, _, _, _, _, _, e, _ => by simp [evCode] at e
  | .goto _, _, _, _, _, _, _, _, e, _ => by simp [evCode] at e
  | .scope _, _, _, _, _, _, _, _, e, _ => by simp [evCode] at e
  | .rangeFunc _ _ _ _, _, _, _, _, _, _, _, e, _ => by simp [evCode] at e

/-! ### Functions -/

theorem outp_sound {w : World} {G : Gh} : (s : Sh) → {F : Nat → Prop} → {ow ow1 : OW} → (∀ b, F b → b < w.heap.size) → HRep F G ow w.heap → {svs : List SV} → {us : List Value} → Svs F G ow w.heap svs us → {x : s.Out} → outp s svs ow = some (x, ow1) →
    ∃ f, Taken ow ow1 ∧ FpOk G ow ow1 f ∧ f.Nodup ∧ OutR w.heap (okF (FP F f) G ow1) s x us f
  | .row k, F, ow, ow1, hF, hh, svs, us, hs, x, e => pk_sound (.row k) hF hh hs e
  | .box l, F, ow, ow1, hF, hh, svs, us, hs, x, e => pk_sound (.box l) hF hh hs e
  | .pur _, F, ow, ow1, hF, hh, svs, us, hs, x, e => by
    match svs, hs, e with
    | [], _, e => simp [outp] at e
    | [s], hs, e =>
      simp only [outp, Option.some.injEq, Prod.mk.injEq] at e
      obtain ⟨v, rfl, hv⟩ := hs.single'
      rw [← e.2]
      exact ⟨[], .refl _, .refl _ _, List.nodup_nil, ⟨v, rfl⟩, rfl⟩
    | _ :: _ :: _, _, e => simp [outp] at e
  | .own _, F, ow, ow1, hF, hh, svs, us, hs, x, e => by
    match svs, hs, e with
    | [], _, e => simp [outp] at e
    | [s], hs, e =>
      simp only [outp, Option.some.injEq, Prod.mk.injEq] at e
      obtain ⟨v, rfl, hv⟩ := hs.single'
      rw [← e.2]
      exact ⟨[], .refl _, .refl _ _, List.nodup_nil, ⟨v, rfl⟩, rfl⟩
    | _ :: _ :: _, _, e => simp [outp] at e
  | .ign, F, ow, ow1, hF, hh, svs, us, hs, x, e => by
    match svs, hs, e with
    | [], _, e => simp [outp] at e
    | [s], hs, e =>
      simp only [outp, Option.some.injEq, Prod.mk.injEq] at e
      obtain ⟨v, rfl, hv⟩ := hs.single'
      rw [← e.2]
      exact ⟨[], .refl _, .refl _ _, List.nodup_nil, ⟨v, rfl⟩, rfl⟩
    | _ :: _ :: _, _, e => simp [outp] at e
  | .nl, F, ow, ow1, hF, hh, svs, us, hs, x, e => by
    match svs, hs, e with
    | [], _, e => simp [outp] at e
    | [s], hs, e =>
      simp only [outp, Option.some.injEq, Prod.mk.injEq] at e
      obtain ⟨v, rfl, hv⟩ := hs.single'
      rw [← e.2]
      exact ⟨[], .refl _, .refl _ _, List.nodup_nil, ⟨v, rfl⟩, rfl⟩
    | _ :: _ :: _, _, e => simp [outp] at e
  | .nil, F, ow, ow1, hF, hh, svs, us, hs, x, e => by
    match svs, hs, e with
    | [], hs, e =>
      simp only [outp, Option.some.injEq, Prod.mk.injEq] at e
      have : us = [] := List.eq_nil_of_length_eq_zero hs.1.symm
      subst this
      rw [← e.2]
      exact ⟨[], .refl _, .refl _ _, List.nodup_nil, rfl, rfl⟩
    | _ :: _, _, e => simp [outp] at e
  | .agg l, F, ow, ow1, hF, hh, svs, us, hs, x, e => by
    match svs, hs, e with
    | [], _, e => simp [outp] at e
    | [s], hs, e =>
      obtain ⟨v, rfl, hv⟩ := hs.single'
      cases s with
      | agg cs =>
        simp only [outp] at e
        obtain ⟨zs, rfl, hzs⟩ := hv.agg_inv
        obtain ⟨f, h1, h2, h3, h4⟩ := outp_sound l hF hh hzs e
        exact ⟨f, h1, h2, h3, zs, rfl, h4⟩
      | _ => simp [outp] at e
    | _ :: _ :: _, _, e => simp [outp] at e
  | .fn f n l, F, ow, ow1, hF, hh, svs, us, hs, x, e => by
    match svs, hs, e with
    | [], _, e => simp [outp] at e
    | [s], hs, e =>
      obtain ⟨v, rfl, hv⟩ := hs.single'
      cases s with
      | fn g a b =>
        simp only [outp] at e
        split at e
        · rename_i hc
          obtain ⟨rfl, hn⟩ := hc
          obtain ⟨xs, ys, rfl, hx, hy⟩ := hv.fn_inv
          obtain ⟨f', h1, h2, h3, h4⟩ := outp_sound l hF hh (hx.append hy) e
          exact ⟨f', h1, h2, h3, xs, ys, rfl, by rw [← hx.1, hn], h4⟩
        · cases e
      | _ => simp [outp] at e
    | _ :: _ :: _, _, e => simp [outp] at e
  | .cons a b, F, ow, ow1, hF, hh, svs, us, hs, x, e => by
    match svs, hs, e with
    | [], _, e => simp [outp] at e
    | s :: r, hs, e =>
      simp only [outp] at e
      split at e
      · rename_i y hy
        split at e
        · rename_i z hz
          cases e
          obtain ⟨v, vs', rfl, hv, hvs⟩ := hs.uncons
          obtain ⟨f1, t1, o1, n1, r1⟩ := outp_sound a (x := y.1) (ow1 := y.2) hF hh (.cons hv .nil) hy
          obtain ⟨hh1, hsv1⟩ := taken_state hh t1 o1
          have hF1 : ∀ b', FP F f1 b' → b' < w.heap.size := by
            intro b' hb'
            rcases hb' with hb' | hb'
            · exact hF b' hb'
            · exact Own.lt hh (o1.own hb')
          obtain ⟨f2, t2, o2, n2, r2⟩ := outp_sound b (x := z.1) (ow1 := z.2) hF1 hh1 ⟨hvs.1, fun i h1 h2 => hsv1 _ _ (hvs.2 i h1 h2)⟩ hz
          refine ⟨f1 ++ f2, t1.trans t2, fun x => ?_, List.nodup_append.2 ⟨n1, n2, fun x hx y hy hxy => ?_⟩, v, vs', f1, f2, rfl, rfl, ?_, ?_⟩
          · rw [TkB.trans t1 t2, ← o1 x, ← o2 x, List.mem_append]
          · subst hxy
            exact o1.notOwn hh t1 hx (o2.own hy)
          · exact OutR.mono (fun b' r' hb' hr' => ⟨okF_congr (fun b'' hx => fp_app.2 hx) (taken_ok t2 o2 hb'), hr'⟩) a (fun _ _ => rfl) r1
          · exact OutR.mono (fun b' r' hb' hr' => ⟨okF_congr (fun b'' hx => fp_app.2 hx) hb', hr'⟩) b (fun _ _ => rfl) r2
        · cases e
      · cases e

theorem resSV_sound {P : Program} {G : Gh} {st : St} {a : Act} {w : World} (hh : HRep F G st.ow w.heap) (hs : Svs F G st.ow w.heap st.sl a.tmps.toList) : (l : List ResultVar) → {Q : List SV → Prop} → (resSV P st l).can Q →
    ∃ ss us, Q ss ∧ (l.mapM fun | .tmp t => pure (a.tmps.getD t undef) | .cell b t => do loadVar t (← asAddr (a.tmps.getD b undef)) : Sem (List Value)).run P w = .ok us w ∧ Svs F G st.ow w.heap ss us
  | [], Q, h => ⟨[], [], h, rfl, .nil⟩
  | .tmp t :: r, Q, h => by
    have h := Cmd.can_bind _ h
    obtain ⟨ss, us, hq, hr, hsv⟩ := resSV_sound hh hs r h
    have hv := opd_rho hs (.tmp t)
    refine ⟨opd st.sl (.tmp t) :: ss, a.tmps.getD t undef :: us, hq, ?_, .cons hv hsv⟩
    simp only [List.mapM_cons, Sem.run_bind, Sem.run_pure, Result.andThen_ok, hr]
  | .cell b t :: r, Q, h => by
    have h := Cmd.can_bind _ h
    obtain ⟨s, v, hq, hr, hsv⟩ := evLoad_sound hh (opd_rho hs (.tmp b)) h
    have h := Cmd.can_bind _ hq
    obtain ⟨ss, us, hq, hr2, hsv2⟩ := resSV_sound hh hs r h
    refine ⟨s :: ss, v :: us, hq, ?_, .cons hsv hsv2⟩
    have hl : (do loadVar t (← asAddr (a.tmps.getD b undef)) : Sem Value).run P w = .ok v w := by
      have hr : (Instr.loadAt t (a.tmps.getD b undef)).run P w = .ok v w := hr
      generalize a.tmps.getD b undef = z at hr
      cases z with
      | pointer o =>
        cases o with
        | none => simp [Instr.loadAt, Instr.sureAddr, stuck] at hr
        | some ad => simpa [Instr.loadAt, Instr.sureAddr, asAddr] using hr
      | _ => simp [Instr.loadAt, Instr.sureAddr, stuck] at hr
    simp only [List.mapM_cons, Sem.run_bind, Result.andThen_ok, Sem.run_pure] at hl ⊢
    rw [hl]
    simp only [Result.andThen_ok, hr2]

theorem shR_len {h : Array Obj} {ok : Nat → Prop} : (s : Sh) → s.chain = true → {x : s.T} → {us : List Value} → {f : List Nat} → ShR h ok s x us f → us.length = s.len
  | .nil, _, _, _, _, e => by obtain ⟨rfl, _⟩ := e; rfl
  | .cons _ b, hc, _, _, _, e => by
    obtain ⟨v, r, f1, f2, rfl, _, _, e2⟩ := e
    simp [Sh.len, shR_len b (by simpa [Sh.chain] using hc) e2]
  | .pur _, hc, _, _, _, _ => by simp [Sh.chain] at hc
  | .own _, hc, _, _, _, _ => by simp [Sh.chain] at hc
  | .row _, hc, _, _, _, _ => by simp [Sh.chain] at hc
  | .box _, hc, _, _, _, _ => by simp [Sh.chain] at hc
  | .agg _, hc, _, _, _, _ => by simp [Sh.chain] at hc
  | .fn _ _ _, hc, _, _, _, _ => by simp [Sh.chain] at hc
  | .ign, hc, _, _, _, _ => by simp [Sh.chain] at hc
  | .nl, hc, _, _, _, _ => by simp [Sh.chain] at hc

/-- A function's end. -/
theorem outR_swap {h : Array Obj} {ok : Nat → Prop} : (s : Sh) → s.chain = true → {y : s.Out} → {us vs : List Value} → {f : List Nat} → us.length = vs.length → (∀ i, i < vs.length → freeArg s i = false → us[i]? = vs[i]?) → OutR h ok s y us f → OutR h ok s y vs f
  | .nil, _, _, us, vs, f, hl, _, e => by
    obtain ⟨rfl, rfl⟩ := e
    exact ⟨List.eq_nil_of_length_eq_zero hl.symm, rfl⟩
  | .cons a b, hc, y, us, vs, f, hl, hag, e => by
    obtain ⟨v, r, f1, f2, rfl, rfl, e1, e2⟩ := e
    cases vs with
    | nil => simp at hl
    | cons v' r' =>
      refine ⟨v', r', f1, f2, rfl, rfl, ?_, outR_swap b (by simpa [Sh.chain] using hc) (by simpa using hl) (fun i hi hf => ?_) e2⟩
      · cases hn : noOut a with
        | false =>
          have := hag 0 (by simp) (by simpa [freeArg] using hn)
          simp only [List.getElem?_cons_zero, Option.some.injEq] at this
          rw [← this]; exact e1
        | true =>
          cases a with
          | pur _ => exact ⟨⟨v', rfl⟩, e1.2⟩
          | own _ => exact ⟨⟨v', rfl⟩, e1.2⟩
          | ign => exact ⟨⟨v', rfl⟩, e1.2⟩
          | nl => exact ⟨⟨v', rfl⟩, e1.2⟩
          | _ => cases hn
      · have := hag (i + 1) (by simpa using hi) (by simpa [freeArg] using hf)
        simpa using this
  | .pur _, hc, _, _, _, _, _, _, _ => by simp [Sh.chain] at hc
  | .own _, hc, _, _, _, _, _, _, _ => by simp [Sh.chain] at hc
  | .row _, hc, _, _, _, _, _, _, _ => by simp [Sh.chain] at hc
  | .box _, hc, _, _, _, _, _, _, _ => by simp [Sh.chain] at hc
  | .agg _, hc, _, _, _, _, _, _, _ => by simp [Sh.chain] at hc
  | .fn _ _ _, hc, _, _, _, _, _, _, _ => by simp [Sh.chain] at hc
  | .ign, hc, _, _, _, _, _, _, _ => by simp [Sh.chain] at hc
  | .nl, hc, _, _, _, _, _, _, _ => by simp [Sh.chain] at hc

theorem evFin_sound (hE : Env F fp L w0) {fn : Func} {args res : Sh} (hch : args.chain = true) (hfr : fr = freeArg args) (hlen : vs.length = args.len) (hnt : args.len ≤ nt) {st : St} {a : Act} {w : World} (h : StI nt fr F fp w0 vs st a w) {y : res.T × args.Out} (e : evFin C fn args res st = some y) :
    a.defers = [] ∧ ∃ v, (results fn a.tmps).run C.P w = .ok v w ∧ ∃ rs fp1 fp2, v = retV rs ∧ ShR w.heap (fun b => ¬ FP F (fp1 ++ fp2) b) res y.1 rs fp1 ∧ OutR w.heap (fun b => ¬ FP F (fp1 ++ fp2) b) args y.2 vs fp2 ∧
      (fp1 ++ fp2).Nodup ∧ (∀ b ∈ fp1 ++ fp2, b ∈ fp ∨ w0.heap.size ≤ b) ∧ Kept (· ∈ fp) w0 w := by
  refine ⟨h.defers, ?_⟩
  obtain ⟨G, hs, hh, hown⟩ := h.ex
  obtain ⟨ss, us, hq, hr, hsv⟩ := resSV_sound hh hs _ (Cmd.can_of_run _ e)
  split at hq
  · rename_i x hx
    split at hq
    · rename_i z hz
      cases hq
      have hF := hE.wideAt h.kept
      obtain ⟨f1, t1, o1, n1, r1⟩ := pk_sound res (x := x.1) (ow1 := x.2) hF hh hsv hx
      obtain ⟨hh1, hsv1⟩ := taken_state hh t1 o1
      have hF1 : ∀ b', FP F f1 b' → b' < w.heap.size := by
        intro b' hb'
        rcases hb' with hb' | hb'
        · exact hF b' hb'
        · exact Own.lt hh (o1.own hb')
      have hn : st.sl.length = nt := h.len
      have hargs : Svs (FP F f1) G x.2 w.heap (st.sl.take args.len) (a.tmps.toList.take args.len) := by
        refine ⟨by simp [hs.1], fun i h1 h2 => ?_⟩
        simp only [List.getElem_take]
        have h3 : i < st.sl.length := by simp at h1; omega
        have h4 : i < a.tmps.toList.length := by rw [← hs.1]; exact h3
        exact hsv1 _ _ (hs.2 i h3 h4)
      have hsame : ∀ i, i < vs.length → freeArg args i = false → (a.tmps.toList.take args.len)[i]? = vs[i]? := fun i hi hf => by
        rw [← h.args i hi (by rw [hfr]; exact hf), List.getElem?_take, if_pos (by omega), Array.getElem?_toList]
      obtain ⟨f2, t2, o2, n2, r2⟩ := outp_sound args (x := z.1) (ow1 := z.2) hF1 hh1 hargs hz
      have hres : (results fn a.tmps).run C.P w = .ok (retV us) w := by
        unfold results
        have e1 : (fn.results.mapM fun | .tmp t => pure (a.tmps.getD t undef) | .cell b t => do loadVar t (← asAddr (a.tmps.getD b undef)) : Sem (Array Value)).run C.P w = .ok us.toArray w := by
          rw [Array.mapM_eq_mapM_toList, Sem.run_map, hr]
          rfl
        rw [Sem.run_bind]
        refine (congrArg (fun q => Result.andThen q _) (show _ = Result.ok us.toArray w from e1)).trans ?_
        simp only [Result.andThen_ok, Sem.run_pure]
        congr 1
        match us with
        | [] => rfl
        | [u] => rfl
        | u :: u' :: us' => simp [retV]
      refine ⟨_, hres, us, f1, f2, rfl, ?_, ?_, ?_, ?_, h.kept⟩
      · refine ShR.mono (fun b r hb hr => ⟨fun hx => ?_, hr⟩) _ (fun _ _ => rfl) r1
        rcases hx with hx | hx
        · exact hb.1 (.inl hx)
        · rcases List.mem_append.1 hx with hx | hx
          · exact hb.1 (.inr hx)
          · exact hb.2 (o2.own hx)
      · refine OutR.mono (fun b r hb hr => ⟨fun hx => hb.1 (fp_app.2 hx), hr⟩) _ (fun _ _ => rfl) (outR_swap args hch (by simp [hlen, ← hs.1, hn, hnt]) hsame r2)
      · exact List.nodup_append.2 ⟨n1, n2, fun q hq q' hq' he => by subst he; exact o1.notOwn hh t1 hq (o2.own hq')⟩
      · intro b hb
        rcases List.mem_append.1 hb with hb | hb
        · exact hown b (o1.own hb)
        · exact hown b (t1.own (o2.own hb))
    · cases hq
  · cases hq

/-- THE THEOREM: what the evaluator gives is the function's contract. -/
theorem evFunc_sound (hC : C.Holds L) (hD : DrawSound C L) {f : FuncId} {fn : Func} (hf : C.P.funcs[f]? = some fn) (hname : (fn.name == "runtime.NumGoroutine") = false) (ann : Ann) (args res : Sh) {den : args.T → Option (res.T × args.Out)}
    (hden : ∀ x y, den x = some y → evFunc C ann fn args res x = some y) (hbody : fn.body.isNone = false) : SigHolds C.P L f ⟨args, res, den⟩ := by
  refine ⟨⟨fn, hf, hname, hbody⟩, fun w F x vs fp y hF hL hnd hfp hsh hy => ?_⟩
  have hy := hden x y hy
  unfold evFunc at hy
  split at hy
  · cases hy
  rename_i c hb
  split at hy
  · rename_i hc
    simp only [Bool.and_eq_true, decide_eq_true_eq] at hc
    obtain ⟨⟨hch, hnt⟩, hd⟩ := hc
    have hlen : vs.length = args.len := shR_len args hch hsh
    have hE : Env F fp L w := ⟨hF, hL, hfp⟩
    refine calls_of_wp hf hb ?_
    have hsize : (vs.toArray ++ Array.replicate (fn.ntmps - vs.toArray.size) undef).size = fn.ntmps := by simp; omega
    have hargs : ∀ i, i < vs.length → (vs.toArray ++ Array.replicate (fn.ntmps - vs.toArray.size) undef)[i]? = vs[i]? := by
      intro i hi
      rw [Array.getElem?_append_left (by simpa using hi)]
      simp
    obtain ⟨G, g1, g2, g3, _⟩ := mkArg_sound (nt := fn.ntmps) (tmps := (vs.toArray ++ Array.replicate (fn.ntmps - vs.toArray.size) undef).toList) (by rw [Array.length_toList, hsize]) args hch 0 (by omega) (F := F) hsh
      (fun j hj => by rw [Nat.zero_add, Array.getElem?_toList]; exact hargs j hj) hnd hfp (fun b hb => ⟨fun hx => hb (.inl hx), fun hx => hb (.inr hx)⟩)
    have hI : StI fn.ntmps (freeArg args) F fp w vs (mkArg fn.ntmps args x 0) { tmps := vs.toArray ++ Array.replicate (fn.ntmps - vs.toArray.size) undef, defers := [] } w :=
      ⟨⟨G, g2, g1, fun b hb => .inl ((g3 b).1 hb)⟩, .refl _ _, rfl, fun i hi _ => hargs i hi, hsize⟩
    refine wp_mono (evCode_sound hC hD hE ann c hd hy hI) fun ex a' w' hq => ?_
    cases ex with
    | normal =>
      obtain ⟨st, h1, h2⟩ := hq
      obtain ⟨q1, v, q2, rs, fp1, fp2, rfl, q3⟩ := evFin_sound hE hch rfl hlen hnt h1 h2
      exact ⟨q1, _, q2, rs, fp1, fp2, rfl, q3⟩
    | ret =>
      obtain ⟨st, h1, h2⟩ := hq
      obtain ⟨q1, v, q2, rs, fp1, fp2, rfl, q3⟩ := evFin_sound hE hch rfl hlen hnt h1 h2
      exact ⟨q1, _, q2, rs, fp1, fp2, rfl, q3⟩
    | exit i => obtain ⟨st, h1, h2⟩ := hq; cases h2
    | _ => exact hq.elim
  · cases hy

end
end Go.Pev
