/-
  PEV, part 15: packing and unpacking.
-/
import Derived.Test.YtgajbbadidobfaaDoorPevSh
namespace Go.Pev

section
variable {F : Nat → Prop} {G : Gh} {ow ow1 ow2 : OW} {w : World}

theorem fp_nil {b : Nat} : FP F [] b ↔ F b := by simp [FP]

theorem okF_nil {b : Nat} (h : okF F G ow b) : okF (FP F []) G ow b := ⟨fun hx => h.1 (fp_nil.1 hx), h.2⟩

theorem fp_app {f1 f2 : List Nat} {b : Nat} : FP (FP F f1) f2 b ↔ FP F (f1 ++ f2) b := by simp [FP, or_assoc]

theorem fp_cons {c : Nat} {f2 : List Nat} {b : Nat} : FP (FP F [c]) f2 b ↔ FP F (c :: f2) b := by simp [FP, or_assoc]

theorem okF_congr {F' : Nat → Prop} (hF : ∀ b, F' b → F b) {b : Nat} (h : okF F G ow b) : okF F' G ow b := ⟨fun hx => h.1 (hF b hx), h.2⟩

theorem Sv.fn_inv {f : Fn} {a b : List SV} {v : Value} (h : Sv F G ow w.heap (.fn f a b) v) : ∃ xs ys, v = .func f xs.toArray ys.toArray ∧ Svs F G ow w.heap a xs ∧ Svs F G ow w.heap b ys := by
  cases h with
  | fn h1 h2 h3 h4 => exact ⟨_, _, rfl, ⟨h1, h3⟩, ⟨h2, h4⟩⟩

theorem Svs.single {l : List SV} {v : Value} (h : Svs F G ow w.heap l [v]) : ∃ s, l = [s] ∧ Sv F G ow w.heap s v := by
  obtain ⟨hl, h⟩ := h
  match l, hl, h with
  | [s], _, h => exact ⟨s, rfl, h 0 (by simp) (by simp)⟩

theorem Svs.single' {s : SV} {vs : List Value} (h : Svs F G ow w.heap [s] vs) : ∃ v, vs = [v] ∧ Sv F G ow w.heap s v := by
  obtain ⟨v, vs', rfl, h1, h2⟩ := h.uncons
  have : vs' = [] := List.eq_nil_of_length_eq_zero h2.1.symm
  subst this
  exact ⟨v, rfl, h1⟩

theorem takeRow_some {k : Kd} {s : SV} {l : List k.T} (e : takeRow k s ow = some (l, ow1)) :
    ∃ d j r, keyOf s = some (d, j) ∧ rowOf ow s = some r ∧ isRow ow d j = true ∧ r = ⟨k, l⟩ ∧ ow1 = putOb ow d j none := by
  unfold takeRow at e
  split at e
  · rename_i d j r hk hr
    split at e
    · rename_i hi
      split at e
      · rename_i he
        obtain ⟨rk, rl⟩ := r
        dsimp only at he e
        subst he
        simp only [Option.some.injEq, Prod.mk.injEq] at e
        obtain ⟨e1, rfl⟩ := e
        have e1 : rl = l := e1
        subst e1
        exact ⟨d, j, _, hk, hr, hi, rfl, rfl⟩
      · cases e
    · cases e
  · cases e

theorem takeRow_sound (hh : HRep F G ow w.heap) {k : Kd} {s : SV} {v : Value} (hs : Sv F G ow w.heap s v) {l : List k.T} (e : takeRow k s ow = some (l, ow1)) :
    ∃ fp, Taken ow ow1 ∧ FpOk G ow ow1 fp ∧ fp.Nodup ∧ RowR w.heap (okF (FP F fp) G ow1) k l v fp := by
  obtain ⟨d, j, r, hk, hr, hi, rfl, rfl⟩ := takeRow_some e
  obtain ⟨hgood, ⟨ver, l0, hn⟩, a, c, rfl, hlc, hcase⟩ := rowOwn_sound hh hs hk hr hi
  have hnn : nameOf ow d j ≠ none := by rw [hn]; simp
  have hT := taken_put (ow := ow) (d := d) (j := j) (by rw [hn]; trivial)
  have hput := fun d' j' => nameOf_putOb (o := none) (d' := d') (j' := j') hnn
  rcases hcase with ⟨h0, h1, h2, h3⟩ | ⟨b, o, o', rw_, et, hG, ha, hb, hel, hcap⟩
  · refine ⟨[], hT, fun b => ?_, List.nodup_nil, hgood, a, c, rfl, hlc, .inl ⟨h1, h2, h3, rfl⟩⟩
    constructor
    · intro h; simp at h
    · rintro ⟨d', j', o', hi, hg, hn'⟩
      rw [hput] at hn'
      split at hn'
      · rename_i e
        rw [e.1, e.2, h0] at hg; cases hg
      · rw [hn'] at hi; exact hi.elim
  · have hf : FpOk G ow (putOb ow d j none) [b] := by
      intro b'
      constructor
      · intro hb'
        have : b' = b := by simpa using hb'
        subst this
        exact ⟨d, j, o', by rw [hn]; trivial, hG, by rw [hput]; simp⟩
      · rintro ⟨d', j', o2, hi, hg, hn'⟩
        rw [hput] at hn'
        split at hn'
        · rename_i e
          rw [e.1, e.2, hG] at hg; cases hg
          simp
        · rw [hn'] at hi; exact hi.elim
    refine ⟨[b], hT, hf, by simp, hgood, a, c, rfl, hlc, .inr ⟨b, o, rw_, et, ha, rfl, hb, hel.mono fun x cs hx => Rep.mono (fun b r hb hr => ⟨taken_ok hT hf hb, hr⟩) _ hx, hcap⟩⟩

theorem pk_sound : (s : Sh) → {F : Nat → Prop} → {ow ow1 : OW} → (∀ b, F b → b < w.heap.size) → HRep F G ow w.heap → {svs : List SV} → {vs : List Value} → Svs F G ow w.heap svs vs → {x : s.T} → pk s svs ow = some (x, ow1) →
    ∃ fp, Taken ow ow1 ∧ FpOk G ow ow1 fp ∧ fp.Nodup ∧ ShR w.heap (okF (FP F fp) G ow1) s x vs fp
  | .pur kd, F, ow, ow1, hF, hh, svs, vs, hs, x, e => by
    match svs, hs, e with
    | [], _, e => simp [pk] at e
    | [s], hs, e =>
      simp only [pk] at e
      obtain ⟨v, rfl, hv⟩ := hs.single'
      exact ⟨[], (toPay_taken e).taken, (toPay_taken e).fpOk, List.nodup_nil, v, rfl, rfl, (toPay_pay hh hF hv e).mono fun b r hb hr => ⟨okF_nil hb, hr⟩⟩
    | _ :: _ :: _, _, e => simp [pk] at e
  | .own k, F, ow, ow1, hF, hh, svs, vs, hs, x, e => by
    match svs, hs, e with
    | [], _, e => simp [pk] at e
    | [s], hs, e =>
      simp only [pk] at e
      obtain ⟨v, rfl, hv⟩ := hs.single'
      split at e
      · split at e
        · rename_i hk
          simp only [Option.some.injEq, Prod.mk.injEq] at e
          obtain ⟨rfl, rfl⟩ := e
          cases hv
          exact ⟨[], .refl _, .refl _ _, List.nodup_nil, _, rfl, hk, none, 0, rfl, Nat.le_refl _, .inl ⟨rfl, rfl, rfl, rfl⟩⟩
        · cases e
      · obtain ⟨fp, h1, h2, h3, h4⟩ := takeRow_sound hh hv e
        exact ⟨fp, h1, h2, h3, v, rfl, h4⟩
    | _ :: _ :: _, _, e => simp [pk] at e
  | .row k, F, ow, ow1, hF, hh, svs, vs, hs, x, e => by
    match svs, hs, e with
    | [], _, e => simp [pk] at e
    | [s], hs, e =>
      simp only [pk] at e
      obtain ⟨v, rfl, hv⟩ := hs.single'
      split at e
      · obtain ⟨fp, h1, h2, h3, h4⟩ := takeRow_sound hh hv e
        exact ⟨fp, h1, h2, h3, v, rfl, h4⟩
      · cases e
    | _ :: _ :: _, _, e => simp [pk] at e
  | .box l, F, ow, ow1, hF, hh, svs, vs, hs, x, e => by
    match svs, hs, e with
    | [], _, e => simp [pk] at e
    | [s], hs, e =>
      obtain ⟨v, rfl, hv⟩ := hs.single'
      cases s with
      | bp d j c =>
        simp only [pk] at e
        split at e
        · rename_i cells hg
          split at e
          · rename_i hle
            have hn := nameOf_of_getOb hg
            have hnn : nameOf ow d j ≠ none := by rw [hn]; simp
            obtain ⟨b, o, r, et, hG, hb, hsz, hc⟩ := hh.obs d j _ hn
            cases hv with
            | bp hv =>
            simp only [hn] at hv
            obtain ⟨b', o', hG', rfl⟩ := hv
            rw [hG] at hG'; cases hG'
            obtain ⟨rfl, hle⟩ := hle
            have hT := taken_put (ow := ow) (d := d) (j := j) (by rw [hn]; trivial)
            have hput := fun d' j' => nameOf_putOb (o := none) (d' := d') (j' := j') hnn
            have hf : FpOk G ow (putOb ow d j none) [b] := by
              intro b'
              constructor
              · intro hb'
                have : b' = b := by simpa using hb'
                subst this
                exact ⟨d, j, o, by rw [hn]; trivial, hG, by rw [hput]; simp⟩
              · rintro ⟨d', j', o2, hi, hg, hn'⟩
                rw [hput] at hn'
                split at hn'
                · rename_i e
                  rw [e.1, e.2, hG] at hg; cases hg
                  simp
                · rw [hn'] at hi; exact hi.elim
            obtain ⟨hh1, hsv1⟩ := taken_state hh hT hf
            have hlt : b < w.heap.size := (Array.getElem?_eq_some_iff.1 hb).1
            have hF1 : ∀ b', FP F [b] b' → b' < w.heap.size := by
              intro b' hb'
              rcases hb' with hb' | hb'
              · exact hF b' hb'
              · have : b' = b := by simpa using hb'
                subst this; exact hlt
            have hcells : Svs (FP F [b]) G (putOb ow d j none) w.heap cells (sub r o l.len) := by
              refine ⟨by rw [sub_length (by omega)]; omega, fun i h1 h2 => ?_⟩
              have e1 : (sub r o l.len)[i] = r[o + i]'(by omega) := by
                have := sub_getElem (r := r) (o := o) (n := l.len) (i := i) (by omega)
                rw [List.getElem?_eq_getElem h2, Array.getElem?_eq_getElem (by omega)] at this
                exact Option.some.inj this
              rw [e1]
              exact hsv1 _ _ (hc i (by omega) (by omega))
            obtain ⟨fp', h1, h2, h3, h4⟩ := pk_sound l hF1 hh1 hcells e
            have hbn : b ∉ fp' := fun hx => (hf.notOwn hh hT (by simp : b ∈ [b])) (h2.own hx)
            refine ⟨b :: fp', hT.trans h1, fun x => ?_, List.nodup_cons.2 ⟨hbn, h3⟩, b, o, r, et, fp', rfl, rfl, hb, by omega, ?_⟩
            · rw [TkB.trans hT h1, ← hf x, ← h2 x]
              simp
            · exact ShR.mono (fun b' r' hb' hr' => ⟨okF_congr (fun b'' hx => fp_cons.2 hx) hb', hr'⟩) l (fun _ _ => rfl) h4
          · cases e
        · cases e
      | _ => simp [pk] at e
    | _ :: _ :: _, _, e => simp [pk] at e
  | .agg l, F, ow, ow1, hF, hh, svs, vs, hs, x, e => by
    match svs, hs, e with
    | [], _, e => simp [pk] at e
    | [s], hs, e =>
      obtain ⟨v, rfl, hv⟩ := hs.single'
      cases s with
      | agg cs =>
        simp only [pk] at e
        obtain ⟨us, rfl, hus⟩ := hv.agg_inv
        obtain ⟨fp, h1, h2, h3, h4⟩ := pk_sound l hF hh hus e
        exact ⟨fp, h1, h2, h3, us, rfl, h4⟩
      | _ => simp [pk] at e
    | _ :: _ :: _, _, e => simp [pk] at e
  | .fn f n l, F, ow, ow1, hF, hh, svs, vs, hs, x, e => by
    match svs, hs, e with
    | [], _, e => simp [pk] at e
    | [s], hs, e =>
      obtain ⟨v, rfl, hv⟩ := hs.single'
      cases s with
      | fn g a b =>
        simp only [pk] at e
        split at e
        · rename_i hc
          obtain ⟨rfl, hn⟩ := hc
          obtain ⟨xs, ys, rfl, hx, hy⟩ := hv.fn_inv
          obtain ⟨fp, h1, h2, h3, h4⟩ := pk_sound l hF hh (hx.append hy) e
          exact ⟨fp, h1, h2, h3, xs, ys, rfl, by rw [← hx.1, hn], h4⟩
        · cases e
      | _ => simp [pk] at e
    | _ :: _ :: _, _, e => simp [pk] at e
  | .ign, F, ow, ow1, hF, hh, svs, vs, hs, x, e => by
    match svs, hs, e with
    | [], _, e => simp [pk] at e
    | [s], hs, e =>
      simp only [pk, Option.some.injEq, Prod.mk.injEq] at e
      obtain ⟨v, rfl, hv⟩ := hs.single'
      rw [← e.2]
      exact ⟨[], .refl _, .refl _ _, List.nodup_nil, v, rfl, rfl⟩
    | _ :: _ :: _, _, e => simp [pk] at e
  | .nl, F, ow, ow1, hF, hh, svs, vs, hs, x, e => by
    match svs, hs, e with
    | [], _, e => simp [pk] at e
    | [s], hs, e =>
      obtain ⟨v, rfl, hv⟩ := hs.single'
      cases s with
      | nils =>
        simp only [pk, Option.some.injEq, Prod.mk.injEq] at e
        cases hv
        rw [← e.2]
        exact ⟨[], .refl _, .refl _ _, List.nodup_nil, rfl, rfl⟩
      | _ => simp [pk] at e
    | _ :: _ :: _, _, e => simp [pk] at e
  | .nil, F, ow, ow1, hF, hh, svs, vs, hs, x, e => by
    match svs, hs, e with
    | [], hs, e =>
      simp only [pk, Option.some.injEq, Prod.mk.injEq] at e
      have : vs = [] := List.eq_nil_of_length_eq_zero hs.1.symm
      subst this
      rw [← e.2]
      exact ⟨[], .refl _, .refl _ _, List.nodup_nil, rfl, rfl⟩
    | _ :: _, _, e => simp [pk] at e
  | .cons a b, F, ow, ow1, hF, hh, svs, vs, hs, x, e => by
    match svs, hs, e with
    | [], _, e => simp [pk] at e
    | s :: r, hs, e =>
      simp only [pk] at e
      split at e
      · rename_i y hy
        split at e
        · rename_i z hz
          cases e
          obtain ⟨v, vs', rfl, hv, hvs⟩ := hs.uncons
          obtain ⟨f1, t1, o1, n1, r1⟩ := pk_sound a (x := y.1) (ow1 := y.2) hF hh (.cons hv .nil) hy
          obtain ⟨hh1, hsv1⟩ := taken_state hh t1 o1
          have hF1 : ∀ b', FP F f1 b' → b' < w.heap.size := by
            intro b' hb'
            rcases hb' with hb' | hb'
            · exact hF b' hb'
            · exact Own.lt hh (o1.own hb')
          obtain ⟨f2, t2, o2, n2, r2⟩ := pk_sound b (x := z.1) (ow1 := z.2) hF1 hh1 ⟨hvs.1, fun i h1 h2 => hsv1 _ _ (hvs.2 i h1 h2)⟩ hz
          refine ⟨f1 ++ f2, t1.trans t2, fun x => ?_, List.nodup_append.2 ⟨n1, n2, fun x hx y hy hxy => ?_⟩, v, vs', f1, f2, rfl, rfl, ?_, ?_⟩
          · rw [TkB.trans t1 t2, ← o1 x, ← o2 x, List.mem_append]
          · subst hxy
            exact o1.notOwn hh t1 hx (o2.own hy)
          · exact ShR.mono (fun b' r' hb' hr' => ⟨okF_congr (fun b'' hx => fp_app.2 hx) (taken_ok t2 o2 hb'), hr'⟩) a (fun _ _ => rfl) r1
          · exact ShR.mono (fun b' r' hb' hr' => ⟨okF_congr (fun b'' hx => fp_app.2 hx) hb', hr'⟩) b (fun _ _ => rfl) r2
        · cases e
      · cases e

/-! ### Unpacking -/

def SvsR (h : Array Obj) (ok : Nat → Prop) (G : Gh) (ow : OW) (l : List SV) (vs : List Value) : Prop :=
  l.length = vs.length ∧ ∀ i (h1 : i < l.length) (h2 : i < vs.length), SvRep h ok G ow l[i] vs[i]

section
variable {h : Array Obj} {ok : Nat → Prop}

theorem SvsR.nil : SvsR h ok G ow [] [] := ⟨rfl, fun i h => by simp at h⟩
theorem SvsR.cons {s : SV} {l : List SV} {v : Value} {vs : List Value} (h1 : SvRep h ok G ow s v) (hs : SvsR h ok G ow l vs) : SvsR h ok G ow (s :: l) (v :: vs) :=
  ⟨by simp [hs.1], fun i h1' h2 => by
    cases i with
    | zero => exact h1
    | succ i => exact hs.2 i (by simpa using h1') (by simpa using h2)⟩
theorem SvsR.append {l l' : List SV} {vs vs' : List Value} (hs : SvsR h ok G ow l vs) (hs' : SvsR h ok G ow l' vs') : SvsR h ok G ow (l ++ l') (vs ++ vs') := by
  refine ⟨by simp [hs.1, hs'.1], fun i h1 h2 => ?_⟩
  rcases Nat.lt_or_ge i l.length with h | h
  · rw [List.getElem_append_left h, List.getElem_append_left (hs.1 ▸ h)]
    exact hs.2 _ _ _
  · rw [List.getElem_append_right h, List.getElem_append_right (hs.1 ▸ h)]
    simp only [hs.1]
    exact hs'.2 _ _ _
theorem SvsR.take {l : List SV} {vs : List Value} (hs : SvsR h ok G ow l vs) (n : Nat) : SvsR h ok G ow (l.take n) (vs.take n) :=
  ⟨by simp [hs.1], fun i h1 h2 => by simp only [List.getElem_take]; exact hs.2 _ _ _⟩
theorem SvsR.drop {l : List SV} {vs : List Value} (hs : SvsR h ok G ow l vs) (n : Nat) : SvsR h ok G ow (l.drop n) (vs.drop n) :=
  ⟨by simp [hs.1], fun i h1 h2 => by simp only [List.getElem_drop]; exact hs.2 _ _ _⟩

theorem svsR_cellsS : (k : Kd) → {x : k.T} → {cs : List Value} → (k.leafy = true) → Rep h ok k x cs → SvsR h ok G ow (cellsS k x) cs
  | .nil, _, _, _, e => by cases e; exact .nil
  | .cons a b, x, cs, hk, e => by
    simp only [Kd.leafy, Bool.and_eq_true, Bool.not_eq_true'] at hk
    obtain ⟨v, r, rfl, e1, e2⟩ := rep_leaf hk.1 e
    exact .cons (.v hk.1 e1) (svsR_cellsS b hk.2 e2)
  | .int _, _, _, hk, _ => by cases hk
  | .bool, _, _, hk, _ => by cases hk
  | .str, _, _, hk, _ => by cases hk
  | .err, _, _, hk, _ => by cases hk
  | .any, _, _, hk, _ => by cases hk
  | .sl _ _, _, _, hk, _ => by cases hk
  | .tree _, _, _, hk, _ => by cases hk

theorem valS_rep {k : Kd} {x : k.T} {v : Value} (e : PayR h ok k x v) : SvRep h ok G ow (valS k x) v := by
  obtain ⟨hr, h1, h2⟩ := e
  unfold valS
  split
  · rename_i hk
    obtain ⟨⟨cs, rfl⟩, hl⟩ := h1 hk
    have := svsR_cellsS (G := G) (ow := ow) k hl hr
    have := SvRep.agg this.1 this.2
    simpa [Value.cells] using this
  · rename_i hk
    have hk : k.isSt = false := by simpa using hk
    have := cells_of_one (h2 hk)
    rw [this] at hr
    exact .v hk hr

/-- What is unpacked, wherever it is named. -/
def Named (G : Gh) (ow : OW) (d j : Nat) (obs : List OB) (ps : List (Option (Nat × Nat))) : Prop :=
  ∀ i o, obs[i]? = some o → nameOf ow d (j + i) = some (some o) ∧ ps[i]? = some (G d (j + i))

theorem Named.left {d j : Nat} {o1 o2 : List OB} {p1 p2 : List (Option (Nat × Nat))} (hl : p1.length = o1.length) (hn : Named G ow d j (o1 ++ o2) (p1 ++ p2)) : Named G ow d j o1 p1 := by
  intro i o hi
  have hlt : i < o1.length := (List.getElem?_eq_some_iff.1 hi).1
  have := hn i o (by rw [List.getElem?_append_left hlt]; exact hi)
  rw [List.getElem?_append_left (by omega)] at this
  exact this

theorem Named.right {d j : Nat} {o1 o2 : List OB} {p1 p2 : List (Option (Nat × Nat))} (hl : p1.length = o1.length) (hn : Named G ow d j (o1 ++ o2) (p1 ++ p2)) : Named G ow d (j + o1.length) o2 p2 := by
  intro i o hi
  have := hn (o1.length + i) o (by rw [List.getElem?_append_right (by omega)]; simpa using hi)
  rw [List.getElem?_append_right (by omega), show o1.length + i - p1.length = i by omega, ← Nat.add_assoc] at this
  exact this

theorem rowR_unpk {k : Kd} {l : List k.T} {v : Value} {fp : List Nat} (e : RowR h ok k l v fp) (d j : Nat) : ∃ p : Option (Nat × Nat), (p.map (·.1)).toList = fp ∧
    ∀ (G : Gh) (ow : OW), nameOf ow d j = some (some (.row k 0 l)) → p = G d j → SvRep h ok G ow (.wh d j 0 []) v ∧ ObRep h ok G ow d j (.row k 0 l) := by
  obtain ⟨hk, a, c, rfl, hlc, e⟩ := e
  rcases e with ⟨rfl, rfl, rfl, rfl⟩ | ⟨b, o, r, et, rfl, rfl, hb, hel, hs⟩
  · refine ⟨none, rfl, fun G ow hn hg => ⟨.wh ?_, hk, by rw [← hg]⟩⟩
    simp only [HandR, hn, Option.getD_none]
    exact ⟨by simp, _, _, rfl, hlc, .inl ⟨hg.symm, rfl, rfl⟩⟩
  · refine ⟨some (b, o), rfl, fun G ow hn hg => ⟨.wh ?_, hk, by rw [← hg]; exact ⟨r, et, hb, hel⟩⟩⟩
    simp only [HandR, hn, Option.getD_none]
    exact ⟨by omega, _, _, rfl, hlc, .inr ⟨b, o, o, r, hg.symm, rfl, rowCells_of hb, fun _ => by simp, hs⟩⟩

theorem unpk_rep : (s : Sh) → {x : s.T} → {vs : List Value} → {fp : List Nat} → ShR h ok s x vs fp → (d j : Nat) → ∃ ps : List (Option (Nat × Nat)), ps.length = (unpk d s x j).2.length ∧ ps.filterMap (·.map (·.1)) = fp ∧
    ∀ (G : Gh) (ow : OW), Named G ow d j (unpk d s x j).2 ps → SvsR h ok G ow (unpk d s x j).1 vs ∧ ∀ i o, (unpk d s x j).2[i]? = some o → ObRep h ok G ow d (j + i) o ∧ isOwn (some (some o))
  | .pur kd, x, vs, fp, e, d, j => by
    obtain ⟨v, rfl, rfl, e⟩ := e
    exact ⟨[], rfl, rfl, fun G ow _ => ⟨.cons (valS_rep e) .nil, fun i o hi => by simp [unpk] at hi⟩⟩
  | .own k, x, vs, fp, e, d, j => by
    obtain ⟨v, rfl, e⟩ := e
    obtain ⟨p, hp, hr⟩ := rowR_unpk e d j
    refine ⟨[p], rfl, by cases p <;> simpa using hp, fun G ow hn => ?_⟩
    obtain ⟨h1, h2⟩ := hn 0 _ (by simp [unpk]; rfl)
    obtain ⟨r1, r2⟩ := hr G ow h1 (by simpa using h2)
    refine ⟨.cons r1 .nil, fun i o hi => ?_⟩
    cases i with
    | zero => simp [unpk] at hi; subst hi; exact ⟨r2, trivial⟩
    | succ i => simp [unpk] at hi
  | .row k, x, vs, fp, e, d, j => by
    obtain ⟨v, rfl, e⟩ := e
    obtain ⟨p, hp, hr⟩ := rowR_unpk e d j
    refine ⟨[p], rfl, by cases p <;> simpa using hp, fun G ow hn => ?_⟩
    obtain ⟨h1, h2⟩ := hn 0 _ (by simp [unpk]; rfl)
    obtain ⟨r1, r2⟩ := hr G ow h1 (by simpa using h2)
    refine ⟨.cons r1 .nil, fun i o hi => ?_⟩
    cases i with
    | zero => simp [unpk] at hi; subst hi; exact ⟨r2, trivial⟩
    | succ i => simp [unpk] at hi
  | .box l, x, vs, fp, e, d, j => by
    obtain ⟨b, o, r, et, fp', rfl, rfl, hb, hs, e⟩ := e
    obtain ⟨ps, hl, hf, hr⟩ := unpk_rep l e d (j + 1)
    refine ⟨some (b, o) :: ps, by simp [unpk, hl], by simp [hf], fun G ow hn => ?_⟩
    obtain ⟨h1, h2⟩ := hn 0 _ (by simp [unpk]; rfl)
    have hn' : Named G ow d (j + 1) (unpk d l x (j + 1)).2 ps := by
      intro i o' hi
      have := hn (i + 1) o' (by simpa [unpk] using hi)
      rw [List.getElem?_cons_succ, show j + (i + 1) = j + 1 + i by omega] at this
      exact this
    obtain ⟨r1, r2⟩ := hr G ow hn'
    have h2 : G d j = some (b, o) := by simpa using h2.symm
    refine ⟨.cons (.bp (by rw [show nameOf ow d j = _ from h1]; exact ⟨b, o, h2, rfl⟩)) .nil, fun i o' hi => ?_⟩
    cases i with
    | zero =>
      simp [unpk] at hi
      subst hi
      have hlen : (unpk d l x (j + 1)).1.length = l.len := by rw [r1.1, sub_length hs]
      refine ⟨⟨b, o, r, et, h2, hb, by omega, fun i hi hr' => ?_⟩, trivial⟩
      have hi2 : i < (sub r o l.len).length := by rw [sub_length hs]; omega
      have e1 : (sub r o l.len)[i] = r[o + i] := by
        have := sub_getElem (r := r) (o := o) (n := l.len) (i := i) (by omega)
        rw [List.getElem?_eq_getElem hi2, Array.getElem?_eq_getElem (by omega)] at this
        exact Option.some.inj this
      rw [← e1]
      exact r1.2 i hi hi2
    | succ i =>
      have := r2 i o' (by simpa [unpk] using hi)
      rw [show j + (i + 1) = j + 1 + i by omega]
      exact this
  | .agg l, x, vs, fp, e, d, j => by
    obtain ⟨cs, rfl, e⟩ := e
    obtain ⟨ps, hl, hf, hr⟩ := unpk_rep l e d j
    refine ⟨ps, hl, hf, fun G ow hn => ?_⟩
    obtain ⟨r1, r2⟩ := hr G ow hn
    exact ⟨.cons (.agg r1.1 r1.2) .nil, r2⟩
  | .fn f n l, x, vs, fp, e, d, j => by
    obtain ⟨xs, ys, rfl, hn', e⟩ := e
    obtain ⟨ps, hl, hf, hr⟩ := unpk_rep l e d j
    refine ⟨ps, hl, hf, fun G ow hn => ?_⟩
    obtain ⟨r1, r2⟩ := hr G ow hn
    have h1 := r1.take n
    have h2 := r1.drop n
    rw [List.take_left' hn'] at h1
    rw [List.drop_left' hn'] at h2
    exact ⟨.cons (.fn h1.1 h2.1 h1.2 h2.2) .nil, r2⟩
  | .ign, x, vs, fp, e, d, j => by
    obtain ⟨v, rfl, rfl⟩ := e
    exact ⟨[], rfl, rfl, fun G ow _ => ⟨.cons (.dead v) .nil, fun i o hi => by simp [unpk] at hi⟩⟩
  | .nl, x, vs, fp, e, d, j => by
    obtain ⟨rfl, rfl⟩ := e
    exact ⟨[], rfl, rfl, fun G ow _ => ⟨.cons .nils .nil, fun i o hi => by simp [unpk] at hi⟩⟩
  | .nil, x, vs, fp, e, d, j => by
    obtain ⟨rfl, rfl⟩ := e
    exact ⟨[], rfl, rfl, fun G ow _ => ⟨.nil, fun i o hi => by simp [unpk] at hi⟩⟩
  | .cons a b, x, vs, fp, e, d, j => by
    obtain ⟨v, r, f1, f2, rfl, rfl, e1, e2⟩ := e
    obtain ⟨p1, l1, g1, r1⟩ := unpk_rep a e1 d j
    obtain ⟨p2, l2, g2, r2⟩ := unpk_rep b e2 d (j + (unpk d a x.1 j).2.length)
    refine ⟨p1 ++ p2, by simp [unpk, l1, l2], by simp [g1, g2], fun G ow hn => ?_⟩
    have hn : Named G ow d j ((unpk d a x.1 j).2 ++ (unpk d b x.2 (j + (unpk d a x.1 j).2.length)).2) (p1 ++ p2) := hn
    obtain ⟨s1, o1⟩ := r1 G ow (hn.left l1)
    obtain ⟨s2, o2⟩ := r2 G ow (hn.right l1)
    refine ⟨s1.append s2, fun i o hi => ?_⟩
    have hi : ((unpk d a x.1 j).2 ++ (unpk d b x.2 (j + (unpk d a x.1 j).2.length)).2)[i]? = some o := hi
    by_cases hlt : i < (unpk d a x.1 j).2.length
    · rw [List.getElem?_append_left hlt] at hi
      exact o1 i o hi
    · rw [List.getElem?_append_right (by omega)] at hi
      have := o2 _ o hi
      rw [Nat.add_assoc, show (unpk d a x.1 j).2.length + (i - (unpk d a x.1 j).2.length) = i by omega] at this
      exact this
end

theorem filterMap_inj {α β : Type} {f : α → Option β} : (l : List α) → (l.filterMap f).Nodup → ∀ i j (hi : i < l.length) (hj : j < l.length) (b : β), f l[i] = some b → f l[j] = some b → i = j
  | [], _, i, _, hi, _, _, _, _ => by simp at hi
  | a :: l, hn, i, j, hi, hj, b, h1, h2 => by
    have hmem : ∀ q (hq : q < l.length), f l[q] = some b → b ∈ l.filterMap f := fun q hq h => List.mem_filterMap.2 ⟨l[q], List.getElem_mem hq, h⟩
    have hn' : (l.filterMap f).Nodup := by
      rw [List.filterMap_cons] at hn
      split at hn
      · exact hn
      · exact (List.nodup_cons.1 hn).2
    cases i with
    | zero =>
      cases j with
      | zero => rfl
      | succ j =>
        have h1 : f a = some b := h1
        rw [List.filterMap_cons, h1] at hn
        exact absurd (hmem j (by simpa using hj) h2) (List.nodup_cons.1 hn).1
    | succ i =>
      cases j with
      | zero =>
        have h2 : f a = some b := h2
        rw [List.filterMap_cons, h2] at hn
        exact absurd (hmem i (by simpa using hi) h1) (List.nodup_cons.1 hn).1
      | succ j => rw [filterMap_inj l hn' i j (by simpa using hi) (by simpa using hj) b h1 h2]

/-- Data is named anew. -/
theorem state_new {fp : List Nat} (hh : HRep (FP F fp) G ow w.heap) {s : Sh} {x : s.T} {vs : List Value} (e : ShR w.heap (okF (FP F fp) G ow) s x vs fp) (hnd : fp.Nodup) (hFd : ∀ b ∈ fp, ¬ F b) {d : Nat} (hn : newObs ow d (unpk d s x 0).2 = some ow2) :
    ∃ G2, HRep F G2 ow2 w.heap ∧ Svs F G2 ow2 w.heap (unpk d s x 0).1 vs ∧ (∀ s v, Sv (FP F fp) G ow w.heap s v → Sv F G2 ow2 w.heap s v) ∧ (∀ b, Own G2 ow2 b ↔ Own G ow b ∨ b ∈ fp) ∧ (∀ d' j, d' ≠ d → G2 d' j = G d' j) := by
  obtain ⟨ps, hl, hf, hr⟩ := unpk_rep s e d 0
  obtain ⟨hlen, hem, hnm⟩ := newObs_some hn
  by_cases hz : (unpk d s x 0).2 = []
  · -- nothing is owned
    have hps : ps = [] := List.eq_nil_of_length_eq_zero (by rw [hl, hz]; rfl)
    subst hps
    have hfp : fp = [] := by simpa using hf.symm
    subst hfp
    have how : ow2 = ow := by rw [hz] at hn; simp [newObs] at hn; exact hn.symm
    subst how
    have hFF : ∀ b, okF (FP F []) G ow2 b → okF F G ow2 b := fun b hb => okF_congr (fun b' hx => fp_nil.2 hx) hb
    have hm : ∀ b r, okF (FP F []) G ow2 b → rowCells w.heap b = some r → okF F G ow2 b ∧ rowCells w.heap b = some r := fun b r hb hr => ⟨hFF b hb, hr⟩
    have hsv : ∀ s v, Sv (FP F []) G ow2 w.heap s v → Sv F G ow2 w.heap s v := fun s v h => SvRep.mono (fun _ _ _ => rfl) (fun _ _ => .refl _) hm (fun b r hr => ⟨r, hr, rfl⟩) h
    obtain ⟨r1, _⟩ := hr G ow2 (fun i o hi => by rw [hz] at hi; simp at hi)
    refine ⟨G, ⟨fun d j o hn => ?_, hh.apart, fun b hb hx => hh.notF b hb (fp_nil.2 hx)⟩, ⟨r1.1, fun i h1 h2 => hsv _ _ (r1.2 i h1 h2)⟩, hsv, fun b => by simp, fun _ _ _ => rfl⟩
    exact ObRep.mono (fun _ _ _ => rfl) (fun _ _ => .refl _) hm (fun b r hr => ⟨r, hr, rfl⟩) (by rw [hn]; simp) (fun _ _ _ _ => rfl) (hh.obs d j o hn)
  · have hem : ow[d]? = some [] := by
      rcases hem with h | h
      · exact absurd h hz
      · exact h
    have hnm' : ∀ d' j, nameOf ow2 d' j = if d' = d then (unpk d s x 0).2[j]?.map some else nameOf ow d' j := fun d' j => by rw [hnm]; simp [hz]
    let G2 : Gh := G.new d fun j => (ps[j]?).join
    have g0 : ∀ d' j, d' ≠ d → G2 d' j = G d' j := fun d' j hd => by simp [G2, Gh.new, hd]
    have gd : ∀ j, G2 d j = (ps[j]?).join := fun j => by simp [G2, Gh.new]
    have hnamed : Named G2 ow2 d 0 (unpk d s x 0).2 ps := by
      intro i o hi
      have hlt : i < (unpk d s x 0).2.length := (List.getElem?_eq_some_iff.1 hi).1
      rw [Nat.zero_add, hnm', if_pos rfl, hi, gd]
      refine ⟨rfl, ?_⟩
      rw [List.getElem?_eq_getElem (by omega)]
      rfl
    obtain ⟨r1, r2⟩ := hr G2 ow2 hnamed
    -- what key d owns
    have hkey : ∀ b, (∃ j o, isOwn (nameOf ow2 d j) ∧ G2 d j = some (b, o)) ↔ b ∈ fp := by
      intro b
      rw [← hf]
      simp only [List.mem_filterMap]
      constructor
      · rintro ⟨j, o, _, hg⟩
        rw [gd] at hg
        have : ps[j]? = some (some (b, o)) := by
          cases h : ps[j]? with
          | none => simp [h] at hg
          | some p => simp [h] at hg; rw [hg]
        obtain ⟨hj, hp⟩ := List.getElem?_eq_some_iff.1 this
        exact ⟨some (b, o), by rw [← hp]; exact List.getElem_mem hj, rfl⟩
      · rintro ⟨p, hp, hpb⟩
        obtain ⟨j, hj, rfl⟩ := List.getElem_of_mem hp
        cases hq : ps[j] with
        | none => simp [hq] at hpb
        | some q =>
          simp [hq] at hpb
          subst hpb
          have hj2 : j < (unpk d s x 0).2.length := by omega
          refine ⟨j, q.2, ?_, ?_⟩
          · rw [hnm', if_pos rfl, List.getElem?_eq_getElem hj2]
            exact (r2 j _ (List.getElem?_eq_getElem hj2)).2
          · rw [gd, List.getElem?_eq_getElem hj, hq]; rfl
    have hown : ∀ b, Own G2 ow2 b ↔ Own G ow b ∨ b ∈ fp := by
      intro b
      rw [own_iff, own_iff]
      constructor
      · rintro ⟨d', j, o, hi, hg⟩
        by_cases hd : d' = d
        · subst hd
          exact .inr ((hkey b).1 ⟨j, o, hi, hg⟩)
        · rw [hnm', if_neg hd] at hi
          rw [g0 _ _ hd] at hg
          exact .inl ⟨d', j, o, hi, hg⟩
      · rintro (⟨d', j, o, hi, hg⟩ | hb)
        · have hd : d' ≠ d := by
            intro hd
            subst hd
            rw [nameOf_empty hem] at hi
            exact hi
          exact ⟨d', j, o, by rw [hnm', if_neg hd]; exact hi, by rw [g0 _ _ hd]; exact hg⟩
        · obtain ⟨j, o, hi, hg⟩ := (hkey b).2 hb
          exact ⟨d, j, o, hi, hg⟩
    have hok : ∀ b, okF (FP F fp) G ow b → okF F G2 ow2 b := fun b hb => ⟨fun hx => hb.1 (.inl hx), fun hx => by
      rcases (hown b).1 hx with hx | hx
      · exact hb.2 hx
      · exact hb.1 (.inr hx)⟩
    have hm : ∀ b r, okF (FP F fp) G ow b → rowCells w.heap b = some r → okF F G2 ow2 b ∧ rowCells w.heap b = some r := fun b r hb hr => ⟨hok b hb, hr⟩
    have hGn : ∀ d' j, nameOf ow d' j ≠ none → G2 d' j = G d' j := by
      intro d' j hx
      refine g0 _ _ fun hd => ?_
      subst hd
      exact hx (nameOf_empty hem j)
    have hE : ∀ d' j, EC (nameOf ow d' j) (nameOf ow2 d' j) := by
      intro d' j
      by_cases hd : d' = d
      · subst hd; rw [nameOf_empty hem]; trivial
      · rw [hnm', if_neg hd]; exact .refl _
    have hsv : ∀ s v, Sv (FP F fp) G ow w.heap s v → Sv F G2 ow2 w.heap s v := fun s v h => SvRep.mono hGn hE hm (fun b r hr => ⟨r, hr, rfl⟩) h
    have hm2 : ∀ b r, okF (FP F fp) G ow b → rowCells w.heap b = some r → okF F G2 ow2 b ∧ rowCells w.heap b = some r := hm
    refine ⟨G2, ⟨fun d' j o hx => ?_, fun d1 j1 d2 j2 b o1 o2 h1 h2 q1 q2 => ?_, fun b hb => ?_⟩, ⟨r1.1, fun i h1 h2 => SvRep.mono (fun _ _ _ => rfl) (fun _ _ => .refl _) hm2 (fun b r hr => ⟨r, hr, rfl⟩) (r1.2 i h1 h2)⟩, hsv, hown, g0⟩
    · by_cases hd : d' = d
      · subst hd
        have hx' : (unpk d' s x 0).2[j]? = some o := by
          rw [hnm', if_pos rfl] at hx
          cases hq : (unpk d' s x 0).2[j]? with
          | none => simp [hq] at hx
          | some q => simp [hq] at hx; rw [hx]
        have := (r2 j o hx').1
        rw [Nat.zero_add] at this
        exact ObRep.mono (fun _ _ _ => rfl) (fun _ _ => .refl _) hm2 (fun b r hr => ⟨r, hr, rfl⟩) (by rw [hx]; simp) (fun _ _ _ _ => rfl) this
      · have hx' : nameOf ow d' j = some (some o) := by rw [hnm', if_neg hd] at hx; exact hx
        exact ObRep.mono hGn hE hm (fun b r hr => ⟨r, hr, rfl⟩) (by rw [hx']; simp) (fun _ _ _ _ => rfl) (hh.obs d' j o hx')
    · have out : ∀ {d' j' o'}, d' ≠ d → isOwn (nameOf ow2 d' j') → G2 d' j' = some (b, o') → Own G ow b := by
        intro d' j' o' hd hi hg
        rw [hnm', if_neg hd] at hi
        rw [g0 _ _ hd] at hg
        exact own_iff.2 ⟨d', j', o', hi, hg⟩
      by_cases e1 : d1 = d
      · by_cases e2 : d2 = d
        · subst e1; subst e2
          refine ⟨rfl, ?_⟩
          rw [gd] at q1 q2
          have p1 : ps[j1]? = some (some (b, o1)) := by
            cases hq : ps[j1]? with
            | none => simp [hq] at q1
            | some p => simp [hq] at q1; rw [q1]
          have p2 : ps[j2]? = some (some (b, o2)) := by
            cases hq : ps[j2]? with
            | none => simp [hq] at q2
            | some p => simp [hq] at q2; rw [q2]
          obtain ⟨i1, p1⟩ := List.getElem?_eq_some_iff.1 p1
          obtain ⟨i2, p2⟩ := List.getElem?_eq_some_iff.1 p2
          exact filterMap_inj ps (by rw [hf]; exact hnd) j1 j2 i1 i2 b (by rw [p1]; rfl) (by rw [p2]; rfl)
        · subst e1
          have hb := (hkey b).1 ⟨j1, o1, h1, q1⟩
          exact absurd (.inr hb) (hh.notF b (out e2 h2 q2))
      · by_cases e2 : d2 = d
        · subst e2
          have hb := (hkey b).1 ⟨j2, o2, h2, q2⟩
          exact absurd (.inr hb) (hh.notF b (out e1 h1 q1))
        · rw [hnm', if_neg e1] at h1
          rw [hnm', if_neg e2] at h2
          rw [g0 _ _ e1] at q1
          rw [g0 _ _ e2] at q2
          exact hh.apart d1 j1 d2 j2 b o1 o2 h1 h2 q1 q2
    · rcases (hown b).1 hb with hb | hb
      · exact fun hx => hh.notF b hb (.inl hx)
      · exact hFd b hb
end
end Go.Pev
