/-
  PEV, part 16: calls.
-/
import Derived.Test.YtgajbbadidobfaaDoorPevPk
namespace Go.Pev

def Laid (L : List (Nat × Obj)) (I : Nat → Prop) (h : Array Obj) : Prop := ∀ p ∈ L, ¬ I p.1 ∧ h[p.1]? = some p.2

def retV (l : List Value) : Value := match l with | [v] => v | l => .tuple l.toArray

/-- A function's contract. -/
def SigHolds (P : Program) (L : List (Nat × Obj)) (f : FuncId) (sg : Sig) : Prop :=
  (∃ fn, P.funcs[f]? = some fn ∧ (fn.name == "runtime.NumGoroutine") = false ∧ fn.body.isNone = false) ∧
  ∀ (w : World) (F : Nat → Prop) (x : sg.args.T) (vs : List Value) (fp : List Nat) (y : sg.res.T × sg.args.Out), (∀ b, F b → b < w.heap.size) → Laid L (· ∈ fp) w.heap → fp.Nodup → (∀ b ∈ fp, ¬ F b) →
    ShR w.heap (fun b => ¬ FP F fp b) sg.args x vs fp → sg.den x = some y →
    Calls P f vs.toArray w fun e w' => ∃ rs fp1 fp2, e = .returned (retV rs) ∧ ShR w'.heap (fun b => ¬ FP F (fp1 ++ fp2) b) sg.res y.1 rs fp1 ∧ OutR w'.heap (fun b => ¬ FP F (fp1 ++ fp2) b) sg.args y.2 vs fp2 ∧
      (fp1 ++ fp2).Nodup ∧ (∀ b ∈ fp1 ++ fp2, b ∈ fp ∨ w.heap.size ≤ b) ∧ Kept (· ∈ fp) w w'

theorem Calls.mono {P : Program} {f : FuncId} {args : Array Value} {w : World} {R R' : Ending → World → Prop} (h : Calls P f args w R) (hr : ∀ e w', R e w' → R' e w') : Calls P f args w R' :=
  fun cs => let ⟨e, w', fr, r, s⟩ := h cs; ⟨e, w', fr, hr _ _ r, s⟩

/-! ### Thawing -/

theorem nameOf_thaw : (old new : OW) → (d j : Nat) → nameOf (thaw old new) d j = (match nameOf old d j, nameOf new d j with | some o, some n => some (thawOb o n) | _, n => n) := by
  have hL : (a b : List (Option OB)) → (j : Nat) → (thawL a b)[j]? = (match a[j]?, b[j]? with | some o, some n => some (thawOb o n) | _, n => n) := by
    intro a
    induction a with
    | nil => intro b j; cases b <;> simp [thawL]
    | cons o os ih =>
      intro b j
      cases b with
      | nil => simp [thawL]
      | cons n ns =>
        cases j with
        | zero => simp [thawL]
        | succ j => simp [thawL, ih]
  intro old
  induction old with
  | nil => intro new d j; cases new <;> simp [thaw, nameOf]
  | cons o os ih =>
    intro new d j
    cases new with
    | nil => simp [thaw, nameOf]
    | cons n ns =>
      cases d with
      | zero => simp [thaw, nameOf, hL]
      | succ d => simpa [thaw, nameOf] using ih ns d j

theorem length_thaw : (old new : OW) → (thaw old new).length = new.length
  | [], new => by cases new <;> simp [thaw]
  | o :: os, [] => by simp [thaw]
  | o :: os, n :: ns => by simp [thaw, length_thaw os ns]

theorem thaw_taken {ow ow1 : OW} (hT : Taken ow ow1) : Taken ow (thaw ow ow1) ∧ ∀ G b, TkB G ow (thaw ow ow1) b ↔ TkB G ow ow1 b := by
  have key : ∀ d j, nameOf (thaw ow ow1) d j = nameOf ow d j ∨ (nameOf (thaw ow ow1) d j = nameOf ow1 d j) := by
    intro d j
    rw [nameOf_thaw]
    rcases hT.names d j with e | ⟨_, e⟩ | ⟨k, ver, l, e1, e2⟩
    · rw [e]
      cases h : nameOf ow d j with
      | none => exact .inl rfl
      | some o =>
        left
        cases o with
        | none => rfl
        | some x => cases x <;> rfl
    · right
      rw [e]
      cases h : nameOf ow d j with
      | none => rfl
      | some o =>
        cases o with
        | none => rfl
        | some x => cases x <;> rfl
    · left
      rw [e1, e2]
      rfl
  have knone : ∀ d j, isOwn (nameOf ow d j) → (nameOf (thaw ow ow1) d j = some none ↔ nameOf ow1 d j = some none) := by
    intro d j hi
    rw [nameOf_thaw]
    rcases hT.names d j with e | ⟨_, e⟩ | ⟨k, ver, l, e1, e2⟩
    · rw [e]
      generalize nameOf ow d j = x at hi
      match x, hi with
      | some (some (.box _)), _ => simp [thawOb]
      | some (some (.row _ _ _)), _ => simp [thawOb]
    · rw [e]
      generalize nameOf ow d j = x at hi
      match x, hi with
      | some (some (.box _)), _ => simp [thawOb]
      | some (some (.row _ _ _)), _ => simp [thawOb]
    · rw [e1, e2]; simp [thawOb]
  refine ⟨⟨by rw [length_thaw, hT.len], fun d j => ?_⟩, fun G b => ?_⟩
  · rcases key d j with e | e
    · exact .inl e
    · rw [e]; exact hT.names d j
  · constructor
    · rintro ⟨d, j, o, hi, hg, hn⟩
      exact ⟨d, j, o, hi, hg, (knone d j hi).1 hn⟩
    · rintro ⟨d, j, o, hi, hg, hn⟩
      exact ⟨d, j, o, hi, hg, (knone d j hi).2 hn⟩

/-! ### Fresh shapes -/

theorem PayR.any {h : Array Obj} {ok ok' : Nat → Prop} {k : Kd} (hk : k.allOwn = true) {x : k.T} {v : Value} (e : PayR h ok k x v) : PayR h ok' k x v := ⟨Rep.any_heap k hk e.1, e.2⟩

theorem RowR.any {h : Array Obj} {ok ok' : Nat → Prop} {k : Kd} (hk : k.allOwn = true) {l : List k.T} {v : Value} {fp : List Nat} (e : RowR h ok k l v fp) : RowR h ok' k l v fp := by
  obtain ⟨hg, a, c, hv, hlc, e⟩ := e
  refine ⟨hg, a, c, hv, hlc, ?_⟩
  rcases e with e | ⟨b, o, r, et, ha, hf, hb, hel, hs⟩
  · exact .inl e
  · exact .inr ⟨b, o, r, et, ha, hf, hb, hel.mono fun x cs hx => Rep.any_heap k hk hx, hs⟩

theorem ShR.any {h : Array Obj} {ok ok' : Nat → Prop} : (s : Sh) → s.fresh = true → {x : s.T} → {vs : List Value} → {fp : List Nat} → ShR h ok s x vs fp → ShR h ok' s x vs fp
  | .pur _, hs, _, _, _, e => by obtain ⟨v, h1, h2, e⟩ := e; exact ⟨v, h1, h2, e.any hs⟩
  | .own _, hs, _, _, _, e => by obtain ⟨v, h1, e⟩ := e; exact ⟨v, h1, e.any hs⟩
  | .row _, hs, _, _, _, e => by obtain ⟨v, h1, e⟩ := e; exact ⟨v, h1, e.any hs⟩
  | .box l, hs, _, _, _, e => by obtain ⟨b, o, r, et, fp', h1, h2, h3, h4, e⟩ := e; exact ⟨b, o, r, et, fp', h1, h2, h3, h4, ShR.any l hs e⟩
  | .agg l, hs, _, _, _, e => by obtain ⟨cs, h1, e⟩ := e; exact ⟨cs, h1, ShR.any l hs e⟩
  | .fn _ _ l, hs, _, _, _, e => by obtain ⟨xs, ys, h1, h2, e⟩ := e; exact ⟨xs, ys, h1, h2, ShR.any l hs e⟩
  | .ign, _, _, _, _, e => e
  | .nl, _, _, _, _, e => e
  | .nil, _, _, _, _, e => e
  | .cons a b, hs, _, _, _, e => by
    simp only [Sh.fresh, Bool.and_eq_true] at hs
    obtain ⟨v, r, f1, f2, h1, h2, e1, e2⟩ := e
    exact ⟨v, r, f1, f2, h1, h2, ShR.any a hs.1 e1, ShR.any b hs.2 e2⟩

theorem OutR.any {h : Array Obj} {ok ok' : Nat → Prop} : (s : Sh) → s.freshOut = true → {x : s.Out} → {vs : List Value} → {fp : List Nat} → OutR h ok s x vs fp → OutR h ok' s x vs fp
  | .pur _, _, _, _, _, e => e
  | .own _, _, _, _, _, e => e
  | .row _, hs, _, _, _, e => by obtain ⟨v, h1, e⟩ := e; exact ⟨v, h1, e.any hs⟩
  | .box l, hs, _, _, _, e => by obtain ⟨b, o, r, et, fp', h1, h2, h3, h4, e⟩ := e; exact ⟨b, o, r, et, fp', h1, h2, h3, h4, ShR.any l hs e⟩
  | .agg l, hs, _, _, _, e => by obtain ⟨cs, h1, e⟩ := e; exact ⟨cs, h1, OutR.any l hs e⟩
  | .fn _ _ l, hs, _, _, _, e => by obtain ⟨xs, ys, h1, h2, e⟩ := e; exact ⟨xs, ys, h1, h2, OutR.any l hs e⟩
  | .ign, _, _, _, _, e => e
  | .nl, _, _, _, _, e => e
  | .nil, _, _, _, _, e => e
  | .cons a b, hs, _, _, _, e => by
    simp only [Sh.freshOut, Bool.and_eq_true] at hs
    obtain ⟨v, r, f1, f2, h1, h2, e1, e2⟩ := e
    exact ⟨v, r, f1, f2, h1, h2, OutR.any a hs.1 e1, OutR.any b hs.2 e2⟩

/-! ### What was written, put back -/

def putBlocks (G : Gh) (puts : List (Nat × Nat × OB)) : List Nat := puts.filterMap fun p => (G p.1 p.2.1).map (·.1)
def posBlocks (ps : List (Option (Nat × Nat))) : List Nat := ps.filterMap (·.map (·.1))

structure Puts (h : Array Obj) (ok : Nat → Prop) (G : Gh) (old : OW) (d : Nat) (fp : List Nat) (st st' : OW × List OB) (puts : List (Nat × Nat × OB)) (ps : List (Option (Nat × Nat))) (new : List OB) : Prop where
  obs : st'.2 = st.2 ++ new
  plen : ps.length = new.length
  len : st'.1.length = st.1.length
  names : ∀ d' j', (∃ p ∈ puts, p.1 = d' ∧ p.2.1 = j' ∧ nameOf st'.1 d' j' = some (some p.2.2)) ∨ ((∀ p ∈ puts, ¬ (p.1 = d' ∧ p.2.1 = j')) ∧ nameOf st'.1 d' j' = nameOf st.1 d' j')
  old : ∀ p ∈ puts, isOwn (nameOf old p.1 p.2.1) ∧ EC (nameOf old p.1 p.2.1) (some (some p.2.2)) ∧ isOwn (some (some p.2.2))
  blocks : fp.Perm (putBlocks G puts ++ posBlocks ps)
  rep : ∀ (G2 : Gh) (ow2 : OW), (∀ p ∈ puts, G2 p.1 p.2.1 = G p.1 p.2.1) → Named G2 ow2 d st.2.length new ps →
    (∀ p ∈ puts, ObRep h ok G2 ow2 p.1 p.2.1 p.2.2) ∧ ∀ i o, new[i]? = some o → ObRep h ok G2 ow2 d (st.2.length + i) o ∧ isOwn (some (some o))

theorem Puts.none {h : Array Obj} {ok : Nat → Prop} {G : Gh} {old : OW} {d : Nat} (st : OW × List OB) : Puts h ok G old d [] st st [] [] [] :=
  ⟨by simp, rfl, rfl, fun _ _ => .inr ⟨fun p hp => by simp at hp, rfl⟩, fun p hp => by simp at hp, List.Perm.refl _, fun _ _ _ _ => ⟨fun p hp => by simp at hp, fun i o hi => by simp at hi⟩⟩

theorem unOut_rep {F : Nat → Prop} {G : Gh} {old : OW} {w0 : World} {h : Array Obj} {ok : Nat → Prop} (hh : HRep F G old w0.heap)
    (hc : ∀ (b : Nat) (r : Array Value) (et : TypeId) (f : Nat × Nat), w0.heap[b]? = some (Obj.cells r et f) → ∃ r' : Array Value, h[b]? = some (Obj.cells r' et f) ∧ r'.size = r.size) (d : Nat) :
    (s : Sh) → {svs : List SV} → {vs : List Value} → Svs F G old w0.heap svs vs → {y : s.Out} → {fp : List Nat} → OutR h ok s y vs fp → {st st' : OW × List OB} → (∀ d' j', nameOf old d' j' ≠ none → nameOf st.1 d' j' ≠ none) →
    unOut d old s svs y st = some st' → ∃ puts ps new, Puts h ok G old d fp st st' puts ps new
  | .pur _, svs, vs, hs, y, fp, e, st, st', hne, hu => by
    obtain ⟨⟨v, rfl⟩, rfl⟩ := e
    obtain ⟨s, rfl, _⟩ := hs.single
    simp only [unOut, Option.some.injEq] at hu
    subst hu
    exact ⟨_, _, _, .none st⟩
  | .own _, svs, vs, hs, y, fp, e, st, st', hne, hu => by
    obtain ⟨⟨v, rfl⟩, rfl⟩ := e
    obtain ⟨s, rfl, _⟩ := hs.single
    simp only [unOut, Option.some.injEq] at hu
    subst hu
    exact ⟨_, _, _, .none st⟩
  | .ign, svs, vs, hs, y, fp, e, st, st', hne, hu => by
    obtain ⟨⟨v, rfl⟩, rfl⟩ := e
    obtain ⟨s, rfl, _⟩ := hs.single
    simp only [unOut, Option.some.injEq] at hu
    subst hu
    exact ⟨_, _, _, .none st⟩
  | .nl, svs, vs, hs, y, fp, e, st, st', hne, hu => by
    obtain ⟨⟨v, rfl⟩, rfl⟩ := e
    obtain ⟨s, rfl, _⟩ := hs.single
    simp only [unOut, Option.some.injEq] at hu
    subst hu
    exact ⟨_, _, _, .none st⟩
  | .nil, svs, vs, hs, y, fp, e, st, st', hne, hu => by
    obtain ⟨rfl, rfl⟩ := e
    have : svs = [] := List.eq_nil_of_length_eq_zero hs.1
    subst this
    simp only [unOut, Option.some.injEq] at hu
    subst hu
    exact ⟨_, _, _, .none st⟩
  | .row k, svs, vs, hs, y, fp, e, st, st', hne, hu => by
    obtain ⟨v, rfl, e⟩ := e
    obtain ⟨s, rfl, hv⟩ := hs.single
    cases s with
    | wh dd j ver path =>
      simp only [unOut] at hu
      split at hu
      · rename_i k' ver' l0 hg
        split at hu
        · rename_i hk
          subst hk
          simp only [Option.some.injEq] at hu
          subst hu
          have hn := nameOf_of_getOb hg
          cases hv with
          | wh hv =>
          simp only [HandR, hn, Option.getD_none] at hv
          obtain ⟨hgood0, ho⟩ := hh.obs dd j _ hn
          obtain ⟨_, a, c, rfl, hlc, hcase⟩ := hv
          obtain ⟨hgood, a', c', hv', hlc', e⟩ := e
          have ha : a = a' ∧ l0.length = y.length ∧ c = c' := by simpa using hv'
          obtain ⟨rfl, hlen, rfl⟩ := ha
          have hnn : nameOf st.1 dd j ≠ none := hne dd j (by rw [hn]; simp)
          refine ⟨[(dd, j, .row k' (ver' + 1) y)], [], [], by simp, rfl, length_putOb, fun d' j' => ?_, fun p hp => ?_, ?_, fun G2 ow2 hG _ => ⟨fun p hp => ?_, fun i o hi => by simp at hi⟩⟩
          · rw [nameOf_putOb hnn]
            by_cases hd : d' = dd ∧ j' = j
            · exact .inl ⟨_, List.mem_singleton.2 rfl, hd.1.symm, hd.2.symm, by rw [if_pos hd]⟩
            · refine .inr ⟨fun p hp hx => ?_, by rw [if_neg hd]⟩
              have : p = (dd, j, OB.row k' (ver' + 1) y) := by simpa using hp
              subst this
              exact hd ⟨hx.1.symm, hx.2.symm⟩
          · have : p = (dd, j, OB.row k' (ver' + 1) y) := by simpa using hp
            subst this
            simp only
            rw [hn]
            exact ⟨trivial, ⟨rfl, hlen⟩, trivial⟩
          · rcases e with ⟨rfl, _, _, rfl⟩ | ⟨b, o, r, et, rfl, rfl, _⟩
            · rcases hcase with ⟨hG0, _⟩ | ⟨_, _, _, _, _, hx, _⟩
              · simp [putBlocks, posBlocks, hG0]
              · cases hx
            · rcases hcase with ⟨_, hx, _⟩ | ⟨b', o', o'', r', hG0, hx, _⟩
              · cases hx
              · cases hx
                simp [putBlocks, posBlocks, hG0]
          · have : p = (dd, j, OB.row k' (ver' + 1) y) := by simpa using hp
            subst this
            have hG := hG _ (List.mem_singleton.2 rfl)
            simp only at hG ⊢
            refine ⟨hgood, ?_⟩
            rw [hG]
            rcases e with ⟨rfl, hy, _, rfl⟩ | ⟨b, o, r, et, rfl, rfl, hb, hel, hs⟩
            · rcases hcase with ⟨hG0, _⟩ | ⟨_, _, _, _, _, hx, _⟩
              · rw [hG0]; exact hy
              · cases hx
            · rcases hcase with ⟨_, hx, _⟩ | ⟨b', o', o'', r', hG0, hx, hr', ho', _⟩
              · cases hx
              · cases hx
                rw [hG0]
                refine ⟨r, et, hb, ?_⟩
                by_cases hc0 : 0 < c
                · have := ho' hc0
                  rw [Nat.zero_mul, Nat.add_zero] at this
                  rw [← this]; exact hel
                · have hy : y = [] := List.eq_nil_of_length_eq_zero (by omega)
                  subst hy
                  refine ⟨?_, fun i hi => by simp at hi⟩
                  simp only [hG0] at ho
                  obtain ⟨r0, et0, hb0, hel0⟩ := ho
                  obtain ⟨r1, hb1, hs1⟩ := hc _ _ _ _ hb0
                  rw [hb] at hb1
                  cases hb1
                  have := hel0.1
                  simp
                  omega
        · cases hu
      · cases hu
    | _ => simp [unOut] at hu
  | .box l, svs, vs, hs, y, fp, e, st, st', hne, hu => by
    obtain ⟨b, o, r, et, fp', rfl, rfl, hb, hsz, e⟩ := e
    obtain ⟨s, rfl, hv⟩ := hs.single
    cases s with
    | bp dd j c =>
      simp only [unOut] at hu
      split at hu
      · rename_i cells0 hg
        split at hu
        · rename_i hc0
          subst hc0
          simp only [Option.some.injEq] at hu
          subst hu
          have hn := nameOf_of_getOb hg
          cases hv with
          | bp hv =>
          simp only [hn] at hv
          obtain ⟨b', o', hG0, hx⟩ := hv
          have hx : b = b' ∧ o = o' := by simpa using hx
          obtain ⟨rfl, rfl⟩ := hx
          have hnn : nameOf st.1 dd j ≠ none := hne dd j (by rw [hn]; simp)
          obtain ⟨ps, hl, hf, hr⟩ := unpk_rep l e d st.2.length
          refine ⟨[(dd, j, .box (unpk d l y st.2.length).1)], ps, (unpk d l y st.2.length).2, rfl, hl, length_putOb, fun d' j' => ?_, fun p hp => ?_, ?_, fun G2 ow2 hG hN => ?_⟩
          · rw [nameOf_putOb hnn]
            by_cases hd : d' = dd ∧ j' = j
            · exact .inl ⟨_, List.mem_singleton.2 rfl, hd.1.symm, hd.2.symm, by rw [if_pos hd]⟩
            · refine .inr ⟨fun p hp hx => ?_, by rw [if_neg hd]⟩
              have : p = (dd, j, OB.box (unpk d l y st.2.length).1) := by simpa using hp
              subst this
              exact hd ⟨hx.1.symm, hx.2.symm⟩
          · have : p = (dd, j, OB.box (unpk d l y st.2.length).1) := by simpa using hp
            subst this
            simp only
            rw [hn]
            exact ⟨trivial, trivial, trivial⟩
          · simp [putBlocks, posBlocks, hG0, hf]
          · obtain ⟨r1, r2⟩ := hr G2 ow2 hN
            refine ⟨fun p hp => ?_, r2⟩
            have : p = (dd, j, OB.box (unpk d l y st.2.length).1) := by simpa using hp
            subst this
            have hG := hG _ (List.mem_singleton.2 rfl)
            simp only at hG ⊢
            have hlen : (unpk d l y st.2.length).1.length = l.len := by rw [r1.1, sub_length hsz]
            refine ⟨b, o, r, et, by rw [hG, hG0], hb, by omega, fun i hi hr' => ?_⟩
            have hi2 : i < (sub r o l.len).length := by rw [sub_length hsz]; omega
            have e1 : (sub r o l.len)[i] = r[o + i] := by
              have := sub_getElem (r := r) (o := o) (n := l.len) (i := i) (by omega)
              rw [List.getElem?_eq_getElem hi2, Array.getElem?_eq_getElem (by omega)] at this
              exact Option.some.inj this
            rw [← e1]
            exact r1.2 i hi hi2
        · cases hu
      · cases hu
    | _ => simp [unOut] at hu
  | .agg l, svs, vs, hs, y, fp, e, st, st', hne, hu => by
    obtain ⟨cs, rfl, e⟩ := e
    obtain ⟨s, rfl, hv⟩ := hs.single
    cases s with
    | agg ss =>
      simp only [unOut] at hu
      obtain ⟨us, hx, hus⟩ := hv.agg_inv
      have hx : cs = us := by simpa using hx
      subst hx
      exact unOut_rep hh hc d l hus e hne hu
    | _ => simp [unOut] at hu
  | .fn f n l, svs, vs, hs, y, fp, e, st, st', hne, hu => by
    obtain ⟨xs, ys, rfl, _, e⟩ := e
    obtain ⟨s, rfl, hv⟩ := hs.single
    cases s with
    | fn g a b =>
      simp only [unOut] at hu
      obtain ⟨us, zs, hx, hus, hzs⟩ := hv.fn_inv
      have hx : f = g ∧ xs = us ∧ ys = zs := by simpa using hx
      obtain ⟨rfl, rfl, rfl⟩ := hx
      exact unOut_rep hh hc d l (hus.append hzs) e hne hu
    | _ => simp [unOut] at hu
  | .cons a b, svs, vs, hs, y, fp, e, st, st', hne, hu => by
    obtain ⟨v, r, f1, f2, rfl, rfl, e1, e2⟩ := e
    match svs, hs, hu with
    | [], hs, _ => have := hs.1; simp at this
    | s :: svs, hs, hu =>
      obtain ⟨v', r', hx, hv, hr⟩ := hs.uncons
      simp only [List.cons.injEq] at hx
      obtain ⟨rfl, rfl⟩ := hx
      simp only [unOut] at hu
      split at hu
      · rename_i st1 h1
        obtain ⟨p1, s1, n1, q1⟩ := unOut_rep hh hc d a (.cons hv .nil) e1 hne h1
        obtain ⟨p2, s2, n2, q2⟩ := unOut_rep hh hc d b hr e2 (st := st1) (fun d' j' hx => by
          rcases q1.names d' j' with ⟨p, _, _, _, e⟩ | ⟨_, e⟩
          · rw [e]; simp
          · rw [e]; exact hne d' j' hx) hu
        refine ⟨p1 ++ p2, s1 ++ s2, n1 ++ n2, by rw [q2.obs, q1.obs, List.append_assoc], by simp [q1.plen, q2.plen], by rw [q2.len, q1.len], fun d' j' => ?_, fun p hp => ?_, ?_, fun G2 ow2 hG hN => ?_⟩
        · rcases q2.names d' j' with ⟨p, hp, e3, e4, e5⟩ | ⟨hno, e3⟩
          · exact .inl ⟨p, List.mem_append.2 (.inr hp), e3, e4, e5⟩
          · rcases q1.names d' j' with ⟨p, hp, e4, e5, e6⟩ | ⟨hno', e4⟩
            · exact .inl ⟨p, List.mem_append.2 (.inl hp), e4, e5, by rw [e3, e6]⟩
            · refine .inr ⟨fun p hp => ?_, by rw [e3, e4]⟩
              rcases List.mem_append.1 hp with hp | hp
              · exact hno' p hp
              · exact hno p hp
        · rcases List.mem_append.1 hp with hp | hp
          · exact q1.old p hp
          · exact q2.old p hp
        · have e3 : putBlocks G (p1 ++ p2) = putBlocks G p1 ++ putBlocks G p2 := by simp [putBlocks]
          have e4 : posBlocks (s1 ++ s2) = posBlocks s1 ++ posBlocks s2 := by simp [posBlocks]
          rw [e3, e4]
          refine (q1.blocks.append q2.blocks).trans ?_
          rw [List.append_assoc, List.append_assoc]
          refine List.Perm.append_left _ ?_
          rw [← List.append_assoc, ← List.append_assoc]
          exact List.Perm.append_right _ List.perm_append_comm
        · obtain ⟨a1, a2⟩ := q1.rep G2 ow2 (fun p hp => hG p (List.mem_append.2 (.inl hp))) (hN.left q1.plen)
          have hN2 := hN.right q1.plen
          have e3 : st.2.length + n1.length = st1.2.length := by rw [q1.obs]; simp
          rw [e3] at hN2
          obtain ⟨b1, b2⟩ := q2.rep G2 ow2 (fun p hp => hG p (List.mem_append.2 (.inr hp))) hN2
          refine ⟨fun p hp => ?_, fun i o hi => ?_⟩
          · rcases List.mem_append.1 hp with hp | hp
            · exact a1 p hp
            · exact b1 p hp
          · by_cases hlt : i < n1.length
            · rw [List.getElem?_append_left hlt] at hi
              exact a2 i o hi
            · rw [List.getElem?_append_right (by omega)] at hi
              have := b2 _ o hi
              rw [← e3, Nat.add_assoc, show n1.length + (i - n1.length) = i by omega] at this
              exact this
      · cases hu

end Go.Pev
