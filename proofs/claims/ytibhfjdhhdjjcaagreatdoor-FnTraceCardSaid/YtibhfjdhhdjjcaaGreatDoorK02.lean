/-
  PEV, part 16: calls.
-/
import Derived.Test.YtibhfjdhhdjjcaaGreatDoorK01
import Derived.LoopN
import Derived.Orders
import Derived.Test.YtibhfjdhhdjjcaaGreatDoorK00
import Derived.Below
import Derived.Sort.Grow
import Derived.Deep.Draws
set_option linter.unusedSimpArgs false
set_option linter.unusedVariables false
section
namespace Go.Pev
def Laid (L : List (Nat × Obj)) (I : Nat → Prop) (h : Array Obj) : Prop := ∀ p ∈ L, ¬ I p.1 ∧ h[p.1]? = some p.2
def retV (l : List Value) : Value := match l with | [v] => v | l => .tuple l.toArray
def pathV (h : Array Obj) : Value → List Nat → Option Value
 | v, [] => some v
 | .pointer (some ⟨b, o, none⟩), i :: r => (match h[b]? with | some (.cells cs _ _) => (match cs[o + i]? with | some v => pathV h v r | none => none) | _ => none)
 | _, _ => none
def caughtV (h : Array Obj) (v : Value) (c : Nat) (p : List Nat) : Option Value :=
 match v with
 | .func _ xs ys => (match (xs.toList ++ ys.toList)[c]? with | some v => pathV h v p | none => none)
 | _ => none
def AlR (h : Array Obj) (al : List (Nat × Nat × Nat × List Nat)) (vs : List Value) : Prop :=
 ∀ q ∈ al, ∃ v t, vs[q.1]? = some v ∧ vs[q.2.1]? = some t ∧ caughtV h t q.2.2.1 q.2.2.2 = some v
theorem AlR.nil {h : Array Obj} {vs : List Value} : AlR h [] vs := fun q hq => by cases hq
theorem path_sound {F : Nat → Prop} {G : Gh} {ow : OW} {h : Array Obj} (hh : HRep F G ow h) : (p : List Nat) → {s s' : SV} → {v : Value} → Sv F G ow h s v → pathOf ow s p = some s' → ∃ v', pathV h v p = some v' ∧ Sv F G ow h s' v'
 | [], s, s', v, hs, e => by
  simp only [pathOf, Option.some.injEq] at e
  subst e
  exact ⟨v, rfl, hs⟩
 | i :: r, s, s', v, hs, e => by
  cases s with
  | bp d j c =>
   simp only [pathOf] at e
   split at e
   ·rename_i cells hb
    split at e
    ·rename_i t ht
     have hn := nameOf_of_getOb hb
     cases hs with
     | bp hv =>
     rw [hn] at hv
     obtain ⟨b, o, hG, rfl⟩ := hv
     obtain ⟨_, b', o', rr, et, hG', hcell, hlen, hc⟩ := hh.obs d j _ hn
     rw [hG] at hG'
     obtain ⟨rfl, rfl⟩ : b = b' ∧ o = o' := by simpa using hG'
     obtain ⟨hi, rfl⟩ := List.getElem?_eq_some_iff.1 ht
     have hr : o + (c + i) < rr.size := by omega
     have hsv := hc (c + i) hi hr
     obtain ⟨v', h1, h2⟩ := path_sound hh r hsv e
     refine ⟨v', ?_, h2⟩
     have e1 : o + c + i = o + (c + i) := by omega
     simp only [pathV, hcell, e1, Array.getElem?_eq_getElem hr]
     exact h1
    ·cases e
   ·cases e
  | _ => simp [pathOf] at e
theorem caught_sound {F : Nat → Prop} {G : Gh} {ow : OW} {h : Array Obj} (hh : HRep F G ow h) {s s' : SV} {v : Value} (hs : Sv F G ow h s v) {c : Nat} {p : List Nat} (e : caughtBy ow s c p = some s') : ∃ v', caughtV h v c p = some v' ∧ Sv F G ow h s' v' := by
 cases s with
 | fn f a b =>
  simp only [caughtBy] at e
  split at e
  ·rename_i t ht
   cases hs with
   | fn l1 l2 h1 h2 =>
   rename_i xs ys
   have hall : Svs F G ow h (a ++ b) (xs ++ ys) := ⟨by simp [l1, l2], fun i k1 k2 => by
    by_cases hi : i < a.length
    ·rw [List.getElem_append_left hi, List.getElem_append_left (by omega)]
     exact h1 i hi (by omega)
    ·rw [List.getElem_append_right (by omega), List.getElem_append_right (by omega)]
     have e : i - xs.length = i - a.length := by omega
     simp only [e]
     simp only [List.length_append] at k1 k2
     exact h2 (i - a.length) (by omega) (by omega)⟩
   obtain ⟨hi, rfl⟩ := List.getElem?_eq_some_iff.1 ht
   have hi2 : c < (xs ++ ys).length := by rw [← hall.1]; exact hi
   obtain ⟨v', q1, q2⟩ := path_sound hh p (hall.2 c hi hi2) e
   refine ⟨v', ?_, q2⟩
   simp only [caughtV, List.getElem?_eq_getElem hi2]
   exact q1
  ·cases e
 | _ => simp [caughtBy] at e
theorem sameBp_eq {F : Nat → Prop} {G : Gh} {ow : OW} {h : Array Obj} {s s' : SV} {v v' : Value} (hs : Sv F G ow h s v) (hs' : Sv F G ow h s' v') (e : sameBp ow s s' = true) : v = v' := by
 cases s with
 | bp d j c =>
  cases s' with
  | bp d' j' c' =>
   simp only [sameBp, Bool.and_eq_true, beq_iff_eq] at e
   obtain ⟨⟨⟨rfl, rfl⟩, rfl⟩, hb⟩ := e
   unfold boxAt at hb
   split at hb
   ·rename_i cells hg
    have hn := nameOf_of_getOb hg
    cases hs with
    | bp hv =>
    cases hs' with
    | bp hv' =>
    rw [hn] at hv hv'
    obtain ⟨b, o, hG, rfl⟩ := hv
    obtain ⟨b', o', hG', rfl⟩ := hv'
    rw [hG] at hG'
    obtain ⟨rfl, rfl⟩ : b = b' ∧ o = o' := by simpa using hG'
    rfl
   ·cases hb
  | _ => simp [sameBp] at e
 | _ => simp [sameBp] at e
theorem alOk_sound {F : Nat → Prop} {G : Gh} {ow : OW} {h : Array Obj} (hh : HRep F G ow h) {sl : List SV} {vs : List Value} (hs : Svs F G ow h sl vs) {al : List (Nat × Nat × Nat × List Nat)} (e : alOk al sl ow = true) : AlR h al vs := by
 intro q hq
 have e1 := (List.all_eq_true.1 e) q hq
 unfold alOk1 at e1
 split at e1
 ·rename_i s t hs1 ht1
  split at e1
  ·rename_i s' hc
   obtain ⟨i1, rfl⟩ := List.getElem?_eq_some_iff.1 hs1
   obtain ⟨i2, rfl⟩ := List.getElem?_eq_some_iff.1 ht1
   have j1 : q.1 < vs.length := by rw [← hs.1]; exact i1
   have j2 : q.2.1 < vs.length := by rw [← hs.1]; exact i2
   obtain ⟨v', q1, q2⟩ := caught_sound hh (hs.2 _ i2 j2) hc
   have := sameBp_eq (hs.2 _ i1 j1) q2 e1
   exact ⟨vs[q.1], vs[q.2.1], List.getElem?_eq_getElem j1, List.getElem?_eq_getElem j2, by rw [q1, this]⟩
  ·cases e1
 ·cases e1
theorem fixAl_sound {F : Nat → Prop} {G : Gh} {ow : OW} {h : Array Obj} (hh : HRep F G ow h) {vs : List Value} : (al : List (Nat × Nat × Nat × List Nat)) → {sl : List SV} → Svs F G ow h sl vs → AlR h al vs → Svs F G ow h (fixAl ow al sl) vs
 | [], sl, hs, _ => hs
 | q :: r, sl, hs, ha => by
  obtain ⟨v, t, h1, h2, h3⟩ := ha q (by simp)
  refine fixAl_sound hh r ?_ fun q' hq' => ha q' (by simp [hq'])
  split
  ·rename_i t' ht
   split
   ·rename_i s hc
    obtain ⟨i2, rfl⟩ := List.getElem?_eq_some_iff.1 ht
    have j2 : q.2.1 < vs.length := by rw [← hs.1]; exact i2
    obtain ⟨v', q1, q2⟩ := caught_sound hh (hs.2 _ i2 j2) hc
    rw [List.getElem?_eq_getElem j2] at h2
    rw [Option.some.inj h2, h3] at q1
    cases q1
    refine ⟨by simp [hs.1], fun i k1 k2 => ?_⟩
    by_cases hi : q.1 = i
    ·subst hi
     obtain ⟨_, e⟩ := List.getElem?_eq_some_iff.1 h1
     simp only [List.getElem_set_self, e]
     exact q2
    ·rw [List.getElem_set_ne hi]
     exact hs.2 i (by simpa using k1) k2
   ·exact hs
  ·exact hs
def SigHolds (P : Program) (L : List (Nat × Obj)) (f : FuncId) (sg : Sig) : Prop :=
 (∃ fn, P.funcs[f]? = some fn ∧ (fn.name == "runtime.NumGoroutine") = false ∧ fn.body.isNone = false) ∧
 ∀ (w : World) (F : Nat → Prop) (x : sg.args.T) (vs : List Value) (fp : List Nat) (y : sg.res.T × sg.args.Out), (∀ b, F b → b < w.heap.size) → Laid L (· ∈ fp) w.heap → fp.Nodup → (∀ b ∈ fp, ¬ F b) →
  ShR w.heap (fun b => ¬ FP F fp b) sg.args x vs fp → sg.den x = some y → AlR w.heap sg.al vs →
  Calls P f vs.toArray w fun e w' => ∃ rs fp1 fp2, e = .returned (retV rs) ∧ ShR w'.heap (fun b => ¬ FP F (fp1 ++ fp2) b) sg.res y.1 rs fp1 ∧ OutR w'.heap (fun b => ¬ FP F (fp1 ++ fp2) b) sg.args y.2 vs fp2 ∧
   (fp1 ++ fp2).Nodup ∧ (∀ b ∈ fp1 ++ fp2, b ∈ fp ∨ w.heap.size ≤ b) ∧ Kept (· ∈ fp) w w'
theorem Calls.mono {P : Program} {f : FuncId} {args : Array Value} {w : World} {R R' : Ending → World → Prop} (h : Calls P f args w R) (hr : ∀ e w', R e w' → R' e w') : Calls P f args w R' :=
 fun cs => let ⟨e, w', fr, r, s⟩ := h cs; ⟨e, w', fr, hr _ _ r, s⟩
theorem nameOf_thaw : (old new : OW) → (d j : Nat) → nameOf (thaw old new) d j = (match nameOf old d j, nameOf new d j with | some o, some n => some (thawOb o n) | _, n => n) := by
 have hL : (a b : List (Option OB)) → (j : Nat) → (thawL a b)[j]? = (match a[j]?, b[j]? with | some o, some n => some (thawOb o n) | _, n => n) := by
  intro a
  induction a with
  | nil => intro b j; cases b <;> simp [thawL]
  | cons o os ih =>
   intro b j
   cases b with
   | nil => simp [thawL]
   | cons n ns =>
    cases j with
    | zero => simp [thawL]
    | succ j => simp [thawL, ih]
 intro old
 induction old with
 | nil => intro new d j; cases new <;> simp [thaw, nameOf]
 | cons o os ih =>
  intro new d j
  cases new with
  | nil => simp [thaw, nameOf]
  | cons n ns =>
   cases d with
   | zero => simp [thaw, nameOf, hL]
   | succ d => simpa [thaw, nameOf] using ih ns d j
theorem length_thaw : (old new : OW) → (thaw old new).length = new.length
 | [], new => by cases new <;> simp [thaw]
 | o :: os, [] => by simp [thaw]
 | o :: os, n :: ns => by simp [thaw, length_thaw os ns]
theorem thaw_taken {ow ow1 : OW} (hT : Taken ow ow1) : Taken ow (thaw ow ow1) ∧ ∀ G b, TkB G ow (thaw ow ow1) b ↔ TkB G ow ow1 b := by
 have key : ∀ d j, nameOf (thaw ow ow1) d j = nameOf ow d j ∨ (nameOf (thaw ow ow1) d j = nameOf ow1 d j) := by
  intro d j
  rw [nameOf_thaw]
  rcases hT.names d j with e | ⟨_, e⟩ | ⟨k, ver, l, e1, e2⟩ | ⟨s, l, k, l', e1, e2, _⟩
  ·rw [e]
   cases h : nameOf ow d j with
   | none => exact .inl rfl
   | some o =>
    left
    cases o with
    | none => rfl
    | some x =>
     cases x with
     | nrow s l foc => cases foc <;> rfl
     | _ => rfl
  ·right
   rw [e]
   cases h : nameOf ow d j with
   | none => rfl
   | some o =>
    cases o with
    | none => rfl
    | some x =>
     cases x with
     | nrow s l foc => cases foc <;> rfl
     | _ => rfl
  ·left
   rw [e1, e2]
   rfl
  ·left
   rw [e1, e2]
   rfl
 have knone : ∀ d j, isOwn (nameOf ow d j) → (nameOf (thaw ow ow1) d j = some none ↔ nameOf ow1 d j = some none) := by
  intro d j hi
  rw [nameOf_thaw]
  rcases hT.names d j with e | ⟨_, e⟩ | ⟨k, ver, l, e1, e2⟩ | ⟨s, l, k, l', e1, e2, _⟩
  ·rw [e]
   generalize nameOf ow d j = x at hi
   match x, hi with
   | some (some (.box _)), _ => simp [thawOb]
   | some (some (.row _ _ _)), _ => simp [thawOb]
   | some (some (.nrow _ _ none)), _ => simp [thawOb]
   | some (some (.nrow _ _ (some _))), _ => simp [thawOb]
  ·rw [e]
   generalize nameOf ow d j = x at hi
   match x, hi with
   | some (some (.box _)), _ => simp [thawOb]
   | some (some (.row _ _ _)), _ => simp [thawOb]
   | some (some (.nrow _ _ none)), _ => simp [thawOb]
   | some (some (.nrow _ _ (some _))), _ => simp [thawOb]
  ·rw [e1, e2]; simp [thawOb]
  ·rw [e1, e2]; simp [thawOb]
 refine ⟨⟨by rw [length_thaw, hT.len], fun d j => ?_⟩, fun G b => ?_⟩
 ·rcases key d j with e | e
  ·exact .inl e
  ·rw [e]; exact hT.names d j
 ·constructor
  ·rintro ⟨d, j, i, o, hi, hg, hn⟩
   exact ⟨d, j, i, o, hi, hg, (knone d j hi).1 hn⟩
  ·rintro ⟨d, j, i, o, hi, hg, hn⟩
   exact ⟨d, j, i, o, hi, hg, (knone d j hi).2 hn⟩
theorem PayR.any {h : Array Obj} {ok ok' : Nat → Prop} {k : Kd} (hk : k.allOwn = true) {x : k.T} {v : Value} (e : PayR h ok k x v) : PayR h ok' k x v := ⟨Rep.any_heap k hk e.1, e.2⟩
theorem RowR.any {h : Array Obj} {ok ok' : Nat → Prop} {k : Kd} (hk : k.allOwn = true) {l : List k.T} {v : Value} {fp : List Nat} (e : RowR h ok k l v fp) : RowR h ok' k l v fp := by
 obtain ⟨hg, a, c, hv, hlc, e⟩ := e
 refine ⟨hg, a, c, hv, hlc, ?_⟩
 rcases e with e | ⟨b, o, r, et, ha, hf, hb, hel, hs⟩
 ·exact .inl e
 ·exact .inr ⟨b, o, r, et, ha, hf, hb, hel.mono fun x cs hx => Rep.any_heap k hk hx, hs⟩
theorem ShR.any {h : Array Obj} {ok ok' : Nat → Prop} : (s : Sh) → s.fresh = true → {x : s.T} → {vs : List Value} → {fp : List Nat} → ShR h ok s x vs fp → ShR h ok' s x vs fp
 | .pur _, hs, _, _, _, e => by obtain ⟨v, h1, h2, e⟩ := e; exact ⟨v, h1, h2, e.any hs⟩
 | .own _, hs, _, _, _, e => by obtain ⟨v, h1, e⟩ := e; exact ⟨v, h1, e.any hs⟩
 | .row _, hs, _, _, _, e => by obtain ⟨v, h1, e⟩ := e; exact ⟨v, h1, e.any hs⟩
 | .rows s, hs, _, _, _, e | .nrw s, hs, _, _, _, e => by
  obtain ⟨v, hv, hel, a, c, ha, hl, e⟩ := e
  refine ⟨v, hv, hel, a, c, ha, hl, ?_⟩
  rcases e with e | ⟨b, o, r, et, fps, ha, hf, hr, hc, hn, hj, he⟩
  ·exact .inl e
  ·exact .inr ⟨b, o, r, et, fps, ha, hf, hr, hc, hn, hj, fun i hi hi' => ShR.any s hs (he i hi hi')⟩
 | .box l, hs, _, _, _, e => by obtain ⟨b, o, r, et, fp', h1, h2, h3, h4, e⟩ := e; exact ⟨b, o, r, et, fp', h1, h2, h3, h4, ShR.any l hs e⟩
 | .agg l, hs, _, _, _, e => by obtain ⟨cs, h1, e⟩ := e; exact ⟨cs, h1, ShR.any l hs e⟩
 | .fn _ _ l, hs, _, _, _, e => by obtain ⟨xs, ys, h1, h2, e⟩ := e; exact ⟨xs, ys, h1, h2, ShR.any l hs e⟩
 | .ign, _, _, _, _, e => e
 | .nl, _, _, _, _, e => e
 | .nil, _, _, _, _, e => e
 | .cons a b, hs, _, _, _, e => by
  simp only [Sh.fresh, Bool.and_eq_true] at hs
  obtain ⟨v, r, f1, f2, h1, h2, e1, e2⟩ := e
  exact ⟨v, r, f1, f2, h1, h2, ShR.any a hs.1 e1, ShR.any b hs.2 e2⟩
theorem OutR.any {h : Array Obj} {ok ok' : Nat → Prop} : (s : Sh) → s.freshOut = true → {x : s.Out} → {vs : List Value} → {fp : List Nat} → OutR h ok s x vs fp → OutR h ok' s x vs fp
 | .pur _, _, _, _, _, e => e
 | .own _, _, _, _, _, e => e
 | .rows _, _, _, _, _, e => e
 | .row _, hs, _, _, _, e => by obtain ⟨v, h1, e⟩ := e; exact ⟨v, h1, e.any hs⟩
 | .nrw s, hs, _, _, _, e => ShR.any (.nrw s) hs e
 | .box l, hs, _, _, _, e => by obtain ⟨b, o, r, et, fp', h1, h2, h3, h4, e⟩ := e; exact ⟨b, o, r, et, fp', h1, h2, h3, h4, ShR.any l hs e⟩
 | .agg l, hs, _, _, _, e => by obtain ⟨cs, h1, e⟩ := e; exact ⟨cs, h1, OutR.any l hs e⟩
 | .fn _ _ l, hs, _, _, _, e => by obtain ⟨xs, ys, h1, h2, e⟩ := e; exact ⟨xs, ys, h1, h2, OutR.any l hs e⟩
 | .ign, _, _, _, _, e => e
 | .nl, _, _, _, _, e => e
 | .nil, _, _, _, _, e => e
 | .cons a b, hs, _, _, _, e => by
  simp only [Sh.freshOut, Bool.and_eq_true] at hs
  obtain ⟨v, r, f1, f2, h1, h2, e1, e2⟩ := e
  refine ⟨v, r, f1, f2, h1, h2, ?_, OutR.any b hs.2 e2⟩
  rcases e1 with e1 | ⟨h0, e1⟩
  ·exact .inl e1
  ·exact .inr ⟨h0, OutR.any a hs.1 e1⟩
abbrev Put := Nat × Nat × OB × Pl
def putBlocks (puts : List Put) : List Nat := puts.flatMap fun p => p.2.2.2.fp
def posBlocks (ps : List Pl) : List Nat := ps.flatMap Pl.fp
structure Puts (h : Array Obj) (ok : Nat → Prop) (G : Gh) (old : OW) (d : Nat) (fp : List Nat) (st st' : OW × List OB) (puts : List Put) (ps : List Pl) (new : List OB) : Prop where
 obs : st'.2 = st.2 ++ new
 plen : ps.length = new.length
 len : st'.1.length = st.1.length
 names : ∀ d' j', (∃ p ∈ puts, p.1 = d' ∧ p.2.1 = j' ∧ nameOf st'.1 d' j' = some (some p.2.2.1)) ∨ ((∀ p ∈ puts, ¬ (p.1 = d' ∧ p.2.1 = j')) ∧ nameOf st'.1 d' j' = nameOf st.1 d' j')
 old : ∀ p ∈ puts, isOwn (nameOf old p.1 p.2.1) ∧ EC (nameOf old p.1 p.2.1) (some (some p.2.2.1)) ∧ isOwn (some (some p.2.2.1))
 place : ∀ p ∈ puts, p.2.2.2.1 = G p.1 p.2.1 0 ∧ (p.2.2.2.1 = none → p.2.2.2.2 = [])
 blocks : fp.Perm (putBlocks puts ++ posBlocks ps)
 rep : ∀ (G2 : Gh) (ow2 : OW), (∀ p ∈ puts, G2 p.1 p.2.1 = p.2.2.2.pos) → Named G2 ow2 d st.2.length new ps →
  (∀ p ∈ puts, ObRep h ok G2 ow2 p.1 p.2.1 p.2.2.1) ∧ ∀ i o, new[i]? = some o → ObRep h ok G2 ow2 d (st.2.length + i) o ∧ isOwn (some (some o))
theorem Puts.none {h : Array Obj} {ok : Nat → Prop} {G : Gh} {old : OW} {d : Nat} (st : OW × List OB) : Puts h ok G old d [] st st [] [] [] :=
 ⟨by simp, rfl, rfl, fun _ _ => .inr ⟨fun p hp => by simp at hp, rfl⟩, fun p hp => by simp at hp, fun p hp => by simp at hp, List.Perm.refl _, fun _ _ _ _ => ⟨fun p hp => by simp at hp, fun i o hi => by simp at hi⟩⟩
theorem unOut_rep {F : Nat → Prop} {G : Gh} {old : OW} {w0 : World} {h : Array Obj} {ok : Nat → Prop} (hh : HRep F G old w0.heap)
  (hc : ∀ (b : Nat) (r : Array Value) (et : TypeId) (f : Nat × Nat), w0.heap[b]? = some (Obj.cells r et f) → ∃ r' : Array Value, h[b]? = some (Obj.cells r' et f) ∧ r'.size = r.size) (d : Nat) :
  (s : Sh) → {svs : List SV} → {vs : List Value} → Svs F G old w0.heap svs vs → {y : s.Out} → {fp : List Nat} → OutR h ok s y vs fp → {st st' : OW × List OB} → (∀ d' j', nameOf old d' j' ≠ none → nameOf st.1 d' j' ≠ none) →
  unOut d old s svs y st = some st' → ∃ puts ps new, Puts h ok G old d fp st st' puts ps new
 | .pur _, svs, vs, hs, y, fp, e, st, st', hne, hu => by
  obtain ⟨⟨v, rfl⟩, rfl⟩ := e
  obtain ⟨s, rfl, _⟩ := hs.single
  simp only [unOut, Option.some.injEq] at hu
  subst hu
  exact ⟨_, _, _, .none st⟩
 | .own _, svs, vs, hs, y, fp, e, st, st', hne, hu => by
  obtain ⟨⟨v, rfl⟩, rfl⟩ := e
  obtain ⟨s, rfl, _⟩ := hs.single
  simp only [unOut, Option.some.injEq] at hu
  subst hu
  exact ⟨_, _, _, .none st⟩
 | .rows _, svs, vs, hs, y, fp, e, st, st', hne, hu => by
  obtain ⟨⟨v, rfl⟩, rfl⟩ := e
  obtain ⟨s, rfl, _⟩ := hs.single
  simp only [unOut, Option.some.injEq] at hu
  subst hu
  exact ⟨_, _, _, .none st⟩
 | .ign, svs, vs, hs, y, fp, e, st, st', hne, hu => by
  obtain ⟨⟨v, rfl⟩, rfl⟩ := e
  obtain ⟨s, rfl, _⟩ := hs.single
  simp only [unOut, Option.some.injEq] at hu
  subst hu
  exact ⟨_, _, _, .none st⟩
 | .nl, svs, vs, hs, y, fp, e, st, st', hne, hu => by
  obtain ⟨⟨v, rfl⟩, rfl⟩ := e
  obtain ⟨s, rfl, _⟩ := hs.single
  simp only [unOut, Option.some.injEq] at hu
  subst hu
  exact ⟨_, _, _, .none st⟩
 | .nil, svs, vs, hs, y, fp, e, st, st', hne, hu => by
  obtain ⟨rfl, rfl⟩ := e
  have : svs = [] := List.eq_nil_of_length_eq_zero hs.1
  subst this
  simp only [unOut, Option.some.injEq] at hu
  subst hu
  exact ⟨_, _, _, .none st⟩
 | .row k, svs, vs, hs, y, fp, e, st, st', hne, hu => by
  obtain ⟨v, rfl, e⟩ := e
  obtain ⟨s, rfl, hv⟩ := hs.single
  cases s with
  | wh dd j ver path =>
   simp only [unOut] at hu
   split at hu
   ·rename_i k' ver' l0 hg
    split at hu
    ·rename_i hk
     subst hk
     simp only [Option.some.injEq] at hu
     subst hu
     have hn := nameOf_of_getOb hg
     cases hv with
     | wh hv =>
     simp only [HandR, hn, Option.getD_none] at hv
     obtain ⟨h1n, hgood0, ho⟩ := hh.obs dd j _ hn
     obtain ⟨_, a, c, rfl, hlc, hcase⟩ := hv
     obtain ⟨hgood, a', c', hv', hlc', e⟩ := e
     have ha : a = a' ∧ l0.length = y.length ∧ c = c' := by simpa using hv'
     obtain ⟨rfl, hlen, rfl⟩ := ha
     have hnn : nameOf st.1 dd j ≠ none := hne dd j (by rw [hn]; simp)
     refine ⟨[(dd, j, .row k' (ver' + 1) y, (G dd j 0, []))], [], [], by simp, rfl, length_putOb, fun d' j' => ?_, fun p hp => ?_, fun p hp => ?_, ?_, fun G2 ow2 hG _ => ⟨fun p hp => ?_, fun i o hi => by simp at hi⟩⟩
     ·rw [nameOf_putOb hnn]
      by_cases hd : d' = dd ∧ j' = j
      ·exact .inl ⟨_, List.mem_singleton.2 rfl, hd.1.symm, hd.2.symm, by rw [if_pos hd]⟩
      ·refine .inr ⟨fun p hp hx => ?_, by rw [if_neg hd]⟩
       have : p = (dd, j, OB.row k' (ver' + 1) y, (G dd j 0, [])) := by simpa using hp
       subst this
       exact hd ⟨hx.1.symm, hx.2.symm⟩
     ·have : p = (dd, j, OB.row k' (ver' + 1) y, (G dd j 0, [])) := by simpa using hp
      subst this
      simp only
      rw [hn]
      exact ⟨trivial, ⟨rfl, hlen⟩, trivial⟩
     ·have : p = (dd, j, OB.row k' (ver' + 1) y, (G dd j 0, [])) := by simpa using hp
      subst this
      exact ⟨rfl, fun _ => rfl⟩
     ·rcases e with ⟨rfl, _, _, rfl⟩ | ⟨b, o, r, et, rfl, rfl, _⟩
      ·rcases hcase with ⟨hG0, _⟩ | ⟨_, _, _, _, _, hx, _⟩
       ·simp [putBlocks, posBlocks, Pl.fp, hG0]
       ·cases hx
      ·rcases hcase with ⟨_, hx, _⟩ | ⟨b', o', o'', r', hG0, hx, _⟩
       ·cases hx
       ·cases hx
        simp [putBlocks, posBlocks, Pl.fp, hG0]
     ·have : p = (dd, j, OB.row k' (ver' + 1) y, (G dd j 0, [])) := by simpa using hp
      subst this
      have hG := hG _ (List.mem_singleton.2 rfl)
      simp only at hG ⊢
      have hG' : G2 dd j 0 = G dd j 0 := by rw [hG]; rfl
      refine ⟨by rw [hG]; exact fun i => rfl, hgood, ?_⟩
      rw [hG']
      rcases e with ⟨rfl, hy, _, rfl⟩ | ⟨b, o, r, et, rfl, rfl, hb, hel, hs⟩
      ·rcases hcase with ⟨hG0, _⟩ | ⟨_, _, _, _, _, hx, _⟩
       ·rw [hG0]; exact hy
       ·cases hx
      ·rcases hcase with ⟨_, hx, _⟩ | ⟨b', o', o'', r', hG0, hx, hr', ho', _⟩
       ·cases hx
       ·cases hx
        rw [hG0]
        refine ⟨r, et, hb, ?_⟩
        by_cases hc0 : 0 < c
        ·have := ho' hc0
         rw [Nat.zero_mul, Nat.add_zero] at this
         rw [← this]; exact hel
        ·have hy : y = [] := List.eq_nil_of_length_eq_zero (by omega)
         subst hy
         refine ⟨?_, fun i hi => by simp at hi⟩
         simp only [hG0] at ho
         obtain ⟨r0, et0, hb0, hel0⟩ := ho
         obtain ⟨r1, hb1, hs1⟩ := hc _ _ _ _ hb0
         rw [hb] at hb1
         cases hb1
         have := hel0.1
         simp
         omega
    ·cases hu
   ·cases hu
  | _ => simp [unOut] at hu
 | .nrw k, svs, vs, hs, y, fp, e, st, st', hne, hu => by
  obtain ⟨s, hvs, hv⟩ : ∃ s v, svs = [s] ∧ vs = [v] ∧ Sv F G old w0.heap s v := by
   obtain ⟨v, rfl, _⟩ := e
   obtain ⟨s, rfl, hv⟩ := hs.single
   exact ⟨s, v, rfl, rfl, hv⟩
  obtain ⟨rfl, rfl, hv⟩ := hv
  cases s with
  | wh dd j ver path =>
   simp only [unOut] at hu
   split at hu
   ·rename_i k' l0 hg
    split at hu
    ·rename_i hk
     subst hk
     simp only [Option.some.injEq] at hu
     subst hu
     have hn := nameOf_of_getOb hg
     cases hv with
     | wh hv =>
     simp only [HandR, hn, Option.getD_none] at hv
     obtain ⟨_, fps0, _, ho⟩ := hh.obs dd j _ hn
     obtain ⟨_, a, c, rfl, hlc, hcase⟩ := hv
     obtain ⟨v', hv', hel, a', c', hx, hlc', e⟩ := e
     have hv' := hv'.trans (congrArg (fun z => [z]) hx)
     have ha : a = a' ∧ l0.length = y.length ∧ c = c' := by simpa using hv'
     obtain ⟨rfl, hlen, rfl⟩ := ha
     have hnn : nameOf st.1 dd j ≠ none := hne dd j (by rw [hn]; simp)
     obtain ⟨q, hq1, hq2⟩ : ∃ q : List Nat, fp = Pl.fp (G dd j 0, q) ∧ ((G dd j 0 = none → q = []) ∧ ∀ (G2 : Gh) (ow2 : OW), G2 dd j = Pl.pos (G dd j 0, q) → ObRep h ok G2 ow2 dd j (.nrow k' y none)) := by
      rcases e with ⟨rfl, hy, _, rfl⟩ | ⟨b, o, r, et, fps, rfl, rfl, hb, hcr, hfl, hcl, hel2⟩
      ·rcases hcase with ⟨hG0, _⟩ | ⟨_, _, _, _, _, hx, _⟩
       ·refine ⟨[], by simp [Pl.fp, hG0], fun _ => rfl, fun G2 ow2 hG => ⟨hel, [], fun i => by rw [hG]; rfl, ?_⟩⟩
        have hG' : G2 dd j 0 = none := by rw [hG]; exact hG0
        rw [hG']
        exact ⟨hy, rfl, rfl⟩
       ·cases hx
      ·rcases hcase with ⟨_, hx, _⟩ | ⟨b', o', o'', r', hG0, hx, hr', ho', _⟩
       ·cases hx
       ·cases hx
        refine ⟨fps.flatten, by simp [Pl.fp, hG0], fun hz => (by rw [hG0] at hz; cases hz), fun G2 ow2 hG => ⟨hel, fps, fun i => by rw [hG]; rfl, ?_⟩⟩
        have hG' : G2 dd j 0 = some (b, o') := by rw [hG]; exact hG0
        rw [hG']
        simp only [hG0] at ho
        obtain ⟨r0, et0, hb0, hs0, _⟩ := ho
        obtain ⟨r1, hb1, hs1⟩ := hc _ _ _ _ hb0
        rw [hb] at hb1
        cases hb1
        refine ⟨r, et, hb, by rw [← hlen, hs1]; exact hs0, hfl, hcl, fun i hi hf _ => ?_, fun e cells hz => by cases hz⟩
        have := ho' (by omega)
        rw [Nat.zero_mul, Nat.add_zero] at this
        rw [← this]
        exact hel2 i hi hf
     refine ⟨[(dd, j, .nrow k' y none, (G dd j 0, q))], [], [], by simp, rfl, length_putOb, fun d' j' => ?_, fun p hp => ?_, fun p hp => ?_, by simp [putBlocks, posBlocks, hq1], fun G2 ow2 hG _ => ⟨fun p hp => ?_, fun i o hi => by simp at hi⟩⟩
     ·rw [nameOf_putOb hnn]
      by_cases hd : d' = dd ∧ j' = j
      ·exact .inl ⟨_, List.mem_singleton.2 rfl, hd.1.symm, hd.2.symm, by rw [if_pos hd]⟩
      ·refine .inr ⟨fun p hp hx => ?_, by rw [if_neg hd]⟩
       have : p = (dd, j, OB.nrow k' y none, (G dd j 0, q)) := by simpa using hp
       subst this
       exact hd ⟨hx.1.symm, hx.2.symm⟩
     ·have : p = (dd, j, OB.nrow k' y none, (G dd j 0, q)) := by simpa using hp
      subst this
      simp only
      rw [hn]
      exact ⟨trivial, ⟨rfl, hlen⟩, trivial⟩
     ·have : p = (dd, j, OB.nrow k' y none, (G dd j 0, q)) := by simpa using hp
      subst this
      exact ⟨rfl, hq2.1⟩
     ·have : p = (dd, j, OB.nrow k' y none, (G dd j 0, q)) := by simpa using hp
      subst this
      exact hq2.2 G2 ow2 (hG _ (List.mem_singleton.2 rfl))
    ·cases hu
   ·cases hu
  | _ => simp [unOut] at hu
 | .box l, svs, vs, hs, y, fp, e, st, st', hne, hu => by
  obtain ⟨b, o, r, et, fp', rfl, rfl, hb, hsz, e⟩ := e
  obtain ⟨s, rfl, hv⟩ := hs.single
  cases s with
  | bp dd j c =>
   simp only [unOut] at hu
   split at hu
   ·rename_i cells0 hg
    split at hu
    ·rename_i hc0
     subst hc0
     simp only [Option.some.injEq] at hu
     subst hu
     have hn := nameOf_of_getOb hg
     cases hv with
     | bp hv =>
     simp only [hn] at hv
     obtain ⟨b', o', hG0, hx⟩ := hv
     have hx : b = b' ∧ o = o' := by simpa using hx
     obtain ⟨rfl, rfl⟩ := hx
     have hnn : nameOf st.1 dd j ≠ none := hne dd j (by rw [hn]; simp)
     obtain ⟨ps, hl, hf, hr⟩ := unpk_rep l e d st.2.length
     refine ⟨[(dd, j, .box (unpk d l y st.2.length).1, (some (b, o), []))], ps, (unpk d l y st.2.length).2, rfl, hl, length_putOb, fun d' j' => ?_, fun p hp => ?_, fun p hp => ?_, ?_, fun G2 ow2 hG hN => ?_⟩
     ·rw [nameOf_putOb hnn]
      by_cases hd : d' = dd ∧ j' = j
      ·exact .inl ⟨_, List.mem_singleton.2 rfl, hd.1.symm, hd.2.symm, by rw [if_pos hd]⟩
      ·refine .inr ⟨fun p hp hx => ?_, by rw [if_neg hd]⟩
       have : p = (dd, j, OB.box (unpk d l y st.2.length).1, (some (b, o), [])) := by simpa using hp
       subst this
       exact hd ⟨hx.1.symm, hx.2.symm⟩
     ·have : p = (dd, j, OB.box (unpk d l y st.2.length).1, (some (b, o), [])) := by simpa using hp
      subst this
      simp only
      rw [hn]
      exact ⟨trivial, trivial, trivial⟩
     ·have : p = (dd, j, OB.box (unpk d l y st.2.length).1, (some (b, o), [])) := by simpa using hp
      subst this
      exact ⟨hG0.symm, fun h => by cases h⟩
     ·simp [putBlocks, posBlocks, Pl.fp, hf]
     ·obtain ⟨r1, r2⟩ := hr G2 ow2 hN
      refine ⟨fun p hp => ?_, r2⟩
      have : p = (dd, j, OB.box (unpk d l y st.2.length).1, (some (b, o), [])) := by simpa using hp
      subst this
      have hG := hG _ (List.mem_singleton.2 rfl)
      simp only at hG ⊢
      have hlen : (unpk d l y st.2.length).1.length = l.len := by rw [r1.1, sub_length hsz]
      refine ⟨by rw [hG]; exact fun i => rfl, b, o, r, et, by rw [hG]; rfl, hb, by omega, fun i hi hr' => ?_⟩
      have hi2 : i < (sub r o l.len).length := by rw [sub_length hsz]; omega
      have e1 : (sub r o l.len)[i] = r[o + i] := by
       have := sub_getElem (r := r) (o := o) (n := l.len) (i := i) (by omega)
       rw [List.getElem?_eq_getElem hi2, Array.getElem?_eq_getElem (by omega)] at this
       exact Option.some.inj this
      rw [← e1]
      exact r1.2 i hi hi2
    ·cases hu
   ·cases hu
  | _ => simp [unOut] at hu
 | .agg l, svs, vs, hs, y, fp, e, st, st', hne, hu => by
  obtain ⟨cs, rfl, e⟩ := e
  obtain ⟨s, rfl, hv⟩ := hs.single
  cases s with
  | agg ss =>
   simp only [unOut] at hu
   obtain ⟨us, hx, hus⟩ := hv.agg_inv
   have hx : cs = us := by simpa using hx
   subst hx
   exact unOut_rep hh hc d l hus e hne hu
  | _ => simp [unOut] at hu
 | .fn f n l, svs, vs, hs, y, fp, e, st, st', hne, hu => by
  obtain ⟨xs, ys, rfl, _, e⟩ := e
  obtain ⟨s, rfl, hv⟩ := hs.single
  cases s with
  | fn g a b =>
   simp only [unOut] at hu
   obtain ⟨us, zs, hx, hus, hzs⟩ := hv.fn_inv
   have hx : f = g ∧ xs = us ∧ ys = zs := by simpa using hx
   obtain ⟨rfl, rfl, rfl⟩ := hx
   exact unOut_rep hh hc d l (hus.append hzs) e hne hu
  | _ => simp [unOut] at hu
 | .cons a b, svs, vs, hs, y, fp, e, st, st', hne, hu => by
  obtain ⟨v, r, f1, f2, rfl, rfl, e1, e2⟩ := e
  match svs, hs, hu with
  | [], hs, _ => have := hs.1; simp at this
  | s :: svs, hs, hu =>
   obtain ⟨v', r', hx, hv, hr⟩ := hs.uncons
   simp only [List.cons.injEq] at hx
   obtain ⟨rfl, rfl⟩ := hx
   simp only [unOut] at hu
   rcases e1 with ⟨h0, rfl⟩ | ⟨h0, e1⟩
   ·rw [if_pos h0] at hu
    exact unOut_rep hh hc d b hr e2 hne hu
   rw [if_neg (by rw [h0]; simp)] at hu
   split at hu
   ·rename_i st1 h1
    obtain ⟨p1, s1, n1, q1⟩ := unOut_rep hh hc d a (.cons hv .nil) e1 hne h1
    obtain ⟨p2, s2, n2, q2⟩ := unOut_rep hh hc d b hr e2 (st := st1) (fun d' j' hx => by
     rcases q1.names d' j' with ⟨p, _, _, _, e⟩ | ⟨_, e⟩
     ·rw [e]; simp
     ·rw [e]; exact hne d' j' hx) hu
    refine ⟨p1 ++ p2, s1 ++ s2, n1 ++ n2, by rw [q2.obs, q1.obs, List.append_assoc], by simp [q1.plen, q2.plen], by rw [q2.len, q1.len], fun d' j' => ?_, fun p hp => ?_, fun p hp => ?_, ?_, fun G2 ow2 hG hN => ?_⟩
    ·rcases q2.names d' j' with ⟨p, hp, e3, e4, e5⟩ | ⟨hno, e3⟩
     ·exact .inl ⟨p, List.mem_append.2 (.inr hp), e3, e4, e5⟩
     ·rcases q1.names d' j' with ⟨p, hp, e4, e5, e6⟩ | ⟨hno', e4⟩
      ·exact .inl ⟨p, List.mem_append.2 (.inl hp), e4, e5, by rw [e3, e6]⟩
      ·refine .inr ⟨fun p hp => ?_, by rw [e3, e4]⟩
       rcases List.mem_append.1 hp with hp | hp
       ·exact hno' p hp
       ·exact hno p hp
    ·rcases List.mem_append.1 hp with hp | hp
     ·exact q1.old p hp
     ·exact q2.old p hp
    ·rcases List.mem_append.1 hp with hp | hp
     ·exact q1.place p hp
     ·exact q2.place p hp
    ·have e3 : putBlocks (p1 ++ p2) = putBlocks p1 ++ putBlocks p2 := by simp [putBlocks]
     have e4 : posBlocks (s1 ++ s2) = posBlocks s1 ++ posBlocks s2 := by simp [posBlocks]
     rw [e3, e4]
     refine (q1.blocks.append q2.blocks).trans ?_
     rw [List.append_assoc, List.append_assoc]
     refine List.Perm.append_left _ ?_
     rw [← List.append_assoc, ← List.append_assoc]
     exact List.Perm.append_right _ List.perm_append_comm
    ·obtain ⟨a1, a2⟩ := q1.rep G2 ow2 (fun p hp => hG p (List.mem_append.2 (.inl hp))) (hN.left q1.plen)
     have hN2 := hN.right q1.plen
     have e3 : st.2.length + n1.length = st1.2.length := by rw [q1.obs]; simp
     rw [e3] at hN2
     obtain ⟨b1, b2⟩ := q2.rep G2 ow2 (fun p hp => hG p (List.mem_append.2 (.inr hp))) hN2
     refine ⟨fun p hp => ?_, fun i o hi => ?_⟩
     ·rcases List.mem_append.1 hp with hp | hp
      ·exact a1 p hp
      ·exact b1 p hp
     ·by_cases hlt : i < n1.length
      ·rw [List.getElem?_append_left hlt] at hi
       exact a2 i o hi
      ·rw [List.getElem?_append_right (by omega)] at hi
       have := b2 _ o hi
       rw [← e3, Nat.add_assoc, show n1.length + (i - n1.length) = i by omega] at this
       exact this
   ·cases hu
end Go.Pev
end

section
/-
 PEV, part 17: a call whose contract is known.
-/
namespace Go.Pev
theorem pad_ret {h : Array Obj} {ok : Nat → Prop} {G : Gh} {ow : OW} {l : List SV} {vs : List Value} (hs : SvsR h ok G ow l vs) : SvRep h ok G ow (pad l) (retV vs) := by
 obtain ⟨hl, hs⟩ := hs
 match l, vs, hl, hs with
 | [], [], hl, hs => exact .tup (l := []) (vs := []) rfl hs
 | [a], [v], _, hs => exact hs 0 (by simp) (by simp)
 | a :: b :: l, v :: u :: vs, hl, hs => exact .tup hl hs
theorem Taken.ne {ow ow1 : OW} (hT : Taken ow ow1) {d j : Nat} (h : nameOf ow d j ≠ none) : nameOf ow1 d j ≠ none := by
 rcases hT.names d j with e | ⟨_, e⟩ | hz
 ·rw [e]; exact h
 ·rw [e]; simp
 ·obtain ⟨_, _, _, e⟩ := hz.not.2.2
  rw [e]; simp
theorem call_state {F : Nat → Prop} {G : Gh} {ow owb : OW} {w w' : World} (hh : HRep F G ow w.heap) (hF : ∀ b, F b → b < w.heap.size) {fp fps : List Nat} (hT : Taken ow owb) (hO : FpOk G ow owb fp) (hK : Kept (· ∈ fp) w w') (hnd : fps.Nodup)
  (hfps : ∀ b ∈ fps, b ∈ fp ∨ w.heap.size ≤ b) {d : Nat} {obs1 new : List OB} {ps1 ps2 : List Pl} {puts : List Put} {fp2 : List Nat} {st' : OW × List OB} {okR : Nat → Prop}
  (hP : Puts w'.heap okR G ow d fp2 (owb, obs1) st' puts ps2 new) (hl1 : ps1.length = obs1.length) (hfp : fps = posBlocks ps1 ++ fp2) {ow' : OW} (hnew : newObs st'.1 d st'.2 = some ow')
  (hokR : ∀ b r, okR b → rowCells w'.heap b = some r → ¬ F b ∧ ¬ Own G owb b ∧ b ∉ fps) {l : List SV} {vs : List Value}
  (hR : ∀ (G2 : Gh) (ow2 : OW), Named G2 ow2 d 0 obs1 ps1 → SvsR w'.heap okR G2 ow2 l vs ∧ ∀ i o, obs1[i]? = some o → ObRep w'.heap okR G2 ow2 d (0 + i) o ∧ isOwn (some (some o))) :
  ∃ G', Tr F G ow w G' ow' w' ∧ Svs F G' ow' w'.heap l vs := by
 obtain ⟨hlen', hem, hnm⟩ := newObs_some hnew
 have hobs : st'.2 = obs1 ++ new := hP.obs
 let ps := ps1 ++ ps2
 let G' : Gh := fun d' j => if st'.2 ≠ [] ∧ d' = d then (match ps[j]? with | some p => p.pos | none => fun _ => none) else
  (match puts.find? (fun p => p.1 == d' && p.2.1 == j) with | some p => p.2.2.2.pos | none => G d' j)
 have hpl : ps.length = st'.2.length := by simp [ps, hl1, hP.plen, hobs]
 have dnew : st'.2 ≠ [] → ∀ j, nameOf ow d j = none := by
  intro hne j
  have h1 : st'.1[d]? = some [] := by
   rcases hem with h | h
   ·exact absurd h hne
   ·exact h
  have h2 := nameOf_empty h1 j
  cases hx : nameOf ow d j with
  | none => rfl
  | some z =>
   have h3 : nameOf owb d j ≠ none := hT.ne (by rw [hx]; simp)
   rcases hP.names d j with ⟨p, _, _, _, e⟩ | ⟨_, e⟩
   ·rw [h2] at e; cases e
   ·rw [h2] at e; exact absurd e.symm h3
 have hfpnd : fp2.Nodup := by rw [hfp] at hnd; exact (List.nodup_append.1 hnd).2.1
 have putsnd : (putBlocks puts).Nodup := (List.nodup_append.1 (hP.blocks.nodup_iff.1 hfpnd)).1
 have uniq : ∀ p ∈ puts, ∀ q ∈ puts, p.1 = q.1 → p.2.1 = q.2.1 → p.2.2.2.pos = q.2.2.2.pos := by
  intro p hp q hq e1 e2
  obtain ⟨a1, a2⟩ := hP.place p hp
  obtain ⟨b1, b2⟩ := hP.place q hq
  rw [e1, e2] at a1
  cases hg : G q.1 q.2.1 0 with
  | none =>
   rw [hg] at a1 b1
   have e : p.2.2.2 = q.2.2.2 := Prod.ext (a1.trans b1.symm) ((a2 a1).trans (b2 b1).symm)
   rw [e]
  | some x =>
   obtain ⟨bb, oo⟩ := x
   rw [hg] at a1 b1
   obtain ⟨i, hi, rfl⟩ := List.mem_iff_getElem.1 hp
   obtain ⟨k, hk, rfl⟩ := List.mem_iff_getElem.1 hq
   have e := flat_inj (puts.map fun p => p.2.2.2) (by rw [List.flatMap_map]; exact putsnd) i k (by simpa using hi) (by simpa using hk) bb (Pl.mem.2 ⟨0, oo, by rw [List.getElem_map]; exact a1⟩) (Pl.mem.2 ⟨0, oo, by rw [List.getElem_map]; exact b1⟩)
   have e := e.1
   subst e
   rfl
 have g0 : ∀ d' j, ¬ (st'.2 ≠ [] ∧ d' = d) → (∀ p ∈ puts, ¬ (p.1 = d' ∧ p.2.1 = j)) → G' d' j = G d' j := by
  intro d' j hd hnp
  simp only [G']
  rw [if_neg hd]
  have : puts.find? (fun p => p.1 == d' && p.2.1 == j) = none := by
   rw [List.find?_eq_none]
   intro p hp
   have := hnp p hp
   simpa using this
  rw [this]
 have notd : ∀ p ∈ puts, ¬ (st'.2 ≠ [] ∧ p.1 = d) := by
  intro p hp h
  have h1 := (hP.old p hp).1
  rw [h.2, dnew h.1] at h1
  exact h1
 have gput : ∀ p ∈ puts, G' p.1 p.2.1 = p.2.2.2.pos := by
  intro p hp
  simp only [G']
  rw [if_neg (notd p hp)]
  cases hfd : puts.find? (fun q => q.1 == p.1 && q.2.1 == p.2.1) with
  | none =>
   rw [List.find?_eq_none] at hfd
   have := hfd p hp
   simp at this
  | some q =>
   have h1 := List.find?_some hfd
   simp only [Bool.and_eq_true, beq_iff_eq] at h1
   exact uniq q (List.mem_of_find?_eq_some hfd) p hp h1.1 h1.2
 have gold : ∀ d' j, nameOf ow d' j ≠ none → G' d' j 0 = G d' j 0 := by
  intro d' j hx
  have hd : ¬ (st'.2 ≠ [] ∧ d' = d) := fun h => hx (by rw [h.2]; exact dnew h.1 j)
  by_cases hp : ∃ p ∈ puts, p.1 = d' ∧ p.2.1 = j
  ·obtain ⟨p, hp, rfl, rfl⟩ := hp
   rw [gput p hp]
   exact (hP.place p hp).1
  ·rw [g0 d' j hd (fun p hp' h => hp ⟨p, hp', h⟩)]
 have gd : st'.2 ≠ [] → ∀ j, G' d j = (match ps[j]? with | some p => p.pos | none => fun _ => none) := fun hne j => by
  show (if st'.2 ≠ [] ∧ d = d then _ else _) = _
  rw [if_pos ⟨hne, rfl⟩]
 have names : ∀ d' j, (st'.2 ≠ [] ∧ d' = d ∧ nameOf ow' d' j = st'.2[j]?.map some) ∨
   (¬ (st'.2 ≠ [] ∧ d' = d) ∧ ((∃ p ∈ puts, p.1 = d' ∧ p.2.1 = j ∧ nameOf ow' d' j = some (some p.2.2.1)) ∨ ((∀ p ∈ puts, ¬ (p.1 = d' ∧ p.2.1 = j)) ∧ nameOf ow' d' j = nameOf owb d' j))) := by
  intro d' j
  rw [hnm]
  by_cases hc : d' = d ∧ st'.2 ≠ []
  ·rw [if_pos hc]; exact .inl ⟨hc.2, hc.1, rfl⟩
  ·rw [if_neg hc]
   refine .inr ⟨fun h => hc ⟨h.2, h.1⟩, ?_⟩
   exact hP.names d' j
 have ownNew : ∀ {d' j i b o : Nat}, isOwn (nameOf ow' d' j) → G' d' j i = some (b, o) →
   (st'.2 ≠ [] ∧ d' = d ∧ ∃ hj : j < ps.length, ps[j].pos i = some (b, o)) ∨ (∃ p ∈ puts, p.1 = d' ∧ p.2.1 = j ∧ p.2.2.2.pos i = some (b, o)) ∨ (isOwn (nameOf ow d' j) ∧ G d' j i = some (b, o) ∧ nameOf ow' d' j = nameOf owb d' j) := by
  intro d' j i b o hi hg
  rcases names d' j with ⟨hne, rfl, hn⟩ | ⟨hno, ⟨p, hp, rfl, rfl, hn⟩ | ⟨hnp, hn⟩⟩
  ·left
   refine ⟨hne, rfl, ?_⟩
   rw [gd hne] at hg
   cases hq : ps[j]? with
   | none => rw [hq] at hg; cases hg
   | some q =>
    rw [hq] at hg
    obtain ⟨hj, rfl⟩ := List.getElem?_eq_some_iff.1 hq
    exact ⟨hj, hg⟩
  ·right; left
   rw [gput p hp] at hg
   exact ⟨p, hp, rfl, rfl, hg⟩
  ·right; right
   rw [hn] at hi
   have e := (hT.names d' j).own hi
   rw [e] at hi
   rw [g0 d' j hno hnp] at hg
   exact ⟨hi, hg, hn⟩
 have psMem : ∀ {j i b o : Nat} (hj : j < ps.length), ps[j].pos i = some (b, o) → b ∈ posBlocks ps := fun hj h => List.mem_flatMap.2 ⟨_, List.getElem_mem hj, Pl.mem.2 ⟨_, _, h⟩⟩
 have putMem : ∀ p ∈ puts, ∀ {i b o}, p.2.2.2.pos i = some (b, o) → b ∈ putBlocks puts := fun p hp i b o hg => List.mem_flatMap.2 ⟨p, hp, Pl.mem.2 ⟨i, o, hg⟩⟩
 have hall : (posBlocks ps1 ++ (putBlocks puts ++ posBlocks ps2)).Nodup := (List.Perm.append_left (posBlocks ps1) hP.blocks).nodup_iff.1 (by rw [hfp] at hnd; exact hnd)
 have psApp : posBlocks ps = posBlocks ps1 ++ posBlocks ps2 := by simp [posBlocks, ps]
 have psnd : (posBlocks ps).Nodup := by
  rw [psApp]
  rw [List.nodup_append] at hall ⊢
  exact ⟨hall.1, (List.nodup_append.1 hall.2.1).2.1, fun a ha b hb => hall.2.2 a ha b (List.mem_append.2 (.inr hb))⟩
 have psPut : ∀ b, b ∈ posBlocks ps → b ∈ putBlocks puts → False := by
  intro b h1 h2
  rw [psApp] at h1
  rw [List.nodup_append] at hall
  rcases List.mem_append.1 h1 with h1 | h1
  ·exact hall.2.2 b h1 b (List.mem_append.2 (.inl h2)) rfl
  ·exact (List.nodup_append.1 hall.2.1).2.2 b h2 b h1 rfl
 have psFps : ∀ b, b ∈ posBlocks ps → b ∈ fps := by
  intro b h1
  rw [psApp] at h1
  rw [hfp]
  rcases List.mem_append.1 h1 with h1 | h1
  ·exact List.mem_append.2 (.inl h1)
  ·exact List.mem_append.2 (.inr (hP.blocks.mem_iff.2 (List.mem_append.2 (.inr h1))))
 have putFps : ∀ b, b ∈ putBlocks puts → b ∈ fps := fun b h1 => by
  rw [hfp]; exact List.mem_append.2 (.inr (hP.blocks.mem_iff.2 (List.mem_append.2 (.inl h1))))
 have ownU : ∀ {d' j i b o : Nat}, isOwn (nameOf ow' d' j) → nameOf ow' d' j = nameOf owb d' j → G d' j i = some (b, o) → Own G owb b := fun hi he hg => own_iff.2 ⟨_, _, _, _, by rw [← he]; exact hi, hg⟩
 have ownB : ∀ b, Own G' ow' b → Own G owb b ∨ b ∈ fps := by
  intro b hb
  obtain ⟨d', j, i, o, hi, hg⟩ := own_iff.1 hb
  rcases ownNew hi hg with ⟨_, _, hj, h⟩ | ⟨p, hp, rfl, rfl, h⟩ | ⟨h1, h2, h3⟩
  ·exact .inr (psFps b (psMem hj h))
  ·exact .inr (putFps b (putMem p hp h))
  ·exact .inl (ownU hi h3 h2)
 have fpsOwn : ∀ b ∈ fps, ¬ Own G owb b := by
  intro b hb ho
  rcases hfps b hb with h | h
  ·exact hO.notOwn hh hT h ho
  ·have := Own.lt hh (hT.own ho); omega
 have hok1 : ∀ b r, okR b → rowCells w'.heap b = some r → okF F G' ow' b ∧ rowCells w'.heap b = some r := by
  intro b r hb hr
  obtain ⟨h1, h2, h3⟩ := hokR b r hb hr
  refine ⟨⟨h1, fun ho => ?_⟩, hr⟩
  rcases ownB b ho with h | h
  ·exact h2 h
  ·exact h3 h
 have hkeep : ∀ b, b < w.heap.size → b ∉ fp → w'.heap[b]? = w.heap[b]? := fun b hb hn => hK.heap b hb hn
 have hok2 : ∀ b r, okF F G ow b → rowCells w.heap b = some r → okF F G' ow' b ∧ rowCells w'.heap b = some r := by
  intro b r hb hr
  have hlt := rowCells_lt hr
  have hnf : b ∉ fp := fun h => hb.2 (hO.own h)
  refine ⟨⟨hb.1, fun ho => ?_⟩, by unfold rowCells; rw [hkeep b hlt hnf]; exact hr⟩
  rcases ownB b ho with h | h
  ·exact hb.2 (hT.own h)
  ·rcases hfps b h with h | h
   ·exact hnf h
   ·omega
 have hsz : ∀ b r, rowCells w.heap b = some r → ∃ r', rowCells w'.heap b = some r' ∧ r'.size = r.size := by
  intro b r hr
  unfold rowCells at hr
  split at hr
  ·rename_i c et f hb
   cases hr
   obtain ⟨r', h1, h2⟩ := hK.cells b _ et f hb
   exact ⟨r', by unfold rowCells; rw [h1], h2⟩
  ·cases hr
 have hE : ∀ d' j, EC (nameOf ow d' j) (nameOf ow' d' j) := by
  intro d' j
  rcases names d' j with ⟨hne, rfl, hn⟩ | ⟨hno, ⟨p, hp, rfl, rfl, hn⟩ | ⟨hnp, hn⟩⟩
  ·rw [dnew hne j]; trivial
  ·rw [hn]; exact (hP.old p hp).2.1
  ·rw [hn]; exact (hT.names d' j).ec
 have hsv : ∀ s v, Sv F G ow w.heap s v → Sv F G' ow' w'.heap s v := fun s v e => SvRep.mono gold hE hok2 hsz e
 have hN : Named G' ow' d 0 st'.2 ps := by
  intro i o hi
  have hne : st'.2 ≠ [] := by intro h; rw [h] at hi; simp at hi
  have hlt : i < ps.length := by rw [hpl]; exact (List.getElem?_eq_some_iff.1 hi).1
  rw [Nat.zero_add]
  refine ⟨?_, ps[i], List.getElem?_eq_getElem hlt, by rw [gd hne, List.getElem?_eq_getElem hlt]⟩
  rcases names d i with ⟨_, _, hn⟩ | ⟨hno, _⟩
  ·rw [hn, hi]; rfl
  ·exact absurd ⟨hne, rfl⟩ hno
 have hN' : Named G' ow' d 0 (obs1 ++ new) (ps1 ++ ps2) := by rw [← hobs]; exact hN
 obtain ⟨r1, r2⟩ := hR G' ow' (hN'.left hl1)
 have hN2 := hN'.right hl1
 rw [Nat.zero_add] at hN2
 obtain ⟨q1, q2⟩ := hP.rep G' ow' gput hN2
 have up : ∀ {d' j : Nat} {o : OB}, nameOf ow' d' j ≠ none → ObRep w'.heap okR G' ow' d' j o → ObRep w'.heap (okF F G' ow') G' ow' d' j o := fun hx e =>
  ObRep.mono (fun _ _ _ => rfl) (fun _ _ => .refl _) hok1 (fun b r hr => ⟨r, hr, rfl⟩) rfl (fun _ _ _ _ _ => rfl) e
 have hTr : Tr F G ow w G' ow' w' := by
  refine ⟨⟨fun d' j o hn => ?_, fun d1 j1 i1 d2 j2 i2 b o1 o2 h1 h2 g1 g2 => ?_, fun b hb => ?_⟩, hsv, ?_, fun b hb => ?_, by rw [hlen', hP.len, hT.len]⟩
  ·rcases names d' j with ⟨hne, rfl, hx⟩ | ⟨hno, ⟨p, hp, rfl, rfl, hx⟩ | ⟨hnp, hx⟩⟩
   ·have ho : st'.2[j]? = some o := by
     rw [hn] at hx
     cases hq : st'.2[j]? with
     | none => simp [hq] at hx
     | some q => simp [hq] at hx; rw [hx]
    rw [hobs] at ho
    refine up (by rw [hn]; simp) ?_
    by_cases hlt : j < obs1.length
    ·rw [List.getElem?_append_left hlt] at ho
     have := (r2 j o ho).1
     rw [Nat.zero_add] at this
     exact this
    ·rw [List.getElem?_append_right (by omega)] at ho
     have := (q2 _ o ho).1
     rw [show obs1.length + (j - obs1.length) = j by omega] at this
     exact this
   ·rw [hn] at hx
    have hx : o = p.2.2.1 := by simpa using hx
    subst hx
    exact up (by rw [hn]; simp) (q1 p hp)
   ·rw [hn] at hx
    have nfp : ∀ b, Own G owb b → b ∉ fp := fun b hb h => hO.notOwn hh hT h hb
    rcases hT.names d' j with e | ⟨_, e⟩ | hz
    ·have h0 : nameOf ow d' j = some (some o) := by rw [← e, ← hx]
     refine ObRep.mono gold hE hok2 hsz (g0 d' j hno hnp) (fun hi i b c hg => ?_) (hh.obs d' j o h0)
     have hob : Own G owb b := own_iff.2 ⟨d', j, i, c, by rw [← hx]; exact hi, hg⟩
     exact hkeep b (Own.lt hh (hT.own hob)) (nfp b hob)
    ·rw [e] at hx; cases hx
    ·have hio := hz.own
     have hno2 := hz.not.1
     rw [← hx] at hz hno2
     generalize hx0 : nameOf ow d' j = x at hz hio
     match x, hio, hz with
     | some (some ob), hio, hz =>
      refine hz.rep (gold d' j (by rw [hx0]; simp)) hok2 (fun i b o1 hg => ?_) (hh.obs d' j ob hx0)
      have hob : Own G ow b := own_iff.2 ⟨d', j, i, o1, by rw [hx0]; exact hio, hg⟩
      have hlt := Own.lt hh hob
      have hnb : ¬ Own G owb b := by
       intro h
       obtain ⟨d2, j2, i2, o2, hi, hg2⟩ := own_iff.1 h
       have e3 := (hT.names d2 j2).own hi
       obtain ⟨rfl, rfl, _⟩ := hh.apart d2 j2 i2 d' j i b o2 o1 (by rw [← e3]; exact hi) (by rw [hx0]; exact hio) hg2 hg
       rw [← hx] at hi; exact hno2 hi
      have hnf : b ∉ fp := by
       intro h
       obtain ⟨d2, j2, i2, o2, hi, hg2, hn2⟩ := (hO b).1 h
       obtain ⟨rfl, rfl, _⟩ := hh.apart d2 j2 i2 d' j i b o2 o1 hi (by rw [hx0]; exact hio) hg2 hg
       rw [← hx] at hn2; cases hn2
      refine ⟨⟨hh.notF b hob, fun h => ?_⟩, hkeep b hlt hnf⟩
      rcases ownB b h with h | h
      ·exact hnb h
      ·rcases hfps b h with h | h
       ·exact hnf h
       ·omega
  ·rcases ownNew h1 g1 with ⟨n1, rfl, k1, p1⟩ | ⟨p, hp, rfl, rfl, p1⟩ | ⟨x1, k1, c1⟩
   ·rcases ownNew h2 g2 with ⟨n2, rfl, k2, p2⟩ | ⟨q, hq, rfl, rfl, p2⟩ | ⟨x2, k2, c2⟩
    ·obtain ⟨e, hnn⟩ := flat_inj ps psnd j1 j2 k1 k2 b (Pl.mem.2 ⟨_, _, p1⟩) (Pl.mem.2 ⟨_, _, p2⟩)
     subst e
     exact ⟨rfl, rfl, Pl.inj hnn p1 p2⟩
    ·exact (psPut b (psMem k1 p1) (putMem q hq p2)).elim
    ·exact absurd (ownU h2 c2 k2) (fpsOwn b (psFps b (psMem k1 p1)))
   ·rcases ownNew h2 g2 with ⟨n2, rfl, k2, p2⟩ | ⟨q, hq, rfl, rfl, p2⟩ | ⟨x2, k2, c2⟩
    ·exact (psPut b (psMem k2 p2) (putMem p hp p1)).elim
    ·obtain ⟨i, hi, rfl⟩ := List.mem_iff_getElem.1 hp
     obtain ⟨k, hk, rfl⟩ := List.mem_iff_getElem.1 hq
     obtain ⟨e, hnn⟩ := flat_inj (puts.map fun p => p.2.2.2) (by rw [List.flatMap_map]; exact putsnd) i k (by simpa using hi) (by simpa using hk) b (Pl.mem.2 ⟨_, _, by simpa using p1⟩) (Pl.mem.2 ⟨_, _, by simpa using p2⟩)
     subst e
     exact ⟨rfl, rfl, Pl.inj (by simpa using hnn) p1 p2⟩
    ·exact absurd (ownU h2 c2 k2) (fpsOwn b (putFps b (putMem p hp p1)))
   ·rcases ownNew h2 g2 with ⟨n2, rfl, k2, p2⟩ | ⟨q, hq, rfl, rfl, p2⟩ | ⟨x2, k2, c2⟩
    ·exact absurd (ownU h1 c1 k1) (fpsOwn b (psFps b (psMem k2 p2)))
    ·exact absurd (ownU h1 c1 k1) (fpsOwn b (putFps b (putMem q hq p2)))
    ·exact hh.apart d1 j1 i1 d2 j2 i2 b o1 o2 x1 x2 k1 k2
  ·rcases ownB b hb with h | h
   ·exact hh.notF b (hT.own h)
   ·rcases hfps b h with h | h
    ·exact hh.notF b (hO.own h)
    ·intro hf
     have := hF b hf
     omega
  ·exact ⟨hK.size, fun b hb hn => hK.heap b hb fun h => hn (hO.own h), hK.cells, hK.os, hK.output, hK.tape⟩
  ·rcases ownB b hb with h | h
   ·exact .inl (hT.own h)
   ·rcases hfps b h with h | h
    ·exact .inl (hO.own h)
    ·exact .inr h
 exact ⟨G', hTr, r1.1, fun i h1 h2 => SvRep.mono (fun _ _ _ => rfl) (fun _ _ => .refl _) hok1 (fun b r hr => ⟨r, hr, rfl⟩) (r1.2 i h1 h2)⟩
end Go.Pev
end

section
/-
 PEV, part 18: every operation.
-/
namespace Go.Pev
section
variable {F : Nat → Prop} {G : Gh} {ow : OW} {w : World} {P : Program} {L : List (Nat × Obj)}
def CallR (P : Program) (F : Nat → Prop) (G : Gh) (ow : OW) (w : World) (f : FuncId) (vs : List Value) (Q : SV × OW → Prop) : Prop :=
 Calls P f vs.toArray w fun e w' => ∃ s ow' v G', e = .returned v ∧ Q (s, ow') ∧ Tr F G ow w G' ow' w' ∧ Sv F G' ow' w'.heap s v
theorem evSig_sound {f : FuncId} {sg : Sig} (hs : SigHolds P L f sg) (hh : HRep F G ow w.heap) (hF : ∀ b, F b → b < w.heap.size) (hL : Laid L (Own G ow) w.heap) {args : List SV} {vs : List Value} (ha : Svs F G ow w.heap args vs) {d : Nat} {c : Cmd (SV × OW)}
  (he : evSig sg args ow d = some c) {Q : SV × OW → Prop} (h : c.can Q) : CallR P F G ow w f vs Q := by
 unfold evSig at he
 split at he
 rotate_left
 ·cases he
 rename_i hal
 split at he
 ·cases he
 rename_i p hp
 cases he
 obtain ⟨y, hy, h⟩ := h
 dsimp only at h
 split at h
 ·rename_i q hq
  split at h
  ·rename_i ow' hn
   obtain ⟨fp, hT, hO, hnd, hrep⟩ := pk_sound sg.args (x := p.1) (ow1 := p.2) hF hh ha hp
   have hlt : ∀ b ∈ fp, b < w.heap.size := fun b hb => Own.lt hh (hO.own hb)
   refine (hs.2 w (fun b => F b ∨ Own G p.2 b) p.1 vs fp y ?_ (fun q hq => ⟨fun hm => (hL q hq).1 (hO.own hm), (hL q hq).2⟩) hnd ?_ ?_ hy (alOk_sound hh ha hal)).mono fun e w' ⟨rs, fp1, fp2, h1, h2, h3, h4, h5, h6⟩ => ?_
   ·intro b hb
    rcases hb with hb | hb
    ·exact hF b hb
    ·exact Own.lt hh (hT.own hb)
   ·intro b hb hx
    rcases hx with hx | hx
    ·exact hh.notF b (hO.own hb) hx
    ·exact hO.notOwn hh hT hb hx
   ·refine ShR.mono (fun b r hb hr => ⟨fun hx => ?_, hr⟩) _ (fun _ _ => rfl) hrep
    rcases hx with (hx | hx) | hx
    ·exact hb.1 (.inl hx)
    ·exact hb.2 hx
    ·exact hb.1 (.inr hx)
   ·-- the state behind the call
    have fin : ∀ (owb : OW) (okR : Nat → Prop), Taken ow owb → FpOk G ow owb fp → ShR w'.heap okR sg.res y.1 rs fp1 → OutR w'.heap okR sg.args y.2 vs fp2 →
      (∀ b r, okR b → rowCells w'.heap b = some r → ¬ F b ∧ ¬ Own G owb b ∧ b ∉ fp1 ++ fp2) → unOut d ow sg.args args y.2 (owb, (unpk d sg.res y.1 0).2) = some q →
      ∃ s ow' v G', e = .returned v ∧ Q (s, ow') ∧ Tr F G ow w G' ow' w' ∧ Sv F G' ow' w'.heap s v := by
     intro owb okR hTb hOb hr hou hok hu
     obtain ⟨ps1, l1, f1, r1⟩ := unpk_rep sg.res hr d 0
     obtain ⟨puts, ps2, new, hP⟩ := unOut_rep (F := F) hh h6.cells d sg.args ha hou (st := (owb, (unpk d sg.res y.1 0).2)) (fun d' j' hx => hTb.ne hx) hu
     obtain ⟨G', hTr, hsv⟩ := call_state hh hF hTb hOb h6 h4 h5 hP l1 (by rw [← f1]; rfl) hn hok (l := (unpk d sg.res y.1 0).1) (vs := rs) r1
     exact ⟨_, _, _, G', h1, h, hTr, pad_ret hsv⟩
    cases hfr : sg.res.fresh && sg.args.freshOut with
    | true =>
     simp only [backOW, hfr, if_true] at hq
     simp only [Bool.and_eq_true] at hfr
     obtain ⟨t1, t2⟩ := thaw_taken hT
     exact fin (thaw ow p.2) (fun _ => False) t1 (fun b => (hO b).trans (t2 G b).symm) (ShR.any _ hfr.1 h2) (OutR.any _ hfr.2 h3) (fun b r hb => hb.elim) hq
    | false =>
     simp only [backOW, hfr, Bool.false_eq_true, if_false] at hq
     exact fin p.2 _ hT hO h2 h3 (fun b r hb _ => ⟨fun hx => hb (.inl (.inl hx)), fun hx => hb (.inl (.inr hx)), fun hx => hb (.inr hx)⟩) hq
  ·exact h.elim
 ·exact h.elim
theorem trySigs_sound {f : FuncId} : (sgs : List Sig) → (∀ sg ∈ sgs, SigHolds P L f sg) → HRep F G ow w.heap → (∀ b, F b → b < w.heap.size) → Laid L (Own G ow) w.heap → {args : List SV} → {vs : List Value} → Svs F G ow w.heap args vs → {d : Nat} →
  {Q : SV × OW → Prop} → (trySigs args ow d sgs).can Q → CallR P F G ow w f vs Q
 | [], _, _, _, _, _, _, _, _, _, h => h.elim
 | sg :: r, hs, hh, hF, hL, args, vs, ha, d, Q, h => by
  unfold trySigs at h
  split at h
  ·rename_i c hc
   exact evSig_sound (hs sg (by simp)) hh hF hL ha hc h
  ·exact trySigs_sound r (fun sg hsg => hs sg (by simp [hsg])) hh hF hL ha h
theorem isPurs_fp {h : Array Obj} {ok : Nat → Prop} : (s : Sh) → isPurs s = true → {x : s.T} → {vs : List Value} → {fp : List Nat} → ShR h ok s x vs fp → fp = [] ∧ ∀ d j, (unpk d s x j).2 = []
 | .nil, _, _, _, _, e => ⟨e.2, fun _ _ => rfl⟩
 | .cons (.pur _) b, hs, x, _, _, e => by
  obtain ⟨v, r, f1, f2, rfl, rfl, ⟨_, _, e1, _⟩, e2⟩ := e
  obtain ⟨h1, h2⟩ := isPurs_fp b (by simpa [isPurs] using hs) e2
  refine ⟨by rw [e1, h1]; rfl, fun d j => ?_⟩
  show [] ++ (unpk d b x.2 (j + 0)).2 = []
  rw [h2]; rfl
 | .cons (.own _) _, hs, _, _, _, _ => by simp [isPurs] at hs
 | .cons (.row _) _, hs, _, _, _, _ => by simp [isPurs] at hs
 | .cons (.nrw _) _, hs, _, _, _, _ => by simp [isPurs] at hs
 | .cons (.box _) _, hs, _, _, _, _ => by simp [isPurs] at hs
 | .cons (.agg _) _, hs, _, _, _, _ => by simp [isPurs] at hs
 | .cons (.fn _ _ _) _, hs, _, _, _, _ => by simp [isPurs] at hs
 | .cons .ign _, hs, _, _, _, _ => by simp [isPurs] at hs
 | .cons .nl _, hs, _, _, _, _ => by simp [isPurs] at hs
 | .cons .nil _, hs, _, _, _, _ => by simp [isPurs] at hs
 | .cons (.cons _ _) _, hs, _, _, _, _ => by simp [isPurs] at hs
 | .pur _, hs, _, _, _, _ => by simp [isPurs] at hs
 | .own _, hs, _, _, _, _ => by simp [isPurs] at hs
 | .row _, hs, _, _, _, _ => by simp [isPurs] at hs
 | .nrw _, hs, _, _, _, _ => by simp [isPurs] at hs
 | .box _, hs, _, _, _, _ => by simp [isPurs] at hs
 | .agg _, hs, _, _, _, _ => by simp [isPurs] at hs
 | .fn _ _ _, hs, _, _, _, _ => by simp [isPurs] at hs
 | .ign, hs, _, _, _, _ => by simp [isPurs] at hs
 | .nl, hs, _, _, _, _ => by simp [isPurs] at hs
def CallJ (P : Program) (F : Nat → Prop) (G : Gh) (ow : OW) (w : World) (f : FuncId) (vs : List Value) (Q : SV → Prop) : Prop :=
 Calls P f vs.toArray w fun e w' => ∃ s v, e = .returned v ∧ Q s ∧ Tr F G ow w G ow w' ∧ Sv F G ow w'.heap s v
theorem tr_world (hh : HRep F G ow w.heap) (hF : ∀ b, F b → b < w.heap.size) {w' : World} (hK : Kept (fun _ => False) w w') : Tr F G ow w G ow w' := by
 have hK' : Kept (Own G ow) w w' := ⟨hK.size, fun b hb _ => hK.heap b hb (fun h => h), hK.cells, hK.os, hK.output, hK.tape⟩
 exact tr_of hh hF (fun _ _ _ => rfl) (fun _ _ => .refl _) hK' (fun b hb => .inl hb)
  (fun b r _ hr => ⟨r, by unfold rowCells; rw [hK.heap b (rowCells_lt hr) (fun h => h)]; exact hr, rfl⟩)
  (fun d j o hn => .inl ⟨hn, rfl, fun hi i b c hg => hK.heap b (Own.lt hh (own_iff.2 ⟨d, j, i, c, by rw [hn]; exact hi, hg⟩)) (fun h => h)⟩) hh.apart rfl
theorem callRO_sound {f : FuncId} : (sgs : List Sig) → (∀ sg ∈ sgs, SigHolds P L f sg) → HRep F G ow w.heap → (∀ b, F b → b < w.heap.size) → Laid L (Own G ow) w.heap → {args : List SV} → {vs : List Value} → Svs F G ow w.heap args vs →
  {Q : SV → Prop} → (callRO args ow sgs).can Q → CallJ P F G ow w f vs Q
 | [], _, _, _, _, _, _, _, _, h => h.elim
 | sg :: r, hs, hh, hF, hL, args, vs, ha, Q, h => by
  unfold callRO at h
  split at h
  ·rename_i hc
   simp only [Bool.and_eq_true] at hc
   obtain ⟨hc, hal⟩ := hc
   have hal : sg.al = [] := List.isEmpty_iff.1 hal
   split at h
   ·rename_i p hp
    obtain ⟨y, hy, h⟩ := h
    obtain ⟨fp, hT, hO, hnd, hrep⟩ := pk_sound sg.args (x := p.1) (ow1 := p.2) hF hh ha hp
    obtain ⟨rfl, _⟩ := isPurs_fp _ hc.1.1 hrep
    refine ((hs sg (by simp)).2 w (fun b => F b ∨ Own G p.2 b) p.1 vs [] y ?_ (fun q hq => ⟨fun hm => by simp at hm, (hL q hq).2⟩) hnd (fun b hb => by simp at hb) ?_ hy (by rw [hal]; exact AlR.nil)).mono fun e w' ⟨rs, fp1, fp2, h1, h2, h3, h4, h5, h6⟩ => ?_
    ·intro b hb
     rcases hb with hb | hb
     ·exact hF b hb
     ·exact Own.lt hh (hT.own hb)
    ·refine ShR.mono (fun b r hb hr => ⟨fun hx => ?_, hr⟩) _ (fun _ _ => rfl) hrep
     rcases hx with (hx | hx) | hx
     ·exact hb.1 (.inl hx)
     ·exact hb.2 hx
     ·exact hb.1 (.inr hx)
    ·obtain ⟨rfl, hun⟩ := isPurs_fp _ hc.1.2 h2
     have hK : Kept (fun _ => False) w w' := ⟨h6.size, fun b hb _ => h6.heap b hb (by simp), h6.cells, h6.os, h6.output, h6.tape⟩
     have hTr := tr_world hh hF hK
     obtain ⟨ps, l1, f1, r1⟩ := unpk_rep sg.res (ShR.any (ok' := okF F G ow) _ hc.2 h2) 0 0
     obtain ⟨r2, _⟩ := r1 G ow (fun i o hi => by rw [hun] at hi; simp at hi)
     exact ⟨_, _, h1, h, hTr, pad_ret r2⟩
   ·exact callRO_sound r (fun sg hsg => hs sg (by simp [hsg])) hh hF hL ha h
  ·exact callRO_sound r (fun sg hsg => hs sg (by simp [hsg])) hh hF hL ha h
theorem purs_freshOut : (s : Sh) → isPurs s = true → s.freshOut = true
 | .nil, _ => rfl
 | .cons (.pur k) b, hs => by
  have := purs_freshOut b (by simpa [isPurs] using hs)
  simp [Sh.freshOut, this]
 | .cons (.own _) _, hs => by simp [isPurs] at hs
 | .cons (.row _) _, hs => by simp [isPurs] at hs
 | .cons (.nrw _) _, hs => by simp [isPurs] at hs
 | .cons (.rows _) _, hs => by simp [isPurs] at hs
 | .cons (.box _) _, hs => by simp [isPurs] at hs
 | .cons (.agg _) _, hs => by simp [isPurs] at hs
 | .cons (.fn _ _ _) _, hs => by simp [isPurs] at hs
 | .cons .ign _, hs => by simp [isPurs] at hs
 | .cons .nl _, hs => by simp [isPurs] at hs
 | .cons .nil _, hs => by simp [isPurs] at hs
 | .cons (.cons _ _) _, hs => by simp [isPurs] at hs
 | .pur _, hs => by simp [isPurs] at hs
 | .own _, hs => by simp [isPurs] at hs
 | .rows _, hs => by simp [isPurs] at hs
 | .row _, hs => by simp [isPurs] at hs
 | .nrw _, hs => by simp [isPurs] at hs
 | .box _, hs => by simp [isPurs] at hs
 | .agg _, hs => by simp [isPurs] at hs
 | .fn _ _ _, hs => by simp [isPurs] at hs
 | .ign, hs => by simp [isPurs] at hs
 | .nl, hs => by simp [isPurs] at hs
theorem unOut_purs {d : Nat} {old : OW} : (s : Sh) → isPurs s = true → {args : List SV} → {ow : OW} → {p : s.T × OW} → pk s args ow = some p → {y : s.Out} → {st : OW × List OB} → unOut d old s args y st = some st
 | .nil, _, [], _, _, _, _, _ => rfl
 | .nil, _, _ :: _, _, _, e, _, _ => by simp [pk] at e
 | .cons (.pur k) b, hs, [], _, _, e, _, _ => by simp [pk] at e
 | .cons (.pur k) b, hs, v :: r, ow, p, e, y, st => by
  unfold pk at e
  split at e
  ·rename_i x _
   split at e
   ·rename_i z hz
    simp only [unOut, Sh.noOuts, if_true]
    exact unOut_purs b (by simpa [isPurs] using hs) hz
   ·cases e
  ·cases e
 | .cons (.own _) _, hs, _, _, _, _, _, _ => by simp [isPurs] at hs
 | .cons (.row _) _, hs, _, _, _, _, _, _ => by simp [isPurs] at hs
 | .cons (.nrw _) _, hs, _, _, _, _, _, _ => by simp [isPurs] at hs
 | .cons (.rows _) _, hs, _, _, _, _, _, _ => by simp [isPurs] at hs
 | .cons (.box _) _, hs, _, _, _, _, _, _ => by simp [isPurs] at hs
 | .cons (.agg _) _, hs, _, _, _, _, _, _ => by simp [isPurs] at hs
 | .cons (.fn _ _ _) _, hs, _, _, _, _, _, _ => by simp [isPurs] at hs
 | .cons .ign _, hs, _, _, _, _, _, _ => by simp [isPurs] at hs
 | .cons .nl _, hs, _, _, _, _, _, _ => by simp [isPurs] at hs
 | .cons .nil _, hs, _, _, _, _, _, _ => by simp [isPurs] at hs
 | .cons (.cons _ _) _, hs, _, _, _, _, _, _ => by simp [isPurs] at hs
 | .pur _, hs, _, _, _, _, _, _ => by simp [isPurs] at hs
 | .own _, hs, _, _, _, _, _, _ => by simp [isPurs] at hs
 | .rows _, hs, _, _, _, _, _, _ => by simp [isPurs] at hs
 | .row _, hs, _, _, _, _, _, _ => by simp [isPurs] at hs
 | .nrw _, hs, _, _, _, _, _, _ => by simp [isPurs] at hs
 | .box _, hs, _, _, _, _, _, _ => by simp [isPurs] at hs
 | .agg _, hs, _, _, _, _, _, _ => by simp [isPurs] at hs
 | .fn _ _ _, hs, _, _, _, _, _, _ => by simp [isPurs] at hs
 | .ign, hs, _, _, _, _, _, _ => by simp [isPurs] at hs
 | .nl, hs, _, _, _, _, _, _ => by simp [isPurs] at hs
theorem callNew_sound {f : FuncId} {d : Nat} : (sgs : List Sig) → (∀ sg ∈ sgs, SigHolds P L f sg) → HRep F G ow w.heap → (∀ b, F b → b < w.heap.size) → Laid L (Own G ow) w.heap → {args : List SV} → {vs : List Value} → Svs F G ow w.heap args vs →
  {Q : SV × OW → Prop} → (callNew args ow d sgs).can Q → CallR P F G ow w f vs Q
 | [], _, _, _, _, _, _, _, _, h => h.elim
 | sg :: r, hs, hh, hF, hL, args, vs, ha, Q, h => by
  unfold callNew at h
  split at h
  ·rename_i hc
   simp only [Bool.and_eq_true] at hc
   obtain ⟨hc, hal⟩ := hc
   have hal : sg.al = [] := List.isEmpty_iff.1 hal
   split at h
   ·rename_i p hp
    obtain ⟨y, hy, h⟩ := h
    dsimp only at h
    split at h
    ·rename_i ow' hn
     obtain ⟨fp, hT, hO, hnd, hrep⟩ := pk_sound sg.args (x := p.1) (ow1 := p.2) hF hh ha hp
     obtain ⟨rfl, _⟩ := isPurs_fp _ hc.1 hrep
     refine ((hs sg (by simp)).2 w (fun b => F b ∨ Own G p.2 b) p.1 vs [] y ?_ (fun q hq => ⟨fun hm => by simp at hm, (hL q hq).2⟩) hnd (fun b hb => by simp at hb) ?_ hy (by rw [hal]; exact AlR.nil)).mono fun e w' ⟨rs, fp1, fp2, h1, h2, h3, h4, h5, h6⟩ => ?_
     ·intro b hb
      rcases hb with hb | hb
      ·exact hF b hb
      ·exact Own.lt hh (hT.own hb)
     ·refine ShR.mono (fun b r hb hr => ⟨fun hx => ?_, hr⟩) _ (fun _ _ => rfl) hrep
      rcases hx with (hx | hx) | hx
      ·exact hb.1 (.inl hx)
      ·exact hb.2 hx
      ·exact hb.1 (.inr hx)
     ·have hr : ShR w'.heap (fun _ => False) sg.res y.1 rs fp1 := ShR.any _ hc.2 h2
      have hou : OutR w'.heap (fun _ => False) sg.args y.2 vs fp2 := OutR.any _ (purs_freshOut _ hc.1) h3
      obtain ⟨ps1, l1, f1, r1⟩ := unpk_rep sg.res hr d 0
      obtain ⟨puts, ps2, new, hP⟩ := unOut_rep (F := F) hh h6.cells d sg.args ha hou (st := (ow, (unpk d sg.res y.1 0).2)) (fun d' j' hx => hx) (unOut_purs _ hc.1 hp)
      obtain ⟨G', hTr, hsv⟩ := call_state hh hF (.refl _) (.refl _ _) h6 h4 h5 hP l1 (by rw [← f1]; rfl) hn (fun b r hb => hb.elim) (l := (unpk d sg.res y.1 0).1) (vs := rs) r1
      exact ⟨_, _, _, G', h1, h, hTr, pad_ret hsv⟩
    ·exact h.elim
   ·exact callNew_sound r (fun sg hsg => hs sg (by simp [hsg])) hh hF hL ha h
  ·exact callNew_sound r (fun sg hsg => hs sg (by simp [hsg])) hh hF hL ha h
def OpR (P : Program) (op : Oper) (ρv : Operand → Value) (w : World) (R : Value → World → Prop) : Prop :=
 (∃ v w', (execOp ρv op).run P w = .ok (.value v) w' ∧ R v w') ∨ (∃ w', (execOp ρv op).run P w = .ok .skip w' ∧ R undef w') ∨
 ∃ f args, (execOp ρv op).run P w = .ok (.enter f args) w ∧ Calls P f args w fun e w' => ∃ v, e = .returned v ∧ R v w'
theorem OpR.wp {op : Oper} {a : Act} {next : Act → World → Prop} {Qx : Exit → Act → World → Prop} (h : OpR P op a.eval w fun v w' => next (a.put op.dst v) w') : op.wp P a w next Qx := by
 unfold Oper.wp
 rcases h with ⟨v, w', hr, h⟩ | ⟨w', hr, h⟩ | ⟨f, args, hr, h⟩
 ·rw [hr]; exact h
 ·rw [hr]; exact h
 ·rw [hr]
  exact h.mono fun e w' ⟨v, he, h⟩ => by rw [he]; exact h
theorem run_call_value {op : Oper} {c : Call} {fo : Operand} (ho : op.op = .call c) (hc : c.callee = .value fo) {ρv : Operand → Value} {id : FuncId} {xs ys : List Value} (hv : ρv fo = .func (.func id) xs.toArray ys.toArray)
  (hf : ∃ fn, P.funcs[id]? = some fn ∧ (fn.name == "runtime.NumGoroutine") = false ∧ fn.body.isNone = false) :
  (execOp ρv op).run P w = .ok (.enter id (xs ++ c.args.toList.map ρv ++ ys).toArray) w := by
 obtain ⟨fn, h1, h2, h3⟩ := hf
 have e : xs.toArray ++ c.args.map ρv ++ ys.toArray = (xs ++ c.args.toList.map ρv ++ ys).toArray := by apply Array.ext'; simp
 simp only [execOp, ho, resolve, hc, hv, Deferred.ofValue, Sem.run_bind, Sem.run_pure, Result.andThen_ok, invoke, callFunc, run_program, h1, h2, h3, Bool.false_eq_true, if_false]
 rw [e]
end
section
variable {F : Nat → Prop} {G : Gh} {ow : OW} {w : World} {L : List (Nat × Obj)} {C : Ctx}
def Ctx.Holds (C : Ctx) (L : List (Nat × Obj)) : Prop := ∀ f, ∀ sg ∈ C.sigsOf f, SigHolds C.P L f sg
theorem evJ_sound (hC : C.Holds L) {o : Op} {op : Oper} (ho : op.op = o) {ρ : Operand → SV} {ρv : Operand → Value} (hh : HRep F G ow w.heap) (hF : ∀ b, F b → b < w.heap.size) (hL : Laid L (Own G ow) w.heap) (hρ : Rho F G ow w.heap ρ ρv) {Q : SV → Prop} (h : (evJ C o ρ ow).can Q) :
  OpR C.P op ρv w fun v w' => ∃ s, Q s ∧ Tr F G ow w G ow w' ∧ Sv F G ow w'.heap s v := by
 unfold evJ at h
 split at h
 ·rename_i fo args _
  split at h
  ·rename_i id a b hf
   have hv := hρ fo
   rw [hf] at hv
   obtain ⟨xs, ys, hv, hx, hy⟩ := hv.fn_inv
   have hargs : Svs F G ow w.heap (a ++ args.toList.map ρ ++ b) (xs ++ args.toList.map ρv ++ ys) := (hx.append (hρ.svs _)).append hy
   cases hsg : C.sigsOf id with
   | nil => rw [hsg] at h; exact h.elim
   | cons sg0 r0 =>
    have h0 := (hC id sg0 (by rw [hsg]; simp)).1
    have := callRO_sound (C.sigsOf id) (hC id) hh hF hL hargs h
    exact .inr (.inr ⟨id, _, run_call_value ho rfl hv h0, this.mono fun e w' ⟨s, v, h1, h2, h3, h4⟩ => ⟨v, h1, s, h2, h3, h4⟩⟩)
  ·exact h.elim
 ·obtain ⟨s, v, hq, hr, hs⟩ := evRO_sound (P := C.P) ho hh hρ h
  exact .inl ⟨v, w, hr, s, hq, .refl hh, hs⟩
theorem evNew_sound (hC : C.Holds L) {o : Op} {op : Oper} (ho : op.op = o) {ρ : Operand → SV} {ρv : Operand → Value} (hh : HRep F G ow w.heap) (hF : ∀ b, F b → b < w.heap.size) (hL : Laid L (Own G ow) w.heap) (hρ : Rho F G ow w.heap ρ ρv) {d : Nat} {Q : SV × OW → Prop} (h : (evNew C o ρ ow d).can Q) :
  OpR C.P op ρv w fun v w' => ∃ s ow' G', Q (s, ow') ∧ Tr F G ow w G' ow' w' ∧ Sv F G' ow' w'.heap s v := by
 unfold evNew at h
 split at h
 ·rename_i fo args _
  split at h
  ·rename_i id a b hf
   have hv := hρ fo
   rw [hf] at hv
   obtain ⟨xs, ys, hv, hx, hy⟩ := hv.fn_inv
   have hargs : Svs F G ow w.heap (a ++ args.toList.map ρ ++ b) (xs ++ args.toList.map ρv ++ ys) := (hx.append (hρ.svs _)).append hy
   cases hsg : C.sigsOf id with
   | nil => rw [hsg] at h; exact h.elim
   | cons sg0 r0 =>
    have h0 := (hC id sg0 (by rw [hsg]; simp)).1
    have := callNew_sound (C.sigsOf id) (hC id) hh hF hL hargs h
    exact .inr (.inr ⟨id, _, run_call_value ho rfl hv h0, this.mono fun e w' ⟨s, ow', v, G', h1, h2, h3, h4⟩ => ⟨v, h1, s, ow', G', h2, h3, h4⟩⟩)
  ·exact h.elim
 ·exact h.elim
theorem OpR.res {P : Program} {op : Oper} {ρv : Operand → Value} {Q : SV × OW → Prop} {c : Sem Value} (hc : Res P F G ow w Q c) (he : (execOp ρv op).run P w = (do pure (Next.value (← c)) : Sem Next).run P w) :
  OpR P op ρv w fun v w' => ∃ s ow' G', Q (s, ow') ∧ Tr F G ow w G' ow' w' ∧ Sv F G' ow' w'.heap s v := by
 obtain ⟨s, ow', v, w', G', hq, hr, ht, hs⟩ := hc
 refine .inl ⟨v, w', ?_, s, ow', G', hq, ht, hs⟩
 rw [he, Sem.run_bind, hr]; rfl
theorem evOp0_sound (hC : C.Holds L) {o : Op} {op : Oper} (ho : op.op = o) {ρ : Operand → SV} {ρv : Operand → Value} (hh : HRep F G ow w.heap) (hF : ∀ b, F b → b < w.heap.size) (hL : Laid L (Own G ow) w.heap) (hρ : Rho F G ow w.heap ρ ρv) {d : Nat} {Q : SV × OW → Prop} (h : (evOp0 C o ρ ow d).can Q) :
  OpR C.P op ρv w fun v w' => ∃ s ow' G', Q (s, ow') ∧ Tr F G ow w G' ow' w' ∧ Sv F G' ow' w'.heap s v := by
 unfold evOp0 at h
 split at h
 ·split at h
  ·rename_i cells hz
   split at h
   ·rename_i ow' hn
    exact OpR.res (evAlloc_sound (P := C.P) hh hF hz hn h) (by simp only [execOp, ho])
   ·exact h.elim
  ·exact h.elim
 ·split at h
  ·rename_i cells hz
   split at h
   ·rename_i ow' hn
    exact OpR.res (evBox_sound (P := C.P) hh hF (hρ _) hz hn h) (by simp only [execOp, ho])
   ·exact h.elim
  ·exact h.elim
 ·rename_i t n parts
  refine OpR.res (evBuildSlice_sound (P := C.P) (vps := parts.toList.map fun x => (x.1, ρv x.2)) hh hF (by simp) (by simp only [List.map_map]; exact (by simpa [Function.comp_def] using hρ.svs (parts.toList.map (·.2)))) h) ?_
  simp only [execOp, ho]
  congr 4
  apply Array.ext'
  simp
 ·have h := Cmd.can_bind _ h
  obtain ⟨ow', w', hq, hr, ht⟩ := evStore_sound (P := C.P) hh hF (hρ _) (hρ _) h
  refine .inr (.inl ⟨w', ?_, _, ow', G, hq, ht, .tup (l := []) (vs := []) rfl (fun i h => by simp at h)⟩)
  simp only [execOp, ho, Sem.run_bind, hr, Result.andThen_ok, Sem.run_pure]
 ·exact OpR.res (evMakeSlice_sound (P := C.P) hh hF (hρ _) (hρ _) h) (by simp only [execOp, ho])
 ·rename_i args ats
  split at h
  ·rename_i s x t tx ha ht
   split at h
   ·rename_i htx
    refine OpR.res (evAppend_sound (P := C.P) (ty := op.type) hh hF (hρ s) (hρ x) htx h) ?_
    have e1 : args.map ρv = #[ρv s, ρv x] := by apply Array.ext'; simp [ha]
    have e2 : ats = #[t, tx] := by apply Array.ext'; simp [ht]
    simp only [execOp, ho, resolve, Sem.run_bind, Sem.run_pure, Result.andThen_ok, invoke, builtin, e1, e2]
   ·exact h.elim
  ·exact h.elim
 ·rename_i fo args _
  split at h
  ·rename_i id a b hf
   have hv := hρ fo
   rw [hf] at hv
   obtain ⟨xs, ys, hv, hx, hy⟩ := hv.fn_inv
   have hargs : Svs F G ow w.heap (a ++ args.toList.map ρ ++ b) (xs ++ args.toList.map ρv ++ ys) := (hx.append (hρ.svs _)).append hy
   cases hsg : C.sigsOf id with
   | nil => rw [hsg] at h; exact h.elim
   | cons sg0 r0 =>
    have h0 := (hC id sg0 (by rw [hsg]; simp)).1
    obtain ⟨G1, hT1, hO1⟩ := settleVs_tr hF hh (a ++ args.toList.map ρ ++ b)
    have := trySigs_sound (C.sigsOf id) (hC id) hT1.hrep hF (fun p hp => ⟨fun hx => (hL p hp).1 (hO1 _ hx), (hL p hp).2⟩) ⟨hargs.1, fun i h1 h2 => hT1.sv _ _ (hargs.2 i h1 h2)⟩ h
    exact .inr (.inr ⟨id, _, run_call_value ho rfl hv h0, this.mono fun e w' ⟨s, ow', v, G', h1, h2, h3, h4⟩ => ⟨v, h1, s, ow', G', h2, hT1.trans h3, h4⟩⟩)
  ·exact h.elim
 ·have h := Cmd.can_bind _ h
  obtain ⟨s, v, hq, hr, hs⟩ := evRO_sound (P := C.P) ho hh hρ h
  exact .inl ⟨v, w, hr, s, ow, G, hq, .refl hh, hs⟩
theorem evOp_sound (hC : C.Holds L) {o : Op} {op : Oper} (ho : op.op = o) {ρ : Operand → SV} {ρv : Operand → Value} (hh : HRep F G ow w.heap) (hF : ∀ b, F b → b < w.heap.size) (hL : Laid L (Own G ow) w.heap) (hρ : Rho F G ow w.heap ρ ρv) {d : Nat} {Q : SV × OW → Prop} (h : (evOp C o ρ ow d).can Q) :
  OpR C.P op ρv w fun v w' => ∃ s ow' G', Q (s, ow') ∧ Tr F G ow w G' ow' w' ∧ Sv F G' ow' w'.heap s v := by
 unfold evOp at h
 split at h
 ·split at h
  ·rename_i q hq
   obtain ⟨x, ow', v, G', h1, h2, h3, h4⟩ := evLoadN_sound (P := C.P) hh hF (hρ _) (d := q.1) (j := q.2.1) (e := q.2.2.1) (c := q.2.2.2.1) (s := q.2.2.2.2) hq h
   refine .inl ⟨v, w, ?_, x, ow', G', h1, h3, h4⟩
   simp only [execOp, ho, Sem.run_bind, h2, Result.andThen_ok, Sem.run_pure]
  ·exact evOp0_sound hC ho hh hF hL hρ h
 ·split at h
  ·rename_i q hq
   have h := Cmd.can_bind _ h
   obtain ⟨ow', w', G', h1, h2, h3⟩ := evStoreN_sound (P := C.P) hh hF (hρ _) (hρ _) (d := q.1) (j := q.2.1) (e := q.2.2.1) (c := q.2.2.2.1) (s := q.2.2.2.2) hq h
   refine .inr (.inl ⟨w', ?_, _, ow', G', h1, h3, .tup (l := []) (vs := []) rfl (fun i h => by simp at h)⟩)
   simp only [execOp, ho, Sem.run_bind, h2, Result.andThen_ok, Sem.run_pure]
  ·exact evOp0_sound hC ho hh hF hL hρ h
 ·rename_i t n parts
  split at h
  ·rename_i sh hsh
   refine OpR.res (evBuildN_sound (P := C.P) (vps := parts.toList.map fun x => (x.1, ρv x.2)) hh hF (by simp) (by simp only [List.map_map]; exact (by simpa [Function.comp_def] using hρ.svs (parts.toList.map (·.2)))) h) ?_
   simp only [execOp, ho]
   congr 4
   apply Array.ext'
   simp
  ·exact evOp0_sound hC ho hh hF hL hρ h
 ·split at h
  ·exact OpR.res (evMakeN_sound (P := C.P) hh hF (hρ _) (hρ _) h) (by simp only [execOp, ho])
  ·exact evOp0_sound hC ho hh hF hL hρ h
 ·rename_i cl
  split at h
  ·rename_i s x t tx hcal ha ht
   split at h
   ·split at h
    ·rename_i htx
     have hres : Res C.P F G ow w Q (Builtin.append_ #[t, tx] op.type #[ρv s, ρv x]) := by
      split at h
      ·exact evCutN_sound (P := C.P) (ty := op.type) hh hF (hρ s) (hρ x) htx h
      ·exact evAppendN_sound (P := C.P) (ty := op.type) hh hF (hρ s) (hρ x) htx h
     refine OpR.res hres ?_
     have e1 : cl.args.map ρv = #[ρv s, ρv x] := by apply Array.ext'; simp [ha]
     have e2 : cl.argTypes = #[t, tx] := by apply Array.ext'; simp [ht]
     simp only [execOp, ho, hcal, resolve, Sem.run_bind, Sem.run_pure, Result.andThen_ok, invoke, builtin, e1, e2]
    ·exact h.elim
   ·exact evOp0_sound hC ho hh hF hL hρ h
  ·exact evOp0_sound hC ho hh hF hL hρ h
 ·exact evOp0_sound hC ho hh hF hL hρ h
end
end Go.Pev
end

section
/-
 PEV, part 19: regions.
-/
namespace Go.Pev
structure Env (F : Nat → Prop) (fp : List Nat) (L : List (Nat × Obj)) (w0 : World) : Prop where
 wide : ∀ b, F b → b < w0.heap.size
 laid : Laid L (· ∈ fp) w0.heap
 fpF : ∀ b ∈ fp, ¬ F b
structure StI (nt : Nat) (fr : Nat → Bool) (F : Nat → Prop) (fp : List Nat) (w0 : World) (vs : List Value) (st : St) (a : Act) (w : World) : Prop where
 ex : ∃ G, Svs F G st.ow w.heap st.sl a.tmps.toList ∧ HRep F G st.ow w.heap ∧ ∀ b, Own G st.ow b → b ∈ fp ∨ w0.heap.size ≤ b
 kept : Kept (· ∈ fp) w0 w
 defers : a.defers = []
 args : ∀ i, i < vs.length → fr i = false → a.tmps[i]? = vs[i]?
 size : a.tmps.size = nt
section
variable {F : Nat → Prop} {fp : List Nat} {L : List (Nat × Obj)} {w0 : World} {vs : List Value} {C : Ctx} {nt : Nat} {fr : Nat → Bool}
theorem Env.wideAt (hE : Env F fp L w0) {w : World} (hk : Kept (· ∈ fp) w0 w) : ∀ b, F b → b < w.heap.size := fun b hb => Nat.lt_of_lt_of_le (hE.wide b hb) hk.size
theorem Env.laidAt (hE : Env F fp L w0) {w : World} (hk : Kept (· ∈ fp) w0 w) {G : Gh} {ow : OW} (ho : ∀ b, Own G ow b → b ∈ fp ∨ w0.heap.size ≤ b) : Laid L (Own G ow) w.heap := fun p hp => by
 obtain ⟨h1, h2⟩ := hE.laid p hp
 have hlt := (Array.getElem?_eq_some_iff.1 h2).1
 refine ⟨fun h => ?_, by rw [hk.heap p.1 hlt h1]; exact h2⟩
 rcases ho _ h with h | h
 ·exact h1 h
 ·omega
theorem opd_rho {G : Gh} {ow : OW} {w : World} {sl : List SV} {a : Act} (hs : Svs F G ow w.heap sl a.tmps.toList) : Rho F G ow w.heap (opd sl) a.eval := by
 intro x
 cases x with
 | tmp t =>
  show Sv F G ow w.heap (match sl[t]? with | some s => s | none => .dead) (a.tmps.getD t undef)
  split
  ·rename_i s h
   obtain ⟨hlt, rfl⟩ := List.getElem?_eq_some_iff.1 h
   have hlt2 : t < a.tmps.toList.length := by rw [← hs.1]; exact hlt
   have e : a.tmps.getD t undef = a.tmps.toList[t] := by
    have : t < a.tmps.size := by simpa using hlt2
    simp [Array.getD, this]
   rw [e]
   exact hs.2 t hlt hlt2
  ·exact .dead _
 | const v => exact ofVal_sound 4 v
 | global g => exact .dead _
 | func f => exact .fn (a := []) (b := []) (xs := []) (ys := []) rfl rfl (fun i h => by simp at h) (fun i h => by simp at h)
theorem put_svs {G : Gh} {ow : OW} {w : World} {sl : List SV} {a : Act} (hs : Svs F G ow w.heap sl a.tmps.toList) {s : SV} {v : Value} (hv : Sv F G ow w.heap s v) (d : Option Tmp) : Svs F G ow w.heap (setSl sl d s) (a.put d v).tmps.toList := by
 cases d with
 | none => exact hs
 | some d =>
  refine ⟨by simp [setSl, Act.put, hs.1], fun i h1 h2 => ?_⟩
  simp only [setSl, Act.put, Array.toList_setIfInBounds] at h1 h2 ⊢
  by_cases e : d = i
  ·subst e
   simp only [List.getElem_set_self]
   exact hv
  ·simp only [List.getElem_set_ne e]
   exact hs.2 i (by simpa using h1) (by simpa using h2)
theorem put_args {a : Act} {d : Option Tmp} {v : Value} (h : ∀ i, i < vs.length → fr i = false → a.tmps[i]? = vs[i]?) (hd : ∀ x, d = some x → fr x = true) : ∀ i, i < vs.length → fr i = false → (a.put d v).tmps[i]? = vs[i]? := by
 intro i hi hf
 cases d with
 | none => exact h i hi hf
 | some d =>
  have := hd d rfl
  simp only [Act.put]
  rw [Array.getElem?_setIfInBounds_ne (fun e => by rw [e] at this; rw [this] at hf; cases hf)]
  exact h i hi hf
theorem put_size (a : Act) (d : Option Tmp) (v : Value) : (a.put d v).tmps.size = a.tmps.size := by cases d <;> simp [Act.put]
theorem put_defers (a : Act) (d : Option Tmp) (v : Value) : (a.put d v).defers = a.defers := by cases d <;> rfl
theorem StI.op (hE : Env F fp L w0) {st : St} {a : Act} {w : World} (h : StI nt fr F fp w0 vs st a w) {G : Gh} (hs : Svs F G st.ow w.heap st.sl a.tmps.toList) (ho : ∀ b, Own G st.ow b → b ∈ fp ∨ w0.heap.size ≤ b)
  {G' : Gh} {ow' : OW} {w' : World} (ht : Tr F G st.ow w G' ow' w') {s : SV} {v : Value} (hv : Sv F G' ow' w'.heap s v) {d : Option Tmp} (hd : ∀ x, d = some x → fr x = true) : StI nt fr F fp w0 vs ⟨setSl st.sl d s, ow'⟩ (a.put d v) w' := by
 refine ⟨⟨G', put_svs ⟨hs.1, fun i h1 h2 => ht.sv _ _ (hs.2 i h1 h2)⟩ hv d, ht.hrep, fun b hb => ?_⟩, h.kept.trans ht.kept ho, by rw [put_defers]; exact h.defers, put_args h.args hd, by rw [put_size]; exact h.size⟩
 rcases ht.own b hb with h1 | h1
 ·exact ho b h1
 ·exact .inr (Nat.le_trans h.kept.size h1)
theorem StI.slot {st : St} {a : Act} {w : World} (h : StI nt fr F fp w0 vs st a w) {s : SV} {v : Value} (hv : ∀ G, Sv F G st.ow w.heap s v) {d : Option Tmp} (hd : ∀ x, d = some x → fr x = true) : StI nt fr F fp w0 vs ⟨setSl st.sl d s, st.ow⟩ (a.put d v) w := by
 obtain ⟨G, h1, h2, h3⟩ := h.ex
 exact ⟨⟨G, put_svs h1 (hv G) d, h2, h3⟩, h.kept, by rw [put_defers]; exact h.defers, put_args h.args hd, by rw [put_size]; exact h.size⟩
theorem sv_undef {G : Gh} {ow : OW} {h : Array Obj} : Sv F G ow h (.tup []) undef := .tup (l := []) (vs := []) rfl (fun i h => by simp at h)
theorem wants_sound {G : Gh} {ow : OW} {w : World} {sl : List SV} {a : Act} (hs : Svs F G ow w.heap sl a.tmps.toList) {ops : Array Oper} {o : Oper} {b : Bool} (h : wants ops o sl = some b) : Region.wanted o (yielded ops a.tmps) = b := by
 unfold wants at h
 unfold Region.wanted
 split at h
 ·rename_i hg
  rw [hg]
  exact Option.some.inj h
 ·rename_i j want hg
  rw [hg]
  simp only
  unfold yielded
  split at h
  ·rename_i hd
   cases h
   rw [hd]; rfl
  ·rename_i g hd
   rw [hd]
   simp only [Option.bind_some]
   split at h
   ·rename_i t hsl
    cases h
    obtain ⟨hlt, e⟩ := List.getElem?_eq_some_iff.1 hsl
    have hlt2 : g < a.tmps.toList.length := by rw [← hs.1]; exact hlt
    have := hs.2 g hlt hlt2
    rw [e] at this
    have hv := this.lb_inv
    have : a.tmps[g]? = some (.bool t) := by rw [← hv]; simp [show g < a.tmps.size by simpa using hlt2]
    rw [this]
    cases t <;> cases want <;> rfl
   ·rename_i hsl
    cases h
    obtain ⟨hlt, e⟩ := List.getElem?_eq_some_iff.1 hsl
    have hlt2 : g < a.tmps.toList.length := by rw [← hs.1]; exact hlt
    have := hs.2 g hlt hlt2
    rw [e] at this
    obtain ⟨us, hv, hus⟩ := this.tup_inv
    have : us = [] := List.eq_nil_of_length_eq_zero hus.1.symm
    subst this
    have : a.tmps[g]? = some (.tuple #[]) := by rw [← hv]; simp [show g < a.tmps.size by simpa using hlt2]
    rw [this]
    cases want <;> rfl
   ·cases h
theorem split_sound {α : Type} {n : Nat} {G : Gh} {ow : OW} {w : World} {src : Bool} {s : SV} {v : Value} (hv : Sv F G ow w.heap s v) {k : SV → Option α} {r : α} (h : split n src s k = some r) : ∃ s', k s' = some r ∧ Sv F G ow w.heap s' v := by
 unfold split at h
 split at h
 ·split at h
  ·rename_i b
   rw [hv.bool_inv]
   rw [br_eq] at h
   cases b
   ·exact ⟨_, h, .lb _⟩
   ·exact ⟨_, h, .lb _⟩
  ·exact ⟨_, h, hv⟩
 ·exact ⟨_, h, hv⟩
def OpISound (C : Ctx) (L : List (Nat × Obj)) : Prop :=
 ∀ {F : Nat → Prop} {G : Gh} {ow : OW} {w : World} {o : Op} {op : Oper}, op.op = o → ∀ {ρ : Operand → SV} {ρv : Operand → Value}, HRep F G ow w.heap → (∀ b, F b → b < w.heap.size) → Laid L (Own G ow) w.heap → Rho F G ow w.heap ρ ρv → ∀ {d : Nat} {Q : SV × OW → Prop}, (evOpI C o ρ ow d).can Q →
  OpR C.P op ρv w fun v w' => ∃ s ow' G', Q (s, ow') ∧ Tr F G ow w G' ow' w' ∧ Sv F G' ow' w'.heap s v
theorem evOps_sound {α : Type} (hO : OpISound C L) (hE : Env F fp L w0) {ops : Array Oper} {Q : Exit → Act → World → Prop} {k : St → Option α} {r : α}
  (hk : ∀ st' a' w', k st' = some r → StI nt fr F fp w0 vs st' a' w' → Q .normal a' w') :
  (l : List (Oper × Nat)) → (∀ p ∈ l, ops[p.2]? = some p.1 ∧ ∀ d, p.1.dst = some d → fr d = true) → {st : St} → {a : Act} → {w : World} → StI nt fr F fp w0 vs st a w → evOps C ops l st k = some r → wpOps C.P ops Q (l.map (·.2)) a w
 | [], _, st, a, w, h, e => hk _ _ _ e h
 | (o, i) :: l, hl, st, a, w, h, e => by
  obtain ⟨ho, hd⟩ := hl (o, i) (by simp)
  have hl' : ∀ p ∈ l, ops[p.2]? = some p.1 ∧ ∀ d, p.1.dst = some d → fr d = true := fun p hp => hl p (by simp [hp])
  obtain ⟨G, hs, hh, hown⟩ := h.ex
  unfold evOps at e
  simp only [List.map_cons, wpOps]
  rw [ho]
  simp only
  split at e
  ·cases e
  ·rename_i hw
   rw [wants_sound hs hw]
   exact evOps_sound hO hE hk l hl' (h.slot (fun _ => sv_undef) hd) e
  ·rename_i hw
   rw [wants_sound hs hw]
   simp only [if_true]
   left
   have hcan := Cmd.can_of_run _ e
   have hop := hO rfl hh (hE.wideAt h.kept) (hE.laidAt h.kept hown) (opd_rho hs) hcan
   refine OpR.wp ?_
   have conv : ∀ v w', (∃ s ow' G', (split C.fuel (isSrc ops i) s fun s' => evOps C ops l ⟨setSl st.sl o.dst s', ow'⟩ k) = some r ∧ Tr F G st.ow w G' ow' w' ∧ Sv F G' ow' w'.heap s v) → wpOps C.P ops Q (l.map (·.2)) (a.put o.dst v) w' := by
    rintro v w' ⟨s, ow', G', hq, ht, hv⟩
    obtain ⟨s', hq, hv⟩ := split_sound hv hq
    exact evOps_sound hO hE hk l hl' (h.op hE hs hown ht hv hd) hq
   rcases hop with ⟨v, w', h1, h2⟩ | ⟨w', h1, h2⟩ | ⟨f, args, h1, h2⟩
   ·exact .inl ⟨v, w', h1, conv v w' h2⟩
   ·exact .inr (.inl ⟨w', h1, conv undef w' h2⟩)
   ·exact .inr (.inr ⟨f, args, h1, h2.mono fun e w' ⟨v, h3, h4⟩ => ⟨v, h3, conv v w' h4⟩⟩)
theorem evJs_sound {α : Type} (hC : C.Holds L) (hE : Env F fp L w0) {ops : Array Oper} {Q : Exit → Act → World → Prop} {ow : OW} {k : List SV → Option α} {r : α}
  {sl0 : List SV} {D : Nat → Prop}
  (hk : ∀ sl' a' w', k sl' = some r → StI nt fr F fp w0 vs ⟨sl', ow⟩ a' w' → (∀ d, ¬ D d → sl'[d]? = sl0[d]?) → Q .normal a' w') :
  (l : List (Oper × Nat)) → (∀ p ∈ l, ops[p.2]? = some p.1 ∧ ∀ d, p.1.dst = some d → fr d = true ∧ D d) → {sl : List SV} → {a : Act} → {w : World} → StI nt fr F fp w0 vs ⟨sl, ow⟩ a w → (∀ d, ¬ D d → sl[d]? = sl0[d]?) → evJs C ops ow l sl k = some r → wpOps C.P ops Q (l.map (·.2)) a w
 | [], _, sl, a, w, h, hag, e => hk _ _ _ e h hag
 | (o, i) :: l, hl, sl, a, w, h, hag, e => by
  obtain ⟨ho, hdD⟩ := hl (o, i) (by simp)
  have hd : ∀ d, o.dst = some d → fr d = true := fun d hx => (hdD d hx).1
  have hag' : ∀ s d, ¬ D d → (setSl sl o.dst s)[d]? = sl0[d]? := by
   intro s d hnd
   cases hx : o.dst with
   | none => exact hag d hnd
   | some x =>
    have : x ≠ d := fun e => hnd (e ▸ (hdD x hx).2)
    simp only [setSl]
    rw [List.getElem?_set_ne this]
    exact hag d hnd
  have hl' : ∀ p ∈ l, ops[p.2]? = some p.1 ∧ ∀ d, p.1.dst = some d → fr d = true ∧ D d := fun p hp => hl p (by simp [hp])
  obtain ⟨G, hs, hh, hown⟩ := h.ex
  unfold evJs at e
  simp only [List.map_cons, wpOps]
  rw [ho]
  simp only
  split at e
  ·cases e
  ·rename_i hw
   rw [wants_sound hs hw]
   exact evJs_sound hC hE hk l hl' (h.slot (fun _ => sv_undef) hd) (hag' _) e
  ·rename_i hw
   rw [wants_sound hs hw]
   simp only [if_true]
   left
   have hcan := Cmd.can_of_run _ e
   have hop := evJ_sound hC rfl hh (hE.wideAt h.kept) (hE.laidAt h.kept hown) (opd_rho hs) hcan
   refine OpR.wp ?_
   have conv : ∀ v w', (∃ s, (split C.fuel (isSrc ops i) s fun s' => evJs C ops ow l (setSl sl o.dst s') k) = some r ∧ Tr F G ow w G ow w' ∧ Sv F G ow w'.heap s v) → wpOps C.P ops Q (l.map (·.2)) (a.put o.dst v) w' := by
    rintro v w' ⟨s, hq, ht, hv⟩
    obtain ⟨s', hq, hv⟩ := split_sound hv hq
    exact evJs_sound hC hE hk l hl' (h.op hE hs hown ht hv hd) (hag' _) hq
   rcases hop with ⟨v, w', h1, h2⟩ | ⟨w', h1, h2⟩ | ⟨f, args, h1, h2⟩
   ·exact .inl ⟨v, w', h1, conv v w' h2⟩
   ·exact .inr (.inl ⟨w', h1, conv undef w' h2⟩)
   ·exact .inr (.inr ⟨f, args, h1, h2.mono fun e w' ⟨v, h3, h4⟩ => ⟨v, h3, conv v w' h4⟩⟩)
theorem region_list (ops : Array Oper) {fr : Nat → Bool} (h : (ops.toList.all fun o => match o.dst with | some d => fr d | none => true) = true) :
  (∀ p ∈ ops.toList.zipIdx, ops[p.2]? = some p.1 ∧ ∀ d, p.1.dst = some d → fr d = true) ∧ ops.toList.zipIdx.map (·.2) = List.range ops.size := by
 refine ⟨fun p hp => ?_, by simp [List.range_eq_range']⟩
 have h1 := List.mem_zipIdx' hp
 refine ⟨by have := h1.2; rw [this]; simp [show p.2 < ops.size by simpa using h1.1], fun d hd => ?_⟩
 have h2 := List.all_eq_true.1 h p.1 (by rw [h1.2]; exact List.getElem_mem _)
 rw [hd] at h2
 simpa using h2
end
end Go.Pev
end

section
/-
 PEV, part 20: states made anew, loops, code.
-/
namespace Go.Pev
section
variable {F : Nat → Prop} {G : Gh} {w : World}
theorem add_slot {st : St} {f1 : List Nat} (hh : HRep (FP F f1) G st.ow w.heap) {tmps : List Value} (hs : Svs (FP F f1) G st.ow w.heap st.sl tmps) {sh : Sh} {x : sh.T} {v : Value} (e : ShR w.heap (okF (FP F f1) G st.ow) sh x [v] f1) (hnd : f1.Nodup) (hF : ∀ b ∈ f1, ¬ F b)
  {s : Nat} (hem : st.ow[s]? = some []) (hv : tmps[s]? = some v) :
  ∃ G', HRep F G' (st.ow.set s ((unpk s sh x 0).2.map some)) w.heap ∧ Svs F G' (st.ow.set s ((unpk s sh x 0).2.map some)) w.heap (st.sl.set s ((unpk s sh x 0).1.headD .dead)) tmps ∧
   ∀ b, Own G' (st.ow.set s ((unpk s sh x 0).2.map some)) b ↔ Own G st.ow b ∨ b ∈ f1 := by
 have hn : newObs st.ow s (unpk s sh x 0).2 = some (st.ow.set s ((unpk s sh x 0).2.map some)) := by
  unfold newObs
  split
  ·rename_i h
   rw [h]
   congr 1
   apply List.ext_getElem?
   intro i
   by_cases hi : s = i
   ·subst hi
    rw [List.getElem?_set_self (List.getElem?_eq_some_iff.1 hem).1, hem]
    rfl
   ·rw [List.getElem?_set_ne hi]
  ·rw [hem]
 obtain ⟨G', h1, h2, h3, h4, _⟩ := state_new hh e hnd hF hn
 refine ⟨G', h1, ⟨by simp [hs.1], fun i i1 i2 => ?_⟩, h4⟩
 obtain ⟨u, hu, hsv⟩ := h2.single
 have hsv : Sv F G' (st.ow.set s ((unpk s sh x 0).2.map some)) w.heap ((unpk s sh x 0).1.headD .dead) v := by rw [hu]; exact hsv
 by_cases hi : s = i
 ·subst hi
  rw [List.getElem_set_self]
  rw [List.getElem?_eq_getElem i2] at hv
  rw [Option.some.inj hv]
  exact hsv
 ·rw [List.getElem_set_ne hi]
  exact h3 _ _ (hs.2 i (by simpa using i1) i2)
theorem empty_state (F : Nat → Prop) (w : World) (nt : Nat) {tmps : List Value} (hl : tmps.length = nt) :
  HRep F (fun _ _ _ => none) (List.replicate nt []) w.heap ∧ Svs F (fun _ _ _ => none) (List.replicate nt []) w.heap (List.replicate nt SV.dead) tmps ∧ ∀ b, ¬ Own (fun _ _ _ => none) (List.replicate nt []) b := by
 refine ⟨⟨fun d j o hn => ?_, fun d j i d' j' i' b o o' _ _ hg _ => (by cases hg), fun b hb => ?_⟩, ⟨by simp [hl], fun i h1 h2 => by simp only [List.getElem_replicate]; exact .dead _⟩, fun b hb => ?_⟩
 ·unfold nameOf at hn
  cases h : (List.replicate nt ([] : List (Option OB)))[d]? with
  | none => rw [h] at hn; cases hn
  | some l =>
   rw [h] at hn
   have : l = [] := by
    obtain ⟨h1, h2⟩ := List.getElem?_eq_some_iff.1 h
    simpa using h2.symm
   subst this
   simp at hn
 ·obtain ⟨_, _, _, _, _, hg⟩ := own_iff.1 hb; cases hg
 ·obtain ⟨_, _, _, _, _, hg⟩ := own_iff.1 hb; cases hg
theorem mkSt_sound {nt : Nat} {tmps : List Value} (hl : tmps.length = nt) {ok0 : Nat → Prop} : (l : List (Nat × Sh)) → okLive nt l = true → {F : Nat → Prop} → {x : (slotsSh l).T} → {fp : List Nat} →
  ShR w.heap ok0 (slotsSh l) x (l.map fun p => tmps.getD p.1 undef) fp → fp.Nodup → (∀ b ∈ fp, ¬ F b) → (∀ b, ok0 b → ¬ F b ∧ b ∉ fp) →
  ∃ G, HRep F G (mkSt nt l x).ow w.heap ∧ Svs F G (mkSt nt l x).ow w.heap (mkSt nt l x).sl tmps ∧ (∀ b, Own G (mkSt nt l x).ow b ↔ b ∈ fp) ∧ ∀ d, d < nt → d ∉ l.map (·.1) → (mkSt nt l x).ow[d]? = some []
 | [], _, F, x, fp, e, _, _, _ => by
  obtain ⟨h1, h2, h3⟩ := empty_state F w nt hl
  obtain ⟨_, rfl⟩ := e
  exact ⟨_, h1, h2, fun b => ⟨fun h => absurd h (h3 b), fun h => by simp at h⟩, fun d hd _ => by simp [mkSt, hd]⟩
 | (s, sh) :: r, hlv, F, x, fp, e, hnd, hF, hok => by
  simp only [okLive, Bool.and_eq_true, decide_eq_true_eq, Bool.not_eq_true'] at hlv
  obtain ⟨⟨hs, hsr⟩, hr⟩ := hlv
  obtain ⟨v, r', f1, f2, h1, rfl, e1, e2⟩ := e
  simp only [List.map_cons, List.cons.injEq] at h1
  obtain ⟨rfl, rfl⟩ := h1
  rw [List.nodup_append] at hnd
  obtain ⟨G, g1, g2, g3, g4⟩ := mkSt_sound hl r hr (F := FP F f1) (x := x.2) e2 hnd.2.1
   (fun b hb hx => by
    rcases hx with hx | hx
    ·exact hF b (List.mem_append.2 (.inr hb)) hx
    ·exact hnd.2.2 b hx b hb rfl)
   (fun b hb => by
    obtain ⟨a1, a2⟩ := hok b hb
    exact ⟨fun hx => by
     rcases hx with hx | hx
     ·exact a1 hx
     ·exact a2 (List.mem_append.2 (.inl hx)), fun hx => a2 (List.mem_append.2 (.inr hx))⟩)
  have hsr' : s ∉ r.map (·.1) := by simpa using hsr
  have hv : tmps[s]? = some (tmps.getD s undef) := by simp [List.getD, show s < tmps.length by omega]
  obtain ⟨G', q1, q2, q3⟩ := add_slot (st := mkSt nt r x.2) g1 g2 (ShR.mono (fun b rr hb hrr => ⟨⟨fun hx => by
   obtain ⟨a1, a2⟩ := hok b hb
   rcases hx with hx | hx
   ·exact a1 hx
   ·exact a2 (List.mem_append.2 (.inl hx)), fun hx => (hok b hb).2 (List.mem_append.2 (.inr ((g3 b).1 hx)))⟩, hrr⟩) sh (fun _ _ => rfl) e1) hnd.1 (fun b hb => hF b (List.mem_append.2 (.inl hb))) (g4 s hs hsr') hv
  refine ⟨G', q1, q2, fun b => ?_, fun d hd hdn => ?_⟩
  ·rw [show Own G' (mkSt nt ((s, sh) :: r) x).ow b ↔ _ from q3 b, g3 b, List.mem_append]
   exact Or.comm
  ·simp only [List.map_cons, List.mem_cons, not_or] at hdn
   show ((mkSt nt r x.2).ow.set s _)[d]? = some []
   rw [List.getElem?_set_ne (Ne.symm hdn.1)]
   exact g4 d hd hdn.2
theorem mkArg_sound {nt : Nat} {tmps : List Value} (hl : tmps.length = nt) {ok0 : Nat → Prop} : (s : Sh) → s.chain = true → (i : Nat) → i + s.len ≤ nt → {F : Nat → Prop} → {x : s.T} → {vs : List Value} → {fp : List Nat} →
  ShR w.heap ok0 s x vs fp → (∀ j, j < vs.length → tmps[i + j]? = vs[j]?) → fp.Nodup → (∀ b ∈ fp, ¬ F b) → (∀ b, ok0 b → ¬ F b ∧ b ∉ fp) →
  ∃ G, HRep F G (mkArg nt s x i).ow w.heap ∧ Svs F G (mkArg nt s x i).ow w.heap (mkArg nt s x i).sl tmps ∧ (∀ b, Own G (mkArg nt s x i).ow b ↔ b ∈ fp) ∧ ∀ d, d < i → d < nt → (mkArg nt s x i).ow[d]? = some []
 | .nil, _, i, _, F, x, vs, fp, e, _, _, _, _ => by
  obtain ⟨h1, h2, h3⟩ := empty_state F w nt hl
  obtain ⟨_, rfl⟩ := e
  exact ⟨_, h1, h2, fun b => ⟨fun h => absurd h (h3 b), fun h => by simp at h⟩, fun d _ hd => by simp [mkArg, hd]⟩
 | .cons sh b, hc, i, hi, F, x, vs, fp, e, hv, hnd, hF, hok => by
  obtain ⟨v, r', f1, f2, rfl, rfl, e1, e2⟩ := e
  simp only [Sh.len] at hi
  rw [List.nodup_append] at hnd
  obtain ⟨G, g1, g2, g3, g4⟩ := mkArg_sound hl b (by simpa [Sh.chain] using hc) (i + 1) (by omega) (F := FP F f1) (x := x.2) e2
   (fun j hj => by have := hv (j + 1) (by simpa using hj); rw [show i + (j + 1) = i + 1 + j by omega] at this; simpa using this) hnd.2.1
   (fun b hb hx => by
    rcases hx with hx | hx
    ·exact hF b (List.mem_append.2 (.inr hb)) hx
    ·exact hnd.2.2 b hx b hb rfl)
   (fun b hb => by
    obtain ⟨a1, a2⟩ := hok b hb
    exact ⟨fun hx => by
     rcases hx with hx | hx
     ·exact a1 hx
     ·exact a2 (List.mem_append.2 (.inl hx)), fun hx => a2 (List.mem_append.2 (.inr hx))⟩)
  have hv0 : tmps[i]? = some v := by have := hv 0 (by simp); simpa using this
  obtain ⟨G', q1, q2, q3⟩ := add_slot (st := mkArg nt b x.2 (i + 1)) g1 g2 (ShR.mono (fun b rr hb hrr => ⟨⟨fun hx => by
   obtain ⟨a1, a2⟩ := hok b hb
   rcases hx with hx | hx
   ·exact a1 hx
   ·exact a2 (List.mem_append.2 (.inl hx)), fun hx => (hok b hb).2 (List.mem_append.2 (.inr ((g3 b).1 hx)))⟩, hrr⟩) sh (fun _ _ => rfl) e1) hnd.1 (fun b hb => hF b (List.mem_append.2 (.inl hb))) (g4 i (by omega) (by omega)) hv0
  refine ⟨G', q1, q2, fun b' => ?_, fun d hd hdn => ?_⟩
  ·rw [show Own G' (mkArg nt (.cons sh b) x i).ow b' ↔ _ from q3 b', g3 b', List.mem_append]
   exact Or.comm
  ·show ((mkArg nt b x.2 (i + 1)).ow.set i _)[d]? = some []
   rw [List.getElem?_set_ne (by omega)]
   exact g4 d (by omega) hdn
 | .pur _, hc, _, _, _, _, _, _, _, _, _, _, _ => by simp [Sh.chain] at hc
 | .own _, hc, _, _, _, _, _, _, _, _, _, _, _ => by simp [Sh.chain] at hc
 | .row _, hc, _, _, _, _, _, _, _, _, _, _, _ => by simp [Sh.chain] at hc
 | .nrw _, hc, _, _, _, _, _, _, _, _, _, _, _ => by simp [Sh.chain] at hc
 | .box _, hc, _, _, _, _, _, _, _, _, _, _, _ => by simp [Sh.chain] at hc
 | .agg _, hc, _, _, _, _, _, _, _, _, _, _, _ => by simp [Sh.chain] at hc
 | .fn _ _ _, hc, _, _, _, _, _, _, _, _, _, _, _ => by simp [Sh.chain] at hc
 | .ign, hc, _, _, _, _, _, _, _, _, _, _, _ => by simp [Sh.chain] at hc
 | .nl, hc, _, _, _, _, _, _, _, _, _, _, _ => by simp [Sh.chain] at hc
end
section
variable {F : Nat → Prop} {fp : List Nat} {L : List (Nat × Obj)} {w0 : World} {vs : List Value} {C : Ctx} {nt : Nat} {fr : Nat → Bool}
theorem repack (hE : Env F fp L w0) {live : List (Nat × Sh)} (hlv : okLive nt live = true) {st : St} {a : Act} {w : World} (h : StI nt fr F fp w0 vs st a w) {y : (slotsSh live).T × OW} (e : pk (slotsSh live) (live.map fun p => opd st.sl (.tmp p.1)) st.ow = some y) :
  StI nt fr F fp w0 vs (mkSt nt live y.1) a w := by
 obtain ⟨G, hs, hh, hown⟩ := h.ex
 have hρ := opd_rho hs
 have hargs : Svs F G st.ow w.heap (live.map fun p => opd st.sl (.tmp p.1)) (live.map fun p => a.tmps.toList.getD p.1 undef) := by
  refine ⟨by simp, fun i h1 h2 => ?_⟩
  simp only [List.getElem_map]
  have := hρ (.tmp (live[i]'(by simpa using h1)).1)
  simpa [Act.eval] using this
 obtain ⟨f, hT, hO, hnd, hrep⟩ := pk_sound (slotsSh live) (x := y.1) (ow1 := y.2) (hE.wideAt h.kept) hh hargs e
 obtain ⟨G', g1, g2, g3, _⟩ := mkSt_sound (nt := nt) (tmps := a.tmps.toList) (by simpa using h.size) live hlv (F := F) hrep hnd (fun b hb => hh.notF b (hO.own hb)) (fun b hb => ⟨fun hx => hb.1 (.inl hx), fun hx => hb.1 (.inr hx)⟩)
 exact ⟨⟨G', g2, g1, fun b hb => hown b (hO.own ((g3 b).1 hb))⟩, h.kept, h.defers, h.args, h.size⟩
theorem StI.alR {st : St} {a : Act} {w : World} (h : StI nt fr F fp w0 vs st a w) {al : List (Nat × Nat × Nat × List Nat)} (e : alOk al st.sl st.ow = true) : AlR w.heap al a.tmps.toList := by
 obtain ⟨G, hs, hh, _⟩ := h.ex
 exact alOk_sound hh hs e
theorem StI.fix {st : St} {a : Act} {w : World} (h : StI nt fr F fp w0 vs st a w) {al : List (Nat × Nat × Nat × List Nat)} (e : AlR w.heap al a.tmps.toList) : StI nt fr F fp w0 vs (fixSt al st) a w := by
 obtain ⟨G, hs, hh, hown⟩ := h.ex
 exact ⟨⟨G, fixAl_sound hh al hs e, hh, hown⟩, h.kept, h.defers, h.args, h.size⟩
def QK {α : Type} (nt : Nat) (fr : Nat → Bool) (F : Nat → Prop) (fp : List Nat) (w0 : World) (vs : List Value) (K : Ks α) (r : α) : Exit → Act → World → Prop
 | .normal, a, w => ∃ st, StI nt fr F fp w0 vs st a w ∧ K.normal st = some r
 | .exit i, a, w => ∃ st, StI nt fr F fp w0 vs st a w ∧ K.exit i st = some r
 | .ret, a, w => ∃ st, StI nt fr F fp w0 vs st a w ∧ K.ret st = some r
 | _, _, _ => False
theorem evLoop_sound {α : Type} (hE : Env F fp L w0) {P : Program} {live : List (Nat × Sh)} (hlv : okLive nt live = true) {al : List (Nat × Nat × Nat × List Nat)} {c : Code} {K : Ks α} {r : α} {ev : St → (St → Option α) → Option α}
  (hbody : ∀ k st a w, ev st k = some r → StI nt fr F fp w0 vs st a w → c.wp P (QK nt fr F fp w0 vs { K with normal := k } r) a w) :
  (n : Nat) → {x : (slotsSh live).T} → {a : Act} → {w : World} → evLoop nt live al ev n x = some r → StI nt fr F fp w0 vs (mkSt nt live x) a w → AlR w.heap al a.tmps.toList → Code.rounds P c (QK nt fr F fp w0 vs K r) n a w
 | 0, _, _, _, e, _, _ => by cases e
 | n + 1, x, a, w, e, h, ha => by
  rw [rounds_succ]
  refine wp_mono (hbody _ _ _ _ e (h.fix ha)) fun ex a' w' hq => ?_
  cases ex with
  | normal =>
   obtain ⟨st, h1, h2⟩ := hq
   dsimp only at h2
   split at h2
   ·rename_i hal
    split at h2
    ·rename_i y hy
     exact evLoop_sound hE hlv hbody n h2 (repack hE hlv h1 hy) (h1.alR hal)
    ·cases h2
   ·cases h2
  | exit i => exact hq
  | ret => exact hq
  | _ => exact hq.elim
end
end Go.Pev
end

section
/-
 PEV, part 21: code and functions.
-/
namespace Go.Pev
section
variable {F : Nat → Prop} {fp : List Nat} {L : List (Nat × Obj)} {w0 : World} {vs : List Value} {C : Ctx} {nt : Nat} {fr : Nat → Bool}
theorem joinLeaf_sound {G : Gh} {ow : OW} {w : World} {k : Kd} {s : SV} {v : Value} (hs : Sv F G ow w.heap s v) {x : k.T} (e : joinLeaf k s = some x) : Sv F G ow w.heap (.v k x) v := by
 unfold joinLeaf at e
 split at e
 ·split at e
  ·rename_i hk
   subst hk
   have e := Option.some.inj e
   subst e
   exact hs
  ·cases e
 ·split at e
  ·cases e
   rw [hs.lb_inv]
   exact .bool _
  ·cases e
 ·split at e
  ·cases e
   cases hs
   exact .v rfl ⟨none, 0, rfl, Nat.le_refl _, .inl rfl⟩
  ·cases e
 ·cases e
theorem keptSl_sound {G : Gh} {ow : OW} {w : World} {sl sl0 : List SV} {tmps : List Value} (hs : Svs F G ow w.heap sl tmps) (h0 : Svs F G ow w.heap sl0 tmps) : (l : List (Nat × Kd)) → {p : keptT l} → packKept l sl = some p → Svs F G ow w.heap (keptSl l p sl0) tmps
 | [], _, _ => h0
 | (d, k) :: r, p, e => by
  simp only [packKept] at e
  split at e
  ·rename_i x hx
   split at e
   ·rename_i y hy
    cases e
    have ih := keptSl_sound hs h0 r hy
    refine ⟨by simp [keptSl, ih.1], fun i h1 h2 => ?_⟩
    simp only [keptSl] at h1 ⊢
    by_cases hd : d = i
    ·subst hd
     simp only [List.getElem_set_self]
     have hlt : d < sl.length := by rw [hs.1]; exact h2
     have e1 : opd sl (.tmp d) = sl[d] := by simp [opd, hlt]
     rw [e1] at hx
     exact joinLeaf_sound (hs.2 d hlt h2) hx
    ·simp only [List.getElem_set_ne hd]
     exact ih.2 i (by simpa using h1) h2
   ·cases e
  ·cases e
theorem foldl_dead (ops : List Oper) : (sl : List SV) → (ops.foldl (fun sl o => setSl sl o.dst .dead) sl).length = sl.length ∧ ∀ d, (∃ o ∈ ops, o.dst = some d) ∧ (∀ (h : d < (ops.foldl (fun sl o => setSl sl o.dst .dead) sl).length), (ops.foldl (fun sl o => setSl sl o.dst .dead) sl)[d] = .dead) ∨
  (¬ ∃ o ∈ ops, o.dst = some d) ∧ (ops.foldl (fun sl o => setSl sl o.dst .dead) sl)[d]? = sl[d]? := by
 induction ops with
 | nil => intro sl; exact ⟨rfl, fun d => .inr ⟨by simp, rfl⟩⟩
 | cons o ops ih =>
  intro sl
  obtain ⟨h1, h2⟩ := ih (setSl sl o.dst .dead)
  have hlen : (setSl sl o.dst .dead).length = sl.length := by cases hd : o.dst <;> simp [setSl]
  refine ⟨by simp only [List.foldl_cons]; rw [h1, hlen], fun d => ?_⟩
  simp only [List.foldl_cons]
  rcases h2 d with ⟨⟨o', ho', hd'⟩, h3⟩ | ⟨hn, h3⟩
  ·exact .inl ⟨⟨o', by simp [ho'], hd'⟩, h3⟩
  ·by_cases hd : o.dst = some d
   ·refine .inl ⟨⟨o, by simp, hd⟩, fun h => ?_⟩
    have : (ops.foldl (fun sl o => setSl sl o.dst .dead) (setSl sl o.dst .dead))[d]? = some .dead := by
     rw [h3, hd]
     simp only [setSl]
     rw [List.getElem?_set_self (by rw [h1, hlen] at h; exact h)]
    rw [List.getElem?_eq_getElem h] at this
    exact Option.some.inj this
   ·refine .inr ⟨?_, ?_⟩
    ·rintro ⟨o', ho', hd'⟩
     rcases List.mem_cons.1 ho' with rfl | ho'
     ·exact hd hd'
     ·exact hn ⟨o', ho', hd'⟩
    ·rw [h3]
     cases hx : o.dst with
     | none => rfl
     | some x =>
      simp only [setSl]
      rw [List.getElem?_set_ne (fun e => hd (by rw [hx, e]))]
theorem joined_state {ops : Array Oper} {st : St} {sl' : List SV} {a' : Act} {w' : World} (h : StI nt fr F fp w0 vs ⟨sl', st.ow⟩ a' w') (hag : ∀ d, ¬ (∃ o ∈ ops.toList, o.dst = some d) → sl'[d]? = st.sl[d]?) (hlen : st.sl.length = nt) {kept : List (Nat × Kd)} {p : keptT kept} (e : packKept kept sl' = some p) :
  StI nt fr F fp w0 vs ⟨keptSl kept p (ops.toList.foldl (fun sl o => setSl sl o.dst .dead) st.sl), st.ow⟩ a' w' := by
 obtain ⟨G, hs, hh, hown⟩ := h.ex
 obtain ⟨f1, f2⟩ := foldl_dead ops.toList st.sl
 have h0 : Svs F G st.ow w'.heap (ops.toList.foldl (fun sl o => setSl sl o.dst .dead) st.sl) a'.tmps.toList := by
  refine ⟨by rw [f1, hlen]; simp [h.size], fun i h1 h2 => ?_⟩
  rcases f2 i with ⟨_, h3⟩ | ⟨hn, h3⟩
  ·rw [h3 h1]; exact .dead _
  ·have h4 : i < sl'.length := by rw [hs.1]; exact h2
   rw [← hag i hn, List.getElem?_eq_getElem h1, List.getElem?_eq_getElem h4] at h3
   rw [Option.some.inj h3]
   exact hs.2 i h4 h2
 exact ⟨⟨G, keptSl_sound hs h0 kept e, hh, hown⟩, h.kept, h.defers, h.args, h.size⟩
theorem StI.len {st : St} {a : Act} {w : World} (h : StI nt fr F fp w0 vs st a w) : st.sl.length = nt := by
 obtain ⟨G, hs, _⟩ := h.ex
 rw [hs.1]; simpa using h.size
def DrawSoundJ (C : Ctx) (L : List (Nat × Obj)) : Prop :=
 ∀ {α : Type} {nt : Nat} {fr : Nat → Bool} {F : Nat → Prop} {fp : List Nat} {w0 : World} {vs : List Value} {id : Nat} {ops : Array Oper} {st : St} {a : Act} {w : World} {k : List SV → Option α} {r : α}, Env F fp L w0 →
  (ops.toList.all fun o => match o.dst with | some d => fr d | none => true) = true → StI nt fr F fp w0 vs st a w → anyOk ops (apartSAt ops) = true →
  evJsA C ops st.ow ops.toList.zipIdx st.sl k = some r → ∀ Q : Exit → Act → World → Prop,
  (∀ sl' a' w', k sl' = some r → StI nt fr F fp w0 vs ⟨sl', st.ow⟩ a' w' → (∀ d, ¬ (∃ o ∈ ops.toList, o.dst = some d) → sl'[d]? = st.sl[d]?) → Q .normal a' w') → (Code.region id ops true).wp C.P Q a w
def DrawSoundM (C : Ctx) (L : List (Nat × Obj)) : Prop :=
 ∀ {α : Type} {nt : Nat} {fr : Nat → Bool} {F : Nat → Prop} {fp : List Nat} {w0 : World} {vs : List Value} {id : Nat} {ops : Array Oper} {ks : List (List Nat × Bool)} {st : St} {a : Act} {w : World} {k : St → Option α} {r : α}, Env F fp L w0 →
  (ops.toList.all fun o => match o.dst with | some d => fr d | none => true) = true → StI nt fr F fp w0 vs st a w → anyOk ops (apartM dkF ops ks) = true →
  evOpsM C ops ks ops.toList.zipIdx st k = some r → ∀ Q : Exit → Act → World → Prop,
  (∀ st' a' w', k st' = some r → StI nt fr F fp w0 vs st' a' w' → Q .normal a' w') → (Code.region id ops true).wp C.P Q a w
def DrawSound (C : Ctx) (L : List (Nat × Obj)) : Prop := DrawSoundJ C L ∧ DrawSoundM C L ∧ OpISound C L
theorem evReg_sound {α : Type} (hC : C.Holds L) (hD : DrawSound C L) (hE : Env F fp L w0) (ann : Ann) {id : Nat} {ops : Array Oper} {draw : Bool} (hd : (ops.toList.all fun o => match o.dst with | some d => fr d | none => true) = true) {K : Ks α} {r : α} {st : St} {a : Act} {w : World}
  (e : evReg C ann id ops draw st K.normal = some r) (h : StI nt fr F fp w0 vs st a w) : (Code.region id ops draw).wp C.P (QK nt fr F fp w0 vs K r) a w := by
  obtain ⟨hl, hr⟩ := region_list ops hd
  unfold evReg at e
  split at e
  ·rename_i id' kept _
   have fin : ∀ p, K.normal ⟨keptSl kept p (ops.toList.foldl (fun sl o => setSl sl o.dst .dead) st.sl), st.ow⟩ = some r → ∀ sl' a' w', packKept kept sl' = some p → StI nt fr F fp w0 vs ⟨sl', st.ow⟩ a' w' → (∀ d, ¬ (∃ o ∈ ops.toList, o.dst = some d) → sl'[d]? = st.sl[d]?) → QK nt fr F fp w0 vs K r .normal a' w' :=
    fun p e sl' a' w' h1 h2 h3 => ⟨_, joined_state h2 h3 h.len h1, e⟩
   cases draw with
   | true =>
    simp only [if_true] at e
    split at e
    ·rename_i hdr
     rw [Option.bind_eq_some_iff] at e
     obtain ⟨p, hp, e⟩ := e
     exact hD.1 hE hd h hdr hp _ (fin p e)
    ·cases e
   | false =>
    simp only [Bool.false_eq_true, if_false] at e
    rw [Option.bind_eq_some_iff] at e
    obtain ⟨p, hp, e⟩ := e
    refine wp_region ?_
    rw [← hr]
    refine evJs_sound (D := fun d => ∃ o ∈ ops.toList, o.dst = some d) (sl0 := st.sl) hC hE (fin p e) ops.toList.zipIdx (fun q hq => ⟨(hl q hq).1, fun d hx => ⟨(hl q hq).2 d hx, ?_⟩⟩) h (fun _ _ => rfl) hp
    have := List.mem_zipIdx' hq
    exact ⟨q.1, by rw [this.2]; exact List.getElem_mem _, hx⟩
  ·cases draw with
   | true =>
    simp only [if_true] at e
    split at e
    ·split at e
     ·rename_i hdr
      exact hD.2.1 hE hd h hdr e _ fun st' a' w' h1 h2 => ⟨st', h2, h1⟩
     ·cases e
    ·split at e
     ·rename_i hdr
      exact hD.1 hE hd h hdr e _ fun sl' a' w' h1 h2 _ => ⟨_, h2, h1⟩
     ·cases e
   | false =>
    simp only [Bool.false_eq_true, if_false] at e
    refine wp_region ?_
    rw [← hr]
    exact evOps_sound hD.2.2 hE (fun st' a' w' h1 h2 => ⟨st', h2, h1⟩) _ hl h e
theorem evCode_sound {α : Type} (hC : C.Holds L) (hD : DrawSound C L) (hE : Env F fp L w0) (ann : Ann) : (c : Code) → dstOk fr c = true → {bid : Nat} → {K : Ks α} → {r : α} → {st : St} → {a : Act} → {w : World} →
  evCode C ann nt c bid st K = some r → StI nt fr F fp w0 vs st a w → c.wp C.P (QK nt fr F fp w0 vs K r) a w
 | .skip, _, _, K, r, st, a, w, e, h => wp_skip ⟨st, h, by simpa [evCode] using e⟩
 | .exit id, _, _, K, r, st, a, w, e, h => wp_exit ⟨st, h, by simpa [evCode] using e⟩
 | .ret, _, _, K, r, st, a, w, e, h => wp_ret ⟨st, h, by simpa [evCode] using e⟩
 | .seq x y, hd, bid, K, r, st, a, w, e, h => by
  simp only [dstOk, Bool.and_eq_true] at hd
  simp only [evCode] at e
  refine wp_seq (wp_mono (evCode_sound hC hD hE ann x hd.1 e h) fun ex a' w' hq => ?_)
  cases ex with
  | normal => obtain ⟨st', h1, h2⟩ := hq; exact evCode_sound hC hD hE ann y hd.2 h2 h1
  | exit i => exact hq
  | ret => exact hq
  | _ => exact hq.elim
 | .cond o x y, hd, bid, K, r, st, a, w, e, h => by
  simp only [dstOk, Bool.and_eq_true] at hd
  simp only [evCode] at e
  obtain ⟨G, hs, hh, hown⟩ := h.ex
  have hρ := opd_rho hs o
  split at e
  ·rename_i t ht
   rw [ht] at hρ
   refine wp_cond hρ.lb_inv ?_
   cases t with
   | true => exact evCode_sound hC hD hE ann x hd.1 e h
   | false => exact evCode_sound hC hD hE ann y hd.2 e h
  ·rename_i t ht
   rw [ht] at hρ
   refine wp_cond hρ.bool_inv ?_
   rw [br_eq] at e
   cases t with
   | true => exact evCode_sound hC hD hE ann x hd.1 e h
   | false => exact evCode_sound hC hD hE ann y hd.2 e h
  ·cases e
 | .block id x, hd, bid, K, r, st, a, w, e, h => by
  simp only [dstOk] at hd
  simp only [evCode] at e
  refine wp_block (wp_mono (evCode_sound hC hD hE ann x hd e h) fun ex a' w' hq => ?_)
  cases ex with
  | normal => exact hq
  | exit i =>
   obtain ⟨st', h1, h2⟩ := hq
   by_cases hi : i = id
   ·subst hi
    simp only [beq_self_eq_true, if_true] at h2
    simp only [Exit.inBlock, if_true]
    exact ⟨st', h1, h2⟩
   ·have hb : (i == id) = false := by simpa using hi
    simp only [hb, Bool.false_eq_true, if_false] at h2
    simp only [Exit.inBlock, hi, if_false]
    exact ⟨st', h1, h2⟩
  | ret => exact hq
  | _ => exact hq.elim
 | .loop x, hd, bid, K, r, st, a, w, e, h => by
  simp only [dstOk] at hd
  simp only [evCode] at e
  split at e
  ·cases e
  ·rename_i id live _
   split at e
   ·rename_i hlv
    split at e
    ·rename_i y hy
     exact wp_loop_rounds C.fuel (evLoop_sound hE hlv (fun k st a w e h => evCode_sound hC hD hE ann x hd e h) C.fuel e (repack hE hlv h hy) (h.alR (List.all_eq_true.2 fun q hq => ((Bool.and_eq_true _ _).mp (List.mem_filter.1 hq).2).1)))
    ·cases e
   ·cases e
 | .region id ops draw, hd, bid, K, r, st, a, w, e, h => by
  simp only [dstOk] at hd
  simp only [evCode] at e
  split at e
  ·rename_i _ live _
   split at e
   ·rename_i hlv
    split at e
    ·rename_i y hy
     rw [jn_eq] at e
     exact evReg_sound hC hD hE ann hd e (repack hE hlv h hy)
    ·cases e
   ·cases e
  ·exact evReg_sound hC hD hE ann hd e h
 | .label _, _, _, _, _, _, _, _, e, _ => by simp [evCode] at e
 | .goto _, _, _, _, _, _, _, _, e, _ => by simp [evCode] at e
 | .scope _, _, _, _, _, _, _, _, e, _ => by simp [evCode] at e
 | .rangeFunc _ _ _ _, _, _, _, _, _, _, _, e, _ => by simp [evCode] at e
theorem outp_sound {w : World} {G : Gh} : (s : Sh) → {F : Nat → Prop} → {ow ow1 : OW} → (∀ b, F b → b < w.heap.size) → HRep F G ow w.heap → {svs : List SV} → {us : List Value} → Svs F G ow w.heap svs us → {x : s.Out} → outp s svs ow = some (x, ow1) →
  ∃ f, Taken ow ow1 ∧ FpOk G ow ow1 f ∧ f.Nodup ∧ OutR w.heap (okF (FP F f) G ow1) s x us f
 | .row k, F, ow, ow1, hF, hh, svs, us, hs, x, e => pk_sound (.row k) hF hh hs e
 | .nrw s, F, ow, ow1, hF, hh, svs, us, hs, x, e => pk_sound (.nrw s) hF hh hs e
 | .box l, F, ow, ow1, hF, hh, svs, us, hs, x, e => pk_sound (.box l) hF hh hs e
 | .pur _, F, ow, ow1, hF, hh, svs, us, hs, x, e => by
  match svs, hs, e with
  | [], _, e => simp [outp] at e
  | [s], hs, e =>
   simp only [outp, Option.some.injEq, Prod.mk.injEq] at e
   obtain ⟨v, rfl, hv⟩ := hs.single'
   rw [← e.2]
   exact ⟨[], .refl _, .refl _ _, List.nodup_nil, ⟨v, rfl⟩, rfl⟩
  | _ :: _ :: _, _, e => simp [outp] at e
 | .own _, F, ow, ow1, hF, hh, svs, us, hs, x, e => by
  match svs, hs, e with
  | [], _, e => simp [outp] at e
  | [s], hs, e =>
   simp only [outp, Option.some.injEq, Prod.mk.injEq] at e
   obtain ⟨v, rfl, hv⟩ := hs.single'
   rw [← e.2]
   exact ⟨[], .refl _, .refl _ _, List.nodup_nil, ⟨v, rfl⟩, rfl⟩
  | _ :: _ :: _, _, e => simp [outp] at e
 | .rows _, F, ow, ow1, hF, hh, svs, us, hs, x, e => by
  match svs, hs, e with
  | [], _, e => simp [outp] at e
  | [s], hs, e =>
   simp only [outp, Option.some.injEq, Prod.mk.injEq] at e
   obtain ⟨v, rfl, hv⟩ := hs.single'
   rw [← e.2]
   exact ⟨[], .refl _, .refl _ _, List.nodup_nil, ⟨v, rfl⟩, rfl⟩
  | _ :: _ :: _, _, e => simp [outp] at e
 | .ign, F, ow, ow1, hF, hh, svs, us, hs, x, e => by
  match svs, hs, e with
  | [], _, e => simp [outp] at e
  | [s], hs, e =>
   simp only [outp, Option.some.injEq, Prod.mk.injEq] at e
   obtain ⟨v, rfl, hv⟩ := hs.single'
   rw [← e.2]
   exact ⟨[], .refl _, .refl _ _, List.nodup_nil, ⟨v, rfl⟩, rfl⟩
  | _ :: _ :: _, _, e => simp [outp] at e
 | .nl, F, ow, ow1, hF, hh, svs, us, hs, x, e => by
  match svs, hs, e with
  | [], _, e => simp [outp] at e
  | [s], hs, e =>
   simp only [outp, Option.some.injEq, Prod.mk.injEq] at e
   obtain ⟨v, rfl, hv⟩ := hs.single'
   rw [← e.2]
   exact ⟨[], .refl _, .refl _ _, List.nodup_nil, ⟨v, rfl⟩, rfl⟩
  | _ :: _ :: _, _, e => simp [outp] at e
 | .nil, F, ow, ow1, hF, hh, svs, us, hs, x, e => by
  match svs, hs, e with
  | [], hs, e =>
   simp only [outp, Option.some.injEq, Prod.mk.injEq] at e
   have : us = [] := List.eq_nil_of_length_eq_zero hs.1.symm
   subst this
   rw [← e.2]
   exact ⟨[], .refl _, .refl _ _, List.nodup_nil, rfl, rfl⟩
  | _ :: _, _, e => simp [outp] at e
 | .agg l, F, ow, ow1, hF, hh, svs, us, hs, x, e => by
  match svs, hs, e with
  | [], _, e => simp [outp] at e
  | [s], hs, e =>
   obtain ⟨v, rfl, hv⟩ := hs.single'
   cases s with
   | agg cs =>
    simp only [outp] at e
    obtain ⟨zs, rfl, hzs⟩ := hv.agg_inv
    obtain ⟨f, h1, h2, h3, h4⟩ := outp_sound l hF hh hzs e
    exact ⟨f, h1, h2, h3, zs, rfl, h4⟩
   | _ => simp [outp] at e
  | _ :: _ :: _, _, e => simp [outp] at e
 | .fn f n l, F, ow, ow1, hF, hh, svs, us, hs, x, e => by
  match svs, hs, e with
  | [], _, e => simp [outp] at e
  | [s], hs, e =>
   obtain ⟨v, rfl, hv⟩ := hs.single'
   cases s with
   | fn g a b =>
    simp only [outp] at e
    split at e
    ·rename_i hc
     obtain ⟨rfl, hn⟩ := hc
     obtain ⟨xs, ys, rfl, hx, hy⟩ := hv.fn_inv
     obtain ⟨f', h1, h2, h3, h4⟩ := outp_sound l hF hh (hx.append hy) e
     exact ⟨f', h1, h2, h3, xs, ys, rfl, by rw [← hx.1, hn], h4⟩
    ·cases e
   | _ => simp [outp] at e
  | _ :: _ :: _, _, e => simp [outp] at e
 | .cons a b, F, ow, ow1, hF, hh, svs, us, hs, x, e => by
  match svs, hs, e with
  | [], _, e => simp [outp] at e
  | s :: r, hs, e =>
   simp only [outp] at e
   split at e
   ·rename_i h0
    split at e
    ·rename_i z hz
     cases e
     obtain ⟨v, vs', rfl, hv, hvs⟩ := hs.uncons
     obtain ⟨f2, t2, o2, n2, r2⟩ := outp_sound b (x := z.1) (ow1 := z.2) hF hh hvs hz
     exact ⟨f2, t2, o2, n2, v, vs', [], f2, rfl, rfl, .inl ⟨h0, rfl⟩, r2⟩
    ·cases e
   rename_i h0
   split at e
   ·rename_i y hy
    split at e
    ·rename_i z hz
     cases e
     obtain ⟨v, vs', rfl, hv, hvs⟩ := hs.uncons
     obtain ⟨f1, t1, o1, n1, r1⟩ := outp_sound a (x := y.1) (ow1 := y.2) hF hh (.cons hv .nil) hy
     obtain ⟨hh1, hsv1⟩ := taken_state hh t1 o1
     have hF1 : ∀ b', FP F f1 b' → b' < w.heap.size := by
      intro b' hb'
      rcases hb' with hb' | hb'
      ·exact hF b' hb'
      ·exact Own.lt hh (o1.own hb')
     obtain ⟨f2, t2, o2, n2, r2⟩ := outp_sound b (x := z.1) (ow1 := z.2) hF1 hh1 ⟨hvs.1, fun i h1 h2 => hsv1 _ _ (hvs.2 i h1 h2)⟩ hz
     refine ⟨f1 ++ f2, t1.trans t2, fun x => ?_, List.nodup_append.2 ⟨n1, n2, fun x hx y hy hxy => ?_⟩, v, vs', f1, f2, rfl, rfl, ?_, ?_⟩
     ·rw [TkB.trans t1 t2, ← o1 x, ← o2 x, List.mem_append]
     ·subst hxy
      exact o1.notOwn hh t1 hx (o2.own hy)
     ·exact .inr ⟨by simpa using h0, OutR.mono (fun b' r' hb' hr' => ⟨okF_congr (fun b'' hx => fp_app.2 hx) (taken_ok t2 o2 hb'), hr'⟩) a (fun _ _ => rfl) r1⟩
     ·exact OutR.mono (fun b' r' hb' hr' => ⟨okF_congr (fun b'' hx => fp_app.2 hx) hb', hr'⟩) b (fun _ _ => rfl) r2
    ·cases e
   ·cases e
theorem resSV_sound {P : Program} {G : Gh} {st : St} {a : Act} {w : World} (hh : HRep F G st.ow w.heap) (hs : Svs F G st.ow w.heap st.sl a.tmps.toList) : (l : List ResultVar) → {Q : List SV → Prop} → (resSV P st l).can Q →
  ∃ ss us, Q ss ∧ (l.mapM fun | .tmp t => pure (a.tmps.getD t undef) | .cell b t => do loadVar t (← asAddr (a.tmps.getD b undef)) : Sem (List Value)).run P w = .ok us w ∧ Svs F G st.ow w.heap ss us
 | [], Q, h => ⟨[], [], h, rfl, .nil⟩
 | .tmp t :: r, Q, h => by
  have h := Cmd.can_bind _ h
  obtain ⟨ss, us, hq, hr, hsv⟩ := resSV_sound hh hs r h
  have hv := opd_rho hs (.tmp t)
  refine ⟨opd st.sl (.tmp t) :: ss, a.tmps.getD t undef :: us, hq, ?_, .cons hv hsv⟩
  simp only [List.mapM_cons, Sem.run_bind, Sem.run_pure, Result.andThen_ok, hr]
 | .cell b t :: r, Q, h => by
  have h := Cmd.can_bind _ h
  obtain ⟨s, v, hq, hr, hsv⟩ := evLoad_sound hh (opd_rho hs (.tmp b)) h
  have h := Cmd.can_bind _ hq
  obtain ⟨ss, us, hq, hr2, hsv2⟩ := resSV_sound hh hs r h
  refine ⟨s :: ss, v :: us, hq, ?_, .cons hsv hsv2⟩
  have hl : (do loadVar t (← asAddr (a.tmps.getD b undef)) : Sem Value).run P w = .ok v w := by
   have hr : (Instr.loadAt t (a.tmps.getD b undef)).run P w = .ok v w := hr
   generalize a.tmps.getD b undef = z at hr
   cases z with
   | pointer o =>
    cases o with
    | none => simp [Instr.loadAt, Instr.sureAddr, stuck] at hr
    | some ad => simpa [Instr.loadAt, Instr.sureAddr, asAddr] using hr
   | _ => simp [Instr.loadAt, Instr.sureAddr, stuck] at hr
  simp only [List.mapM_cons, Sem.run_bind, Result.andThen_ok, Sem.run_pure] at hl ⊢
  rw [hl]
  simp only [Result.andThen_ok, hr2]
theorem results_run {P : Program} {fn : Func} {a : Act} {w : World} {us : List Value} (hr : (fn.results.toList.mapM fun | .tmp t => pure (a.tmps.getD t undef) | .cell b t => do loadVar t (← asAddr (a.tmps.getD b undef)) : Sem (List Value)).run P w = .ok us w) :
  (results fn a.tmps).run P w = .ok (retV us) w := by
 unfold results
 have e1 : (fn.results.mapM fun | .tmp t => pure (a.tmps.getD t undef) | .cell b t => do loadVar t (← asAddr (a.tmps.getD b undef)) : Sem (Array Value)).run P w = .ok us.toArray w := by
  rw [Array.mapM_eq_mapM_toList, Sem.run_map, hr]
  rfl
 rw [Sem.run_bind]
 refine (congrArg (fun q => Result.andThen q _) (show _ = Result.ok us.toArray w from e1)).trans ?_
 simp only [Result.andThen_ok, Sem.run_pure]
 congr 1
 match us with
 | [] => rfl
 | [u] => rfl
 | u :: u' :: us' => simp [retV]
theorem shR_len {h : Array Obj} {ok : Nat → Prop} : (s : Sh) → s.chain = true → {x : s.T} → {us : List Value} → {f : List Nat} → ShR h ok s x us f → us.length = s.len
 | .nil, _, _, _, _, e => by obtain ⟨rfl, _⟩ := e; rfl
 | .cons _ b, hc, _, _, _, e => by
  obtain ⟨v, r, f1, f2, rfl, _, _, e2⟩ := e
  simp [Sh.len, shR_len b (by simpa [Sh.chain] using hc) e2]
 | .pur _, hc, _, _, _, _ => by simp [Sh.chain] at hc
 | .own _, hc, _, _, _, _ => by simp [Sh.chain] at hc
 | .rows _, hc, _, _, _, _ => by simp [Sh.chain] at hc
 | .row _, hc, _, _, _, _ => by simp [Sh.chain] at hc
 | .nrw _, hc, _, _, _, _ => by simp [Sh.chain] at hc
 | .box _, hc, _, _, _, _ => by simp [Sh.chain] at hc
 | .agg _, hc, _, _, _, _ => by simp [Sh.chain] at hc
 | .fn _ _ _, hc, _, _, _, _ => by simp [Sh.chain] at hc
 | .ign, hc, _, _, _, _ => by simp [Sh.chain] at hc
 | .nl, hc, _, _, _, _ => by simp [Sh.chain] at hc
theorem outR_swap {h : Array Obj} {ok : Nat → Prop} : (s : Sh) → s.chain = true → {y : s.Out} → {us vs : List Value} → {f : List Nat} → us.length = vs.length → (∀ i, i < vs.length → freeArg s i = false → us[i]? = vs[i]?) → OutR h ok s y us f → OutR h ok s y vs f
 | .nil, _, _, us, vs, f, hl, _, e => by
  obtain ⟨rfl, rfl⟩ := e
  exact ⟨List.eq_nil_of_length_eq_zero hl.symm, rfl⟩
 | .cons a b, hc, y, us, vs, f, hl, hag, e => by
  obtain ⟨v, r, f1, f2, rfl, rfl, e1, e2⟩ := e
  cases vs with
  | nil => simp at hl
  | cons v' r' =>
   refine ⟨v', r', f1, f2, rfl, rfl, ?_, outR_swap b (by simpa [Sh.chain] using hc) (by simpa using hl) (fun i hi hf => ?_) e2⟩
   ·rcases e1 with e1 | ⟨h0, e1⟩
    ·exact .inl e1
    ·have := hag 0 (by simp) (by simpa [freeArg] using h0)
     simp only [List.getElem?_cons_zero, Option.some.injEq] at this
     rw [← this]; exact .inr ⟨h0, e1⟩
   ·have := hag (i + 1) (by simpa using hi) (by simpa [freeArg] using hf)
    simpa using this
 | .pur _, hc, _, _, _, _, _, _, _ => by simp [Sh.chain] at hc
 | .own _, hc, _, _, _, _, _, _, _ => by simp [Sh.chain] at hc
 | .rows _, hc, _, _, _, _, _, _, _ => by simp [Sh.chain] at hc
 | .row _, hc, _, _, _, _, _, _, _ => by simp [Sh.chain] at hc
 | .nrw _, hc, _, _, _, _, _, _, _ => by simp [Sh.chain] at hc
 | .box _, hc, _, _, _, _, _, _, _ => by simp [Sh.chain] at hc
 | .agg _, hc, _, _, _, _, _, _, _ => by simp [Sh.chain] at hc
 | .fn _ _ _, hc, _, _, _, _, _, _, _ => by simp [Sh.chain] at hc
 | .ign, hc, _, _, _, _, _, _, _ => by simp [Sh.chain] at hc
 | .nl, hc, _, _, _, _, _, _, _ => by simp [Sh.chain] at hc
theorem evFin_sound (hE : Env F fp L w0) {fn : Func} {args res : Sh} (hch : args.chain = true) (hfr : fr = freeArg args) (hlen : vs.length = args.len) (hnt : args.len ≤ nt) {st : St} {a : Act} {w : World} (h : StI nt fr F fp w0 vs st a w) {y : res.T × args.Out} (e : evFin C fn args res st = some y) :
  a.defers = [] ∧ ∃ v, (results fn a.tmps).run C.P w = .ok v w ∧ ∃ rs fp1 fp2, v = retV rs ∧ ShR w.heap (fun b => ¬ FP F (fp1 ++ fp2) b) res y.1 rs fp1 ∧ OutR w.heap (fun b => ¬ FP F (fp1 ++ fp2) b) args y.2 vs fp2 ∧
   (fp1 ++ fp2).Nodup ∧ (∀ b ∈ fp1 ++ fp2, b ∈ fp ∨ w0.heap.size ≤ b) ∧ Kept (· ∈ fp) w0 w := by
 refine ⟨h.defers, ?_⟩
 obtain ⟨G0, hs0, hh0, hown0⟩ := h.ex
 obtain ⟨ss, us, hq, hr, hsv0⟩ := resSV_sound hh0 hs0 _ (Cmd.can_of_run _ e)
 obtain ⟨G, hTr, hOwn⟩ := settleVs_tr (hE.wideAt h.kept) hh0 ss
 have hh := hTr.hrep
 have hs : Svs F G (settleVs ss st.ow) w.heap st.sl a.tmps.toList := ⟨hs0.1, fun i h1 h2 => hTr.sv _ _ (hs0.2 i h1 h2)⟩
 have hsv : Svs F G (settleVs ss st.ow) w.heap ss us := ⟨hsv0.1, fun i h1 h2 => hTr.sv _ _ (hsv0.2 i h1 h2)⟩
 have hown := fun b hb => hown0 b (hOwn b hb)
 split at hq
 ·rename_i x hx
  split at hq
  ·rename_i z hz
   cases hq
   have hF := hE.wideAt h.kept
   obtain ⟨f1, t1, o1, n1, r1⟩ := pk_sound res (x := x.1) (ow1 := x.2) hF hh hsv hx
   obtain ⟨hh1, hsv1⟩ := taken_state hh t1 o1
   have hF1 : ∀ b', FP F f1 b' → b' < w.heap.size := by
    intro b' hb'
    rcases hb' with hb' | hb'
    ·exact hF b' hb'
    ·exact Own.lt hh (o1.own hb')
   have hn : st.sl.length = nt := h.len
   have hargs : Svs (FP F f1) G x.2 w.heap (st.sl.take args.len) (a.tmps.toList.take args.len) := by
    refine ⟨by simp [hs.1], fun i h1 h2 => ?_⟩
    simp only [List.getElem_take]
    have h3 : i < st.sl.length := by simp at h1; omega
    have h4 : i < a.tmps.toList.length := by rw [← hs.1]; exact h3
    exact hsv1 _ _ (hs.2 i h3 h4)
   have hsame : ∀ i, i < vs.length → freeArg args i = false → (a.tmps.toList.take args.len)[i]? = vs[i]? := fun i hi hf => by
    rw [← h.args i hi (by rw [hfr]; exact hf), List.getElem?_take, if_pos (by omega), Array.getElem?_toList]
   obtain ⟨f2, t2, o2, n2, r2⟩ := outp_sound args (x := z.1) (ow1 := z.2) hF1 hh1 hargs hz
   have hres := results_run (fn := fn) hr
   refine ⟨_, hres, us, f1, f2, rfl, ?_, ?_, ?_, ?_, h.kept⟩
   ·refine ShR.mono (fun b r hb hr => ⟨fun hx => ?_, hr⟩) _ (fun _ _ => rfl) r1
    rcases hx with hx | hx
    ·exact hb.1 (.inl hx)
    ·rcases List.mem_append.1 hx with hx | hx
     ·exact hb.1 (.inr hx)
     ·exact hb.2 (o2.own hx)
   ·refine OutR.mono (fun b r hb hr => ⟨fun hx => hb.1 (fp_app.2 hx), hr⟩) _ (fun _ _ => rfl) (outR_swap args hch (by simp [hlen, ← hs.1, hn, hnt]) hsame r2)
   ·exact List.nodup_append.2 ⟨n1, n2, fun q hq q' hq' he => by subst he; exact o1.notOwn hh t1 hq (o2.own hq')⟩
   ·intro b hb
    rcases List.mem_append.1 hb with hb | hb
    ·exact hown b (o1.own hb)
    ·exact hown b (t1.own (o2.own hb))
  ·cases hq
 ·cases hq
theorem evFunc_sound (hC : C.Holds L) (hD : DrawSound C L) {f : FuncId} {fn : Func} (hf : C.P.funcs[f]? = some fn) (hname : (fn.name == "runtime.NumGoroutine") = false) (ann : Ann) (args res : Sh) {den : args.T → Option (res.T × args.Out)}
  (hden : ∀ x y, den x = some y → evFunc C ann fn args res x = some y) (hbody : fn.body.isNone = false) : SigHolds C.P L f ⟨args, res, den, ann.al⟩ := by
 refine ⟨⟨fn, hf, hname, hbody⟩, fun w F x vs fp y hF hL hnd hfp hsh hy hal => ?_⟩
 have hy := hden x y hy
 unfold evFunc at hy
 split at hy
 ·cases hy
 rename_i c hb
 split at hy
 ·rename_i hc
  simp only [Bool.and_eq_true, decide_eq_true_eq] at hc
  obtain ⟨⟨hch, hnt⟩, hd⟩ := hc
  have hlen : vs.length = args.len := shR_len args hch hsh
  have hE : Env F fp L w := ⟨hF, hL, hfp⟩
  refine calls_of_wp hf hb ?_
  have hsize : (vs.toArray ++ Array.replicate (fn.ntmps - vs.toArray.size) undef).size = fn.ntmps := by simp; omega
  have hargs : ∀ i, i < vs.length → (vs.toArray ++ Array.replicate (fn.ntmps - vs.toArray.size) undef)[i]? = vs[i]? := by
   intro i hi
   rw [Array.getElem?_append_left (by simpa using hi)]
   simp
  obtain ⟨G, g1, g2, g3, _⟩ := mkArg_sound (nt := fn.ntmps) (tmps := (vs.toArray ++ Array.replicate (fn.ntmps - vs.toArray.size) undef).toList) (by rw [Array.length_toList, hsize]) args hch 0 (by omega) (F := F) hsh
   (fun j hj => by rw [Nat.zero_add, Array.getElem?_toList]; exact hargs j hj) hnd hfp (fun b hb => ⟨fun hx => hb (.inl hx), fun hx => hb (.inr hx)⟩)
  have hI : StI fn.ntmps (freeArg args) F fp w vs (mkArg fn.ntmps args x 0) { tmps := vs.toArray ++ Array.replicate (fn.ntmps - vs.toArray.size) undef, defers := [] } w :=
   ⟨⟨G, g2, g1, fun b hb => .inl ((g3 b).1 hb)⟩, .refl _ _, rfl, fun i hi _ => hargs i hi, hsize⟩
  have hAl : AlR w.heap ann.al (vs.toArray ++ Array.replicate (fn.ntmps - vs.toArray.size) undef).toList := fun q hq => by
   obtain ⟨v, t, h1, h2, h3⟩ := hal q hq
   have up : ∀ (i : Nat) (u : Value), vs[i]? = some u → (vs.toArray ++ Array.replicate (fn.ntmps - vs.toArray.size) undef).toList[i]? = some u := fun i u hu => by
    have hi := (List.getElem?_eq_some_iff.1 hu).1
    rw [Array.getElem?_toList, hargs i hi, hu]
   exact ⟨v, t, up _ _ h1, up _ _ h2, h3⟩
  refine wp_mono (evCode_sound hC hD hE ann c hd hy (hI.fix hAl)) fun ex a' w' hq => ?_
  cases ex with
  | normal =>
   obtain ⟨st, h1, h2⟩ := hq
   obtain ⟨q1, v, q2, rs, fp1, fp2, rfl, q3⟩ := evFin_sound hE hch rfl hlen hnt h1 h2
   exact ⟨q1, _, q2, rs, fp1, fp2, rfl, q3⟩
  | ret =>
   obtain ⟨st, h1, h2⟩ := hq
   obtain ⟨q1, v, q2, rs, fp1, fp2, rfl, q3⟩ := evFin_sound hE hch rfl hlen hnt h1 h2
   exact ⟨q1, _, q2, rs, fp1, fp2, rfl, q3⟩
  | exit i => obtain ⟨st, h1, h2⟩ := hq; cases h2
  | _ => exact hq.elim
 ·cases hy
end
end Go.Pev
end

section
/-
 PEV, part 22: a region in whatever order: a law of steps alone.
-/
namespace Go.Pev
def seqS {S : Type} (step : Nat → S → Option S) : List Nat → S → Option S
 | [], s => some s
 | i :: r, s => (match step i s with | some s' => seqS step r s' | none => none)
theorem seqS_front {S : Type} {step : Nat → S → Option S} {apart : Nat → Nat → Bool} (hc : ∀ i j s s1 s2, apart i j = true → step i s = some s1 → step j s1 = some s2 → ∃ s1', step j s = some s1' ∧ step i s1' = some s2) {x : Nat} {q : List Nat} :
  (p : List Nat) → (∀ i ∈ p, apart i x = true) → {s r : S} → seqS step (p ++ x :: q) s = some r → ∃ s1, step x s = some s1 ∧ seqS step (p ++ q) s1 = some r
 | [], _, s, r, h => by
  simp only [List.nil_append, seqS] at h ⊢
  split at h
  ·rename_i s' hs; exact ⟨s', hs, h⟩
  ·cases h
 | i :: p, hp, s, r, h => by
  simp only [List.cons_append, seqS] at h
  split at h
  ·rename_i s' hs
   obtain ⟨s1, h1, h2⟩ := seqS_front hc p (fun j hj => hp j (by simp [hj])) h
   obtain ⟨s2, h3, h4⟩ := hc i x s s' s1 (hp i (by simp)) hs h1
   refine ⟨s2, h3, ?_⟩
   simp only [List.cons_append, seqS, h4]
   exact h2
  ·cases h
theorem maskOf_bit (ms : List Nat) (o : Oper) (i : Nat) (h : (maskOf ms o).testBit i = true) : ∃ e ∈ o.after, Region.binds .any e = true ∧ (i = e.on ∨ (ms.getD e.on 0).testBit i = true) := by
 have key : ∀ (l : List Edge) (m : Nat), (l.foldl (fun m e => if Region.binds .any e then m ||| (1 <<< e.on) ||| ms.getD e.on 0 else m) m).testBit i = true → m.testBit i = true ∨ ∃ e ∈ l, Region.binds .any e = true ∧ (i = e.on ∨ (ms.getD e.on 0).testBit i = true) := by
  intro l
  induction l with
  | nil => intro m h; exact .inl h
  | cons e l ih =>
   intro m h
   simp only [List.foldl_cons] at h
   rcases ih _ h with h1 | ⟨e', he', h2⟩
   ·split at h1
    ·rename_i hb
     simp only [Nat.testBit_or, Bool.or_eq_true] at h1
     rcases h1 with (h1 | h1) | h1
     ·exact .inl h1
     ·right
      refine ⟨e, by simp, hb, .inl ?_⟩
      rw [Nat.shiftLeft_eq, Nat.one_mul, Nat.testBit_two_pow] at h1
      exact (of_decide_eq_true h1).symm
     ·exact .inr ⟨e, by simp, hb, .inr h1⟩
    ·exact .inl h1
   ·exact .inr ⟨e', by simp [he'], h2⟩
 rcases key o.after.toList 0 h with h1 | ⟨e, he, h2⟩
 ·simp at h1
 ·exact ⟨e, by simpa using he, h2⟩
theorem masksOf_get : (l : List Oper) → (ms : List Nat) → (j : Nat) → (j < ms.length → (masksOf l ms)[j]? = ms[j]?) ∧ (∀ o, l[j]? = some o → ∃ p, (masksOf l ms)[ms.length + j]? = some (maskOf p o) ∧ ∀ i, i < ms.length + j → p.getD i 0 = (masksOf l ms).getD i 0)
 | [], ms, j => ⟨fun _ => rfl, fun o h => by simp at h⟩
 | o :: r, ms, j => by
  have ih := masksOf_get r (ms ++ [maskOf ms o])
  have e0 : masksOf (o :: r) ms = masksOf r (ms ++ [maskOf ms o]) := rfl
  rw [e0]
  refine ⟨fun hj => ?_, fun o' ho' => ?_⟩
  ·rw [(ih j).1 (by simp; omega), List.getElem?_append_left hj]
  ·cases j with
   | zero =>
    simp only [List.getElem?_cons_zero, Option.some.injEq] at ho'
    subst ho'
    refine ⟨ms, ?_, fun i hi => ?_⟩
    ·rw [(ih _).1 (by simp), List.getElem?_append_right (by omega)]; simp
    ·have := (ih i).1 (by simp; omega)
     simp only [List.getD, this]
     rw [List.getElem?_append_left (by omega)]
   | succ j =>
    obtain ⟨p, h1, h2⟩ := (ih j).2 o' (by simpa using ho')
    have e : (ms ++ [maskOf ms o]).length + j = ms.length + (j + 1) := by simp; omega
    rw [e] at h1 h2
    exact ⟨p, h1, h2⟩
theorem upOk_get : (l : List Oper) → (k : Nat) → upOk k l = true → ∀ j o, l[j]? = some o → ∀ e ∈ o.after, Region.binds .any e = true → e.on < k + j
 | [], _, _, _, _, h, _, _, _ => by simp at h
 | o :: r, k, hu, j, o', h, e, he, hb => by
  simp only [upOk, Bool.and_eq_true] at hu
  cases j with
  | zero =>
   simp only [List.getElem?_cons_zero, Option.some.injEq] at h
   subst h
   have := List.all_eq_true.1 hu.1 e (by simpa using he)
   simpa [hb] using this
  | succ j =>
   have := upOk_get r (k + 1) hu.2 j o' (by simpa using h) e he hb
   omega
section
variable {P : Program} {ops : Array Oper} {Q : Exit → Act → World → Prop}
theorem any_of_seq {S : Type} {step : Nat → S → Option S} {R : S → Act → World → Prop} {apart : Nat → Nat → Bool} (hc : ∀ i j s s1 s2, apart i j = true → step i s = some s1 → step j s1 = some s2 → ∃ s1', step j s = some s1' ∧ step i s1' = some s2)
  (hop : ∀ i s s' a w, i < ops.size → step i s = some s' → R s a w → ∀ K : Act → World → Prop, (∀ a' w', R s' a' w' → K a' w') → wpOp P ops Q i K a w) (hok : anyOk ops apart = true) {sF : S} (hfin : ∀ a w, R sF a w → Q .normal a w) :
  ∀ (fuel : Nat) (listed : Array Bool) (s : S) (a : Act) (w : World), listed.size = ops.size → ((List.range ops.size).filter fun i => !listed.getD i true).length ≤ fuel →
   (∀ j, listed.getD j false = true → ∀ i, ((masksOf ops.toList []).getD j 0).testBit i = true → listed.getD i false = true) →
   seqS step ((List.range ops.size).filter fun i => !listed.getD i true) s = some sF → R s a w → wpAny P .any ops Q fuel listed a w := by
 simp only [anyOk, Bool.and_eq_true] at hok
 obtain ⟨hup, hap⟩ := hok
 have hsome : ∀ listed : Array Bool, listed.size = ops.size → Region.ready .any ops listed = [] → ((List.range ops.size).filter fun i => !listed.getD i true) = [] := by
  intro listed hsz hr
  cases hx : ((List.range ops.size).filter fun i => !listed.getD i true) with
  | nil => rfl
  | cons i0 rest =>
   exfalso
   have hmem : ∀ i, i ∈ ((List.range ops.size).filter fun i => !listed.getD i true) ↔ i < ops.size ∧ listed.getD i true = false := by intro i; simp
   have hi0 := (hmem i0).1 (by rw [hx]; simp)
   have hmin : ∀ i, i < i0 → listed.getD i true = true := by
    intro i hi
    cases hl : listed.getD i true with
    | true => rfl
    | false =>
     exfalso
     have hin : i ∈ i0 :: rest := by rw [← hx]; exact (hmem i).2 ⟨by omega, hl⟩
     have hsorted : (i0 :: rest).Pairwise (· < ·) := by rw [← hx]; exact List.Pairwise.filter _ List.pairwise_lt_range
     rcases List.mem_cons.1 hin with h | h
     ·omega
     ·have := List.rel_of_pairwise_cons hsorted h; omega
   have hrd : i0 ∈ Region.ready .any ops listed := by
    rw [mem_ready]
    refine ⟨hi0.2, ops[i0], by simp [hi0.1], fun e he hb => ?_⟩
    have := upOk_get ops.toList 0 hup i0 ops[i0] (by simp [hi0.1]) e he hb
    have h2 := hmin e.on (by omega)
    have hlt : e.on < listed.size := by omega
    simpa [Array.getD, hlt] using h2
   rw [hr] at hrd
   cases hrd
 intro fuel
 induction fuel with
 | zero =>
  intro listed s a w hsz hlen hcl hseq hR
  have hnil : ((List.range ops.size).filter fun i => !listed.getD i true) = [] := List.eq_nil_of_length_eq_zero (by omega)
  rw [hnil] at hseq
  cases hseq
  refine ⟨?_, hfin a w hR⟩
  cases hr : Region.ready .any ops listed with
  | nil => rfl
  | cons i r =>
   have hi : i ∈ Region.ready .any ops listed := by rw [hr]; simp
   obtain ⟨h1, o, h2, _⟩ := mem_ready.1 hi
   have : i ∈ ((List.range ops.size).filter fun i => !listed.getD i true) := List.mem_filter.2 ⟨List.mem_range.2 (Array.getElem?_eq_some_iff.1 h2).1, by rw [h1]; rfl⟩
   rw [hnil] at this
   cases this
 | succ fuel ih =>
  intro listed s a w hsz hlen hcl hseq hR
  refine ⟨fun hr => ?_, fun i hi => ?_⟩
  ·rw [hsome listed hsz hr] at hseq
   cases hseq
   exact hfin a w hR
  ·obtain ⟨h1, o, h2, h3⟩ := mem_ready.1 hi
   have hlt := (Array.getElem?_eq_some_iff.1 h2).1
   have hbits : ∀ j, ((masksOf ops.toList []).getD i 0).testBit j = true → listed.getD j false = true := by
    intro j hj
    obtain ⟨p, e1, e2⟩ := (masksOf_get ops.toList [] i).2 o (by simpa using h2)
    simp only [List.length_nil, Nat.zero_add] at e1 e2
    have e3 : (masksOf ops.toList []).getD i 0 = maskOf p o := by simp [List.getD, e1]
    rw [e3] at hj
    obtain ⟨e, he, hb, h4⟩ := maskOf_bit p o j hj
    have h5 := h3 e he hb
    rcases h4 with rfl | h4
    ·exact h5
    ·have := upOk_get ops.toList 0 hup i o (by simpa using h2) e he hb
     rw [e2 e.on (by omega)] at h4
     exact hcl e.on h5 j h4
   have hnot : ∀ j, listed.getD j true = false → listed.getD j false = true → False := by
    intro j e1 e2
    by_cases hj : j < listed.size
    ·simp [Array.getD, hj] at e1 e2; rw [e1] at e2; cases e2
    ·simp [Array.getD, hj] at e1
   have hsplit : List.range ops.size = List.range i ++ i :: List.range' (i + 1) (ops.size - i - 1) := by
    have e1 : ops.size = i + (ops.size - i) := by omega
    rw [List.range_eq_range', List.range_eq_range']
    conv => lhs; rw [e1]
    rw [← List.range'_append_1]
    congr 1
    rw [show ops.size - i = (ops.size - i - 1) + 1 by omega, List.range'_succ]
    simp
   have hset : ∀ j, j ≠ i → (listed.setIfInBounds i true).getD j true = listed.getD j true := fun j hj => getD_set_ne true (Ne.symm hj)
   have hseti : (listed.setIfInBounds i true).getD i true = true := by
    have : i < listed.size := by omega
    simp [Array.getD, this]
   have hp : ∀ j ∈ (List.range i).filter (fun j => !listed.getD j true), apart j i = true := by
    intro j hj
    obtain ⟨hj1, hj2⟩ := List.mem_filter.1 hj
    have hj1 := List.mem_range.1 hj1
    have := List.all_eq_true.1 (List.all_eq_true.1 hap i (List.mem_range.2 hlt)) j (List.mem_range.2 hj1)
    rcases Bool.or_eq_true _ _ ▸ this with h4 | h4
    ·exact (hnot j (by simpa using hj2) (hbits j h4)).elim
    ·exact h4
   have hf1 : ((List.range ops.size).filter fun i => !listed.getD i true) = (List.range i).filter (fun j => !listed.getD j true) ++ i :: (List.range' (i + 1) (ops.size - i - 1)).filter (fun j => !listed.getD j true) := by
    rw [hsplit, List.filter_append, List.filter_cons, h1]; rfl
   have hf2 : ((List.range ops.size).filter fun j => !(listed.setIfInBounds i true).getD j true) = (List.range i).filter (fun j => !listed.getD j true) ++ (List.range' (i + 1) (ops.size - i - 1)).filter (fun j => !listed.getD j true) := by
    rw [hsplit, List.filter_append, List.filter_cons, hseti]
    congr 1
    ·refine List.filter_congr fun j hj => ?_
     rw [hset j (by have := List.mem_range.1 hj; omega)]
    ·refine List.filter_congr fun j hj => ?_
     rw [hset j (by have := List.mem_range'_1.1 hj; omega)]
   rw [hf1] at hseq hlen
   obtain ⟨s1, q1, q2⟩ := seqS_front hc _ hp hseq
   refine hop i s s1 a w hlt q1 hR _ fun a' w' hR' => ih _ s1 a' w' (by simpa using hsz) (by rw [hf2]; simp at hlen ⊢; omega) (fun j hj i' hi' => ?_) (by rw [hf2]; exact q2) hR'
   by_cases hji : j = i
   ·subst hji
    exact getD_set_true (hbits i' hi')
   ·rw [getD_set_ne false (Ne.symm hji)] at hj
    exact getD_set_true (hcl j hj i' hi')
end
end Go.Pev
end

section
/-
 PEV, part 19b: a step that looks at some of what is owned alone.
-/
namespace Go.Pev
theorem maskOW_get (K : List Nat) : (l : OW) → (i n : Nat) → (maskOW K i l)[n]? = (l[n]?).map fun x => if K.contains (i + n) then x else dummyL
 | [], _, _ => rfl
 | a :: r, i, 0 => by simp [maskOW]
 | a :: r, i, n + 1 => by
  simp only [maskOW, List.getElem?_cons_succ]
  rw [maskOW_get K r (i + 1) n]
  have : i + 1 + n = i + (n + 1) := by omega
  rw [this]
theorem mergeOW_get (K : List Nat) : (l s : OW) → (i n : Nat) → (mergeOW K i l s)[n]? = (l[n]?).map fun x => if K.contains (i + n) then (s[n]?).getD x else x
 | [], _, _, _ => rfl
 | a :: r, s, i, 0 => by cases s <;> simp [mergeOW]
 | a :: r, s, i, n + 1 => by
  simp only [mergeOW, List.getElem?_cons_succ]
  rw [mergeOW_get K r s.tail (i + 1) n]
  have : i + 1 + n = i + (n + 1) := by omega
  rw [this]
  cases s <;> simp
theorem mask_merge {K K' : List Nat} (h : ∀ d, K.contains d = true → K'.contains d = false) (l s : OW) : maskOW K' 0 (mergeOW K 0 l s) = maskOW K' 0 l := by
 apply List.ext_getElem?
 intro n
 rw [maskOW_get, maskOW_get, mergeOW_get]
 cases l[n]? with
 | none => rfl
 | some x =>
  simp only [Option.map_some, Nat.zero_add]
  cases hk : K.contains n with
  | true => rw [h n hk]; simp only [Bool.false_eq_true, if_false]
  | false => simp only [Bool.false_eq_true, if_false]
theorem merge_comm {K K' : List Nat} (h : ∀ d, K.contains d = true → K'.contains d = false) (l s s' : OW) : mergeOW K' 0 (mergeOW K 0 l s) s' = mergeOW K 0 (mergeOW K' 0 l s') s := by
 apply List.ext_getElem?
 intro n
 simp only [mergeOW_get, Nat.zero_add]
 cases l[n]? with
 | none => rfl
 | some x =>
  simp only [Option.map_some, Option.some.injEq]
  cases hk : K.contains n with
  | true => rw [h n hk]; simp only [Bool.false_eq_true, if_false, if_true]
  | false => simp only [Bool.false_eq_true, if_false]
theorem smallOW_get {ow : OW} : smallOW ow = true ↔ ∀ (n : Nat) (l : List (Option OB)), ow[n]? = some l → l.length ≤ 16 := by
 unfold smallOW
 rw [List.all_eq_true]
 constructor
 ·intro h n l hl
  have := h l (List.mem_of_getElem? hl)
  simpa using this
 ·intro h l hl
  obtain ⟨n, hn⟩ := List.mem_iff_getElem?.1 hl
  simpa using h n l hn
theorem small_merge {K : List Nat} {l s : OW} (hl : smallOW l = true) (hs : smallOW s = true) : smallOW (mergeOW K 0 l s) = true := by
 rw [smallOW_get] at hl hs ⊢
 intro n x hx
 rw [mergeOW_get] at hx
 cases h1 : l[n]? with
 | none => rw [h1] at hx; cases hx
 | some y =>
  rw [h1] at hx
  simp only [Option.map_some, Option.some.injEq] at hx
  subst hx
  split
  ·cases h2 : s[n]? with
   | none => simpa using hl n y h1
   | some z => simpa using hs n z h2
  ·exact hl n y h1
theorem frameOW_get (K : List Nat) : (l : OW) → (i : Nat) → frameOW K i l = true → ∀ n x, l[n]? = some x → (if K.contains (i + n) then x.all (obIn K) else x.all (·.isNone) && x.length == 16) = true
 | [], _, _, _, _, h => by simp at h
 | a :: r, i, hf, 0, x, h => by
  simp only [List.getElem?_cons_zero, Option.some.injEq] at h
  subst h
  simp only [frameOW, Bool.and_eq_true] at hf
  exact hf.1
 | a :: r, i, hf, n + 1, x, h => by
  simp only [frameOW, Bool.and_eq_true] at hf
  have := frameOW_get K r (i + 1) hf.2 n x (by simpa using h)
  have e : i + 1 + n = i + (n + 1) := by omega
  rw [e] at this
  exact this
theorem length_merge (K : List Nat) (l s : OW) : (mergeOW K 0 l s).length = l.length := by
 have key : ∀ (l s : OW) (i : Nat), (mergeOW K i l s).length = l.length := by
  intro l
  induction l with
  | nil => intro s i; rfl
  | cons a r ih => intro s i; simp [mergeOW, ih]
 exact key l s 0
theorem length_mask (K : List Nat) (l : OW) : (maskOW K 0 l).length = l.length := by
 have key : ∀ (l : OW) (i : Nat), (maskOW K i l).length = l.length := by
  intro l
  induction l with
  | nil => intro i; rfl
  | cons a r ih => intro i; simp [maskOW, ih]
 exact key l 0
section
variable {F : Nat → Prop} {G G1 : Gh} {ow ow1 : OW} {w w1 : World} {K : List Nat}
theorem nameOf_mask_in {d : Nat} (hd : K.contains d = true) (j : Nat) : nameOf (maskOW K 0 ow) d j = nameOf ow d j := by
 unfold nameOf
 rw [maskOW_get]
 cases ow[d]? with
 | none => rfl
 | some l => simp only [Option.map_some, Nat.zero_add, hd, if_true]
theorem dummy_get {j : Nat} : dummyL[j]? = if j < 16 then some none else none := by
 unfold dummyL
 rw [List.getElem?_replicate]
theorem nameOf_mask_out {d : Nat} (hd : K.contains d = false) (j : Nat) : nameOf (maskOW K 0 ow) d j = none ∨ nameOf (maskOW K 0 ow) d j = some none := by
 unfold nameOf
 rw [maskOW_get]
 cases ow[d]? with
 | none => exact .inl rfl
 | some l =>
  simp only [Option.map_some, Nat.zero_add, hd, Bool.false_eq_true, if_false, Option.bind_some]
  rw [dummy_get]
  split
  ·exact .inr rfl
  ·exact .inl rfl
theorem nameOf_mask_dead (hs : smallOW ow = true) {d : Nat} (hd : K.contains d = false) {j : Nat} (hn : nameOf ow d j ≠ none) : nameOf (maskOW K 0 ow) d j = some none := by
 unfold nameOf at hn ⊢
 rw [maskOW_get]
 cases hl : ow[d]? with
 | none => rw [hl] at hn; exact absurd rfl hn
 | some l =>
  rw [hl] at hn
  simp only [Option.bind_some] at hn
  have hj : j < l.length := by
   rcases Nat.lt_or_ge j l.length with h | h
   ·exact h
   ·exact absurd (List.getElem?_eq_none h) hn
  have := smallOW_get.1 hs d l hl
  simp only [Option.map_some, Nat.zero_add, hd, Bool.false_eq_true, if_false, Option.bind_some]
  rw [dummy_get, if_pos (by omega)]
theorem nameOf_merge_in (hl : ow1.length = ow.length) {d : Nat} (hd : K.contains d = true) (j : Nat) : nameOf (mergeOW K 0 ow ow1) d j = nameOf ow1 d j := by
 unfold nameOf
 rw [mergeOW_get]
 rcases Nat.lt_or_ge d ow.length with h | h
 ·simp only [List.getElem?_eq_getElem h, List.getElem?_eq_getElem (show d < ow1.length by omega), Option.map_some, Nat.zero_add, hd, if_true, Option.getD_some]
 ·rw [List.getElem?_eq_none h, List.getElem?_eq_none (show ow1.length ≤ d by omega)]; rfl
theorem nameOf_merge_out {d : Nat} (hd : K.contains d = false) (j : Nat) : nameOf (mergeOW K 0 ow ow1) d j = nameOf ow d j := by
 unfold nameOf
 rw [mergeOW_get]
 cases ow[d]? with
 | none => rfl
 | some l => simp only [Option.map_some, Nat.zero_add, hd, Bool.false_eq_true, if_false]
theorem mask_EC (hs : smallOW ow = true) (d j : Nat) : EC (nameOf ow d j) (nameOf (maskOW K 0 ow) d j) := by
 cases hd : K.contains d with
 | true => rw [nameOf_mask_in hd]; exact .refl _
 | false =>
  by_cases hn : nameOf ow d j = none
  ·rw [hn]; trivial
  ·rw [nameOf_mask_dead hs hd hn]; exact .dead
def FM (F : Nat → Prop) (G : Gh) (ow : OW) (K : List Nat) (b : Nat) : Prop := F b ∨ ∃ d j i o, K.contains d = false ∧ isOwn (nameOf ow d j) ∧ G d j i = some (b, o)
theorem own_mask {b : Nat} (h : Own G (maskOW K 0 ow) b) : ∃ d j i o, K.contains d = true ∧ isOwn (nameOf ow d j) ∧ G d j i = some (b, o) := by
 obtain ⟨d, j, i, o, h1, h2⟩ := own_iff.1 h
 cases hd : K.contains d with
 | true => rw [nameOf_mask_in hd] at h1; exact ⟨d, j, i, o, hd, h1, h2⟩
 | false => rcases nameOf_mask_out (ow := ow) hd j with h | h <;> rw [h] at h1 <;> exact h1.elim
theorem own_of_mask {b : Nat} (h : Own G (maskOW K 0 ow) b) : Own G ow b := by
 obtain ⟨d, j, i, o, _, h1, h2⟩ := own_mask h
 exact own_iff.2 ⟨d, j, i, o, h1, h2⟩
theorem FM_lt (hh : HRep F G ow w.heap) (hF : ∀ b, F b → b < w.heap.size) {b : Nat} (h : FM F G ow K b) : b < w.heap.size := by
 rcases h with h | ⟨d, j, i, o, _, h1, h2⟩
 ·exact hF b h
 ·exact Own.lt hh (own_iff.2 ⟨d, j, i, o, h1, h2⟩)
theorem ok_mask {b : Nat} (h : okF F G ow b) : okF (FM F G ow K) G (maskOW K 0 ow) b := by
 refine ⟨fun hf => ?_, fun ho => h.2 (own_of_mask ho)⟩
 rcases hf with hf | ⟨d, j, i, o, _, h1, h2⟩
 ·exact h.1 hf
 ·exact h.2 (own_iff.2 ⟨d, j, i, o, h1, h2⟩)
theorem sv_mask (hs : smallOW ow = true) {h : Array Obj} {s : SV} {v : Value} (e : Sv F G ow h s v) : Sv (FM F G ow K) G (maskOW K 0 ow) h s v :=
 SvRep.mono (fun _ _ _ => rfl) (mask_EC hs) (fun b r hb hr => ⟨ok_mask hb, hr⟩) (fun b r hr => ⟨r, hr, rfl⟩) e
theorem hrep_mask (hs : smallOW ow = true) {h : Array Obj} (hh : HRep F G ow h) : HRep (FM F G ow K) G (maskOW K 0 ow) h := by
 have hin : ∀ d j, isOwn (nameOf (maskOW K 0 ow) d j) → K.contains d = true ∧ isOwn (nameOf ow d j) := by
  intro d j hi
  cases hd : K.contains d with
  | true => rw [nameOf_mask_in hd] at hi; exact ⟨rfl, hi⟩
  | false => rcases nameOf_mask_out (ow := ow) hd j with h | h <;> rw [h] at hi <;> exact hi.elim
 refine ⟨fun d j o hn => ?_, fun d j i d' j' i' b o o' h1 h2 h3 h4 => ?_, fun b hb hf => ?_⟩
 ·cases hd : K.contains d with
  | true =>
   rw [nameOf_mask_in hd] at hn
   exact ObRep.mono (fun _ _ _ => rfl) (mask_EC hs) (fun b r hb hr => ⟨ok_mask hb, hr⟩) (fun b r hr => ⟨r, hr, rfl⟩) rfl (fun _ _ _ _ _ => rfl) (hh.obs d j o hn)
  | false => rcases nameOf_mask_out (ow := ow) hd j with h | h <;> rw [h] at hn <;> cases hn
 ·exact hh.apart d j i d' j' i' b o o' (hin d j h1).2 (hin d' j' h2).2 h3 h4
 ·obtain ⟨d, j, i, o, hd, h1, h2⟩ := own_mask hb
  rcases hf with hf | ⟨d', j', i', o', hd', h3, h4⟩
  ·exact hh.notF b (own_of_mask hb) hf
  ·obtain ⟨rfl, _⟩ := hh.apart d j i d' j' i' b o o' h1 h3 h2 h4
   rw [hd] at hd'; cases hd'
def GM (K : List Nat) (G G1 : Gh) : Gh := fun d j => if K.contains d then G1 d j else G d j
theorem GM_in {d : Nat} (hd : K.contains d = true) (j : Nat) : GM K G G1 d j = G1 d j := by simp only [GM, hd, if_true]
theorem GM_out {d : Nat} (hd : K.contains d = false) (j : Nat) : GM K G G1 d j = G d j := by simp only [GM, hd, Bool.false_eq_true, if_false]
theorem HandR.same {h : Array Obj} {G G' : Gh} {ow ow' : OW} {d j off : Nat} {len : Option Nat} {v : Value} (hn : nameOf ow' d j = nameOf ow d j) (hG : G' d j = G d j) (hv : HandR h G ow d j off len v) : HandR h G' ow' d j off len v := by
 unfold HandR HandV at hv ⊢
 rw [hn, hG]
 exact hv
theorem sv_in {h : Array Obj} {ok ok' : Nat → Prop} {G G' : Gh} {ow ow' : OW} (hn : ∀ d j, K.contains d = true → nameOf ow' d j = nameOf ow d j) (hG : ∀ d j, K.contains d = true → G' d j = G d j)
  (hok : ∀ b r, ok b → rowCells h b = some r → ok' b ∧ rowCells h b = some r) {s : SV} {v : Value} (e : SvRep h ok G ow s v) : ∀ f, svIn K f s = true → SvRep h ok' G' ow' s v := by
 induction e with
 | v hk hx => intro f _; exact .v hk (Rep.mono hok _ hx)
 | lb b => intro f _; exact .lb b
 | dead v => intro f _; exact .dead v
 | nils => intro f _; exact .nils
 | agg hl _ ih =>
  intro f hf
  cases f with
  | zero => cases hf
  | succ f =>
   simp only [svIn, List.all_eq_true] at hf
   exact .agg hl fun i h1 h2 => ih i h1 h2 f (hf _ (List.getElem_mem _))
 | tup hl _ ih =>
  intro f hf
  cases f with
  | zero => cases hf
  | succ f =>
   simp only [svIn, List.all_eq_true] at hf
   exact .tup hl fun i h1 h2 => ih i h1 h2 f (hf _ (List.getElem_mem _))
 | fn h1 h2 _ _ ih1 ih2 =>
  intro f hf
  cases f with
  | zero => cases hf
  | succ f =>
   simp only [svIn, Bool.and_eq_true, List.all_eq_true] at hf
   exact .fn h1 h2 (fun i a b => ih1 i a b f (hf.1 _ (List.getElem_mem _))) (fun i a b => ih2 i a b f (hf.2 _ (List.getElem_mem _)))
 | wh hv =>
  intro f hf
  cases f with
  | zero => cases hf
  | succ f => exact .wh (hv.same (hn _ _ hf) (hG _ _ hf))
 | os hv =>
  intro f hf
  cases f with
  | zero => cases hf
  | succ f => exact .os (hv.same (hn _ _ hf) (hG _ _ hf))
 | @bp d j c val hv =>
  intro f hf
  cases f with
  | zero => cases hf
  | succ f =>
   refine .bp ?_
   rw [hn d j hf, hG d j hf]
   exact hv
 | @rp d j ver e c val hv =>
  intro f hf
  cases f with
  | zero => cases hf
  | succ f =>
   refine .rp ?_
   rw [hn d j hf, hG d j hf]
   exact hv
 | ip hk hb hr hs hx =>
  intro f _
  obtain ⟨hb', hr'⟩ := hok _ _ hb hr
  exact .ip hk hb' hr' hs (Rep.mono hok _ hx)
theorem sv_across (hh : HRep F G ow w.heap) (hs : smallOW ow = true) (hsz : ∀ b r, rowCells w.heap b = some r → ∃ r', rowCells w1.heap b = some r' ∧ r'.size = r.size) {ow2 : OW} {G2 : Gh}
  (hsv : ∀ s v, Sv (FM F G ow K) G (maskOW K 0 ow) w.heap s v → Sv (FM F G ow K) G1 ow1 w1.heap s v)
  (hin : ∀ d j, K.contains d = true → nameOf ow2 d j = nameOf ow1 d j ∧ G2 d j = G1 d j) (hout : ∀ d j, K.contains d = false → nameOf ow2 d j = nameOf ow d j ∧ G2 d j = G d j)
  (hok : ∀ b r, okF F G ow b → rowCells w.heap b = some r → okF F G2 ow2 b ∧ rowCells w1.heap b = some r) {s : SV} {v : Value} (e : Sv F G ow w.heap s v) : Sv F G2 ow2 w1.heap s v := by
 induction e with
 | v hk hx => exact .v hk (Rep.mono hok _ hx)
 | lb b => exact .lb b
 | dead v => exact .dead v
 | nils => exact .nils
 | agg hl _ ih => exact .agg hl ih
 | tup hl _ ih => exact .tup hl ih
 | fn h1 h2 _ _ ih1 ih2 => exact .fn h1 h2 ih1 ih2
 | @wh d j ver val hv =>
  cases hd : K.contains d with
  | true =>
   have := hsv _ _ (sv_mask hs (.wh (ver := ver) hv))
   cases this with
   | wh hv => exact .wh (hv.same (hin d j hd).1 (hin d j hd).2)
  | false => exact .wh (hv.mono (fun _ => by rw [(hout d j hd).2]) (by rw [(hout d j hd).1]; exact .refl _) hsz)
 | @os d j ver off len val hv =>
  cases hd : K.contains d with
  | true =>
   have := hsv _ _ (sv_mask hs (.os (ver := ver) hv))
   cases this with
   | os hv => exact .os (hv.same (hin d j hd).1 (hin d j hd).2)
  | false => exact .os (hv.mono (fun _ => by rw [(hout d j hd).2]) (by rw [(hout d j hd).1]; exact .refl _) hsz)
 | @bp d j c val hv =>
  cases hd : K.contains d with
  | true =>
   have := hsv _ _ (sv_mask hs (.bp (c := c) hv))
   cases this with
   | bp hv =>
    refine .bp ?_
    rw [(hin d j hd).1, (hin d j hd).2]
    exact hv
  | false =>
   refine .bp ?_
   rw [(hout d j hd).1, (hout d j hd).2]
   exact hv
 | @rp d j ver e c val hv =>
  cases hd : K.contains d with
  | true =>
   have := hsv _ _ (sv_mask hs (.rp (ver := ver) hv))
   cases this with
   | rp hv =>
    refine .rp ?_
    rw [(hin d j hd).1, (hin d j hd).2]
    exact hv
  | false =>
   refine .rp ?_
   rw [(hout d j hd).1, (hout d j hd).2]
   exact hv
 | ip hk hb hr hs hx =>
  obtain ⟨hb', hr'⟩ := hok _ _ hb hr
  exact .ip hk hb' hr' hs (Rep.mono hok _ hx)
theorem ObRep.same {h h' : Array Obj} {ok ok' : Nat → Prop} {G G' : Gh} {ow ow' : OW} {d j : Nat} {o : OB} (hG : G' d j = G d j) (hb : isOwn (some (some o)) → ∀ i b c, G d j i = some (b, c) → h'[b]? = h[b]?)
  (hok : ∀ b r, ok b → rowCells h b = some r → ok' b ∧ rowCells h' b = some r) (hsv : ∀ s ∈ obCells o, ∀ v, SvRep h ok G ow s v → SvRep h' ok' G' ow' s v) (e : ObRep h ok G ow d j o) : ObRep h' ok' G' ow' d j o := by
 cases o with
 | box cells =>
  obtain ⟨h0, b, o, r, et, hg, hr, hs, hc⟩ := e
  exact ⟨by rw [hG]; exact h0, b, o, r, et, by rw [hG, hg], by rw [hb trivial 0 b o hg, hr], hs, fun i hi hr => hsv _ (List.getElem_mem _) _ (hc i hi hr)⟩
 | row k ver l =>
  obtain ⟨h0, hk, e⟩ := e
  refine ⟨by rw [hG]; exact h0, hk, ?_⟩
  rw [hG]
  cases hg : G d j 0 with
  | none => simpa [hg] using e
  | some p =>
   obtain ⟨b, o⟩ := p
   simp only [hg] at e
   obtain ⟨r, et, hr, he⟩ := e
   exact ⟨r, et, by rw [hb trivial 0 b o hg, hr], he.mono fun x cs hx => Rep.mono hok _ hx⟩
 | frow k ver l =>
  obtain ⟨hk, e⟩ := e
  refine ⟨hk, ?_⟩
  rw [hG]
  cases hg : G d j 0 with
  | none => simpa [hg] using e
  | some p =>
   obtain ⟨b, o⟩ := p
   simp only [hg] at e
   rcases e with e | ⟨hb, r, hr, he⟩
   ·exact .inl e
   ·obtain ⟨hb', hr'⟩ := hok b r hb hr
    exact .inr ⟨hb', r, hr', he.mono fun x cs hx => Rep.mono hok _ hx⟩
 | nrow k l foc =>
  obtain ⟨hk, fps, h1, e⟩ := e
  refine ⟨hk, fps, by rw [hG]; exact h1, ?_⟩
  rw [hG]
  have hfp : ∀ b ∈ fps.flatten, h'[b]? = h[b]? := fun b hbm => by
   obtain ⟨i, hi, rfl⟩ := List.mem_iff_getElem.1 hbm
   exact hb trivial (i + 1) _ 0 (by rw [h1, List.getElem?_eq_getElem hi]; rfl)
  cases hg : G d j 0 with
  | none => simpa [hg] using e
  | some p =>
   obtain ⟨b, o⟩ := p
   simp only [hg] at e
   obtain ⟨r, et, hr, hs, hl, hj, he, hf⟩ := e
   exact ⟨r, et, by rw [hb trivial 0 b o hg, hr], hs, hl, fun b' hb' => by rw [hfp b' hb']; exact hj b' hb', fun i hi hi' hne => ShR.mono hok k (fun b' hb' => hfp b' (mem_fps hi' hb')) (he i hi hi' hne), fun e' cells hc => by
    obtain ⟨q1, q2, q4⟩ := hf e' cells hc
    subst hc
    exact ⟨q1, q2, fun c hc hr => hsv _ (List.getElem_mem _) _ (q4 c hc hr)⟩⟩
 | lrow n => trivial
theorem tr_unmask (hh : HRep F G ow w.heap) (hF : ∀ b, F b → b < w.heap.size) (hs : smallOW ow = true) (ht : Tr (FM F G ow K) G (maskOW K 0 ow) w G1 ow1 w1) (hK : okM K ow1 = true) :
  Tr F G ow w (GM K G G1) (mergeOW K 0 ow ow1) w1 ∧ ∀ s v f, svIn K f s = true → Sv (FM F G ow K) G1 ow1 w1.heap s v → Sv F (GM K G G1) (mergeOW K 0 ow ow1) w1.heap s v := by
 have hlen : ow1.length = ow.length := by rw [ht.len, length_mask]
 simp only [okM, Bool.and_eq_true] at hK
 have hin : ∀ d j, K.contains d = true → nameOf (mergeOW K 0 ow ow1) d j = nameOf ow1 d j ∧ GM K G G1 d j = G1 d j := fun d j hd => ⟨nameOf_merge_in hlen hd j, GM_in hd j⟩
 have hout : ∀ d j, K.contains d = false → nameOf (mergeOW K 0 ow ow1) d j = nameOf ow d j ∧ GM K G G1 d j = G d j := fun d j hd => ⟨nameOf_merge_out hd j, GM_out hd j⟩
 have hown : ∀ b, Own (GM K G G1) (mergeOW K 0 ow ow1) b → (Own G1 ow1 b) ∨ (∃ d j i o, K.contains d = false ∧ isOwn (nameOf ow d j) ∧ G d j i = some (b, o)) := by
  intro b hb
  obtain ⟨d, j, i, o, h1, h2⟩ := own_iff.1 hb
  cases hd : K.contains d with
  | true => rw [(hin d j hd).1] at h1; rw [(hin d j hd).2] at h2; exact .inl (own_iff.2 ⟨d, j, i, o, h1, h2⟩)
  | false => rw [(hout d j hd).1] at h1; rw [(hout d j hd).2] at h2; exact .inr ⟨d, j, i, o, hd, h1, h2⟩
 have hkept : Kept (Own G ow) w w1 := ⟨ht.kept.size, fun b hb ho => ht.kept.heap b hb fun h => ho (own_of_mask h), ht.kept.cells, ht.kept.os, ht.kept.output, ht.kept.tape⟩
 have hokr : ∀ b r, okF F G ow b → rowCells w.heap b = some r → okF F (GM K G G1) (mergeOW K 0 ow ow1) b ∧ rowCells w1.heap b = some r := by
  intro b r hb hr
  have hlt := rowCells_lt hr
  refine ⟨⟨hb.1, fun h => ?_⟩, ?_⟩
  ·rcases hown b h with h | ⟨d, j, i, o, _, h1, h2⟩
   ·rcases ht.own b h with h | h
    ·exact hb.2 (own_of_mask h)
    ·omega
   ·exact hb.2 (own_iff.2 ⟨d, j, i, o, h1, h2⟩)
  ·unfold rowCells
   rw [hkept.heap b hlt hb.2]
   exact hr
 have hok1 : ∀ b r, okF (FM F G ow K) G1 ow1 b → rowCells w1.heap b = some r → okF F (GM K G G1) (mergeOW K 0 ow ow1) b ∧ rowCells w1.heap b = some r := by
  intro b r hb hr
  refine ⟨⟨fun h => hb.1 (.inl h), fun h => ?_⟩, hr⟩
  rcases hown b h with h | h
  ·exact hb.2 h
  ·exact hb.1 (.inr h)
 have hsz : ∀ b r, rowCells w.heap b = some r → ∃ r', rowCells w1.heap b = some r' ∧ r'.size = r.size := by
  intro b r hr
  unfold rowCells at hr
  split at hr
  ·rename_i c et f hc
   cases hr
   obtain ⟨r', h1, h2⟩ := ht.kept.cells b _ _ _ hc
   exact ⟨r', by unfold rowCells; rw [h1], h2⟩
  ·cases hr
 have hsv : ∀ s v, Sv F G ow w.heap s v → Sv F (GM K G G1) (mergeOW K 0 ow ow1) w1.heap s v := fun s v e => sv_across hh hs hsz ht.sv hin hout hokr e
 have hsv1 : ∀ s v f, svIn K f s = true → Sv (FM F G ow K) G1 ow1 w1.heap s v → Sv F (GM K G G1) (mergeOW K 0 ow ow1) w1.heap s v := fun s v f hf e =>
  sv_in (fun d j hd => (hin d j hd).1) (fun d j hd => (hin d j hd).2) hok1 e f hf
 have hstay : ∀ d j i b o, K.contains d = false → isOwn (nameOf ow d j) → G d j i = some (b, o) → w1.heap[b]? = w.heap[b]? := by
  intro d j i b o hd h1 h2
  refine ht.kept.heap b (Own.lt hh (own_iff.2 ⟨d, j, i, o, h1, h2⟩)) fun h => ?_
  obtain ⟨d', j', i', o', hd', h3, h4⟩ := own_mask h
  obtain ⟨rfl, _⟩ := hh.apart d j i d' j' i' b o o' h1 h3 h2 h4
  rw [hd] at hd'; cases hd'
 refine ⟨⟨⟨fun d j o hn => ?_, fun d j i d' j' i' b o o' h1 h2 h3 h4 => ?_, fun b hb hf => ?_⟩, hsv, hkept, fun b hb => ?_, length_merge K ow ow1⟩, hsv1⟩
 ·cases hd : K.contains d with
  | true =>
   rw [(hin d j hd).1] at hn
   refine ObRep.same (hin d j hd).2 (fun _ _ _ _ _ => rfl) hok1 (fun s hs v e => hsv1 s v 8 ?_ e) (ht.hrep.obs d j o hn)
   unfold nameOf at hn
   cases hl : ow1[d]? with
   | none => rw [hl] at hn; cases hn
   | some l =>
    rw [hl] at hn
    simp only [Option.bind_some] at hn
    have := frameOW_get K ow1 0 hK.1 d l hl
    simp only [Nat.zero_add, hd, if_true, List.all_eq_true] at this
    have := this _ (List.mem_of_getElem? hn)
    simp only [obIn, List.all_eq_true] at this
    exact this s hs
  | false =>
   rw [(hout d j hd).1] at hn
   exact ObRep.same (hout d j hd).2 (fun hi i b c hg => hstay d j i b c hd (by rw [hn]; exact hi) hg) hokr (fun s hs v e => hsv s v e) (hh.obs d j o hn)
 ·cases hd : K.contains d with
  | true =>
   rw [(hin d j hd).1] at h1; rw [(hin d j hd).2] at h3
   cases hd' : K.contains d' with
   | true =>
    rw [(hin d' j' hd').1] at h2; rw [(hin d' j' hd').2] at h4
    exact ht.hrep.apart d j i d' j' i' b o o' h1 h2 h3 h4
   | false =>
    rw [(hout d' j' hd').1] at h2; rw [(hout d' j' hd').2] at h4
    exact absurd (.inr ⟨d', j', i', o', hd', h2, h4⟩) (ht.hrep.notF b (own_iff.2 ⟨d, j, i, o, h1, h3⟩))
  | false =>
   rw [(hout d j hd).1] at h1; rw [(hout d j hd).2] at h3
   cases hd' : K.contains d' with
   | true =>
    rw [(hin d' j' hd').1] at h2; rw [(hin d' j' hd').2] at h4
    exact absurd (.inr ⟨d, j, i, o, hd, h1, h3⟩) (ht.hrep.notF b (own_iff.2 ⟨d', j', i', o', h2, h4⟩))
   | false =>
    rw [(hout d' j' hd').1] at h2; rw [(hout d' j' hd').2] at h4
    exact hh.apart d j i d' j' i' b o o' h1 h2 h3 h4
 ·rcases hown b hb with h | ⟨d, j, i, o, _, h1, h2⟩
  ·exact ht.hrep.notF b h (.inl hf)
  ·exact hh.notF b (own_iff.2 ⟨d, j, i, o, h1, h2⟩) hf
 ·rcases hown b hb with h | ⟨d, j, i, o, _, h1, h2⟩
  ·rcases ht.own b h with h | h
   ·exact .inl (own_of_mask h)
   ·exact .inr h
  ·exact .inl (own_iff.2 ⟨d, j, i, o, h1, h2⟩)
theorem merge_mask (K : List Nat) (ow : OW) : mergeOW K 0 ow (maskOW K 0 ow) = ow := by
 apply List.ext_getElem?
 intro n
 rw [mergeOW_get, maskOW_get]
 cases ow[n]? with
 | none => rfl
 | some x =>
  simp only [Option.map_some, Nat.zero_add, Option.getD_some]
  cases hk : K.contains n with
  | true => simp only [if_true]
  | false => simp only [Bool.false_eq_true, if_false]
theorem GM_self (K : List Nat) (G : Gh) : GM K G G = G := by
 funext d j
 unfold GM
 split <;> rfl
theorem tr_unmask_read (hh : HRep F G ow w.heap) (hF : ∀ b, F b → b < w.heap.size) (hs : smallOW ow = true) (ht : Tr (FM F G ow K) G (maskOW K 0 ow) w G (maskOW K 0 ow) w1) (hK : okM K (maskOW K 0 ow) = true) :
  Tr F G ow w G ow w1 ∧ ∀ s v f, svIn K f s = true → Sv (FM F G ow K) G (maskOW K 0 ow) w1.heap s v → Sv F G ow w1.heap s v := by
 have := tr_unmask hh hF hs ht hK
 rw [merge_mask, GM_self] at this
 exact this
end
end Go.Pev
end

section
/-
 PEV, part 23: regions whose order is drawn: those that only read.
-/
namespace Go.Pev
def Cmd.out {β : Type} : Cmd β → Option β
 | .ret b => some b
 | .fail => none
 | .chk c t => if c then t.out else none
 | .bnd _ m f => m.bind fun y => (f y).out
 | .amb _ _ _ => none
 | .ite c f g => if c then f.out else g.out
theorem Cmd.runA_out {α β : Type} {n : Nat} {k : β → Option α} {r : α} : (c : Cmd β) → c.runA n k = some r → ∃ b, c.out = some b ∧ k b = some r
 | .ret b, h => ⟨b, rfl, h⟩
 | .fail, h => by cases h
 | .chk c t, h => by
  rw [Cmd.runA, br_eq] at h
  cases c with
  | false => cases h
  | true => exact Cmd.runA_out t h
 | .bnd _ m f, h => by
  rw [Cmd.runA, bd_eq] at h
  cases m with
  | none => cases h
  | some y => exact Cmd.runA_out (f y) h
 | .amb _ _ _, h => by cases h
 | .ite c f g, h => by
  rw [Cmd.runA, br_eq] at h
  cases c with
  | false => exact Cmd.runA_out g h
  | true => exact Cmd.runA_out f h
theorem Cmd.out_can {β : Type} {b : β} : (c : Cmd β) → c.out = some b → c.can fun x => x = b
 | .ret _, h => Option.some.inj h
 | .fail, h => by cases h
 | .chk c t, h => by
  cases c with
  | false => cases h
  | true => exact ⟨rfl, Cmd.out_can t h⟩
 | .bnd _ m f, h => by
  cases m with
  | none => cases h
  | some y => exact ⟨y, rfl, Cmd.out_can (f y) h⟩
 | .amb _ _ _, h => by cases h
 | .ite c f g, h => by
  cases c with
  | false => exact Cmd.out_can g h
  | true => exact Cmd.out_can f h
def splitS (src : Bool) (s : SV) : SV := if src then (match s with | .v .bool b => .lb b | s => s) else s
theorem split_eq {α : Type} {n : Nat} {src : Bool} {s : SV} {k : SV → Option α} : split n src s k = k (splitS src s) := by
 unfold split splitS
 cases src with
 | false => rfl
 | true =>
  simp only [if_true]
  split
  ·rename_i b; rw [br_eq]; cases b <;> rfl
  ·rename_i h
   split
   ·rename_i b; exact absurd rfl (h b)
   ·rfl
theorem evRO_congr {P : Program} {o : Op} {ρ ρ' : Operand → SV} {ow : OW} (h : ∀ x ∈ o.operands, ρ x = ρ' x) : evRO P o ρ ow = evRO P o ρ' ow := by
 cases o with
 | call c =>
  have ha : ∀ x ∈ c.args, ρ x = ρ' x := fun x hx => h x (by simp [Op.operands, Call.operands, hx])
  have hargs : c.args.toList.map ρ = c.args.toList.map ρ' := List.map_congr_left fun x hx => ha x (by simpa using hx)
  simp only [evRO, hargs]
  split
  ·split
   ·rename_i x t ts hx ht
    rw [ha x (by rw [← Array.mem_toList_iff, hx]; simp)]
   ·rfl
  ·rfl
  ·rfl
  ·rfl
 | build t ps =>
  have : (ps.toList.map fun x => (x.1, ρ x.2)) = ps.toList.map fun x => (x.1, ρ' x.2) := List.map_congr_left fun p hp => by
   rw [h p.2 (by simp only [Op.operands, List.mem_toArray, List.mem_map]; exact ⟨p, hp, rfl⟩)]
  simp only [evRO, this]
 | makeFunc f a b =>
  have h1 : a.toList.map ρ = a.toList.map ρ' := List.map_congr_left fun x hx => h x (by simp only [Op.operands, Array.mem_append]; exact .inl (by simpa using hx))
  have h2 : b.toList.map ρ = b.toList.map ρ' := List.map_congr_left fun x hx => h x (by simp only [Op.operands, Array.mem_append]; exact .inr (by simpa using hx))
  simp only [evRO, h1, h2]
 | slice t x lo hi mx =>
  cases lo <;> cases hi <;> cases mx <;> simp_all [evRO, Op.operands]
 | typeAssert x a b c => cases c <;> simp_all [evRO, Op.operands]
 | _ => first | rfl | (simp_all [evRO, Op.operands]; done)
theorem evJ_congr {C : Ctx} {o : Op} {ρ ρ' : Operand → SV} {ow : OW} (h : ∀ x ∈ o.operands, ρ x = ρ' x) : evJ C o ρ ow = evJ C o ρ' ow := by
 unfold evJ
 split
 ·rename_i f args ats
  have h1 : ρ f = ρ' f := h f (by simp [Op.operands, Call.operands])
  have h2 : args.toList.map ρ = args.toList.map ρ' := List.map_congr_left fun x hx => h x (by simp only [Op.operands, Call.operands, Array.mem_append]; exact .inr (by simpa using hx))
  rw [h1, h2]
 ·exact evRO_congr h
def resJ (C : Ctx) (ops : Array Oper) (ow : OW) (o : Oper) (i : Nat) (sl : List SV) : Option SV :=
 match wants ops o sl with
 | none => none
 | some false => some (.tup [])
 | some true => (evJ C o.op (opd sl) ow).out.map (splitS (isSrc ops i))
def stepJ (C : Ctx) (ops : Array Oper) (ow : OW) (i : Nat) (sl : List SV) : Option (List SV) :=
 match ops[i]? with
 | some o => (resJ C ops ow o i sl).map (setSl sl o.dst)
 | none => none
theorem resJ_congr {C : Ctx} {ops : Array Oper} {ow : OW} {o : Oper} {i : Nat} {sl sl' : List SV} (h : ∀ d ∈ looks ops o, sl[d]? = sl'[d]?) : resJ C ops ow o i sl = resJ C ops ow o i sl' := by
 have h1 : wants ops o sl = wants ops o sl' := by
  unfold wants
  cases hg : o.guard with
  | none => rfl
  | some g =>
   obtain ⟨j, want⟩ := g
   simp only
   cases hd : (ops[j]?).bind (·.dst) with
   | none => rfl
   | some d =>
    simp only
    rw [h d (by simp [looks, hg, hd])]
 have h2 : evJ C o.op (opd sl) ow = evJ C o.op (opd sl') ow := evJ_congr fun x hx => by
  cases x with
  | tmp t =>
   have := h t (by
    simp only [looks, List.mem_append]
    exact .inl (List.mem_filterMap.2 ⟨.tmp t, by simpa using hx, rfl⟩))
   simp only [opd, this]
  | const v => rfl
  | global g => rfl
  | func f => rfl
 unfold resJ
 rw [h1, h2]
theorem setSl_get {sl : List SV} {d : Option Tmp} {s : SV} {x : Nat} (h : d ≠ some x) : (setSl sl d s)[x]? = sl[x]? := by
 cases d with
 | none => rfl
 | some d => exact List.getElem?_set_ne (fun e => h (by rw [e]))
theorem setSl_comm {sl : List SV} {d d' : Option Tmp} {s s' : SV} (h : ∀ x, d = some x → d' ≠ some x) : setSl (setSl sl d s) d' s' = setSl (setSl sl d' s') d s := by
 cases d with
 | none => rfl
 | some d =>
  cases d' with
  | none => rfl
  | some d' => exact List.set_comm _ _ (fun e => h d rfl (by rw [e]))
theorem stepJ_swap {C : Ctx} {ops : Array Oper} {ow : OW} (i j : Nat) (s s1 s2 : List SV) (ha : apartSAt ops i j = true) (h1 : stepJ C ops ow i s = some s1) (h2 : stepJ C ops ow j s1 = some s2) : ∃ s1', stepJ C ops ow j s = some s1' ∧ stepJ C ops ow i s1' = some s2 := by
 unfold apartSAt at ha
 unfold stepJ at h1 h2 ⊢
 cases hi : ops[i]? with
 | none => rw [hi] at h1; cases h1
 | some x =>
  cases hj : ops[j]? with
  | none => rw [hj] at h2; cases h2
  | some y =>
   rw [hi] at h1 ha
   rw [hj] at h2 ha
   simp only at h1 h2 ha ⊢
   unfold apartS at ha
   simp only [Bool.and_eq_true] at ha
   obtain ⟨a1, a2⟩ := ha
   have k1 : ∀ d, x.dst = some d → d ∉ looks ops y ∧ y.dst ≠ some d := by
    intro d hd
    rw [hd] at a1
    simpa using a1
   have k2 : ∀ d, y.dst = some d → d ∉ looks ops x := by
    intro d hd
    rw [hd] at a2
    simpa using a2
   rw [Option.map_eq_some_iff] at h1 h2
   obtain ⟨v, e1, rfl⟩ := h1
   obtain ⟨u, e2, rfl⟩ := h2
   have c1 : resJ C ops ow y j (setSl s x.dst v) = resJ C ops ow y j s := resJ_congr fun d hd => setSl_get fun e => (k1 d e).1 hd
   rw [c1] at e2
   have c2 : resJ C ops ow x i (setSl s y.dst u) = resJ C ops ow x i s := resJ_congr fun d hd => setSl_get fun e => k2 d e hd
   refine ⟨setSl s y.dst u, by rw [e2]; rfl, ?_⟩
   rw [c2, e1]
   simp only [Option.map_some]
   rw [setSl_comm fun d hd => (k1 d hd).2]
theorem evJsA_seq {α : Type} {C : Ctx} {ops : Array Oper} {ow : OW} {k : List SV → Option α} {r : α} : (l : List (Oper × Nat)) → (∀ p ∈ l, ops[p.2]? = some p.1) → {sl : List SV} → evJsA C ops ow l sl k = some r → ∃ slF, seqS (stepJ C ops ow) (l.map (·.2)) sl = some slF ∧ k slF = some r
 | [], _, sl, h => ⟨sl, rfl, h⟩
 | (o, i) :: l, hl, sl, h => by
  have ho := hl (o, i) (by simp)
  simp only at ho
  have hl' : ∀ p ∈ l, ops[p.2]? = some p.1 := fun p hp => hl p (by simp [hp])
  unfold evJsA at h
  simp only [List.map_cons, seqS]
  split at h
  ·cases h
  ·rename_i hw
   obtain ⟨slF, h1, h2⟩ := evJsA_seq l hl' h
   refine ⟨slF, ?_, h2⟩
   simp only [stepJ, ho, resJ, hw, Option.map_some]
   exact h1
  ·rename_i hw
   obtain ⟨s, h1, h2⟩ := Cmd.runA_out _ h
   rw [split_eq] at h2
   obtain ⟨slF, h3, h4⟩ := evJsA_seq l hl' h2
   refine ⟨slF, ?_, h4⟩
   simp only [stepJ, ho, resJ, hw, h1, Option.map_some]
   exact h3
theorem drawSoundJ {C : Ctx} {L : List (Nat × Obj)} (hC : C.Holds L) (hm : C.P.follows .mixedOrders = true) : DrawSoundJ C L := by
 intro α nt fr F fp w0 vs id ops st a w k r hE hd h hok he Q hQ
 obtain ⟨hl, hr⟩ := region_list ops hd
 obtain ⟨slF, h1, h2⟩ := evJsA_seq _ (fun p hp => (hl p hp).1) he
 rw [hr] at h1
 have hD : ∀ (i : Nat) (o : Oper), ops[i]? = some o → ∀ d, o.dst = some d → fr d = true ∧ ∃ o ∈ ops.toList, o.dst = some d := by
  intro i o ho d hx
  have hmem : o ∈ ops.toList := by
   obtain ⟨hlt, rfl⟩ := Array.getElem?_eq_some_iff.1 ho
   simp
  refine ⟨?_, o, hmem, hx⟩
  have := List.all_eq_true.1 hd o hmem
  rw [hx] at this
  simpa using this
 let R : List SV → Act → World → Prop := fun sl a w => StI nt fr F fp w0 vs ⟨sl, st.ow⟩ a w ∧ ∀ d, ¬ (∃ o ∈ ops.toList, o.dst = some d) → sl[d]? = st.sl[d]?
 refine wp_region_any hm (any_of_seq (step := stepJ C ops st.ow) (R := R) (fun i j s s1 s2 => stepJ_swap i j s s1 s2) ?_ hok (sF := slF) (fun a' w' hR => hQ slF a' w' h2 hR.1 hR.2) ops.size _ st.sl a _ (by simp) ?_ ?_ ?_ ?_)
 ·intro i sl sl' a w hi hs hR K hK
  obtain ⟨hI, hag⟩ := hR
  unfold stepJ at hs
  cases ho : ops[i]? with
  | none => rw [ho] at hs; cases hs
  | some o =>
   rw [ho] at hs
   simp only [Option.map_eq_some_iff] at hs
   obtain ⟨v, hv, rfl⟩ := hs
   have hdo := hD i o ho
   have hag' : ∀ d, ¬ (∃ o ∈ ops.toList, o.dst = some d) → (setSl sl o.dst v)[d]? = st.sl[d]? := fun d hn => by
    rw [setSl_get fun e => hn (hdo d e).2]
    exact hag d hn
   obtain ⟨G, g1, g2, g3⟩ := hI.ex
   unfold wpOp
   rw [ho]
   simp only
   unfold resJ at hv
   split at hv
   ·cases hv
   ·rename_i hw
    cases hv
    rw [wants_sound g1 hw]
    exact hK _ _ ⟨hI.slot (fun _ => sv_undef) (fun d hx => (hdo d hx).1), hag'⟩
   ·rename_i hw
    rw [wants_sound g1 hw]
    simp only [if_true]
    left
    rw [Option.map_eq_some_iff] at hv
    obtain ⟨s, hs, rfl⟩ := hv
    have hop := evJ_sound hC (op := o) rfl g2 (hE.wideAt hI.kept) (hE.laidAt hI.kept g3) (opd_rho g1) (Cmd.out_can _ hs)
    refine OpR.wp ?_
    have conv : ∀ u w', (∃ s', s' = s ∧ Tr F G st.ow w G st.ow w' ∧ Sv F G st.ow w'.heap s' u) → K (a.put o.dst u) w' := by
     rintro u w' ⟨s', rfl, ht, hsv⟩
     obtain ⟨s2, e2, hsv2⟩ := split_sound (n := C.fuel) (src := isSrc ops i) hsv (k := fun z => some z) (r := splitS (isSrc ops i) s') (by rw [split_eq])
     cases e2
     exact hK _ _ ⟨hI.op hE g1 g3 ht hsv2 (fun d hx => (hdo d hx).1), hag'⟩
    rcases hop with ⟨u, w', q1, q2⟩ | ⟨w', q1, q2⟩ | ⟨f, args, q1, q2⟩
    ·exact .inl ⟨u, w', q1, conv u w' q2⟩
    ·exact .inr (.inl ⟨w', q1, conv undef w' q2⟩)
    ·exact .inr (.inr ⟨f, args, q1, q2.mono fun e w' ⟨u, q3, q4⟩ => ⟨u, q3, conv u w' q4⟩⟩)
 ·refine Nat.le_trans (List.length_filter_le _ _) (by simp)
 ·intro j hj
  exfalso
  by_cases hlt : j < ops.size
  ·simp [Array.getD, hlt] at hj
  ·simp [Array.getD, hlt] at hj
 ·have : ((List.range ops.size).filter fun i => !(Array.replicate ops.size false).getD i true) = List.range ops.size := by
   rw [List.filter_eq_self]
   intro i hi
   have := List.mem_range.1 hi
   simp [Array.getD, this]
  rw [this]
  exact h1
 ·exact ⟨⟨h.ex, ⟨h.kept.size, h.kept.heap, h.kept.cells, h.kept.os, h.kept.output, h.kept.tape⟩, h.defers, h.args, h.size⟩, fun _ _ => rfl⟩
theorem Cmd.out_bind {β γ : Type} {f : β → Cmd γ} {r : γ} : (c : Cmd β) → (c.bind f).out = some r → ∃ b, c.out = some b ∧ (f b).out = some r
 | .ret b, h => ⟨b, rfl, h⟩
 | .fail, h => by cases h
 | .chk c t, h => by
  cases c with
  | false => cases h
  | true => exact Cmd.out_bind t h
 | .bnd _ m g, h => by
  cases m with
  | none => cases h
  | some y => exact Cmd.out_bind (g y) h
 | .amb _ _ _, h => by cases h
 | .ite c f g, h => by
  cases c with
  | false => exact Cmd.out_bind g h
  | true => exact Cmd.out_bind f h
theorem splitS_sound {F : Nat → Prop} {G : Gh} {ow : OW} {w : World} {src : Bool} {s : SV} {v : Value} (hv : Sv F G ow w.heap s v) : Sv F G ow w.heap (splitS src s) v := by
 obtain ⟨s2, e2, hsv2⟩ := split_sound (n := 0) (src := src) hv (k := fun z => some z) (r := splitS src s) (by rw [split_eq])
 cases e2
 exact hsv2
end Go.Pev
end

section
/-
 PEV, part 24: regions whose order is drawn, that turn something: a step, and two of them.
-/
namespace Go.Pev
def resM (C : Ctx) (E : Oper → (Operand → SV) → OW → Cmd (SV × OW)) (dk : Oper → Nat) (ops : Array Oper) (q : List Nat × Bool) (o : Oper) (i : Nat) (sl : List SV) (ow : OW) : Option (SV × Option (List Nat × OW)) :=
 match wants ops o sl with
 | none => none
 | some false => some (.tup [], none)
 | some true => if smallOW ow then (evM C (E o (opd sl) (maskOW q.1 0 ow)) o.op q (opd sl) (maskOW q.1 0 ow) (dk o)).out.map fun x => (splitS (isSrc ops i) x.1, x.2) else none
def stepM (C : Ctx) (E : Oper → (Operand → SV) → OW → Cmd (SV × OW)) (dk : Oper → Nat) (ops : Array Oper) (ks : List (List Nat × Bool)) (i : Nat) (st : St) : Option St :=
 match ops[i]? with
 | some o =>
  (match wants ops o st.sl with
  | some false => some ⟨setSl st.sl o.dst (.tup []), st.ow⟩
  | _ =>
   (match ks[i]? with
   | some q => (resM C E dk ops q o i st.sl st.ow).map fun x => ⟨setSl st.sl o.dst x.1, putM st.ow x.2⟩
   | none => none))
 | none => none
theorem wants_congr {ops : Array Oper} {o : Oper} {sl sl' : List SV} (h : ∀ d ∈ looks ops o, sl[d]? = sl'[d]?) : wants ops o sl = wants ops o sl' := by
 unfold wants
 cases hg : o.guard with
 | none => rfl
 | some g =>
  obtain ⟨j, want⟩ := g
  simp only
  cases hd : (ops[j]?).bind (·.dst) with
  | none => rfl
  | some d =>
   simp only
   rw [h d (by simp [looks, hg, hd])]
theorem opd_congr {ops : Array Oper} {o : Oper} {sl sl' : List SV} (h : ∀ d ∈ looks ops o, sl[d]? = sl'[d]?) : ∀ x ∈ o.op.operands, opd sl x = opd sl' x := fun x hx => by
 cases x with
 | tmp t =>
  have := h t (by
   simp only [looks, List.mem_append]
   exact .inl (List.mem_filterMap.2 ⟨.tmp t, by simpa using hx, rfl⟩))
  simp only [opd, this]
 | const v => rfl
 | global g => rfl
 | func f => rfl
theorem evOp0_congr {C : Ctx} {o : Op} {ρ ρ' : Operand → SV} {ow : OW} {d : Nat} (h : ∀ x ∈ o.operands, ρ x = ρ' x) : evOp0 C o ρ ow d = evOp0 C o ρ' ow d := by
 unfold evOp0
 split
 ·rfl
 ·rw [h _ (by simp [Op.operands])]
 ·rename_i t n ps
  have : (ps.toList.map fun x => (x.1, ρ x.2)) = ps.toList.map fun x => (x.1, ρ' x.2) := List.map_congr_left fun p hp => by
   rw [h p.2 (by simp only [Op.operands, List.mem_toArray, List.mem_map]; exact ⟨p, hp, rfl⟩)]
  simp only [this]
 ·rw [h _ (by simp [Op.operands]), h _ (by simp [Op.operands])]
 ·rw [h _ (by simp [Op.operands]), h _ (by simp [Op.operands])]
 ·rename_i args ats
  have ha : ∀ x ∈ args, ρ x = ρ' x := fun x hx => h x (by simp [Op.operands, Call.operands, hx])
  split
  ·rename_i s x t tx h1 h2
   rw [ha s (by rw [← Array.mem_toList_iff, h1]; simp), ha x (by rw [← Array.mem_toList_iff, h1]; simp)]
  ·rfl
 ·rename_i f args ats
  have h1 : ρ f = ρ' f := h f (by simp [Op.operands, Call.operands])
  have h2 : args.toList.map ρ = args.toList.map ρ' := List.map_congr_left fun x hx => h x (by simp only [Op.operands, Call.operands, Array.mem_append]; exact .inr (by simpa using hx))
  rw [h1, h2]
 ·rw [evRO_congr h]
theorem evOp_congr {C : Ctx} {o : Op} {ρ ρ' : Operand → SV} {ow : OW} {d : Nat} (h : ∀ x ∈ o.operands, ρ x = ρ' x) : evOp C o ρ ow d = evOp C o ρ' ow d := by
 unfold evOp
 split
 ·rw [h _ (by simp [Op.operands]), evOp0_congr h]
 ·rw [h _ (by simp [Op.operands]), h _ (by simp [Op.operands]), evOp0_congr h]
 ·rename_i t n ps
  have : (ps.toList.map fun x => (x.1, ρ x.2)) = ps.toList.map fun x => (x.1, ρ' x.2) := List.map_congr_left fun p hp => by
   rw [h p.2 (by simp only [Op.operands, List.mem_toArray, List.mem_map]; exact ⟨p, hp, rfl⟩)]
  rw [this, evOp0_congr h]
 ·rw [h _ (by simp [Op.operands]), h _ (by simp [Op.operands]), evOp0_congr h]
 ·rename_i cl
  have ha : ∀ x ∈ cl.args, ρ x = ρ' x := fun x hx => h x (by simp [Op.operands, Call.operands, hx])
  split
  ·rename_i s x t tx h0 h1 h2
   rw [ha s (by rw [← Array.mem_toList_iff, h1]; simp), ha x (by rw [← Array.mem_toList_iff, h1]; simp), evOp0_congr h]
  ·exact evOp0_congr h
 ·exact evOp0_congr h
theorem evOpI_congr {C : Ctx} {o : Op} {ρ ρ' : Operand → SV} {ow : OW} {d : Nat} (h : ∀ x ∈ o.operands, ρ x = ρ' x) : evOpI C o ρ ow d = evOpI C o ρ' ow d := by
 unfold evOpI
 split
 ·rename_i f args ats
  have h1 : ρ f = ρ' f := h f (by simp [Op.operands, Call.operands])
  have h2 : args.toList.map ρ = args.toList.map ρ' := List.map_congr_left fun x hx => h x (by simp only [Op.operands, Call.operands, Array.mem_append]; exact .inr (by simpa using hx))
  rw [h1, h2, evOp_congr h]
 ·exact evOp_congr h
theorem evLight_congr {P : Program} {o : Op} {ρ ρ' : Operand → SV} {ow : OW} (h : ∀ x ∈ o.operands, ρ x = ρ' x) : evLight P o ρ ow = evLight P o ρ' ow := by
 unfold evLight
 split
 ·rw [h _ (by simp [Op.operands])]
 ·rw [h _ (by simp [Op.operands])]
 ·rw [h _ (by simp [Op.operands])]
 ·rfl
theorem isBox_get {ow : OW} {d j : Nat} (h : isBox ow d j = true) : ∃ cells, getOb ow d j = some (.box cells) := by
 unfold isBox at h
 split at h
 ·rename_i cells hc; exact ⟨cells, hc⟩
 ·cases h
theorem evLight_out {C : Ctx} {o : Op} {ρ : Operand → SV} {ow ow' : OW} (hg : ∀ d j ob, getOb ow d j = some ob → getOb ow' d j = some ob) {s : SV} (h : evLight C.P o ρ ow = some s) : (evJ C o ρ ow').can fun x => x = s := by
 have hbx : ∀ d j, isBox ow d j = true → isBox ow' d j = true := by
  intro d j hb
  obtain ⟨cells, hc⟩ := isBox_get hb
  simp [isBox, hg d j _ hc]
 unfold evLight at h
 split at h
 ·rename_i t a
  split at h
  ·rename_i d j c hp
   split at h
   ·rename_i cells hc
    simp only [evJ, evRO, hp, evLoad, hg d j _ hc, h]
    exact rfl
   ·cases h
  ·cases h
 ·rename_i t a f
  split at h
  ·rename_i d j c fd hp hfd
   split at h
   ·cases h
   ·rename_i hz
    split at h
    ·rename_i hb
     cases h
     simp only [evJ, evRO, hp, evFieldAddr, hfd, if_neg hz, hbx d j hb, if_true]
     exact rfl
    ·cases h
  ·cases h
 ·rename_i a
  split at h
  ·rename_i d j c hp
   split at h
   ·rename_i hb
    cases h
    simp only [evJ, evRO, hp, evNilCheck, hbx d j hb, if_true]
    exact rfl
   ·cases h
  ·cases h
 ·cases h
theorem getOb_mask {K : List Nat} {ow : OW} {d j : Nat} {ob : OB} (h : getOb (maskOW K 0 ow) d j = some ob) : getOb ow d j = some ob := by
 have hn := nameOf_of_getOb h
 cases hd : K.contains d with
 | true => rw [nameOf_mask_in hd] at hn; rw [getOb_eq, hn]; rfl
 | false => rcases nameOf_mask_out (ow := ow) hd j with e | e <;> rw [e] at hn <;> cases hn
theorem isNew_congr {C : Ctx} {o : Op} {ρ ρ' : Operand → SV} (h : ∀ x ∈ o.operands, ρ x = ρ' x) : isNew C o ρ = isNew C o ρ' := by
 unfold isNew
 split
 ·rename_i f args ats
  rw [h f (by simp [Op.operands, Call.operands])]
 ·rfl
theorem evNew_congr {C : Ctx} {o : Op} {ρ ρ' : Operand → SV} {ow : OW} {d : Nat} (h : ∀ x ∈ o.operands, ρ x = ρ' x) : evNew C o ρ ow d = evNew C o ρ' ow d := by
 unfold evNew
 split
 ·rename_i f args ats
  have h1 : ρ f = ρ' f := h f (by simp [Op.operands, Call.operands])
  have h2 : args.toList.map ρ = args.toList.map ρ' := List.map_congr_left fun x hx => h x (by simp only [Op.operands, Call.operands, Array.mem_append]; exact .inr (by simpa using hx))
  rw [h1, h2]
 ·rfl
theorem evM_congr {C : Ctx} {c c' : Cmd (SV × OW)} {o : Op} {q : List Nat × Bool} {ρ ρ' : Operand → SV} {ow : OW} {d : Nat} (hc : c = c') (h : ∀ x ∈ o.operands, ρ x = ρ' x) : evM C c o q ρ ow d = evM C c' o q ρ' ow d := by
 unfold evM
 rw [hc, evJ_congr h, evLight_congr h, isNew_congr h, evNew_congr h]
 split
 ·rfl
 ·cases o with
  | move x => simp only [slotOp, h x (by simp [Op.operands])]
  | assign x => simp only [slotOp, h x (by simp [Op.operands])]
  | _ => rfl
theorem isNew_call {C : Ctx} {o : Op} {ρ : Operand → SV} (h : isNew C o ρ = true) : isCall o = true := by
 unfold isNew at h
 split at h
 ·rfl
 ·cases h
theorem evM_put {C : Ctx} {c : Cmd (SV × OW)} {o : Op} {q : List Nat × Bool} {ρ : Operand → SV} {ow : OW} {d : Nat} {s : SV} {r : Option (List Nat × OW)} (h : (evM C c o q ρ ow d).out = some (s, r)) :
  ∀ z, r = some z → z.1 = wOf d o q ∧ okM q.1 z.2 = true := by
 intro z hz
 unfold evM at h
 split at h
 ·rename_i hq
  obtain ⟨x, h1, h2⟩ := Cmd.out_bind _ h
  split at h2
  ·rename_i hok
   simp only [Cmd.out, Option.some.injEq, Prod.mk.injEq] at h2
   simp only [Bool.and_eq_true] at hok
   rw [← h2.2] at hz
   cases hz
   exact ⟨by unfold wOf; rw [if_pos hq], hok.1⟩
  ·cases h2
 ·rename_i hq
  split at h
  ·simp only [Cmd.out, Option.some.injEq, Prod.mk.injEq] at h
   rw [← h.2] at hz; cases hz
  ·split at h
   ·simp only [Cmd.out, Option.some.injEq, Prod.mk.injEq] at h
    rw [← h.2] at hz; cases hz
   ·split at h
    ·rename_i hnew
     obtain ⟨x, h1, h2⟩ := Cmd.out_bind _ h
     split at h2
     ·rename_i hok
      simp only [Cmd.out, Option.some.injEq, Prod.mk.injEq] at h2
      simp only [Bool.and_eq_true] at hok
      rw [← h2.2] at hz
      cases hz
      exact ⟨by unfold wOf; rw [if_neg hq, if_pos (isNew_call hnew)], hok.1.1⟩
     ·cases h2
    ·obtain ⟨x, h1, h2⟩ := Cmd.out_bind _ h
     split at h2
     ·simp only [Cmd.out, Option.some.injEq, Prod.mk.injEq] at h2
      rw [← h2.2] at hz; cases hz
     ·cases h2
theorem putM_small {ow : OW} {r : Option (List Nat × OW)} (hs : smallOW ow = true) (hr : ∀ z, r = some z → smallOW z.2 = true) : smallOW (putM ow r) = true := by
 cases r with
 | none => exact hs
 | some z => exact small_merge hs (hr z rfl)
def ECongr (E : Oper → (Operand → SV) → OW → Cmd (SV × OW)) : Prop := ∀ (o : Oper) (ρ ρ' : Operand → SV) (ow : OW), (∀ x ∈ o.op.operands, ρ x = ρ' x) → E o ρ ow = E o ρ' ow
theorem stepM_some {C : Ctx} {E : Oper → (Operand → SV) → OW → Cmd (SV × OW)} {dk : Oper → Nat} {ops : Array Oper} {ks : List (List Nat × Bool)} {i : Nat} {st st' : St} (h : stepM C E dk ops ks i st = some st') : ∃ o, ops[i]? = some o ∧
  ((wants ops o st.sl = some false ∧ st' = ⟨setSl st.sl o.dst (.tup []), st.ow⟩) ∨
  (wants ops o st.sl = some true ∧ ∃ q s r, ks[i]? = some q ∧ smallOW st.ow = true ∧ (evM C (E o (opd st.sl) (maskOW q.1 0 st.ow)) o.op q (opd st.sl) (maskOW q.1 0 st.ow) (dk o)).out = some (s, r) ∧ st' = ⟨setSl st.sl o.dst (splitS (isSrc ops i) s), putM st.ow r⟩)) := by
 unfold stepM at h
 cases ho : ops[i]? with
 | none => rw [ho] at h; cases h
 | some o =>
  rw [ho] at h
  refine ⟨o, rfl, ?_⟩
  simp only at h
  cases hw : wants ops o st.sl with
  | none =>
   rw [hw] at h
   simp only at h
   cases hk : ks[i]? with
   | none => rw [hk] at h; cases h
   | some q => rw [hk] at h; simp [resM, hw] at h
  | some b =>
   cases b with
   | false =>
    rw [hw] at h
    simp only [Option.some.injEq] at h
    exact .inl ⟨rfl, h.symm⟩
   | true =>
    rw [hw] at h
    simp only at h
    cases hk : ks[i]? with
    | none => rw [hk] at h; cases h
    | some q =>
     rw [hk] at h
     simp only [resM, hw, Option.map_eq_some_iff] at h
     obtain ⟨x, hx, rfl⟩ := h
     split at hx
     ·rename_i hsm
      rw [Option.map_eq_some_iff] at hx
      obtain ⟨⟨s, r⟩, hy, rfl⟩ := hx
      exact .inr ⟨rfl, q, s, r, rfl, hsm, hy, rfl⟩
     ·cases hx
theorem stepM_of {C : Ctx} {E : Oper → (Operand → SV) → OW → Cmd (SV × OW)} {dk : Oper → Nat} {ops : Array Oper} {ks : List (List Nat × Bool)} {i : Nat} {st : St} {o : Oper} (ho : ops[i]? = some o) :
  (wants ops o st.sl = some false → stepM C E dk ops ks i st = some ⟨setSl st.sl o.dst (.tup []), st.ow⟩) ∧
  (wants ops o st.sl = some true → ∀ q s r, ks[i]? = some q → smallOW st.ow = true → (evM C (E o (opd st.sl) (maskOW q.1 0 st.ow)) o.op q (opd st.sl) (maskOW q.1 0 st.ow) (dk o)).out = some (s, r) → stepM C E dk ops ks i st = some ⟨setSl st.sl o.dst (splitS (isSrc ops i) s), putM st.ow r⟩) := by
 refine ⟨fun hw => by simp [stepM, ho, hw], fun hw q s r hk hs hy => by simp [stepM, ho, hw, hk, resM, hs, hy]⟩
theorem stepM_swap {C : Ctx} {E : Oper → (Operand → SV) → OW → Cmd (SV × OW)} {dk : Oper → Nat} (hE : ECongr E) {ops : Array Oper} {ks : List (List Nat × Bool)} (i j : Nat) (s s1 s2 : St) (ha : apartM dk ops ks i j = true) (h1 : stepM C E dk ops ks i s = some s1) (h2 : stepM C E dk ops ks j s1 = some s2) : ∃ s1', stepM C E dk ops ks j s = some s1' ∧ stepM C E dk ops ks i s1' = some s2 := by
 obtain ⟨x, hi, h1⟩ := stepM_some h1
 obtain ⟨y, hj, h2⟩ := stepM_some h2
 unfold apartM apartSAt at ha
 rw [hi, hj] at ha
 simp only [Bool.and_eq_true] at ha
 obtain ⟨haS, haK⟩ := ha
 unfold apartS at haS
 simp only [Bool.and_eq_true] at haS
 obtain ⟨a1, a2⟩ := haS
 have k1 : ∀ d, x.dst = some d → d ∉ looks ops y ∧ y.dst ≠ some d := by
  intro d hd
  rw [hd] at a1
  simpa using a1
 have k2 : ∀ d, y.dst = some d → d ∉ looks ops x := by
  intro d hd
  rw [hd] at a2
  simpa using a2
 have ly : ∀ (sl : List SV) (u : SV), ∀ d ∈ looks ops y, (setSl sl x.dst u)[d]? = sl[d]? := fun sl u d hd => setSl_get fun e => (k1 d e).1 hd
 have lx : ∀ (sl : List SV) (u : SV), ∀ d ∈ looks ops x, (setSl sl y.dst u)[d]? = sl[d]? := fun sl u d hd => setSl_get fun e => k2 d e hd
 have comm : ∀ (sl : List SV) (u v : SV), setSl (setSl sl x.dst u) y.dst v = setSl (setSl sl y.dst v) x.dst u := fun sl u v => setSl_comm fun d hd => (k1 d hd).2
 rcases h1 with ⟨w1, rfl⟩ | ⟨w1, q1, v1, r1, e1, sm1, o1, rfl⟩
 ·rcases h2 with ⟨w2, rfl⟩ | ⟨w2, q2, v2, r2, e2, sm2, o2, rfl⟩
  ·have w2' : wants ops y s.sl = some false := by rw [← wants_congr (ly s.sl (.tup []))]; exact w2
   refine ⟨_, (stepM_of hj).1 w2', ?_⟩
   have w1' : wants ops x (setSl s.sl y.dst (.tup [])) = some false := by rw [wants_congr (lx s.sl (.tup []))]; exact w1
   rw [(stepM_of hi).1 w1']
   simp only [comm]
  ·have w2' : wants ops y s.sl = some true := by rw [← wants_congr (ly s.sl (.tup []))]; exact w2
   have o2' : (evM C (E y (opd s.sl) (maskOW q2.1 0 s.ow)) y.op q2 (opd s.sl) (maskOW q2.1 0 s.ow) (dk y)).out = some (v2, r2) := by rw [← evM_congr (hE _ _ _ _ (opd_congr (ly s.sl (.tup [])))) (opd_congr (ly s.sl (.tup [])))]; exact o2
   refine ⟨_, (stepM_of hj).2 w2' q2 v2 r2 e2 sm2 o2', ?_⟩
   have w1' : wants ops x (setSl s.sl y.dst (splitS (isSrc ops j) v2)) = some false := by rw [wants_congr (lx s.sl _)]; exact w1
   rw [(stepM_of hi).1 w1']
   simp only [comm]
 ·rcases h2 with ⟨w2, rfl⟩ | ⟨w2, q2, v2, r2, e2, sm2, o2, rfl⟩
  ·have w2' : wants ops y s.sl = some false := by rw [← wants_congr (ly s.sl (splitS (isSrc ops i) v1))]; exact w2
   refine ⟨_, (stepM_of hj).1 w2', ?_⟩
   have w1' : wants ops x (setSl s.sl y.dst (.tup [])) = some true := by rw [wants_congr (lx s.sl (.tup []))]; exact w1
   have o1' : (evM C (E x (opd (setSl s.sl y.dst (.tup []))) (maskOW q1.1 0 s.ow)) x.op q1 (opd (setSl s.sl y.dst (.tup []))) (maskOW q1.1 0 s.ow) (dk x)).out = some (v1, r1) := by rw [evM_congr (hE _ _ _ _ (opd_congr (lx s.sl (.tup [])))) (opd_congr (lx s.sl (.tup [])))]; exact o1
   have hgo := (stepM_of (C := C) (E := E) (dk := dk) (ks := ks) (st := ⟨setSl s.sl y.dst (.tup []), s.ow⟩) hi).2 w1' q1 v1 r1 e1 sm1 o1'
   refine hgo.trans ?_
   simp only [comm]
  ·rw [e1, e2] at haK
   simp only [hi, hj, Bool.and_eq_true] at haK
   have p1 := evM_put o1
   have p2 := evM_put o2
   have dj : ∀ {a b : List Nat}, disjK a b = true → ∀ d, a.contains d = true → b.contains d = false := fun {a b} h d hd => by
    have := List.all_eq_true.1 h d (by simpa using hd)
    simpa using this
   have hm2 : maskOW q2.1 0 (putM s.ow r1) = maskOW q2.1 0 s.ow := by
    cases r1 with
    | none => rfl
    | some z => exact mask_merge (fun d hd => dj haK.1.1 d (by rw [← (p1 z rfl).1]; exact hd)) _ _
   have hm1 : maskOW q1.1 0 (putM s.ow r2) = maskOW q1.1 0 s.ow := by
    cases r2 with
    | none => rfl
    | some z => exact mask_merge (fun d hd => dj haK.1.2 d (by rw [← (p2 z rfl).1]; exact hd)) _ _
   have hpp : putM (putM s.ow r1) r2 = putM (putM s.ow r2) r1 := by
    cases r1 with
    | none => cases r2 <;> rfl
    | some z1 =>
     cases r2 with
     | none => rfl
     | some z2 => exact merge_comm (fun d hd => by rw [(p2 z2 rfl).1]; exact dj haK.2 d (by rw [← (p1 z1 rfl).1]; exact hd)) _ _ _
   have p2' : ∀ z, r2 = some z → smallOW z.2 = true := fun z hz => by
    have := (p2 z hz).2
    simp only [okM, Bool.and_eq_true] at this
    exact this.2
   have w2' : wants ops y s.sl = some true := by rw [← wants_congr (ly s.sl (splitS (isSrc ops i) v1))]; exact w2
   have o2' : (evM C (E y (opd s.sl) (maskOW q2.1 0 s.ow)) y.op q2 (opd s.sl) (maskOW q2.1 0 s.ow) (dk y)).out = some (v2, r2) := by
    rw [← evM_congr (hE _ _ _ _ (opd_congr (ly s.sl (splitS (isSrc ops i) v1)))) (opd_congr (ly s.sl (splitS (isSrc ops i) v1))), ← hm2]; exact o2
   refine ⟨_, (stepM_of hj).2 w2' q2 v2 r2 e2 sm1 o2', ?_⟩
   have w1' : wants ops x (setSl s.sl y.dst (splitS (isSrc ops j) v2)) = some true := by rw [wants_congr (lx s.sl _)]; exact w1
   have o1' : (evM C (E x (opd (setSl s.sl y.dst (splitS (isSrc ops j) v2))) (maskOW q1.1 0 (putM s.ow r2))) x.op q1 (opd (setSl s.sl y.dst (splitS (isSrc ops j) v2))) (maskOW q1.1 0 (putM s.ow r2)) (dk x)).out = some (v1, r1) := by
    rw [evM_congr (hE _ _ _ _ (opd_congr (lx s.sl _))) (opd_congr (lx s.sl _)), hm1]; exact o1
   have hgo := (stepM_of (C := C) (E := E) (dk := dk) (ks := ks) (st := ⟨setSl s.sl y.dst (splitS (isSrc ops j) v2), putM s.ow r2⟩) hi).2 w1' q1 v1 r1 e1 (putM_small sm1 p2') o1'
   refine hgo.trans ?_
   simp only [comm, hpp]
theorem callNew_form {args : List SV} {ow : OW} {d : Nat} {x : SV × OW} : (sgs : List Sig) → (callNew args ow d sgs).out = some x → ∃ obs, newObs ow d obs = some x.2
 | [], h => by cases h
 | sg :: r, h => by
  unfold callNew at h
  split at h
  ·split at h
   ·simp only [Cmd.out, Option.bind_eq_some_iff] at h
    obtain ⟨y, _, h⟩ := h
    split at h
    ·rename_i ow' hn
     simp only [Cmd.out, Option.some.injEq] at h
     rw [← h]
     exact ⟨_, hn⟩
    ·cases h
   ·exact callNew_form r h
  ·exact callNew_form r h
theorem evNew_form {C : Ctx} {o : Op} {ρ : Operand → SV} {ow : OW} {d : Nat} {x : SV × OW} (h : (evNew C o ρ ow d).out = some x) : ∃ obs, newObs ow d obs = some x.2 := by
 unfold evNew at h
 split at h
 ·split at h
  ·exact callNew_form _ h
  ·cases h
 ·cases h
theorem merge_new {K : List Nat} {ow : OW} {d : Nat} {obs : List OB} {z : OW} (h : newObs (maskOW K 0 ow) d obs = some z) (hd : K.contains d = true) : mergeOW [d] 0 ow z = mergeOW K 0 ow z := by
 have hz : ∀ n, n ≠ d → z[n]? = (maskOW K 0 ow)[n]? := by
  intro n hn
  unfold newObs at h
  split at h
  ·rw [← Option.some.inj h]
  ·split at h
   ·rw [← Option.some.inj h, List.getElem?_set_ne (fun e => hn e.symm)]
   ·cases h
 apply List.ext_getElem?
 intro n
 rw [mergeOW_get, mergeOW_get]
 cases ho : ow[n]? with
 | none => rfl
 | some x =>
  simp only [Option.map_some, Option.some.injEq, Nat.zero_add]
  by_cases hn : n = d
  ·subst hn
   have h2 : ([n] : List Nat).contains n = true := by simp
   rw [h2, hd]
  ·have h1 : ([d] : List Nat).contains n = false := by simp [hn]
   rw [h1]
   cases hk : K.contains n with
   | false => rfl
   | true =>
    rw [hz n hn, maskOW_get, ho]
    simp only [Option.map_some, Nat.zero_add, hk, if_true, Option.getD_some]
    rfl
def EvI (C : Ctx) (o : Oper) (ρ : Operand → SV) (ow : OW) : Cmd (SV × OW) := evOpI C o.op ρ ow (o.dst.getD 0)
theorem evI_congr (C : Ctx) : ECongr (EvI C) := fun o ρ ρ' ow h => evOpI_congr h
def EvC (C : Ctx) (key : Option Nat → Nat) (o : Oper) (ρ : Operand → SV) (ow : OW) : Cmd (SV × OW) := evOp C o.op ρ ow (key o.dst)
theorem evC_congr (C : Ctx) (key : Option Nat → Nat) : ECongr (EvC C key) := fun o ρ ρ' ow h => evOp_congr h
theorem evOpsM_seq {α : Type} {C : Ctx} {ops : Array Oper} {ks : List (List Nat × Bool)} {k : St → Option α} {r : α} : (l : List (Oper × Nat)) → (∀ p ∈ l, ops[p.2]? = some p.1) → {st : St} → evOpsM C ops ks l st k = some r → ∃ stF, seqS (stepM C (EvI C) dkF ops ks) (l.map (·.2)) st = some stF ∧ k stF = some r
 | [], _, st, h => ⟨st, rfl, h⟩
 | (o, i) :: l, hl, st, h => by
  have ho := hl (o, i) (by simp)
  simp only at ho
  have hl' : ∀ p ∈ l, ops[p.2]? = some p.1 := fun p hp => hl p (by simp [hp])
  unfold evOpsM at h
  simp only [List.map_cons, seqS]
  split at h
  ·cases h
  ·rename_i hw
   obtain ⟨slF, h1, h2⟩ := evOpsM_seq l hl' h
   rw [(stepM_of (E := EvI C) (dk := dkF) ho).1 hw]
   exact ⟨slF, h1, h2⟩
  ·rename_i hw
   split at h
   ·rename_i q hq
    split at h
    ·rename_i hsm
     obtain ⟨s, h1, h2⟩ := Cmd.runA_out _ h
     rw [split_eq] at h2
     obtain ⟨slF, h3, h4⟩ := evOpsM_seq l hl' h2
     rw [(stepM_of (E := EvI C) (dk := dkF) ho).2 hw q s.1 s.2 hq hsm h1]
     exact ⟨slF, h3, h4⟩
    ·cases h
   ·cases h
end Go.Pev
end

section
/-
 PEV, part 24: calls in place: the callee's code is gone through over what the caller owns.
-/
namespace Go.Pev
theorem splitC_can {γ : Type} {src : Bool} {s : SV} {f : SV → Cmd γ} {Q : γ → Prop} (h : ((splitC src s).bind f).can Q) : (f (splitS src s)).can Q := by
 unfold splitC at h
 unfold splitS
 cases src with
 | false => exact h
 | true =>
  simp only [if_true] at h ⊢
  split at h
  ·rename_i b
   cases b <;> exact h
  ·rename_i hn
   split
   ·rename_i b; exact absurd rfl (hn b)
   ·exact h
theorem can_noAmb {β : Type} {Q : β → Prop} : (c : Cmd β) → c.noAmb.can Q → ∃ b, c.out = some b ∧ Q b
 | .ret b, h => ⟨b, rfl, h⟩
 | .fail, h => h.elim
 | .chk c t, h => by
  obtain ⟨rfl, h⟩ := h
  obtain ⟨b, h1, h2⟩ := can_noAmb t h
  exact ⟨b, h1, h2⟩
 | .bnd _ m f, h => by
  obtain ⟨y, rfl, h⟩ := h
  obtain ⟨b, h1, h2⟩ := can_noAmb (f y) h
  exact ⟨b, h1, h2⟩
 | .amb _ _ _, h => h.elim
 | .ite c f g, h => by
  cases c with
  | false => exact can_noAmb g h
  | true => exact can_noAmb f h
theorem evJsC_seq {C : Ctx} {ops : Array Oper} {ow : OW} {Q : List SV → Prop} : (l : List (Oper × Nat)) → (∀ p ∈ l, ops[p.2]? = some p.1) → {sl : List SV} → (evJsC C ops ow l sl).can Q → ∃ slF, seqS (stepJ C ops ow) (l.map (·.2)) sl = some slF ∧ Q slF
 | [], _, sl, h => ⟨sl, rfl, h⟩
 | (o, i) :: l, hl, sl, h => by
  have ho := hl (o, i) (by simp)
  simp only at ho
  have hl' : ∀ p ∈ l, ops[p.2]? = some p.1 := fun p hp => hl p (by simp [hp])
  unfold evJsC at h
  simp only [List.map_cons, seqS]
  split at h
  ·exact h.elim
  ·rename_i hw
   obtain ⟨slF, h1, h2⟩ := evJsC_seq l hl' h
   refine ⟨slF, ?_, h2⟩
   simp only [stepJ, ho, resJ, hw, Option.map_some]
   exact h1
  ·rename_i hw
   obtain ⟨s, h1, h2⟩ := can_noAmb _ (Cmd.can_bind _ h)
   obtain ⟨slF, h3, h4⟩ := evJsC_seq l hl' (splitC_can h2)
   refine ⟨slF, ?_, h4⟩
   simp only [stepJ, ho, resJ, hw, h1, Option.map_some]
   exact h3
theorem evOpsMC_seq {C : Ctx} {key : Option Nat → Nat} {ops : Array Oper} {ks : List (List Nat × Bool)} {Q : St → Prop} : (l : List (Oper × Nat)) → (∀ p ∈ l, ops[p.2]? = some p.1) → {st : St} → (evOpsMC C key ops ks l st).can Q → ∃ stF, seqS (stepM C (EvC C key) (fun o => key o.dst) ops ks) (l.map (·.2)) st = some stF ∧ Q stF
 | [], _, st, h => ⟨st, rfl, h⟩
 | (o, i) :: l, hl, st, h => by
  have ho := hl (o, i) (by simp)
  simp only at ho
  have hl' : ∀ p ∈ l, ops[p.2]? = some p.1 := fun p hp => hl p (by simp [hp])
  unfold evOpsMC at h
  simp only [List.map_cons, seqS]
  split at h
  ·exact h.elim
  ·rename_i hw
   obtain ⟨slF, h1, h2⟩ := evOpsMC_seq l hl' h
   rw [(stepM_of (E := EvC C key) (dk := fun o => key o.dst) ho).1 hw]
   exact ⟨slF, h1, h2⟩
  ·rename_i hw
   split at h
   ·rename_i q hq
    split at h
    ·rename_i hsm
     obtain ⟨s, h1, h2⟩ := can_noAmb _ (Cmd.can_bind _ h)
     obtain ⟨slF, h3, h4⟩ := evOpsMC_seq l hl' (splitC_can h2)
     rw [(stepM_of (E := EvC C key) (dk := fun o => key o.dst) ho).2 hw q s.1 s.2 hq hsm h1]
     exact ⟨slF, h3, h4⟩
    ·exact h.elim
   ·exact h.elim
section
variable {F : Nat → Prop} {G0 : Gh} {ow0 : OW} {w0 : World} {L : List (Nat × Obj)} {C : Ctx}
structure InI (F : Nat → Prop) (G0 : Gh) (ow0 : OW) (w0 : World) (st : St) (a : Act) (w : World) : Prop where
 ex : ∃ G, Tr F G0 ow0 w0 G st.ow w ∧ Svs F G st.ow w.heap st.sl a.tmps.toList
 defers : a.defers = []
structure InE (F : Nat → Prop) (G0 : Gh) (ow0 : OW) (w0 : World) (L : List (Nat × Obj)) : Prop where
 wide : ∀ b, F b → b < w0.heap.size
 laid : Laid L (Own G0 ow0) w0.heap
theorem InE.wideAt (hE : InE F G0 ow0 w0 L) {G : Gh} {ow : OW} {w : World} (t : Tr F G0 ow0 w0 G ow w) : ∀ b, F b → b < w.heap.size := fun b hb => Nat.lt_of_lt_of_le (hE.wide b hb) t.kept.size
theorem InE.laidAt (hE : InE F G0 ow0 w0 L) {G : Gh} {ow : OW} {w : World} (t : Tr F G0 ow0 w0 G ow w) : Laid L (Own G ow) w.heap := fun p hp => by
 obtain ⟨h1, h2⟩ := hE.laid p hp
 have hlt := (Array.getElem?_eq_some_iff.1 h2).1
 refine ⟨fun h => ?_, by rw [t.kept.heap p.1 hlt h1]; exact h2⟩
 rcases t.own _ h with h | h
 ·exact h1 h
 ·omega
theorem InI.op {st : St} {a : Act} {w : World} (hd : a.defers = []) {G : Gh} (t : Tr F G0 ow0 w0 G st.ow w) (hs : Svs F G st.ow w.heap st.sl a.tmps.toList) {G' : Gh} {ow' : OW} {w' : World} (ht : Tr F G st.ow w G' ow' w') {s : SV} {v : Value} (hv : Sv F G' ow' w'.heap s v) {d : Option Tmp} : InI F G0 ow0 w0 ⟨setSl st.sl d s, ow'⟩ (a.put d v) w' :=
 ⟨⟨G', t.trans ht, put_svs ⟨hs.1, fun i h1 h2 => ht.sv _ _ (hs.2 i h1 h2)⟩ hv d⟩, by rw [put_defers]; exact hd⟩
theorem InI.slot {st : St} {a : Act} {w : World} (h : InI F G0 ow0 w0 st a w) {s : SV} {v : Value} (hv : ∀ G, Sv F G st.ow w.heap s v) {d : Option Tmp} : InI F G0 ow0 w0 ⟨setSl st.sl d s, st.ow⟩ (a.put d v) w := by
 obtain ⟨G, t, hs⟩ := h.ex
 exact ⟨⟨G, t, put_svs hs (hv G) d⟩, by rw [put_defers]; exact h.defers⟩
theorem evOpsC_sound (hC : C.Holds L) (hE : InE F G0 ow0 w0 L) {key : Option Nat → Nat} {ops : Array Oper} {Q : St → Prop} {R : Exit → Act → World → Prop} (hk : ∀ st' a' w', Q st' → InI F G0 ow0 w0 st' a' w' → R .normal a' w') :
  (l : List (Oper × Nat)) → (∀ p ∈ l, ops[p.2]? = some p.1) → {st : St} → {a : Act} → {w : World} → InI F G0 ow0 w0 st a w → (evOpsC C key ops l st).can Q → wpOps C.P ops R (l.map (·.2)) a w
 | [], _, st, a, w, h, e => hk _ _ _ e h
 | (o, i) :: l, hl, st, a, w, h, e => by
  have ho := hl (o, i) (by simp)
  have hl' : ∀ p ∈ l, ops[p.2]? = some p.1 := fun p hp => hl p (by simp [hp])
  obtain ⟨G, t, hs⟩ := h.ex
  unfold evOpsC at e
  simp only [List.map_cons, wpOps]
  rw [ho]
  simp only
  split at e
  ·exact e.elim
  ·rename_i hw
   rw [wants_sound hs hw]
   exact evOpsC_sound hC hE hk l hl' (h.slot (fun _ => sv_undef)) e
  ·rename_i hw
   rw [wants_sound hs hw]
   simp only [if_true]
   left
   have hop := evOp_sound hC rfl t.hrep (hE.wideAt t) (hE.laidAt t) (opd_rho hs) (Cmd.can_bind _ e)
   refine OpR.wp ?_
   have conv : ∀ v w', (∃ s ow' G', ((splitC (isSrc ops i) s).bind fun s' => evOpsC C key ops l ⟨setSl st.sl o.dst s', ow'⟩).can Q ∧ Tr F G st.ow w G' ow' w' ∧ Sv F G' ow' w'.heap s v) → wpOps C.P ops R (l.map (·.2)) (a.put o.dst v) w' := by
    rintro v w' ⟨s, ow', G', hq, ht, hv⟩
    exact evOpsC_sound hC hE hk l hl' (InI.op h.defers t hs ht (splitS_sound hv)) (splitC_can hq)
   rcases hop with ⟨v, w', h1, h2⟩ | ⟨w', h1, h2⟩ | ⟨f, args, h1, h2⟩
   ·exact .inl ⟨v, w', h1, conv v w' h2⟩
   ·exact .inr (.inl ⟨w', h1, conv undef w' h2⟩)
   ·exact .inr (.inr ⟨f, args, h1, h2.mono fun e w' ⟨v, h3, h4⟩ => ⟨v, h3, conv v w' h4⟩⟩)
theorem inDraw (hC : C.Holds L) (hm : C.P.follows .mixedOrders = true) (hE : InE F G0 ow0 w0 L) {id : Nat} {ops : Array Oper} {st : St} {a : Act} {w : World} (h : InI F G0 ow0 w0 st a w) (hok : anyOk ops (apartSAt ops) = true) {Qs : List SV → Prop}
  (he : (evJsC C ops st.ow ops.toList.zipIdx st.sl).can Qs) {Q : Exit → Act → World → Prop} (hQ : ∀ sl' a' w', Qs sl' → InI F G0 ow0 w0 ⟨sl', st.ow⟩ a' w' → Q .normal a' w') : (Code.region id ops true).wp C.P Q a w := by
 obtain ⟨hl, hr⟩ := region_list ops (fr := fun _ => true) (List.all_eq_true.2 fun o _ => by cases o.dst <;> rfl)
 obtain ⟨slF, h1, h2⟩ := evJsC_seq _ (fun p hp => (hl p hp).1) he
 rw [hr] at h1
 let R : List SV → Act → World → Prop := fun sl a w => InI F G0 ow0 w0 ⟨sl, st.ow⟩ a w
 refine wp_region_any hm (any_of_seq (step := stepJ C ops st.ow) (R := R) (fun i j s s1 s2 => stepJ_swap i j s s1 s2) ?_ hok (sF := slF) (fun a' w' hR => hQ slF a' w' h2 hR) ops.size _ st.sl a _ (by simp) ?_ ?_ ?_ ?_)
 ·intro i sl sl' a w hi hs hR K hK
  unfold stepJ at hs
  cases ho : ops[i]? with
  | none => rw [ho] at hs; cases hs
  | some o =>
   rw [ho] at hs
   simp only [Option.map_eq_some_iff] at hs
   obtain ⟨v, hv, rfl⟩ := hs
   obtain ⟨G, t, g1⟩ := hR.ex
   unfold wpOp
   rw [ho]
   simp only
   unfold resJ at hv
   split at hv
   ·cases hv
   ·rename_i hw
    cases hv
    rw [wants_sound g1 hw]
    exact hK _ _ (InI.slot hR (fun _ => sv_undef))
   ·rename_i hw
    rw [wants_sound g1 hw]
    simp only [if_true]
    left
    rw [Option.map_eq_some_iff] at hv
    obtain ⟨s, hs, rfl⟩ := hv
    have hop := evJ_sound hC (op := o) rfl t.hrep (hE.wideAt t) (hE.laidAt t) (opd_rho g1) (Cmd.out_can _ hs)
    refine OpR.wp ?_
    have conv : ∀ u w', (∃ s', s' = s ∧ Tr F G st.ow w G st.ow w' ∧ Sv F G st.ow w'.heap s' u) → K (a.put o.dst u) w' := by
     rintro u w' ⟨s', rfl, ht, hsv⟩
     exact hK _ _ (InI.op (st := ⟨sl, st.ow⟩) hR.defers t g1 ht (splitS_sound hsv))
    rcases hop with ⟨u, w', q1, q2⟩ | ⟨w', q1, q2⟩ | ⟨f, args, q1, q2⟩
    ·exact .inl ⟨u, w', q1, conv u w' q2⟩
    ·exact .inr (.inl ⟨w', q1, conv undef w' q2⟩)
    ·exact .inr (.inr ⟨f, args, q1, q2.mono fun e w' ⟨u, q3, q4⟩ => ⟨u, q3, conv u w' q4⟩⟩)
 ·refine Nat.le_trans (List.length_filter_le _ _) (by simp)
 ·intro j hj
  exfalso
  by_cases hlt : j < ops.size
  ·simp [Array.getD, hlt] at hj
  ·simp [Array.getD, hlt] at hj
 ·have : ((List.range ops.size).filter fun i => !(Array.replicate ops.size false).getD i true) = List.range ops.size := by
   rw [List.filter_eq_self]
   intro i hi
   have := List.mem_range.1 hi
   simp [Array.getD, this]
  rw [this]
  exact h1
 ·obtain ⟨G, t, hs⟩ := h.ex
  exact ⟨⟨G, ⟨t.hrep, t.sv, ⟨t.kept.size, t.kept.heap, t.kept.cells, t.kept.os, t.kept.output, t.kept.tape⟩, t.own, t.len⟩, hs⟩, h.defers⟩
theorem inDrawM (hC : C.Holds L) (hm : C.P.follows .mixedOrders = true) (hE : InE F G0 ow0 w0 L) {key : Option Nat → Nat} {id : Nat} {ops : Array Oper} {ks : List (List Nat × Bool)} {st : St} {a : Act} {w : World} (h : InI F G0 ow0 w0 st a w) (hok : anyOk ops (apartM (fun o => key o.dst) ops ks) = true) {Qs : St → Prop}
  (he : (evOpsMC C key ops ks ops.toList.zipIdx st).can Qs) {Q : Exit → Act → World → Prop} (hQ : ∀ st' a' w', Qs st' → InI F G0 ow0 w0 st' a' w' → Q .normal a' w') : (Code.region id ops true).wp C.P Q a w := by
 obtain ⟨hl, hr⟩ := region_list ops (fr := fun _ => true) (List.all_eq_true.2 fun o _ => by cases o.dst <;> rfl)
 obtain ⟨stF, h1, h2⟩ := evOpsMC_seq _ (fun p hp => (hl p hp).1) he
 rw [hr] at h1
 let R : St → Act → World → Prop := fun st a w => InI F G0 ow0 w0 st a w
 refine wp_region_any hm (any_of_seq (step := stepM C (EvC C key) (fun o => key o.dst) ops ks) (R := R) (fun i j s s1 s2 => stepM_swap (evC_congr C key) i j s s1 s2) ?_ hok (sF := stF) (fun a' w' hR => hQ stF a' w' h2 hR) ops.size _ st a _ (by simp) ?_ ?_ ?_ ?_)
 ·intro i st st' a w hi hs hI K hK
  obtain ⟨o, ho, hs⟩ := stepM_some hs
  obtain ⟨G, t, g1⟩ := hI.ex
  have g2 := t.hrep
  unfold wpOp
  rw [ho]
  simp only
  rcases hs with ⟨hw, rfl⟩ | ⟨hw, q, s, r, hq, hsm, hev, rfl⟩
  ·rw [wants_sound g1 hw]
   exact hK _ _ (InI.slot hI (fun _ => sv_undef))
  ·rw [wants_sound g1 hw]
   simp only [if_true]
   left
   have hFw := hE.wideAt t
   have hLw := hE.laidAt t
   have hFM : ∀ b, FM F G st.ow q.1 b → b < w.heap.size := fun b hb => FM_lt g2 hFw hb
   have hLM : Laid L (Own G (maskOW q.1 0 st.ow)) w.heap := fun p hp => ⟨fun h => (hLw p hp).1 (own_of_mask h), (hLw p hp).2⟩
   have hρ : Rho (FM F G st.ow q.1) G (maskOW q.1 0 st.ow) w.heap (opd st.sl) a.eval := fun x => sv_mask hsm (opd_rho g1 x)
   refine OpR.wp ?_
   unfold evM at hev
   split at hev
   ·obtain ⟨x, e1, e2⟩ := Cmd.out_bind _ hev
    split at e2
    ·rename_i hck
     simp only [Bool.and_eq_true] at hck
     simp only [Cmd.out, Option.some.injEq, Prod.mk.injEq] at e2
     obtain ⟨rfl, rfl⟩ := e2
     have hop := evOp_sound hC (op := o) rfl (hrep_mask hsm g2) hFM hLM hρ (Cmd.out_can _ e1)
     have conv : ∀ u w', (∃ s ow' G', (s, ow') = x ∧ Tr (FM F G st.ow q.1) G (maskOW q.1 0 st.ow) w G' ow' w' ∧ Sv (FM F G st.ow q.1) G' ow' w'.heap s u) → K (a.put o.dst u) w' := by
      rintro u w' ⟨s, ow', G', rfl, ht, hsv⟩
      obtain ⟨t1, t2⟩ := tr_unmask g2 hFw hsm ht hck.1
      exact hK _ _ (InI.op hI.defers t g1 t1 (splitS_sound (t2 s u 8 hck.2 hsv)))
     rcases hop with ⟨u, w', q1, q2⟩ | ⟨w', q1, q2⟩ | ⟨f, args, q1, q2⟩
     ·exact .inl ⟨u, w', q1, conv u w' q2⟩
     ·exact .inr (.inl ⟨w', q1, conv undef w' q2⟩)
     ·exact .inr (.inr ⟨f, args, q1, q2.mono fun e w' ⟨u, q3, q4⟩ => ⟨u, q3, conv u w' q4⟩⟩)
    ·cases e2
   ·split at hev
    ·rename_i x hx
     simp only [Cmd.out, Option.some.injEq, Prod.mk.injEq] at hev
     obtain ⟨rfl, rfl⟩ := hev
     have hcan : (evJ C o.op (opd st.sl) st.ow).can fun s => s = opd st.sl x := by
      revert hx
      cases o.op with
      | move y => intro hx; cases hx; exact rfl
      | assign y => intro hx; cases hx; exact rfl
      | _ => intro hx; cases hx
     have hop := evJ_sound hC (op := o) rfl g2 hFw hLw (opd_rho g1) hcan
     have conv : ∀ u w', (∃ s, s = opd st.sl x ∧ Tr F G st.ow w G st.ow w' ∧ Sv F G st.ow w'.heap s u) → K (a.put o.dst u) w' := by
      rintro u w' ⟨s, rfl, ht, hsv⟩
      exact hK _ _ (InI.op hI.defers t g1 ht (splitS_sound hsv))
     rcases hop with ⟨u, w', q1, q2⟩ | ⟨w', q1, q2⟩ | ⟨f, args, q1, q2⟩
     ·exact .inl ⟨u, w', q1, conv u w' q2⟩
     ·exact .inr (.inl ⟨w', q1, conv undef w' q2⟩)
     ·exact .inr (.inr ⟨f, args, q1, q2.mono fun e w' ⟨u, q3, q4⟩ => ⟨u, q3, conv u w' q4⟩⟩)
    ·split at hev
     ·rename_i s' hl
      simp only [Cmd.out, Option.some.injEq, Prod.mk.injEq] at hev
      obtain ⟨rfl, rfl⟩ := hev
      have hop := evJ_sound hC (op := o) rfl g2 hFw hLw (opd_rho g1) (evLight_out (C := C) (fun d j ob h => getOb_mask h) hl)
      have conv : ∀ u w', (∃ s, s = s' ∧ Tr F G st.ow w G st.ow w' ∧ Sv F G st.ow w'.heap s u) → K (a.put o.dst u) w' := by
       rintro u w' ⟨s, rfl, ht, hsv⟩
       exact hK _ _ (InI.op hI.defers t g1 ht (splitS_sound hsv))
      rcases hop with ⟨u, w', q1, q2⟩ | ⟨w', q1, q2⟩ | ⟨f, args, q1, q2⟩
      ·exact .inl ⟨u, w', q1, conv u w' q2⟩
      ·exact .inr (.inl ⟨w', q1, conv undef w' q2⟩)
      ·exact .inr (.inr ⟨f, args, q1, q2.mono fun e w' ⟨u, q3, q4⟩ => ⟨u, q3, conv u w' q4⟩⟩)
     ·split at hev
      ·obtain ⟨x, e1, e2⟩ := Cmd.out_bind _ hev
       split at e2
       ·rename_i hck
        simp only [Bool.and_eq_true] at hck
        simp only [Cmd.out, Option.some.injEq, Prod.mk.injEq] at e2
        obtain ⟨rfl, rfl⟩ := e2
        have hop := evNew_sound hC (op := o) rfl (hrep_mask hsm g2) hFM hLM hρ (Cmd.out_can _ e1)
        obtain ⟨obs, hobs⟩ := evNew_form e1
        have hmg : putM st.ow (some ([key o.dst], x.2)) = mergeOW q.1 0 st.ow x.2 := merge_new hobs hck.2
        have conv : ∀ u w', (∃ s ow' G', (s, ow') = x ∧ Tr (FM F G st.ow q.1) G (maskOW q.1 0 st.ow) w G' ow' w' ∧ Sv (FM F G st.ow q.1) G' ow' w'.heap s u) → K (a.put o.dst u) w' := by
         rintro u w' ⟨s, ow', G', rfl, ht, hsv⟩
         obtain ⟨t1, t2⟩ := tr_unmask g2 hFw hsm ht hck.1.1
         have hfin : R ⟨setSl st.sl o.dst (splitS (isSrc ops i) s), mergeOW q.1 0 st.ow ow'⟩ (a.put o.dst u) w' := InI.op hI.defers t g1 t1 (splitS_sound (t2 s u 8 hck.1.2 hsv))
         rw [← hmg] at hfin
         exact hK _ _ hfin
        rcases hop with ⟨u, w', q1, q2⟩ | ⟨w', q1, q2⟩ | ⟨f, args, q1, q2⟩
        ·exact .inl ⟨u, w', q1, conv u w' q2⟩
        ·exact .inr (.inl ⟨w', q1, conv undef w' q2⟩)
        ·exact .inr (.inr ⟨f, args, q1, q2.mono fun e w' ⟨u, q3, q4⟩ => ⟨u, q3, conv u w' q4⟩⟩)
       ·cases e2
      ·obtain ⟨x, e1, e2⟩ := Cmd.out_bind _ hev
       split at e2
       ·rename_i hck
        simp only [Bool.and_eq_true] at hck
        simp only [Cmd.out, Option.some.injEq, Prod.mk.injEq] at e2
        obtain ⟨rfl, rfl⟩ := e2
        have hop := evJ_sound hC (op := o) rfl (hrep_mask hsm g2) hFM hLM hρ (Cmd.out_can _ e1)
        have conv : ∀ u w', (∃ s, s = x ∧ Tr (FM F G st.ow q.1) G (maskOW q.1 0 st.ow) w G (maskOW q.1 0 st.ow) w' ∧ Sv (FM F G st.ow q.1) G (maskOW q.1 0 st.ow) w'.heap s u) → K (a.put o.dst u) w' := by
         rintro u w' ⟨s, rfl, ht, hsv⟩
         obtain ⟨t1, t2⟩ := tr_unmask_read g2 hFw hsm ht hck.1
         exact hK _ _ (InI.op hI.defers t g1 t1 (splitS_sound (t2 s u 8 hck.2 hsv)))
        rcases hop with ⟨u, w', q1, q2⟩ | ⟨w', q1, q2⟩ | ⟨f, args, q1, q2⟩
        ·exact .inl ⟨u, w', q1, conv u w' q2⟩
        ·exact .inr (.inl ⟨w', q1, conv undef w' q2⟩)
        ·exact .inr (.inr ⟨f, args, q1, q2.mono fun e w' ⟨u, q3, q4⟩ => ⟨u, q3, conv u w' q4⟩⟩)
       ·cases e2
 ·refine Nat.le_trans (List.length_filter_le _ _) (by simp)
 ·intro j hj
  exfalso
  by_cases hlt : j < ops.size
  ·simp [Array.getD, hlt] at hj
  ·simp [Array.getD, hlt] at hj
 ·have : ((List.range ops.size).filter fun i => !(Array.replicate ops.size false).getD i true) = List.range ops.size := by
   rw [List.filter_eq_self]
   intro i hi
   have := List.mem_range.1 hi
   simp [Array.getD, this]
  rw [this]
  exact h1
 ·obtain ⟨G, t, hs⟩ := h.ex
  exact ⟨⟨G, ⟨t.hrep, t.sv, ⟨t.kept.size, t.kept.heap, t.kept.cells, t.kept.os, t.kept.output, t.kept.tape⟩, t.own, t.len⟩, hs⟩, h.defers⟩
def QI (F : Nat → Prop) (G0 : Gh) (ow0 : OW) (w0 : World) (Q : Way × St → Prop) : Exit → Act → World → Prop
 | .normal, a, w => ∃ st, InI F G0 ow0 w0 st a w ∧ Q (.normal, st)
 | .exit i, a, w => ∃ st, InI F G0 ow0 w0 st a w ∧ Q (.exit i, st)
 | .ret, a, w => ∃ st, InI F G0 ow0 w0 st a w ∧ Q (.ret, st)
 | _, _, _ => False
theorem evCodeC_sound (hC : C.Holds L) (hm : C.P.follows .mixedOrders = true) (hE : InE F G0 ow0 w0 L) {A : InA} {key : Option Nat → Nat} : (c : Code) → {bid : Nat} → {Q : Way × St → Prop} → {st : St} → {a : Act} → {w : World} → (evCodeC C A key c bid st).can Q → InI F G0 ow0 w0 st a w → c.wp C.P (QI F G0 ow0 w0 Q) a w
 | .skip, _, Q, st, a, w, e, h => wp_skip ⟨st, h, e⟩
 | .exit id, _, Q, st, a, w, e, h => wp_exit ⟨st, h, e⟩
 | .ret, _, Q, st, a, w, e, h => wp_ret ⟨st, h, e⟩
 | .seq x y, bid, Q, st, a, w, e, h => by
  simp only [evCodeC] at e
  refine wp_seq (wp_mono (evCodeC_sound hC hm hE x (Cmd.can_bind _ e) h) fun ex a' w' hq => ?_)
  cases ex with
  | normal => obtain ⟨st', h1, h2⟩ := hq; exact evCodeC_sound hC hm hE y h2 h1
  | exit i => obtain ⟨st', h1, h2⟩ := hq; exact ⟨st', h1, h2⟩
  | ret => obtain ⟨st', h1, h2⟩ := hq; exact ⟨st', h1, h2⟩
  | _ => exact hq.elim
 | .cond o x y, bid, Q, st, a, w, e, h => by
  simp only [evCodeC] at e
  obtain ⟨G, t0, hs⟩ := h.ex
  have hρ := opd_rho hs o
  split at e
  ·rename_i t ht
   rw [ht] at hρ
   refine wp_cond hρ.lb_inv ?_
   cases t with
   | true => exact evCodeC_sound hC hm hE x e h
   | false => exact evCodeC_sound hC hm hE y e h
  ·rename_i t ht
   rw [ht] at hρ
   refine wp_cond hρ.bool_inv ?_
   cases t with
   | true => exact evCodeC_sound hC hm hE x e h
   | false => exact evCodeC_sound hC hm hE y e h
  ·exact e.elim
 | .block id x, bid, Q, st, a, w, e, h => by
  simp only [evCodeC] at e
  refine wp_block (wp_mono (evCodeC_sound hC hm hE x (Cmd.can_bind _ e) h) fun ex a' w' hq => ?_)
  cases ex with
  | normal => obtain ⟨st', h1, h2⟩ := hq; exact ⟨st', h1, h2⟩
  | exit i =>
   obtain ⟨st', h1, h2⟩ := hq
   by_cases hi : i = id
   ·subst hi
    simp only [beq_self_eq_true, if_true] at h2
    simp only [Exit.inBlock, if_true]
    exact ⟨st', h1, h2⟩
   ·have hb : (i == id) = false := by simpa using hi
    simp only [hb, Bool.false_eq_true, if_false] at h2
    simp only [Exit.inBlock, hi, if_false]
    exact ⟨st', h1, h2⟩
  | ret => obtain ⟨st', h1, h2⟩ := hq; exact ⟨st', h1, h2⟩
  | _ => exact hq.elim
 | .region id ops draw, bid, Q, st, a, w, e, h => by
  simp only [evCodeC] at e
  cases draw with
  | true =>
   simp only [if_true] at e
   split at e
   ·split at e
    ·rename_i hok
     exact inDrawM hC hm hE h hok (Cmd.can_bind _ e) fun st' a' w' h1 h2 => ⟨_, h2, h1⟩
    ·exact e.elim
   split at e
   ·rename_i hok
    exact inDraw hC hm hE h hok (Cmd.can_bind _ e) fun sl' a' w' h1 h2 => ⟨_, h2, h1⟩
   ·exact e.elim
  | false =>
   simp only [Bool.false_eq_true, if_false] at e
   obtain ⟨hl, hr⟩ := region_list ops (fr := fun _ => true) (List.all_eq_true.2 fun o _ => by cases o.dst <;> rfl)
   refine wp_region ?_
   rw [← hr]
   exact evOpsC_sound hC hE (fun st' a' w' h1 h2 => ⟨st', h2, h1⟩) _ (fun p hp => (hl p hp).1) h (Cmd.can_bind _ e)
 | .loop _, _, _, _, _, _, e, _ => by simp [evCodeC] at e; exact e.elim
 | .label _, _, _, _, _, _, e, _ => by simp [evCodeC] at e; exact e.elim
 | .goto _, _, _, _, _, _, e, _ => by simp [evCodeC] at e; exact e.elim
 | .scope _, _, _, _, _, _, e, _ => by simp [evCodeC] at e; exact e.elim
 | .rangeFunc _ _ _ _, _, _, _, _, _, e, _ => by simp [evCodeC] at e; exact e.elim
theorem evInl_sound (hC : C.Holds L) (hm : C.P.follows .mixedOrders = true) {G : Gh} {ow : OW} {w : World} (hh : HRep F G ow w.heap) (hF : ∀ b, F b → b < w.heap.size) (hL : Laid L (Own G ow) w.heap) {id : FuncId} {fn : Func} (hf : C.P.funcs[id]? = some fn) {args : List SV} {vs : List Value} (ha : Svs F G ow w.heap args vs) {A : InA} {d : Nat} {Q : SV × OW → Prop}
  (h : (evInl C fn args ow A d).can Q) : CallR C.P F G ow w id vs Q := by
 unfold evInl at h
 split at h
 ·exact h.elim
 rename_i c hb
 split at h
 ·rename_i hlen
  have hv : vs.length = args.length := ha.1.symm
  have hE : InE F G ow w L := ⟨hF, hL⟩
  unfold CallR
  refine calls_of_wp hf hb ?_
  have hI : InI F G ow w ⟨args ++ List.replicate (fn.ntmps - args.length) .dead, ow⟩ { tmps := vs.toArray ++ Array.replicate (fn.ntmps - vs.toArray.size) undef, defers := [] } w := by
   refine ⟨⟨G, .refl hh, ⟨by simp [hv], fun i h1 h2 => ?_⟩⟩, rfl⟩
   simp only [Array.toList_append, Array.toList_replicate] at h2 ⊢
   by_cases hi : i < args.length
   ·simp only [List.getElem_append_left hi, List.getElem_append_left (show i < vs.length by omega)]
    exact ha.2 i hi (by omega)
   ·rw [List.getElem_append_right (by omega), List.getElem_replicate]
    exact .dead _
  refine wp_mono (evCodeC_sound hC hm hE c (Cmd.can_bind _ h) hI) fun ex a' w' hq => ?_
  have fin : ∀ st, InI F G ow w st a' w' → ((resSV C.P st fn.results.toList).bind fun l => Cmd.ret (pad l, st.ow)).can Q → a'.defers = [] ∧ ∃ v, (results fn a'.tmps).run C.P w' = .ok v w' ∧ ∃ s ow' v' G', Ending.returned v = .returned v' ∧ Q (s, ow') ∧ Tr F G ow w G' ow' w' ∧ Sv F G' ow' w'.heap s v' := by
   intro st hst hc
   obtain ⟨G', t, hs⟩ := hst.ex
   obtain ⟨ss, us, hq, hr, hsv⟩ := resSV_sound t.hrep hs _ (Cmd.can_bind _ hc)
   exact ⟨hst.defers, _, results_run hr, _, _, _, G', rfl, hq, t, pad_ret hsv⟩
  cases ex with
  | normal =>
   obtain ⟨st, h1, h2⟩ := hq
   obtain ⟨q1, v, q2, q3⟩ := fin st h1 h2
   exact ⟨q1, v, q2, q3⟩
  | ret =>
   obtain ⟨st, h1, h2⟩ := hq
   obtain ⟨q1, v, q2, q3⟩ := fin st h1 h2
   exact ⟨q1, v, q2, q3⟩
  | exit i => obtain ⟨st, h1, h2⟩ := hq; exact h2.elim
  | _ => exact hq.elim
 ·exact h.elim
theorem inlOf_some {f : SV} {q : FuncId × Func × List SV × List SV} (h : inlOf C f = some q) : f = .fn (.func q.1) q.2.2.1 q.2.2.2 ∧ C.P.funcs[q.1]? = some q.2.1 ∧ (q.2.1.name == "runtime.NumGoroutine") = false ∧ q.2.1.body.isNone = false := by
 unfold inlOf at h
 split at h
 ·split at h
  ·split at h
   ·rename_i fn hfn
    split at h
    ·rename_i hc
     simp only [Bool.and_eq_true, Bool.not_eq_true'] at hc
     cases h
     exact ⟨rfl, hfn, hc.1, hc.2⟩
    ·cases h
   ·cases h
  ·cases h
 ·cases h
theorem opISound (hC : C.Holds L) (hm : C.P.follows .mixedOrders = true) : OpISound C L := by
 intro F G ow w o op ho ρ ρv hh hF hL hρ d Q h
 unfold evOpI at h
 split at h
 ·rename_i fo args ats
  split at h
  ·rename_i q hq
   obtain ⟨hfo, hf, hn, hb⟩ := inlOf_some hq
   have hv := hρ fo
   rw [hfo] at hv
   obtain ⟨xs, ys, hv, hx, hy⟩ := hv.fn_inv
   have hargs : Svs F G ow w.heap (q.2.2.1 ++ args.toList.map ρ ++ q.2.2.2) (xs ++ args.toList.map ρv ++ ys) := (hx.append (hρ.svs _)).append hy
   have := evInl_sound hC hm hh hF hL hf hargs h
   exact .inr (.inr ⟨q.1, _, run_call_value ho rfl hv ⟨_, hf, hn, hb⟩, this.mono fun e w' ⟨s, ow', v, G', h1, h2, h3, h4⟩ => ⟨v, h1, s, ow', G', h2, h3, h4⟩⟩)
  ·exact evOp_sound hC ho hh hF hL hρ h
 ·exact evOp_sound hC ho hh hF hL hρ h
end
end Go.Pev
end

section
/-
 PEV, part 25: regions whose order is drawn, that turn something.
-/
namespace Go.Pev
theorem drawSoundM {C : Ctx} {L : List (Nat × Obj)} (hC : C.Holds L) (hm : C.P.follows .mixedOrders = true) : DrawSoundM C L := by
 intro α nt fr F fp w0 vs id ops ks st a w k r hE hd h hok he Q hQ
 obtain ⟨hl, hr⟩ := region_list ops hd
 obtain ⟨stF, h1, h2⟩ := evOpsM_seq _ (fun p hp => (hl p hp).1) he
 rw [hr] at h1
 have hD : ∀ (i : Nat) (o : Oper), ops[i]? = some o → ∀ d, o.dst = some d → fr d = true := by
  intro i o ho d hx
  have hmem : o ∈ ops.toList := by
   obtain ⟨hlt, rfl⟩ := Array.getElem?_eq_some_iff.1 ho
   simp
  have := List.all_eq_true.1 hd o hmem
  rw [hx] at this
  simpa using this
 let R : St → Act → World → Prop := fun st a w => StI nt fr F fp w0 vs st a w
 refine wp_region_any hm (any_of_seq (step := stepM C (EvI C) dkF ops ks) (R := R) (fun i j s s1 s2 => stepM_swap (evI_congr C) i j s s1 s2) ?_ hok (sF := stF) (fun a' w' hR => hQ stF a' w' h2 hR) ops.size _ st a _ (by simp) ?_ ?_ ?_ ?_)
 ·intro i st st' a w hi hs hI K hK
  obtain ⟨o, ho, hs⟩ := stepM_some hs
  have hdo := hD i o ho
  obtain ⟨G, g1, g2, g3⟩ := hI.ex
  unfold wpOp
  rw [ho]
  simp only
  rcases hs with ⟨hw, rfl⟩ | ⟨hw, q, s, r, hq, hsm, hev, rfl⟩
  ·rw [wants_sound g1 hw]
   exact hK _ _ (hI.slot (fun _ => sv_undef) hdo)
  ·rw [wants_sound g1 hw]
   simp only [if_true]
   left
   have hFw := hE.wideAt hI.kept
   have hLw := hE.laidAt hI.kept g3
   have hFM : ∀ b, FM F G st.ow q.1 b → b < w.heap.size := fun b hb => FM_lt g2 hFw hb
   have hLM : Laid L (Own G (maskOW q.1 0 st.ow)) w.heap := fun p hp => ⟨fun h => (hLw p hp).1 (own_of_mask h), (hLw p hp).2⟩
   have hρ : Rho (FM F G st.ow q.1) G (maskOW q.1 0 st.ow) w.heap (opd st.sl) a.eval := fun x => sv_mask hsm (opd_rho g1 x)
   refine OpR.wp ?_
   unfold evM at hev
   split at hev
   ·obtain ⟨x, e1, e2⟩ := Cmd.out_bind _ hev
    split at e2
    ·rename_i hck
     simp only [Bool.and_eq_true] at hck
     simp only [Cmd.out, Option.some.injEq, Prod.mk.injEq] at e2
     obtain ⟨rfl, rfl⟩ := e2
     have hop := opISound hC hm (op := o) rfl (hrep_mask hsm g2) hFM hLM hρ (Cmd.out_can _ e1)
     have conv : ∀ u w', (∃ s ow' G', (s, ow') = x ∧ Tr (FM F G st.ow q.1) G (maskOW q.1 0 st.ow) w G' ow' w' ∧ Sv (FM F G st.ow q.1) G' ow' w'.heap s u) → K (a.put o.dst u) w' := by
      rintro u w' ⟨s, ow', G', rfl, ht, hsv⟩
      obtain ⟨t1, t2⟩ := tr_unmask g2 hFw hsm ht hck.1
      exact hK _ _ (hI.op hE g1 g3 t1 (splitS_sound (t2 s u 8 hck.2 hsv)) hdo)
     rcases hop with ⟨u, w', q1, q2⟩ | ⟨w', q1, q2⟩ | ⟨f, args, q1, q2⟩
     ·exact .inl ⟨u, w', q1, conv u w' q2⟩
     ·exact .inr (.inl ⟨w', q1, conv undef w' q2⟩)
     ·exact .inr (.inr ⟨f, args, q1, q2.mono fun e w' ⟨u, q3, q4⟩ => ⟨u, q3, conv u w' q4⟩⟩)
    ·cases e2
   ·split at hev
    ·rename_i x hx
     simp only [Cmd.out, Option.some.injEq, Prod.mk.injEq] at hev
     obtain ⟨rfl, rfl⟩ := hev
     have hcan : (evJ C o.op (opd st.sl) st.ow).can fun s => s = opd st.sl x := by
      revert hx
      cases o.op with
      | move y => intro hx; cases hx; exact rfl
      | assign y => intro hx; cases hx; exact rfl
      | _ => intro hx; cases hx
     have hop := evJ_sound hC (op := o) rfl g2 hFw hLw (opd_rho g1) hcan
     have conv : ∀ u w', (∃ s, s = opd st.sl x ∧ Tr F G st.ow w G st.ow w' ∧ Sv F G st.ow w'.heap s u) → K (a.put o.dst u) w' := by
      rintro u w' ⟨s, rfl, ht, hsv⟩
      exact hK _ _ (hI.op hE g1 g3 ht (splitS_sound hsv) hdo)
     rcases hop with ⟨u, w', q1, q2⟩ | ⟨w', q1, q2⟩ | ⟨f, args, q1, q2⟩
     ·exact .inl ⟨u, w', q1, conv u w' q2⟩
     ·exact .inr (.inl ⟨w', q1, conv undef w' q2⟩)
     ·exact .inr (.inr ⟨f, args, q1, q2.mono fun e w' ⟨u, q3, q4⟩ => ⟨u, q3, conv u w' q4⟩⟩)
    ·split at hev
     ·rename_i s' hl
      simp only [Cmd.out, Option.some.injEq, Prod.mk.injEq] at hev
      obtain ⟨rfl, rfl⟩ := hev
      have hop := evJ_sound hC (op := o) rfl g2 hFw hLw (opd_rho g1) (evLight_out (C := C) (fun d j ob h => getOb_mask h) hl)
      have conv : ∀ u w', (∃ s, s = s' ∧ Tr F G st.ow w G st.ow w' ∧ Sv F G st.ow w'.heap s u) → K (a.put o.dst u) w' := by
       rintro u w' ⟨s, rfl, ht, hsv⟩
       exact hK _ _ (hI.op hE g1 g3 ht (splitS_sound hsv) hdo)
      rcases hop with ⟨u, w', q1, q2⟩ | ⟨w', q1, q2⟩ | ⟨f, args, q1, q2⟩
      ·exact .inl ⟨u, w', q1, conv u w' q2⟩
      ·exact .inr (.inl ⟨w', q1, conv undef w' q2⟩)
      ·exact .inr (.inr ⟨f, args, q1, q2.mono fun e w' ⟨u, q3, q4⟩ => ⟨u, q3, conv u w' q4⟩⟩)
     ·split at hev
      ·obtain ⟨x, e1, e2⟩ := Cmd.out_bind _ hev
       split at e2
       ·rename_i hck
        simp only [Bool.and_eq_true] at hck
        simp only [Cmd.out, Option.some.injEq, Prod.mk.injEq] at e2
        obtain ⟨rfl, rfl⟩ := e2
        have hop := evNew_sound hC (op := o) rfl (hrep_mask hsm g2) hFM hLM hρ (Cmd.out_can _ e1)
        obtain ⟨obs, hobs⟩ := evNew_form e1
        have hmg : putM st.ow (some ([dkF o], x.2)) = mergeOW q.1 0 st.ow x.2 := merge_new hobs hck.2
        have conv : ∀ u w', (∃ s ow' G', (s, ow') = x ∧ Tr (FM F G st.ow q.1) G (maskOW q.1 0 st.ow) w G' ow' w' ∧ Sv (FM F G st.ow q.1) G' ow' w'.heap s u) → K (a.put o.dst u) w' := by
         rintro u w' ⟨s, ow', G', rfl, ht, hsv⟩
         obtain ⟨t1, t2⟩ := tr_unmask g2 hFw hsm ht hck.1.1
         have hfin : R ⟨setSl st.sl o.dst (splitS (isSrc ops i) s), mergeOW q.1 0 st.ow ow'⟩ (a.put o.dst u) w' := hI.op hE g1 g3 t1 (splitS_sound (t2 s u 8 hck.1.2 hsv)) hdo
         rw [← hmg] at hfin
         exact hK _ _ hfin
        rcases hop with ⟨u, w', q1, q2⟩ | ⟨w', q1, q2⟩ | ⟨f, args, q1, q2⟩
        ·exact .inl ⟨u, w', q1, conv u w' q2⟩
        ·exact .inr (.inl ⟨w', q1, conv undef w' q2⟩)
        ·exact .inr (.inr ⟨f, args, q1, q2.mono fun e w' ⟨u, q3, q4⟩ => ⟨u, q3, conv u w' q4⟩⟩)
       ·cases e2
      ·obtain ⟨x, e1, e2⟩ := Cmd.out_bind _ hev
       split at e2
       ·rename_i hck
        simp only [Bool.and_eq_true] at hck
        simp only [Cmd.out, Option.some.injEq, Prod.mk.injEq] at e2
        obtain ⟨rfl, rfl⟩ := e2
        have hop := evJ_sound hC (op := o) rfl (hrep_mask hsm g2) hFM hLM hρ (Cmd.out_can _ e1)
        have conv : ∀ u w', (∃ s, s = x ∧ Tr (FM F G st.ow q.1) G (maskOW q.1 0 st.ow) w G (maskOW q.1 0 st.ow) w' ∧ Sv (FM F G st.ow q.1) G (maskOW q.1 0 st.ow) w'.heap s u) → K (a.put o.dst u) w' := by
         rintro u w' ⟨s, rfl, ht, hsv⟩
         obtain ⟨t1, t2⟩ := tr_unmask_read g2 hFw hsm ht hck.1
         exact hK _ _ (hI.op hE g1 g3 t1 (splitS_sound (t2 s u 8 hck.2 hsv)) hdo)
        rcases hop with ⟨u, w', q1, q2⟩ | ⟨w', q1, q2⟩ | ⟨f, args, q1, q2⟩
        ·exact .inl ⟨u, w', q1, conv u w' q2⟩
        ·exact .inr (.inl ⟨w', q1, conv undef w' q2⟩)
        ·exact .inr (.inr ⟨f, args, q1, q2.mono fun e w' ⟨u, q3, q4⟩ => ⟨u, q3, conv u w' q4⟩⟩)
       ·cases e2
 ·refine Nat.le_trans (List.length_filter_le _ _) (by simp)
 ·intro j hj
  exfalso
  by_cases hlt : j < ops.size
  ·simp [Array.getD, hlt] at hj
  ·simp [Array.getD, hlt] at hj
 ·have : ((List.range ops.size).filter fun i => !(Array.replicate ops.size false).getD i true) = List.range ops.size := by
   rw [List.filter_eq_self]
   intro i hi
   have := List.mem_range.1 hi
   simp [Array.getD, this]
  rw [this]
  exact h1
 ·exact ⟨h.ex, ⟨h.kept.size, h.kept.heap, h.kept.cells, h.kept.os, h.kept.output, h.kept.tape⟩, h.defers, h.args, h.size⟩
theorem drawSound {C : Ctx} {L : List (Nat × Obj)} (hC : C.Holds L) (hm : C.P.follows .mixedOrders = true) : DrawSound C L := ⟨drawSoundJ hC hm, drawSoundM hC hm, opISound hC hm⟩
theorem sig_of_ev {C : Ctx} {L : List (Nat × Obj)} (hC : C.Holds L) (hm : C.P.follows .mixedOrders = true) {f : FuncId} {fn : Func} (hf : C.P.funcs[f]? = some fn) (hname : (fn.name == "runtime.NumGoroutine") = false) (ann : Ann) (args res : Sh) {den : args.T → Option (res.T × args.Out)}
  (hden : ∀ x y, den x = some y → evFunc C ann fn args res x = some y) (hbody : fn.body.isNone = false) : SigHolds C.P L f ⟨args, res, den, ann.al⟩ :=
 evFunc_sound hC (drawSound hC hm) hf hname ann args res hden hbody
end Go.Pev
end

section
/-
 PEV, part 31: contexts of contracts; contracts of functions that take data and give data.
-/
namespace Go.Pev
open Go Go.RowKit
def AllOk (P : Program) (L : List (Nat × Obj)) (f : FuncId) (l : List Sig) : Prop := ∀ sg ∈ l, SigHolds P L f sg
theorem allok_nil {P : Program} {L : List (Nat × Obj)} {f : FuncId} : AllOk P L f [] := fun _ h => by cases h
theorem allok_cons {P : Program} {L : List (Nat × Obj)} {f : FuncId} {sg : Sig} {l : List Sig} (h : SigHolds P L f sg) (hl : AllOk P L f l) : AllOk P L f (sg :: l) := fun s hs => by
 rcases List.mem_cons.1 hs with rfl | hs
 ·exact h
 ·exact hl s hs
theorem holds_nil {P : Program} {L : List (Nat × Obj)} {k : Nat} {dp : List (Nat × Sh)} {il : List (FuncId × List (Nat × InA))} : Ctx.Holds ⟨P, [], k, dp, il⟩ L := fun f sg h => by simp [Ctx.sigsOf] at h
theorem holds_cons {P : Program} {L : List (Nat × Obj)} {k : Nat} {f : FuncId} {l : List Sig} {r : List (FuncId × List Sig)} {dp : List (Nat × Sh)} {il : List (FuncId × List (Nat × InA))} (h : AllOk P L f l) (hr : Ctx.Holds ⟨P, r, k, dp, il⟩ L) : Ctx.Holds ⟨P, (f, l) :: r, k, dp, il⟩ L := fun g sg hs => by
 unfold Ctx.sigsOf at hs
 simp only [List.find?_cons] at hs
 by_cases e : f = g
 ·subst e
  simp only [beq_self_eq_true] at hs
  exact h sg hs
 ·have : (f == g) = false := by simpa using e
  rw [this] at hs
  exact hr g sg hs
theorem sig_zero {P : Program} {L : List (Nat × Obj)} {f : FuncId} {fn : Func} {A R : Sh} {b : (A.T → Option (R.T × A.Out)) → A.T → Option (R.T × A.Out)} {al : List (Nat × Nat × Nat × List Nat)} (hf : P.funcs[f]? = some fn) (hname : (fn.name == "runtime.NumGoroutine") = false) (hbody : fn.body.isNone = false) :
  SigHolds P L f ⟨A, R, iter b 0, al⟩ := ⟨⟨fn, hf, hname, hbody⟩, fun _ _ _ _ _ _ _ _ _ _ _ h => by cases h⟩
theorem shR_cons {h : Array Obj} {ok : Nat → Prop} {k : Kd} {b : Sh} {x : Sh.T (.cons (.pur k) b)} {vs : List Value} {fp : List Nat} (e : ShR h ok (.cons (.pur k) b) x vs fp) : ∃ v r, vs = v :: r ∧ PayR h ok k x.1 v ∧ ShR h ok b x.2 r fp := by
 obtain ⟨v, r, f1, f2, rfl, rfl, ⟨v', h1, rfl, h2⟩, h3⟩ := e
 cases h1
 exact ⟨v, r, rfl, h2, h3⟩
theorem shR_nil {h : Array Obj} {ok : Nat → Prop} {x : Sh.T .nil} {vs : List Value} {fp : List Nat} (e : ShR h ok .nil x vs fp) : vs = [] ∧ fp = [] := e
theorem shR_cons_mk {h : Array Obj} {ok : Nat → Prop} {k : Kd} {b : Sh} {x : Sh.T (.cons (.pur k) b)} {v : Value} {r : List Value} {fp : List Nat} (h1 : PayR h ok k x.1 v) (h2 : ShR h ok b x.2 r fp) : ShR h ok (.cons (.pur k) b) x (v :: r) fp :=
 ⟨v, r, [], fp, rfl, rfl, ⟨v, rfl, rfl, h1⟩, h2⟩
theorem one_cells {v c : Value} (h : v.oneCell' = true) (hc : v.cells.toList = [c]) : v = c := by
 rw [cells_of_one h] at hc
 simpa using hc
theorem payR_int {h : Array Obj} {ok : Nat → Prop} {k : IntKind} {n : Int} {v : Value} (e : PayR h ok (.int k) n v) : v = .int k n := one_cells (e.2.2 rfl) e.1
theorem payR_str {h : Array Obj} {ok : Nat → Prop} {s : List UInt8} {v : Value} (e : PayR h ok .str s v) : v = .string ⟨s.toArray⟩ := one_cells (e.2.2 rfl) e.1
theorem payR_bool {h : Array Obj} {ok : Nat → Prop} {b : Bool} {v : Value} (e : PayR h ok .bool b v) : v = .bool b := one_cells (e.2.2 rfl) e.1
theorem payR_int_mk {h : Array Obj} {ok : Nat → Prop} {k : IntKind} {n : Int} : PayR h ok (.int k) n (.int k n) := ⟨rfl, (fun h => by cases h), fun _ => rfl⟩
def purs : List Kd → Sh
 | [] => .nil
 | k :: r => .cons (.pur k) (purs r)
theorem outR_purs {h h' : Array Obj} {ok ok' : Nat → Prop} : (s : Sh) → isPurs s = true → {x : s.T} → {o : s.Out} → {vs : List Value} → {fp : List Nat} → ShR h ok s x vs fp → OutR h' ok' s o vs []
 | .nil, _, _, _, vs, fp, e => ⟨e.1, rfl⟩
 | .cons (.pur k) b, hs, x, o, vs, fp, e => by
  obtain ⟨v, r, f1, f2, rfl, _, ⟨_, h1, _, _⟩, h3⟩ := e
  exact ⟨v, r, [], [], rfl, rfl, .inl ⟨rfl, rfl⟩, outR_purs b (by simpa [isPurs] using hs) h3⟩
 | .cons (.own _) _, hs, _, _, _, _, _ => by simp [isPurs] at hs
 | .cons (.row _) _, hs, _, _, _, _, _ => by simp [isPurs] at hs
 | .cons (.nrw _) _, hs, _, _, _, _, _ => by simp [isPurs] at hs
 | .cons (.box _) _, hs, _, _, _, _, _ => by simp [isPurs] at hs
 | .cons (.agg _) _, hs, _, _, _, _, _ => by simp [isPurs] at hs
 | .cons (.fn _ _ _) _, hs, _, _, _, _, _ => by simp [isPurs] at hs
 | .cons .ign _, hs, _, _, _, _, _ => by simp [isPurs] at hs
 | .cons .nl _, hs, _, _, _, _, _ => by simp [isPurs] at hs
 | .cons .nil _, hs, _, _, _, _, _ => by simp [isPurs] at hs
 | .cons (.cons _ _) _, hs, _, _, _, _, _ => by simp [isPurs] at hs
 | .pur _, hs, _, _, _, _, _ => by simp [isPurs] at hs
 | .own _, hs, _, _, _, _, _ => by simp [isPurs] at hs
 | .row _, hs, _, _, _, _, _ => by simp [isPurs] at hs
 | .nrw _, hs, _, _, _, _, _ => by simp [isPurs] at hs
 | .box _, hs, _, _, _, _, _ => by simp [isPurs] at hs
 | .agg _, hs, _, _, _, _, _ => by simp [isPurs] at hs
 | .fn _ _ _, hs, _, _, _, _, _ => by simp [isPurs] at hs
 | .ign, hs, _, _, _, _, _ => by simp [isPurs] at hs
 | .nl, hs, _, _, _, _, _ => by simp [isPurs] at hs
theorem sig_pur {P : Program} {L : List (Nat × Obj)} {f : FuncId} {fn : Func} {A R : Sh} {den : A.T → Option (R.T × A.Out)} (hf : P.funcs[f]? = some fn) (hname : (fn.name == "runtime.NumGoroutine") = false) (hbody : fn.body.isNone = false)
  (hA : isPurs A = true) (hc : ∀ (w : World) (x : A.T) (vs : List Value) (y : R.T × A.Out) (F : Nat → Prop), (∀ b, F b → b < w.heap.size) → Laid L (fun _ => False) w.heap → ShR w.heap (fun b => ¬ F b) A x vs [] → den x = some y →
   Calls P f vs.toArray w fun e w' => ∃ rs fp, e = .returned (retV rs) ∧ ShR w'.heap (fun b => ¬ FP F fp b) R y.1 rs fp ∧ fp.Nodup ∧ (∀ b ∈ fp, w.heap.size ≤ b) ∧ Kept (fun _ => False) w w') : SigHolds P L f ⟨A, R, den, []⟩ := by
 refine ⟨⟨fn, hf, hname, hbody⟩, fun w F x vs fp y hF hL _ _ hsh hy _ => ?_⟩
 obtain ⟨rfl, _⟩ := isPurs_fp A hA hsh
 have hsh' : ShR w.heap (fun b => ¬ F b) A x vs [] := ShR.mono (fun b r hb hr => ⟨fun h => hb (.inl h), hr⟩) _ (fun _ _ => rfl) hsh
 refine (hc w x vs y F hF (fun p hp => ⟨fun h => h, (hL p hp).2⟩) hsh' hy).mono fun e w' ⟨rs, fp, h1, h2, h3, h4, h5⟩ => ?_
 have h5' : Kept (· ∈ ([] : List Nat)) w w' := ⟨h5.size, fun b hb _ => h5.heap b hb (fun h => h), h5.cells, h5.os, h5.output, h5.tape⟩
 refine ⟨rs, fp, [], h1, by simpa using h2, ?_, by simpa using h3, fun b hb => .inr (h4 b (by simpa using hb)), h5'⟩
 exact outR_purs A hA hsh
theorem kept_refl (w : World) : Kept (fun _ => False) w w := .refl _ _
theorem below_kept {w w' : World} (h : Kept (fun _ => False) w w') : Below w.heap.size w w' :=
 ⟨h.os, h.tape, h.output, h.size, fun k hk => h.heap k hk fun h => h⟩
end Go.Pev
end
