/-
  PEV, part 19: regions.
-/
import Derived.Test.YtgajbbadidobfaaDoorPevOp
import Derived.LoopN
import Derived.Orders
set_option linter.unusedVariables false
set_option linter.unusedSimpArgs false
namespace Go.Pev

/-- What holds all through a function's run. -/
structure Env (F : Nat → Prop) (fp : List Nat) (L : List (Nat × Obj)) (w0 : World) : Prop where
  wide : ∀ b, F b → b < w0.heap.size
  laid : Laid L (· ∈ fp) w0.heap
  fpF : ∀ b ∈ fp, ¬ F b

/-- A state. -/
structure StI (nt : Nat) (fr : Nat → Bool) (F : Nat → Prop) (fp : List Nat) (w0 : World) (vs : List Value) (st : St) (a : Act) (w : World) : Prop where
  ex : ∃ G, Svs F G st.ow w.heap st.sl a.tmps.toList ∧ HRep F G st.ow w.heap ∧ ∀ b, Own G st.ow b → b ∈ fp ∨ w0.heap.size ≤ b
  kept : Kept (· ∈ fp) w0 w
  defers : a.defers = []
  args : ∀ i, i < vs.length → fr i = false → a.tmps[i]? = vs[i]?
  size : a.tmps.size = nt

section
variable {F : Nat → Prop} {fp : List Nat} {L : List (Nat × Obj)} {w0 : World} {vs : List Value} {C : Ctx} {nt : Nat} {fr : Nat → Bool}

theorem Env.wideAt (hE : Env F fp L w0) {w : World} (hk : Kept (· ∈ fp) w0 w) : ∀ b, F b → b < w.heap.size := fun b hb => Nat.lt_of_lt_of_le (hE.wide b hb) hk.size

theorem Env.laidAt (hE : Env F fp L w0) {w : World} (hk : Kept (· ∈ fp) w0 w) {G : Gh} {ow : OW} (ho : ∀ b, Own G ow b → b ∈ fp ∨ w0.heap.size ≤ b) : Laid L (Own G ow) w.heap := fun p hp => by
  obtain ⟨h1, h2⟩ := hE.laid p hp
  have hlt := (Array.getElem?_eq_some_iff.1 h2).1
  refine ⟨fun h => ?_, by rw [hk.heap p.1 hlt h1]; exact h2⟩
  rcases ho _ h with h | h
  · exact h1 h
  · omega

theorem opd_rho {G : Gh} {ow : OW} {w : World} {sl : List SV} {a : Act} (hs : Svs F G ow w.heap sl a.tmps.toList) : Rho F G ow w.heap (opd sl) a.eval := by
  intro x
  cases x with
  | tmp t =>
    show Sv F G ow w.heap (match sl[t]? with | some s => s | none => .dead) (a.tmps.getD t undef)
    split
    · rename_i s h
      obtain ⟨hlt, rfl⟩ := List.getElem?_eq_some_iff.1 h
      have hlt2 : t < a.tmps.toList.length := by rw [← hs.1]; exact hlt
      have e : a.tmps.getD t undef = a.tmps.toList[t] := by
        have : t < a.tmps.size := by simpa using hlt2
        simp [Array.getD, this]
      rw [e]
      exact hs.2 t hlt hlt2
    · exact .dead _
  | const v => exact ofVal_sound 4 v
  | global g => exact .dead _
  | func f => exact .fn (a := []) (b := []) (xs := []) (ys := []) rfl rfl (fun i h => by simp at h) (fun i h => by simp at h)

theorem put_svs {G : Gh} {ow : OW} {w : World} {sl : List SV} {a : Act} (hs : Svs F G ow w.heap sl a.tmps.toList) {s : SV} {v : Value} (hv : Sv F G ow w.heap s v) (d : Option Tmp) : Svs F G ow w.heap (setSl sl d s) (a.put d v).tmps.toList := by
  cases d with
  | none => exact hs
  | some d =>
    refine ⟨by simp [setSl, Act.put, hs.1], fun i h1 h2 => ?_⟩
    simp only [setSl, Act.put, Array.toList_setIfInBounds] at h1 h2 ⊢
    by_cases e : d = i
    · subst e
      simp only [List.getElem_set_self]
      exact hv
    · simp only [List.getElem_set_ne e]
      exact hs.2 i (by simpa using h1) (by simpa using h2)

theorem put_args {a : Act} {d : Option Tmp} {v : Value} (h : ∀ i, i < vs.length → fr i = false → a.tmps[i]? = vs[i]?) (hd : ∀ x, d = some x → fr x = true) : ∀ i, i < vs.length → fr i = false → (a.put d v).tmps[i]? = vs[i]? := by
  intro i hi hf
  cases d with
  | none => exact h i hi hf
  | some d =>
    have := hd d rfl
    simp only [Act.put]
    rw [Array.getElem?_setIfInBounds_ne (fun e => by rw [e] at this; rw [this] at hf; cases hf)]
    exact h i hi hf

theorem put_size (a : Act) (d : Option Tmp) (v : Value) : (a.put d v).tmps.size = a.tmps.size := by cases d <;> simp [Act.put]

theorem put_defers (a : Act) (d : Option Tmp) (v : Value) : (a.put d v).defers = a.defers := by cases d <;> rfl

/-- Behind an operation. -/
theorem StI.op (hE : Env F fp L w0) {st : St} {a : Act} {w : World} (h : StI nt fr F fp w0 vs st a w) {G : Gh} (hs : Svs F G st.ow w.heap st.sl a.tmps.toList) (ho : ∀ b, Own G st.ow b → b ∈ fp ∨ w0.heap.size ≤ b)
    {G' : Gh} {ow' : OW} {w' : World} (ht : Tr F G st.ow w G' ow' w') {s : SV} {v : Value} (hv : Sv F G' ow' w'.heap s v) {d : Option Tmp} (hd : ∀ x, d = some x → fr x = true) : StI nt fr F fp w0 vs ⟨setSl st.sl d s, ow'⟩ (a.put d v) w' := by
  refine ⟨⟨G', put_svs ⟨hs.1, fun i h1 h2 => ht.sv _ _ (hs.2 i h1 h2)⟩ hv d, ht.hrep, fun b hb => ?_⟩, h.kept.trans ht.kept ho, by rw [put_defers]; exact h.defers, put_args h.args hd, by rw [put_size]; exact h.size⟩
  rcases ht.own b hb with h1 | h1
  · exact ho b h1
  · exact .inr (Nat.le_trans h.kept.size h1)

theorem StI.slot {st : St} {a : Act} {w : World} (h : StI nt fr F fp w0 vs st a w) {s : SV} {v : Value} (hv : ∀ G, Sv F G st.ow w.heap s v) {d : Option Tmp} (hd : ∀ x, d = some x → fr x = true) : StI nt fr F fp w0 vs ⟨setSl st.sl d s, st.ow⟩ (a.put d v) w := by
  obtain ⟨G, h1, h2, h3⟩ := h.ex
  exact ⟨⟨G, put_svs h1 (hv G) d, h2, h3⟩, h.kept, by rw [put_defers]; exact h.defers, put_args h.args hd, by rw [put_size]; exact h.size⟩

theorem sv_undef {G : Gh} {ow : OW} {h : Array Obj} : Sv F G ow h (.tup []) undef := .tup (l := []) (vs := []) rfl (fun i h => by simp at h)

theorem wants_sound {G : Gh} {ow : OW} {w : World} {sl : List SV} {a : Act} (hs : Svs F G ow w.heap sl a.tmps.toList) {ops : Array Oper} {o : Oper} {b : Bool} (h : wants ops o sl = some b) : Region.wanted o (yielded ops a.tmps) = b := by
  unfold wants at h
  unfold Region.wanted
  split at h
  · rename_i hg
    rw [hg]
    exact Option.some.inj h
  · rename_i j want hg
    rw [hg]
    simp only
    unfold yielded
    split at h
    · rename_i hd
      cases h
      rw [hd]; rfl
    · rename_i g hd
      rw [hd]
      simp only [Option.bind_some]
      split at h
      · rename_i t hsl
        cases h
        obtain ⟨hlt, e⟩ := List.getElem?_eq_some_iff.1 hsl
        have hlt2 : g < a.tmps.toList.length := by rw [← hs.1]; exact hlt
        have := hs.2 g hlt hlt2
        rw [e] at this
        have hv := this.lb_inv
        have : a.tmps[g]? = some (.bool t) := by rw [← hv]; simp [show g < a.tmps.size by simpa using hlt2]
        rw [this]
        cases t <;> cases want <;> rfl
      · rename_i hsl
        cases h
        obtain ⟨hlt, e⟩ := List.getElem?_eq_some_iff.1 hsl
        have hlt2 : g < a.tmps.toList.length := by rw [← hs.1]; exact hlt
        have := hs.2 g hlt hlt2
        rw [e] at this
        obtain ⟨us, hv, hus⟩ := this.tup_inv
        have : us = [] := List.eq_nil_of_length_eq_zero hus.1.symm
        subst this
        have : a.tmps[g]? = some (.tuple #[]) := by rw [← hv]; simp [show g < a.tmps.size by simpa using hlt2]
        rw [this]
        cases want <;> rfl
      · cases h

theorem split_sound {α : Type} {n : Nat} {G : Gh} {ow : OW} {w : World} {src : Bool} {s : SV} {v : Value} (hv : Sv F G ow w.heap s v) {k : SV → Option α} {r : α} (h : split n src s k = some r) : ∃ s', k s' = some r ∧ Sv F G ow w.heap s' v := by
  unfold split at h
  split at h
  · split at h
    · rename_i b
      rw [hv.bool_inv]
      rw [br_eq] at h
      cases b
      · exact ⟨_, h, .lb _⟩
      · exact ⟨_, h, .lb _⟩
    · exact ⟨_, h, hv⟩
  · exact ⟨_, h, hv⟩

theorem evOps_sound {α : Type} (hC : C.Holds L) (hE : Env F fp L w0) {ops : Array Oper} {Q : Exit → Act → World → Prop} {k : St → Option α} {r : α}
    (hk : ∀ st' a' w', k st' = some r → StI nt fr F fp w0 vs st' a' w' → Q .normal a' w') :
    (l : List (Oper × Nat)) → (∀ p ∈ l, ops[p.2]? = some p.1 ∧ ∀ d, p.1.dst = some d → fr d = true) → {st : St} → {a : Act} → {w : World} → StI nt fr F fp w0 vs st a w → evOps C ops l st k = some r → wpOps C.P ops Q (l.map (·.2)) a w
  | [], _, st, a, w, h, e => hk _ _ _ e h
  | (o, i) :: l, hl, st, a, w, h, e => by
    obtain ⟨ho, hd⟩ := hl (o, i) (by simp)
    have hl' : ∀ p ∈ l, ops[p.2]? = some p.1 ∧ ∀ d, p.1.dst = some d → fr d = true := fun p hp => hl p (by simp [hp])
    obtain ⟨G, hs, hh, hown⟩ := h.ex
    unfold evOps at e
    simp only [List.map_cons, wpOps]
    rw [ho]
    simp only
    split at e
    · cases e
    · rename_i hw
      rw [wants_sound hs hw]
      exact evOps_sound hC hE hk l hl' (h.slot (fun _ => sv_undef) hd) e
    · rename_i hw
      rw [wants_sound hs hw]
      simp only [if_true]
      left
      have hcan := Cmd.can_of_run _ e
      have hop := evOp_sound hC rfl hh (hE.wideAt h.kept) (hE.laidAt h.kept hown) (opd_rho hs) hcan
      refine OpR.wp ?_
      have conv : ∀ v w', (∃ s ow' G', (split C.fuel (isSrc ops i) s fun s' => evOps C ops l ⟨setSl st.sl o.dst s', ow'⟩ k) = some r ∧ Tr F G st.ow w G' ow' w' ∧ Sv F G' ow' w'.heap s v) → wpOps C.P ops Q (l.map (·.2)) (a.put o.dst v) w' := by
        rintro v w' ⟨s, ow', G', hq, ht, hv⟩
        obtain ⟨s', hq, hv⟩ := split_sound hv hq
        exact evOps_sound hC hE hk l hl' (h.op hE hs hown ht hv hd) hq
      rcases hop with ⟨v, w', h1, h2⟩ | ⟨w', h1, h2⟩ | ⟨f, args, h1, h2⟩
      · exact .inl ⟨v, w', h1, conv v w' h2⟩
      · exact .inr (.inl ⟨w', h1, conv undef w' h2⟩)
      · exact .inr (.inr ⟨f, args, h1, h2.mono fun e w' ⟨v, h3, h4⟩ => ⟨v, h3, conv v w' h4⟩⟩)

/-- Regions joined at their end: only slots change. -/
theorem evJs_sound {α : Type} (hC : C.Holds L) (hE : Env F fp L w0) {ops : Array Oper} {Q : Exit → Act → World → Prop} {ow : OW} {k : List SV → Option α} {r : α}
    {sl0 : List SV} {D : Nat → Prop}
    (hk : ∀ sl' a' w', k sl' = some r → StI nt fr F fp w0 vs ⟨sl', ow⟩ a' w' → (∀ d, ¬ D d → sl'[d]? = sl0[d]?) → Q .normal a' w') :
    (l : List (Oper × Nat)) → (∀ p ∈ l, ops[p.2]? = some p.1 ∧ ∀ d, p.1.dst = some d → fr d = true ∧ D d) → {sl : List SV} → {a : Act} → {w : World} → StI nt fr F fp w0 vs ⟨sl, ow⟩ a w → (∀ d, ¬ D d → sl[d]? = sl0[d]?) → evJs C ops ow l sl k = some r → wpOps C.P ops Q (l.map (·.2)) a w
  | [], _, sl, a, w, h, hag, e => hk _ _ _ e h hag
  | (o, i) :: l, hl, sl, a, w, h, hag, e => by
    obtain ⟨ho, hdD⟩ := hl (o, i) (by simp)
    have hd : ∀ d, o.dst = some d → fr d = true := fun d hx => (hdD d hx).1
    have hag' : ∀ s d, ¬ D d → (setSl sl o.dst s)[d]? = sl0[d]? := by
      intro s d hnd
      cases hx : o.dst with
      | none => exact hag d hnd
      | some x =>
        have : x ≠ d := fun e => hnd (e ▸ (hdD x hx).2)
        simp only [setSl]
        rw [List.getElem?_set_ne this]
        exact hag d hnd
    have hl' : ∀ p ∈ l, ops[p.2]? = some p.1 ∧ ∀ d, p.1.dst = some d → fr d = true ∧ D d := fun p hp => hl p (by simp [hp])
    obtain ⟨G, hs, hh, hown⟩ := h.ex
    unfold evJs at e
    simp only [List.map_cons, wpOps]
    rw [ho]
    simp only
    split at e
    · cases e
    · rename_i hw
      rw [wants_sound hs hw]
      exact evJs_sound hC hE hk l hl' (h.slot (fun _ => sv_undef) hd) (hag' _) e
    · rename_i hw
      rw [wants_sound hs hw]
      simp only [if_true]
      left
      have hcan := Cmd.can_of_run _ e
      have hop := evJ_sound hC rfl hh (hE.wideAt h.kept) (hE.laidAt h.kept hown) (opd_rho hs) hcan
      refine OpR.wp ?_
      have conv : ∀ v w', (∃ s, (split C.fuel (isSrc ops i) s fun s' => evJs C ops ow l (setSl sl o.dst s') k) = some r ∧ Tr F G ow w G ow w' ∧ Sv F G ow w'.heap s v) → wpOps C.P ops Q (l.map (·.2)) (a.put o.dst v) w' := by
        rintro v w' ⟨s, hq, ht, hv⟩
        obtain ⟨s', hq, hv⟩ := split_sound hv hq
        exact evJs_sound hC hE hk l hl' (h.op hE hs hown ht hv hd) (hag' _) hq
      rcases hop with ⟨v, w', h1, h2⟩ | ⟨w', h1, h2⟩ | ⟨f, args, h1, h2⟩
      · exact .inl ⟨v, w', h1, conv v w' h2⟩
      · exact .inr (.inl ⟨w', h1, conv undef w' h2⟩)
      · exact .inr (.inr ⟨f, args, h1, h2.mono fun e w' ⟨v, h3, h4⟩ => ⟨v, h3, conv v w' h4⟩⟩)

theorem region_list (ops : Array Oper) {fr : Nat → Bool} (h : (ops.toList.all fun o => match o.dst with | some d => fr d | none => true) = true) :
    (∀ p ∈ ops.toList.zipIdx, ops[p.2]? = some p.1 ∧ ∀ d, p.1.dst = some d → fr d = true) ∧ ops.toList.zipIdx.map (·.2) = List.range ops.size := by
  refine ⟨fun p hp => ?_, by simp [List.range_eq_range']⟩
  have h1 := List.mem_zipIdx' hp
  refine ⟨by have := h1.2; rw [this]; simp [show p.2 < ops.size by simpa using h1.1], fun d hd => ?_⟩
  have h2 := List.all_eq_true.1 h p.1 (by rw [h1.2]; exact List.getElem_mem _)
  rw [hd] at h2
  simpa using h2

end
end Go.Pev
