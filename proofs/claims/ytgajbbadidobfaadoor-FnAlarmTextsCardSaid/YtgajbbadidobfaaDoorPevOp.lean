/-
  PEV, part 18: every operation.
-/
import Derived.Test.YtgajbbadidobfaaDoorPevCall2
namespace Go.Pev

section
variable {F : Nat → Prop} {G : Gh} {ow : OW} {w : World} {P : Program} {L : List (Nat × Obj)}

/-- What a call comes to. -/
def CallR (P : Program) (F : Nat → Prop) (G : Gh) (ow : OW) (w : World) (f : FuncId) (vs : List Value) (Q : SV × OW → Prop) : Prop :=
  Calls P f vs.toArray w fun e w' => ∃ s ow' v G', e = .returned v ∧ Q (s, ow') ∧ Tr F G ow w G' ow' w' ∧ Sv F G' ow' w'.heap s v

theorem evSig_sound {f : FuncId} {sg : Sig} (hs : SigHolds P L f sg) (hh : HRep F G ow w.heap) (hF : ∀ b, F b → b < w.heap.size) (hL : Laid L (Own G ow) w.heap) {args : List SV} {vs : List Value} (ha : Svs F G ow w.heap args vs) {d : Nat} {c : Cmd (SV × OW)}
    (he : evSig sg args ow d = some c) {Q : SV × OW → Prop} (h : c.can Q) : CallR P F G ow w f vs Q := by
  unfold evSig at he
  split at he
  · cases he
  rename_i p hp
  cases he
  obtain ⟨y, hy, h⟩ := h
  dsimp only at h
  split at h
  · rename_i q hq
    split at h
    · rename_i ow' hn
      obtain ⟨fp, hT, hO, hnd, hrep⟩ := pk_sound sg.args (x := p.1) (ow1 := p.2) hF hh ha hp
      have hlt : ∀ b ∈ fp, b < w.heap.size := fun b hb => Own.lt hh (hO.own hb)
      refine (hs.2 w (fun b => F b ∨ Own G p.2 b) p.1 vs fp y ?_ (fun q hq => ⟨fun hm => (hL q hq).1 (hO.own hm), (hL q hq).2⟩) hnd ?_ ?_ hy).mono fun e w' ⟨rs, fp1, fp2, h1, h2, h3, h4, h5, h6⟩ => ?_
      · intro b hb
        rcases hb with hb | hb
        · exact hF b hb
        · exact Own.lt hh (hT.own hb)
      · intro b hb hx
        rcases hx with hx | hx
        · exact hh.notF b (hO.own hb) hx
        · exact hO.notOwn hh hT hb hx
      · refine ShR.mono (fun b r hb hr => ⟨fun hx => ?_, hr⟩) _ (fun _ _ => rfl) hrep
        rcases hx with (hx | hx) | hx
        · exact hb.1 (.inl hx)
        · exact hb.2 hx
        · exact hb.1 (.inr hx)
      · -- the state behind the call
        have fin : ∀ (owb : OW) (okR : Nat → Prop), Taken ow owb → FpOk G ow owb fp → ShR w'.heap okR sg.res y.1 rs fp1 → OutR w'.heap okR sg.args y.2 vs fp2 →
            (∀ b r, okR b → rowCells w'.heap b = some r → ¬ F b ∧ ¬ Own G owb b ∧ b ∉ fp1 ++ fp2) → unOut d ow sg.args args y.2 (owb, (unpk d sg.res y.1 0).2) = some q →
            ∃ s ow' v G', e = .returned v ∧ Q (s, ow') ∧ Tr F G ow w G' ow' w' ∧ Sv F G' ow' w'.heap s v := by
          intro owb okR hTb hOb hr hou hok hu
          obtain ⟨ps1, l1, f1, r1⟩ := unpk_rep sg.res hr d 0
          obtain ⟨puts, ps2, new, hP⟩ := unOut_rep (F := F) hh h6.cells d sg.args ha hou (st := (owb, (unpk d sg.res y.1 0).2)) (fun d' j' hx => hTb.ne hx) hu
          obtain ⟨G', hTr, hsv⟩ := call_state hh hF hTb hOb h6 h4 h5 hP l1 (by rw [← f1]; rfl) hn hok (l := (unpk d sg.res y.1 0).1) (vs := rs) r1
          exact ⟨_, _, _, G', h1, h, hTr, pad_ret hsv⟩
        cases hfr : sg.res.fresh && sg.args.freshOut with
        | true =>
          simp only [backOW, hfr, if_true] at hq
          simp only [Bool.and_eq_true] at hfr
          obtain ⟨t1, t2⟩ := thaw_taken hT
          exact fin (thaw ow p.2) (fun _ => False) t1 (fun b => (hO b).trans (t2 G b).symm) (ShR.any _ hfr.1 h2) (OutR.any _ hfr.2 h3) (fun b r hb => hb.elim) hq
        | false =>
          simp only [backOW, hfr, Bool.false_eq_true, if_false] at hq
          exact fin p.2 _ hT hO h2 h3 (fun b r hb _ => ⟨fun hx => hb (.inl (.inl hx)), fun hx => hb (.inl (.inr hx)), fun hx => hb (.inr hx)⟩) hq
    · exact h.elim
  · exact h.elim

theorem trySigs_sound {f : FuncId} : (sgs : List Sig) → (∀ sg ∈ sgs, SigHolds P L f sg) → HRep F G ow w.heap → (∀ b, F b → b < w.heap.size) → Laid L (Own G ow) w.heap → {args : List SV} → {vs : List Value} → Svs F G ow w.heap args vs → {d : Nat} →
    {Q : SV × OW → Prop} → (trySigs args ow d sgs).can Q → CallR P F G ow w f vs Q
  | [], _, _, _, _, _, _, _, _, _, h => h.elim
  | sg :: r, hs, hh, hF, hL, args, vs, ha, d, Q, h => by
    unfold trySigs at h
    split at h
    · rename_i c hc
      exact evSig_sound (hs sg (by simp)) hh hF hL ha hc h
    · exact trySigs_sound r (fun sg hsg => hs sg (by simp [hsg])) hh hF hL ha h

theorem isPurs_noOut {h : Array Obj} {ok : Nat → Prop} : (s : Sh) → isPurs s = true → {x : s.Out} → {vs : List Value} → {fp : List Nat} → OutR h ok s x vs fp → fp = []
  | .nil, _, _, _, _, e => e.2
  | .cons (.pur _) b, hs, _, _, _, e => by
    obtain ⟨v, r, f1, f2, rfl, rfl, e1, e2⟩ := e
    rw [e1.2, isPurs_noOut b (by simpa [isPurs] using hs) e2]; rfl
  | .cons (.own _) _, hs, _, _, _, _ => by simp [isPurs] at hs
  | .cons (.row _) _, hs, _, _, _, _ => by simp [isPurs] at hs
  | .cons (.box _) _, hs, _, _, _, _ => by simp [isPurs] at hs
  | .cons (.agg _) _, hs, _, _, _, _ => by simp [isPurs] at hs
  | .cons (.fn _ _ _) _, hs, _, _, _, _ => by simp [isPurs] at hs
  | .cons .ign _, hs, _, _, _, _ => by simp [isPurs] at hs
  | .cons .nl _, hs, _, _, _, _ => by simp [isPurs] at hs
  | .cons .nil _, hs, _, _, _, _ => by simp [isPurs] at hs
  | .cons (.cons _ _) _, hs, _, _, _, _ => by simp [isPurs] at hs
  | .pur _, hs, _, _, _, _ => by simp [isPurs] at hs
  | .own _, hs, _, _, _, _ => by simp [isPurs] at hs
  | .row _, hs, _, _, _, _ => by simp [isPurs] at hs
  | .box _, hs, _, _, _, _ => by simp [isPurs] at hs
  | .agg _, hs, _, _, _, _ => by simp [isPurs] at hs
  | .fn _ _ _, hs, _, _, _, _ => by simp [isPurs] at hs
  | .ign, hs, _, _, _, _ => by simp [isPurs] at hs
  | .nl, hs, _, _, _, _ => by simp [isPurs] at hs

theorem isPurs_fp {h : Array Obj} {ok : Nat → Prop} : (s : Sh) → isPurs s = true → {x : s.T} → {vs : List Value} → {fp : List Nat} → ShR h ok s x vs fp → fp = [] ∧ ∀ d j, (unpk d s x j).2 = []
  | .nil, _, _, _, _, e => ⟨e.2, fun _ _ => rfl⟩
  | .cons (.pur _) b, hs, x, _, _, e => by
    obtain ⟨v, r, f1, f2, rfl, rfl, ⟨_, _, e1, _⟩, e2⟩ := e
    obtain ⟨h1, h2⟩ := isPurs_fp b (by simpa [isPurs] using hs) e2
    refine ⟨by rw [e1, h1]; rfl, fun d j => ?_⟩
    show [] ++ (unpk d b x.2 (j + 0)).2 = []
    rw [h2]; rfl
  | .cons (.own _) _, hs, _, _, _, _ => by simp [isPurs] at hs
  | .cons (.row _) _, hs, _, _, _, _ => by simp [isPurs] at hs
  | .cons (.box _) _, hs, _, _, _, _ => by simp [isPurs] at hs
  | .cons (.agg _) _, hs, _, _, _, _ => by simp [isPurs] at hs
  | .cons (.fn _ _ _) _, hs, _, _, _, _ => by simp [isPurs] at hs
  | .cons .ign _, hs, _, _, _, _ => by simp [isPurs] at hs
  | .cons .nl _, hs, _, _, _, _ => by simp [isPurs] at hs
  | .cons .nil _, hs, _, _, _, _ => by simp [isPurs] at hs
  | .cons (.cons _ _) _, hs, _, _, _, _ => by simp [isPurs] at hs
  | .pur _, hs, _, _, _, _ => by simp [isPurs] at hs
  | .own _, hs, _, _, _, _ => by simp [isPurs] at hs
  | .row _, hs, _, _, _, _ => by simp [isPurs] at hs
  | .box _, hs, _, _, _, _ => by simp [isPurs] at hs
  | .agg _, hs, _, _, _, _ => by simp [isPurs] at hs
  | .fn _ _ _, hs, _, _, _, _ => by simp [isPurs] at hs
  | .ign, hs, _, _, _, _ => by simp [isPurs] at hs
  | .nl, hs, _, _, _, _ => by simp [isPurs] at hs

/-- What a call that only reads comes to. -/
def CallJ (P : Program) (F : Nat → Prop) (G : Gh) (ow : OW) (w : World) (f : FuncId) (vs : List Value) (Q : SV → Prop) : Prop :=
  Calls P f vs.toArray w fun e w' => ∃ s v, e = .returned v ∧ Q s ∧ Tr F G ow w G ow w' ∧ Sv F G ow w'.heap s v

theorem tr_world (hh : HRep F G ow w.heap) (hF : ∀ b, F b → b < w.heap.size) {w' : World} (hK : Kept (fun _ => False) w w') : Tr F G ow w G ow w' := by
  have hK' : Kept (Own G ow) w w' := ⟨hK.size, fun b hb _ => hK.heap b hb (fun h => h), hK.cells, hK.os, hK.output, hK.tape⟩
  exact tr_of hh hF (fun _ _ _ => rfl) (fun _ _ => .refl _) hK' (fun b hb => .inl hb)
    (fun b r _ hr => ⟨r, by unfold rowCells; rw [hK.heap b (rowCells_lt hr) (fun h => h)]; exact hr, rfl⟩)
    (fun d j o hn => .inl ⟨hn, fun hi b c hg => hK.heap b (Own.lt hh (own_iff.2 ⟨d, j, c, by rw [hn]; exact hi, hg⟩)) (fun h => h)⟩) hh.apart rfl

theorem callRO_sound {f : FuncId} : (sgs : List Sig) → (∀ sg ∈ sgs, SigHolds P L f sg) → HRep F G ow w.heap → (∀ b, F b → b < w.heap.size) → Laid L (Own G ow) w.heap → {args : List SV} → {vs : List Value} → Svs F G ow w.heap args vs →
    {Q : SV → Prop} → (callRO args ow sgs).can Q → CallJ P F G ow w f vs Q
  | [], _, _, _, _, _, _, _, _, h => h.elim
  | sg :: r, hs, hh, hF, hL, args, vs, ha, Q, h => by
    unfold callRO at h
    split at h
    · rename_i hc
      simp only [Bool.and_eq_true] at hc
      split at h
      · rename_i p hp
        obtain ⟨y, hy, h⟩ := h
        obtain ⟨fp, hT, hO, hnd, hrep⟩ := pk_sound sg.args (x := p.1) (ow1 := p.2) hF hh ha hp
        obtain ⟨rfl, _⟩ := isPurs_fp _ hc.1.1 hrep
        refine ((hs sg (by simp)).2 w (fun b => F b ∨ Own G p.2 b) p.1 vs [] y ?_ (fun q hq => ⟨fun hm => by simp at hm, (hL q hq).2⟩) hnd (fun b hb => by simp at hb) ?_ hy).mono fun e w' ⟨rs, fp1, fp2, h1, h2, h3, h4, h5, h6⟩ => ?_
        · intro b hb
          rcases hb with hb | hb
          · exact hF b hb
          · exact Own.lt hh (hT.own hb)
        · refine ShR.mono (fun b r hb hr => ⟨fun hx => ?_, hr⟩) _ (fun _ _ => rfl) hrep
          rcases hx with (hx | hx) | hx
          · exact hb.1 (.inl hx)
          · exact hb.2 hx
          · exact hb.1 (.inr hx)
        · obtain ⟨rfl, hun⟩ := isPurs_fp _ hc.1.2 h2
          have hK : Kept (fun _ => False) w w' := ⟨h6.size, fun b hb _ => h6.heap b hb (by simp), h6.cells, h6.os, h6.output, h6.tape⟩
          have hTr := tr_world hh hF hK
          obtain ⟨ps, l1, f1, r1⟩ := unpk_rep sg.res (ShR.any (ok' := okF F G ow) _ hc.2 h2) 0 0
          obtain ⟨r2, _⟩ := r1 G ow (fun i o hi => by rw [hun] at hi; simp at hi)
          exact ⟨_, _, h1, h, hTr, pad_ret r2⟩
      · exact callRO_sound r (fun sg hsg => hs sg (by simp [hsg])) hh hF hL ha h
    · exact callRO_sound r (fun sg hsg => hs sg (by simp [hsg])) hh hF hL ha h

/-! ### Operations -/

/-- What an operation comes to. -/
def OpR (P : Program) (op : Oper) (ρv : Operand → Value) (w : World) (R : Value → World → Prop) : Prop :=
  (∃ v w', (execOp ρv op).run P w = .ok (.value v) w' ∧ R v w') ∨ (∃ w', (execOp ρv op).run P w = .ok .skip w' ∧ R undef w') ∨
  ∃ f args, (execOp ρv op).run P w = .ok (.enter f args) w ∧ Calls P f args w fun e w' => ∃ v, e = .returned v ∧ R v w'

theorem OpR.wp {op : Oper} {a : Act} {next : Act → World → Prop} {Qx : Exit → Act → World → Prop} (h : OpR P op a.eval w fun v w' => next (a.put op.dst v) w') : op.wp P a w next Qx := by
  unfold Oper.wp
  rcases h with ⟨v, w', hr, h⟩ | ⟨w', hr, h⟩ | ⟨f, args, hr, h⟩
  · rw [hr]; exact h
  · rw [hr]; exact h
  · rw [hr]
    exact h.mono fun e w' ⟨v, he, h⟩ => by rw [he]; exact h

theorem run_call_value {op : Oper} {c : Call} {fo : Operand} (ho : op.op = .call c) (hc : c.callee = .value fo) {ρv : Operand → Value} {id : FuncId} {xs ys : List Value} (hv : ρv fo = .func (.func id) xs.toArray ys.toArray)
    (hf : ∃ fn, P.funcs[id]? = some fn ∧ (fn.name == "runtime.NumGoroutine") = false ∧ fn.body.isNone = false) :
    (execOp ρv op).run P w = .ok (.enter id (xs ++ c.args.toList.map ρv ++ ys).toArray) w := by
  obtain ⟨fn, h1, h2, h3⟩ := hf
  have e : xs.toArray ++ c.args.map ρv ++ ys.toArray = (xs ++ c.args.toList.map ρv ++ ys).toArray := by apply Array.ext'; simp
  simp only [execOp, ho, resolve, hc, hv, Deferred.ofValue, Sem.run_bind, Sem.run_pure, Result.andThen_ok, invoke, callFunc, run_program, h1, h2, h3, Bool.false_eq_true, if_false]
  rw [e]

end

section
variable {F : Nat → Prop} {G : Gh} {ow : OW} {w : World} {L : List (Nat × Obj)} {C : Ctx}

/-- All the contracts hold. -/
def Ctx.Holds (C : Ctx) (L : List (Nat × Obj)) : Prop := ∀ f, ∀ sg ∈ C.sigsOf f, SigHolds C.P L f sg

theorem evJ_sound (hC : C.Holds L) {o : Op} {op : Oper} (ho : op.op = o) {ρ : Operand → SV} {ρv : Operand → Value} (hh : HRep F G ow w.heap) (hF : ∀ b, F b → b < w.heap.size) (hL : Laid L (Own G ow) w.heap) (hρ : Rho F G ow w.heap ρ ρv) {Q : SV → Prop} (h : (evJ C o ρ ow).can Q) :
    OpR C.P op ρv w fun v w' => ∃ s, Q s ∧ Tr F G ow w G ow w' ∧ Sv F G ow w'.heap s v := by
  unfold evJ at h
  split at h
  · rename_i fo args _
    split at h
    · rename_i id a b hf
      have hv := hρ fo
      rw [hf] at hv
      obtain ⟨xs, ys, hv, hx, hy⟩ := hv.fn_inv
      have hargs : Svs F G ow w.heap (a ++ args.toList.map ρ ++ b) (xs ++ args.toList.map ρv ++ ys) := (hx.append (hρ.svs _)).append hy
      cases hsg : C.sigsOf id with
      | nil => rw [hsg] at h; exact h.elim
      | cons sg0 r0 =>
        have h0 := (hC id sg0 (by rw [hsg]; simp)).1
        have := callRO_sound (C.sigsOf id) (hC id) hh hF hL hargs h
        exact .inr (.inr ⟨id, _, run_call_value ho rfl hv h0, this.mono fun e w' ⟨s, v, h1, h2, h3, h4⟩ => ⟨v, h1, s, h2, h3, h4⟩⟩)
    · exact h.elim
  · obtain ⟨s, v, hq, hr, hs⟩ := evRO_sound (P := C.P) ho hh hρ h
    exact .inl ⟨v, w, hr, s, hq, .refl hh, hs⟩

theorem OpR.res {P : Program} {op : Oper} {ρv : Operand → Value} {Q : SV × OW → Prop} {c : Sem Value} (hc : Res P F G ow w Q c) (he : (execOp ρv op).run P w = (do pure (Next.value (← c)) : Sem Next).run P w) :
    OpR P op ρv w fun v w' => ∃ s ow' G', Q (s, ow') ∧ Tr F G ow w G' ow' w' ∧ Sv F G' ow' w'.heap s v := by
  obtain ⟨s, ow', v, w', G', hq, hr, ht, hs⟩ := hc
  refine .inl ⟨v, w', ?_, s, ow', G', hq, ht, hs⟩
  rw [he, Sem.run_bind, hr]; rfl

theorem evOp_sound (hC : C.Holds L) {o : Op} {op : Oper} (ho : op.op = o) {ρ : Operand → SV} {ρv : Operand → Value} (hh : HRep F G ow w.heap) (hF : ∀ b, F b → b < w.heap.size) (hL : Laid L (Own G ow) w.heap) (hρ : Rho F G ow w.heap ρ ρv) {d : Nat} {Q : SV × OW → Prop} (h : (evOp C o ρ ow d).can Q) :
    OpR C.P op ρv w fun v w' => ∃ s ow' G', Q (s, ow') ∧ Tr F G ow w G' ow' w' ∧ Sv F G' ow' w'.heap s v := by
  unfold evOp at h
  split at h
  · split at h
    · rename_i cells hz
      split at h
      · rename_i ow' hn
        exact OpR.res (evAlloc_sound (P := C.P) hh hF hz hn h) (by simp only [execOp, ho])
      · exact h.elim
    · exact h.elim
  · split at h
    · rename_i cells hz
      split at h
      · rename_i ow' hn
        exact OpR.res (evBox_sound (P := C.P) hh hF (hρ _) hz hn h) (by simp only [execOp, ho])
      · exact h.elim
    · exact h.elim
  · rename_i t n parts
    refine OpR.res (evBuildSlice_sound (P := C.P) (vps := parts.toList.map fun x => (x.1, ρv x.2)) hh hF (by simp) (by simp only [List.map_map]; exact (by simpa [Function.comp_def] using hρ.svs (parts.toList.map (·.2)))) h) ?_
    simp only [execOp, ho]
    congr 4
    apply Array.ext'
    simp
  · have h := Cmd.can_bind _ h
    obtain ⟨ow', w', hq, hr, ht⟩ := evStore_sound (P := C.P) hh hF (hρ _) (hρ _) h
    refine .inr (.inl ⟨w', ?_, _, ow', G, hq, ht, .tup (l := []) (vs := []) rfl (fun i h => by simp at h)⟩)
    simp only [execOp, ho, Sem.run_bind, hr, Result.andThen_ok, Sem.run_pure]
  · exact OpR.res (evMakeSlice_sound (P := C.P) hh hF (hρ _) (hρ _) h) (by simp only [execOp, ho])
  · rename_i args ats
    split at h
    · rename_i s x t tx ha ht
      split at h
      · rename_i htx
        refine OpR.res (evAppend_sound (P := C.P) (ty := op.type) hh hF (hρ s) (hρ x) htx h) ?_
        have e1 : args.map ρv = #[ρv s, ρv x] := by apply Array.ext'; simp [ha]
        have e2 : ats = #[t, tx] := by apply Array.ext'; simp [ht]
        simp only [execOp, ho, resolve, Sem.run_bind, Sem.run_pure, Result.andThen_ok, invoke, builtin, e1, e2]
      · exact h.elim
    · exact h.elim
  · rename_i fo args _
    split at h
    · rename_i id a b hf
      have hv := hρ fo
      rw [hf] at hv
      obtain ⟨xs, ys, hv, hx, hy⟩ := hv.fn_inv
      have hargs : Svs F G ow w.heap (a ++ args.toList.map ρ ++ b) (xs ++ args.toList.map ρv ++ ys) := (hx.append (hρ.svs _)).append hy
      cases hsg : C.sigsOf id with
      | nil => rw [hsg] at h; exact h.elim
      | cons sg0 r0 =>
        have h0 := (hC id sg0 (by rw [hsg]; simp)).1
        have := trySigs_sound (C.sigsOf id) (hC id) hh hF hL hargs h
        exact .inr (.inr ⟨id, _, run_call_value ho rfl hv h0, this.mono fun e w' ⟨s, ow', v, G', h1, h2, h3, h4⟩ => ⟨v, h1, s, ow', G', h2, h3, h4⟩⟩)
    · exact h.elim
  · have h := Cmd.can_bind _ h
    obtain ⟨s, v, hq, hr, hs⟩ := evRO_sound (P := C.P) ho hh hρ h
    exact .inl ⟨v, w, hr, s, ow, G, hq, .refl hh, hs⟩

end
end Go.Pev
