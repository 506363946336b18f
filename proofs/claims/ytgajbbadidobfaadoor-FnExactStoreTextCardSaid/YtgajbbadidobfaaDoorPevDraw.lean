/-
  PEV, part 23: regions whose order is drawn.
-/
import Derived.Test.YtgajbbadidobfaaDoorPevCode3
import Derived.Test.YtgajbbadidobfaaDoorPevAny
import Derived.Test.YtgajbbadidobfaaDoorPevMask
namespace Go.Pev

def Cmd.out {β : Type} : Cmd β → Option β
  | .ret b => some b
  | .fail => none
  | .chk c t => if c then t.out else none
  | .bnd _ m f => m.bind fun y => (f y).out
  | .amb _ _ _ => none

theorem Cmd.runA_out {α β : Type} {n : Nat} {k : β → Option α} {r : α} : (c : Cmd β) → c.runA n k = some r → ∃ b, c.out = some b ∧ k b = some r
  | .ret b, h => ⟨b, rfl, h⟩
  | .fail, h => by cases h
  | .chk c t, h => by
    rw [Cmd.runA, br_eq] at h
    cases c with
    | false => cases h
    | true => exact Cmd.runA_out t h
  | .bnd _ m f, h => by
    rw [Cmd.runA, bd_eq] at h
    cases m with
    | none => cases h
    | some y => exact Cmd.runA_out (f y) h
  | .amb _ _ _, h => by cases h

theorem Cmd.out_can {β : Type} {b : β} : (c : Cmd β) → c.out = some b → c.can fun x => x = b
  | .ret _, h => Option.some.inj h
  | .fail, h => by cases h
  | .chk c t, h => by
    cases c with
    | false => cases h
    | true => exact ⟨rfl, Cmd.out_can t h⟩
  | .bnd _ m f, h => by
    cases m with
    | none => cases h
    | some y => exact ⟨y, rfl, Cmd.out_can (f y) h⟩
  | .amb _ _ _, h => by cases h

/-- A truth as it is known. -/
def splitS (src : Bool) (s : SV) : SV := if src then (match s with | .v .bool b => .lb b | s => s) else s

theorem split_eq {α : Type} {n : Nat} {src : Bool} {s : SV} {k : SV → Option α} : split n src s k = k (splitS src s) := by
  unfold split splitS
  cases src with
  | false => rfl
  | true =>
    simp only [if_true]
    split
    · rename_i b; rw [br_eq]; cases b <;> rfl
    · rename_i h
      split
      · rename_i b; exact absurd rfl (h b)
      · rfl

theorem evRO_congr {P : Program} {o : Op} {ρ ρ' : Operand → SV} {ow : OW} (h : ∀ x ∈ o.operands, ρ x = ρ' x) : evRO P o ρ ow = evRO P o ρ' ow := by
  cases o with
  | call c =>
    have ha : ∀ x ∈ c.args, ρ x = ρ' x := fun x hx => h x (by simp [Op.operands, Call.operands, hx])
    have hargs : c.args.toList.map ρ = c.args.toList.map ρ' := List.map_congr_left fun x hx => ha x (by simpa using hx)
    simp only [evRO, hargs]
    split
    · split
      · rename_i x t ts hx ht
        rw [ha x (by rw [← Array.mem_toList_iff, hx]; simp)]
      · rfl
    · rfl
    · rfl
    · rfl
  | build t ps =>
    have : (ps.toList.map fun x => (x.1, ρ x.2)) = ps.toList.map fun x => (x.1, ρ' x.2) := List.map_congr_left fun p hp => by
      rw [h p.2 (by simp only [Op.operands, List.mem_toArray, List.mem_map]; exact ⟨p, hp, rfl⟩)]
    simp only [evRO, this]
  | makeFunc f a b =>
    have h1 : a.toList.map ρ = a.toList.map ρ' := List.map_congr_left fun x hx => h x (by simp only [Op.operands, Array.mem_append]; exact .inl (by simpa using hx))
    have h2 : b.toList.map ρ = b.toList.map ρ' := List.map_congr_left fun x hx => h x (by simp only [Op.operands, Array.mem_append]; exact .inr (by simpa using hx))
    simp only [evRO, h1, h2]
  | slice t x lo hi mx =>
    cases lo <;> cases hi <;> cases mx <;> simp_all [evRO, Op.operands]
  | typeAssert x a b c => cases c <;> simp_all [evRO, Op.operands]
  | _ => first | rfl | (simp_all [evRO, Op.operands]; done)

theorem evJ_congr {C : Ctx} {o : Op} {ρ ρ' : Operand → SV} {ow : OW} (h : ∀ x ∈ o.operands, ρ x = ρ' x) : evJ C o ρ ow = evJ C o ρ' ow := by
  unfold evJ
  split
  · rename_i f args ats
    have h1 : ρ f = ρ' f := h f (by simp [Op.operands, Call.operands])
    have h2 : args.toList.map ρ = args.toList.map ρ' := List.map_congr_left fun x hx => h x (by simp only [Op.operands, Call.operands, Array.mem_append]; exact .inr (by simpa using hx))
    rw [h1, h2]
  · exact evRO_congr h

/-- What an operation gives. -/
def resJ (C : Ctx) (ops : Array Oper) (ow : OW) (o : Oper) (i : Nat) (sl : List SV) : Option SV :=
  match wants ops o sl with
  | none => none
  | some false => some (.tup [])
  | some true => (evJ C o.op (opd sl) ow).out.map (splitS (isSrc ops i))

def stepJ (C : Ctx) (ops : Array Oper) (ow : OW) (i : Nat) (sl : List SV) : Option (List SV) :=
  match ops[i]? with
  | some o => (resJ C ops ow o i sl).map (setSl sl o.dst)
  | none => none

theorem resJ_congr {C : Ctx} {ops : Array Oper} {ow : OW} {o : Oper} {i : Nat} {sl sl' : List SV} (h : ∀ d ∈ looks ops o, sl[d]? = sl'[d]?) : resJ C ops ow o i sl = resJ C ops ow o i sl' := by
  have h1 : wants ops o sl = wants ops o sl' := by
    unfold wants
    cases hg : o.guard with
    | none => rfl
    | some g =>
      obtain ⟨j, want⟩ := g
      simp only
      cases hd : (ops[j]?).bind (·.dst) with
      | none => rfl
      | some d =>
        simp only
        rw [h d (by simp [looks, hg, hd])]
  have h2 : evJ C o.op (opd sl) ow = evJ C o.op (opd sl') ow := evJ_congr fun x hx => by
    cases x with
    | tmp t =>
      have := h t (by
        simp only [looks, List.mem_append]
        exact .inl (List.mem_filterMap.2 ⟨.tmp t, by simpa using hx, rfl⟩))
      simp only [opd, this]
    | const v => rfl
    | global g => rfl
    | func f => rfl
  unfold resJ
  rw [h1, h2]

theorem setSl_get {sl : List SV} {d : Option Tmp} {s : SV} {x : Nat} (h : d ≠ some x) : (setSl sl d s)[x]? = sl[x]? := by
  cases d with
  | none => rfl
  | some d => exact List.getElem?_set_ne (fun e => h (by rw [e]))

theorem setSl_comm {sl : List SV} {d d' : Option Tmp} {s s' : SV} (h : ∀ x, d = some x → d' ≠ some x) : setSl (setSl sl d s) d' s' = setSl (setSl sl d' s') d s := by
  cases d with
  | none => rfl
  | some d =>
    cases d' with
    | none => rfl
    | some d' => exact List.set_comm _ _ (fun e => h d rfl (by rw [e]))

theorem stepJ_swap {C : Ctx} {ops : Array Oper} {ow : OW} (i j : Nat) (s s1 s2 : List SV) (ha : apartSAt ops i j = true) (h1 : stepJ C ops ow i s = some s1) (h2 : stepJ C ops ow j s1 = some s2) : ∃ s1', stepJ C ops ow j s = some s1' ∧ stepJ C ops ow i s1' = some s2 := by
  unfold apartSAt at ha
  unfold stepJ at h1 h2 ⊢
  cases hi : ops[i]? with
  | none => rw [hi] at h1; cases h1
  | some x =>
    cases hj : ops[j]? with
    | none => rw [hj] at h2; cases h2
    | some y =>
      rw [hi] at h1 ha
      rw [hj] at h2 ha
      simp only at h1 h2 ha ⊢
      unfold apartS at ha
      simp only [Bool.and_eq_true] at ha
      obtain ⟨a1, a2⟩ := ha
      have k1 : ∀ d, x.dst = some d → d ∉ looks ops y ∧ y.dst ≠ some d := by
        intro d hd
        rw [hd] at a1
        simpa using a1
      have k2 : ∀ d, y.dst = some d → d ∉ looks ops x := by
        intro d hd
        rw [hd] at a2
        simpa using a2
      rw [Option.map_eq_some_iff] at h1 h2
      obtain ⟨v, e1, rfl⟩ := h1
      obtain ⟨u, e2, rfl⟩ := h2
      have c1 : resJ C ops ow y j (setSl s x.dst v) = resJ C ops ow y j s := resJ_congr fun d hd => setSl_get fun e => (k1 d e).1 hd
      rw [c1] at e2
      have c2 : resJ C ops ow x i (setSl s y.dst u) = resJ C ops ow x i s := resJ_congr fun d hd => setSl_get fun e => k2 d e hd
      refine ⟨setSl s y.dst u, by rw [e2]; rfl, ?_⟩
      rw [c2, e1]
      simp only [Option.map_some]
      rw [setSl_comm fun d hd => (k1 d hd).2]

theorem evJsA_seq {α : Type} {C : Ctx} {ops : Array Oper} {ow : OW} {k : List SV → Option α} {r : α} : (l : List (Oper × Nat)) → (∀ p ∈ l, ops[p.2]? = some p.1) → {sl : List SV} → evJsA C ops ow l sl k = some r → ∃ slF, seqS (stepJ C ops ow) (l.map (·.2)) sl = some slF ∧ k slF = some r
  | [], _, sl, h => ⟨sl, rfl, h⟩
  | (o, i) :: l, hl, sl, h => by
    have ho := hl (o, i) (by simp)
    simp only at ho
    have hl' : ∀ p ∈ l, ops[p.2]? = some p.1 := fun p hp => hl p (by simp [hp])
    unfold evJsA at h
    simp only [List.map_cons, seqS]
    split at h
    · cases h
    · rename_i hw
      obtain ⟨slF, h1, h2⟩ := evJsA_seq l hl' h
      refine ⟨slF, ?_, h2⟩
      simp only [stepJ, ho, resJ, hw, Option.map_some]
      exact h1
    · rename_i hw
      obtain ⟨s, h1, h2⟩ := Cmd.runA_out _ h
      rw [split_eq] at h2
      obtain ⟨slF, h3, h4⟩ := evJsA_seq l hl' h2
      refine ⟨slF, ?_, h4⟩
      simp only [stepJ, ho, resJ, hw, h1, Option.map_some]
      exact h3

theorem drawSoundJ {C : Ctx} {L : List (Nat × Obj)} (hC : C.Holds L) (hm : C.P.follows .mixedOrders = true) : DrawSoundJ C L := by
  intro α nt fr F fp w0 vs id ops st a w k r hE hd h hok he Q hQ
  obtain ⟨hl, hr⟩ := region_list ops hd
  obtain ⟨slF, h1, h2⟩ := evJsA_seq _ (fun p hp => (hl p hp).1) he
  rw [hr] at h1
  have hD : ∀ (i : Nat) (o : Oper), ops[i]? = some o → ∀ d, o.dst = some d → fr d = true ∧ ∃ o ∈ ops.toList, o.dst = some d := by
    intro i o ho d hx
    have hmem : o ∈ ops.toList := by
      obtain ⟨hlt, rfl⟩ := Array.getElem?_eq_some_iff.1 ho
      simp
    refine ⟨?_, o, hmem, hx⟩
    have := List.all_eq_true.1 hd o hmem
    rw [hx] at this
    simpa using this
  let R : List SV → Act → World → Prop := fun sl a w => StI nt fr F fp w0 vs ⟨sl, st.ow⟩ a w ∧ ∀ d, ¬ (∃ o ∈ ops.toList, o.dst = some d) → sl[d]? = st.sl[d]?
  refine wp_region_any hm (any_of_seq (step := stepJ C ops st.ow) (R := R) (fun i j s s1 s2 => stepJ_swap i j s s1 s2) ?_ hok (sF := slF) (fun a' w' hR => hQ slF a' w' h2 hR.1 hR.2) ops.size _ st.sl a _ (by simp) ?_ ?_ ?_ ?_)
  · intro i sl sl' a w hi hs hR K hK
    obtain ⟨hI, hag⟩ := hR
    unfold stepJ at hs
    cases ho : ops[i]? with
    | none => rw [ho] at hs; cases hs
    | some o =>
      rw [ho] at hs
      simp only [Option.map_eq_some_iff] at hs
      obtain ⟨v, hv, rfl⟩ := hs
      have hdo := hD i o ho
      have hag' : ∀ d, ¬ (∃ o ∈ ops.toList, o.dst = some d) → (setSl sl o.dst v)[d]? = st.sl[d]? := fun d hn => by
        rw [setSl_get fun e => hn (hdo d e).2]
        exact hag d hn
      obtain ⟨G, g1, g2, g3⟩ := hI.ex
      unfold wpOp
      rw [ho]
      simp only
      unfold resJ at hv
      split at hv
      · cases hv
      · rename_i hw
        cases hv
        rw [wants_sound g1 hw]
        exact hK _ _ ⟨hI.slot (fun _ => sv_undef) (fun d hx => (hdo d hx).1), hag'⟩
      · rename_i hw
        rw [wants_sound g1 hw]
        simp only [if_true]
        left
        rw [Option.map_eq_some_iff] at hv
        obtain ⟨s, hs, rfl⟩ := hv
        have hop := evJ_sound hC (op := o) rfl g2 (hE.wideAt hI.kept) (hE.laidAt hI.kept g3) (opd_rho g1) (Cmd.out_can _ hs)
        refine OpR.wp ?_
        have conv : ∀ u w', (∃ s', s' = s ∧ Tr F G st.ow w G st.ow w' ∧ Sv F G st.ow w'.heap s' u) → K (a.put o.dst u) w' := by
          rintro u w' ⟨s', rfl, ht, hsv⟩
          obtain ⟨s2, e2, hsv2⟩ := split_sound (n := C.fuel) (src := isSrc ops i) hsv (k := fun z => some z) (r := splitS (isSrc ops i) s') (by rw [split_eq])
          cases e2
          exact hK _ _ ⟨hI.op hE g1 g3 ht hsv2 (fun d hx => (hdo d hx).1), hag'⟩
        rcases hop with ⟨u, w', q1, q2⟩ | ⟨w', q1, q2⟩ | ⟨f, args, q1, q2⟩
        · exact .inl ⟨u, w', q1, conv u w' q2⟩
        · exact .inr (.inl ⟨w', q1, conv undef w' q2⟩)
        · exact .inr (.inr ⟨f, args, q1, q2.mono fun e w' ⟨u, q3, q4⟩ => ⟨u, q3, conv u w' q4⟩⟩)
  · refine Nat.le_trans (List.length_filter_le _ _) (by simp)
  · intro j hj
    exfalso
    by_cases hlt : j < ops.size
    · simp [Array.getD, hlt] at hj
    · simp [Array.getD, hlt] at hj
  · have : ((List.range ops.size).filter fun i => !(Array.replicate ops.size false).getD i true) = List.range ops.size := by
      rw [List.filter_eq_self]
      intro i hi
      have := List.mem_range.1 hi
      simp [Array.getD, this]
    rw [this]
    exact h1
  · exact ⟨⟨h.ex, ⟨h.kept.size, h.kept.heap, h.kept.cells, h.kept.os, h.kept.output, h.kept.tape⟩, h.defers, h.args, h.size⟩, fun _ _ => rfl⟩

/-! ### Regions that turn something -/

def resM (C : Ctx) (ops : Array Oper) (q : List Nat × Bool) (o : Oper) (i : Nat) (sl : List SV) (ow : OW) : Option (SV × Option OW) :=
  match wants ops o sl with
  | none => none
  | some false => some (.tup [], none)
  | some true => if smallOW ow then (evM C o.op q (opd sl) (maskOW q.1 0 ow) (o.dst.getD 0)).out.map fun x => (splitS (isSrc ops i) x.1, x.2) else none

def stepM (C : Ctx) (ops : Array Oper) (ks : List (List Nat × Bool)) (i : Nat) (st : St) : Option St :=
  match ops[i]? with
  | some o =>
    (match wants ops o st.sl with
    | some false => some ⟨setSl st.sl o.dst (.tup []), st.ow⟩
    | _ =>
      (match ks[i]? with
      | some q => (resM C ops q o i st.sl st.ow).map fun x => ⟨setSl st.sl o.dst x.1, putM q.1 st.ow x.2⟩
      | none => none))
  | none => none

theorem wants_congr {ops : Array Oper} {o : Oper} {sl sl' : List SV} (h : ∀ d ∈ looks ops o, sl[d]? = sl'[d]?) : wants ops o sl = wants ops o sl' := by
  unfold wants
  cases hg : o.guard with
  | none => rfl
  | some g =>
    obtain ⟨j, want⟩ := g
    simp only
    cases hd : (ops[j]?).bind (·.dst) with
    | none => rfl
    | some d =>
      simp only
      rw [h d (by simp [looks, hg, hd])]

theorem opd_congr {ops : Array Oper} {o : Oper} {sl sl' : List SV} (h : ∀ d ∈ looks ops o, sl[d]? = sl'[d]?) : ∀ x ∈ o.op.operands, opd sl x = opd sl' x := fun x hx => by
  cases x with
  | tmp t =>
    have := h t (by
      simp only [looks, List.mem_append]
      exact .inl (List.mem_filterMap.2 ⟨.tmp t, by simpa using hx, rfl⟩))
    simp only [opd, this]
  | const v => rfl
  | global g => rfl
  | func f => rfl

theorem evOp_congr {C : Ctx} {o : Op} {ρ ρ' : Operand → SV} {ow : OW} {d : Nat} (h : ∀ x ∈ o.operands, ρ x = ρ' x) : evOp C o ρ ow d = evOp C o ρ' ow d := by
  unfold evOp
  split
  · rfl
  · rw [h _ (by simp [Op.operands])]
  · rename_i t n ps
    have : (ps.toList.map fun x => (x.1, ρ x.2)) = ps.toList.map fun x => (x.1, ρ' x.2) := List.map_congr_left fun p hp => by
      rw [h p.2 (by simp only [Op.operands, List.mem_toArray, List.mem_map]; exact ⟨p, hp, rfl⟩)]
    simp only [this]
  · rw [h _ (by simp [Op.operands]), h _ (by simp [Op.operands])]
  · rw [h _ (by simp [Op.operands]), h _ (by simp [Op.operands])]
  · rename_i args ats
    have ha : ∀ x ∈ args, ρ x = ρ' x := fun x hx => h x (by simp [Op.operands, Call.operands, hx])
    split
    · rename_i s x t tx h1 h2
      rw [ha s (by rw [← Array.mem_toList_iff, h1]; simp), ha x (by rw [← Array.mem_toList_iff, h1]; simp)]
    · rfl
  · rename_i f args ats
    have h1 : ρ f = ρ' f := h f (by simp [Op.operands, Call.operands])
    have h2 : args.toList.map ρ = args.toList.map ρ' := List.map_congr_left fun x hx => h x (by simp only [Op.operands, Call.operands, Array.mem_append]; exact .inr (by simpa using hx))
    rw [h1, h2]
  · rw [evRO_congr h]

theorem evM_congr {C : Ctx} {o : Op} {q : List Nat × Bool} {ρ ρ' : Operand → SV} {ow : OW} {d : Nat} (h : ∀ x ∈ o.operands, ρ x = ρ' x) : evM C o q ρ ow d = evM C o q ρ' ow d := by
  unfold evM
  rw [evOp_congr h, evJ_congr h]

theorem Cmd.out_bind {β γ : Type} {f : β → Cmd γ} {r : γ} : (c : Cmd β) → (c.bind f).out = some r → ∃ b, c.out = some b ∧ (f b).out = some r
  | .ret b, h => ⟨b, rfl, h⟩
  | .fail, h => by cases h
  | .chk c t, h => by
    cases c with
    | false => cases h
    | true => exact Cmd.out_bind t h
  | .bnd _ m g, h => by
    cases m with
    | none => cases h
    | some y => exact Cmd.out_bind (g y) h
  | .amb _ _ _, h => by cases h

theorem evM_put {C : Ctx} {o : Op} {q : List Nat × Bool} {ρ : Operand → SV} {ow : OW} {d : Nat} {s : SV} {r : Option OW} (h : (evM C o q ρ ow d).out = some (s, r)) :
    (q.2 = false → r = none) ∧ ∀ z, r = some z → okM q.1 z = true := by
  unfold evM at h
  split at h
  · rename_i hq
    obtain ⟨x, h1, h2⟩ := Cmd.out_bind _ h
    split at h2
    · rename_i hok
      simp only [Cmd.out, Option.some.injEq, Prod.mk.injEq] at h2
      simp only [Bool.and_eq_true] at hok
      refine ⟨fun hf => absurd (hq.symm.trans hf) (by simp), fun z hz => ?_⟩
      rw [← h2.2] at hz
      cases hz
      exact hok.1
    · cases h2
  · obtain ⟨x, h1, h2⟩ := Cmd.out_bind _ h
    split at h2
    · simp only [Cmd.out, Option.some.injEq, Prod.mk.injEq] at h2
      exact ⟨fun _ => h2.2.symm, fun z hz => by rw [← h2.2] at hz; cases hz⟩
    · cases h2

theorem putM_small {K : List Nat} {ow : OW} {r : Option OW} (hs : smallOW ow = true) (hr : ∀ z, r = some z → okM K z = true) : smallOW (putM K ow r) = true := by
  cases r with
  | none => exact hs
  | some z =>
    have := hr z rfl
    simp only [okM, Bool.and_eq_true] at this
    exact small_merge hs this.2

theorem resM_congr {C : Ctx} {ops : Array Oper} {q : List Nat × Bool} {o : Oper} {i : Nat} {sl sl' : List SV} {ow ow' : OW} (h : ∀ d ∈ looks ops o, sl[d]? = sl'[d]?) (hs : smallOW ow = smallOW ow') (hm : maskOW q.1 0 ow = maskOW q.1 0 ow') :
    resM C ops q o i sl ow = resM C ops q o i sl' ow' := by
  unfold resM
  rw [wants_congr h, evM_congr (opd_congr h), hs, hm]

/-- What a step does. -/
theorem stepM_some {C : Ctx} {ops : Array Oper} {ks : List (List Nat × Bool)} {i : Nat} {st st' : St} (h : stepM C ops ks i st = some st') : ∃ o, ops[i]? = some o ∧
    ((wants ops o st.sl = some false ∧ st' = ⟨setSl st.sl o.dst (.tup []), st.ow⟩) ∨
    (wants ops o st.sl = some true ∧ ∃ q s r, ks[i]? = some q ∧ smallOW st.ow = true ∧ (evM C o.op q (opd st.sl) (maskOW q.1 0 st.ow) (o.dst.getD 0)).out = some (s, r) ∧ st' = ⟨setSl st.sl o.dst (splitS (isSrc ops i) s), putM q.1 st.ow r⟩)) := by
  unfold stepM at h
  cases ho : ops[i]? with
  | none => rw [ho] at h; cases h
  | some o =>
    rw [ho] at h
    refine ⟨o, rfl, ?_⟩
    simp only at h
    cases hw : wants ops o st.sl with
    | none =>
      rw [hw] at h
      simp only at h
      cases hk : ks[i]? with
      | none => rw [hk] at h; cases h
      | some q => rw [hk] at h; simp [resM, hw] at h
    | some b =>
      cases b with
      | false =>
        rw [hw] at h
        simp only [Option.some.injEq] at h
        exact .inl ⟨rfl, h.symm⟩
      | true =>
        rw [hw] at h
        simp only at h
        cases hk : ks[i]? with
        | none => rw [hk] at h; cases h
        | some q =>
          rw [hk] at h
          simp only [resM, hw, Option.map_eq_some_iff] at h
          obtain ⟨x, hx, rfl⟩ := h
          split at hx
          · rename_i hsm
            rw [Option.map_eq_some_iff] at hx
            obtain ⟨⟨s, r⟩, hy, rfl⟩ := hx
            exact .inr ⟨rfl, q, s, r, rfl, hsm, hy, rfl⟩
          · cases hx

theorem stepM_of {C : Ctx} {ops : Array Oper} {ks : List (List Nat × Bool)} {i : Nat} {st : St} {o : Oper} (ho : ops[i]? = some o) :
    (wants ops o st.sl = some false → stepM C ops ks i st = some ⟨setSl st.sl o.dst (.tup []), st.ow⟩) ∧
    (wants ops o st.sl = some true → ∀ q s r, ks[i]? = some q → smallOW st.ow = true → (evM C o.op q (opd st.sl) (maskOW q.1 0 st.ow) (o.dst.getD 0)).out = some (s, r) → stepM C ops ks i st = some ⟨setSl st.sl o.dst (splitS (isSrc ops i) s), putM q.1 st.ow r⟩) := by
  refine ⟨fun hw => by simp [stepM, ho, hw], fun hw q s r hk hs hy => by simp [stepM, ho, hw, hk, resM, hs, hy]⟩

theorem stepM_swap {C : Ctx} {ops : Array Oper} {ks : List (List Nat × Bool)} (i j : Nat) (s s1 s2 : St) (ha : apartM ops ks i j = true) (h1 : stepM C ops ks i s = some s1) (h2 : stepM C ops ks j s1 = some s2) : ∃ s1', stepM C ops ks j s = some s1' ∧ stepM C ops ks i s1' = some s2 := by
  obtain ⟨x, hi, h1⟩ := stepM_some h1
  obtain ⟨y, hj, h2⟩ := stepM_some h2
  unfold apartM apartSAt at ha
  rw [hi, hj] at ha
  simp only [Bool.and_eq_true] at ha
  obtain ⟨haS, haK⟩ := ha
  unfold apartS at haS
  simp only [Bool.and_eq_true] at haS
  obtain ⟨a1, a2⟩ := haS
  have k1 : ∀ d, x.dst = some d → d ∉ looks ops y ∧ y.dst ≠ some d := by
    intro d hd
    rw [hd] at a1
    simpa using a1
  have k2 : ∀ d, y.dst = some d → d ∉ looks ops x := by
    intro d hd
    rw [hd] at a2
    simpa using a2
  have ly : ∀ (sl : List SV) (u : SV), ∀ d ∈ looks ops y, (setSl sl x.dst u)[d]? = sl[d]? := fun sl u d hd => setSl_get fun e => (k1 d e).1 hd
  have lx : ∀ (sl : List SV) (u : SV), ∀ d ∈ looks ops x, (setSl sl y.dst u)[d]? = sl[d]? := fun sl u d hd => setSl_get fun e => k2 d e hd
  have comm : ∀ (sl : List SV) (u v : SV), setSl (setSl sl x.dst u) y.dst v = setSl (setSl sl y.dst v) x.dst u := fun sl u v => setSl_comm fun d hd => (k1 d hd).2
  rcases h1 with ⟨w1, rfl⟩ | ⟨w1, q1, v1, r1, e1, sm1, o1, rfl⟩
  · rcases h2 with ⟨w2, rfl⟩ | ⟨w2, q2, v2, r2, e2, sm2, o2, rfl⟩
    · have w2' : wants ops y s.sl = some false := by rw [← wants_congr (ly s.sl (.tup []))]; exact w2
      refine ⟨_, (stepM_of hj).1 w2', ?_⟩
      have w1' : wants ops x (setSl s.sl y.dst (.tup [])) = some false := by rw [wants_congr (lx s.sl (.tup []))]; exact w1
      rw [(stepM_of hi).1 w1']
      simp only [comm]
    · have w2' : wants ops y s.sl = some true := by rw [← wants_congr (ly s.sl (.tup []))]; exact w2
      have o2' : (evM C y.op q2 (opd s.sl) (maskOW q2.1 0 s.ow) (y.dst.getD 0)).out = some (v2, r2) := by rw [← evM_congr (opd_congr (ly s.sl (.tup [])))]; exact o2
      refine ⟨_, (stepM_of hj).2 w2' q2 v2 r2 e2 sm2 o2', ?_⟩
      have w1' : wants ops x (setSl s.sl y.dst (splitS (isSrc ops j) v2)) = some false := by rw [wants_congr (lx s.sl _)]; exact w1
      rw [(stepM_of hi).1 w1']
      simp only [comm]
  · rcases h2 with ⟨w2, rfl⟩ | ⟨w2, q2, v2, r2, e2, sm2, o2, rfl⟩
    · have w2' : wants ops y s.sl = some false := by rw [← wants_congr (ly s.sl (splitS (isSrc ops i) v1))]; exact w2
      refine ⟨_, (stepM_of hj).1 w2', ?_⟩
      have w1' : wants ops x (setSl s.sl y.dst (.tup [])) = some true := by rw [wants_congr (lx s.sl (.tup []))]; exact w1
      have o1' : (evM C x.op q1 (opd (setSl s.sl y.dst (.tup []))) (maskOW q1.1 0 s.ow) (x.dst.getD 0)).out = some (v1, r1) := by rw [evM_congr (opd_congr (lx s.sl (.tup [])))]; exact o1
      have hgo := (stepM_of (C := C) (ks := ks) (st := ⟨setSl s.sl y.dst (.tup []), s.ow⟩) hi).2 w1' q1 v1 r1 e1 sm1 o1'
      refine hgo.trans ?_
      simp only [comm]
    · rw [e1, e2] at haK
      simp only at haK
      obtain ⟨p1, p1'⟩ := evM_put o1
      obtain ⟨p2, p2'⟩ := evM_put o2
      have hdis : (r1 = none ∧ r2 = none) ∨ ∀ d, q1.1.contains d = true → q2.1.contains d = false := by
        simp only [Bool.or_eq_true, Bool.and_eq_true, Bool.not_eq_true'] at haK
        rcases haK with ⟨f1, f2⟩ | hall
        · exact .inl ⟨p1 f1, p2 f2⟩
        · right
          intro d hd
          have := List.all_eq_true.1 hall d (by simpa using hd)
          simpa using this
      have hm2 : maskOW q2.1 0 (putM q1.1 s.ow r1) = maskOW q2.1 0 s.ow := by
        rcases hdis with ⟨rfl, _⟩ | h
        · rfl
        · cases r1 with
          | none => rfl
          | some z => exact mask_merge h _ _
      have hm1 : maskOW q1.1 0 (putM q2.1 s.ow r2) = maskOW q1.1 0 s.ow := by
        rcases hdis with ⟨_, rfl⟩ | h
        · rfl
        · cases r2 with
          | none => rfl
          | some z =>
            refine mask_merge (fun d hd => ?_) _ _
            cases h3 : q1.1.contains d with
            | false => rfl
            | true => rw [h d h3] at hd; cases hd
      have hpp : putM q2.1 (putM q1.1 s.ow r1) r2 = putM q1.1 (putM q2.1 s.ow r2) r1 := by
        rcases hdis with ⟨rfl, rfl⟩ | h
        · rfl
        · cases r1 with
          | none => cases r2 <;> rfl
          | some z1 =>
            cases r2 with
            | none => rfl
            | some z2 => exact merge_comm h _ _ _
      have w2' : wants ops y s.sl = some true := by rw [← wants_congr (ly s.sl (splitS (isSrc ops i) v1))]; exact w2
      have o2' : (evM C y.op q2 (opd s.sl) (maskOW q2.1 0 s.ow) (y.dst.getD 0)).out = some (v2, r2) := by
        rw [← evM_congr (opd_congr (ly s.sl (splitS (isSrc ops i) v1))), ← hm2]; exact o2
      refine ⟨_, (stepM_of hj).2 w2' q2 v2 r2 e2 sm1 o2', ?_⟩
      have w1' : wants ops x (setSl s.sl y.dst (splitS (isSrc ops j) v2)) = some true := by rw [wants_congr (lx s.sl _)]; exact w1
      have o1' : (evM C x.op q1 (opd (setSl s.sl y.dst (splitS (isSrc ops j) v2))) (maskOW q1.1 0 (putM q2.1 s.ow r2)) (x.dst.getD 0)).out = some (v1, r1) := by
        rw [evM_congr (opd_congr (lx s.sl _)), hm1]; exact o1
      have hgo := (stepM_of (C := C) (ks := ks) (st := ⟨setSl s.sl y.dst (splitS (isSrc ops j) v2), putM q2.1 s.ow r2⟩) hi).2 w1' q1 v1 r1 e1 (putM_small sm1 p2') o1'
      refine hgo.trans ?_
      simp only [comm, hpp]

theorem evOpsM_seq {α : Type} {C : Ctx} {ops : Array Oper} {ks : List (List Nat × Bool)} {k : St → Option α} {r : α} : (l : List (Oper × Nat)) → (∀ p ∈ l, ops[p.2]? = some p.1) → {st : St} → evOpsM C ops ks l st k = some r → ∃ stF, seqS (stepM C ops ks) (l.map (·.2)) st = some stF ∧ k stF = some r
  | [], _, st, h => ⟨st, rfl, h⟩
  | (o, i) :: l, hl, st, h => by
    have ho := hl (o, i) (by simp)
    simp only at ho
    have hl' : ∀ p ∈ l, ops[p.2]? = some p.1 := fun p hp => hl p (by simp [hp])
    unfold evOpsM at h
    simp only [List.map_cons, seqS]
    split at h
    · cases h
    · rename_i hw
      obtain ⟨slF, h1, h2⟩ := evOpsM_seq l hl' h
      rw [(stepM_of ho).1 hw]
      exact ⟨slF, h1, h2⟩
    · rename_i hw
      split at h
      · rename_i q hq
        split at h
        · rename_i hsm
          obtain ⟨s, h1, h2⟩ := Cmd.runA_out _ h
          rw [split_eq] at h2
          obtain ⟨slF, h3, h4⟩ := evOpsM_seq l hl' h2
          rw [(stepM_of ho).2 hw q s.1 s.2 hq hsm h1]
          exact ⟨slF, h3, h4⟩
        · cases h
      · cases h

theorem splitS_sound {F : Nat → Prop} {G : Gh} {ow : OW} {w : World} {src : Bool} {s : SV} {v : Value} (hv : Sv F G ow w.heap s v) : Sv F G ow w.heap (splitS src s) v := by
  obtain ⟨s2, e2, hsv2⟩ := split_sound (n := 0) (src := src) hv (k := fun z => some z) (r := splitS src s) (by rw [split_eq])
  cases e2
  exact hsv2

theorem drawSoundM {C : Ctx} {L : List (Nat × Obj)} (hC : C.Holds L) (hm : C.P.follows .mixedOrders = true) : DrawSoundM C L := by
  intro α nt fr F fp w0 vs id ops ks st a w k r hE hd h hok he Q hQ
  obtain ⟨hl, hr⟩ := region_list ops hd
  obtain ⟨stF, h1, h2⟩ := evOpsM_seq _ (fun p hp => (hl p hp).1) he
  rw [hr] at h1
  have hD : ∀ (i : Nat) (o : Oper), ops[i]? = some o → ∀ d, o.dst = some d → fr d = true := by
    intro i o ho d hx
    have hmem : o ∈ ops.toList := by
      obtain ⟨hlt, rfl⟩ := Array.getElem?_eq_some_iff.1 ho
      simp
    have := List.all_eq_true.1 hd o hmem
    rw [hx] at this
    simpa using this
  let R : St → Act → World → Prop := fun st a w => StI nt fr F fp w0 vs st a w
  refine wp_region_any hm (any_of_seq (step := stepM C ops ks) (R := R) (fun i j s s1 s2 => stepM_swap i j s s1 s2) ?_ hok (sF := stF) (fun a' w' hR => hQ stF a' w' h2 hR) ops.size _ st a _ (by simp) ?_ ?_ ?_ ?_)
  · intro i st st' a w hi hs hI K hK
    obtain ⟨o, ho, hs⟩ := stepM_some hs
    have hdo := hD i o ho
    obtain ⟨G, g1, g2, g3⟩ := hI.ex
    unfold wpOp
    rw [ho]
    simp only
    rcases hs with ⟨hw, rfl⟩ | ⟨hw, q, s, r, hq, hsm, hev, rfl⟩
    · rw [wants_sound g1 hw]
      exact hK _ _ (hI.slot (fun _ => sv_undef) hdo)
    · rw [wants_sound g1 hw]
      simp only [if_true]
      left
      have hFw := hE.wideAt hI.kept
      have hLw := hE.laidAt hI.kept g3
      have hFM : ∀ b, FM F G st.ow q.1 b → b < w.heap.size := fun b hb => FM_lt g2 hFw hb
      have hLM : Laid L (Own G (maskOW q.1 0 st.ow)) w.heap := fun p hp => ⟨fun h => (hLw p hp).1 (own_of_mask h), (hLw p hp).2⟩
      have hρ : Rho (FM F G st.ow q.1) G (maskOW q.1 0 st.ow) w.heap (opd st.sl) a.eval := fun x => sv_mask hsm (opd_rho g1 x)
      refine OpR.wp ?_
      unfold evM at hev
      split at hev
      · obtain ⟨x, e1, e2⟩ := Cmd.out_bind _ hev
        split at e2
        · rename_i hck
          simp only [Bool.and_eq_true] at hck
          simp only [Cmd.out, Option.some.injEq, Prod.mk.injEq] at e2
          obtain ⟨rfl, rfl⟩ := e2
          have hop := evOp_sound hC (op := o) rfl (hrep_mask hsm g2) hFM hLM hρ (Cmd.out_can _ e1)
          have conv : ∀ u w', (∃ s ow' G', (s, ow') = x ∧ Tr (FM F G st.ow q.1) G (maskOW q.1 0 st.ow) w G' ow' w' ∧ Sv (FM F G st.ow q.1) G' ow' w'.heap s u) → K (a.put o.dst u) w' := by
            rintro u w' ⟨s, ow', G', rfl, ht, hsv⟩
            obtain ⟨t1, t2⟩ := tr_unmask g2 hFw hsm ht hck.1
            exact hK _ _ (hI.op hE g1 g3 t1 (splitS_sound (t2 s u 8 hck.2 hsv)) hdo)
          rcases hop with ⟨u, w', q1, q2⟩ | ⟨w', q1, q2⟩ | ⟨f, args, q1, q2⟩
          · exact .inl ⟨u, w', q1, conv u w' q2⟩
          · exact .inr (.inl ⟨w', q1, conv undef w' q2⟩)
          · exact .inr (.inr ⟨f, args, q1, q2.mono fun e w' ⟨u, q3, q4⟩ => ⟨u, q3, conv u w' q4⟩⟩)
        · cases e2
      · obtain ⟨x, e1, e2⟩ := Cmd.out_bind _ hev
        split at e2
        · rename_i hck
          simp only [Bool.and_eq_true] at hck
          simp only [Cmd.out, Option.some.injEq, Prod.mk.injEq] at e2
          obtain ⟨rfl, rfl⟩ := e2
          have hop := evJ_sound hC (op := o) rfl (hrep_mask hsm g2) hFM hLM hρ (Cmd.out_can _ e1)
          have conv : ∀ u w', (∃ s, s = x ∧ Tr (FM F G st.ow q.1) G (maskOW q.1 0 st.ow) w G (maskOW q.1 0 st.ow) w' ∧ Sv (FM F G st.ow q.1) G (maskOW q.1 0 st.ow) w'.heap s u) → K (a.put o.dst u) w' := by
            rintro u w' ⟨s, rfl, ht, hsv⟩
            obtain ⟨t1, t2⟩ := tr_unmask_read g2 hFw hsm ht hck.1
            exact hK _ _ (hI.op hE g1 g3 t1 (splitS_sound (t2 s u 8 hck.2 hsv)) hdo)
          rcases hop with ⟨u, w', q1, q2⟩ | ⟨w', q1, q2⟩ | ⟨f, args, q1, q2⟩
          · exact .inl ⟨u, w', q1, conv u w' q2⟩
          · exact .inr (.inl ⟨w', q1, conv undef w' q2⟩)
          · exact .inr (.inr ⟨f, args, q1, q2.mono fun e w' ⟨u, q3, q4⟩ => ⟨u, q3, conv u w' q4⟩⟩)
        · cases e2
  · refine Nat.le_trans (List.length_filter_le _ _) (by simp)
  · intro j hj
    exfalso
    by_cases hlt : j < ops.size
    · simp [Array.getD, hlt] at hj
    · simp [Array.getD, hlt] at hj
  · have : ((List.range ops.size).filter fun i => !(Array.replicate ops.size false).getD i true) = List.range ops.size := by
      rw [List.filter_eq_self]
      intro i hi
      have := List.mem_range.1 hi
      simp [Array.getD, this]
    rw [this]
    exact h1
  · exact ⟨h.ex, ⟨h.kept.size, h.kept.heap, h.kept.cells, h.kept.os, h.kept.output, h.kept.tape⟩, h.defers, h.args, h.size⟩

theorem drawSound {C : Ctx} {L : List (Nat × Obj)} (hC : C.Holds L) (hm : C.P.follows .mixedOrders = true) : DrawSound C L := ⟨drawSoundJ hC hm, drawSoundM hC hm⟩

/-- THE THEOREM, regions drawn and all. -/
theorem sig_of_ev {C : Ctx} {L : List (Nat × Obj)} (hC : C.Holds L) (hm : C.P.follows .mixedOrders = true) {f : FuncId} {fn : Func} (hf : C.P.funcs[f]? = some fn) (hname : (fn.name == "runtime.NumGoroutine") = false) (ann : Ann) (args res : Sh) {den : args.T → Option (res.T × args.Out)}
    (hden : ∀ x y, den x = some y → evFunc C ann fn args res x = some y) (hbody : fn.body.isNone = false) : SigHolds C.P L f ⟨args, res, den⟩ :=
  evFunc_sound hC (drawSound hC hm) hf hname ann args res hden hbody

end Go.Pev
