/-
  PEV, part 23: regions whose order is drawn.
-/
import Derived.Test.YtimiagnkcjfdhaaGreatDoorK01
import Derived.Below
import Derived.Sort.Grow
import Derived.Deep.Draws
import Derived.Carry
import Derived.WideShapes
import Derived.Lib.LaidTab
import Derived.ChangeArms
import Derived.Shelf.Strings.Fields
import Derived.Shelf.Strings.SplitShaped
import Derived.Shelf.LaysM
import Derived.Test.YtimiagnkcjfdhaaGreatDoorProg
import Derived.KernelRfl
import Derived.Shelf.Strconv.Itoa4
import Derived.Shelf.Spec.SlicesGrow
import Derived.Shelf.Strings.OnBuilder
set_option linter.unusedSimpArgs false
set_option linter.unusedVariables false
section
namespace Go.Pev

def Cmd.out {β : Type} : Cmd β → Option β
  | .ret b => some b
  | .fail => none
  | .chk c t => if c then t.out else none
  | .bnd _ m f => m.bind fun y => (f y).out
  | .amb _ _ _ => none

theorem Cmd.runA_out {α β : Type} {n : Nat} {k : β → Option α} {r : α} : (c : Cmd β) → c.runA n k = some r → ∃ b, c.out = some b ∧ k b = some r
  | .ret b, h => ⟨b, rfl, h⟩
  | .fail, h => by cases h
  | .chk c t, h => by
    rw [Cmd.runA, br_eq] at h
    cases c with
    | false => cases h
    | true => exact Cmd.runA_out t h
  | .bnd _ m f, h => by
    rw [Cmd.runA, bd_eq] at h
    cases m with
    | none => cases h
    | some y => exact Cmd.runA_out (f y) h
  | .amb _ _ _, h => by cases h

theorem Cmd.out_can {β : Type} {b : β} : (c : Cmd β) → c.out = some b → c.can fun x => x = b
  | .ret _, h => Option.some.inj h
  | .fail, h => by cases h
  | .chk c t, h => by
    cases c with
    | false => cases h
    | true => exact ⟨rfl, Cmd.out_can t h⟩
  | .bnd _ m f, h => by
    cases m with
    | none => cases h
    | some y => exact ⟨y, rfl, Cmd.out_can (f y) h⟩
  | .amb _ _ _, h => by cases h

/-- A truth as it is known. -/
def splitS (src : Bool) (s : SV) : SV := if src then (match s with | .v .bool b => .lb b | s => s) else s

theorem split_eq {α : Type} {n : Nat} {src : Bool} {s : SV} {k : SV → Option α} : split n src s k = k (splitS src s) := by
  unfold split splitS
  cases src with
  | false => rfl
  | true =>
    simp only [if_true]
    split
    · rename_i b; rw [br_eq]; cases b <;> rfl
    · rename_i h
      split
      · rename_i b; exact absurd rfl (h b)
      · rfl

theorem evRO_congr {P : Program} {o : Op} {ρ ρ' : Operand → SV} {ow : OW} (h : ∀ x ∈ o.operands, ρ x = ρ' x) : evRO P o ρ ow = evRO P o ρ' ow := by
  cases o with
  | call c =>
    have ha : ∀ x ∈ c.args, ρ x = ρ' x := fun x hx => h x (by simp [Op.operands, Call.operands, hx])
    have hargs : c.args.toList.map ρ = c.args.toList.map ρ' := List.map_congr_left fun x hx => ha x (by simpa using hx)
    simp only [evRO, hargs]
    split
    · split
      · rename_i x t ts hx ht
        rw [ha x (by rw [← Array.mem_toList_iff, hx]; simp)]
      · rfl
    · rfl
    · rfl
    · rfl
  | build t ps =>
    have : (ps.toList.map fun x => (x.1, ρ x.2)) = ps.toList.map fun x => (x.1, ρ' x.2) := List.map_congr_left fun p hp => by
      rw [h p.2 (by simp only [Op.operands, List.mem_toArray, List.mem_map]; exact ⟨p, hp, rfl⟩)]
    simp only [evRO, this]
  | makeFunc f a b =>
    have h1 : a.toList.map ρ = a.toList.map ρ' := List.map_congr_left fun x hx => h x (by simp only [Op.operands, Array.mem_append]; exact .inl (by simpa using hx))
    have h2 : b.toList.map ρ = b.toList.map ρ' := List.map_congr_left fun x hx => h x (by simp only [Op.operands, Array.mem_append]; exact .inr (by simpa using hx))
    simp only [evRO, h1, h2]
  | slice t x lo hi mx =>
    cases lo <;> cases hi <;> cases mx <;> simp_all [evRO, Op.operands]
  | typeAssert x a b c => cases c <;> simp_all [evRO, Op.operands]
  | _ => first | rfl | (simp_all [evRO, Op.operands]; done)

theorem evJ_congr {C : Ctx} {o : Op} {ρ ρ' : Operand → SV} {ow : OW} (h : ∀ x ∈ o.operands, ρ x = ρ' x) : evJ C o ρ ow = evJ C o ρ' ow := by
  unfold evJ
  split
  · rename_i f args ats
    have h1 : ρ f = ρ' f := h f (by simp [Op.operands, Call.operands])
    have h2 : args.toList.map ρ = args.toList.map ρ' := List.map_congr_left fun x hx => h x (by simp only [Op.operands, Call.operands, Array.mem_append]; exact .inr (by simpa using hx))
    rw [h1, h2]
  · exact evRO_congr h

/-- What an operation gives. -/
def resJ (C : Ctx) (ops : Array Oper) (ow : OW) (o : Oper) (i : Nat) (sl : List SV) : Option SV :=
  match wants ops o sl with
  | none => none
  | some false => some (.tup [])
  | some true => (evJ C o.op (opd sl) ow).out.map (splitS (isSrc ops i))

def stepJ (C : Ctx) (ops : Array Oper) (ow : OW) (i : Nat) (sl : List SV) : Option (List SV) :=
  match ops[i]? with
  | some o => (resJ C ops ow o i sl).map (setSl sl o.dst)
  | none => none

theorem resJ_congr {C : Ctx} {ops : Array Oper} {ow : OW} {o : Oper} {i : Nat} {sl sl' : List SV} (h : ∀ d ∈ looks ops o, sl[d]? = sl'[d]?) : resJ C ops ow o i sl = resJ C ops ow o i sl' := by
  have h1 : wants ops o sl = wants ops o sl' := by
    unfold wants
    cases hg : o.guard with
    | none => rfl
    | some g =>
      obtain ⟨j, want⟩ := g
      simp only
      cases hd : (ops[j]?).bind (·.dst) with
      | none => rfl
      | some d =>
        simp only
        rw [h d (by simp [looks, hg, hd])]
  have h2 : evJ C o.op (opd sl) ow = evJ C o.op (opd sl') ow := evJ_congr fun x hx => by
    cases x with
    | tmp t =>
      have := h t (by
        simp only [looks, List.mem_append]
        exact .inl (List.mem_filterMap.2 ⟨.tmp t, by simpa using hx, rfl⟩))
      simp only [opd, this]
    | const v => rfl
    | global g => rfl
    | func f => rfl
  unfold resJ
  rw [h1, h2]

theorem setSl_get {sl : List SV} {d : Option Tmp} {s : SV} {x : Nat} (h : d ≠ some x) : (setSl sl d s)[x]? = sl[x]? := by
  cases d with
  | none => rfl
  | some d => exact List.getElem?_set_ne (fun e => h (by rw [e]))

theorem setSl_comm {sl : List SV} {d d' : Option Tmp} {s s' : SV} (h : ∀ x, d = some x → d' ≠ some x) : setSl (setSl sl d s) d' s' = setSl (setSl sl d' s') d s := by
  cases d with
  | none => rfl
  | some d =>
    cases d' with
    | none => rfl
    | some d' => exact List.set_comm _ _ (fun e => h d rfl (by rw [e]))

theorem stepJ_swap {C : Ctx} {ops : Array Oper} {ow : OW} (i j : Nat) (s s1 s2 : List SV) (ha : apartSAt ops i j = true) (h1 : stepJ C ops ow i s = some s1) (h2 : stepJ C ops ow j s1 = some s2) : ∃ s1', stepJ C ops ow j s = some s1' ∧ stepJ C ops ow i s1' = some s2 := by
  unfold apartSAt at ha
  unfold stepJ at h1 h2 ⊢
  cases hi : ops[i]? with
  | none => rw [hi] at h1; cases h1
  | some x =>
    cases hj : ops[j]? with
    | none => rw [hj] at h2; cases h2
    | some y =>
      rw [hi] at h1 ha
      rw [hj] at h2 ha
      simp only at h1 h2 ha ⊢
      unfold apartS at ha
      simp only [Bool.and_eq_true] at ha
      obtain ⟨a1, a2⟩ := ha
      have k1 : ∀ d, x.dst = some d → d ∉ looks ops y ∧ y.dst ≠ some d := by
        intro d hd
        rw [hd] at a1
        simpa using a1
      have k2 : ∀ d, y.dst = some d → d ∉ looks ops x := by
        intro d hd
        rw [hd] at a2
        simpa using a2
      rw [Option.map_eq_some_iff] at h1 h2
      obtain ⟨v, e1, rfl⟩ := h1
      obtain ⟨u, e2, rfl⟩ := h2
      have c1 : resJ C ops ow y j (setSl s x.dst v) = resJ C ops ow y j s := resJ_congr fun d hd => setSl_get fun e => (k1 d e).1 hd
      rw [c1] at e2
      have c2 : resJ C ops ow x i (setSl s y.dst u) = resJ C ops ow x i s := resJ_congr fun d hd => setSl_get fun e => k2 d e hd
      refine ⟨setSl s y.dst u, by rw [e2]; rfl, ?_⟩
      rw [c2, e1]
      simp only [Option.map_some]
      rw [setSl_comm fun d hd => (k1 d hd).2]

theorem evJsA_seq {α : Type} {C : Ctx} {ops : Array Oper} {ow : OW} {k : List SV → Option α} {r : α} : (l : List (Oper × Nat)) → (∀ p ∈ l, ops[p.2]? = some p.1) → {sl : List SV} → evJsA C ops ow l sl k = some r → ∃ slF, seqS (stepJ C ops ow) (l.map (·.2)) sl = some slF ∧ k slF = some r
  | [], _, sl, h => ⟨sl, rfl, h⟩
  | (o, i) :: l, hl, sl, h => by
    have ho := hl (o, i) (by simp)
    simp only at ho
    have hl' : ∀ p ∈ l, ops[p.2]? = some p.1 := fun p hp => hl p (by simp [hp])
    unfold evJsA at h
    simp only [List.map_cons, seqS]
    split at h
    · cases h
    · rename_i hw
      obtain ⟨slF, h1, h2⟩ := evJsA_seq l hl' h
      refine ⟨slF, ?_, h2⟩
      simp only [stepJ, ho, resJ, hw, Option.map_some]
      exact h1
    · rename_i hw
      obtain ⟨s, h1, h2⟩ := Cmd.runA_out _ h
      rw [split_eq] at h2
      obtain ⟨slF, h3, h4⟩ := evJsA_seq l hl' h2
      refine ⟨slF, ?_, h4⟩
      simp only [stepJ, ho, resJ, hw, h1, Option.map_some]
      exact h3

theorem drawSoundJ {C : Ctx} {L : List (Nat × Obj)} (hC : C.Holds L) (hm : C.P.follows .mixedOrders = true) : DrawSoundJ C L := by
  intro α nt fr F fp w0 vs id ops st a w k r hE hd h hok he Q hQ
  obtain ⟨hl, hr⟩ := region_list ops hd
  obtain ⟨slF, h1, h2⟩ := evJsA_seq _ (fun p hp => (hl p hp).1) he
  rw [hr] at h1
  have hD : ∀ (i : Nat) (o : Oper), ops[i]? = some o → ∀ d, o.dst = some d → fr d = true ∧ ∃ o ∈ ops.toList, o.dst = some d := by
    intro i o ho d hx
    have hmem : o ∈ ops.toList := by
      obtain ⟨hlt, rfl⟩ := Array.getElem?_eq_some_iff.1 ho
      simp
    refine ⟨?_, o, hmem, hx⟩
    have := List.all_eq_true.1 hd o hmem
    rw [hx] at this
    simpa using this
  let R : List SV → Act → World → Prop := fun sl a w => StI nt fr F fp w0 vs ⟨sl, st.ow⟩ a w ∧ ∀ d, ¬ (∃ o ∈ ops.toList, o.dst = some d) → sl[d]? = st.sl[d]?
  refine wp_region_any hm (any_of_seq (step := stepJ C ops st.ow) (R := R) (fun i j s s1 s2 => stepJ_swap i j s s1 s2) ?_ hok (sF := slF) (fun a' w' hR => hQ slF a' w' h2 hR.1 hR.2) ops.size _ st.sl a _ (by simp) ?_ ?_ ?_ ?_)
  · intro i sl sl' a w hi hs hR K hK
    obtain ⟨hI, hag⟩ := hR
    unfold stepJ at hs
    cases ho : ops[i]? with
    | none => rw [ho] at hs; cases hs
    | some o =>
      rw [ho] at hs
      simp only [Option.map_eq_some_iff] at hs
      obtain ⟨v, hv, rfl⟩ := hs
      have hdo := hD i o ho
      have hag' : ∀ d, ¬ (∃ o ∈ ops.toList, o.dst = some d) → (setSl sl o.dst v)[d]? = st.sl[d]? := fun d hn => by
        rw [setSl_get fun e => hn (hdo d e).2]
        exact hag d hn
      obtain ⟨G, g1, g2, g3⟩ := hI.ex
      unfold wpOp
      rw [ho]
      simp only
      unfold resJ at hv
      split at hv
      · cases hv
      · rename_i hw
        cases hv
        rw [wants_sound g1 hw]
        exact hK _ _ ⟨hI.slot (fun _ => sv_undef) (fun d hx => (hdo d hx).1), hag'⟩
      · rename_i hw
        rw [wants_sound g1 hw]
        simp only [if_true]
        left
        rw [Option.map_eq_some_iff] at hv
        obtain ⟨s, hs, rfl⟩ := hv
        have hop := evJ_sound hC (op := o) rfl g2 (hE.wideAt hI.kept) (hE.laidAt hI.kept g3) (opd_rho g1) (Cmd.out_can _ hs)
        refine OpR.wp ?_
        have conv : ∀ u w', (∃ s', s' = s ∧ Tr F G st.ow w G st.ow w' ∧ Sv F G st.ow w'.heap s' u) → K (a.put o.dst u) w' := by
          rintro u w' ⟨s', rfl, ht, hsv⟩
          obtain ⟨s2, e2, hsv2⟩ := split_sound (n := C.fuel) (src := isSrc ops i) hsv (k := fun z => some z) (r := splitS (isSrc ops i) s') (by rw [split_eq])
          cases e2
          exact hK _ _ ⟨hI.op hE g1 g3 ht hsv2 (fun d hx => (hdo d hx).1), hag'⟩
        rcases hop with ⟨u, w', q1, q2⟩ | ⟨w', q1, q2⟩ | ⟨f, args, q1, q2⟩
        · exact .inl ⟨u, w', q1, conv u w' q2⟩
        · exact .inr (.inl ⟨w', q1, conv undef w' q2⟩)
        · exact .inr (.inr ⟨f, args, q1, q2.mono fun e w' ⟨u, q3, q4⟩ => ⟨u, q3, conv u w' q4⟩⟩)
  · refine Nat.le_trans (List.length_filter_le _ _) (by simp)
  · intro j hj
    exfalso
    by_cases hlt : j < ops.size
    · simp [Array.getD, hlt] at hj
    · simp [Array.getD, hlt] at hj
  · have : ((List.range ops.size).filter fun i => !(Array.replicate ops.size false).getD i true) = List.range ops.size := by
      rw [List.filter_eq_self]
      intro i hi
      have := List.mem_range.1 hi
      simp [Array.getD, this]
    rw [this]
    exact h1
  · exact ⟨⟨h.ex, ⟨h.kept.size, h.kept.heap, h.kept.cells, h.kept.os, h.kept.output, h.kept.tape⟩, h.defers, h.args, h.size⟩, fun _ _ => rfl⟩

/-! ### Regions that turn something -/

def resM (C : Ctx) (ops : Array Oper) (q : List Nat × Bool) (o : Oper) (i : Nat) (sl : List SV) (ow : OW) : Option (SV × Option OW) :=
  match wants ops o sl with
  | none => none
  | some false => some (.tup [], none)
  | some true => if smallOW ow then (evM C o.op q (opd sl) (maskOW q.1 0 ow) (o.dst.getD 0)).out.map fun x => (splitS (isSrc ops i) x.1, x.2) else none

def stepM (C : Ctx) (ops : Array Oper) (ks : List (List Nat × Bool)) (i : Nat) (st : St) : Option St :=
  match ops[i]? with
  | some o =>
    (match wants ops o st.sl with
    | some false => some ⟨setSl st.sl o.dst (.tup []), st.ow⟩
    | _ =>
      (match ks[i]? with
      | some q => (resM C ops q o i st.sl st.ow).map fun x => ⟨setSl st.sl o.dst x.1, putM q.1 st.ow x.2⟩
      | none => none))
  | none => none

theorem wants_congr {ops : Array Oper} {o : Oper} {sl sl' : List SV} (h : ∀ d ∈ looks ops o, sl[d]? = sl'[d]?) : wants ops o sl = wants ops o sl' := by
  unfold wants
  cases hg : o.guard with
  | none => rfl
  | some g =>
    obtain ⟨j, want⟩ := g
    simp only
    cases hd : (ops[j]?).bind (·.dst) with
    | none => rfl
    | some d =>
      simp only
      rw [h d (by simp [looks, hg, hd])]

theorem opd_congr {ops : Array Oper} {o : Oper} {sl sl' : List SV} (h : ∀ d ∈ looks ops o, sl[d]? = sl'[d]?) : ∀ x ∈ o.op.operands, opd sl x = opd sl' x := fun x hx => by
  cases x with
  | tmp t =>
    have := h t (by
      simp only [looks, List.mem_append]
      exact .inl (List.mem_filterMap.2 ⟨.tmp t, by simpa using hx, rfl⟩))
    simp only [opd, this]
  | const v => rfl
  | global g => rfl
  | func f => rfl

theorem evOp_congr {C : Ctx} {o : Op} {ρ ρ' : Operand → SV} {ow : OW} {d : Nat} (h : ∀ x ∈ o.operands, ρ x = ρ' x) : evOp C o ρ ow d = evOp C o ρ' ow d := by
  unfold evOp
  split
  · rfl
  · rw [h _ (by simp [Op.operands])]
  · rename_i t n ps
    have : (ps.toList.map fun x => (x.1, ρ x.2)) = ps.toList.map fun x => (x.1, ρ' x.2) := List.map_congr_left fun p hp => by
      rw [h p.2 (by simp only [Op.operands, List.mem_toArray, List.mem_map]; exact ⟨p, hp, rfl⟩)]
    simp only [this]
  · rw [h _ (by simp [Op.operands]), h _ (by simp [Op.operands])]
  · rw [h _ (by simp [Op.operands]), h _ (by simp [Op.operands])]
  · rename_i args ats
    have ha : ∀ x ∈ args, ρ x = ρ' x := fun x hx => h x (by simp [Op.operands, Call.operands, hx])
    split
    · rename_i s x t tx h1 h2
      rw [ha s (by rw [← Array.mem_toList_iff, h1]; simp), ha x (by rw [← Array.mem_toList_iff, h1]; simp)]
    · rfl
  · rename_i f args ats
    have h1 : ρ f = ρ' f := h f (by simp [Op.operands, Call.operands])
    have h2 : args.toList.map ρ = args.toList.map ρ' := List.map_congr_left fun x hx => h x (by simp only [Op.operands, Call.operands, Array.mem_append]; exact .inr (by simpa using hx))
    rw [h1, h2]
  · rw [evRO_congr h]

theorem evM_congr {C : Ctx} {o : Op} {q : List Nat × Bool} {ρ ρ' : Operand → SV} {ow : OW} {d : Nat} (h : ∀ x ∈ o.operands, ρ x = ρ' x) : evM C o q ρ ow d = evM C o q ρ' ow d := by
  unfold evM
  rw [evOp_congr h, evJ_congr h]
  split
  · rfl
  · cases o with
    | move x => simp only [slotOp, h x (by simp [Op.operands])]
    | assign x => simp only [slotOp, h x (by simp [Op.operands])]
    | _ => rfl

theorem Cmd.out_bind {β γ : Type} {f : β → Cmd γ} {r : γ} : (c : Cmd β) → (c.bind f).out = some r → ∃ b, c.out = some b ∧ (f b).out = some r
  | .ret b, h => ⟨b, rfl, h⟩
  | .fail, h => by cases h
  | .chk c t, h => by
    cases c with
    | false => cases h
    | true => exact Cmd.out_bind t h
  | .bnd _ m g, h => by
    cases m with
    | none => cases h
    | some y => exact Cmd.out_bind (g y) h
  | .amb _ _ _, h => by cases h

theorem evM_put {C : Ctx} {o : Op} {q : List Nat × Bool} {ρ : Operand → SV} {ow : OW} {d : Nat} {s : SV} {r : Option OW} (h : (evM C o q ρ ow d).out = some (s, r)) :
    (q.2 = false → r = none) ∧ ∀ z, r = some z → okM q.1 z = true := by
  unfold evM at h
  split at h
  · rename_i hq
    obtain ⟨x, h1, h2⟩ := Cmd.out_bind _ h
    split at h2
    · rename_i hok
      simp only [Cmd.out, Option.some.injEq, Prod.mk.injEq] at h2
      simp only [Bool.and_eq_true] at hok
      refine ⟨fun hf => absurd (hq.symm.trans hf) (by simp), fun z hz => ?_⟩
      rw [← h2.2] at hz
      cases hz
      exact hok.1
    · cases h2
  · split at h
    · simp only [Cmd.out, Option.some.injEq, Prod.mk.injEq] at h
      exact ⟨fun _ => h.2.symm, fun z hz => by rw [← h.2] at hz; cases hz⟩
    · obtain ⟨x, h1, h2⟩ := Cmd.out_bind _ h
      split at h2
      · simp only [Cmd.out, Option.some.injEq, Prod.mk.injEq] at h2
        exact ⟨fun _ => h2.2.symm, fun z hz => by rw [← h2.2] at hz; cases hz⟩
      · cases h2

theorem putM_small {K : List Nat} {ow : OW} {r : Option OW} (hs : smallOW ow = true) (hr : ∀ z, r = some z → okM K z = true) : smallOW (putM K ow r) = true := by
  cases r with
  | none => exact hs
  | some z =>
    have := hr z rfl
    simp only [okM, Bool.and_eq_true] at this
    exact small_merge hs this.2

theorem resM_congr {C : Ctx} {ops : Array Oper} {q : List Nat × Bool} {o : Oper} {i : Nat} {sl sl' : List SV} {ow ow' : OW} (h : ∀ d ∈ looks ops o, sl[d]? = sl'[d]?) (hs : smallOW ow = smallOW ow') (hm : maskOW q.1 0 ow = maskOW q.1 0 ow') :
    resM C ops q o i sl ow = resM C ops q o i sl' ow' := by
  unfold resM
  rw [wants_congr h, evM_congr (opd_congr h), hs, hm]

/-- What a step does. -/
theorem stepM_some {C : Ctx} {ops : Array Oper} {ks : List (List Nat × Bool)} {i : Nat} {st st' : St} (h : stepM C ops ks i st = some st') : ∃ o, ops[i]? = some o ∧
    ((wants ops o st.sl = some false ∧ st' = ⟨setSl st.sl o.dst (.tup []), st.ow⟩) ∨
    (wants ops o st.sl = some true ∧ ∃ q s r, ks[i]? = some q ∧ smallOW st.ow = true ∧ (evM C o.op q (opd st.sl) (maskOW q.1 0 st.ow) (o.dst.getD 0)).out = some (s, r) ∧ st' = ⟨setSl st.sl o.dst (splitS (isSrc ops i) s), putM q.1 st.ow r⟩)) := by
  unfold stepM at h
  cases ho : ops[i]? with
  | none => rw [ho] at h; cases h
  | some o =>
    rw [ho] at h
    refine ⟨o, rfl, ?_⟩
    simp only at h
    cases hw : wants ops o st.sl with
    | none =>
      rw [hw] at h
      simp only at h
      cases hk : ks[i]? with
      | none => rw [hk] at h; cases h
      | some q => rw [hk] at h; simp [resM, hw] at h
    | some b =>
      cases b with
      | false =>
        rw [hw] at h
        simp only [Option.some.injEq] at h
        exact .inl ⟨rfl, h.symm⟩
      | true =>
        rw [hw] at h
        simp only at h
        cases hk : ks[i]? with
        | none => rw [hk] at h; cases h
        | some q =>
          rw [hk] at h
          simp only [resM, hw, Option.map_eq_some_iff] at h
          obtain ⟨x, hx, rfl⟩ := h
          split at hx
          · rename_i hsm
            rw [Option.map_eq_some_iff] at hx
            obtain ⟨⟨s, r⟩, hy, rfl⟩ := hx
            exact .inr ⟨rfl, q, s, r, rfl, hsm, hy, rfl⟩
          · cases hx

theorem stepM_of {C : Ctx} {ops : Array Oper} {ks : List (List Nat × Bool)} {i : Nat} {st : St} {o : Oper} (ho : ops[i]? = some o) :
    (wants ops o st.sl = some false → stepM C ops ks i st = some ⟨setSl st.sl o.dst (.tup []), st.ow⟩) ∧
    (wants ops o st.sl = some true → ∀ q s r, ks[i]? = some q → smallOW st.ow = true → (evM C o.op q (opd st.sl) (maskOW q.1 0 st.ow) (o.dst.getD 0)).out = some (s, r) → stepM C ops ks i st = some ⟨setSl st.sl o.dst (splitS (isSrc ops i) s), putM q.1 st.ow r⟩) := by
  refine ⟨fun hw => by simp [stepM, ho, hw], fun hw q s r hk hs hy => by simp [stepM, ho, hw, hk, resM, hs, hy]⟩

theorem stepM_swap {C : Ctx} {ops : Array Oper} {ks : List (List Nat × Bool)} (i j : Nat) (s s1 s2 : St) (ha : apartM ops ks i j = true) (h1 : stepM C ops ks i s = some s1) (h2 : stepM C ops ks j s1 = some s2) : ∃ s1', stepM C ops ks j s = some s1' ∧ stepM C ops ks i s1' = some s2 := by
  obtain ⟨x, hi, h1⟩ := stepM_some h1
  obtain ⟨y, hj, h2⟩ := stepM_some h2
  unfold apartM apartSAt at ha
  rw [hi, hj] at ha
  simp only [Bool.and_eq_true] at ha
  obtain ⟨haS, haK⟩ := ha
  unfold apartS at haS
  simp only [Bool.and_eq_true] at haS
  obtain ⟨a1, a2⟩ := haS
  have k1 : ∀ d, x.dst = some d → d ∉ looks ops y ∧ y.dst ≠ some d := by
    intro d hd
    rw [hd] at a1
    simpa using a1
  have k2 : ∀ d, y.dst = some d → d ∉ looks ops x := by
    intro d hd
    rw [hd] at a2
    simpa using a2
  have ly : ∀ (sl : List SV) (u : SV), ∀ d ∈ looks ops y, (setSl sl x.dst u)[d]? = sl[d]? := fun sl u d hd => setSl_get fun e => (k1 d e).1 hd
  have lx : ∀ (sl : List SV) (u : SV), ∀ d ∈ looks ops x, (setSl sl y.dst u)[d]? = sl[d]? := fun sl u d hd => setSl_get fun e => k2 d e hd
  have comm : ∀ (sl : List SV) (u v : SV), setSl (setSl sl x.dst u) y.dst v = setSl (setSl sl y.dst v) x.dst u := fun sl u v => setSl_comm fun d hd => (k1 d hd).2
  rcases h1 with ⟨w1, rfl⟩ | ⟨w1, q1, v1, r1, e1, sm1, o1, rfl⟩
  · rcases h2 with ⟨w2, rfl⟩ | ⟨w2, q2, v2, r2, e2, sm2, o2, rfl⟩
    · have w2' : wants ops y s.sl = some false := by rw [← wants_congr (ly s.sl (.tup []))]; exact w2
      refine ⟨_, (stepM_of hj).1 w2', ?_⟩
      have w1' : wants ops x (setSl s.sl y.dst (.tup [])) = some false := by rw [wants_congr (lx s.sl (.tup []))]; exact w1
      rw [(stepM_of hi).1 w1']
      simp only [comm]
    · have w2' : wants ops y s.sl = some true := by rw [← wants_congr (ly s.sl (.tup []))]; exact w2
      have o2' : (evM C y.op q2 (opd s.sl) (maskOW q2.1 0 s.ow) (y.dst.getD 0)).out = some (v2, r2) := by rw [← evM_congr (opd_congr (ly s.sl (.tup [])))]; exact o2
      refine ⟨_, (stepM_of hj).2 w2' q2 v2 r2 e2 sm2 o2', ?_⟩
      have w1' : wants ops x (setSl s.sl y.dst (splitS (isSrc ops j) v2)) = some false := by rw [wants_congr (lx s.sl _)]; exact w1
      rw [(stepM_of hi).1 w1']
      simp only [comm]
  · rcases h2 with ⟨w2, rfl⟩ | ⟨w2, q2, v2, r2, e2, sm2, o2, rfl⟩
    · have w2' : wants ops y s.sl = some false := by rw [← wants_congr (ly s.sl (splitS (isSrc ops i) v1))]; exact w2
      refine ⟨_, (stepM_of hj).1 w2', ?_⟩
      have w1' : wants ops x (setSl s.sl y.dst (.tup [])) = some true := by rw [wants_congr (lx s.sl (.tup []))]; exact w1
      have o1' : (evM C x.op q1 (opd (setSl s.sl y.dst (.tup []))) (maskOW q1.1 0 s.ow) (x.dst.getD 0)).out = some (v1, r1) := by rw [evM_congr (opd_congr (lx s.sl (.tup [])))]; exact o1
      have hgo := (stepM_of (C := C) (ks := ks) (st := ⟨setSl s.sl y.dst (.tup []), s.ow⟩) hi).2 w1' q1 v1 r1 e1 sm1 o1'
      refine hgo.trans ?_
      simp only [comm]
    · rw [e1, e2] at haK
      simp only at haK
      obtain ⟨p1, p1'⟩ := evM_put o1
      obtain ⟨p2, p2'⟩ := evM_put o2
      have hdis : (r1 = none ∧ r2 = none) ∨ ∀ d, q1.1.contains d = true → q2.1.contains d = false := by
        simp only [Bool.or_eq_true, Bool.and_eq_true, Bool.not_eq_true'] at haK
        rcases haK with ⟨f1, f2⟩ | hall
        · exact .inl ⟨p1 f1, p2 f2⟩
        · right
          intro d hd
          have := List.all_eq_true.1 hall d (by simpa using hd)
          simpa using this
      have hm2 : maskOW q2.1 0 (putM q1.1 s.ow r1) = maskOW q2.1 0 s.ow := by
        rcases hdis with ⟨rfl, _⟩ | h
        · rfl
        · cases r1 with
          | none => rfl
          | some z => exact mask_merge h _ _
      have hm1 : maskOW q1.1 0 (putM q2.1 s.ow r2) = maskOW q1.1 0 s.ow := by
        rcases hdis with ⟨_, rfl⟩ | h
        · rfl
        · cases r2 with
          | none => rfl
          | some z =>
            refine mask_merge (fun d hd => ?_) _ _
            cases h3 : q1.1.contains d with
            | false => rfl
            | true => rw [h d h3] at hd; cases hd
      have hpp : putM q2.1 (putM q1.1 s.ow r1) r2 = putM q1.1 (putM q2.1 s.ow r2) r1 := by
        rcases hdis with ⟨rfl, rfl⟩ | h
        · rfl
        · cases r1 with
          | none => cases r2 <;> rfl
          | some z1 =>
            cases r2 with
            | none => rfl
            | some z2 => exact merge_comm h _ _ _
      have w2' : wants ops y s.sl = some true := by rw [← wants_congr (ly s.sl (splitS (isSrc ops i) v1))]; exact w2
      have o2' : (evM C y.op q2 (opd s.sl) (maskOW q2.1 0 s.ow) (y.dst.getD 0)).out = some (v2, r2) := by
        rw [← evM_congr (opd_congr (ly s.sl (splitS (isSrc ops i) v1))), ← hm2]; exact o2
      refine ⟨_, (stepM_of hj).2 w2' q2 v2 r2 e2 sm1 o2', ?_⟩
      have w1' : wants ops x (setSl s.sl y.dst (splitS (isSrc ops j) v2)) = some true := by rw [wants_congr (lx s.sl _)]; exact w1
      have o1' : (evM C x.op q1 (opd (setSl s.sl y.dst (splitS (isSrc ops j) v2))) (maskOW q1.1 0 (putM q2.1 s.ow r2)) (x.dst.getD 0)).out = some (v1, r1) := by
        rw [evM_congr (opd_congr (lx s.sl _)), hm1]; exact o1
      have hgo := (stepM_of (C := C) (ks := ks) (st := ⟨setSl s.sl y.dst (splitS (isSrc ops j) v2), putM q2.1 s.ow r2⟩) hi).2 w1' q1 v1 r1 e1 (putM_small sm1 p2') o1'
      refine hgo.trans ?_
      simp only [comm, hpp]

theorem evOpsM_seq {α : Type} {C : Ctx} {ops : Array Oper} {ks : List (List Nat × Bool)} {k : St → Option α} {r : α} : (l : List (Oper × Nat)) → (∀ p ∈ l, ops[p.2]? = some p.1) → {st : St} → evOpsM C ops ks l st k = some r → ∃ stF, seqS (stepM C ops ks) (l.map (·.2)) st = some stF ∧ k stF = some r
  | [], _, st, h => ⟨st, rfl, h⟩
  | (o, i) :: l, hl, st, h => by
    have ho := hl (o, i) (by simp)
    simp only at ho
    have hl' : ∀ p ∈ l, ops[p.2]? = some p.1 := fun p hp => hl p (by simp [hp])
    unfold evOpsM at h
    simp only [List.map_cons, seqS]
    split at h
    · cases h
    · rename_i hw
      obtain ⟨slF, h1, h2⟩ := evOpsM_seq l hl' h
      rw [(stepM_of ho).1 hw]
      exact ⟨slF, h1, h2⟩
    · rename_i hw
      split at h
      · rename_i q hq
        split at h
        · rename_i hsm
          obtain ⟨s, h1, h2⟩ := Cmd.runA_out _ h
          rw [split_eq] at h2
          obtain ⟨slF, h3, h4⟩ := evOpsM_seq l hl' h2
          rw [(stepM_of ho).2 hw q s.1 s.2 hq hsm h1]
          exact ⟨slF, h3, h4⟩
        · cases h
      · cases h

theorem splitS_sound {F : Nat → Prop} {G : Gh} {ow : OW} {w : World} {src : Bool} {s : SV} {v : Value} (hv : Sv F G ow w.heap s v) : Sv F G ow w.heap (splitS src s) v := by
  obtain ⟨s2, e2, hsv2⟩ := split_sound (n := 0) (src := src) hv (k := fun z => some z) (r := splitS src s) (by rw [split_eq])
  cases e2
  exact hsv2

theorem drawSoundM {C : Ctx} {L : List (Nat × Obj)} (hC : C.Holds L) (hm : C.P.follows .mixedOrders = true) : DrawSoundM C L := by
  intro α nt fr F fp w0 vs id ops ks st a w k r hE hd h hok he Q hQ
  obtain ⟨hl, hr⟩ := region_list ops hd
  obtain ⟨stF, h1, h2⟩ := evOpsM_seq _ (fun p hp => (hl p hp).1) he
  rw [hr] at h1
  have hD : ∀ (i : Nat) (o : Oper), ops[i]? = some o → ∀ d, o.dst = some d → fr d = true := by
    intro i o ho d hx
    have hmem : o ∈ ops.toList := by
      obtain ⟨hlt, rfl⟩ := Array.getElem?_eq_some_iff.1 ho
      simp
    have := List.all_eq_true.1 hd o hmem
    rw [hx] at this
    simpa using this
  let R : St → Act → World → Prop := fun st a w => StI nt fr F fp w0 vs st a w
  refine wp_region_any hm (any_of_seq (step := stepM C ops ks) (R := R) (fun i j s s1 s2 => stepM_swap i j s s1 s2) ?_ hok (sF := stF) (fun a' w' hR => hQ stF a' w' h2 hR) ops.size _ st a _ (by simp) ?_ ?_ ?_ ?_)
  · intro i st st' a w hi hs hI K hK
    obtain ⟨o, ho, hs⟩ := stepM_some hs
    have hdo := hD i o ho
    obtain ⟨G, g1, g2, g3⟩ := hI.ex
    unfold wpOp
    rw [ho]
    simp only
    rcases hs with ⟨hw, rfl⟩ | ⟨hw, q, s, r, hq, hsm, hev, rfl⟩
    · rw [wants_sound g1 hw]
      exact hK _ _ (hI.slot (fun _ => sv_undef) hdo)
    · rw [wants_sound g1 hw]
      simp only [if_true]
      left
      have hFw := hE.wideAt hI.kept
      have hLw := hE.laidAt hI.kept g3
      have hFM : ∀ b, FM F G st.ow q.1 b → b < w.heap.size := fun b hb => FM_lt g2 hFw hb
      have hLM : Laid L (Own G (maskOW q.1 0 st.ow)) w.heap := fun p hp => ⟨fun h => (hLw p hp).1 (own_of_mask h), (hLw p hp).2⟩
      have hρ : Rho (FM F G st.ow q.1) G (maskOW q.1 0 st.ow) w.heap (opd st.sl) a.eval := fun x => sv_mask hsm (opd_rho g1 x)
      refine OpR.wp ?_
      unfold evM at hev
      split at hev
      · obtain ⟨x, e1, e2⟩ := Cmd.out_bind _ hev
        split at e2
        · rename_i hck
          simp only [Bool.and_eq_true] at hck
          simp only [Cmd.out, Option.some.injEq, Prod.mk.injEq] at e2
          obtain ⟨rfl, rfl⟩ := e2
          have hop := evOp_sound hC (op := o) rfl (hrep_mask hsm g2) hFM hLM hρ (Cmd.out_can _ e1)
          have conv : ∀ u w', (∃ s ow' G', (s, ow') = x ∧ Tr (FM F G st.ow q.1) G (maskOW q.1 0 st.ow) w G' ow' w' ∧ Sv (FM F G st.ow q.1) G' ow' w'.heap s u) → K (a.put o.dst u) w' := by
            rintro u w' ⟨s, ow', G', rfl, ht, hsv⟩
            obtain ⟨t1, t2⟩ := tr_unmask g2 hFw hsm ht hck.1
            exact hK _ _ (hI.op hE g1 g3 t1 (splitS_sound (t2 s u 8 hck.2 hsv)) hdo)
          rcases hop with ⟨u, w', q1, q2⟩ | ⟨w', q1, q2⟩ | ⟨f, args, q1, q2⟩
          · exact .inl ⟨u, w', q1, conv u w' q2⟩
          · exact .inr (.inl ⟨w', q1, conv undef w' q2⟩)
          · exact .inr (.inr ⟨f, args, q1, q2.mono fun e w' ⟨u, q3, q4⟩ => ⟨u, q3, conv u w' q4⟩⟩)
        · cases e2
      · split at hev
        · rename_i x hx
          simp only [Cmd.out, Option.some.injEq, Prod.mk.injEq] at hev
          obtain ⟨rfl, rfl⟩ := hev
          have hcan : (evJ C o.op (opd st.sl) st.ow).can fun s => s = opd st.sl x := by
            revert hx
            cases o.op with
            | move y => intro hx; cases hx; exact rfl
            | assign y => intro hx; cases hx; exact rfl
            | _ => intro hx; cases hx
          have hop := evJ_sound hC (op := o) rfl g2 hFw hLw (opd_rho g1) hcan
          have conv : ∀ u w', (∃ s, s = opd st.sl x ∧ Tr F G st.ow w G st.ow w' ∧ Sv F G st.ow w'.heap s u) → K (a.put o.dst u) w' := by
            rintro u w' ⟨s, rfl, ht, hsv⟩
            exact hK _ _ (hI.op hE g1 g3 ht (splitS_sound hsv) hdo)
          rcases hop with ⟨u, w', q1, q2⟩ | ⟨w', q1, q2⟩ | ⟨f, args, q1, q2⟩
          · exact .inl ⟨u, w', q1, conv u w' q2⟩
          · exact .inr (.inl ⟨w', q1, conv undef w' q2⟩)
          · exact .inr (.inr ⟨f, args, q1, q2.mono fun e w' ⟨u, q3, q4⟩ => ⟨u, q3, conv u w' q4⟩⟩)
        · obtain ⟨x, e1, e2⟩ := Cmd.out_bind _ hev
          split at e2
          · rename_i hck
            simp only [Bool.and_eq_true] at hck
            simp only [Cmd.out, Option.some.injEq, Prod.mk.injEq] at e2
            obtain ⟨rfl, rfl⟩ := e2
            have hop := evJ_sound hC (op := o) rfl (hrep_mask hsm g2) hFM hLM hρ (Cmd.out_can _ e1)
            have conv : ∀ u w', (∃ s, s = x ∧ Tr (FM F G st.ow q.1) G (maskOW q.1 0 st.ow) w G (maskOW q.1 0 st.ow) w' ∧ Sv (FM F G st.ow q.1) G (maskOW q.1 0 st.ow) w'.heap s u) → K (a.put o.dst u) w' := by
              rintro u w' ⟨s, rfl, ht, hsv⟩
              obtain ⟨t1, t2⟩ := tr_unmask_read g2 hFw hsm ht hck.1
              exact hK _ _ (hI.op hE g1 g3 t1 (splitS_sound (t2 s u 8 hck.2 hsv)) hdo)
            rcases hop with ⟨u, w', q1, q2⟩ | ⟨w', q1, q2⟩ | ⟨f, args, q1, q2⟩
            · exact .inl ⟨u, w', q1, conv u w' q2⟩
            · exact .inr (.inl ⟨w', q1, conv undef w' q2⟩)
            · exact .inr (.inr ⟨f, args, q1, q2.mono fun e w' ⟨u, q3, q4⟩ => ⟨u, q3, conv u w' q4⟩⟩)
          · cases e2
  · refine Nat.le_trans (List.length_filter_le _ _) (by simp)
  · intro j hj
    exfalso
    by_cases hlt : j < ops.size
    · simp [Array.getD, hlt] at hj
    · simp [Array.getD, hlt] at hj
  · have : ((List.range ops.size).filter fun i => !(Array.replicate ops.size false).getD i true) = List.range ops.size := by
      rw [List.filter_eq_self]
      intro i hi
      have := List.mem_range.1 hi
      simp [Array.getD, this]
    rw [this]
    exact h1
  · exact ⟨h.ex, ⟨h.kept.size, h.kept.heap, h.kept.cells, h.kept.os, h.kept.output, h.kept.tape⟩, h.defers, h.args, h.size⟩

theorem drawSound {C : Ctx} {L : List (Nat × Obj)} (hC : C.Holds L) (hm : C.P.follows .mixedOrders = true) : DrawSound C L := ⟨drawSoundJ hC hm, drawSoundM hC hm⟩

/-- THE THEOREM, regions drawn and all. -/
theorem sig_of_ev {C : Ctx} {L : List (Nat × Obj)} (hC : C.Holds L) (hm : C.P.follows .mixedOrders = true) {f : FuncId} {fn : Func} (hf : C.P.funcs[f]? = some fn) (hname : (fn.name == "runtime.NumGoroutine") = false) (ann : Ann) (args res : Sh) {den : args.T → Option (res.T × args.Out)}
    (hden : ∀ x y, den x = some y → evFunc C ann fn args res x = some y) (hbody : fn.body.isNone = false) : SigHolds C.P L f ⟨args, res, den⟩ :=
  evFunc_sound hC (drawSound hC hm) hf hname ann args res hden hbody

end Go.Pev
end

section
/-
  PEV, part 31: contexts of contracts; contracts of functions that take data and give data.
-/
namespace Go.Pev
open Go Go.RowKit

def AllOk (P : Program) (L : List (Nat × Obj)) (f : FuncId) (l : List Sig) : Prop := ∀ sg ∈ l, SigHolds P L f sg
theorem allok_nil {P : Program} {L : List (Nat × Obj)} {f : FuncId} : AllOk P L f [] := fun _ h => by cases h
theorem allok_cons {P : Program} {L : List (Nat × Obj)} {f : FuncId} {sg : Sig} {l : List Sig} (h : SigHolds P L f sg) (hl : AllOk P L f l) : AllOk P L f (sg :: l) := fun s hs => by
  rcases List.mem_cons.1 hs with rfl | hs
  · exact h
  · exact hl s hs

theorem holds_nil {P : Program} {L : List (Nat × Obj)} {k : Nat} : Ctx.Holds ⟨P, [], k⟩ L := fun f sg h => by simp [Ctx.sigsOf] at h
theorem holds_cons {P : Program} {L : List (Nat × Obj)} {k : Nat} {f : FuncId} {l : List Sig} {r : List (FuncId × List Sig)} (h : AllOk P L f l) (hr : Ctx.Holds ⟨P, r, k⟩ L) : Ctx.Holds ⟨P, (f, l) :: r, k⟩ L := fun g sg hs => by
  unfold Ctx.sigsOf at hs
  simp only [List.find?_cons] at hs
  by_cases e : f = g
  · subst e
    simp only [beq_self_eq_true] at hs
    exact h sg hs
  · have : (f == g) = false := by simpa using e
    rw [this] at hs
    exact hr g sg hs

theorem sig_zero {P : Program} {L : List (Nat × Obj)} {f : FuncId} {fn : Func} {A R : Sh} {b : (A.T → Option (R.T × A.Out)) → A.T → Option (R.T × A.Out)} (hf : P.funcs[f]? = some fn) (hname : (fn.name == "runtime.NumGoroutine") = false) (hbody : fn.body.isNone = false) :
    SigHolds P L f ⟨A, R, iter b 0⟩ := ⟨⟨fn, hf, hname, hbody⟩, fun _ _ _ _ _ _ _ _ _ _ _ h => by cases h⟩

/-! ### Data's values -/

theorem shR_cons {h : Array Obj} {ok : Nat → Prop} {k : Kd} {b : Sh} {x : Sh.T (.cons (.pur k) b)} {vs : List Value} {fp : List Nat} (e : ShR h ok (.cons (.pur k) b) x vs fp) : ∃ v r, vs = v :: r ∧ PayR h ok k x.1 v ∧ ShR h ok b x.2 r fp := by
  obtain ⟨v, r, f1, f2, rfl, rfl, ⟨v', h1, rfl, h2⟩, h3⟩ := e
  cases h1
  exact ⟨v, r, rfl, h2, h3⟩

theorem shR_nil {h : Array Obj} {ok : Nat → Prop} {x : Sh.T .nil} {vs : List Value} {fp : List Nat} (e : ShR h ok .nil x vs fp) : vs = [] ∧ fp = [] := e

theorem shR_cons_mk {h : Array Obj} {ok : Nat → Prop} {k : Kd} {b : Sh} {x : Sh.T (.cons (.pur k) b)} {v : Value} {r : List Value} {fp : List Nat} (h1 : PayR h ok k x.1 v) (h2 : ShR h ok b x.2 r fp) : ShR h ok (.cons (.pur k) b) x (v :: r) fp :=
  ⟨v, r, [], fp, rfl, rfl, ⟨v, rfl, rfl, h1⟩, h2⟩

theorem one_cells {v c : Value} (h : v.oneCell' = true) (hc : v.cells.toList = [c]) : v = c := by
  rw [cells_of_one h] at hc
  simpa using hc

theorem payR_int {h : Array Obj} {ok : Nat → Prop} {k : IntKind} {n : Int} {v : Value} (e : PayR h ok (.int k) n v) : v = .int k n := one_cells (e.2.2 rfl) e.1
theorem payR_str {h : Array Obj} {ok : Nat → Prop} {s : List UInt8} {v : Value} (e : PayR h ok .str s v) : v = .string ⟨s.toArray⟩ := one_cells (e.2.2 rfl) e.1
theorem payR_bool {h : Array Obj} {ok : Nat → Prop} {b : Bool} {v : Value} (e : PayR h ok .bool b v) : v = .bool b := one_cells (e.2.2 rfl) e.1

theorem payR_int_mk {h : Array Obj} {ok : Nat → Prop} {k : IntKind} {n : Int} : PayR h ok (.int k) n (.int k n) := ⟨rfl, (fun h => by cases h), fun _ => rfl⟩
theorem payR_str_mk {h : Array Obj} {ok : Nat → Prop} {s : List UInt8} : PayR h ok .str s (.string ⟨s.toArray⟩) := ⟨rfl, (fun h => by cases h), fun _ => rfl⟩
theorem payR_bool_mk {h : Array Obj} {ok : Nat → Prop} {b : Bool} : PayR h ok .bool b (.bool b) := ⟨rfl, (fun h => by cases h), fun _ => rfl⟩

/-- Slices of data: what they hold. -/
theorem payR_sl {h : Array Obj} {ok : Nat → Prop} {e : Kd} {l : List e.T} {v : Value} (p : PayR h ok (.sl false e) l v) : ∃ a c, v = .slice a l.length c ∧ l.length ≤ c ∧
    (l = [] ∨ ∃ b o r, a = some ⟨b, o, none⟩ ∧ ok b ∧ rowCells h b = some r ∧ ElemsR (fun x cs => Rep h ok e x cs) e.n l r o) := by
  obtain ⟨⟨a, c, h1, h2, h3⟩, _, h4⟩ := p
  exact ⟨a, c, one_cells (h4 rfl) h1, h2, h3⟩

def purs : List Kd → Sh
  | [] => .nil
  | k :: r => .cons (.pur k) (purs r)

theorem isPurs_purs : (l : List Kd) → isPurs (purs l) = true
  | [] => rfl
  | _ :: r => isPurs_purs r

theorem outR_purs {h h' : Array Obj} {ok ok' : Nat → Prop} : (s : Sh) → isPurs s = true → {x : s.T} → {o : s.Out} → {vs : List Value} → {fp : List Nat} → ShR h ok s x vs fp → OutR h' ok' s o vs []
  | .nil, _, _, _, vs, fp, e => ⟨e.1, rfl⟩
  | .cons (.pur k) b, hs, x, o, vs, fp, e => by
    obtain ⟨v, r, f1, f2, rfl, _, ⟨_, h1, _, _⟩, h3⟩ := e
    exact ⟨v, r, [], [], rfl, rfl, .inl ⟨rfl, rfl⟩, outR_purs b (by simpa [isPurs] using hs) h3⟩
  | .cons (.own _) _, hs, _, _, _, _, _ => by simp [isPurs] at hs
  | .cons (.row _) _, hs, _, _, _, _, _ => by simp [isPurs] at hs
  | .cons (.box _) _, hs, _, _, _, _, _ => by simp [isPurs] at hs
  | .cons (.agg _) _, hs, _, _, _, _, _ => by simp [isPurs] at hs
  | .cons (.fn _ _ _) _, hs, _, _, _, _, _ => by simp [isPurs] at hs
  | .cons .ign _, hs, _, _, _, _, _ => by simp [isPurs] at hs
  | .cons .nl _, hs, _, _, _, _, _ => by simp [isPurs] at hs
  | .cons .nil _, hs, _, _, _, _, _ => by simp [isPurs] at hs
  | .cons (.cons _ _) _, hs, _, _, _, _, _ => by simp [isPurs] at hs
  | .pur _, hs, _, _, _, _, _ => by simp [isPurs] at hs
  | .own _, hs, _, _, _, _, _ => by simp [isPurs] at hs
  | .row _, hs, _, _, _, _, _ => by simp [isPurs] at hs
  | .box _, hs, _, _, _, _, _ => by simp [isPurs] at hs
  | .agg _, hs, _, _, _, _, _ => by simp [isPurs] at hs
  | .fn _ _ _, hs, _, _, _, _, _ => by simp [isPurs] at hs
  | .ign, hs, _, _, _, _, _ => by simp [isPurs] at hs
  | .nl, hs, _, _, _, _, _ => by simp [isPurs] at hs

/-- A contract out of a law of calls: the results take new blocks fp1 alone. -/
theorem sig_pur {P : Program} {L : List (Nat × Obj)} {f : FuncId} {fn : Func} {A R : Sh} {den : A.T → Option (R.T × A.Out)} (hf : P.funcs[f]? = some fn) (hname : (fn.name == "runtime.NumGoroutine") = false) (hbody : fn.body.isNone = false)
    (hA : isPurs A = true) (hc : ∀ (w : World) (x : A.T) (vs : List Value) (y : R.T × A.Out) (F : Nat → Prop), (∀ b, F b → b < w.heap.size) → Laid L (fun _ => False) w.heap → ShR w.heap (fun b => ¬ F b) A x vs [] → den x = some y →
      Calls P f vs.toArray w fun e w' => ∃ rs fp, e = .returned (retV rs) ∧ ShR w'.heap (fun b => ¬ FP F fp b) R y.1 rs fp ∧ fp.Nodup ∧ (∀ b ∈ fp, w.heap.size ≤ b) ∧ Kept (fun _ => False) w w') : SigHolds P L f ⟨A, R, den⟩ := by
  refine ⟨⟨fn, hf, hname, hbody⟩, fun w F x vs fp y hF hL _ _ hsh hy => ?_⟩
  obtain ⟨rfl, _⟩ := isPurs_fp A hA hsh
  have hsh' : ShR w.heap (fun b => ¬ F b) A x vs [] := ShR.mono (fun b r hb hr => ⟨fun h => hb (.inl h), hr⟩) _ (fun _ _ => rfl) hsh
  refine (hc w x vs y F hF (fun p hp => ⟨fun h => h, (hL p hp).2⟩) hsh' hy).mono fun e w' ⟨rs, fp, h1, h2, h3, h4, h5⟩ => ?_
  have h5' : Kept (· ∈ ([] : List Nat)) w w' := ⟨h5.size, fun b hb _ => h5.heap b hb (fun h => h), h5.cells, h5.os, h5.output, h5.tape⟩
  refine ⟨rs, fp, [], h1, by simpa using h2, ?_, by simpa using h3, fun b hb => .inr (h4 b (by simpa using hb)), h5'⟩
  exact outR_purs A hA hsh

theorem kept_refl (w : World) : Kept (fun _ => False) w w := .refl _ _

theorem kept_grow (w : World) (k : Nat) (os : Array Obj) : Kept (fun _ => False) w (Sort.grow (w.drewN k) os) := by
  have hb : ∀ b, b < w.heap.size → (Sort.grow (w.drewN k) os).heap[b]? = w.heap[b]? := fun b hb => by
    show (w.heap ++ os)[b]? = _
    rw [Array.getElem?_append_left hb]
  refine ⟨?_, fun b h _ => hb b h, fun b r et f h => ⟨r, by rw [hb b (Array.getElem?_eq_some_iff.1 h).1]; exact h, rfl⟩, rfl, rfl, rfl⟩
  show w.heap.size ≤ (w.heap ++ os).size
  simp

theorem kept_drewN (w : World) (k : Nat) : Kept (fun _ => False) w (w.drewN k) := ⟨Nat.le_refl _, fun _ _ _ => rfl, fun _ r _ _ h => ⟨r, h, rfl⟩, rfl, rfl, rfl⟩

theorem kept_below {w w' : World} (h : Below w.heap.size w w') : Kept (fun _ => False) w w' :=
  ⟨h.size, fun b hb _ => h.block b hb, fun b r et f hr => ⟨r, by rw [h.block b (Array.getElem?_eq_some_iff.1 hr).1]; exact hr, rfl⟩, h.os, h.output, h.tape⟩

theorem below_kept {w w' : World} (h : Kept (fun _ => False) w w') : Below w.heap.size w w' :=
  ⟨h.os, h.tape, h.output, h.size, fun k hk => h.heap k hk fun h => h⟩
end Go.Pev
end

section
/-
  PEV, part 30: from what a statement says of its arguments to the evaluator's data.
-/
namespace Go.Pev
open Go Go.RowKit

/-- Data that came in: numbers fit, nothing is too long. -/
def Kd.WF : (k : Kd) → k.T → Prop
  | .int k, n => k.min ≤ n ∧ n ≤ k.max
  | .str, s => s.length ≤ 140737488351232
  | .sl _ e, l => l.length ≤ 140737488351232 ∧ ∀ x ∈ l, e.WF x
  | .cons a b, x => a.WF x.1 ∧ b.WF x.2
  | _, _ => True

section
variable {P : Program}

def fldOk (P : Program) (kd : TypeId → Option Kd) (ok : TypeId → Bool) : List Field → Nat → Nat → Bool
  | [], off, n => off == n
  | x :: r, off, n => ok x.type && x.offset == off && (match kd x.type with | some k => k.ch.n == P.cellsOf x.type && k.ch.leafy && fldOk P kd ok r (off + P.cellsOf x.type) n | none => false)

/-- A type lies in memory as its kind says. -/
def kdOk (P : Program) : Nat → TypeId → Bool
  | 0, _ => false
  | f + 1, t =>
    match undl P t with
    | some (.int _) | some .bool | some .string => true
    | some (.slice e) => (match kdOf P f e with | some k => k.n == P.cellsOf e && decide (0 < k.n) && decide (0 < P.bytesOf e) && kdOk P f e | none => false)
    | some (.struct fs) => fldOk P (kdOf P f) (kdOk P f) fs.toList 0 (P.cellsOf t)
    | _ => false

theorem Rep.ch {h : Array Obj} {ok : Nat → Prop} : (k : Kd) → {x : k.T} → {cs : List Value} → Rep h ok k x cs → Rep h ok k.ch (chT k x) cs
  | .int _, _, cs, e => ⟨cs, [], by simp, e, rfl⟩
  | .bool, _, cs, e => ⟨cs, [], by simp, e, rfl⟩
  | .str, _, cs, e => ⟨cs, [], by simp, e, rfl⟩
  | .err, _, cs, e => ⟨cs, [], by simp, e, rfl⟩
  | .any, _, cs, e => ⟨cs, [], by simp, e, rfl⟩
  | .sl _ _, _, cs, e => ⟨cs, [], by simp, e, rfl⟩
  | .nil, _, _, e => e
  | .cons _ _, _, _, e => e
  | .tree _, _, cs, e => ⟨cs, [], by simp, e, rfl⟩

theorem Kd.WF.ch : (k : Kd) → {x : k.T} → k.WF x → k.ch.WF (chT k x)
  | .int _, _, e => ⟨e, trivial⟩
  | .bool, _, e => ⟨e, trivial⟩
  | .str, _, e => ⟨e, trivial⟩
  | .err, _, e => ⟨e, trivial⟩
  | .any, _, e => ⟨e, trivial⟩
  | .sl _ _, _, e => ⟨e, trivial⟩
  | .nil, _, e => e
  | .cons _ _, _, e => e
  | .tree _, _, e => ⟨e, trivial⟩

theorem Rep.app {h : Array Obj} {ok : Nat → Prop} : (a : Kd) → a.leafy = true → {b : Kd} → {x : a.T} → {y : b.T} → {c1 c2 : List Value} → Rep h ok a x c1 → Rep h ok b y c2 → a.WF x → b.WF y → ∃ z : (a.app b).T, Rep h ok (a.app b) z (c1 ++ c2) ∧ (a.app b).WF z
  | .nil, _, b, x, y, c1, c2, e1, e2, w1, w2 => by
    have e1 : c1 = [] := e1
    subst e1
    exact ⟨y, e2, w2⟩
  | .cons a r, hl, b, x, y, c1, c2, e1, e2, w1, w2 => by
    simp only [Kd.leafy, Bool.and_eq_true] at hl
    obtain ⟨d1, d2, rfl, e3, e4⟩ := e1
    obtain ⟨z, e5, w5⟩ := Rep.app r hl.2 e4 e2 w1.2 w2
    exact ⟨(x.1, z), ⟨d1, d2 ++ c2, by simp, e3, e5⟩, w1.1, w5⟩
  | .int _, hl, _, _, _, _, _, _, _, _, _ => by cases hl
  | .bool, hl, _, _, _, _, _, _, _, _, _ => by cases hl
  | .str, hl, _, _, _, _, _, _, _, _, _ => by cases hl
  | .err, hl, _, _, _, _, _, _, _, _, _ => by cases hl
  | .any, hl, _, _, _, _, _, _, _, _, _ => by cases hl
  | .sl _ _, hl, _, _, _, _, _, _, _, _, _ => by cases hl
  | .tree _, hl, _, _, _, _, _, _, _, _, _ => by cases hl

theorem mapM_get {α β : Type} {g : α → Option β} : {l : List α} → {r : List β} → l.mapM g = some r → r.length = l.length ∧ ∀ i (h1 : i < l.length) (h2 : i < r.length), g l[i] = some r[i]
  | [], r, h => by cases h; exact ⟨rfl, fun i h => by simp at h⟩
  | a :: l, r, h => by
    simp only [List.mapM_cons, Option.bind_eq_bind, Option.bind_eq_some_iff, Option.pure_def, Option.some.injEq] at h
    obtain ⟨b, hb, r', hr, rfl⟩ := h
    obtain ⟨h1, h2⟩ := mapM_get hr
    refine ⟨by simp [h1], fun i h3 h4 => ?_⟩
    cases i with
    | zero => exact hb
    | succ i => exact h2 i (by simpa using h3) (by simpa using h4)

theorem weightsAll_mem {H : Type} {e : TypeId} : {l : List (DataW H)} → {d : DataW H} → d ∈ l → {q : Nat → Bool} → (DataW.weightsAll P e l).all q = true → (d.weights P e).all q = true
  | a :: l, d, hd, q, h => by
    simp only [DataW.weightsAll, List.all_append, Bool.and_eq_true] at h
    rcases List.mem_cons.1 hd with rfl | hd
    · exact h.1
    · exact weightsAll_mem hd h.2

theorem cell_some {w : World} {a : Addr} {v : Value} (h : w.cell? a = some v) : a.spot = none ∧ ∃ r, rowCells w.heap a.block = some r ∧ r[a.off]? = some v := by
  unfold World.cell? at h
  split at h
  · rename_i c t f hc
    split at h
    · cases h
    · rename_i hs
      refine ⟨by simpa using hs, c, by unfold rowCells; rw [hc], h⟩
  · cases h

theorem cells_sub {w : World} {b o n : Nat} {vs : List Value} {r : Array Value} (hr : rowCells w.heap b = some r) (h : w.cells? 0 ⟨b, o, none⟩ n = some vs) : vs = sub r o n ∧ o + n ≤ r.size ∨ n = 0 ∧ vs = [] := by
  unfold World.cells? at h
  rw [if_pos (Nat.zero_le _)] at h
  obtain ⟨h1, h2⟩ := mapM_get h
  simp only [List.length_range] at h1
  by_cases hn : n = 0
  · subst hn
    right
    exact ⟨rfl, List.eq_nil_of_length_eq_zero h1⟩
  left
  have key : ∀ i, i < n → r[o + i]? = vs[i]? := by
    intro i hi
    have h3 : i < vs.length := by omega
    have := h2 i (by simpa using hi) h3
    simp only [List.getElem_range] at this
    obtain ⟨_, r', hr', hv⟩ := cell_some this
    have hb : (Addr.add ⟨b, o, none⟩ i).block = b := by unfold Addr.add; split <;> rfl
    have ho : (Addr.add ⟨b, o, none⟩ i).off = o + i := by unfold Addr.add; split <;> simp_all
    rw [hb, hr] at hr'
    cases hr'
    rw [ho] at hv
    rw [hv, List.getElem?_eq_getElem h3]
  have hsz : o + n ≤ r.size := by
    have := key (n - 1) (by omega)
    rw [List.getElem?_eq_getElem (show n - 1 < vs.length by omega)] at this
    have := (Array.getElem?_eq_some_iff.1 this).1
    omega
  refine ⟨?_, hsz⟩
  apply List.ext_getElem?
  intro i
  unfold sub
  rw [List.getElem?_take, List.getElem?_drop]
  by_cases hi : i < n
  · rw [if_pos hi, ← key i hi]; simp
  · rw [if_neg hi, List.getElem?_eq_none (by omega)]

theorem trod_rep {H : Type} {enc : TypeId × Value → H} {w : World} {spare : Nat → Bool} {held : Bool} : (fuel f : Nat) → {t : TypeId} → {cs : List Value} → {d : DataW H} → {ps : List MemPlace} → {k : Kd} → DataW.trod enc P w 0 spare held fuel t cs = some (d, ps) → kdOf P f t = some k → kdOk P f t = true →
    (d.weights P t).all (· ≤ reachBytes) = true → ∃ x : k.T, Rep w.heap (fun _ => True) k x cs ∧ k.WF x
  | 0, _, _, _, _, _, _, h, _, _, _ => by simp [DataW.trod] at h
  | _ + 1, 0, _, _, _, _, _, _, hk, _, _ => by simp [kdOf] at hk
  | fuel + 1, f + 1, t, cs, d, ps, k, h, hk, ho, hw => by
    simp only [kdOf, kdOk, undl] at hk ho
    cases hu : P.underlying t with
    | none => rw [hu] at hk; cases hk
    | some td =>
      rw [hu] at hk ho
      cases td with
      | bool =>
        simp only [Option.some.injEq] at hk
        subst hk
        obtain ⟨b, rfl, _⟩ := DataW.trod_bool hu h
        exact ⟨b, rfl, trivial⟩
      | int kk =>
        simp only [Option.some.injEq] at hk
        subst hk
        obtain ⟨n, rfl, _, hwf⟩ := DataW.trod_int hu h
        refine ⟨n, rfl, ?_⟩
        simpa [Lit.wf, Kd.WF] using hwf
      | string =>
        simp only [Option.some.injEq] at hk
        subst hk
        obtain ⟨s, rfl, hd, _⟩ := DataW.trod_string hu h
        cases hd
        refine ⟨s.data.toList, rfl, ?_⟩
        simp only [DataW.weights, List.all_cons, List.all_nil, Bool.and_true, decide_eq_true_eq] at hw
        exact hw
      | slice e =>
        cases he : kdOf P f e with
        | none => simp [he] at hk
        | some ke =>
          simp only [he, Option.some.injEq] at hk
          subst hk
          simp only [he, Bool.and_eq_true, beq_iff_eq, decide_eq_true_eq] at ho
          obtain ⟨⟨⟨hn, hpos⟩, hby⟩, hoe⟩ := ho
          rcases DataW.trod_slice hu h with ⟨rfl, _⟩ | ⟨a, len, cap, elems, rest, n, hfu, rfl, hd, _, hlc, _, hel, hall, _, _⟩
          · exact ⟨[], ⟨none, 0, rfl, Nat.le_refl _, .inl rfl⟩, by simp, fun x hx => by simp at hx⟩
          · cases hfu
            cases hd
            simp only [DataW.weights, hu, List.all_cons, List.all_append, Bool.and_eq_true, decide_eq_true_eq, List.length_map] at hw
            obtain ⟨hwl, hwe, _⟩ := hw
            have hlen : len ≤ 140737488351232 := by
              have : elems.length + rest.length ≤ (elems.length + rest.length) * P.bytesOf e := Nat.le_mul_of_pos_right _ hby
              unfold reachBytes at hwl
              omega
            cases len with
            | zero => exact ⟨[], ⟨some a, cap, rfl, Nat.zero_le _, .inl rfl⟩, by simp, fun x hx => by simp at hx⟩
            | succ len =>
              have helt : ∀ i, i < len + 1 → ∃ vs x, w.cells? 0 (a.add (i * P.cellsOf e)) (P.cellsOf e) = some vs ∧ Rep w.heap (fun _ => True) ke x vs ∧ ke.WF x := by
                intro i hi
                have h1 := hall i hi
                rw [List.getElem?_eq_getElem (show i < elems.length by omega)] at h1
                obtain ⟨vs, h2, h3⟩ := Option.bind_eq_some_iff.1 h1
                obtain ⟨x, h4, h5⟩ := trod_rep fuel f (d := elems[i].1) (ps := elems[i].2) h3 he hoe (weightsAll_mem (List.mem_map.2 ⟨elems[i], List.getElem_mem _, rfl⟩) hwe)
                exact ⟨vs, x, h2, h4, h5⟩
              -- where it lies
              obtain ⟨b, o, sp⟩ := a
              obtain ⟨vs0, _, hc0, _, _⟩ := helt 0 (by omega)
              have hsp : sp = none ∧ ∃ r, rowCells w.heap b = some r := by
                unfold World.cells? at hc0
                rw [if_pos (Nat.zero_le _)] at hc0
                obtain ⟨h1, h2⟩ := mapM_get hc0
                have := h2 0 (by simp; omega) (by rw [h1]; simp; omega)
                obtain ⟨h3, r, h4, _⟩ := cell_some this
                simp [Addr.add] at h3 h4
                exact ⟨h3, r, h4⟩
              obtain ⟨rfl, r, hr⟩ := hsp
              have hadd : ∀ i, Addr.add ⟨b, o, none⟩ i = ⟨b, o + i, none⟩ := fun i => by unfold Addr.add; split <;> simp_all
              have hch : ∀ i : Fin (len + 1), ∃ x, Rep w.heap (fun _ => True) ke x (sub r (o + i.1 * ke.n) ke.n) ∧ ke.WF x ∧ o + i.1 * ke.n + ke.n ≤ r.size := by
                intro i
                obtain ⟨vs, x, h1, h2, h3⟩ := helt i.1 i.2
                rw [hadd, ← hn] at h1
                rcases cells_sub hr h1 with ⟨rfl, h4⟩ | ⟨h4, _⟩
                · exact ⟨x, h2, h3, h4⟩
                · omega
              refine ⟨List.ofFn fun i => (hch i).choose, ⟨some ⟨b, o, none⟩, cap, by simp, by simp; omega, .inr ⟨b, o, r, rfl, trivial, hr, ?_, fun i hi => ?_⟩⟩, by simp; omega, fun x hx => ?_⟩
              · have := (hch ⟨len, by omega⟩).choose_spec.2.2
                simp only [List.length_ofFn]
                rw [Nat.succ_mul]
                simp only at this
                omega
              · simp only [List.length_ofFn] at hi
                simp only [List.getElem_ofFn]
                exact (hch ⟨i, hi⟩).choose_spec.1
              · obtain ⟨i, rfl⟩ := List.mem_ofFn.1 hx
                exact (hch i).choose_spec.2.1
      | struct fs =>
        obtain ⟨xs, n, hfu, hd, hcl, hxl, hall⟩ := DataW.trod_struct hu h
        cases hfu
        cases hd
        simp only [DataW.weights, hu] at hw
        simp only at hk ho
        have key : ∀ (l : List Field) (i off : Nat) (kl : Kd), fs.toList.drop i = l → l.foldr (fun x acc => match kdOf P f x.type, acc with | some k, some r => some (k.ch.app r) | _, _ => none) (some .nil) = some kl →
            fldOk P (kdOf P f) (kdOk P f) l off (P.cellsOf t) = true → (DataW.weightsEach P (l.map (·.type)) ((xs.map (·.1)).drop i)).all (· ≤ reachBytes) = true → ∃ y : kl.T, Rep w.heap (fun _ => True) kl y (cs.drop off) ∧ kl.WF y := by
          intro l
          induction l with
          | nil =>
            intro i off kl _ hkl hfo _
            simp only [List.foldr_nil, Option.some.injEq] at hkl
            subst hkl
            simp only [fldOk, beq_iff_eq] at hfo
            refine ⟨(), ?_, trivial⟩
            show cs.drop off = []
            exact List.drop_eq_nil_of_le (by omega)
          | cons fd l ih =>
            intro i off kl hl hkl hfo hwe
            simp only [List.foldr_cons] at hkl
            cases hk1 : kdOf P f fd.type with
            | none => rw [hk1] at hkl; simp at hkl
            | some k1 =>
              rw [hk1] at hkl
              split at hkl
              · rename_i k1' r hk1' hr
                cases hk1'
                cases hkl
                simp only [fldOk, hk1, Bool.and_eq_true, beq_iff_eq] at hfo
                obtain ⟨⟨hok1, hoff⟩, ⟨hkn, hlf⟩, hrest⟩ := hfo
                have hi : fs.toList[i]? = some fd := by
                  have := congrArg (fun z => z[0]?) hl
                  simpa [List.getElem?_drop] using this
                have hilt : i < xs.length := by
                  have := (List.getElem?_eq_some_iff.1 hi).1
                  simp at this
                  omega
                have htr := hall i fd (by simpa using hi)
                rw [List.getElem?_eq_getElem hilt, hoff] at htr
                have hdr : (xs.map (·.1)).drop i = xs[i].1 :: (xs.map (·.1)).drop (i + 1) := by
                  rw [List.drop_eq_getElem_cons (by simpa using hilt)]
                  simp
                rw [hdr] at hwe
                simp only [List.map_cons, DataW.weightsEach, List.all_append, Bool.and_eq_true] at hwe
                obtain ⟨x, e1, w1⟩ := trod_rep fuel f (d := xs[i].1) (ps := xs[i].2) htr hk1 hok1 hwe.1
                obtain ⟨y, e2, w2⟩ := ih (i + 1) (off + P.cellsOf fd.type) r (by
                  have := congrArg List.tail hl
                  simpa using this) hr hrest hwe.2
                obtain ⟨z, e3, w3⟩ := Rep.app k1.ch hlf e1.ch e2 w1.ch w2
                refine ⟨z, ?_, w3⟩
                have hsplit : (cs.drop off).take (P.cellsOf fd.type) ++ cs.drop (off + P.cellsOf fd.type) = cs.drop off := by
                  rw [← List.drop_drop, List.take_append_drop]
                rw [hsplit] at e3
                exact e3
              · cases hkl
        obtain ⟨y, e1, w1⟩ := key fs.toList 0 0 k (by simp) hk ho (by simpa using hw)
        exact ⟨y, by simpa using e1, w1⟩
      | interface ms => simp at ho
      | _ => simp at hk

/-! ### Arguments -/

def WFs : (l : List Kd) → (purs l).T → Prop
  | [], _ => True
  | k :: r, x => k.WF x.1 ∧ WFs r x.2

/-- Which types a statement's arguments may have. -/
def argOk (P : Program) (t : TypeId) (k : Kd) : Bool :=
  (match kdOf P 16 t with | some k' => decide (k' = k) | none => false) && kdOk P 16 t && (!k.isSt || k.leafy)

theorem app_isSt : (a : Kd) → {b : Kd} → b.isSt = true → (a.app b).isSt = true
  | .cons _ _, _, _ => rfl
  | .nil, _, h => h
  | .int _, _, h => h
  | .bool, _, h => h
  | .str, _, h => h
  | .err, _, h => h
  | .any, _, h => h
  | .sl _ _, _, h => h
  | .tree _, _, h => h

theorem payR_of' {f : Nat} {w : World} {base : Nat} {t : TypeId} {k' : Kd} {x : k'.T} {v : Value} (hk1 : kdOf P (f + 1) t = some k') (ho : kdOk P (f + 1) t = true) (hl : (!k'.isSt || k'.leafy) = true) (hr : Rep w.heap (fun _ => True) k' x v.cells.toList) (hv : Value.okWide P w .any base t v) : PayR w.heap (fun _ => True) k' x v := by
    simp only [kdOf, kdOk, undl] at hk1 ho
    cases hu : P.underlying t with
    | none => rw [hu] at hk1; cases hk1
    | some td =>
      rw [hu] at hk1 ho
      simp only [Value.okWide, hu] at hv
      cases td with
      | bool =>
        simp only [Option.some.injEq] at hk1
        subst hk1
        exact ⟨hr, (fun h => by cases h), fun _ => by simp only [Cell.okWide, hu] at hv; cases v <;> simp_all [Cell.ok, Value.oneCell']⟩
      | int kk =>
        simp only [Option.some.injEq] at hk1
        subst hk1
        exact ⟨hr, (fun h => by cases h), fun _ => by simp only [Cell.okWide, hu] at hv; cases v <;> simp_all [Cell.ok, Value.oneCell']⟩
      | string =>
        simp only [Option.some.injEq] at hk1
        subst hk1
        exact ⟨hr, (fun h => by cases h), fun _ => by simp only [Cell.okWide, hu] at hv; cases v <;> simp_all [Cell.ok, Value.oneCell']⟩
      | slice e =>
        cases he : kdOf P f e with
        | none => simp [he] at hk1
        | some ke =>
          simp only [he, Option.some.injEq] at hk1
          subst hk1
          exact ⟨hr, (fun h => by cases h), fun _ => by simp only [Cell.okWide, hu] at hv; cases v <;> simp_all [Cell.ok, Value.oneCell']⟩
      | struct fs =>
        obtain ⟨cs, rfl, _⟩ := hv
        have hst : k'.isSt = true := by
          have key : ∀ (l : List Field) (kl : Kd), l.foldr (fun x acc => match kdOf P f x.type, acc with | some k, some r => some (k.ch.app r) | _, _ => none) (some .nil) = some kl → kl.isSt = true := by
            intro l
            induction l with
            | nil => intro kl h; cases h; rfl
            | cons fd l ih =>
              intro kl h
              simp only [List.foldr_cons] at h
              split at h
              · rename_i k1 r _ hr
                cases h
                exact app_isSt _ (ih r hr)
              · cases h
          exact key fs.toList k' hk1
        refine ⟨hr, fun _ => ⟨⟨cs, rfl⟩, ?_⟩, fun h => ?_⟩
        · simpa [hst] using hl
        · rw [hst] at h; cases h
      | interface ms => simp at ho
      | _ => simp at hk1

theorem payR_of {w : World} {base : Nat} {t : TypeId} {k : Kd} {x : k.T} {v : Value} (ha : argOk P t k = true) (hr : Rep w.heap (fun _ => True) k x v.cells.toList) (hv : Value.okWide P w .any base t v) : PayR w.heap (fun _ => True) k x v := by
  simp only [argOk, Bool.and_eq_true] at ha
  obtain ⟨⟨hk, ho⟩, hl⟩ := ha
  cases hk1 : kdOf P 16 t with
  | none => rw [hk1] at hk; cases hk
  | some k' =>
    rw [hk1] at hk
    obtain rfl := of_decide_eq_true hk
    exact payR_of' (f := 15) hk1 ho hl hr hv

theorem args_rep {H : Type} {enc : TypeId × Value → H} {w : World} {base : Nat} : (ts : List TypeId) → (ks : List Kd) → {vs : List Value} → {ds : List (DataW H)} → {ps : List MemPlace} → DataW.TrodAll enc P w 0 (fun _ => true) true ts vs ds ps →
    ts.length = ks.length → (ts.zip ks).all (fun p => argOk P p.1 p.2) = true → (∀ (j : Nat) t v, ts[j]? = some t → vs[j]? = some v → Value.okWide P w .any base t v) → (DataW.weightsEach P ts ds).all (· ≤ reachBytes) = true →
    ∃ x : (purs ks).T, ShR w.heap (fun _ => True) (purs ks) x vs [] ∧ WFs ks x
  | [], ks, vs, ds, ps, h, hl, _, _, _ => by
    cases ks with
    | cons _ _ => simp at hl
    | nil =>
      cases vs with
      | nil => exact ⟨(), ⟨rfl, rfl⟩, trivial⟩
      | cons _ _ => cases ds <;> exact h.elim
  | t :: ts, ks, vs, ds, ps, h, hl, hk, hv, hw => by
    cases ks with
    | nil => simp at hl
    | cons k ks =>
      cases vs with
      | nil => cases ds <;> exact h.elim
      | cons v vs =>
        cases ds with
        | nil => exact h.elim
        | cons d ds =>
          obtain ⟨p, q, ⟨fuel, h1⟩, h2, _⟩ := h
          simp only [List.zip_cons_cons, List.all_cons, Bool.and_eq_true] at hk
          simp only [DataW.weightsEach, List.all_append, Bool.and_eq_true] at hw
          have ha := hk.1
          simp only [argOk, Bool.and_eq_true] at ha
          obtain ⟨⟨hk1, hk2⟩, _⟩ := ha
          cases hk3 : kdOf P 16 t with
          | none => rw [hk3] at hk1; cases hk1
          | some k' =>
            rw [hk3] at hk1
            obtain rfl := of_decide_eq_true hk1
            obtain ⟨x, e1, w1⟩ := trod_rep fuel 16 h1 hk3 hk2 hw.1
            obtain ⟨y, e2, w2⟩ := args_rep ts ks h2 (by simpa using hl) hk.2 (fun j t v ht hv' => hv (j + 1) t v ht hv') hw.2
            exact ⟨(x, y), shR_cons_mk (payR_of hk.1 e1 (hv 0 t v rfl rfl)) e2, w1, w2⟩

/-- A law, called. -/
theorem law_calls {L : List (Nat × Obj)} {f : FuncId} {ks : List Kd} {den : Nat → (purs ks).T → Option ((Bool × Unit) × (purs ks).Out)} (hs : ∀ k, SigHolds P L f ⟨purs ks, .cons (.pur .bool) .nil, den k⟩)
    (hden : ∀ x, WFs ks x → ∃ k o, den k x = some ((true, ()), o)) {w : World} (hL : Laid L (fun _ => False) w.heap) {vs : List Value} {x : (purs ks).T} (hx : ShR w.heap (fun _ => True) (purs ks) x vs []) (hw : WFs ks x) :
    Calls P f vs.toArray w fun e w' => e = .returned (.bool true) ∧ Below w.heap.size w w' := by
  obtain ⟨k, o, hd⟩ := hden x hw
  have hx' : ShR w.heap (fun b => ¬ FP (fun _ => False) [] b) (purs ks) x vs [] := ShR.mono (fun b r _ hr => ⟨fun h => by rcases h with h | h; exact h; simp at h, hr⟩) _ (fun _ _ => rfl) hx
  refine ((hs k).2 w (fun _ => False) x vs [] _ (fun _ h => h.elim) (fun p hp => ⟨fun h => by simp at h, (hL p hp).2⟩) List.nodup_nil (fun _ h => by simp at h) hx' hd).mono fun e w' ⟨rs, fp1, fp2, he, hr, _, _, _, hk⟩ => ?_
  obtain ⟨v, r, rfl, p, h2⟩ := shR_cons hr
  obtain ⟨rfl, _⟩ := shR_nil h2
  obtain rfl := payR_bool p
  refine ⟨he, below_kept ⟨hk.size, fun b hb _ => hk.heap b hb (fun h => by simp at h), hk.cells, hk.os, hk.output, hk.tape⟩⟩

theorem trodAll_back {H : Type} {enc : TypeId × Value → H} {w w' : World} (hl : laidOutB P = true) (hb : Below w.heap.size w w') : (ts : List TypeId) → ts.all (fun t => P.readableRec t && decide (t < P.types.size)) = true → {vs : List Value} → {ds : List (DataW H)} → {ps : List MemPlace} →
    DataW.TrodAll enc P w 0 (fun _ => true) true ts vs ds ps → DataW.TrodAll enc P w' 0 (fun b => decide (b < w.heap.size)) true ts vs ds ps
  | [], _, vs, ds, ps, h => by
    cases vs <;> cases ds <;> first | exact h | exact h.elim
  | t :: ts, ht, vs, ds, ps, h => by
    cases vs with
    | nil => cases ds <;> exact h.elim
    | cons v vs =>
      cases ds with
      | nil => exact h.elim
      | cons d ds =>
        simp only [List.all_cons, Bool.and_eq_true, decide_eq_true_eq] at ht
        obtain ⟨p, q, h1, h2, rfl⟩ := h
        have hlt : ∀ x ∈ p, x.block < w.heap.size := by
          obtain ⟨m, hm⟩ := h1
          exact DataW.trod_lt m _ _ _ hm
        exact ⟨p, q, Below.trod hl ht.1.1 ht.1.2 h1 hb hlt, trodAll_back hl hb ts ht.2 h2, rfl⟩

theorem trodAll_len {H : Type} {enc : TypeId × Value → H} {w : World} {base : Nat} {sp : Nat → Bool} {held : Bool} : (ts : List TypeId) → {vs : List Value} → {ds : List (DataW H)} → {ps : List MemPlace} → DataW.TrodAll enc P w base sp held ts vs ds ps → ds.length = ts.length
  | [], vs, ds, ps, h => by cases vs <;> cases ds <;> first | rfl | exact h.elim
  | t :: ts, vs, ds, ps, h => by
    cases vs with
    | nil => cases ds <;> exact h.elim
    | cons v vs =>
      cases ds with
      | nil => exact h.elim
      | cons d ds =>
        obtain ⟨p, q, _, h2, _⟩ := h
        simp [trodAll_len ts h2]

theorem list_one {α : Type} {l : List α} (h : l.length = 1) : ∃ a, l = [a] := by
  match l, h with
  | [a], _ => exact ⟨a, rfl⟩
theorem list_two {α : Type} {l : List α} (h : l.length = 2) : ∃ a b, l = [a, b] := by
  match l, h with
  | [a, b], _ => exact ⟨a, b, rfl⟩
theorem list_three {α : Type} {l : List α} (h : l.length = 3) : ∃ a b c, l = [a, b, c] := by
  match l, h with
  | [a, b, c], _ => exact ⟨a, b, c, rfl⟩
theorem list_four {α : Type} {l : List α} (h : l.length = 4) : ∃ a b c d, l = [a, b, c, d] := by
  match l, h with
  | [a, b, c, d], _ => exact ⟨a, b, c, d, rfl⟩

theorem Laid.append {L L' : List (Nat × Obj)} {I : Nat → Prop} {h : Array Obj} (h1 : Laid L I h) (h2 : Laid L' I h) : Laid (L ++ L') I h := fun p hp => by
  rcases List.mem_append.1 hp with hp | hp
  · exact h1 p hp
  · exact h2 p hp
theorem Laid.nil {I : Nat → Prop} {h : Array Obj} : Laid [] I h := fun _ hp => by cases hp

theorem var_obj {w : World} {name : String} {cs : Array Value} {g : Nat} (hg : P.globalNamed name = some g) (h : w.var? P name = some cs) : ∃ t fr, w.heap[g]? = some (.cells cs t fr) := by
  unfold World.var? at h
  rw [hg] at h
  simp only [Option.bind_some] at h
  split at h
  · rename_i c t fr hc
    cases h
    exact ⟨t, fr, hc⟩
  · cases h
end
end Go.Pev
end

section
/- Contracts of the library's functions at this dump, laid (out of the kit's shelf, by its own tools, trimmed). -/
namespace Go.Proofs
open Go.Shelf
def Tryz.lays157_ren : Go.Shelf.Ren := ⟨fun | 157 => 151 | 229 => 167 | 199 => 168 | 261 => 177 | 311 => 181 | 312 => 182 | n => n, fun | 9 => 9 | 31 => 22 | 3 => 3 | 5 => 5 | 4 => 4 | 119 => 213 | 0 => 0 | 40 => 215 | 152 => 223 | 21 => 21 | 154 => 225 | 51 => 219 | 141 => 227 | 196 => 233 | 193 => 230 | 198 => 236 | 49 => 234 | 194 => 231 | 201 => 239 | 226 => 243 | 46 => 166 | 227 => 244 | n => n, fun | 0 => 0 | 6 => 3 | n => n⟩
theorem Tryz.lays157 : Go.Proofs.Lays.n157 Tryz.prog Tryz.lays157_ren := {
  mixed := by kernel_rfl
  f157 := Tryz.func151.trans (congrArg some (by kernel_rfl))
  f199 := Tryz.func168.trans (congrArg some (by kernel_rfl))
  f229 := Tryz.func167.trans (congrArg some (by kernel_rfl))
  f261 := Tryz.func177.trans (congrArg some (by kernel_rfl))
  f311 := Tryz.func181.trans (congrArg some (by kernel_rfl))
  f312 := Tryz.func182.trans (congrArg some (by kernel_rfl))
  t0 := Tryz.underlying0
  a0 := Tryz.isAgg0
  z0 := Tryz.sizeOf0
  v0 := Tryz.zeroValue0
  t3 := Tryz.underlying3
  a3 := Tryz.isAgg3
  z3 := Tryz.sizeOf3
  v3 := Tryz.zeroValue3
  t4 := Tryz.underlying4
  a4 := Tryz.isAgg4
  z4 := Tryz.sizeOf4
  v4 := Tryz.zeroValue4
  t5 := Tryz.underlying5
  a5 := Tryz.isAgg5
  z5 := Tryz.sizeOf5
  v5 := Tryz.zeroValue5
  t9 := Tryz.underlying9
  a9 := Tryz.isAgg9
  z9 := Tryz.sizeOf9
  v9 := Tryz.zeroValue9
  t21 := Tryz.underlying21
  a21 := Tryz.isAgg21
  z21 := Tryz.sizeOf21
  v21 := Tryz.zeroValue21
  t31 := Tryz.underlying22
  a31 := Tryz.isAgg22
  z31 := Tryz.sizeOf22
  v31 := Tryz.zeroValue22
  t40 := Tryz.underlying215
  a40 := Tryz.isAgg215
  z40 := Tryz.sizeOf215
  v40 := Tryz.zeroValue215
  t46 := Tryz.underlying166
  a46 := Tryz.isAgg166
  z46 := Tryz.sizeOf166
  v46 := Tryz.zeroValue166
  t49 := Tryz.underlying234
  a49 := Tryz.isAgg234
  z49 := Tryz.sizeOf234
  v49 := Tryz.zeroValue234
  t51 := Tryz.underlying219
  a51 := Tryz.isAgg219
  z51 := Tryz.sizeOf219
  v51 := Tryz.zeroValue219
  t119 := Tryz.underlying213
  a119 := Tryz.isAgg213
  z119 := Tryz.sizeOf213
  t141 := Tryz.underlying227
  a141 := Tryz.isAgg227
  z141 := Tryz.sizeOf227
  v141 := Tryz.zeroValue227
  t152 := Tryz.underlying223
  a152 := Tryz.isAgg223
  z152 := Tryz.sizeOf223
  v152 := Tryz.zeroValue223
  t154 := Tryz.underlying225
  a154 := Tryz.isAgg225
  z154 := Tryz.sizeOf225
  v154 := Tryz.zeroValue225
  t193 := Tryz.underlying230
  a193 := Tryz.isAgg230
  z193 := Tryz.sizeOf230
  v193 := Tryz.zeroValue230
  t194 := Tryz.underlying231
  a194 := Tryz.isAgg231
  z194 := Tryz.sizeOf231
  v194 := Tryz.zeroValue231
  t196 := Tryz.underlying233
  a196 := Tryz.isAgg233
  z196 := Tryz.sizeOf233
  v196 := Tryz.zeroValue233
  t198 := Tryz.underlying236
  a198 := Tryz.isAgg236
  z198 := Tryz.sizeOf236
  v198 := Tryz.zeroValue236
  t201 := Tryz.underlying239
  a201 := Tryz.isAgg239
  z201 := Tryz.sizeOf239
  v201 := Tryz.zeroValue239
  t226 := Tryz.underlying243
  a226 := Tryz.isAgg243
  z226 := Tryz.sizeOf243
  v226 := Tryz.zeroValue243
  t227 := Tryz.underlying244
  a227 := Tryz.isAgg244
  z227 := Tryz.sizeOf244
  v227 := Tryz.zeroValue244
  g0 := by kernel_rfl
  g6 := by kernel_rfl }
open Go.RowKit Go.Lib in
/-- strings.Fields, the table by 'Lib.TabIs' (as strings.TrimSpace's contract). 'hg': the table's number, by its name: at a dump 'by kernel_rfl'. (LAID: no walk: one application.) -/
theorem Tryz.strings_Fields (s : ByteArray) (w : World) (hs : s.size < 4294967281) (hascii : ∀ (j : Nat) b, s.data.toList[j]? = some b → b.toNat < 128) (htab : Lib.TabIs Tryz.prog w "strings.asciiSpace" .u8 Lib.asciiSpaceTab) :
    Calls Tryz.prog 151 #[.string s] w fun e w' =>
      e = .returned (.slice (some ⟨w.heap.size, 0, none⟩) (Lib.fields s.data.toList).length (Lib.fields s.data.toList).length) ∧ w' = w.alloc (.cells ((Lib.fields s.data.toList).map fun l => Value.string ⟨l.toArray⟩).toArray 9) := Any.strings_Fields Tryz.lays157 (by kernel_rfl) (by kernel_rfl) s w hs hascii htab
end Go.Proofs
end

section
/-
  strings.Fields, as a contract.
-/
open Go.Proofs
namespace Go.Pev.F.Lb

/-- The table of white signs is laid. -/
def NeedSp (L : List (Nat × Obj)) : Prop := ∃ t fr, (0, Obj.cells (Go.Lib.asciiSpaceTab.map fun z => Value.int .u8 z).toArray t fr) ∈ L

def Fields.A : Sh := .cons (.pur .str) .nil
def Fields.R : Sh := .cons (.own .str) .nil
noncomputable def Fields (_ : Nat) : (List UInt8 × Unit) → Option ((List (List UInt8) × Unit) × (Unit × Unit)) := fun x =>
  if x.1.length < 4294967281 ∧ x.1.all (fun b => decide (b.toNat < 128)) = true then some ((Go.Lib.fields x.1, ()), ((), ())) else none
noncomputable def Fields.sg (k : Nat) : Sig := ⟨Fields.A, Fields.R, Fields k⟩

theorem sp_of {L : List (Nat × Obj)} {w : World} (h : NeedSp L) (hL : Laid L (fun _ => False) w.heap) : Go.Lib.TabIs Tryz.prog w "strings.asciiSpace" .u8 Go.Lib.asciiSpaceTab := by
  obtain ⟨t, fr, hm⟩ := h
  have h1 := (hL _ hm).2
  have hg : Tryz.prog.globalNamed "strings.asciiSpace" = some 0 := by kernel_rfl
  unfold Go.Lib.TabIs World.var?
  rw [hg]
  simp only [Option.bind_some]
  simp only at h1
  rw [h1]

theorem strs_elems (h : Array Obj) (ok : Nat → Prop) (l : List (List UInt8)) : ElemsR (fun x cs => Rep h ok .str x cs) Kd.str.n l (l.map fun x => Value.string ⟨x.toArray⟩).toArray 0 := by
  refine ⟨by simp [Kd.n], fun i hi => ?_⟩
  show sub _ _ 1 = _
  simp only [sub, Kd.n, Nat.mul_one, Nat.zero_add]
  rw [List.drop_eq_getElem_cons (by simpa using hi)]
  simp

theorem Fields.ok {L : List (Nat × Obj)} (h : NeedSp L) (k : Nat) : SigHolds Tryz.prog L 151 (Fields.sg k) :=
  sig_pur Tryz.func151 (by kernel_rfl) (by kernel_rfl) rfl fun w x vs y F _ hLd hsh hy => by
    obtain ⟨(s : List UInt8), ⟨⟩⟩ := x
    obtain ⟨v1, r, rfl, p1, hsh⟩ := shR_cons hsh
    obtain ⟨rfl, _⟩ := shR_nil hsh
    obtain rfl := payR_str p1
    simp only [Fields] at hy
    split at hy
    · rename_i hc
      obtain ⟨h1, h2⟩ := hc
      cases hy
      refine (Tryz.strings_Fields ⟨s.toArray⟩ w (by simpa [ByteArray.size] using h1) (fun j b hb => of_decide_eq_true (List.all_eq_true.1 h2 b (List.mem_of_getElem? hb))) (sp_of h hLd)).mono fun e w' ⟨he, hw⟩ => ?_
      subst hw
      refine ⟨[_], [w.heap.size], he, ⟨_, [], [w.heap.size], [], rfl, rfl, ⟨_, rfl, rfl, _, _, rfl, Nat.le_refl _, .inr ⟨w.heap.size, 0, _, _, rfl, rfl, heap_alloc_new _ _, strs_elems _ _ _, ?_⟩⟩, rfl, rfl⟩, by simp, fun b hb => by simp at hb; omega, kept_alloc _ _ _⟩
      simp [Kd.n]
    · cases hy

theorem NeedSp.mono {L L' : List (Nat × Obj)} (h : NeedSp L) (hs : ∀ p ∈ L, p ∈ L') : NeedSp L' := by
  obtain ⟨t, fr, hm⟩ := h
  exact ⟨t, fr, hs _ hm⟩

theorem needSp_of {w : World} (h : Go.Lib.TabIs Tryz.prog w "strings.asciiSpace" .u8 Go.Lib.asciiSpaceTab) : ∃ L, NeedSp L ∧ Laid L (fun _ => False) w.heap := by
  obtain ⟨t, fr, hc⟩ := var_obj (g := 0) (by kernel_rfl) h
  refine ⟨[(_, .cells _ t fr)], ⟨t, fr, List.mem_singleton.2 rfl⟩, fun p hp => ?_⟩
  rw [List.mem_singleton] at hp
  subst hp
  exact ⟨fun h => h, hc⟩
end Go.Pev.F.Lb
end

section
/- Contracts of the library's functions at this dump, laid (out of the kit's shelf, by its own tools, trimmed). -/
namespace Go.Proofs
open Go.Shelf
def Tryz.laysM173_ren : Go.Shelf.Ren := ⟨fun | 173 => 106 | 246 => 141 | 283 => 161 | 284 => 162 | 285 => 163 | 286 => 164 | 129 => 172 | 317 => 171 | 318 => 173 | 319 => 174 | 320 => 175 | 337 => 179 | 338 => 180 | n => n, fun | 2 => 2 | 3 => 3 | 9 => 9 | 4 => 4 | 171 => 208 | 0 => 0 | 53 => 176 | 37 => 153 | 5 => 5 | 173 => 211 | 212 => 218 | 51 => 219 | 20 => 20 | 213 => 220 | 46 => 166 | 232 => 241 | 233 => 242 | n => n, fun | 17 => 2 | 18 => 4 | 19 => 5 | n => n⟩
theorem Tryz.laysM173 : Go.Proofs.LaysM.n173 Tryz.prog Tryz.laysM173_ren := {
  mixed := by kernel_rfl
  f129 := Tryz.func172.trans (congrArg some (by kernel_rfl))
  f173 := Tryz.func106.trans (congrArg some (by kernel_rfl))
  f246 := Tryz.func141.trans (congrArg some (by kernel_rfl))
  f283 := Tryz.func161.trans (congrArg some (by kernel_rfl))
  f284 := Tryz.func162.trans (congrArg some (by kernel_rfl))
  f285 := Tryz.func163.trans (congrArg some (by kernel_rfl))
  f286 := Tryz.func164.trans (congrArg some (by kernel_rfl))
  f317 := Tryz.func171.trans (congrArg some (by kernel_rfl))
  f318 := Tryz.func173.trans (congrArg some (by kernel_rfl))
  f319 := Tryz.func174.trans (congrArg some (by kernel_rfl))
  f320 := Tryz.func175.trans (congrArg some (by kernel_rfl))
  f337 := Tryz.func179.trans (congrArg some (by kernel_rfl))
  f338 := Tryz.func180.trans (congrArg some (by kernel_rfl))
  t0 := Tryz.underlying0
  a0 := Tryz.isAgg0
  z0 := Tryz.sizeOf0
  v0 := Tryz.zeroValue0
  t2 := Tryz.underlying2
  a2 := Tryz.isAgg2
  z2 := Tryz.sizeOf2
  v2 := Tryz.zeroValue2
  t3 := Tryz.underlying3
  a3 := Tryz.isAgg3
  z3 := Tryz.sizeOf3
  v3 := Tryz.zeroValue3
  t4 := Tryz.underlying4
  a4 := Tryz.isAgg4
  z4 := Tryz.sizeOf4
  v4 := Tryz.zeroValue4
  t5 := Tryz.underlying5
  a5 := Tryz.isAgg5
  z5 := Tryz.sizeOf5
  v5 := Tryz.zeroValue5
  t9 := Tryz.underlying9
  a9 := Tryz.isAgg9
  z9 := Tryz.sizeOf9
  v9 := Tryz.zeroValue9
  t20 := Tryz.underlying20
  a20 := Tryz.isAgg20
  z20 := Tryz.sizeOf20
  v20 := Tryz.zeroValue20
  t37 := Tryz.underlying153
  a37 := Tryz.isAgg153
  z37 := Tryz.sizeOf153
  v37 := Tryz.zeroValue153
  t46 := Tryz.underlying166
  a46 := Tryz.isAgg166
  z46 := Tryz.sizeOf166
  v46 := Tryz.zeroValue166
  t51 := Tryz.underlying219
  a51 := Tryz.isAgg219
  z51 := Tryz.sizeOf219
  v51 := Tryz.zeroValue219
  t53 := Tryz.underlying176
  a53 := Tryz.isAgg176
  z53 := Tryz.sizeOf176
  v53 := Tryz.zeroValue176
  t171 := Tryz.underlying208
  a171 := Tryz.isAgg208
  z171 := Tryz.sizeOf208
  v171 := Tryz.zeroValue208
  t173 := Tryz.underlying211
  a173 := Tryz.isAgg211
  z173 := Tryz.sizeOf211
  v173 := Tryz.zeroValue211
  t212 := Tryz.underlying218
  a212 := Tryz.isAgg218
  z212 := Tryz.sizeOf218
  v212 := Tryz.zeroValue218
  t213 := Tryz.underlying220
  a213 := Tryz.isAgg220
  z213 := Tryz.sizeOf220
  t232 := Tryz.underlying241
  a232 := Tryz.isAgg241
  z232 := Tryz.sizeOf241
  v232 := Tryz.zeroValue241
  t233 := Tryz.underlying242
  a233 := Tryz.isAgg242
  z233 := Tryz.sizeOf242
  v233 := Tryz.zeroValue242
  g17 := by kernel_rfl
  g18 := by kernel_rfl
  g19 := by kernel_rfl
  i0 := by kernel_rfl
  i2 := by kernel_rfl
  i3 := by kernel_rfl
  i4 := by kernel_rfl
  i5 := by kernel_rfl
  i9 := by kernel_rfl
  i20 := by kernel_rfl
  i37 := by kernel_rfl
  i46 := by kernel_rfl
  i51 := by kernel_rfl
  i53 := by kernel_rfl
  i171 := by kernel_rfl
  i173 := by kernel_rfl
  i212 := by kernel_rfl
  i232 := by kernel_rfl
  i233 := by kernel_rfl
  m17 := by kernel_rfl
  m18 := by kernel_rfl
  m19 := by kernel_rfl }
open Go.RowKit Go.Sort Go.Lib in
/-- strconv.FormatInt: "FormatInt returns the string representation of i in the given base": AT BASE 10: i's decimal numeral, for every int64. (LAID: no walk: one application.) -/
theorem Tryz.strconv_FormatInt_10 (n : Int) (h0 : -9223372036854775808 ≤ n) (h1 : n ≤ 9223372036854775807) (w : World) (htab : Lib.TabIs Tryz.prog w "internal/strconv.uint64pow10" .u64 Lib.pow10Tab) :
    Calls Tryz.prog 106 #[.int .i64 n, .int .i64 10] w fun e w' => e = .returned (.string ⟨(Lib.itoa n).toArray⟩) ∧ ∃ k os, w' = grow (w.drewN k) os := Any.strconv_FormatInt_10 Tryz.laysM173 n h0 h1 w htab
end Go.Proofs
end

section
/-
  strconv.FormatInt at base 10, as a contract.
-/
open Go.Proofs
namespace Go.Pev.F.Lb

/-- The table of powers is laid. -/
def NeedFmt (L : List (Nat × Obj)) : Prop := ∃ t fr, (2, Obj.cells (Go.Lib.pow10Tab.map fun z => Value.int .u64 z).toArray t fr) ∈ L

def FormatInt.A : Sh := .cons (.pur (.int .i64)) (.cons (.pur (.int .i64)) .nil)
def FormatInt.R : Sh := .cons (.pur .str) .nil
noncomputable def FormatInt (_ : Nat) : (Int × Int × Unit) → Option ((List UInt8 × Unit) × (Unit × Unit × Unit)) := fun x => if x.2.1 = 10 ∧ -9223372036854775808 ≤ x.1 ∧ x.1 ≤ 9223372036854775807 then some ((Go.Lib.itoa x.1, ()), ((), (), ())) else none
noncomputable def FormatInt.sg (k : Nat) : Sig := ⟨FormatInt.A, FormatInt.R, FormatInt k⟩

theorem tab_of {L : List (Nat × Obj)} {w : World} (h : NeedFmt L) (hL : Laid L (fun _ => False) w.heap) : Go.Lib.TabIs Tryz.prog w "internal/strconv.uint64pow10" .u64 Go.Lib.pow10Tab := by
  obtain ⟨t, fr, hm⟩ := h
  have h1 := (hL _ hm).2
  have hg : Tryz.prog.globalNamed "internal/strconv.uint64pow10" = some 2 := by kernel_rfl
  unfold Go.Lib.TabIs World.var?
  rw [hg]
  simp only [Option.bind_some]
  simp only at h1
  rw [h1]

theorem FormatInt.ok {L : List (Nat × Obj)} (h : NeedFmt L) (k : Nat) : SigHolds Tryz.prog L 106 (FormatInt.sg k) :=
  sig_pur Tryz.func106 (by kernel_rfl) (by kernel_rfl) rfl fun w x vs y F hF hLd hsh hy => by
    obtain ⟨n, b, ⟨⟩⟩ := x
    obtain ⟨v1, r, rfl, p1, hsh⟩ := shR_cons hsh
    obtain ⟨v2, r, rfl, p2, hsh⟩ := shR_cons hsh
    obtain ⟨rfl, _⟩ := shR_nil hsh
    obtain rfl := payR_int p1
    obtain rfl := payR_int p2
    simp only [FormatInt] at hy
    split at hy
    · rename_i hc
      obtain ⟨rfl, h0, h1⟩ := hc
      cases hy
      refine (Tryz.strconv_FormatInt_10 n h0 h1 w (tab_of h hLd)).mono fun e w' ⟨he, k, os, hw⟩ => ?_
      subst hw
      exact ⟨[_], [], he, shR_cons_mk payR_str_mk ⟨rfl, rfl⟩, List.nodup_nil, fun b hb => by simp at hb, kept_grow _ _ _⟩
    · cases hy

theorem NeedFmt.mono {L L' : List (Nat × Obj)} (h : NeedFmt L) (hs : ∀ p ∈ L, p ∈ L') : NeedFmt L' := by
  obtain ⟨t, fr, hm⟩ := h
  exact ⟨t, fr, hs _ hm⟩

theorem needFmt_of {w : World} (h : Go.Lib.TabIs Tryz.prog w "internal/strconv.uint64pow10" .u64 Go.Lib.pow10Tab) : ∃ L, NeedFmt L ∧ Laid L (fun _ => False) w.heap := by
  obtain ⟨t, fr, hc⟩ := var_obj (g := 2) (by kernel_rfl) h
  refine ⟨[(_, .cells _ t fr)], ⟨t, fr, List.mem_singleton.2 rfl⟩, fun p hp => ?_⟩
  rw [List.mem_singleton] at hp
  subst hp
  exact ⟨fun h => h, hc⟩
end Go.Pev.F.Lb
end

section
/-
  slices.Grow of nil, as a contract, at whatever element.
-/
set_option linter.unusedVariables false
namespace Go.Pev
open Go Go.Proofs Go.Shelf Go.RowKit

def Grow.A : Sh := .cons .nl (.cons (.pur (.int .i64)) .nil)
def Grow.R (k : Kd) : Sh := .cons (.own k) .nil
noncomputable def Grow (k : Kd) (bytes : Nat) : (Unit × Int × Unit) → Option ((List k.T × Unit) × (Unit × Unit × Unit)) := fun x => if 0 ≤ x.2.1 ∧ x.2.1 * bytes ≤ 140737488355328 then some (([], ()), ((), (), ())) else none

theorem grow_ok {P : Program} {ρ : Ren} {L : List (Nat × Obj)} (hL : Lays8.n4 P ρ) {k : Kd} {e : TypeId} (he : ρ.t 25 = e) (hok : elemOk P e k = true) {f : FuncId} (hf : ρ.f 4 = f) {fn : Func} (hfn : P.funcs[f]? = some fn) (hname : (fn.name == "runtime.NumGoroutine") = false) (hbody : fn.body.isNone = false) :
    SigHolds P L f ⟨Grow.A, Grow.R k, Grow k (bytesT P e)⟩ := by
  refine ⟨⟨fn, hfn, hname, hbody⟩, fun w F x vs fp y hF _ _ _ hsh hy => ?_⟩
  obtain ⟨⟨⟩, (n : Int), ⟨⟩⟩ := x
  obtain ⟨v1, r, f1, f2, rfl, rfl, ⟨h1, rfl⟩, h2⟩ := hsh
  obtain ⟨v2, r, rfl, p2, h3⟩ := shR_cons h2
  obtain ⟨rfl, rfl⟩ := shR_nil h3
  cases h1
  obtain rfl := payR_int p2
  simp only [Grow] at hy
  split at hy
  · rename_i hc
    obtain ⟨hn0, hn1⟩ := hc
    have hn0 : 0 ≤ n := hn0
    have hn1 : n * (bytesT P e : Int) ≤ 140737488355328 := hn1
    cases hy
    obtain ⟨hgood, hpos, _, hbpos, i, z, hi, hz, hsz, hbe, hzs⟩ := elemOk_some hok
    subst he
    subst hf
    have hbp : 0 < bytesT P (ρ.t 25) := hbpos
    rw [hbe] at hn1 hbp
    have hn2 : n ≤ 140737488355328 := by
      have h1 : n * 1 ≤ n * (i.bytes : Int) := Int.mul_le_mul_of_nonneg_left (by omega) hn0
      rw [Int.mul_one] at h1
      exact Int.le_trans h1 hn1
    by_cases h0 : n = 0
    · subst h0
      refine (Any8.slices_Grow_room hL none 0 0 0 w (by omega) (by omega) (by omega) (by omega)).mono fun e' w' ⟨he, hw⟩ => ?_
      subst hw
      refine ⟨[_], [], [], he, ⟨_, [], [], [], rfl, rfl, ⟨_, rfl, hgood, none, 0, rfl, Nat.le_refl _, .inl ⟨rfl, rfl, rfl, rfl⟩⟩, rfl, rfl⟩, ⟨_, _, [], [], rfl, rfl, .inl ⟨rfl, rfl⟩, _, _, [], [], rfl, rfl, .inl ⟨rfl, rfl⟩, rfl, rfl⟩, List.nodup_nil, fun b hb => by simp at hb, .refl _ _⟩
    · obtain ⟨m, rfl⟩ : ∃ m : Nat, n = (m : Int) := ⟨n.toNat, by omega⟩
      have hbig : (0 + m) * i.bytes ≤ 140737488355328 := by
        have : ((m * i.bytes : Nat) : Int) ≤ 140737488355328 := by rw [Int.natCast_mul]; exact hn1
        rw [Nat.zero_add]
        omega
      refine (Any8.slices_Grow_grow hL i z hi hz (by omega) none 0 0 m [] w (by omega) (by omega) hbig (by omega) (by simp) (fun _ => rfl) (fun a ha => by cases ha)).mono fun e' w' ⟨he, hw⟩ => ?_
      subst hw
      have hg := grownCap_ge w (0 + m) 0 (ρ.t 25)
      have hnew : (w.drew.alloc (.cells ([].toArray ++ Builtin.zeroCells z.cells (0 + m - 0) ++ Builtin.zeroCells z.cells (grownCap w (0 + m) 0 (ρ.t 25) - (0 + m))) (ρ.t 25))).heap[w.heap.size]? = some (.cells ([].toArray ++ Builtin.zeroCells z.cells (0 + m - 0) ++ Builtin.zeroCells z.cells (grownCap w (0 + m) 0 (ρ.t 25) - (0 + m))) (ρ.t 25) (0, 0)) := heap_alloc_new w.drew _
      refine ⟨[_], [w.heap.size], [], he, ⟨_, [], [w.heap.size], [], rfl, rfl, ⟨_, rfl, hgood, _, _, rfl, by simp, .inr ⟨w.heap.size, 0, _, _, rfl, rfl, hnew, ⟨by simp, fun i hi => by simp at hi⟩, ?_⟩⟩, rfl, rfl⟩,
        ⟨_, _, [], [], rfl, rfl, .inl ⟨rfl, rfl⟩, _, _, [], [], rfl, rfl, .inl ⟨rfl, rfl⟩, rfl, rfl⟩, by simp, fun b hb => .inr (by simp at hb; omega), (kept_drew _ _).trans (kept_alloc (fun _ => False) _ _) (fun _ h => h.elim)⟩
      simp only [Array.size_append, List.size_toArray, List.length_nil, zeroCells_size, hzs]
      rw [Nat.zero_add, Nat.zero_add, Nat.zero_add, Nat.sub_zero, ← Nat.add_mul]
      rw [Nat.zero_add] at hg
      exact Nat.mul_le_mul_right _ (by omega)
  · cases hy
end Go.Pev
end

section
/-
  Printed by gen.py: the contracts of slices.Grow at the seat's elements.
-/
open Go.Proofs Go.Pev Go.Shelf
namespace Go.Pev.F.Lb
set_option maxRecDepth 100000
def slices_Grow_string_string.ren : Ren := ⟨fun | 4 => 150 | n => n, fun | 0 => 0 | 3 => 3 | 4 => 4 | 9 => 9 | 20 => 20 | 22 => 22 | 25 => 9 | n => n, fun n => n⟩
theorem slices_Grow_string_string.lays : Go.Proofs.Lays8.n4 Tryz.prog slices_Grow_string_string.ren := {
  mixed := by kernel_rfl
  f4 := ⟨"slices.Grow[[]string,string]", by kernel_rfl, Tryz.func150.trans (congrArg some (by kernel_rfl))⟩
  t0 := Tryz.underlying0
  a0 := Tryz.isAgg0
  z0 := Tryz.sizeOf0
  v0 := Tryz.zeroValue0
  t3 := Tryz.underlying3
  a3 := Tryz.isAgg3
  z3 := Tryz.sizeOf3
  v3 := Tryz.zeroValue3
  t4 := Tryz.underlying4
  a4 := Tryz.isAgg4
  z4 := Tryz.sizeOf4
  v4 := Tryz.zeroValue4
  t9 := Tryz.underlying9
  a9 := Tryz.isAgg9
  z9 := Tryz.sizeOf9
  v9 := Tryz.zeroValue9
  t20 := Tryz.underlying20
  a20 := Tryz.isAgg20
  z20 := Tryz.sizeOf20
  v20 := Tryz.zeroValue20
  t22 := Tryz.underlying22
  a22 := Tryz.isAgg22
  z22 := Tryz.sizeOf22
  v22 := Tryz.zeroValue22 }
def slices_Grow_string_string.A : Sh := Grow.A
def slices_Grow_string_string.R : Sh := Grow.R .str
noncomputable def slices_Grow_string_string (_ : Nat) : (Unit × Int × Unit) → Option (((List (List UInt8)) × Unit) × (Unit × Unit × Unit)) := Grow .str 16
noncomputable def slices_Grow_string_string.sg (k : Nat) : Sig := ⟨slices_Grow_string_string.A, slices_Grow_string_string.R, slices_Grow_string_string k⟩
theorem slices_Grow_string_string.ok {L : List (Nat × Obj)} (k : Nat) : SigHolds Tryz.prog L 150 (slices_Grow_string_string.sg k) :=
  have h := grow_ok (L := L) slices_Grow_string_string.lays (k := .str) (e := 9) rfl (by kernel_rfl) (f := 150) rfl Tryz.func150 (by kernel_rfl) (by kernel_rfl)
  have hb : bytesT Tryz.prog 9 = 16 := by kernel_rfl
  by rw [hb] at h; exact h
end Go.Pev.F.Lb
end

section
/- Contracts of the library's functions at this dump, laid (out of the kit's shelf, by its own tools, trimmed). -/
namespace Go.Proofs
open Go.Shelf
def Tryz.lays156_ren : Go.Shelf.Ren := ⟨fun | 156 => 66 | 165 => 103 | 166 => 104 | 169 => 105 | 240 => 139 | 241 => 140 | 276 => 159 | 277 => 160 | n => n, fun | 31 => 22 | 9 => 9 | 3 => 3 | 4 => 4 | 0 => 0 | 20 => 20 | 72 => 155 | 76 => 159 | 70 => 152 | 37 => 153 | 75 => 158 | 127 => 186 | 164 => 204 | 5 => 5 | 80 => 161 | n => n, fun | n => n⟩
theorem Tryz.lays156 : Go.Proofs.Lays.n156 Tryz.prog Tryz.lays156_ren := {
  mixed := by kernel_rfl
  f156 := Tryz.func66.trans (congrArg some (by kernel_rfl))
  f165 := Tryz.func103.trans (congrArg some (by kernel_rfl))
  f166 := Tryz.func104.trans (congrArg some (by kernel_rfl))
  f169 := Tryz.func105.trans (congrArg some (by kernel_rfl))
  f240 := Tryz.func139.trans (congrArg some (by kernel_rfl))
  f241 := Tryz.func140.trans (congrArg some (by kernel_rfl))
  f276 := Tryz.func159.trans (congrArg some (by kernel_rfl))
  f277 := Tryz.func160.trans (congrArg some (by kernel_rfl))
  t0 := Tryz.underlying0
  a0 := Tryz.isAgg0
  z0 := Tryz.sizeOf0
  v0 := Tryz.zeroValue0
  t3 := Tryz.underlying3
  a3 := Tryz.isAgg3
  z3 := Tryz.sizeOf3
  v3 := Tryz.zeroValue3
  t4 := Tryz.underlying4
  a4 := Tryz.isAgg4
  z4 := Tryz.sizeOf4
  v4 := Tryz.zeroValue4
  t9 := Tryz.underlying9
  a9 := Tryz.isAgg9
  z9 := Tryz.sizeOf9
  v9 := Tryz.zeroValue9
  t20 := Tryz.underlying20
  a20 := Tryz.isAgg20
  z20 := Tryz.sizeOf20
  v20 := Tryz.zeroValue20
  t31 := Tryz.underlying22
  a31 := Tryz.isAgg22
  z31 := Tryz.sizeOf22
  v31 := Tryz.zeroValue22
  t37 := Tryz.underlying153
  a37 := Tryz.isAgg153
  z37 := Tryz.sizeOf153
  v37 := Tryz.zeroValue153
  t70 := Tryz.underlying152
  a70 := Tryz.isAgg152
  z70 := Tryz.sizeOf152
  v70 := Tryz.zeroValue152
  t72 := Tryz.underlying155
  a72 := Tryz.isAgg155
  z72 := Tryz.sizeOf155
  v72 := Tryz.zeroValue155
  t75 := Tryz.underlying158
  a75 := Tryz.isAgg158
  z75 := Tryz.sizeOf158
  v75 := Tryz.zeroValue158
  t76 := Tryz.underlying159
  a76 := Tryz.isAgg159
  z76 := Tryz.sizeOf159
  v76 := Tryz.zeroValue159
  t127 := Tryz.underlying186
  a127 := Tryz.isAgg186
  z127 := Tryz.sizeOf186
  v127 := Tryz.zeroValue186
  t164 := Tryz.underlying204
  a164 := Tryz.isAgg204
  z164 := Tryz.sizeOf204
  v164 := Tryz.zeroValue204 }
theorem Tryz.Builder_Extra_156 : Builder.Extra Tryz.prog Tryz.lays156_ren := {
  sizeBuilder := by kernel_rfl
  liesBuilder := by kernel_rfl
  t5 := Tryz.underlying5
  a5 := Tryz.isAgg5
  z5 := Tryz.sizeOf5
  v5 := Tryz.zeroValue5
  infoByte := by kernel_rfl
  cellsByte := by kernel_rfl
  sizeByte := by kernel_rfl
  neB5 := by decide }
open Go.RowKit in
/-- No element: the empty string; the world is as it was. (Whatever the slice's address and capacity: a nil slice too.) (LAID: no walk: one application.) -/
theorem Tryz.strings_Join_none (a : Option Addr) (c : Nat) (sep : ByteArray) (w : World) :
    Calls Tryz.prog 66 #[.slice a 0 c, .string sep] w fun e w' => e = .returned (.string ⟨#[]⟩) ∧ w' = w := Any.strings_Join_none Tryz.lays156 Tryz.Builder_Extra_156 a c sep w
open Go.RowKit in
/-- strings.Join: "Join concatenates the elements of its first argument to create a single string. The separator string sep is placed between elements in the resulting string.": HOWEVER MANY ELEMENTS. Below the heap's end the world is as it was. (LAID: no walk: one application.) -/
theorem Tryz.strings_Join (bk o c : Nat) (xs : List ByteArray) (sep : ByteArray) (w : World) (hcells : ∀ (j : Nat) x, xs[j]? = some x → w.cell? ⟨bk, o + j, none⟩ = some (.string x)) (hbk : bk < w.heap.size) (hN : xs.length ≤ 140737488355328) (hcap : xs.length ≤ c) (hlen : (Lib.join (xs.map (·.data.toList)) sep.data.toList).length ≤ 140737488355328) :
    Calls Tryz.prog 66 #[.slice (some ⟨bk, o, none⟩) xs.length c, .string sep] w fun e w' => e = .returned (.string ⟨(Lib.join (xs.map (·.data.toList)) sep.data.toList).toArray⟩) ∧ Below w.heap.size w w' := Any.strings_Join Tryz.lays156 Tryz.Builder_Extra_156 bk o c xs sep w hcells hbk hN hcap hlen
end Go.Proofs
end

section
/-
  strings.Join, as a contract.
-/
open Go.Proofs
namespace Go.Pev.F.Lb

def Join.A : Sh := .cons (.pur (.sl false .str)) (.cons (.pur .str) .nil)
def Join.R : Sh := .cons (.pur .str) .nil
noncomputable def Join (_ : Nat) : (List (List UInt8) × List UInt8 × Unit) → Option ((List UInt8 × Unit) × (Unit × Unit × Unit)) := fun x =>
  if x.1.length ≤ 140737488355328 ∧ (Go.Lib.join x.1 x.2.1).length ≤ 140737488355328 then some ((Go.Lib.join x.1 x.2.1, ()), ((), (), ())) else none
noncomputable def Join.sg (k : Nat) : Sig := ⟨Join.A, Join.R, Join k⟩

theorem bytes_back (l : List (List UInt8)) : (l.map fun x => (⟨x.toArray⟩ : ByteArray)).map (·.data.toList) = l := by
  rw [List.map_map]
  conv => rhs; rw [← List.map_id l]
  exact List.map_congr_left fun x _ => by simp

theorem Join.ok {L : List (Nat × Obj)} (k : Nat) : SigHolds Tryz.prog L 66 (Join.sg k) :=
  sig_pur Tryz.func66 (by kernel_rfl) (by kernel_rfl) rfl fun w x vs y F _ _ hsh hy => by
    obtain ⟨(l : List (List UInt8)), (s : List UInt8), ⟨⟩⟩ := x
    obtain ⟨v1, r, rfl, p1, hsh⟩ := shR_cons hsh
    obtain ⟨v2, r, rfl, p2, hsh⟩ := shR_cons hsh
    obtain ⟨rfl, _⟩ := shR_nil hsh
    obtain rfl := payR_str p2
    obtain ⟨a, c, rfl, hc, hel⟩ := payR_sl p1
    simp only [Join] at hy
    split at hy
    · rename_i hl
      obtain ⟨hl1, hl2⟩ := hl
      cases hy
      by_cases h0 : l = []
      · subst h0
        refine (Tryz.strings_Join_none a c ⟨s.toArray⟩ w).mono fun e w' ⟨he, hw⟩ => ?_
        subst hw
        exact ⟨[_], [], he, shR_cons_mk payR_str_mk ⟨rfl, rfl⟩, List.nodup_nil, fun b hb => by simp at hb, kept_refl _⟩
      · rcases hel with h | ⟨b, o, r, rfl, _, hr, he⟩
        · exact absurd h h0
        · have h := Tryz.strings_Join b o c (l.map fun x => (⟨x.toArray⟩ : ByteArray)) ⟨s.toArray⟩ w (fun j x hx => by
              rw [List.getElem?_map] at hx
              obtain ⟨z, hz, rfl⟩ := Option.map_eq_some_iff.1 hx
              obtain ⟨hj, rfl⟩ := List.getElem?_eq_some_iff.1 hz
              have h1 := he.2 j hj
              rw [rowCells_cell hr]
              have h2 : sub r (o + j * 1) 1 = [.string ⟨(l[j]).toArray⟩] := h1
              rw [Nat.mul_one] at h2
              have h3 := congrArg (fun z => z[0]?) h2
              simp only [sub, List.getElem?_take, List.getElem?_drop, List.getElem?_cons_zero] at h3
              simpa using h3) (rowCells_lt hr) (by rw [List.length_map]; exact hl1) (by rw [List.length_map]; exact hc) (by rw [bytes_back]; exact hl2)
          rw [List.length_map, bytes_back] at h
          refine h.mono fun e w' ⟨he, hw⟩ => ?_
          exact ⟨[_], [], he, shR_cons_mk payR_str_mk ⟨rfl, rfl⟩, List.nodup_nil, fun b hb => by simp at hb, kept_below hw⟩
    · cases hy
end Go.Pev.F.Lb
end
