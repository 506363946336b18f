/-
  PEV, part 22: a region in whatever order: a law of steps alone.
-/
import Derived.Test.YtgajbbadidobfaaDoorPevEval
import Derived.Orders
namespace Go.Pev

def seqS {S : Type} (step : Nat → S → Option S) : List Nat → S → Option S
  | [], s => some s
  | i :: r, s => (match step i s with | some s' => seqS step r s' | none => none)

/-- An operation that is apart from all ahead of it may go first. -/
theorem seqS_front {S : Type} {step : Nat → S → Option S} {apart : Nat → Nat → Bool} (hc : ∀ i j s s1 s2, apart i j = true → step i s = some s1 → step j s1 = some s2 → ∃ s1', step j s = some s1' ∧ step i s1' = some s2) {x : Nat} {q : List Nat} :
    (p : List Nat) → (∀ i ∈ p, apart i x = true) → {s r : S} → seqS step (p ++ x :: q) s = some r → ∃ s1, step x s = some s1 ∧ seqS step (p ++ q) s1 = some r
  | [], _, s, r, h => by
    simp only [List.nil_append, seqS] at h ⊢
    split at h
    · rename_i s' hs; exact ⟨s', hs, h⟩
    · cases h
  | i :: p, hp, s, r, h => by
    simp only [List.cons_append, seqS] at h
    split at h
    · rename_i s' hs
      obtain ⟨s1, h1, h2⟩ := seqS_front hc p (fun j hj => hp j (by simp [hj])) h
      obtain ⟨s2, h3, h4⟩ := hc i x s s' s1 (hp i (by simp)) hs h1
      refine ⟨s2, h3, ?_⟩
      simp only [List.cons_append, seqS, h4]
      exact h2
    · cases h

theorem maskOf_bit (ms : List Nat) (o : Oper) (i : Nat) (h : (maskOf ms o).testBit i = true) : ∃ e ∈ o.after, Region.binds .any e = true ∧ (i = e.on ∨ (ms.getD e.on 0).testBit i = true) := by
  have key : ∀ (l : List Edge) (m : Nat), (l.foldl (fun m e => if Region.binds .any e then m ||| (1 <<< e.on) ||| ms.getD e.on 0 else m) m).testBit i = true → m.testBit i = true ∨ ∃ e ∈ l, Region.binds .any e = true ∧ (i = e.on ∨ (ms.getD e.on 0).testBit i = true) := by
    intro l
    induction l with
    | nil => intro m h; exact .inl h
    | cons e l ih =>
      intro m h
      simp only [List.foldl_cons] at h
      rcases ih _ h with h1 | ⟨e', he', h2⟩
      · split at h1
        · rename_i hb
          simp only [Nat.testBit_or, Bool.or_eq_true] at h1
          rcases h1 with (h1 | h1) | h1
          · exact .inl h1
          · right
            refine ⟨e, by simp, hb, .inl ?_⟩
            rw [Nat.shiftLeft_eq, Nat.one_mul, Nat.testBit_two_pow] at h1
            exact (of_decide_eq_true h1).symm
          · exact .inr ⟨e, by simp, hb, .inr h1⟩
        · exact .inl h1
      · exact .inr ⟨e', by simp [he'], h2⟩
  rcases key o.after.toList 0 h with h1 | ⟨e, he, h2⟩
  · simp at h1
  · exact ⟨e, by simpa using he, h2⟩

theorem masksOf_get : (l : List Oper) → (ms : List Nat) → (j : Nat) → (j < ms.length → (masksOf l ms)[j]? = ms[j]?) ∧ (∀ o, l[j]? = some o → ∃ p, (masksOf l ms)[ms.length + j]? = some (maskOf p o) ∧ ∀ i, i < ms.length + j → p.getD i 0 = (masksOf l ms).getD i 0)
  | [], ms, j => ⟨fun _ => rfl, fun o h => by simp at h⟩
  | o :: r, ms, j => by
    have ih := masksOf_get r (ms ++ [maskOf ms o])
    have e0 : masksOf (o :: r) ms = masksOf r (ms ++ [maskOf ms o]) := rfl
    rw [e0]
    refine ⟨fun hj => ?_, fun o' ho' => ?_⟩
    · rw [(ih j).1 (by simp; omega), List.getElem?_append_left hj]
    · cases j with
      | zero =>
        simp only [List.getElem?_cons_zero, Option.some.injEq] at ho'
        subst ho'
        refine ⟨ms, ?_, fun i hi => ?_⟩
        · rw [(ih _).1 (by simp), List.getElem?_append_right (by omega)]; simp
        · have := (ih i).1 (by simp; omega)
          simp only [List.getD, this]
          rw [List.getElem?_append_left (by omega)]
      | succ j =>
        obtain ⟨p, h1, h2⟩ := (ih j).2 o' (by simpa using ho')
        have e : (ms ++ [maskOf ms o]).length + j = ms.length + (j + 1) := by simp; omega
        rw [e] at h1 h2
        exact ⟨p, h1, h2⟩

theorem upOk_get : (l : List Oper) → (k : Nat) → upOk k l = true → ∀ j o, l[j]? = some o → ∀ e ∈ o.after, Region.binds .any e = true → e.on < k + j
  | [], _, _, _, _, h, _, _, _ => by simp at h
  | o :: r, k, hu, j, o', h, e, he, hb => by
    simp only [upOk, Bool.and_eq_true] at hu
    cases j with
    | zero =>
      simp only [List.getElem?_cons_zero, Option.some.injEq] at h
      subst h
      have := List.all_eq_true.1 hu.1 e (by simpa using he)
      simpa [hb] using this
    | succ j =>
      have := upOk_get r (k + 1) hu.2 j o' (by simpa using h) e he hb
      omega

section
variable {P : Program} {ops : Array Oper} {Q : Exit → Act → World → Prop}

theorem any_of_seq {S : Type} {step : Nat → S → Option S} {R : S → Act → World → Prop} {apart : Nat → Nat → Bool} (hc : ∀ i j s s1 s2, apart i j = true → step i s = some s1 → step j s1 = some s2 → ∃ s1', step j s = some s1' ∧ step i s1' = some s2)
    (hop : ∀ i s s' a w, i < ops.size → step i s = some s' → R s a w → ∀ K : Act → World → Prop, (∀ a' w', R s' a' w' → K a' w') → wpOp P ops Q i K a w) (hok : anyOk ops apart = true) {sF : S} (hfin : ∀ a w, R sF a w → Q .normal a w) :
    ∀ (fuel : Nat) (listed : Array Bool) (s : S) (a : Act) (w : World), listed.size = ops.size → ((List.range ops.size).filter fun i => !listed.getD i true).length ≤ fuel →
      (∀ j, listed.getD j false = true → ∀ i, ((masksOf ops.toList []).getD j 0).testBit i = true → listed.getD i false = true) →
      seqS step ((List.range ops.size).filter fun i => !listed.getD i true) s = some sF → R s a w → wpAny P .any ops Q fuel listed a w := by
  simp only [anyOk, Bool.and_eq_true] at hok
  obtain ⟨hup, hap⟩ := hok
  have hsome : ∀ listed : Array Bool, listed.size = ops.size → Region.ready .any ops listed = [] → ((List.range ops.size).filter fun i => !listed.getD i true) = [] := by
    intro listed hsz hr
    cases hx : ((List.range ops.size).filter fun i => !listed.getD i true) with
    | nil => rfl
    | cons i0 rest =>
      exfalso
      have hmem : ∀ i, i ∈ ((List.range ops.size).filter fun i => !listed.getD i true) ↔ i < ops.size ∧ listed.getD i true = false := by intro i; simp
      have hi0 := (hmem i0).1 (by rw [hx]; simp)
      have hmin : ∀ i, i < i0 → listed.getD i true = true := by
        intro i hi
        cases hl : listed.getD i true with
        | true => rfl
        | false =>
          exfalso
          have hin : i ∈ i0 :: rest := by rw [← hx]; exact (hmem i).2 ⟨by omega, hl⟩
          have hsorted : (i0 :: rest).Pairwise (· < ·) := by rw [← hx]; exact List.Pairwise.filter _ List.pairwise_lt_range
          rcases List.mem_cons.1 hin with h | h
          · omega
          · have := List.rel_of_pairwise_cons hsorted h; omega
      have hrd : i0 ∈ Region.ready .any ops listed := by
        rw [mem_ready]
        refine ⟨hi0.2, ops[i0], by simp [hi0.1], fun e he hb => ?_⟩
        have := upOk_get ops.toList 0 hup i0 ops[i0] (by simp [hi0.1]) e he hb
        have h2 := hmin e.on (by omega)
        have hlt : e.on < listed.size := by omega
        simpa [Array.getD, hlt] using h2
      rw [hr] at hrd
      cases hrd
  intro fuel
  induction fuel with
  | zero =>
    intro listed s a w hsz hlen hcl hseq hR
    have hnil : ((List.range ops.size).filter fun i => !listed.getD i true) = [] := List.eq_nil_of_length_eq_zero (by omega)
    rw [hnil] at hseq
    cases hseq
    refine ⟨?_, hfin a w hR⟩
    cases hr : Region.ready .any ops listed with
    | nil => rfl
    | cons i r =>
      have hi : i ∈ Region.ready .any ops listed := by rw [hr]; simp
      obtain ⟨h1, o, h2, _⟩ := mem_ready.1 hi
      have : i ∈ ((List.range ops.size).filter fun i => !listed.getD i true) := List.mem_filter.2 ⟨List.mem_range.2 (Array.getElem?_eq_some_iff.1 h2).1, by rw [h1]; rfl⟩
      rw [hnil] at this
      cases this
  | succ fuel ih =>
    intro listed s a w hsz hlen hcl hseq hR
    refine ⟨fun hr => ?_, fun i hi => ?_⟩
    · rw [hsome listed hsz hr] at hseq
      cases hseq
      exact hfin a w hR
    · obtain ⟨h1, o, h2, h3⟩ := mem_ready.1 hi
      have hlt := (Array.getElem?_eq_some_iff.1 h2).1
      -- what must be before i is listed
      have hbits : ∀ j, ((masksOf ops.toList []).getD i 0).testBit j = true → listed.getD j false = true := by
        intro j hj
        obtain ⟨p, e1, e2⟩ := (masksOf_get ops.toList [] i).2 o (by simpa using h2)
        simp only [List.length_nil, Nat.zero_add] at e1 e2
        have e3 : (masksOf ops.toList []).getD i 0 = maskOf p o := by simp [List.getD, e1]
        rw [e3] at hj
        obtain ⟨e, he, hb, h4⟩ := maskOf_bit p o j hj
        have h5 := h3 e he hb
        rcases h4 with rfl | h4
        · exact h5
        · have := upOk_get ops.toList 0 hup i o (by simpa using h2) e he hb
          rw [e2 e.on (by omega)] at h4
          exact hcl e.on h5 j h4
      have hnot : ∀ j, listed.getD j true = false → listed.getD j false = true → False := by
        intro j e1 e2
        by_cases hj : j < listed.size
        · simp [Array.getD, hj] at e1 e2; rw [e1] at e2; cases e2
        · simp [Array.getD, hj] at e1
      have hsplit : List.range ops.size = List.range i ++ i :: List.range' (i + 1) (ops.size - i - 1) := by
        have e1 : ops.size = i + (ops.size - i) := by omega
        rw [List.range_eq_range', List.range_eq_range']
        conv => lhs; rw [e1]
        rw [← List.range'_append_1]
        congr 1
        rw [show ops.size - i = (ops.size - i - 1) + 1 by omega, List.range'_succ]
        simp
      have hset : ∀ j, j ≠ i → (listed.setIfInBounds i true).getD j true = listed.getD j true := fun j hj => getD_set_ne true (Ne.symm hj)
      have hseti : (listed.setIfInBounds i true).getD i true = true := by
        have : i < listed.size := by omega
        simp [Array.getD, this]
      have hp : ∀ j ∈ (List.range i).filter (fun j => !listed.getD j true), apart j i = true := by
        intro j hj
        obtain ⟨hj1, hj2⟩ := List.mem_filter.1 hj
        have hj1 := List.mem_range.1 hj1
        have := List.all_eq_true.1 (List.all_eq_true.1 hap i (List.mem_range.2 hlt)) j (List.mem_range.2 hj1)
        rcases Bool.or_eq_true _ _ ▸ this with h4 | h4
        · exact (hnot j (by simpa using hj2) (hbits j h4)).elim
        · exact h4
      have hf1 : ((List.range ops.size).filter fun i => !listed.getD i true) = (List.range i).filter (fun j => !listed.getD j true) ++ i :: (List.range' (i + 1) (ops.size - i - 1)).filter (fun j => !listed.getD j true) := by
        rw [hsplit, List.filter_append, List.filter_cons, h1]; rfl
      have hf2 : ((List.range ops.size).filter fun j => !(listed.setIfInBounds i true).getD j true) = (List.range i).filter (fun j => !listed.getD j true) ++ (List.range' (i + 1) (ops.size - i - 1)).filter (fun j => !listed.getD j true) := by
        rw [hsplit, List.filter_append, List.filter_cons, hseti]
        congr 1
        · refine List.filter_congr fun j hj => ?_
          rw [hset j (by have := List.mem_range.1 hj; omega)]
        · refine List.filter_congr fun j hj => ?_
          rw [hset j (by have := List.mem_range'_1.1 hj; omega)]
      rw [hf1] at hseq hlen
      obtain ⟨s1, q1, q2⟩ := seqS_front hc _ hp hseq
      refine hop i s s1 a w hlt q1 hR _ fun a' w' hR' => ih _ s1 a' w' (by simpa using hsz) (by rw [hf2]; simp at hlen ⊢; omega) (fun j hj i' hi' => ?_) (by rw [hf2]; exact q2) hR'
      by_cases hji : j = i
      · subst hji
        exact getD_set_true (hbits i' hi')
      · rw [getD_set_ne false (Ne.symm hji)] at hj
        exact getD_set_true (hcl j hj i' hi')

end
end Go.Pev
