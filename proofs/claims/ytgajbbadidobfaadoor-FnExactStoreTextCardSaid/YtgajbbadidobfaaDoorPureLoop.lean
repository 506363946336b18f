/-
  Loops of the printed texts, in general.
-/
import Derived.Test.YtgajbbadidobfaaDoorPure0
set_option linter.unusedVariables false
set_option linter.unusedSimpArgs false
namespace Go.Pev

/-- A loop that goes all its rounds. -/
theorem iter_for {A R : Type} {b : (A → Option R) → A → Option R} (st : Nat → A) (m : Nat) {r : Option R} (h : ∀ G i, i < m → b G (st i) = G (st (i + 1))) (he : ∀ G, b G (st m) = r) {f : Nat} (hf : m < f) : iter b f (st 0) = r := by
  have key : ∀ (n i f : Nat), i + n = m → n < f → iter b f (st i) = r := by
    intro n
    induction n with
    | zero =>
      intro i f hi hf
      obtain ⟨f, rfl⟩ : ∃ g, f = g + 1 := ⟨f - 1, by omega⟩
      obtain rfl : i = m := by omega
      rw [iter_succ, he]
    | succ n ih =>
      intro i f hi hf
      obtain ⟨f, rfl⟩ : ∃ g, f = g + 1 := ⟨f - 1, by omega⟩
      rw [iter_succ, h _ i (by omega)]
      exact ih (i + 1) f (by omega) (by omega)
  exact key m 0 f (by omega) hf

/-- A loop that stops at the first that a test finds. -/
theorem iter_first {A R : Type} {b : (A → Option R) → A → Option R} (st : Nat → A) (m : Nat) (q : Nat → Bool) (rf : Nat → Option R) {r : Option R} (h : ∀ G i, i < m → b G (st i) = if q i = true then rf i else G (st (i + 1))) (he : ∀ G, b G (st m) = r) {f : Nat} (hf : m < f) :
    (∃ i, i < m ∧ q i = true ∧ iter b f (st 0) = rf i) ∨ ((∀ i, i < m → q i = false) ∧ iter b f (st 0) = r) := by
  have key : ∀ (n i f : Nat), i + n = m → n < f → (∃ j, i ≤ j ∧ j < m ∧ q j = true ∧ iter b f (st i) = rf j) ∨ ((∀ j, i ≤ j → j < m → q j = false) ∧ iter b f (st i) = r) := by
    intro n
    induction n with
    | zero =>
      intro i f hi hf
      obtain ⟨f, rfl⟩ : ∃ g, f = g + 1 := ⟨f - 1, by omega⟩
      obtain rfl : i = m := by omega
      exact .inr ⟨fun j h1 h2 => by omega, by rw [iter_succ, he]⟩
    | succ n ih =>
      intro i f hi hf
      obtain ⟨f, rfl⟩ : ∃ g, f = g + 1 := ⟨f - 1, by omega⟩
      rw [iter_succ, h _ i (by omega)]
      cases hq : q i with
      | true => exact .inl ⟨i, Nat.le_refl _, by omega, hq, by simp⟩
      | false =>
        simp only [Bool.false_eq_true, if_false]
        rcases ih (i + 1) f (by omega) (by omega) with ⟨j, h1, h2, h3, h4⟩ | ⟨h1, h2⟩
        · exact .inl ⟨j, by omega, h2, h3, h4⟩
        · refine .inr ⟨fun j h3 h4 => ?_, h2⟩
          by_cases hj : j = i
          · rw [hj]; exact hq
          · exact h1 j (by omega) h4
  rcases key m 0 f (by omega) hf with ⟨j, _, h2, h3, h4⟩ | ⟨h1, h2⟩
  · exact .inl ⟨j, h2, h3, h4⟩
  · exact .inr ⟨fun j hj => h1 j (by omega) hj, h2⟩

/-- A loop that looks for one of a list. -/
theorem iter_any {A R α : Type} {b : (A → Option R) → A → Option R} (st : Nat → A) (l : List α) (p : α → Bool) {rf r : Option R} (h : ∀ G i (hi : i < l.length), b G (st i) = if p l[i] = true then rf else G (st (i + 1))) (he : ∀ G, b G (st l.length) = r) {f : Nat} (hf : l.length < f) :
    iter b f (st 0) = if l.any p = true then rf else r := by
  rcases iter_first st l.length (fun i => if hi : i < l.length then p l[i] else false) (fun _ => rf) (r := r) (fun G i hi => by simp only [dif_pos hi]; exact h G i hi) he hf with ⟨i, hi, hq, e⟩ | ⟨hq, e⟩
  · simp only [dif_pos hi] at hq
    have ha : l.any p = true := List.any_eq_true.2 ⟨l[i], List.getElem_mem _, hq⟩
    rw [e, if_pos ha]
  · have ha : ¬ l.any p = true := by
      intro ha
      obtain ⟨x, hx, hp⟩ := List.any_eq_true.1 ha
      obtain ⟨i, hi, rfl⟩ := List.mem_iff_getElem.1 hx
      have := hq i hi
      simp only [dif_pos hi] at this
      rw [hp] at this
      cases this
    rw [e, if_neg ha]

/-- A loop that looks for the first place that a test finds: whether there is one. -/
theorem iter_find {A α β : Type} {b : (A → Option ((Int × Unit) × β)) → A → Option ((Int × Unit) × β)} (st : Nat → A) (l : List α) (p : α → Bool) {o : β} (h : ∀ G i (hi : i < l.length), b G (st i) = if p l[i] = true then some (((i : Int), ()), o) else G (st (i + 1))) (he : ∀ G, b G (st l.length) = some ((-1, ()), o)) {f : Nat} (hf : l.length < f) :
    ∃ n : Int, iter b f (st 0) = some ((n, ()), o) ∧ decide (n ≥ 0) = l.any p := by
  rcases iter_first st l.length (fun i => if hi : i < l.length then p l[i] else false) (fun i => some (((i : Int), ()), o)) (r := some ((-1, ()), o)) (fun G i hi => by simp only [dif_pos hi]; exact h G i hi) he hf with ⟨i, hi, hq, e⟩ | ⟨hq, e⟩
  · simp only [dif_pos hi] at hq
    refine ⟨i, e, ?_⟩
    have ha : l.any p = true := List.any_eq_true.2 ⟨l[i], List.getElem_mem _, hq⟩
    rw [ha]
    simp
  · refine ⟨-1, e, ?_⟩
    have ha : l.any p = false := by
      cases ha : l.any p with
      | false => rfl
      | true =>
        obtain ⟨x, hx, hp⟩ := List.any_eq_true.1 ha
        obtain ⟨i, hi, rfl⟩ := List.mem_iff_getElem.1 hx
        have := hq i hi
        simp only [dif_pos hi] at this
        rw [hp] at this
        cases this
    rw [ha]
    simp

/-- A loop that looks for a number that a test finds. -/
theorem iter_range {A R : Type} {b : (A → Option R) → A → Option R} (st : Nat → A) (m : Nat) (q : Nat → Bool) {rf r : Option R} (h : ∀ G i, i < m → b G (st i) = if q i = true then rf else G (st (i + 1))) (he : ∀ G, b G (st m) = r) {f : Nat} (hf : m < f) :
    iter b f (st 0) = if (List.range m).any q = true then rf else r := by
  rcases iter_first st m q (fun _ => rf) (r := r) h he hf with ⟨i, hi, hq, e⟩ | ⟨hq, e⟩
  · rw [e, if_pos (List.any_eq_true.2 ⟨i, List.mem_range.2 hi, hq⟩)]
  · rw [e, if_neg]
    intro ha
    obtain ⟨i, hi, hp⟩ := List.any_eq_true.1 ha
    rw [hq i (List.mem_range.1 hi)] at hp
    cases hp

theorem wrap_succ {i : Nat} (h : i < 4611686018427387904) : IntKind.wrap .i64 ((i : Int) + 1) = ((i + 1 : Nat) : Int) := by
  rw [wrap_i64 (by omega) (by omega)]; omega

theorem set_next {α : Type} (a : List α) (z : α) {i : Nat} (hi : i < a.length) : (a.take i ++ List.replicate (a.length - i) z).set i a[i] = a.take (i + 1) ++ List.replicate (a.length - (i + 1)) z := by
  have e : a.length - i = (a.length - (i + 1)) + 1 := by omega
  rw [List.set_append_right _ _ (by simp; omega), e, List.replicate_succ]
  simp only [List.length_take, Nat.min_eq_left (Nat.le_of_lt hi), Nat.sub_self, List.set_cons_zero]
  rw [← List.take_append_getElem hi, List.append_assoc]
  rfl

theorem get_next {α : Type} (a : List α) (z : α) {i : Nat} (hi : i < a.length) : (a.take i ++ List.replicate (a.length - i) z)[i]? = some z := by
  rw [List.getElem?_append_right (by simp; omega)]
  simp only [List.length_take, Nat.min_eq_left (Nat.le_of_lt hi), Nat.sub_self]
  rw [List.getElem?_replicate]
  simp; omega
end Go.Pev
