/-
  Small laws for the printed texts.
-/
import Derived.Test.YtimiagnkcjfdhaaGreatDoorK02
import Derived.Lib.ItoaNum
import Derived.Test.YtimiagnkcjfdhaaGreatDoorK09
import Derived.KernelRfl
import Derived.Lib.Join
set_option linter.unusedSimpArgs false
set_option linter.unusedVariables false
section
set_option linter.unusedVariables false
set_option linter.unusedSimpArgs false
namespace Go.Pev

@[simp] theorem br_true {α : Type} (n : Nat) (x y : Option α) : br n true x y = x := by rw [br_eq]; rfl
@[simp] theorem br_false {α : Type} (n : Nat) (x y : Option α) : br n false x y = y := by rw [br_eq]; rfl
@[simp] theorem bd_some {α β : Type} (n : Nat) (a : β) (f : β → Option α) : bd n (some a) f = f a := by rw [bd_eq]; rfl
@[simp] theorem bd_none {α β : Type} (n : Nat) (f : β → Option α) : bd n none f = none := by rw [bd_eq]; rfl

theorem br_dec {α : Type} (n : Nat) (p : Prop) [Decidable p] (x y : Option α) : br n (decide p) x y = if p then x else y := by
  by_cases h : p <;> simp [h]

theorem iter_succ {A R : Type} (b : (A → Option R) → A → Option R) (n : Nat) (x : A) : iter b (n + 1) x = b (iter b n) x := rfl

/-! ### Numbers that fit -/

theorem wrap_i64 {n : Int} (h0 : -9223372036854775808 ≤ n) (h1 : n ≤ 9223372036854775807) : IntKind.wrap .i64 n = n := by
  simp [IntKind.wrap, IntKind.bits, IntKind.signed]
  omega

theorem wrap_u64 {n : Int} (h0 : 0 ≤ n) (h1 : n < 18446744073709551616) : IntKind.wrap .u64 n = n := by
  simp [IntKind.wrap, IntKind.bits, IntKind.signed]
  omega

theorem wrap_u64_neg {n : Int} (h0 : -9223372036854775808 ≤ n) (h1 : n < 0) : IntKind.wrap .u64 n = n + 18446744073709551616 := by
  simp [IntKind.wrap, IntKind.bits, IntKind.signed]
  omega

theorem wrap_u8 {n : Int} (h0 : 0 ≤ n) (h1 : n < 256) : IntKind.wrap .u8 n = n := by
  simp [IntKind.wrap, IntKind.bits, IntKind.signed]
  omega

theorem tdiv10 {n : Int} (h0 : 0 ≤ n) : n.tdiv 10 = n / 10 := Int.tdiv_eq_ediv_of_nonneg h0
theorem tmod10 {n : Int} (h0 : 0 ≤ n) : n.tmod 10 = n % 10 := Int.tmod_eq_emod_of_nonneg h0
end Go.Pev
end

section
/-
  Tests of numbers, in both packages.
-/
set_option linter.unusedVariables false
set_option linter.unusedSimpArgs false
namespace Go.Pev.F

theorem br_beq {α : Type} (k : Nat) (a b : Int) (x y : Option α) : br k (a == b) x y = if a = b then x else y := by
  by_cases h : a = b
  · simp [h]
  · have : (a == b) = false := by simpa using h
    rw [this, br_false, if_neg h]

theorem l1In_is (k : Nat) (a b c : Int) : spec_l1In k (a, b, c, ()) = some ((decide (b ≤ a ∧ a ≤ c), ()), ((), (), (), ())) := by
  unfold spec_l1In
  by_cases h : b ≤ a <;> by_cases h2 : a ≤ c <;> simp [h, h2]

theorem within_is (k : Nat) (a b c : Int) : impl_within k (a, b, c, ()) = some ((decide (b ≤ a ∧ a ≤ c), ()), ((), (), (), ())) := by
  unfold impl_within
  by_cases h : b ≤ a <;> by_cases h2 : a ≤ c <;> simp [h, h2]

end Go.Pev.F
end

section
/-
  Loops of the printed texts, in general.
-/
set_option linter.unusedVariables false
set_option linter.unusedSimpArgs false
namespace Go.Pev

/-- A loop that goes all its rounds. -/
theorem iter_for {A R : Type} {b : (A → Option R) → A → Option R} (st : Nat → A) (m : Nat) {r : Option R} (h : ∀ G i, i < m → b G (st i) = G (st (i + 1))) (he : ∀ G, b G (st m) = r) {f : Nat} (hf : m < f) : iter b f (st 0) = r := by
  have key : ∀ (n i f : Nat), i + n = m → n < f → iter b f (st i) = r := by
    intro n
    induction n with
    | zero =>
      intro i f hi hf
      obtain ⟨f, rfl⟩ : ∃ g, f = g + 1 := ⟨f - 1, by omega⟩
      obtain rfl : i = m := by omega
      rw [iter_succ, he]
    | succ n ih =>
      intro i f hi hf
      obtain ⟨f, rfl⟩ : ∃ g, f = g + 1 := ⟨f - 1, by omega⟩
      rw [iter_succ, h _ i (by omega)]
      exact ih (i + 1) f (by omega) (by omega)
  exact key m 0 f (by omega) hf

/-- A loop that stops at the first that a test finds. -/
theorem iter_first {A R : Type} {b : (A → Option R) → A → Option R} (st : Nat → A) (m : Nat) (q : Nat → Bool) (rf : Nat → Option R) {r : Option R} (h : ∀ G i, i < m → b G (st i) = if q i = true then rf i else G (st (i + 1))) (he : ∀ G, b G (st m) = r) {f : Nat} (hf : m < f) :
    (∃ i, i < m ∧ q i = true ∧ iter b f (st 0) = rf i) ∨ ((∀ i, i < m → q i = false) ∧ iter b f (st 0) = r) := by
  have key : ∀ (n i f : Nat), i + n = m → n < f → (∃ j, i ≤ j ∧ j < m ∧ q j = true ∧ iter b f (st i) = rf j) ∨ ((∀ j, i ≤ j → j < m → q j = false) ∧ iter b f (st i) = r) := by
    intro n
    induction n with
    | zero =>
      intro i f hi hf
      obtain ⟨f, rfl⟩ : ∃ g, f = g + 1 := ⟨f - 1, by omega⟩
      obtain rfl : i = m := by omega
      exact .inr ⟨fun j h1 h2 => by omega, by rw [iter_succ, he]⟩
    | succ n ih =>
      intro i f hi hf
      obtain ⟨f, rfl⟩ : ∃ g, f = g + 1 := ⟨f - 1, by omega⟩
      rw [iter_succ, h _ i (by omega)]
      cases hq : q i with
      | true => exact .inl ⟨i, Nat.le_refl _, by omega, hq, by simp⟩
      | false =>
        simp only [Bool.false_eq_true, if_false]
        rcases ih (i + 1) f (by omega) (by omega) with ⟨j, h1, h2, h3, h4⟩ | ⟨h1, h2⟩
        · exact .inl ⟨j, by omega, h2, h3, h4⟩
        · refine .inr ⟨fun j h3 h4 => ?_, h2⟩
          by_cases hj : j = i
          · rw [hj]; exact hq
          · exact h1 j (by omega) h4
  rcases key m 0 f (by omega) hf with ⟨j, _, h2, h3, h4⟩ | ⟨h1, h2⟩
  · exact .inl ⟨j, h2, h3, h4⟩
  · exact .inr ⟨fun j hj => h1 j (by omega) hj, h2⟩

/-- A loop that looks for one of a list. -/
theorem iter_any {A R α : Type} {b : (A → Option R) → A → Option R} (st : Nat → A) (l : List α) (p : α → Bool) {rf r : Option R} (h : ∀ G i (hi : i < l.length), b G (st i) = if p l[i] = true then rf else G (st (i + 1))) (he : ∀ G, b G (st l.length) = r) {f : Nat} (hf : l.length < f) :
    iter b f (st 0) = if l.any p = true then rf else r := by
  rcases iter_first st l.length (fun i => if hi : i < l.length then p l[i] else false) (fun _ => rf) (r := r) (fun G i hi => by simp only [dif_pos hi]; exact h G i hi) he hf with ⟨i, hi, hq, e⟩ | ⟨hq, e⟩
  · simp only [dif_pos hi] at hq
    have ha : l.any p = true := List.any_eq_true.2 ⟨l[i], List.getElem_mem _, hq⟩
    rw [e, if_pos ha]
  · have ha : ¬ l.any p = true := by
      intro ha
      obtain ⟨x, hx, hp⟩ := List.any_eq_true.1 ha
      obtain ⟨i, hi, rfl⟩ := List.mem_iff_getElem.1 hx
      have := hq i hi
      simp only [dif_pos hi] at this
      rw [hp] at this
      cases this
    rw [e, if_neg ha]

/-- A loop that looks for the first place that a test finds: whether there is one. -/
theorem iter_find {A α β : Type} {b : (A → Option ((Int × Unit) × β)) → A → Option ((Int × Unit) × β)} (st : Nat → A) (l : List α) (p : α → Bool) {o : β} (h : ∀ G i (hi : i < l.length), b G (st i) = if p l[i] = true then some (((i : Int), ()), o) else G (st (i + 1))) (he : ∀ G, b G (st l.length) = some ((-1, ()), o)) {f : Nat} (hf : l.length < f) :
    ∃ n : Int, iter b f (st 0) = some ((n, ()), o) ∧ decide (n ≥ 0) = l.any p := by
  rcases iter_first st l.length (fun i => if hi : i < l.length then p l[i] else false) (fun i => some (((i : Int), ()), o)) (r := some ((-1, ()), o)) (fun G i hi => by simp only [dif_pos hi]; exact h G i hi) he hf with ⟨i, hi, hq, e⟩ | ⟨hq, e⟩
  · simp only [dif_pos hi] at hq
    refine ⟨i, e, ?_⟩
    have ha : l.any p = true := List.any_eq_true.2 ⟨l[i], List.getElem_mem _, hq⟩
    rw [ha]
    simp
  · refine ⟨-1, e, ?_⟩
    have ha : l.any p = false := by
      cases ha : l.any p with
      | false => rfl
      | true =>
        obtain ⟨x, hx, hp⟩ := List.any_eq_true.1 ha
        obtain ⟨i, hi, rfl⟩ := List.mem_iff_getElem.1 hx
        have := hq i hi
        simp only [dif_pos hi] at this
        rw [hp] at this
        cases this
    rw [ha]
    simp

/-- A loop that looks for a number that a test finds. -/
theorem iter_range {A R : Type} {b : (A → Option R) → A → Option R} (st : Nat → A) (m : Nat) (q : Nat → Bool) {rf r : Option R} (h : ∀ G i, i < m → b G (st i) = if q i = true then rf else G (st (i + 1))) (he : ∀ G, b G (st m) = r) {f : Nat} (hf : m < f) :
    iter b f (st 0) = if (List.range m).any q = true then rf else r := by
  rcases iter_first st m q (fun _ => rf) (r := r) h he hf with ⟨i, hi, hq, e⟩ | ⟨hq, e⟩
  · rw [e, if_pos (List.any_eq_true.2 ⟨i, List.mem_range.2 hi, hq⟩)]
  · rw [e, if_neg]
    intro ha
    obtain ⟨i, hi, hp⟩ := List.any_eq_true.1 ha
    rw [hq i (List.mem_range.1 hi)] at hp
    cases hp

theorem wrap_succ {i : Nat} (h : i < 4611686018427387904) : IntKind.wrap .i64 ((i : Int) + 1) = ((i + 1 : Nat) : Int) := by
  rw [wrap_i64 (by omega) (by omega)]; omega

theorem set_next {α : Type} (a : List α) (z : α) {i : Nat} (hi : i < a.length) : (a.take i ++ List.replicate (a.length - i) z).set i a[i] = a.take (i + 1) ++ List.replicate (a.length - (i + 1)) z := by
  have e : a.length - i = (a.length - (i + 1)) + 1 := by omega
  rw [List.set_append_right _ _ (by simp; omega), e, List.replicate_succ]
  simp only [List.length_take, Nat.min_eq_left (Nat.le_of_lt hi), Nat.sub_self, List.set_cons_zero]
  rw [← List.take_append_getElem hi, List.append_assoc]
  rfl

theorem get_next {α : Type} (a : List α) (z : α) {i : Nat} (hi : i < a.length) : (a.take i ++ List.replicate (a.length - i) z)[i]? = some z := by
  rw [List.getElem?_append_right (by simp; omega)]
  simp only [List.length_take, Nat.min_eq_left (Nat.le_of_lt hi), Nat.sub_self]
  rw [List.getElem?_replicate]
  simp; omega

theorem all_any {α : Type} (l : List α) (q : α → Bool) : (l.any fun x => !q x) = !l.all q := by rw [List.not_all_eq_any_not]
end Go.Pev
end

section
/-
  A program's names: sizes, copies, comparisons; which are right: the reference's and the program's test agree.
-/
set_option linter.unusedVariables false
set_option linter.unusedSimpArgs false
namespace Go.Pev.F

abbrev Names := List (List UInt8)
abbrev ArrT := List UInt8 × Int × Unit
abbrev DeclT := Names × Names × List ArrT × Unit
abbrev IvT := Int × Int × Unit
abbrev EnvT := Bool × List IvT × List IvT × Unit

/-! ### Sizes -/

theorem szStringS_loop (k : Nat) (a : Names) (ha : a.length ≤ 4611686018427387903) (hs : ∀ x ∈ a, x.length ≤ 4611686018427387903) : ∀ (n i f : Nat) (left : Int), i + n = a.length → n < f → 0 ≤ left → left ≤ 1048576 →
    ∃ r : Int, iter (laws_szStringS.l0 k) f (a, left, (i : Int), ()) = some ((r, ()), ((), (), ())) ∧ (0 ≤ r → r ≤ left ∧ ∀ j (hj : j < a.length), i ≤ j → (a[j].length : Int) ≤ left) := by
  intro n
  induction n with
  | zero =>
    intro i f left hi hf h0 h1
    obtain ⟨f, rfl⟩ : ∃ g, f = g + 1 := ⟨f - 1, by omega⟩
    refine ⟨left, ?_, fun _ => ⟨Int.le_refl _, fun j hj h => by omega⟩⟩
    rw [iter_succ]
    have : ¬ ((i : Int) < (a.length : Int)) := by omega
    simp only [laws_szStringS.l0, br_dec, if_neg this]
  | succ n ih =>
    intro i f left hi hf h0 h1
    obtain ⟨f, rfl⟩ : ∃ g, f = g + 1 := ⟨f - 1, by omega⟩
    have hi' : i < a.length := by omega
    have hx := hs a[i] (List.getElem_mem _)
    have h2 : ((i : Int) < (a.length : Int)) := by omega
    have h3 : (0 : Int) ≤ (i : Int) := by omega
    rw [iter_succ]
    simp only [laws_szStringS.l0, br_dec, if_pos h2, if_pos h3, Int.toNat_natCast, List.getElem?_eq_getElem hi', bd_some]
    rw [wrap_i64 (n := left - (a[i].length : Int)) (by omega) (by omega), wrap_succ (by omega)]
    by_cases hc : left - (a[i].length : Int) < 0
    · rw [if_pos hc]
      exact ⟨-1, rfl, fun h => by omega⟩
    · rw [if_neg hc]
      obtain ⟨r, h4, h5⟩ := ih (i + 1) f (left - (a[i].length : Int)) (by omega) (by omega) (by omega) (by omega)
      refine ⟨r, h4, fun hr => ?_⟩
      obtain ⟨h6, h7⟩ := h5 hr
      refine ⟨by omega, fun j hj hij => ?_⟩
      by_cases e : j = i
      · subst e; omega
      · have := h7 j hj (by omega); omega

theorem szStringS_is (k : Nat) (hk : 1048576 < k) (a : Names) (ha : a.length ≤ 140737488351232) (hs : ∀ x ∈ a, x.length ≤ 140737488351232) (left : Int) (h0 : 0 ≤ left) (h1 : left ≤ 1048576) :
    ∃ r : Int, laws_szStringS k (a, left, ()) = some ((r, ()), ((), (), ())) ∧ (0 ≤ r → r ≤ left ∧ a.length ≤ 1048576 ∧ ∀ x ∈ a, x.length ≤ 1048576) := by
  unfold laws_szStringS
  simp only [br_dec]
  rw [wrap_i64 (by omega) (by omega)]
  by_cases hc : left - (a.length : Int) < 0
  · rw [if_pos hc]
    exact ⟨-1, rfl, fun h => by omega⟩
  · rw [if_neg hc]
    obtain ⟨r, h4, h5⟩ := szStringS_loop k a (by omega) (fun x hx => by have := hs x hx; omega) a.length 0 k (left - (a.length : Int)) (by omega) (by omega) (by omega) (by omega)
    refine ⟨r, h4, fun hr => ?_⟩
    obtain ⟨h6, h7⟩ := h5 hr
    refine ⟨by omega, by omega, fun x hx => ?_⟩
    obtain ⟨j, hj, rfl⟩ := List.mem_iff_getElem.1 hx
    have := h7 j hj (by omega)
    omega

theorem szArrS_loop (k : Nat) (a : List ArrT) (ha : a.length ≤ 4611686018427387903) (hs : ∀ x ∈ a, x.1.length ≤ 4611686018427387903) : ∀ (n i f : Nat) (left : Int), i + n = a.length → n < f → 0 ≤ left → left ≤ 1048576 →
    ∃ r : Int, iter (laws_szArrS.l0 k) f (a, left, (i : Int), ()) = some ((r, ()), ((), (), ())) ∧ (0 ≤ r → r ≤ left ∧ ∀ j (hj : j < a.length), i ≤ j → (a[j].1.length : Int) ≤ left) := by
  intro n
  induction n with
  | zero =>
    intro i f left hi hf h0 h1
    obtain ⟨f, rfl⟩ : ∃ g, f = g + 1 := ⟨f - 1, by omega⟩
    refine ⟨left, ?_, fun _ => ⟨Int.le_refl _, fun j hj h => by omega⟩⟩
    rw [iter_succ]
    have : ¬ ((i : Int) < (a.length : Int)) := by omega
    simp only [laws_szArrS.l0, br_dec, if_neg this]
  | succ n ih =>
    intro i f left hi hf h0 h1
    obtain ⟨f, rfl⟩ : ∃ g, f = g + 1 := ⟨f - 1, by omega⟩
    have hi' : i < a.length := by omega
    have hx := hs a[i] (List.getElem_mem _)
    have h2 : ((i : Int) < (a.length : Int)) := by omega
    have h3 : (0 : Int) ≤ (i : Int) := by omega
    rw [iter_succ]
    simp only [laws_szArrS.l0, laws_szArr, br_dec, if_pos h2, if_pos h3, Int.toNat_natCast, List.getElem?_eq_getElem hi', bd_some]
    rw [wrap_i64 (n := left - (a[i].1.length : Int)) (by omega) (by omega), wrap_succ (by omega)]
    by_cases hc : left - (a[i].1.length : Int) < 0
    · rw [if_pos hc]
      exact ⟨-1, by simp, fun h => by omega⟩
    · rw [if_neg hc]
      simp only [bd_some]
      rw [if_neg hc]
      obtain ⟨r, h4, h5⟩ := ih (i + 1) f (left - (a[i].1.length : Int)) (by omega) (by omega) (by omega) (by omega)
      refine ⟨r, h4, fun hr => ?_⟩
      obtain ⟨h6, h7⟩ := h5 hr
      refine ⟨by omega, fun j hj hij => ?_⟩
      by_cases e : j = i
      · subst e; omega
      · have := h7 j hj (by omega); omega

theorem szArrS_is (k : Nat) (hk : 1048576 < k) (a : List ArrT) (ha : a.length ≤ 140737488351232) (hs : ∀ x ∈ a, x.1.length ≤ 140737488351232) (left : Int) (h0 : 0 ≤ left) (h1 : left ≤ 1048576) :
    ∃ r : Int, laws_szArrS k (a, left, ()) = some ((r, ()), ((), (), ())) ∧ (0 ≤ r → r ≤ left ∧ a.length ≤ 1048576 ∧ ∀ x ∈ a, x.1.length ≤ 1048576) := by
  unfold laws_szArrS
  simp only [br_dec]
  rw [wrap_i64 (by omega) (by omega)]
  by_cases hc : left - (a.length : Int) < 0
  · rw [if_pos hc]
    exact ⟨-1, rfl, fun h => by omega⟩
  · rw [if_neg hc]
    obtain ⟨r, h4, h5⟩ := szArrS_loop k a (by omega) (fun x hx => by have := hs x hx; omega) a.length 0 k (left - (a.length : Int)) (by omega) (by omega) (by omega) (by omega)
    refine ⟨r, h4, fun hr => ?_⟩
    obtain ⟨h6, h7⟩ := h5 hr
    refine ⟨by omega, by omega, fun x hx => ?_⟩
    obtain ⟨j, hj, rfl⟩ := List.mem_iff_getElem.1 hx
    have := h7 j hj (by omega)
    omega

/-- What the guard grants of a declaration. -/
structure DSmall (d : DeclT) : Prop where
  n0 : d.1.length ≤ 1048576
  s0 : ∀ x ∈ d.1, x.length ≤ 1048576
  n1 : d.2.1.length ≤ 1048576
  s1 : ∀ x ∈ d.2.1, x.length ≤ 1048576
  n2 : d.2.2.1.length ≤ 1048576
  s2 : ∀ x ∈ d.2.2.1, x.1.length ≤ 1048576

abbrev declKd : Kd := .cons (.sl false .str) (.cons (.sl false .str) (.cons (.sl false (.cons .str (.cons (.int .i64) .nil))) .nil))

theorem szDecl_is (k : Nat) (hk : 1048576 < k) (d : DeclT) (hw : declKd.WF d) : ∃ r : Int, laws_szDecl k (d, 1048576, ()) = some ((r, ()), ((), (), ())) ∧ r ≤ 1048576 ∧ (0 ≤ r → DSmall d) := by
  obtain ⟨⟨a1, a2⟩, ⟨b1, b2⟩, ⟨c1, c2⟩, _⟩ := hw
  obtain ⟨r1, e1, p1⟩ := szStringS_is k hk d.1 a1 (fun x hx => a2 x hx) 1048576 (by omega) (by omega)
  unfold laws_szDecl
  simp only [e1, bd_some, br_dec]
  by_cases h1 : r1 < 0
  · rw [if_pos h1]; exact ⟨-1, rfl, by omega, fun h => by omega⟩
  rw [if_neg h1]
  obtain ⟨q1, q2, q3⟩ := p1 (by omega)
  obtain ⟨r2, e2, p2⟩ := szStringS_is k hk d.2.1 b1 (fun x hx => b2 x hx) r1 (by omega) (by omega)
  simp only [e2, bd_some]
  by_cases h2 : r2 < 0
  · rw [if_pos h2]; exact ⟨-1, rfl, by omega, fun h => by omega⟩
  rw [if_neg h2]
  obtain ⟨u1, u2, u3⟩ := p2 (by omega)
  obtain ⟨r3, e3, p3⟩ := szArrS_is k hk d.2.2.1 c1 (fun x hx => (c2 x hx).1) r2 (by omega) (by omega)
  simp only [e3, bd_some]
  by_cases h3 : r3 < 0
  · rw [if_pos h3]; exact ⟨-1, rfl, by omega, fun h => by omega⟩
  rw [if_neg h3]
  obtain ⟨v1, v2, v3⟩ := p3 (by omega)
  exact ⟨r3, rfl, by omega, fun _ => ⟨q2, q3, u2, u3, v2, v3⟩⟩

/-! ### Copies -/

theorem toStringS_is (k : Nat) (a : Names) (ha : a.length ≤ 1048576) (hk : 1048576 < k) : laws_toStringS k (a, ()) = some ((a, ()), ((), ())) := by
  unfold laws_toStringS
  have h : 0 ≤ (a.length : Int) ∧ (a.length : Int) ≤ (a.length : Int) ∧ (a.length : Int) * 16 ≤ maxBytes := by simp [maxBytes]; omega
  simp only [br_dec, if_pos h, Int.toNat_natCast]
  have key := iter_for (b := laws_toStringS.l0 k) (fun i => (a, a.take i ++ List.replicate (a.length - i) (Kd.z .str), (i : Int), ())) a.length (r := some ((a, ()), ((), ()))) (fun G i hi => by
    have h2 : ((i : Int) < (a.length : Int)) := by omega
    have h3 : (0 : Int) ≤ (i : Int) := by omega
    have h4 : 0 ≤ (i : Int) ∧ (i : Int) < ((a.take i ++ List.replicate (a.length - i) (Kd.z .str)).length : Int) := by simp; omega
    simp only [laws_toStringS.l0, br_dec, if_pos h2, if_pos h3, if_pos h4, Int.toNat_natCast, List.getElem?_eq_getElem hi, get_next a _ hi, bd_some]
    rw [set_next a _ hi, wrap_succ (by omega)]) (fun G => by
    have h2 : ¬ ((a.length : Int) < (a.length : Int)) := by omega
    simp only [laws_toStringS.l0, br_dec, if_neg h2]
    simp) (f := k) (by omega)
  simpa using key

theorem toArrS_is (k : Nat) (a : List ArrT) (ha : a.length ≤ 1048576) (hk : 1048576 < k) : laws_toArrS k (a, ()) = some ((a, ()), ((), ())) := by
  unfold laws_toArrS
  have h : 0 ≤ (a.length : Int) ∧ (a.length : Int) ≤ (a.length : Int) ∧ (a.length : Int) * 24 ≤ maxBytes := by simp [maxBytes]; omega
  simp only [br_dec, if_pos h, Int.toNat_natCast]
  generalize hz : (Kd.z (.cons .str (.cons (.int .i64) .nil)) : ArrT) = z
  have key := iter_for (b := laws_toArrS.l0 k) (fun i => (a, a.take i ++ List.replicate (a.length - i) z, (i : Int), ())) a.length (r := some ((a, ()), ((), ()))) (fun G i hi => by
    have h2 : ((i : Int) < (a.length : Int)) := by omega
    have h3 : (0 : Int) ≤ (i : Int) := by omega
    have h4 : 0 ≤ (i : Int) ∧ (i : Int) < ((a.take i ++ List.replicate (a.length - i) z).length : Int) := by simp; omega
    simp only [laws_toArrS.l0, laws_toArr, br_dec, if_pos h2, if_pos h3, if_pos h4, Int.toNat_natCast, List.getElem?_eq_getElem hi, get_next a _ hi, bd_some]
    rw [set_next a _ hi, wrap_succ (by omega)]) (fun G => by
    have h2 : ¬ ((a.length : Int) < (a.length : Int)) := by omega
    simp only [laws_toArrS.l0, br_dec, if_neg h2]
    simp) (f := k) (by omega)
  simpa using key

theorem toDecl_is (k : Nat) (d : DeclT) (hd : DSmall d) (hk : 1048576 < k) : laws_toDecl k (d, ()) = some ((d, ()), ((), ())) := by
  unfold laws_toDecl
  simp only [toStringS_is k _ hd.n0 hk, toStringS_is k _ hd.n1 hk, toArrS_is k _ hd.n2 hk, bd_some]

/-! ### Comparisons -/

theorem eqStringS_is (k : Nat) (a : Names) (ha : a.length ≤ 1048576) (hk : 1048576 < k) : laws_eqStringS k (a, a, ()) = some ((true, ()), ((), (), ())) := by
  unfold laws_eqStringS
  have hb : ((a.length : Int) != (a.length : Int)) = false := by simp
  simp only [hb, br_false]
  exact iter_for (b := laws_eqStringS.l0 k) (fun i => (a, a, (i : Int), ())) a.length (fun G i hi => by
    have h2 : ((i : Int) < (a.length : Int)) := by omega
    have h3 : (0 : Int) ≤ (i : Int) := by omega
    simp only [laws_eqStringS.l0, br_dec, if_pos h2, if_pos h3, Int.toNat_natCast, List.getElem?_eq_getElem hi, bd_some, BEq.rfl, Bool.not_true, br_false]
    rw [wrap_succ (by omega)]) (fun G => by
    have h2 : ¬ ((a.length : Int) < (a.length : Int)) := by omega
    simp only [laws_eqStringS.l0, br_dec, if_neg h2]) (by omega)

theorem eqArrS_is (k : Nat) (a : List ArrT) (ha : a.length ≤ 1048576) (hk : 1048576 < k) : laws_eqArrS k (a, a, ()) = some ((true, ()), ((), (), ())) := by
  unfold laws_eqArrS
  have hb : ((a.length : Int) != (a.length : Int)) = false := by simp
  simp only [hb, br_false]
  exact iter_for (b := laws_eqArrS.l0 k) (fun i => (a, a, (i : Int), ())) a.length (fun G i hi => by
    have h2 : ((i : Int) < (a.length : Int)) := by omega
    have h3 : (0 : Int) ≤ (i : Int) := by omega
    simp only [laws_eqArrS.l0, laws_eqArr, br_dec, if_pos h2, if_pos h3, Int.toNat_natCast, List.getElem?_eq_getElem hi, bd_some, BEq.rfl, bne_self_eq_false, Bool.not_true, br_false]
    rw [wrap_succ (by omega)]) (fun G => by
    have h2 : ¬ ((a.length : Int) < (a.length : Int)) := by omega
    simp only [laws_eqArrS.l0, br_dec, if_neg h2]) (by omega)

theorem eqDecl_is (k : Nat) (d : DeclT) (hd : DSmall d) (hk : 1048576 < k) : laws_eqDecl k (d, d, ()) = some ((true, ()), ((), (), ())) := by
  unfold laws_eqDecl
  simp only [eqStringS_is k _ hd.n0 hk, eqStringS_is k _ hd.n1 hk, eqArrS_is k _ hd.n2 hk, bd_some, Bool.not_true, br_false]
end Go.Pev.F
end

section
/-
  Which names are right: the reference's test and the program's agree.
-/
set_option linter.unusedVariables false
set_option linter.unusedSimpArgs false
namespace Go.Pev.F

def keys : Names := [[118, 97, 114], [102, 108, 97, 103], [97, 114, 114, 97, 121], [105, 102], [102, 111, 114, 107], [101, 108, 115, 101], [101, 110, 100], [119, 104, 105, 108, 101], [117, 110, 114, 111, 108, 108], [97, 115, 115, 101, 114, 116], [97, 115, 115, 117, 109, 101], [105, 110, 112, 117, 116], [115, 112, 108, 105, 116], [109, 101, 114, 103, 101], [116, 114, 117, 101], [102, 97, 108, 115, 101]]
def letter (b : UInt8) : Bool := decide (97 ≤ b.toNat ∧ b.toNat ≤ 122)
def nameOk (s : List UInt8) : Bool := s.all letter && (decide (1 ≤ s.length ∧ s.length ≤ 8) && !keys.contains s)

theorem l3Key_is (k : Nat) (hk : 1048576 < k) (s : List UInt8) : spec_l3Key k (s, ()) = some ((keys.contains s, ()), ((), ())) := by
  have h := iter_any (b := spec_l3Key.l0 k) (fun i => (s, keys, (i : Int), ())) keys (fun x => x == s) (rf := some ((true, ()), ((), ()))) (r := some ((false, ()), ((), ()))) (fun G i hi => by
    have h2 : ((i : Int) < (keys.length : Int)) := by omega
    have h3 : (0 : Int) ≤ (i : Int) ∧ ((i : Int) < (keys.length : Int)) := by omega
    have h4 : keys.length = 16 := rfl
    simp only [spec_l3Key.l0, br_dec, if_pos h2, if_pos h3, Int.toNat_natCast, List.getElem?_eq_getElem hi, bd_some]
    rw [wrap_succ (by omega)]
    cases h : (keys[i] == s) <;> simp) (fun G => by
    have h2 : ¬ ((keys.length : Int) < (keys.length : Int)) := by omega
    simp only [spec_l3Key.l0, br_dec, if_neg h2]) (f := k) (by show 16 < k; omega)
  unfold spec_l3Key
  refine Eq.trans h ?_
  rw [List.any_beq']
  cases keys.contains s <;> rfl

theorem l3Name_is (k : Nat) (hk : 1048576 < k) (s : List UInt8) (hs : s.length ≤ 1048576) : spec_l3Name k (s, ()) = some ((nameOk s, ()), ((), ())) := by
  have h := iter_any (b := spec_l3Name.l0 k) (fun i => (s, (i : Int), ())) s (fun b => !letter b) (rf := some ((false, ()), ((), ()))) (r := some ((decide (1 ≤ s.length ∧ s.length ≤ 8) && !keys.contains s, ()), ((), ()))) (fun G i hi => by
    have h2 : ((i : Int) < (s.length : Int)) := by omega
    have h3 : (0 : Int) ≤ (i : Int) := by omega
    simp only [spec_l3Name.l0, br_dec, if_pos h2, if_pos h3, Int.toNat_natCast, List.getElem?_eq_getElem hi, bd_some]
    rw [wrap_succ (by omega)]
    by_cases c1 : ((s[i].toNat : Int) < 97)
    · have : letter s[i] = false := by simp [letter]; omega
      simp [if_pos c1, this]
    · rw [if_neg c1]
      by_cases c2 : ((s[i].toNat : Int) > 122)
      · have : letter s[i] = false := by simp [letter]; omega
        have c2' : decide ((s[i].toNat : Int) > 122) = true := decide_eq_true c2
        simp only [Option.bind_some, c2', br_true, this, Bool.not_false, if_true]
      · have : letter s[i] = true := by simp [letter]; omega
        have c2' : decide ((s[i].toNat : Int) > 122) = false := decide_eq_false c2
        simp only [Option.bind_some, c2', br_false, this, Bool.not_true, Bool.false_eq_true, if_false]) (fun G => by
    have h2 : ¬ ((s.length : Int) < (s.length : Int)) := by omega
    simp only [spec_l3Name.l0, br_dec, if_neg h2, l1In_is, l3Key_is k hk, bd_some]
    by_cases c : 1 ≤ s.length ∧ s.length ≤ 8
    · have c' : (1 : Int) ≤ (s.length : Int) ∧ (s.length : Int) ≤ 8 := by omega
      simp only [if_pos c', Option.bind_some, decide_eq_true c, Bool.true_and]
    · have c' : ¬ ((1 : Int) ≤ (s.length : Int) ∧ (s.length : Int) ≤ 8) := by omega
      simp only [if_neg c', Option.bind_some, decide_eq_false c, Bool.false_and]) (f := k) (by omega)
  unfold spec_l3Name
  refine Eq.trans h ?_
  unfold nameOk
  rw [show s.any (fun b => !letter b) = !s.all letter by rw [List.not_all_eq_any_not]]
  cases s.all letter <;> simp

theorem l3Place_is (k : Nat) (l : Names) (v : List UInt8) (hl : l.length ≤ 4194304) (hk : 4194304 < k) : ∃ n : Int, spec_l3Place k (l, v, ()) = some ((n, ()), ((), (), ())) ∧ decide (n ≥ 0) = l.contains v := by
  obtain ⟨n, h1, h2⟩ := iter_find (b := spec_l3Place.l0 k) (fun i => (l, v, (i : Int), ())) l (fun x => x == v) (o := ((), (), ())) (fun G i hi => by
    have h2 : ((i : Int) < (l.length : Int)) := by omega
    have h3 : (0 : Int) ≤ (i : Int) := by omega
    simp only [spec_l3Place.l0, br_dec, if_pos h2, if_pos h3, Int.toNat_natCast, List.getElem?_eq_getElem hi, bd_some]
    rw [wrap_succ (by omega)]
    cases h : (l[i] == v) <;> simp) (fun G => by
    have h2 : ¬ ((l.length : Int) < (l.length : Int)) := by omega
    simp only [spec_l3Place.l0, br_dec, if_neg h2]) (f := k) (by omega)
  refine ⟨n, h1, ?_⟩
  rw [h2, List.any_beq']

theorem slicesContains_is (k : Nat) (l : Names) (v : List UInt8) (hl : l.length ≤ 4194304) (hk : 4194304 < k) : slices_Contains_string_string k (l, v, ()) = some ((l.contains v, ()), ((), (), ())) := by
  obtain ⟨n, h1, h2⟩ := iter_find (b := slices_Index_string_string.l0 k) (fun i => (l, v, (l.length : Int), (i : Int), ())) l (fun x => x == v) (o := ((), (), ())) (fun G i hi => by
    have h2 : ((i : Int) < (l.length : Int)) := by omega
    have h3 : (0 : Int) ≤ (i : Int) := by omega
    simp only [slices_Index_string_string.l0, br_dec, if_pos h2, if_pos h3, Int.toNat_natCast, List.getElem?_eq_getElem hi, bd_some]
    rw [wrap_succ (by omega), show (v == l[i]) = (l[i] == v) from BEq.comm]
    cases h : (l[i] == v) <;> simp) (fun G => by
    have h2 : ¬ ((l.length : Int) < (l.length : Int)) := by omega
    simp only [slices_Index_string_string.l0, br_dec, if_neg h2]) (f := k) (by omega)
  unfold slices_Contains_string_string slices_Index_string_string
  have h1' : iter (slices_Index_string_string.l0 k) k (l, v, (l.length : Int), 0, ()) = some ((n, ()), ((), (), ())) := h1
  simp only [h1', bd_some]
  rw [h2, List.any_beq']

theorem isWord_is (k : Nat) (hk : 4194304 < k) (s : List UInt8) : impl_isWord k (s, ()) = some ((keys.contains s, ()), ((), ())) := by
  unfold impl_isWord
  have h : Lb.Fields k ([118, 97, 114, 32, 102, 108, 97, 103, 32, 97, 114, 114, 97, 121, 32, 105, 102, 32, 102, 111, 114, 107, 32, 101, 108, 115, 101, 32, 101, 110, 100, 32, 119, 104, 105, 108, 101, 32, 117, 110, 114, 111, 108, 108, 32, 97, 115, 115, 101, 114, 116, 32, 97, 115, 115, 117, 109, 101, 32, 105, 110, 112, 117, 116, 32, 115, 112, 108, 105, 116, 32, 109, 101, 114, 103, 101, 32, 116, 114, 117, 101, 32, 102, 97, 108, 115, 101], ()) = some ((keys, ()), ((), ())) := by
    unfold Lb.Fields
    rw [if_pos (by decide +kernel)]
    have : Go.Lib.fields [118, 97, 114, 32, 102, 108, 97, 103, 32, 97, 114, 114, 97, 121, 32, 105, 102, 32, 102, 111, 114, 107, 32, 101, 108, 115, 101, 32, 101, 110, 100, 32, 119, 104, 105, 108, 101, 32, 117, 110, 114, 111, 108, 108, 32, 97, 115, 115, 101, 114, 116, 32, 97, 115, 115, 117, 109, 101, 32, 105, 110, 112, 117, 116, 32, 115, 112, 108, 105, 116, 32, 109, 101, 114, 103, 101, 32, 116, 114, 117, 101, 32, 102, 97, 108, 115, 101] = keys := by decide +kernel
    rw [this]
  simp only [h, bd_some]
  rw [slicesContains_is k keys s (by decide) hk]
  simp

theorem isName_is (k : Nat) (hk : 4194304 < k) (s : List UInt8) (hs : s.length ≤ 1048576) : impl_isName k (s, ()) = some ((nameOk s, ()), ((), ())) := by
  have h := iter_any (b := impl_isName.l0 k) (fun i => (s, (s.length : Int), (i : Int), ())) s (fun b => !letter b) (rf := some ((false, ()), ((), ()))) (r := some ((decide (1 ≤ s.length ∧ s.length ≤ 8) && !keys.contains s, ()), ((), ()))) (fun G i hi => by
    have h2 : ((i : Int) < (s.length : Int)) := by omega
    have h3 : (0 : Int) ≤ (i : Int) := by omega
    simp only [impl_isName.l0, impl_isLetter, br_dec, if_pos h2, if_pos h3, Int.toNat_natCast, List.getElem?_eq_getElem hi, bd_some]
    rw [wrap_succ (by omega)]
    by_cases c1 : ((s[i].toNat : Int) ≥ 97)
    · rw [if_pos c1]
      by_cases c2 : ((s[i].toNat : Int) ≤ 122)
      · have : letter s[i] = true := by simp [letter]; omega
        have c2' : decide ((s[i].toNat : Int) ≤ 122) = true := decide_eq_true c2
        simp only [Option.bind_some, c2', bd_some, br_false, this, Bool.not_true, Bool.false_eq_true, if_false]
      · have : letter s[i] = false := by simp [letter]; omega
        have c2' : decide ((s[i].toNat : Int) ≤ 122) = false := decide_eq_false c2
        simp only [Option.bind_some, c2', bd_some, br_true, this, Bool.not_false, if_true]
    · rw [if_neg c1]
      have : letter s[i] = false := by simp [letter]; omega
      simp only [Option.bind_some, bd_some, br_true, this, Bool.not_false, if_true]) (fun G => by
    have h2 : ¬ ((s.length : Int) < (s.length : Int)) := by omega
    simp only [impl_isName.l0, br_dec, if_neg h2, within_is, isWord_is k hk, bd_some]
    by_cases c : 1 ≤ s.length ∧ s.length ≤ 8
    · have c' : (1 : Int) ≤ (s.length : Int) ∧ (s.length : Int) ≤ 8 := by omega
      simp only [if_pos c', Option.bind_some, decide_eq_true c, Bool.true_and]
    · have c' : ¬ ((1 : Int) ≤ (s.length : Int) ∧ (s.length : Int) ≤ 8) := by omega
      simp only [if_neg c', Option.bind_some, decide_eq_false c, Bool.false_and]) (f := k) (by omega)
  unfold impl_isName
  refine Eq.trans h ?_
  unfold nameOk
  rw [show s.any (fun b => !letter b) = !s.all letter by rw [List.not_all_eq_any_not]]
  cases s.all letter <;> simp

/-! ### Lists of names -/

def badAt (l : Names) (i : Nat) : Bool := !nameOk (l.getD i []) || (l.take i).contains (l.getD i [])
def namesOk (l : Names) : Bool := !(List.range l.length).any (badAt l)
def arrsOk (l : List ArrT) : Bool := !l.any fun a => !decide (1 ≤ a.2.1 ∧ a.2.1 ≤ 16)
def namesOf (d : DeclT) : Names := (d.1 ++ d.2.1) ++ d.2.2.1.map (·.1)
def declOk (d : DeclT) : Bool := decide (d.1.length ≤ 5 ∧ d.2.1.length ≤ 3 ∧ d.2.2.1.length ≤ 2) && (arrsOk d.2.2.1 && namesOk (namesOf d))

theorem namesOf_small {d : DeclT} (hd : DSmall d) : (namesOf d).length ≤ 3145728 ∧ ∀ x ∈ namesOf d, x.length ≤ 1048576 := by
  have h0 := hd.n0
  have h1 := hd.n1
  have h2 := hd.n2
  refine ⟨by simp [namesOf]; omega, fun x hx => ?_⟩
  simp only [namesOf, List.mem_append, List.mem_map] at hx
  rcases hx with (hx | hx) | ⟨y, hy, rfl⟩
  · exact hd.s0 x hx
  · exact hd.s1 x hx
  · exact hd.s2 y hy

theorem declOk_l2 (k : Nat) (hk : 4194304 < k) (l : Names) (hl : l.length ≤ 3145728) (hs : ∀ x ∈ l, x.length ≤ 1048576) : iter (spec_DeclOk.l2 k) k (l, 0, ()) = some ((namesOk l, ()), ((), ())) := by
  have h := iter_range (b := spec_DeclOk.l2 k) (fun i => (l, (i : Int), ())) l.length (badAt l) (rf := some ((false, ()), ((), ()))) (r := some ((true, ()), ((), ()))) (fun G i hi => by
    have h2 : ((i : Int) < (l.length : Int)) := by omega
    have h3 : (0 : Int) ≤ (i : Int) ∧ (i : Int) < (l.length : Int) := by omega
    have h4 : (0 : Int) ≤ (i : Int) ∧ (i : Int) ≤ (l.length : Int) := by omega
    have e : subL l ((0 : Int).toNat) (i - (0 : Int).toNat) = l.take i := by simp [subL]
    obtain ⟨n, e1, e2⟩ := l3Place_is k (l.take i) l[i] (by simp; omega) hk
    have hg : l.getD i [] = l[i] := by simp [List.getD, List.getElem?_eq_getElem hi]
    simp only [spec_DeclOk.l2, br_dec, if_pos h2, if_pos h3, if_pos h4, Int.toNat_natCast, List.getElem?_eq_getElem hi, bd_some, l3Name_is k (by omega) l[i] (hs _ (List.getElem_mem _)), e, e1, e2]
    rw [wrap_succ (by omega), badAt, hg]
    cases nameOk l[i] <;> cases (l.take i).contains l[i] <;> simp) (fun G => by
    have h2 : ¬ ((l.length : Int) < (l.length : Int)) := by omega
    simp only [spec_DeclOk.l2, br_dec, if_neg h2]) (f := k) (by omega)
  refine Eq.trans h ?_
  unfold namesOk
  cases (List.range l.length).any (badAt l) <;> rfl

theorem specDeclOk_is (k : Nat) (hk : 4194304 < k) (d : DeclT) (hd : DSmall d) : spec_DeclOk k (d, ()) = some ((declOk d, ()), ((), ())) := by
  unfold spec_DeclOk declOk
  simp only [br_dec]
  by_cases c0 : (d.1.length : Int) > 5
  · rw [if_pos c0]
    have : decide (d.1.length ≤ 5 ∧ d.2.1.length ≤ 3 ∧ d.2.2.1.length ≤ 2) = false := by simp; omega
    simp [this]
  rw [if_neg c0]
  by_cases c1 : (d.2.1.length : Int) > 3
  · rw [if_pos c1]
    have : decide (d.1.length ≤ 5 ∧ d.2.1.length ≤ 3 ∧ d.2.2.1.length ≤ 2) = false := by simp; omega
    simp [this]
  rw [if_neg c1]
  by_cases c2 : (d.2.2.1.length : Int) > 2
  · have : decide (d.1.length ≤ 5 ∧ d.2.1.length ≤ 3 ∧ d.2.2.1.length ≤ 2) = false := by simp; omega
    have c2' : decide ((d.2.2.1.length : Int) > 2) = true := decide_eq_true c2
    simp only [Option.bind_some, c2', br_true, this, Bool.false_and]
  have c2' : decide ((d.2.2.1.length : Int) > 2) = false := decide_eq_false c2
  have hc : decide (d.1.length ≤ 5 ∧ d.2.1.length ≤ 3 ∧ d.2.2.1.length ≤ 2) = true := by simp; omega
  simp only [Option.bind_some, c2', br_false, hc, Bool.true_and]
  have l1 : (([] : List (List UInt8)).length + d.1.length) * 16 ≤ maxBytes := by simp [maxBytes]; omega
  have l2 : ((([] : List (List UInt8)) ++ d.1).length + d.2.1.length) * 16 ≤ maxBytes := by simp [maxBytes]; omega
  rw [if_pos l1, if_pos l2]
  obtain ⟨hn, hs⟩ := namesOf_small hd
  have h := iter_any (b := spec_DeclOk.l0 k) (fun i => ((d.1, d.2.1, d.2.2.1, ()), ((([] : List (List UInt8)) ++ d.1) ++ d.2.1) ++ (d.2.2.1.take i).map (·.1), (i : Int), ())) d.2.2.1 (fun a => !decide (1 ≤ a.2.1 ∧ a.2.1 ≤ 16)) (rf := some ((false, ()), ((), ()))) (r := some ((namesOk (namesOf d), ()), ((), ()))) (fun G i hi => by
    have h2 : ((i : Int) < (d.2.2.1.length : Int)) := by omega
    have h3 : (0 : Int) ≤ (i : Int) := by omega
    have h4 : (((([] : List (List UInt8)) ++ d.1) ++ d.2.1 ++ (d.2.2.1.take i).map (·.1)).length + ([d.2.2.1[i].1] : List (List UInt8)).length) * 16 ≤ maxBytes := by simp [maxBytes]; omega
    simp only [spec_DeclOk.l0, br_dec, if_pos h2, if_pos h3, Int.toNat_natCast, List.getElem?_eq_getElem hi, bd_some, l1In_is, if_pos h4]
    rw [wrap_succ (by omega), ← List.take_append_getElem hi, List.map_append, List.append_assoc (bs := List.map _ _)]
    cases decide (1 ≤ d.2.2.1[i].2.1 ∧ d.2.2.1[i].2.1 ≤ 16) <;> simp) (fun G => by
    have h2 : ¬ ((d.2.2.1.length : Int) < (d.2.2.1.length : Int)) := by omega
    simp only [spec_DeclOk.l0, br_dec, if_neg h2, List.take_length]
    exact declOk_l2 k hk (namesOf d) hn hs) (f := k) (by omega)
  simp only [List.take_zero, List.map_nil, List.append_nil] at h
  refine Eq.trans h ?_
  unfold arrsOk
  cases d.2.2.1.any (fun a => !decide (1 ≤ a.2.1 ∧ a.2.1 ≤ 16)) <;> simp
end Go.Pev.F
end

section
/-
  Which names are right: the program's test.
-/
set_option linter.unusedVariables false
set_option linter.unusedSimpArgs false
namespace Go.Pev.F

theorem take_flat {l : List Names} {i : Nat} (hi : i < l.length) : (l.take (i + 1)).flatten = (l.take i).flatten ++ l[i] := by
  rw [← List.take_append_getElem hi, List.flatten_append]; simp

theorem flat_le (l : List Names) (i : Nat) : (l.take i).flatten.length ≤ l.flatten.length := by
  conv => rhs; rw [← List.take_append_drop i l, List.flatten_append, List.length_append]
  omega

theorem concat_is (k : Nat) (l : List Names) (hl : l.length < k) (hk : k ≤ 4611686018427387903) (hb : l.flatten.length ≤ 4194304) : slices_Concat_string_string k (l, ()) = some ((l.flatten, ()), ((), ())) := by
  unfold slices_Concat_string_string
  have h2 : iter (slices_Concat_string_string.l2 k) k ([], l, (l.length : Int), 0, ()) = some ((l.flatten, ()), ((), ())) := by
    have h := iter_for (b := slices_Concat_string_string.l2 k) (fun i => ((l.take i).flatten, l, (l.length : Int), (i : Int), ())) l.length (r := some ((l.flatten, ()), ((), ()))) (fun G i hi => by
      have h2 : ((i : Int) < (l.length : Int)) := by omega
      have h3 : (0 : Int) ≤ (i : Int) := by omega
      have h5 := flat_le l (i + 1)
      rw [take_flat hi, List.length_append] at h5
      have h4 : ((l.take i).flatten.length + l[i].length) * 16 ≤ maxBytes := by simp only [maxBytes]; omega
      simp only [slices_Concat_string_string.l2, br_dec, if_pos h2, if_pos h3, Int.toNat_natCast, List.getElem?_eq_getElem hi, bd_some, if_pos h4]
      rw [wrap_succ (by omega), take_flat hi]) (fun G => by
      have h2 : ¬ ((l.length : Int) < (l.length : Int)) := by omega
      simp only [slices_Concat_string_string.l2, br_dec, if_neg h2, List.take_length]) hl
    exact h
  have h := iter_for (b := slices_Concat_string_string.l0 k) (fun i => (l, ((l.take i).flatten.length : Int), l, (l.length : Int), (i : Int), ())) l.length (r := some ((l.flatten, ()), ((), ()))) (fun G i hi => by
    have h2 : ((i : Int) < (l.length : Int)) := by omega
    have h3 : (0 : Int) ≤ (i : Int) := by omega
    have h5 := flat_le l (i + 1)
    have h6 : (l.take (i + 1)).flatten.length = (l.take i).flatten.length + l[i].length := by rw [take_flat hi, List.length_append]
    have e : IntKind.wrap .i64 (((l.take i).flatten.length : Int) + (l[i].length : Int)) = ((l.take (i + 1)).flatten.length : Int) := by
      rw [wrap_i64 (by omega) (by omega), h6]; omega
    have h4 : ¬ (((l.take (i + 1)).flatten.length : Int) < 0) := by omega
    simp only [slices_Concat_string_string.l0, br_dec, if_pos h2, if_pos h3, Int.toNat_natCast, List.getElem?_eq_getElem hi, bd_some, e, if_neg h4]
    rw [wrap_succ (by omega)]) (fun G => by
    have h3 : ¬ ((l.length : Int) < (l.length : Int)) := by omega
    have h4 : 0 ≤ (l.flatten.length : Int) ∧ (l.flatten.length : Int) * ((16 : Nat) : Int) ≤ 140737488355328 := by omega
    simp only [slices_Concat_string_string.l0, br_dec, if_neg h3, List.take_length, Lb.slices_Grow_string_string, Grow, if_pos h4, bd_some]
    exact h2) hl
  exact h

theorem names_is (k : Nat) (hk : 4194304 < k) (hk2 : k ≤ 4611686018427387903) (d : DeclT) (hd : DSmall d) : impl_Decl_names k (d, ()) = some ((namesOf d, ()), ((), ())) := by
  have n0 := hd.n0
  have n1 := hd.n1
  have n2 := hd.n2
  have e : ([d.1, d.2.1] : List Names).flatten = d.1 ++ d.2.1 := by simp
  unfold impl_Decl_names
  have hc := concat_is k [d.1, d.2.1] (by show 2 < k; omega) hk2 (by rw [e]; simp; omega)
  rw [e] at hc
  simp only [hc, bd_some]
  have h := iter_for (b := impl_Decl_names.l0 k) (fun i => ((d.1 ++ d.2.1) ++ (d.2.2.1.take i).map (·.1), d.2.2.1, (d.2.2.1.length : Int), (i : Int), ())) d.2.2.1.length (r := some ((namesOf d, ()), ((), ()))) (fun G i hi => by
    have h2 : ((i : Int) < (d.2.2.1.length : Int)) := by omega
    have h3 : (0 : Int) ≤ (i : Int) := by omega
    have h4 : ((((d.1 ++ d.2.1) ++ (d.2.2.1.take i).map (·.1)).length) + ([d.2.2.1[i].1] : List (List UInt8)).length) * 16 ≤ maxBytes := by simp [maxBytes]; omega
    simp only [impl_Decl_names.l0, br_dec, if_pos h2, if_pos h3, Int.toNat_natCast, List.getElem?_eq_getElem hi, bd_some, if_pos h4]
    rw [wrap_succ (by omega), ← List.take_append_getElem hi, List.map_append, List.append_assoc (bs := List.map _ _)]
    rfl) (fun G => by
    have h2 : ¬ ((d.2.2.1.length : Int) < (d.2.2.1.length : Int)) := by omega
    simp only [impl_Decl_names.l0, br_dec, if_neg h2, List.take_length]
    rfl) (f := k) (by omega)
  simp only [List.take_zero, List.map_nil, List.append_nil] at h
  exact h

theorem areAllArr_is (k : Nat) (l : List ArrT) (hl : l.length ≤ 1048576) (hk : 4194304 < k) : impl_areAll_impl_Arr k (l, (()), ()) = some ((arrsOk l, ()), ((), (()), ())) := by
  obtain ⟨n, h1, h2⟩ := iter_find (b := slices_IndexFunc_impl_Arr_impl_Arr.l0 k) (fun i => (l, (((()), ()), ()), (l.length : Int), (i : Int), ())) l (fun a => !decide (1 ≤ a.2.1 ∧ a.2.1 ≤ 16)) (o := ((), (((()), ()), ()), ())) (fun G i hi => by
    have h2 : ((i : Int) < (l.length : Int)) := by omega
    have h3 : (0 : Int) ≤ (i : Int) := by omega
    simp only [slices_IndexFunc_impl_Arr_impl_Arr.l0, impl_areAll_impl_Arr_1, impl_Decl_isRight_1, within_is, br_dec, if_pos h2, if_pos h3, Int.toNat_natCast, List.getElem?_eq_getElem hi, bd_some]
    rw [wrap_succ (by omega)]
    cases decide (1 ≤ l[i].2.1 ∧ l[i].2.1 ≤ 16) <;> simp) (fun G => by
    have h2 : ¬ ((l.length : Int) < (l.length : Int)) := by omega
    simp only [slices_IndexFunc_impl_Arr_impl_Arr.l0, br_dec, if_neg h2]) (f := k) (by omega)
  unfold impl_areAll_impl_Arr slices_ContainsFunc_impl_Arr_impl_Arr slices_IndexFunc_impl_Arr_impl_Arr
  have h1' : iter (slices_IndexFunc_impl_Arr_impl_Arr.l0 k) k (l, (((()), ()), ()), (l.length : Int), 0, ()) = some ((n, ()), ((), (((()), ()), ()), ())) := h1
  simp only [h1', bd_some, h2]
  rfl

theorem implDeclOk_is (k : Nat) (hk : 4194304 < k) (hk2 : k ≤ 4611686018427387903) (d : DeclT) (hd : DSmall d) : impl_Decl_isRight k (d, ()) = some ((declOk d, ()), ((), ())) := by
  have n2 := hd.n2
  obtain ⟨hn, hs⟩ := namesOf_small hd
  unfold impl_Decl_isRight
  simp only [names_is k hk hk2 d hd, bd_some]
  have h := iter_range (b := impl_Decl_isRight.l0 k) (fun i => ((d.1, d.2.1, d.2.2.1, ()), namesOf d, namesOf d, ((namesOf d).length : Int), (i : Int), ())) (namesOf d).length (badAt (namesOf d)) (rf := some ((false, ()), ((), ()))) (r := some ((decide (d.1.length ≤ 5 ∧ d.2.1.length ≤ 3 ∧ d.2.2.1.length ≤ 2) && arrsOk d.2.2.1, ()), ((), ()))) (fun G i hi => by
    have h2 : ((i : Int) < ((namesOf d).length : Int)) := by omega
    have h3 : (0 : Int) ≤ (i : Int) := by omega
    have h4 : (0 : Int) ≤ (i : Int) ∧ (i : Int) ≤ ((namesOf d).length : Int) := by omega
    have hg : (namesOf d).getD i [] = (namesOf d)[i] := by simp [List.getD, List.getElem?_eq_getElem hi]
    simp only [impl_Decl_isRight.l0, br_dec, if_pos h2, if_pos h3, if_pos h4, Int.toNat_natCast, List.getElem?_eq_getElem hi, bd_some, isName_is k hk (namesOf d)[i] (hs _ (List.getElem_mem _)), slicesContains_is k ((namesOf d).take i) (namesOf d)[i] (by simp; omega) hk]
    rw [wrap_succ (by omega), badAt, hg]
    cases nameOk (namesOf d)[i] <;> cases ((namesOf d).take i).contains (namesOf d)[i] <;> simp) (fun G => by
    have h2 : ¬ (((namesOf d).length : Int) < ((namesOf d).length : Int)) := by omega
    simp only [impl_Decl_isRight.l0, br_dec, if_neg h2, areAllArr_is k d.2.2.1 hd.n2 hk, bd_some]
    by_cases c0 : d.1.length ≤ 5
    · rw [if_pos (by omega)]
      by_cases c1 : d.2.1.length ≤ 3
      · rw [if_pos (by omega)]
        by_cases c2 : d.2.2.1.length ≤ 2
        · rw [if_pos (by omega)]
          simp [c0, c1, c2]
        · rw [if_neg (by omega)]
          simp [c2]
      · rw [if_neg (by omega)]
        simp [c1]
    · rw [if_neg (by omega)]
      simp [c0]) (f := k) (by omega)
  refine Eq.trans h ?_
  unfold declOk namesOk
  cases (List.range (namesOf d).length).any (badAt (namesOf d)) <;> simp
end Go.Pev.F
end

section
/-
  An environment's text: sizes, copies, comparisons; which are right.
-/
set_option linter.unusedVariables false
set_option linter.unusedSimpArgs false
namespace Go.Pev.F

structure ESmall (e : EnvT) : Prop where
  n1 : e.2.1.length ≤ 1048576
  n2 : e.2.2.1.length ≤ 1048576

abbrev ivKd : Kd := .cons (.int .i64) (.cons (.int .i64) .nil)
abbrev envKd : Kd := .cons .bool (.cons (.sl false ivKd) (.cons (.sl false ivKd) .nil))

theorem szIntervalS_is (k : Nat) (a : List IvT) (ha : a.length ≤ 140737488351232) (left : Int) (h0 : 0 ≤ left) (h1 : left ≤ 1048576) :
    ∃ r : Int, laws_szIntervalS k (a, left, ()) = some ((r, ()), ((), (), ())) ∧ (0 ≤ r → r ≤ left ∧ a.length ≤ 1048576) := by
  unfold laws_szIntervalS
  simp only [br_dec]
  rw [wrap_i64 (by omega) (by omega)]
  by_cases hc : left - (a.length : Int) < 0
  · rw [if_pos hc]; exact ⟨-1, rfl, fun h => by omega⟩
  · rw [if_neg hc]; exact ⟨_, rfl, fun h => by omega⟩

theorem szEnv_is (k : Nat) (e : EnvT) (hw : envKd.WF e) (left : Int) (h0 : 0 ≤ left) (h1 : left ≤ 1048576) : ∃ r : Int, laws_szEnv k (e, left, ()) = some ((r, ()), ((), (), ())) ∧ (0 ≤ r → ESmall e) := by
  obtain ⟨_, ⟨b1, b2⟩, ⟨c1, c2⟩, _⟩ := hw
  obtain ⟨r1, e1, p1⟩ := szIntervalS_is k e.2.1 b1 left h0 h1
  unfold laws_szEnv
  simp only [e1, bd_some, br_dec]
  by_cases h1 : r1 < 0
  · rw [if_pos h1]; exact ⟨-1, rfl, fun h => by omega⟩
  rw [if_neg h1]
  obtain ⟨q1, q2⟩ := p1 (by omega)
  obtain ⟨r2, e2, p2⟩ := szIntervalS_is k e.2.2.1 c1 r1 (by omega) (by omega)
  simp only [e2, bd_some]
  by_cases h2 : r2 < 0
  · rw [if_pos h2]; exact ⟨-1, rfl, fun h => by omega⟩
  rw [if_neg h2]
  exact ⟨r2, rfl, fun h => ⟨q2, (p2 h).2⟩⟩

theorem toIntervalS_is (k : Nat) (a : List IvT) (ha : a.length ≤ 1048576) (hk : 1048576 < k) : laws_toIntervalS k (a, ()) = some ((a, ()), ((), ())) := by
  unfold laws_toIntervalS
  have h : 0 ≤ (a.length : Int) ∧ (a.length : Int) ≤ (a.length : Int) ∧ (a.length : Int) * 16 ≤ maxBytes := by simp [maxBytes]; omega
  simp only [br_dec, if_pos h, Int.toNat_natCast]
  generalize hz : (Kd.z (.cons (.int .i64) (.cons (.int .i64) .nil)) : IvT) = z
  have key := iter_for (b := laws_toIntervalS.l0 k) (fun i => (a, a.take i ++ List.replicate (a.length - i) z, (i : Int), ())) a.length (r := some ((a, ()), ((), ()))) (fun G i hi => by
    have h2 : ((i : Int) < (a.length : Int)) := by omega
    have h3 : (0 : Int) ≤ (i : Int) := by omega
    have h4 : 0 ≤ (i : Int) ∧ (i : Int) < ((a.take i ++ List.replicate (a.length - i) z).length : Int) := by simp; omega
    simp only [laws_toIntervalS.l0, laws_toInterval, br_dec, if_pos h2, if_pos h3, if_pos h4, Int.toNat_natCast, List.getElem?_eq_getElem hi, get_next a _ hi, bd_some]
    rw [set_next a _ hi, wrap_succ (by omega)]) (fun G => by
    have h2 : ¬ ((a.length : Int) < (a.length : Int)) := by omega
    simp only [laws_toIntervalS.l0, br_dec, if_neg h2]
    simp) (f := k) (by omega)
  simpa using key

theorem toEnv_is (k : Nat) (e : EnvT) (he : ESmall e) (hk : 1048576 < k) : laws_toEnv k (e, ()) = some ((e, ()), ((), ())) := by
  unfold laws_toEnv
  simp only [toIntervalS_is k _ he.n1 hk, toIntervalS_is k _ he.n2 hk, bd_some]

theorem eqIntervalS_is (k : Nat) (a : List IvT) (ha : a.length ≤ 1048576) (hk : 1048576 < k) : laws_eqIntervalS k (a, a, ()) = some ((true, ()), ((), (), ())) := by
  unfold laws_eqIntervalS
  have hb : ((a.length : Int) != (a.length : Int)) = false := by simp
  simp only [hb, br_false]
  exact iter_for (b := laws_eqIntervalS.l0 k) (fun i => (a, a, (i : Int), ())) a.length (fun G i hi => by
    have h2 : ((i : Int) < (a.length : Int)) := by omega
    have h3 : (0 : Int) ≤ (i : Int) := by omega
    simp only [laws_eqIntervalS.l0, laws_eqInterval, br_dec, if_pos h2, if_pos h3, Int.toNat_natCast, List.getElem?_eq_getElem hi, bd_some, bne_self_eq_false, Bool.not_true, br_false]
    rw [wrap_succ (by omega)]) (fun G => by
    have h2 : ¬ ((a.length : Int) < (a.length : Int)) := by omega
    simp only [laws_eqIntervalS.l0, br_dec, if_neg h2]) (by omega)

theorem eqEnv_is (k : Nat) (e : EnvT) (he : ESmall e) (hk : 1048576 < k) : laws_eqEnv k (e, e, ()) = some ((true, ()), ((), (), ())) := by
  unfold laws_eqEnv
  simp only [eqIntervalS_is k _ he.n1 hk, eqIntervalS_is k _ he.n2 hk, bd_some, BEq.rfl, Bool.not_true, br_false]

/-! ### Which are right -/

def ivOk (a : IvT) : Bool := decide (a.1 ≤ a.2.1)
def ivsOk (l : List IvT) : Bool := !l.any fun a => !ivOk a
def envFits (d : DeclT) (e : EnvT) : Bool :=
  cond e.1 (((e.2.1.length : Int) == (d.1.length : Int)) && (((e.2.2.1.length : Int) == (d.2.2.1.length : Int)) && (ivsOk e.2.1 && ivsOk e.2.2.1))) (((e.2.1.length : Int) == 0) && ((e.2.2.1.length : Int) == 0))
def envOk (d : DeclT) (e : EnvT) : Bool := declOk d && envFits d e

theorem specEnvOk_is (k : Nat) (hk : 4194304 < k) (d : DeclT) (hd : DSmall d) (e : EnvT) (he : ESmall e) : spec_EnvOk k (d, e, ()) = some ((envOk d e, ()), ((), (), ())) := by
  have n1 := he.n1
  have n2 := he.n2
  unfold spec_EnvOk envOk
  simp only [specDeclOk_is k hk d hd, bd_some]
  cases hdo : declOk d with
  | false => simp
  | true =>
    simp only [Bool.not_true, br_false, Bool.true_and]
    unfold envFits
    cases he1 : e.1 with
    | false =>
      simp only [Bool.not_false, br_true, cond_false]
      cases hz : ((e.2.1.length : Int) == 0) <;> simp
    | true =>
      simp only [Bool.not_true, br_false, cond_true]
      unfold bne
      cases h1 : ((e.2.1.length : Int) == (d.1.length : Int)) with
      | false => simp
      | true =>
        simp only [Bool.not_true, br_false, Bool.true_and]
        cases h2 : ((e.2.2.1.length : Int) == (d.2.2.1.length : Int)) with
        | false => simp
        | true =>
          have l1 : (([] : List (Int × Int × Unit)).length + e.2.1.length) * 16 ≤ maxBytes := by simp [maxBytes]; omega
          have l2 : ((([] : List (Int × Int × Unit)) ++ e.2.1).length + e.2.2.1.length) * 16 ≤ maxBytes := by simp [maxBytes]; omega
          simp only [Bool.not_true, Option.bind_some, br_false, Bool.true_and, spec_l6List, br_dec, if_pos l1, if_pos l2, bd_some]
          have h := iter_any (b := spec_EnvOk.l0 k) (fun i => (([] ++ e.2.1) ++ e.2.2.1, (i : Int), ())) (([] ++ e.2.1) ++ e.2.2.1) (fun a => !ivOk a) (rf := some ((false, ()), ((), (), ()))) (r := some ((true, ()), ((), (), ()))) (fun G i hi => by
            have hi' : i < e.2.1.length + e.2.2.1.length := by simpa using hi
            have h2 : ((i : Int) < ((([] ++ e.2.1) ++ e.2.2.1).length : Int)) := by omega
            have h3 : 0 ≤ (i : Int) ∧ ((i : Int) < ((([] ++ e.2.1) ++ e.2.2.1).length : Int)) := by omega
            simp only [spec_EnvOk.l0, spec_IvOk, br_dec, if_pos h2, if_pos h3, Int.toNat_natCast, List.getElem?_eq_getElem hi, bd_some]
            rw [wrap_succ (by omega), ivOk]
            cases decide ((([] ++ e.2.1) ++ e.2.2.1)[i].1 ≤ (([] ++ e.2.1) ++ e.2.2.1)[i].2.1) <;> simp) (fun G => by
            have h2 : ¬ ((((([] ++ e.2.1) ++ e.2.2.1).length : Nat) : Int) < ((([] ++ e.2.1) ++ e.2.2.1).length : Int)) := by omega
            simp only [spec_EnvOk.l0, br_dec, if_neg h2]) (f := k) (by simp; omega)
          refine Eq.trans h ?_
          unfold ivsOk
          rw [List.nil_append, List.any_append]
          cases e.2.1.any (fun a => !ivOk a) <;> cases e.2.2.1.any (fun a => !ivOk a) <;> rfl

theorem areAllIv_is (k : Nat) (l : List IvT) (hl : l.length ≤ 1048576) (hk : 4194304 < k) : impl_areAll_impl_Interval k (l, (()), ()) = some ((ivsOk l, ()), ((), (()), ())) := by
  obtain ⟨n, h1, h2⟩ := iter_find (b := slices_IndexFunc_impl_Interval_impl_Interval.l0 k) (fun i => (l, (((()), ()), ()), (l.length : Int), (i : Int), ())) l (fun a => !ivOk a) (o := ((), (((()), ()), ()), ())) (fun G i hi => by
    have h2 : ((i : Int) < (l.length : Int)) := by omega
    have h3 : (0 : Int) ≤ (i : Int) := by omega
    simp only [slices_IndexFunc_impl_Interval_impl_Interval.l0, impl_areAll_impl_Interval_1, impl_IvOk, br_dec, if_pos h2, if_pos h3, Int.toNat_natCast, List.getElem?_eq_getElem hi, bd_some]
    rw [wrap_succ (by omega), ivOk]
    cases decide (l[i].1 ≤ l[i].2.1) <;> simp) (fun G => by
    have h2 : ¬ ((l.length : Int) < (l.length : Int)) := by omega
    simp only [slices_IndexFunc_impl_Interval_impl_Interval.l0, br_dec, if_neg h2]) (f := k) (by omega)
  unfold impl_areAll_impl_Interval slices_ContainsFunc_impl_Interval_impl_Interval slices_IndexFunc_impl_Interval_impl_Interval
  have h1' : iter (slices_IndexFunc_impl_Interval_impl_Interval.l0 k) k (l, (((()), ()), ()), (l.length : Int), 0, ()) = some ((n, ()), ((), (((()), ()), ()), ())) := h1
  simp only [h1', bd_some, h2]
  rfl

theorem isEnv_is (k : Nat) (hk : 4194304 < k) (d : DeclT) (e : EnvT) (he : ESmall e) : impl_Decl_isEnv k (d, e, ()) = some ((envFits d e, ()), ((), (), ())) := by
  unfold impl_Decl_isEnv envFits
  cases he1 : e.1 with
  | false =>
    simp only [he1, Bool.not_false, br_true, cond_false]
    cases hz : ((e.2.1.length : Int) == 0) <;> simp
  | true =>
    simp only [he1, Bool.not_true, br_false, cond_true]
    cases h1 : ((e.2.1.length : Int) == (d.1.length : Int)) with
    | false => simp
    | true =>
      cases h2 : ((e.2.2.1.length : Int) == (d.2.2.1.length : Int)) with
      | false => simp
      | true =>
        simp only [areAllIv_is k _ he.n1 hk, areAllIv_is k _ he.n2 hk, br_true, bd_some]
        cases ivsOk e.2.1 <;> simp
end Go.Pev.F
end

section
/-
  Comparisons and copies of environments and of a tree's nodes.
-/
set_option linter.unusedVariables false
set_option linter.unusedSimpArgs false
namespace Go.Pev.F

abbrev NodeT := Int × Int × Int × Bool × List IvT × List IvT × Unit
instance envDec : DecidableEq EnvT := fun _ _ => inferInstance
instance nodeDec : DecidableEq NodeT := @instDecidableEqProd Int _ _ (@instDecidableEqProd Int _ _ (@instDecidableEqProd Int _ _ envDec))
def envOf (x : NodeT) : EnvT := (x.2.2.2.1, x.2.2.2.2.1, x.2.2.2.2.2.1, ())

theorem list_differ {α : Type} [DecidableEq α] (a b : List α) (h : a.length = b.length) : ((List.range a.length).any fun i => !decide (a[i]? = b[i]?)) = !decide (a = b) := by
  rw [Bool.eq_iff_iff]
  simp only [List.any_eq_true, List.mem_range, Bool.not_eq_true', decide_eq_false_iff_not]
  refine ⟨fun ⟨i, _, hi⟩ e => hi (by rw [e]), fun hn => ?_⟩
  refine Classical.byContradiction fun hc => hn (List.ext_getElem? fun i => ?_)
  by_cases hi : i < a.length
  · exact Classical.byContradiction fun hx => hc ⟨i, hi, hx⟩
  · rw [List.getElem?_eq_none (by omega), List.getElem?_eq_none (by omega)]

theorem iv_differ (x y : IvT) : (!((x.1 == y.1) && ((x.2.1 == y.2.1) && true))) = !decide (x = y) := by
  obtain ⟨a, b, ⟨⟩⟩ := x
  obtain ⟨c, d, ⟨⟩⟩ := y
  rw [Bool.eq_iff_iff]; simp

theorem equalIv_is (k : Nat) (hk : 4194304 < k) (a b : List IvT) (ha : a.length ≤ 1048576) : slices_Equal_impl_Interval_impl_Interval k (a, b, ()) = some ((decide (a = b), ()), ((), (), ())) := by
  unfold slices_Equal_impl_Interval_impl_Interval
  by_cases hl : a.length = b.length
  · have hb : ((a.length : Int) != (b.length : Int)) = false := by simp [hl]
    simp only [hb, br_false]
    have h := iter_range (b := slices_Equal_impl_Interval_impl_Interval.l0 k) (fun i => (a, b, (a.length : Int), (i : Int), ())) a.length (fun i => !decide (a[i]? = b[i]?)) (rf := some ((false, ()), ((), (), ()))) (r := some ((true, ()), ((), (), ()))) (fun G i hi => by
      have h2 : ((i : Int) < (a.length : Int)) := by omega
      have h3 : (0 : Int) ≤ (i : Int) := by omega
      have hi2 : i < b.length := by omega
      simp only [slices_Equal_impl_Interval_impl_Interval.l0, br_dec, if_pos h2, if_pos h3, Int.toNat_natCast, List.getElem?_eq_getElem hi, List.getElem?_eq_getElem hi2, bd_some, iv_differ, Option.some.injEq]
      rw [wrap_succ (by omega)]
      cases decide (a[i] = b[i]) <;> simp) (fun G => by
      have h2 : ¬ ((a.length : Int) < (a.length : Int)) := by omega
      simp only [slices_Equal_impl_Interval_impl_Interval.l0, br_dec, if_neg h2]) (f := k) (by omega)
    refine Eq.trans h ?_
    rw [list_differ a b hl]
    cases decide (a = b) <;> rfl
  · have hb : ((a.length : Int) != (b.length : Int)) = true := by simpa using fun h : (a.length : Int) = b.length => hl (by omega)
    have hd : decide (a = b) = false := decide_eq_false fun h => hl (by rw [h])
    simp only [hb, br_true, hd]

theorem env_same (x y : EnvT) : decide (x = y) = ((x.1 == y.1) && (decide (x.2.1 = y.2.1) && decide (x.2.2.1 = y.2.2.1))) := by
  obtain ⟨a, b, c, ⟨⟩⟩ := x
  obtain ⟨a', b', c', ⟨⟩⟩ := y
  rw [Bool.eq_iff_iff]; simp

theorem sameEnv_is (k : Nat) (hk : 4194304 < k) (x y : EnvT) (hx : ESmall x) : impl_sameEnv k (x, y, ()) = some ((decide (x = y), ()), ((), (), ())) := by
  unfold impl_sameEnv
  simp only [equalIv_is k hk _ _ hx.n1, equalIv_is k hk _ _ hx.n2, bd_some, env_same x y]
  cases (x.1 == y.1) <;> cases decide (x.2.1 = y.2.1) <;> simp

theorem node_same (x y : NodeT) : decide (x = y) = ((x.1 == y.1) && ((x.2.1 == y.2.1) && ((x.2.2.1 == y.2.2.1) && decide (envOf x = envOf y)))) := by
  obtain ⟨a, b, c, d, e, f, ⟨⟩⟩ := x
  obtain ⟨a', b', c', d', e', f', ⟨⟩⟩ := y
  rw [Bool.eq_iff_iff]; simp [envOf]

theorem sameNode_is (k : Nat) (hk : 4194304 < k) (x y : NodeT) (hx : ESmall (envOf x)) : impl_sameNode k (x, y, ()) = some ((decide (x = y), ()), ((), (), ())) := by
  unfold impl_sameNode
  have h : impl_sameEnv k ((x.2.2.2.1, x.2.2.2.2.1, x.2.2.2.2.2.1, ()), (y.2.2.2.1, y.2.2.2.2.1, y.2.2.2.2.2.1, ()), ()) = some ((decide (envOf x = envOf y), ()), ((), (), ())) := sameEnv_is k hk (envOf x) (envOf y) hx
  simp only [h, bd_some, node_same x y]
  cases (x.1 == y.1) <;> cases (x.2.1 == y.2.1) <;> cases (x.2.2.1 == y.2.2.1) <;> simp

theorem l6Copy_is (k : Nat) (x : EnvT) (hx : ESmall x) : spec_l6Copy k (x, ()) = some ((x, ()), ((), ())) := by
  have h1 := hx.n1
  have h2 := hx.n2
  have b1 : (([] : List (Int × Int × Unit)).length + x.2.1.length) * 16 ≤ maxBytes := by simp [maxBytes]; omega
  have b2 : (([] : List (Int × Int × Unit)).length + x.2.2.1.length) * 16 ≤ maxBytes := by simp [maxBytes]; omega
  unfold spec_l6Copy
  simp only [br_dec, if_pos b1, if_pos b2, List.nil_append]

theorem l6List_is (k : Nat) (x : EnvT) (hx : ESmall x) : spec_l6List k (x, ()) = some ((x.2.1 ++ x.2.2.1, ()), ((), ())) := by
  have h1 := hx.n1
  have h2 := hx.n2
  have b1 : (([] : List (Int × Int × Unit)).length + x.2.1.length) * 16 ≤ maxBytes := by simp [maxBytes]; omega
  have b2 : ((([] : List (Int × Int × Unit)) ++ x.2.1).length + x.2.2.1.length) * 16 ≤ maxBytes := by simp [maxBytes]; omega
  unfold spec_l6List
  rw [List.nil_append] at b2
  simp only [br_dec, if_pos b1, List.nil_append, if_pos b2]

theorem cloneIv_is (k : Nat) (a : List IvT) (ha : a.length ≤ 1048576) : slices_Clone_impl_Interval_impl_Interval k (a, ()) = some ((a, ()), ((), ())) := by
  have b1 : (([] : List (Int × Int × Unit)).length + a.length) * 16 ≤ maxBytes := by simp [maxBytes]; omega
  unfold slices_Clone_impl_Interval_impl_Interval
  simp only [br_dec, if_pos b1, List.nil_append]
  cases a with
  | nil => simp [br_eq]
  | cons p r => simp

theorem own_is (k : Nat) (x : EnvT) (hx : ESmall x) : impl_Env_own k (x, ()) = some ((x, ()), ((), ())) := by
  unfold impl_Env_own
  simp only [cloneIv_is k _ hx.n1, cloneIv_is k _ hx.n2, bd_some]

theorem l8Same_is (k : Nat) (hk : 4194304 < k) (x y : EnvT) (hx : ESmall x) (hy : ESmall y) : spec_l8Same k (x, y, ()) = some ((decide (x = y), ()), ((), (), ())) := by
  have x1 := hx.n1
  have x2 := hx.n2
  unfold spec_l8Same
  rw [env_same x y]
  cases hb : (x.1 == y.1) with
  | false => simp [hb]
  | true =>
    simp only [hb, Bool.not_true, br_false, Bool.true_and]
    by_cases h1 : x.2.1.length = y.2.1.length
    · have c1 : ((x.2.1.length : Int) != (y.2.1.length : Int)) = false := by simp [h1]
      simp only [c1, br_false]
      by_cases h2 : x.2.2.1.length = y.2.2.1.length
      · have c2 : ((x.2.2.1.length : Int) != (y.2.2.1.length : Int)) = false := by simp [h2]
        simp only [c2, Option.bind_some, br_false, l6List_is k x hx, l6List_is k y hy, bd_some]
        have hl : (x.2.1 ++ x.2.2.1).length = (y.2.1 ++ y.2.2.1).length := by simp [h1, h2]
        have hn : (x.2.1 ++ x.2.2.1).length ≤ 2097152 := by simp; omega
        have e : decide (x.2.1 ++ x.2.2.1 = y.2.1 ++ y.2.2.1) = (decide (x.2.1 = y.2.1) && decide (x.2.2.1 = y.2.2.1)) := by
          rw [Bool.eq_iff_iff]
          simp only [decide_eq_true_eq, Bool.and_eq_true]
          exact ⟨fun h => List.append_inj h h1, fun h => by rw [h.1, h.2]⟩
        have h := iter_range (b := spec_l8Same.l0 k) (fun i => (x.2.1 ++ x.2.2.1, y.2.1 ++ y.2.2.1, (i : Int), ())) (x.2.1 ++ x.2.2.1).length (fun i => !decide ((x.2.1 ++ x.2.2.1)[i]? = (y.2.1 ++ y.2.2.1)[i]?)) (rf := some ((false, ()), ((), (), ()))) (r := some ((true, ()), ((), (), ()))) (fun G i hi => by
          generalize (x.2.1 ++ x.2.2.1) = a at *
          generalize (y.2.1 ++ y.2.2.1) = b at *
          have h2 : ((i : Int) < (a.length : Int)) := by omega
          have h3 : (0 : Int) ≤ (i : Int) := by omega
          have hi2 : i < b.length := by omega
          have h4 : ((i : Int) < (b.length : Int)) := by omega
          simp only [spec_l8Same.l0, br_dec, if_pos h2, if_pos (And.intro h3 h2), if_pos (And.intro h3 h4), Int.toNat_natCast, List.getElem?_eq_getElem hi, List.getElem?_eq_getElem hi2, bd_some, iv_differ, Option.some.injEq]
          rw [wrap_succ (by omega)]
          cases decide (a[i] = b[i]) <;> simp) (fun G => by
          have h2 : ¬ (((x.2.1 ++ x.2.2.1).length : Int) < ((x.2.1 ++ x.2.2.1).length : Int)) := by omega
          simp only [spec_l8Same.l0, br_dec, if_neg h2]) (f := k) (by omega)
        refine Eq.trans h ?_
        rw [list_differ _ _ hl, e]
        cases (decide (x.2.1 = y.2.1) && decide (x.2.2.1 = y.2.2.1)) <;> rfl
      · have c2 : ((x.2.2.1.length : Int) != (y.2.2.1.length : Int)) = true := by simpa using fun h : (x.2.2.1.length : Int) = y.2.2.1.length => h2 (by omega)
        have hd : decide (x.2.2.1 = y.2.2.1) = false := decide_eq_false fun h => h2 (by rw [h])
        simp only [c2, Option.bind_some, br_true, hd, Bool.and_false]
    · have c1 : ((x.2.1.length : Int) != (y.2.1.length : Int)) = true := by simpa using fun h : (x.2.1.length : Int) = y.2.1.length => h1 (by omega)
      have hd : decide (x.2.1 = y.2.1) = false := decide_eq_false fun h => h1 (by rw [h])
      simp only [c1, br_true, hd, Option.bind_some, Bool.false_and]

theorem l8Node_is (k : Nat) (hk : 4194304 < k) (x y : NodeT) (hx : ESmall (envOf x)) (hy : ESmall (envOf y)) : spec_l8Node k (x, y, ()) = some ((decide (x = y), ()), ((), (), ())) := by
  unfold spec_l8Node
  have h : spec_l8Same k ((x.2.2.2.1, x.2.2.2.2.1, x.2.2.2.2.2.1, ()), (y.2.2.2.1, y.2.2.2.2.1, y.2.2.2.2.2.1, ()), ()) = some ((decide (envOf x = envOf y), ()), ((), (), ())) := l8Same_is k hk (envOf x) (envOf y) hx hy
  simp only [h, bd_some, node_same x y]
  cases (x.1 == y.1) <;> cases (x.2.1 == y.2.1) <;> cases (x.2.2.1 == y.2.2.1) <;> simp
end Go.Pev.F
end

section
/-
  Tokens: which are right, and their order: the reference's and the program's agree.
-/
set_option linter.unusedVariables false
set_option linter.unusedSimpArgs false
namespace Go.Pev.F

abbrev EntT := Int × Int × Unit
def entOk (e : EntT) : Bool := decide (0 ≤ e.1 ∧ e.1 ≤ 29) && decide (0 ≤ e.2.1 ∧ e.2.1 ≤ 4)
def tokenOk (t : List EntT) : Bool := decide (t.length ≤ 3) && t.all entOk

theorem entOk_fits {e : EntT} (h : entOk e = true) : (0 ≤ e.1 ∧ e.1 ≤ 29) ∧ (0 ≤ e.2.1 ∧ e.2.1 ≤ 4) := by
  unfold entOk at h
  rw [Bool.and_eq_true] at h
  exact ⟨of_decide_eq_true h.1, of_decide_eq_true h.2⟩

theorem specTokenOk_is (k : Nat) (hk : 4194304 < k) (t : List EntT) : spec_TokenOk k (t, ()) = some ((tokenOk t, ()), ((), ())) := by
  unfold spec_TokenOk tokenOk
  simp only [br_dec]
  by_cases hc : (t.length : Int) > 3
  · have : decide (t.length ≤ 3) = false := by simp; omega
    rw [if_pos hc, this]; rfl
  · have hc' : t.length ≤ 3 := by omega
    rw [if_neg hc, decide_eq_true hc', Bool.true_and]
    have h := iter_any (b := spec_TokenOk.l0 k) (fun i => (t, (i : Int), ())) t (fun e => !entOk e) (rf := some ((false, ()), ((), ()))) (r := some ((true, ()), ((), ()))) (fun G i hi => by
      have h2 : ((i : Int) < (t.length : Int)) := by omega
      have h3 : (0 : Int) ≤ (i : Int) := by omega
      simp only [spec_TokenOk.l0, br_dec, if_pos h2, if_pos h3, Int.toNat_natCast, List.getElem?_eq_getElem hi, bd_some, l1In_is]
      rw [wrap_succ (by omega), entOk]
      cases decide (0 ≤ t[i].1 ∧ t[i].1 ≤ 29) <;> cases decide (0 ≤ t[i].2.1 ∧ t[i].2.1 ≤ 4) <;> simp) (fun G => by
      have h2 : ¬ ((t.length : Int) < (t.length : Int)) := by omega
      simp only [spec_TokenOk.l0, br_dec, if_neg h2]) (f := k) (by omega)
    refine Eq.trans h ?_
    rw [all_any]
    cases t.all entOk <;> rfl

theorem implTokenOk_is (k : Nat) (hk : 4194304 < k) (t : List EntT) : impl_TokenOk k (t, ()) = some ((tokenOk t, ()), ((), ())) := by
  unfold impl_TokenOk tokenOk
  simp only [br_dec]
  by_cases hc : (t.length : Int) ≤ 3
  · have hc' : t.length ≤ 3 := by omega
    rw [if_pos hc, decide_eq_true hc', Bool.true_and]
    obtain ⟨n, h1, h2⟩ := iter_find (b := slices_IndexFunc_impl_Entry_impl_Entry.l0 k) (fun i => (t, (((()), ()), ()), (t.length : Int), (i : Int), ())) t (fun e => !entOk e) (o := ((), (((()), ()), ()), ())) (fun G i hi => by
      have h2 : ((i : Int) < (t.length : Int)) := by omega
      have h3 : (0 : Int) ≤ (i : Int) := by omega
      simp only [slices_IndexFunc_impl_Entry_impl_Entry.l0, impl_areAll_impl_Entry_1, impl_entryOk, within_is, br_dec (p := (i : Int) < (t.length : Int)), br_dec (p := (0 : Int) ≤ (i : Int)), if_pos h2, if_pos h3, Int.toNat_natCast, List.getElem?_eq_getElem hi, bd_some]
      rw [wrap_succ (by omega), entOk]
      cases decide (0 ≤ t[i].1 ∧ t[i].1 ≤ 29) <;> cases decide (0 ≤ t[i].2.1 ∧ t[i].2.1 ≤ 4) <;> simp) (fun G => by
      have h2 : ¬ ((t.length : Int) < (t.length : Int)) := by omega
      simp only [slices_IndexFunc_impl_Entry_impl_Entry.l0, br_dec, if_neg h2]) (f := k) (by omega)
    unfold impl_areAll_impl_Entry slices_ContainsFunc_impl_Entry_impl_Entry slices_IndexFunc_impl_Entry_impl_Entry
    have h1' : iter (slices_IndexFunc_impl_Entry_impl_Entry.l0 k) k (t, (((()), ()), ()), (t.length : Int), 0, ()) = some ((n, ()), ((), (((()), ()), ()), ())) := h1
    simp only [h1', bd_some, h2, all_any, Bool.not_not]
  · have : decide (t.length ≤ 3) = false := by simp; omega
    rw [if_neg hc, this]; rfl

/-! ### The order -/

def cmpE (x y : EntT) : Int := if x.1 < y.1 then -1 else if x.1 > y.1 then 1 else if x.2.1 < y.2.1 then -1 else if x.2.1 > y.2.1 then 1 else 0
def cmpX : List EntT → List EntT → Int
  | x :: a, y :: b => if cmpE x y = 0 then cmpX a b else cmpE x y
  | _, _ => 0
def cmpT (a b : List EntT) : Int := if a.length < b.length then -1 else if a.length > b.length then 1 else cmpX a b

theorem compare_is (k : Nat) (x y : Int) : cmp_Compare_int k (x, y, ()) = some ((if x < y then -1 else if x > y then 1 else 0, ()), ((), (), ())) := by
  unfold cmp_Compare_int cmp_isNaN_int
  simp only [bd_some, bne_self_eq_false, br_false, br_dec]
  by_cases h1 : x < y
  · simp only [if_pos h1]
  · by_cases h2 : x > y
    · simp only [if_neg h1, if_pos h2]
    · simp only [if_neg h1, if_neg h2]

theorem compare64_is (k : Nat) (x y : Int) : cmp_Compare_int64 k (x, y, ()) = some ((if x < y then -1 else if x > y then 1 else 0, ()), ((), (), ())) := by
  unfold cmp_Compare_int64 cmp_isNaN_int64
  simp only [bd_some, bne_self_eq_false, br_false, br_dec]
  by_cases h1 : x < y
  · simp only [if_pos h1]
  · by_cases h2 : x > y
    · simp only [if_neg h1, if_pos h2]
    · simp only [if_neg h1, if_neg h2]

theorem or_is (k : Nat) (hk : 4194304 < k) (x y : Int) : cmp_Or_int k (([x, y] : List Int), ()) = some ((if x = 0 then y else x, ()), ((), ())) := by
  obtain ⟨j, rfl⟩ : ∃ j, k = j + 3 := ⟨k - 3, by omega⟩
  unfold cmp_Or_int
  simp only [List.length_cons, List.length_nil]
  rw [iter_succ]
  simp only [cmp_Or_int.l0, br_dec]
  rw [if_pos (by decide), if_pos (by decide)]
  by_cases h1 : x = 0
  · subst h1
    simp only [Int.toNat_zero, List.getElem?_cons_zero, bd_some, bne_self_eq_false, br_false, if_pos]
    rw [wrap_i64 (by decide) (by decide), iter_succ]
    simp only [cmp_Or_int.l0, br_dec]
    rw [if_pos (by decide), if_pos (by decide)]
    by_cases h2 : y = 0
    · subst h2
      have e : ([0, 0] : List Int)[((0 : Int) + 1).toNat]? = some 0 := rfl
      simp only [e, bd_some, bne_self_eq_false, br_false]
      rw [wrap_i64 (by decide) (by decide), iter_succ]
      simp only [cmp_Or_int.l0, br_dec]
      rw [if_neg (by decide)]
    · have e : ([0, y] : List Int)[((0 : Int) + 1).toNat]? = some y := rfl
      have b : (y != 0) = true := by simpa using h2
      simp only [e, bd_some, b, br_true]
  · have b : (x != 0) = true := by simpa using h1
    simp only [Int.toNat_zero, List.getElem?_cons_zero, bd_some, b, br_true, if_neg h1]

theorem cmpE_is (k : Nat) (hk : 4194304 < k) (x y : EntT) : impl_compareTokens_1 k (x, y, ()) = some ((cmpE x y, ()), ((), (), ())) := by
  unfold impl_compareTokens_1
  simp only [compare64_is, or_is k hk, bd_some]
  unfold cmpE
  by_cases h1 : x.1 < y.1
  · simp [h1]
  · by_cases h2 : x.1 > y.1
    · simp [h1, h2]
    · simp [h1, h2]

theorem cmpX_drop {a b : List EntT} {i : Nat} (ha : i < a.length) (hb : i < b.length) : cmpX (a.drop i) (b.drop i) = if cmpE a[i] b[i] = 0 then cmpX (a.drop (i + 1)) (b.drop (i + 1)) else cmpE a[i] b[i] := by
  rw [List.drop_eq_getElem_cons ha, List.drop_eq_getElem_cons hb]; rfl

theorem cmpX_nil (a b : List EntT) {i : Nat} (ha : a.length ≤ i) : cmpX (a.drop i) (b.drop i) = 0 := by
  rw [List.drop_of_length_le ha]; cases b.drop i <;> rfl

theorem compareFunc_is (k : Nat) (hk : 4194304 < k) (a b : List EntT) (ha : a.length ≤ 1048576) : ∃ n : Int, slices_CompareFunc_impl_Entry_impl_Entry_impl_Entry_impl_Entry k (a, b, (()), ()) = some ((n, ()), ((), (), (()), ())) ∧ (a.length = b.length → n = cmpX a b) := by
  have key : ∀ (n i f : Nat), i + n = a.length → n < f → ∃ m : Int, iter (slices_CompareFunc_impl_Entry_impl_Entry_impl_Entry_impl_Entry.l0 k) f (a, b, (()), a, (a.length : Int), (i : Int), ()) = some ((m, ()), ((), (), (()), ())) ∧ (a.length = b.length → m = cmpX (a.drop i) (b.drop i)) := by
    intro n
    induction n with
    | zero =>
      intro i f hi hf
      obtain ⟨f, rfl⟩ : ∃ g, f = g + 1 := ⟨f - 1, by omega⟩
      have h2 : ¬ ((i : Int) < (a.length : Int)) := by omega
      rw [iter_succ]
      simp only [slices_CompareFunc_impl_Entry_impl_Entry_impl_Entry_impl_Entry.l0, br_dec, if_neg h2]
      by_cases hl : (a.length : Int) < (b.length : Int)
      · exact ⟨-1, by rw [if_pos hl], fun h => by omega⟩
      · exact ⟨0, by rw [if_neg hl], fun h => by rw [cmpX_nil a b (by omega)]⟩
    | succ n ih =>
      intro i f hi hf
      obtain ⟨f, rfl⟩ : ∃ g, f = g + 1 := ⟨f - 1, by omega⟩
      have hi' : i < a.length := by omega
      have h2 : ((i : Int) < (a.length : Int)) := by omega
      have h3 : (0 : Int) ≤ (i : Int) := by omega
      rw [iter_succ]
      simp only [slices_CompareFunc_impl_Entry_impl_Entry_impl_Entry_impl_Entry.l0, br_dec, if_pos h2, if_pos h3, Int.toNat_natCast, List.getElem?_eq_getElem hi', bd_some]
      by_cases hb : (i : Int) ≥ (b.length : Int)
      · exact ⟨1, by rw [if_pos hb], fun h => by omega⟩
      · have hb' : i < b.length := by omega
        rw [if_neg hb]
        simp only [List.getElem?_eq_getElem hb', bd_some, cmpE_is k hk]
        rw [wrap_succ (by omega)]
        by_cases hc : cmpE a[i] b[i] = 0
        · have e : (cmpE a[i] b[i] != 0) = false := by simpa using hc
          obtain ⟨m, e1, e2⟩ := ih (i + 1) f (by omega) (by omega)
          refine ⟨m, by rw [e, br_false]; exact e1, fun h => ?_⟩
          rw [cmpX_drop hi' hb', if_pos hc]; exact e2 h
        · have e : (cmpE a[i] b[i] != 0) = true := by simpa using hc
          exact ⟨cmpE a[i] b[i], by rw [e, br_true], fun h => by rw [cmpX_drop hi' hb', if_neg hc]⟩
  obtain ⟨m, e1, e2⟩ := key a.length 0 k (by omega) (by omega)
  exact ⟨m, e1, fun h => e2 h⟩

theorem implCmp_is (k : Nat) (hk : 4194304 < k) (a b : List EntT) (ha : a.length ≤ 1048576) : impl_compareTokens k (a, b, ()) = some ((cmpT a b, ()), ((), (), ())) := by
  unfold impl_compareTokens cmpT
  obtain ⟨n, e1, e2⟩ := compareFunc_is k hk a b ha
  simp only [compare_is, e1, or_is k hk, bd_some]
  by_cases h1 : a.length < b.length
  · have h1' : (a.length : Int) < (b.length : Int) := by omega
    rw [if_pos h1', if_pos h1]; rfl
  · by_cases h2 : a.length > b.length
    · have h1' : ¬ (a.length : Int) < (b.length : Int) := by omega
      have h2' : (a.length : Int) > (b.length : Int) := by omega
      rw [if_neg h1', if_pos h2', if_neg h1, if_pos h2]; rfl
    · have h1' : ¬ (a.length : Int) < (b.length : Int) := by omega
      have h2' : ¬ (a.length : Int) > (b.length : Int) := by omega
      rw [if_neg h1', if_neg h2', if_neg h1, if_neg h2, if_pos rfl, e2 (by omega)]

/-- The reference's order is the program's where entries fit. -/
theorem specCmp_is (k : Nat) (hk : 4194304 < k) (a b : List EntT) (ha : tokenOk a = true) (hb : tokenOk b = true) : spec_l9Cmp k (a, b, ()) = some ((cmpT a b, ()), ((), (), ())) := by
  unfold tokenOk at ha hb
  rw [Bool.and_eq_true] at ha hb
  have la := of_decide_eq_true ha.1
  have fa := fun i (h : i < a.length) => entOk_fits (List.all_eq_true.1 ha.2 a[i] (List.getElem_mem h))
  have fb := fun i (h : i < b.length) => entOk_fits (List.all_eq_true.1 hb.2 b[i] (List.getElem_mem h))
  unfold spec_l9Cmp cmpT
  by_cases hl : a.length = b.length
  · have hz : ((a.length : Int) != (b.length : Int)) = false := by simp [hl]
    simp only [hz, br_false]
    rw [if_neg (by omega), if_neg (by omega)]
    have key : ∀ (n i f : Nat), i + n = a.length → n < f → iter (spec_l9Cmp.l0 k) f (a, b, (i : Int), ()) = some ((cmpX (a.drop i) (b.drop i), ()), ((), (), ())) := by
      intro n
      induction n with
      | zero =>
        intro i f hi hf
        obtain ⟨f, rfl⟩ : ∃ g, f = g + 1 := ⟨f - 1, by omega⟩
        have h2 : ¬ ((i : Int) < (a.length : Int)) := by omega
        rw [iter_succ, cmpX_nil a b (by omega)]
        simp only [spec_l9Cmp.l0, br_dec, if_neg h2]
      | succ n ih =>
        intro i f hi hf
        obtain ⟨f, rfl⟩ : ∃ g, f = g + 1 := ⟨f - 1, by omega⟩
        have hi' : i < a.length := by omega
        have hb' : i < b.length := by omega
        have h2 : ((i : Int) < (a.length : Int)) := by omega
        have h3 : (0 : Int) ≤ (i : Int) := by omega
        have xa := fa i hi'
        have xb := fb i hb'
        rw [iter_succ, cmpX_drop hi' hb']
        simp only [spec_l9Cmp.l0, br_dec, if_pos h2, if_pos h3, Int.toNat_natCast, List.getElem?_eq_getElem hi', List.getElem?_eq_getElem hb', bd_some]
        rw [wrap_i64 (n := 10 * a[i].1) (by omega) (by omega), wrap_i64 (n := 10 * b[i].1) (by omega) (by omega), wrap_i64 (n := 10 * a[i].1 + a[i].2.1) (by omega) (by omega), wrap_i64 (n := 10 * b[i].1 + b[i].2.1) (by omega) (by omega), wrap_succ (by omega)]
        by_cases c1 : 10 * a[i].1 + a[i].2.1 < 10 * b[i].1 + b[i].2.1
        · have e : cmpE a[i] b[i] = -1 := by
            unfold cmpE
            by_cases d1 : a[i].1 < b[i].1
            · rw [if_pos d1]
            · rw [if_neg d1, if_neg (by omega), if_pos (by omega)]
          rw [if_pos c1, e]; rfl
        · by_cases c2 : 10 * a[i].1 + a[i].2.1 > 10 * b[i].1 + b[i].2.1
          · have e : cmpE a[i] b[i] = 1 := by
              unfold cmpE
              by_cases d1 : a[i].1 > b[i].1
              · rw [if_neg (by omega), if_pos d1]
              · rw [if_neg (by omega), if_neg d1, if_neg (by omega), if_pos (by omega)]
            rw [if_neg c1, if_pos c2, e]; rfl
          · have e : cmpE a[i] b[i] = 0 := by
              unfold cmpE
              rw [if_neg (by omega), if_neg (by omega), if_neg (by omega), if_neg (by omega)]
            rw [if_neg c1, if_neg c2, if_pos e]
            exact ih (i + 1) f (by omega) (by omega)
    exact key a.length 0 k (by omega) (by omega)
  · have hz : ((a.length : Int) != (b.length : Int)) = true := by simp; omega
    simp only [hz, br_true, br_dec]
    by_cases h1 : a.length < b.length
    · rw [if_pos (show (a.length : Int) < (b.length : Int) by omega), if_pos h1]
    · rw [if_neg (show ¬ (a.length : Int) < (b.length : Int) by omega), if_neg h1, if_pos (by omega)]
end Go.Pev.F
end

section
/-
  Tables: which are right, and which live: the reference's test and the program's agree.
-/
set_option linter.unusedVariables false
set_option linter.unusedSimpArgs false
namespace Go.Pev.F

def tableOk (d : DeclT) (t : List EnvT) : Bool := decide ((t.length : Int) = 2 ^ d.2.1.length) && t.all (envFits d)
def tableLive (t : List EnvT) : Bool := t.any fun e => e.1

theorem wrap_pow {n : Nat} (h : n ≤ 3) : IntKind.wrap .i64 (1 * 2 ^ (min n 64)) = 2 ^ n := by
  have : n = 0 ∨ n = 1 ∨ n = 2 ∨ n = 3 := by omega
  rcases this with rfl | rfl | rfl | rfl <;> decide

theorem l8Size_is (k : Nat) (d : DeclT) (h : d.2.1.length ≤ 3) : spec_l8Size k (d, ()) = some (((2 : Int) ^ d.2.1.length, ()), ((), ())) := by
  unfold spec_l8Size
  have w : IntKind.wrap .u64 (d.2.1.length : Int) = (d.2.1.length : Int) := wrap_u64 (by omega) (by omega)
  have h0 : (0 : Int) ≤ (d.2.1.length : Int) := by omega
  simp only [w, br_dec, if_pos h0, Int.toNat_natCast, wrap_pow h]

theorem leaves_of (k : Nat) (d : DeclT) (h : d.2.1.length ≤ 3) : impl_Decl_leaves k (d, ()) = some (((2 : Int) ^ d.2.1.length, ()), ((), ())) := by
  unfold impl_Decl_leaves
  have h0 : (0 : Int) ≤ (d.2.1.length : Int) := by omega
  simp only [br_dec, if_pos h0, Int.toNat_natCast, wrap_pow h]

theorem decl_flags {d : DeclT} (h : declOk d = true) : d.1.length ≤ 5 ∧ d.2.1.length ≤ 3 ∧ d.2.2.1.length ≤ 2 := by
  unfold declOk at h
  rw [Bool.and_eq_true] at h
  exact of_decide_eq_true h.1

theorem specTableOk_is (k : Nat) (hk : 4194304 < k) (d : DeclT) (hd : DSmall d) (hdo : declOk d = true) (t : List EnvT) (ht : t.length ≤ 1048576) (hs : ∀ e ∈ t, ESmall e) : spec_TableOk k (d, t, ()) = some ((tableOk d t, ()), ((), (), ())) := by
  have hf := (decl_flags hdo).2.1
  unfold spec_TableOk tableOk
  simp only [specDeclOk_is k hk d hd, hdo, bd_some, Bool.not_true, br_false, l8Size_is k d hf, Option.bind_some]
  by_cases hl : (t.length : Int) = 2 ^ d.2.1.length
  · have b : ((t.length : Int) != 2 ^ d.2.1.length) = false := by simpa using hl
    rw [b, br_false, decide_eq_true hl, Bool.true_and]
    have h := iter_any (b := spec_TableOk.l0 k) (fun i => (t, (d.1, d.2.1, d.2.2.1, ()), (i : Int), ())) t (fun e => !envFits d e) (rf := some ((false, ()), ((), (), ()))) (r := some ((true, ()), ((), (), ()))) (fun G i hi => by
      have h2 : ((i : Int) < (t.length : Int)) := by omega
      have h3 : (0 : Int) ≤ (i : Int) := by omega
      have he : spec_EnvOk k ((d.1, d.2.1, d.2.2.1, ()), t[i], ()) = some ((envOk d t[i], ()), ((), (), ())) := specEnvOk_is k hk d hd t[i] (hs _ (List.getElem_mem hi))
      simp only [spec_TableOk.l0, br_dec, if_pos h2, if_pos h3, Int.toNat_natCast, List.getElem?_eq_getElem hi, bd_some, he, envOk, hdo, Bool.true_and]
      rw [wrap_succ (by omega)]
      cases envFits d t[i] <;> simp) (fun G => by
      have h2 : ¬ ((t.length : Int) < (t.length : Int)) := by omega
      simp only [spec_TableOk.l0, br_dec, if_neg h2]) (f := k) (by omega)
    refine Eq.trans h ?_
    rw [all_any]
    cases t.all (envFits d) <;> rfl
  · have b : ((t.length : Int) != 2 ^ d.2.1.length) = true := by simpa using hl
    rw [b, br_true, decide_eq_false hl]; rfl

theorem areAllEnv_is (k : Nat) (hk : 4194304 < k) (d : DeclT) (t : List EnvT) (ht : t.length ≤ 1048576) (hs : ∀ e ∈ t, ESmall e) : impl_areAll_impl_Env k (t, (d, ()), ()) = some ((t.all (envFits d), ()), ((), ((), ()), ())) := by
  obtain ⟨n, h1, h2⟩ := iter_find (b := slices_IndexFunc_impl_Env_impl_Env.l0 k) (fun i => (t, (((d, ()), ()), ()), (t.length : Int), (i : Int), ())) t (fun e => !envFits d e) (o := ((), (((d, ()), ()), ()), ())) (fun G i hi => by
    have h2 : ((i : Int) < (t.length : Int)) := by omega
    have h3 : (0 : Int) ≤ (i : Int) := by omega
    simp only [slices_IndexFunc_impl_Env_impl_Env.l0, impl_areAll_impl_Env_1, isEnv_is k hk d t[i] (hs _ (List.getElem_mem hi)), br_dec, if_pos h2, if_pos h3, Int.toNat_natCast, List.getElem?_eq_getElem hi, bd_some]
    rw [wrap_succ (by omega)]
    cases envFits d t[i] <;> simp) (fun G => by
    have h2 : ¬ ((t.length : Int) < (t.length : Int)) := by omega
    simp only [slices_IndexFunc_impl_Env_impl_Env.l0, br_dec, if_neg h2]) (f := k) (by omega)
  unfold impl_areAll_impl_Env slices_ContainsFunc_impl_Env_impl_Env slices_IndexFunc_impl_Env_impl_Env
  have h1' : iter (slices_IndexFunc_impl_Env_impl_Env.l0 k) k (t, (((d, ()), ()), ()), (t.length : Int), 0, ()) = some ((n, ()), ((), (((d, ()), ()), ()), ())) := h1
  simp only [h1', bd_some, h2, all_any, Bool.not_not]

theorem isTable_is (k : Nat) (hk : 4194304 < k) (d : DeclT) (hf : d.2.1.length ≤ 3) (t : List EnvT) (ht : t.length ≤ 1048576) (hs : ∀ e ∈ t, ESmall e) : impl_Decl_isTable k (d, t, ()) = some ((tableOk d t, ()), ((), (), ())) := by
  unfold impl_Decl_isTable tableOk impl_size_impl_Env
  simp only [bd_some, leaves_of k d hf, areAllEnv_is k hk d t ht hs]
  by_cases hl : (t.length : Int) = 2 ^ d.2.1.length
  · have b : ((t.length : Int) == 2 ^ d.2.1.length) = true := by simpa using hl
    rw [b, br_true, decide_eq_true hl, Bool.true_and]
  · have b : ((t.length : Int) == 2 ^ d.2.1.length) = false := by simpa using hl
    rw [b, br_false, decide_eq_false hl]; rfl

theorem l9Live_is (k : Nat) (hk : 4194304 < k) (t : List EnvT) (ht : t.length ≤ 1048576) : spec_l9Live k (t, ()) = some ((tableLive t, ()), ((), ())) := by
  have h := iter_any (b := spec_l9Live.l0 k) (fun i => (t, (i : Int), ())) t (fun e => e.1) (rf := some ((true, ()), ((), ()))) (r := some ((false, ()), ((), ()))) (fun G i hi => by
    have h2 : ((i : Int) < (t.length : Int)) := by omega
    have h3 : (0 : Int) ≤ (i : Int) := by omega
    simp only [spec_l9Live.l0, br_dec, if_pos h2, if_pos h3, Int.toNat_natCast, List.getElem?_eq_getElem hi, bd_some]
    rw [wrap_succ (by omega)]
    cases t[i].1 <;> simp) (fun G => by
    have h2 : ¬ ((t.length : Int) < (t.length : Int)) := by omega
    simp only [spec_l9Live.l0, br_dec, if_neg h2]) (f := k) (by omega)
  unfold spec_l9Live
  refine Eq.trans h ?_
  unfold tableLive
  cases t.any fun e => e.1 <;> rfl
end Go.Pev.F
end

section
/-
  A tree built of a table: both builders compute the same.
-/
set_option linter.unusedVariables false
set_option linter.unusedSimpArgs false
namespace Go.Pev.F

theorem iter_findIdx {A R α : Type} {b : (A → Option R) → A → Option R} (st : Nat → A) (l : List α) (p : α → Bool) (rf : Nat → Option R) {r : Option R} (h : ∀ G i (hi : i < l.length), b G (st i) = if p l[i] = true then rf i else G (st (i + 1))) (he : ∀ G, b G (st l.length) = r) {f : Nat} (hf : l.length < f) :
    iter b f (st 0) = if l.findIdx p < l.length then rf (l.findIdx p) else r := by
  have key : ∀ (n i f : Nat), i + n = l.length → n < f → (∀ j (hj : j < l.length), j < i → p l[j] = false) → iter b f (st i) = if l.findIdx p < l.length then rf (l.findIdx p) else r := by
    intro n
    induction n with
    | zero =>
      intro i f hi hf hb
      obtain ⟨f, rfl⟩ : ∃ g, f = g + 1 := ⟨f - 1, by omega⟩
      have : i = l.length := by omega
      rw [iter_succ, this, he, if_neg]
      intro hx
      have := List.findIdx_getElem (w := hx)
      rw [hb _ hx (by omega)] at this
      exact absurd this (by simp)
    | succ n ih =>
      intro i f hi hf hb
      obtain ⟨f, rfl⟩ : ∃ g, f = g + 1 := ⟨f - 1, by omega⟩
      have hl : i < l.length := by omega
      rw [iter_succ, h _ i hl]
      cases hp : p l[i] with
      | true =>
        have : l.findIdx p = i := (List.findIdx_eq hl).2 ⟨hp, fun j hj => hb j (by omega) hj⟩
        rw [this, if_pos rfl, if_pos hl]
      | false =>
        rw [if_neg (by simp), ih (i + 1) f (by omega) (by omega) (fun j hj hji => by
          by_cases e : j = i
          · subst e; exact hp
          · exact hb j hj (by omega))]
  exact key l.length 0 f (by omega) hf (fun j _ hj => absurd hj (by omega))

def idxN (l : List NodeT) (x : NodeT) : Nat := l.findIdx fun y => decide (y = x)
def put (l : List NodeT) (x : NodeT) : List NodeT × Nat := (if idxN l x < l.length then l else l ++ [x], idxN l x)
def leafN (e : EnvT) : NodeT := (-1, 0, 0, e.1, e.2.1, e.2.2.1, ())
def nodeN (f a b : Nat) : NodeT := ((f : Int), (a : Int), (b : Int), false, [], [], ())
def noEnv : EnvT := (false, [], [], ())

theorem idxN_le (l : List NodeT) (x : NodeT) : idxN l x ≤ l.length := List.findIdx_le_length
theorem put_len (l : List NodeT) (x : NodeT) : (put l x).1.length ≤ l.length + 1 := by
  unfold put
  by_cases h : idxN l x < l.length
  · rw [if_pos h]; exact Nat.le_succ _
  · rw [if_neg h]; simp

theorem l8Add_is (k : Nat) (hk : 4194304 < k) (l : List NodeT) (x : NodeT) (hl : l.length ≤ 1048576) (hs : ∀ y ∈ l, ESmall (envOf y)) (hx : ESmall (envOf x)) :
    spec_l8Add k (l, x, ()) = some (((put l x).1, ((put l x).2 : Int), ()), ((), ((), (), (), (), (), (), ()), ())) := by
  have h := iter_findIdx (b := spec_l8Add.l0 k) (fun i => (l, x, (i : Int), ())) l (fun y => decide (y = x)) (fun i => some ((l, (i : Int), ()), ((), ((), (), (), (), (), (), ()), ()))) (r := some ((l ++ [x], (l.length : Int), ()), ((), ((), (), (), (), (), (), ()), ()))) (fun G i hi => by
    obtain ⟨a, b, c, d, e, g, ⟨⟩⟩ := x
    have h2 : ((i : Int) < (l.length : Int)) := by omega
    have h3 : (0 : Int) ≤ (i : Int) := by omega
    have hn : spec_l8Node k (l[i], (a, b, c, d, e, g, ()), ()) = some ((decide (l[i] = (a, b, c, d, e, g, ())), ()), ((), (), ())) := l8Node_is k hk _ _ (hs _ (List.getElem_mem hi)) hx
    simp only [spec_l8Add.l0, br_dec, if_pos h2, if_pos (And.intro h3 h2), Int.toNat_natCast, List.getElem?_eq_getElem hi, bd_some, hn]
    rw [wrap_succ (by omega)]
    by_cases hq : l[i] = (a, b, c, d, e, g, ()) <;> simp [hq]) (fun G => by
    obtain ⟨a, b, c, d, e, g, ⟨⟩⟩ := x
    have h2 : ¬ ((l.length : Int) < (l.length : Int)) := by omega
    have h4 : (l.length + ([(a, b, c, d, e, g, ())] : List (Int × Int × Int × Bool × (List (Int × Int × Unit)) × (List (Int × Int × Unit)) × Unit)).length) * 80 ≤ maxBytes := by simp only [List.length_cons, List.length_nil, maxBytes]; omega
    simp only [spec_l8Add.l0, br_dec, if_neg h2, if_pos h4]) (f := k) (by omega)
  unfold spec_l8Add
  refine Eq.trans h ?_
  unfold put idxN
  by_cases hc : l.findIdx (fun y => decide (y = x)) < l.length
  · simp only [if_pos hc]
  · have e : l.findIdx (fun y => decide (y = x)) = l.length := Nat.le_antisymm List.findIdx_le_length (Nat.not_lt.1 hc)
    simp only [e, Nat.lt_irrefl, if_false]

theorem implPut_is (k : Nat) (hk : 4194304 < k) (l : List NodeT) (x : NodeT) (hl : l.length ≤ 1048576) (hs : ∀ y ∈ l, ESmall (envOf y)) :
    impl_Tree_put k ((l, ()), x, ()) = some ((((put l x).2 : Int), ()), (((put l x).1, ()), ((), (), (), (), (), (), ()), ())) := by
  obtain ⟨a, b, c, d, e, g, ⟨⟩⟩ := x
  have h := iter_findIdx (b := slices_IndexFunc_impl_Node_impl_Node_v1.l0 k) (fun i => (l, ((a, b, c, d, e, g, ()), ()), (l.length : Int), (i : Int), ())) l (fun y => decide (y = (a, b, c, d, e, g, ()))) (fun i => some (((i : Int), ()), ((), ((a, b, c, d, e, g, ()), ()), ()))) (r := some (((-1), ()), ((), ((a, b, c, d, e, g, ()), ()), ()))) (fun G i hi => by
    have h2 : ((i : Int) < (l.length : Int)) := by omega
    have h3 : (0 : Int) ≤ (i : Int) := by omega
    have hn : impl_sameNode k (l[i], (a, b, c, d, e, g, ()), ()) = some ((decide (l[i] = (a, b, c, d, e, g, ())), ()), ((), (), ())) := sameNode_is k hk _ _ (hs _ (List.getElem_mem hi))
    simp only [slices_IndexFunc_impl_Node_impl_Node_v1.l0, impl_Tree_put_1_v1, br_dec, if_pos h2, if_pos h3, Int.toNat_natCast, List.getElem?_eq_getElem hi, bd_some, hn]
    rw [wrap_succ (by omega)]
    by_cases hq : l[i] = (a, b, c, d, e, g, ()) <;> simp [hq]) (fun G => by
    have h2 : ¬ ((l.length : Int) < (l.length : Int)) := by omega
    simp only [slices_IndexFunc_impl_Node_impl_Node_v1.l0, br_dec, if_neg h2]) (f := k) (by omega)
  have h' : slices_IndexFunc_impl_Node_impl_Node_v1 k (l, ((a, b, c, d, e, g, ()), ()), ()) = _ := h
  unfold impl_Tree_put
  simp only [h']
  unfold put idxN
  by_cases hc : l.findIdx (fun y => decide (y = (a, b, c, d, e, g, ()))) < l.length
  · have h5 : ((l.findIdx (fun y => decide (y = (a, b, c, d, e, g, ()))) : Nat) : Int) ≥ 0 := by omega
    simp only [if_pos hc, bd_some, br_dec, if_pos h5]
  · have e0 : l.findIdx (fun y => decide (y = (a, b, c, d, e, g, ()))) = l.length := Nat.le_antisymm List.findIdx_le_length (Nat.not_lt.1 hc)
    have h5 : ¬ ((-1 : Int) ≥ 0) := by omega
    have h4 : (l.length + ([(a, b, c, d, e, g, ())] : List (Int × Int × Int × Bool × (List (Int × Int × Unit)) × (List (Int × Int × Unit)) × Unit)).length) * 80 ≤ maxBytes := by simp only [List.length_cons, List.length_nil, maxBytes]; omega
    simp only [e0, Nat.lt_irrefl, if_false, bd_some, br_dec, if_neg h5, if_pos h4, impl_size_impl_Node]
    rw [wrap_i64 (by simp <;> omega) (by simp <;> omega)]
    simp only [List.length_append, List.length_cons, List.length_nil]
    exact congrArg (fun z : Int => some ((z, ()), (((if False then l else l ++ [(a, b, c, d, e, g, ())]), ()), ((), (), (), (), (), (), ()), ()))) (by omega)

def bld (n : Nat) (T : List EnvT) : Nat → Nat → List NodeT → List NodeT × Nat
  | 0, leaf, l => put l (leafN (T.getD leaf noEnv))
  | h + 1, leaf, l => if (bld n T h leaf l).2 = (bld n T h (leaf + 2 ^ (n - (h + 1))) (bld n T h leaf l).1).2 then ((bld n T h (leaf + 2 ^ (n - (h + 1))) (bld n T h leaf l).1).1, (bld n T h leaf l).2)
    else put (bld n T h (leaf + 2 ^ (n - (h + 1))) (bld n T h leaf l).1).1 (nodeN (n - (h + 1)) (bld n T h leaf l).2 (bld n T h (leaf + 2 ^ (n - (h + 1))) (bld n T h leaf l).1).2)

theorem bld_len (n : Nat) (T : List EnvT) : ∀ (h leaf : Nat) (l : List NodeT), (bld n T h leaf l).1.length + 1 ≤ l.length + 2 ^ (h + 1) := by
  intro h
  induction h with
  | zero => intro leaf l; have := put_len l (leafN (T.getD leaf noEnv)); simp only [bld]; omega
  | succ h ih =>
    intro leaf l
    have h1 := ih leaf l
    have h2 := ih (leaf + 2 ^ (n - (h + 1))) (bld n T h leaf l).1
    have h3 := put_len (bld n T h (leaf + 2 ^ (n - (h + 1))) (bld n T h leaf l).1).1 (nodeN (n - (h + 1)) (bld n T h leaf l).2 (bld n T h (leaf + 2 ^ (n - (h + 1))) (bld n T h leaf l).1).2)
    have h4 : 2 ^ (h + 1 + 1) = 2 * 2 ^ (h + 1) := by rw [Nat.pow_succ 2 (h + 1)]; omega
    have h5 : 0 < 2 ^ (h + 1) := Nat.two_pow_pos _
    simp only [bld]
    split
    · simp only; omega
    · omega

theorem put_mem {l : List NodeT} {x y : NodeT} (h : y ∈ (put l x).1) : y ∈ l ∨ y = x := by
  unfold put at h
  by_cases hc : idxN l x < l.length
  · rw [if_pos hc] at h; exact Or.inl h
  · rw [if_neg hc] at h
    simpa using h

theorem bld_all (Q : NodeT → Prop) (n : Nat) (T : List EnvT) (hT : ∀ e ∈ T, Q (leafN e)) (hd : Q (leafN noEnv)) (hn : ∀ f a b, Q (nodeN f a b)) : ∀ (h leaf : Nat) (l : List NodeT), (∀ y ∈ l, Q y) → ∀ y ∈ (bld n T h leaf l).1, Q y := by
  intro h
  induction h with
  | zero =>
    intro leaf l hl y hy
    simp only [bld] at hy
    rcases put_mem hy with hy | hy
    · exact hl y hy
    · rw [hy, List.getD]
      cases hc : T[leaf]? with
      | none => exact hd
      | some e => exact hT e (List.mem_of_getElem? hc)
  | succ h ih =>
    intro leaf l hl y hy
    have h1 := ih leaf l hl
    have h2 := ih (leaf + 2 ^ (n - (h + 1))) (bld n T h leaf l).1 h1
    simp only [bld] at hy
    split at hy
    · exact h2 y hy
    · rcases put_mem hy with hy | hy
      · exact h2 y hy
      · rw [hy]; exact hn _ _ _

theorem small_no : ESmall noEnv := ⟨by simp [noEnv], by simp [noEnv]⟩

theorem bld_small (n : Nat) (T : List EnvT) (hT : ∀ e ∈ T, ESmall e) (h leaf : Nat) (l : List NodeT) (hl : ∀ y ∈ l, ESmall (envOf y)) : ∀ y ∈ (bld n T h leaf l).1, ESmall (envOf y) :=
  bld_all (fun y => ESmall (envOf y)) n T (fun e he => hT e he) small_no (fun _ _ _ => small_no) h leaf l hl

theorem pow_cast (m : Nat) : ((2 ^ m : Nat) : Int) = (2 : Int) ^ m := by simp

theorem pow_small {m : Nat} (h : m ≤ 3) : 2 ^ m ≤ 8 := by
  have : m = 0 ∨ m = 1 ∨ m = 2 ∨ m = 3 := by omega
  rcases this with rfl | rfl | rfl | rfl <;> decide

theorem specBuild_is (k : Nat) (hk : 4194304 < k) (n : Nat) (hn : n ≤ 3) (T : List EnvT) (hT : T.length = 2 ^ n) (hs : ∀ e ∈ T, ESmall e) : ∀ (h leaf : Nat) (l : List NodeT) (f : Nat), h ≤ n → h < f → leaf < 2 ^ (n - h) → l.length + 2 ^ (h + 1) ≤ 1048576 → (∀ y ∈ l, ESmall (envOf y)) →
    iter (spec_l8Build.f k) f (T, l, ((n - h : Nat) : Int), (leaf : Int), ()) = some (((bld n T h leaf l).1, ((bld n T h leaf l).2 : Int), ()), ((), (), (), (), ())) := by
  intro h
  induction h with
  | zero =>
    intro leaf l f hh hf hlf hl hsm
    obtain ⟨f, rfl⟩ : ∃ g, f = g + 1 := ⟨f - 1, by omega⟩
    have w : IntKind.wrap .u64 ((n : Nat) : Int) = ((n : Nat) : Int) := wrap_u64 (by omega) (by omega)
    have h0 : (0 : Int) ≤ ((n : Nat) : Int) := by omega
    have hc : ((2 : Int) ^ n == (T.length : Int)) = true := by rw [hT, pow_cast]; exact BEq.rfl
    have hl0 : (0 : Int) ≤ (leaf : Int) := by omega
    have hi : leaf < T.length := by rw [hT]; simpa using hlf
    have he := hs T[leaf] (List.getElem_mem hi)
    have ha : spec_l8Add k (l, ((-1), 0, 0, T[leaf].1, T[leaf].2.1, T[leaf].2.2.1, ()), ()) = _ := l8Add_is k hk l (leafN T[leaf]) (by omega) hsm he
    have hg : T.getD leaf noEnv = T[leaf] := by simp [List.getD, List.getElem?_eq_getElem hi]
    rw [iter_succ]
    simp only [spec_l8Build.f, Nat.sub_zero, w, br_dec, if_pos h0, if_pos hl0, Int.toNat_natCast, wrap_pow hn, hc, br_true, List.getElem?_eq_getElem hi, bd_some, l6Copy_is k _ he, ha, bld, hg]
  | succ h ih =>
    intro leaf l f hh hf hlf hl hsm
    obtain ⟨f, rfl⟩ : ∃ g, f = g + 1 := ⟨f - 1, by omega⟩
    have hm : n - (h + 1) ≤ 3 := by omega
    have w : IntKind.wrap .u64 ((n - (h + 1) : Nat) : Int) = ((n - (h + 1) : Nat) : Int) := wrap_u64 (by omega) (by omega)
    have h0 : (0 : Int) ≤ ((n - (h + 1) : Nat) : Int) := by omega
    have hlt : 2 ^ (n - (h + 1)) < 2 ^ n := Nat.pow_lt_pow_right (by omega) (by omega)
    have hc : ((2 : Int) ^ (n - (h + 1)) == (T.length : Int)) = false := by
      rw [hT, beq_eq_false_iff_ne, ← pow_cast]; omega
    have wf : IntKind.wrap .i64 (((n - (h + 1) : Nat) : Int) + 1) = ((n - h : Nat) : Int) := by rw [wrap_i64 (by omega) (by omega)]; omega
    have h8 := pow_small hm
    have e2 : 2 ^ (n - h) = 2 * 2 ^ (n - (h + 1)) := by rw [show n - h = n - (h + 1) + 1 by omega, Nat.pow_succ]; omega
    have wl : IntKind.wrap .i64 ((leaf : Int) + (2 : Int) ^ (n - (h + 1))) = ((leaf + 2 ^ (n - (h + 1)) : Nat) : Int) := by
      rw [← pow_cast, wrap_i64 (by omega) (by omega)]; omega
    have h4 : 2 ^ (h + 1 + 1) = 2 * 2 ^ (h + 1) := by rw [Nat.pow_succ 2 (h + 1)]; omega
    have l1 := bld_len n T h leaf l
    have l2 := bld_len n T h (leaf + 2 ^ (n - (h + 1))) (bld n T h leaf l).1
    have s1 := bld_small n T hs h leaf l hsm
    have s2 := bld_small n T hs h (leaf + 2 ^ (n - (h + 1))) (bld n T h leaf l).1 s1
    have r1 := ih leaf l f (by omega) (by omega) (by omega) (by omega) hsm
    have r2 := ih (leaf + 2 ^ (n - (h + 1))) (bld n T h leaf l).1 f (by omega) (by omega) (by omega) (by omega) s1
    have ha : spec_l8Add k ((bld n T h (leaf + 2 ^ (n - (h + 1))) (bld n T h leaf l).1).1, (((n - (h + 1) : Nat) : Int), ((bld n T h leaf l).2 : Int), ((bld n T h (leaf + 2 ^ (n - (h + 1))) (bld n T h leaf l).1).2 : Int), false, [], [], ()), ()) = _ :=
      l8Add_is k hk (bld n T h (leaf + 2 ^ (n - (h + 1))) (bld n T h leaf l).1).1 (nodeN (n - (h + 1)) (bld n T h leaf l).2 (bld n T h (leaf + 2 ^ (n - (h + 1))) (bld n T h leaf l).1).2) (by omega) s2 small_no
    rw [iter_succ]
    simp only [spec_l8Build.f, w, br_dec, if_pos h0, Int.toNat_natCast, wrap_pow hm, hc, br_false, wf, r1, bd_some, wl, r2, ha, br_beq]
    simp only [bld]
    by_cases hq : (bld n T h leaf l).2 = (bld n T h (leaf + 2 ^ (n - (h + 1))) (bld n T h leaf l).1).2
    · have hq' : ((bld n T h leaf l).2 : Int) = ((bld n T h (leaf + 2 ^ (n - (h + 1))) (bld n T h leaf l).1).2 : Int) := by omega
      rw [if_pos hq', if_pos hq]
    · have hq' : ¬ ((bld n T h leaf l).2 : Int) = ((bld n T h (leaf + 2 ^ (n - (h + 1))) (bld n T h leaf l).1).2 : Int) := by omega
      rw [if_neg hq', if_neg hq]

theorem or_bit : ∀ m : Nat, m < 3 → ∀ leaf : Nat, leaf < 2 ^ m → IntKind.wrap .i64 (((BitVec.ofInt 64 (leaf : Int) ||| BitVec.ofInt 64 ((2 : Int) ^ m)).toNat : Int)) = ((leaf + 2 ^ m : Nat) : Int) := by
  intro m hm
  have : m = 0 ∨ m = 1 ∨ m = 2 := by omega
  rcases this with rfl | rfl | rfl <;> decide

theorem implBuild_is (k : Nat) (hk : 4194304 < k) (n : Nat) (hn : n ≤ 3) (T : List EnvT) (hT : T.length = 2 ^ n) (hs : ∀ e ∈ T, ESmall e) : ∀ (h leaf : Nat) (l : List NodeT) (f : Nat), h ≤ n → h < f → leaf < 2 ^ (n - h) → l.length + 2 ^ (h + 1) ≤ 1048576 → (∀ y ∈ l, ESmall (envOf y)) →
    iter (impl_Tree_build.f k) f ((l, ()), T, ((n - h : Nat) : Int), (n : Int), (leaf : Int), ()) = some ((((bld n T h leaf l).2 : Int), ()), (((bld n T h leaf l).1, ()), (), (), (), (), ())) := by
  intro h
  induction h with
  | zero =>
    intro leaf l f hh hf hlf hl hsm
    obtain ⟨f, rfl⟩ : ∃ g, f = g + 1 := ⟨f - 1, by omega⟩
    have hl0 : (0 : Int) ≤ (leaf : Int) := by omega
    have hi : leaf < T.length := by rw [hT]; simpa using hlf
    have he := hs T[leaf] (List.getElem_mem hi)
    have ha : impl_Tree_put k ((l, ()), ((-1), 0, 0, T[leaf].1, T[leaf].2.1, T[leaf].2.2.1, ()), ()) = _ := implPut_is k hk l (leafN T[leaf]) (by omega) hsm
    have hg : T.getD leaf noEnv = T[leaf] := by simp [List.getD, List.getElem?_eq_getElem hi]
    rw [iter_succ]
    simp only [impl_Tree_build.f, Nat.sub_zero, BEq.rfl, br_true, br_dec, if_pos hl0, Int.toNat_natCast, List.getElem?_eq_getElem hi, bd_some, own_is k _ he, ha, bld, hg]
  | succ h ih =>
    intro leaf l f hh hf hlf hl hsm
    obtain ⟨f, rfl⟩ : ∃ g, f = g + 1 := ⟨f - 1, by omega⟩
    have hm : n - (h + 1) ≤ 3 := by omega
    have h0 : (0 : Int) ≤ ((n - (h + 1) : Nat) : Int) := by omega
    have hc : (((n - (h + 1) : Nat) : Int) == (n : Int)) = false := by rw [beq_eq_false_iff_ne]; omega
    have wf : IntKind.wrap .i64 (((n - (h + 1) : Nat) : Int) + 1) = ((n - h : Nat) : Int) := by rw [wrap_i64 (by omega) (by omega)]; omega
    have h8 := pow_small hm
    have e2 : 2 ^ (n - h) = 2 * 2 ^ (n - (h + 1)) := by rw [show n - h = n - (h + 1) + 1 by omega, Nat.pow_succ]; omega
    have wl := or_bit (n - (h + 1)) (by omega) leaf (by omega)
    have h4 : 2 ^ (h + 1 + 1) = 2 * 2 ^ (h + 1) := by rw [Nat.pow_succ 2 (h + 1)]; omega
    have l1 := bld_len n T h leaf l
    have l2 := bld_len n T h (leaf + 2 ^ (n - (h + 1))) (bld n T h leaf l).1
    have s1 := bld_small n T hs h leaf l hsm
    have s2 := bld_small n T hs h (leaf + 2 ^ (n - (h + 1))) (bld n T h leaf l).1 s1
    have r1 := ih leaf l f (by omega) (by omega) (by omega) (by omega) hsm
    have r2 := ih (leaf + 2 ^ (n - (h + 1))) (bld n T h leaf l).1 f (by omega) (by omega) (by omega) (by omega) s1
    have ha : impl_Tree_put k (((bld n T h (leaf + 2 ^ (n - (h + 1))) (bld n T h leaf l).1).1, ()), (((n - (h + 1) : Nat) : Int), ((bld n T h leaf l).2 : Int), ((bld n T h (leaf + 2 ^ (n - (h + 1))) (bld n T h leaf l).1).2 : Int), false, [], [], ()), ()) = _ :=
      implPut_is k hk (bld n T h (leaf + 2 ^ (n - (h + 1))) (bld n T h leaf l).1).1 (nodeN (n - (h + 1)) (bld n T h leaf l).2 (bld n T h (leaf + 2 ^ (n - (h + 1))) (bld n T h leaf l).1).2) (by omega) s2
    rw [iter_succ]
    simp only [impl_Tree_build.f, br_dec, if_pos h0, Int.toNat_natCast, wrap_pow hm, hc, br_false, wf, r1, bd_some, wl, r2, ha, br_beq]
    simp only [bld]
    by_cases hq : (bld n T h leaf l).2 = (bld n T h (leaf + 2 ^ (n - (h + 1))) (bld n T h leaf l).1).2
    · have hq' : ((bld n T h leaf l).2 : Int) = ((bld n T h (leaf + 2 ^ (n - (h + 1))) (bld n T h leaf l).1).2 : Int) := by omega
      rw [if_pos hq', if_pos hq]
    · have hq' : ¬ ((bld n T h leaf l).2 : Int) = ((bld n T h (leaf + 2 ^ (n - (h + 1))) (bld n T h leaf l).1).2 : Int) := by omega
      rw [if_neg hq', if_neg hq]
end Go.Pev.F
end

section
/-
  Good trees: what the builder makes is good; on good trees both walks agree; on any tree both end.
-/
set_option linter.unusedVariables false
set_option linter.unusedSimpArgs false
namespace Go.Pev.F

def child (l : List NodeT) (i : Nat) (f c : Int) : Prop := 0 ≤ c ∧ c < (i : Int) ∧ ∀ y, l[c.toNat]? = some y → y.1 = -1 ∨ f < y.1
def GoodN (P : EnvT → Prop) (n : Nat) (l : List NodeT) (i : Nat) (x : NodeT) : Prop := (x.1 = -1 ∧ P (envOf x)) ∨ (0 ≤ x.1 ∧ x.1 < (n : Int) ∧ child l i x.1 x.2.1 ∧ child l i x.1 x.2.2.1)
def Good (P : EnvT → Prop) (n : Nat) (l : List NodeT) : Prop := ∀ i (hi : i < l.length), GoodN P n l i l[i]
def Ext (l l' : List NodeT) : Prop := ∀ (i : Nat) (y : NodeT), l[i]? = some y → l'[i]? = some y

theorem child_app {l : List NodeT} {i : Nat} {f c : Int} (h : child l i f c) (hi : i ≤ l.length) (x : NodeT) : child (l ++ [x]) i f c := by
  obtain ⟨h0, h1, h2⟩ := h
  refine ⟨h0, h1, fun y hy => h2 y ?_⟩
  rwa [List.getElem?_append_left (by omega)] at hy

theorem put_good {P : EnvT → Prop} {n : Nat} {l : List NodeT} (hl : Good P n l) {x : NodeT} (hx : GoodN P n l l.length x) : Good P n (put l x).1 ∧ Ext l (put l x).1 ∧ (put l x).1[(put l x).2]? = some x := by
  unfold put
  by_cases hc : idxN l x < l.length
  · simp only [if_pos hc]
    refine ⟨hl, fun _ _ h => h, ?_⟩
    have := List.findIdx_getElem (w := hc)
    rw [List.getElem?_eq_getElem hc]
    exact congrArg some (of_decide_eq_true this)
  · have e : idxN l x = l.length := Nat.le_antisymm (idxN_le l x) (Nat.not_lt.1 hc)
    simp only [if_neg hc]
    rw [e]
    refine ⟨fun i hi => ?_, fun i y hy => ?_, by simp⟩
    · have step : ∀ j z, j ≤ l.length → GoodN P n l j z → GoodN P n (l ++ [x]) j z := by
        intro j z hj h
        rcases h with h | ⟨h0, h1, h2, h3⟩
        · exact Or.inl h
        · exact Or.inr ⟨h0, h1, child_app h2 hj x, child_app h3 hj x⟩
      by_cases hi2 : i < l.length
      · rw [List.getElem_append_left hi2]; exact step i _ (by omega) (hl i hi2)
      · have : i = l.length := by simp at hi; omega
        subst this
        rw [List.getElem_append_right (by omega)]
        simp only [Nat.sub_self, List.getElem_cons_zero]
        exact step _ _ (Nat.le_refl _) hx
    · obtain ⟨h, _⟩ := List.getElem?_eq_some_iff.1 hy
      rwa [List.getElem?_append_left h]

theorem bld_good {P : EnvT → Prop} {n : Nat} {T : List EnvT} (hT : ∀ e ∈ T, P e) (hd : P noEnv) : ∀ (h leaf : Nat) (l : List NodeT), h ≤ n → Good P n l →
    Good P n (bld n T h leaf l).1 ∧ Ext l (bld n T h leaf l).1 ∧ ∃ y, (bld n T h leaf l).1[(bld n T h leaf l).2]? = some y ∧ (y.1 = -1 ∨ ((n - h : Nat) : Int) ≤ y.1) := by
  intro h
  induction h with
  | zero =>
    intro leaf l hh hl
    have hP : P (T.getD leaf noEnv) := by
      rw [List.getD]
      cases hc : T[leaf]? with
      | none => exact hd
      | some e => exact hT e (List.mem_of_getElem? hc)
    obtain ⟨g1, g2, g3⟩ := put_good hl (x := leafN (T.getD leaf noEnv)) (Or.inl ⟨rfl, hP⟩)
    exact ⟨g1, g2, _, g3, Or.inl rfl⟩
  | succ h ih =>
    intro leaf l hh hl
    obtain ⟨a1, a2, y, a3, a4⟩ := ih leaf l (by omega) hl
    obtain ⟨b1, b2, z, b3, b4⟩ := ih (leaf + 2 ^ (n - (h + 1))) (bld n T h leaf l).1 (by omega) a1
    simp only [bld]
    by_cases hq : (bld n T h leaf l).2 = (bld n T h (leaf + 2 ^ (n - (h + 1))) (bld n T h leaf l).1).2
    · simp only [if_pos hq]
      exact ⟨b1, fun i w hw => b2 i w (a2 i w hw), y, b2 _ _ a3, a4.imp id fun h => by omega⟩
    · simp only [if_neg hq]
      obtain ⟨l1, e1⟩ := List.getElem?_eq_some_iff.1 (b2 _ _ a3)
      obtain ⟨l2, e2⟩ := List.getElem?_eq_some_iff.1 b3
      obtain ⟨g1, g2, g3⟩ := put_good b1 (x := nodeN (n - (h + 1)) (bld n T h leaf l).2 (bld n T h (leaf + 2 ^ (n - (h + 1))) (bld n T h leaf l).1).2) (Or.inr ⟨by simp only [nodeN]; omega, by simp only [nodeN]; omega,
        ⟨by simp only [nodeN]; omega, by simp only [nodeN]; omega, fun w hw => by
          simp only [nodeN, Int.toNat_natCast] at hw ⊢
          have := (b2 _ _ a3).symm.trans hw
          cases this
          exact a4.imp id fun h => by omega⟩,
        ⟨by simp only [nodeN]; omega, by simp only [nodeN]; omega, fun w hw => by
          simp only [nodeN, Int.toNat_natCast] at hw ⊢
          have := b3.symm.trans hw
          cases this
          exact b4.imp id fun h => by omega⟩⟩)
      exact ⟨g1, fun i w hw => g2 i w (b2 i w (a2 i w hw)), _, g3, Or.inr (by simp only [nodeN]; omega)⟩

def bitB (leaf flag : Int) : Bool := (IntKind.wrap .i64 (((BitVec.ofInt 64 (leaf.fdiv (2 ^ (min flag.toNat 64))) &&& BitVec.ofInt 64 1).toNat : Int))) == 1

def askT (l : List NodeT) (leaf : Int) : Nat → Nat → EnvT
  | 0, _ => noEnv
  | m + 1, a => match l[a]? with
    | none => noEnv
    | some x => if x.1 = -1 then envOf x else if bitB leaf x.1 = true then askT l leaf m x.2.2.1.toNat else askT l leaf m x.2.1.toNat

theorem askT_mem (l : List NodeT) (leaf : Int) : ∀ m a, askT l leaf m a = noEnv ∨ ∃ x ∈ l, askT l leaf m a = envOf x := by
  intro m
  induction m with
  | zero => intro a; exact Or.inl rfl
  | succ m ih =>
    intro a
    unfold askT
    cases hx : l[a]? with
    | none => exact Or.inl rfl
    | some x =>
      simp only
      by_cases h1 : x.1 = -1
      · rw [if_pos h1]; exact Or.inr ⟨x, List.mem_of_getElem? hx, rfl⟩
      · rw [if_neg h1]
        split
        · exact ih _
        · exact ih _

theorem find_good {P : EnvT → Prop} {n : Nat} {l : List NodeT} (hl : Good P n l) (hn : n ≤ 3) (hlen : l.length ≤ 1048576) (k : Nat) (leaf : Int) : ∀ (m a f : Nat) (x : NodeT), l[a]? = some x → (x.1 = -1 ∨ (n : Int) - x.1 ≤ m) → m < f →
    iter (impl_Tree_find.l0 k) f ((n : Int), leaf, (l, ()), (false, [], [], ()), (a : Int), ()) = some ((askT l leaf (m + 1) a, true, ()), ((), (), (), ())) := by
  intro m
  induction m with
  | zero =>
    intro a f x hx hm hf
    obtain ⟨f, rfl⟩ : ∃ g, f = g + 1 := ⟨f - 1, by omega⟩
    obtain ⟨ha, e⟩ := List.getElem?_eq_some_iff.1 hx
    have h1 : x.1 = -1 := by
      rcases hm with h | h
      · exact h
      · rcases e ▸ hl a ha with ⟨h, _⟩ | ⟨_, h', _⟩
        · exact h
        · omega
    have h0 : (0 : Int) ≤ (a : Int) := by omega
    have h0' : (a : Int) ≥ 0 := by omega
    rw [iter_succ]
    simp only [impl_Tree_find.l0, br_dec, if_pos h0, if_pos h0', Int.toNat_natCast, hx, bd_some, br_beq, if_pos h1, askT]
    rfl
  | succ m ih =>
    intro a f x hx hm hf
    obtain ⟨f, rfl⟩ : ∃ g, f = g + 1 := ⟨f - 1, by omega⟩
    obtain ⟨ha, e⟩ := List.getElem?_eq_some_iff.1 hx
    have h0 : (0 : Int) ≤ (a : Int) := by omega
    have h0' : (a : Int) ≥ 0 := by omega
    rw [iter_succ]
    by_cases h1 : x.1 = -1
    · simp only [impl_Tree_find.l0, br_dec, if_pos h0, if_pos h0', Int.toNat_natCast, hx, bd_some, br_beq, if_pos h1, askT]
      rfl
    · rcases e ▸ hl a ha with ⟨h, _⟩ | ⟨f0, f1, c1, c2⟩
      · exact absurd h h1
      · have hw : IntKind.wrap .i64 ((n : Int) - 1) = (n : Int) - 1 := wrap_i64 (by omega) (by omega)
        have hwa : IntKind.wrap .i64 ((a : Int) - 1) = (a : Int) - 1 := wrap_i64 (by omega) (by omega)
        have hr : 0 ≤ x.1 ∧ x.1 ≤ (n : Int) - 1 := by omega
        have sub : ∀ c : Int, child l a x.1 c → impl_within k (c, 0, (a : Int) - 1, ()) = some ((true, ()), ((), (), (), ())) ∧ iter (impl_Tree_find.l0 k) f ((n : Int), leaf, (l, ()), (false, [], [], ()), c, ()) = some ((askT l leaf (m + 1) c.toNat, true, ()), ((), (), (), ())) := by
          intro c hc
          obtain ⟨g0, g1, g2⟩ := hc
          have hi : c.toNat < l.length := by omega
          have hcy := List.getElem?_eq_getElem hi
          refine ⟨?_, ?_⟩
          · rw [within_is, decide_eq_true (show 0 ≤ c ∧ c ≤ (a : Int) - 1 by omega)]
          · have := ih c.toNat f l[c.toNat] hcy ((g2 _ hcy).imp id fun h => by rcases hm with h' | h' <;> omega) (by omega)
            rwa [show ((c.toNat : Nat) : Int) = c by omega] at this
        obtain ⟨u1, u2⟩ := sub _ c1
        obtain ⟨v1, v2⟩ := sub _ c2
        simp only [impl_Tree_find.l0, br_dec, if_pos h0, if_pos h0', Int.toNat_natCast, hx, bd_some, br_beq, if_neg h1, hw, within_is, decide_eq_true hr, Bool.not_true, br_false, if_pos f0, hwa]
        rw [within_is] at u1 v1
        simp only [u1, v1, bd_some, Bool.not_true, br_false, u2, v2]
        conv => rhs; unfold askT
        simp only [hx, if_neg h1, bitB, beq_iff_eq]
        split <;> simp_all

theorem ask_good {P : EnvT → Prop} {n : Nat} {l : List NodeT} (hl : Good P n l) (hn : n ≤ 3) (hlen : l.length ≤ 1048576) (k : Nat) (leaf : Int) : ∀ (m a i f : Nat) (x : NodeT), l[a]? = some x → (x.1 = -1 ∨ (n : Int) - x.1 ≤ m) → m < f → i + m ≤ 4 →
    iter (spec_l8Ask.l0 k) f (leaf, (l, ()), (false, [], [], ()), (a : Int), (i : Int), ()) = some ((askT l leaf (m + 1) a, true, ()), ((), (), ())) := by
  intro m
  induction m with
  | zero =>
    intro a i f x hx hm hf him
    obtain ⟨f, rfl⟩ : ∃ g, f = g + 1 := ⟨f - 1, by omega⟩
    obtain ⟨ha, e⟩ := List.getElem?_eq_some_iff.1 hx
    have h1 : x.1 = -1 := by
      rcases hm with h | h
      · exact h
      · rcases e ▸ hl a ha with ⟨h, _⟩ | ⟨_, h', _⟩
        · exact h
        · omega
    have h0 : (0 : Int) ≤ (a : Int) := by omega
    have h5 : (i : Int) < 5 := by omega
    have hw : IntKind.wrap .i64 ((l.length : Int) - 1) = (l.length : Int) - 1 := wrap_i64 (by omega) (by omega)
    have hr : 0 ≤ (a : Int) ∧ (a : Int) ≤ (l.length : Int) - 1 := by omega
    rw [iter_succ]
    simp only [spec_l8Ask.l0, br_dec, if_pos h5, l1In_is, hw, decide_eq_true hr, bd_some, Option.bind_some, br_true, if_pos h0, Int.toNat_natCast, hx, br_beq, if_pos h1, askT]
    rfl
  | succ m ih =>
    intro a i f x hx hm hf him
    obtain ⟨f, rfl⟩ : ∃ g, f = g + 1 := ⟨f - 1, by omega⟩
    obtain ⟨ha, e⟩ := List.getElem?_eq_some_iff.1 hx
    have h0 : (0 : Int) ≤ (a : Int) := by omega
    have h5 : (i : Int) < 5 := by omega
    have hw : IntKind.wrap .i64 ((l.length : Int) - 1) = (l.length : Int) - 1 := wrap_i64 (by omega) (by omega)
    have hr : 0 ≤ (a : Int) ∧ (a : Int) ≤ (l.length : Int) - 1 := by omega
    rw [iter_succ]
    by_cases h1 : x.1 = -1
    · simp only [spec_l8Ask.l0, br_dec, if_pos h5, l1In_is, hw, decide_eq_true hr, bd_some, Option.bind_some, br_true, if_pos h0, Int.toNat_natCast, hx, br_beq, if_pos h1, askT]
      rfl
    · rcases e ▸ hl a ha with ⟨h, _⟩ | ⟨f0, f1, c1, c2⟩
      · exact absurd h h1
      · have hr2 : 0 ≤ x.1 ∧ x.1 ≤ 2 := by omega
        have hwu : IntKind.wrap .u64 x.1 = x.1 := wrap_u64 (by omega) (by omega)
        have sub : ∀ c : Int, child l a x.1 c → iter (spec_l8Ask.l0 k) f (leaf, (l, ()), (false, [], [], ()), c, ((i + 1 : Nat) : Int), ()) = some ((askT l leaf (m + 1) c.toNat, true, ()), ((), (), ())) := by
          intro c hc
          obtain ⟨g0, g1, g2⟩ := hc
          have hi : c.toNat < l.length := by omega
          have hcy := List.getElem?_eq_getElem hi
          have := ih c.toNat (i + 1) f l[c.toNat] hcy ((g2 _ hcy).imp id fun h => by rcases hm with h' | h' <;> omega) (by omega) (by omega)
          rwa [show ((c.toNat : Nat) : Int) = c by omega] at this
        have u2 := sub _ c1
        have v2 := sub _ c2
        simp only [spec_l8Ask.l0, br_dec, if_pos h5, l1In_is, hw, decide_eq_true hr, bd_some, Option.bind_some, br_true, if_pos h0, Int.toNat_natCast, hx, br_beq, if_neg h1, decide_eq_true hr2, Bool.not_true, br_false, hwu, if_pos f0, wrap_succ (show i < 4611686018427387904 by omega), u2, v2]
        conv => rhs; unfold askT
        simp only [hx, if_neg h1, bitB, beq_iff_eq]
        split <;> simp_all

theorem find_total (k : Nat) (n : Nat) (hn : n ≤ 3) (l : List NodeT) (hlen : l.length ≤ 1048576) (leaf : Int) : ∀ (m : Nat) (a : Int) (f : Nat), -1 ≤ a → a < (m : Int) → a < (l.length : Int) → m < f →
    ∃ e b, iter (impl_Tree_find.l0 k) f ((n : Int), leaf, (l, ()), (false, [], [], ()), a, ()) = some ((e, b, ()), ((), (), (), ())) ∧ (e = noEnv ∨ ∃ x ∈ l, e = envOf x) := by
  intro m
  induction m with
  | zero =>
    intro a f h0 h1 h2 hf
    obtain ⟨f, rfl⟩ : ∃ g, f = g + 1 := ⟨f - 1, by omega⟩
    have h3 : ¬ a ≥ 0 := by omega
    refine ⟨noEnv, false, ?_, Or.inl rfl⟩
    rw [iter_succ]
    simp only [impl_Tree_find.l0, br_dec, if_neg h3]; rfl
  | succ m ih =>
    intro a f h0 h1 h2 hf
    obtain ⟨f, rfl⟩ : ∃ g, f = g + 1 := ⟨f - 1, by omega⟩
    rw [iter_succ]
    by_cases h3 : a ≥ 0
    · have hi : a.toNat < l.length := by omega
      have h3' : 0 ≤ a := h3
      have hx := List.getElem?_eq_getElem hi
      have hm := List.getElem_mem hi
      generalize l[a.toNat] = x at hx hm
      by_cases hm1 : x.1 = -1
      · refine ⟨envOf x, true, ?_, Or.inr ⟨x, hm, rfl⟩⟩
        simp only [impl_Tree_find.l0, br_dec, if_pos h3, hx, bd_some, br_beq, if_pos hm1]; rfl
      · by_cases hr : 0 ≤ x.1 ∧ x.1 ≤ (n : Int) - 1
        · have hw : IntKind.wrap .i64 ((n : Int) - 1) = (n : Int) - 1 := wrap_i64 (by omega) (by omega)
          have hwa : IntKind.wrap .i64 (a - 1) = a - 1 := wrap_i64 (by omega) (by omega)
          simp only [impl_Tree_find.l0, br_dec, if_pos h3, hx, bd_some, br_beq, if_neg hm1, hw, within_is, decide_eq_true hr, Bool.not_true, br_false, if_pos hr.1, hwa]
          have side : ∀ c : Int, ∃ e b, (br k (!decide (0 ≤ c ∧ c ≤ a - 1)) (some (((false, [], [], ()), false, ()), ((), (), (), ()))) (iter (impl_Tree_find.l0 k) f ((n : Int), leaf, (l, ()), (false, [], [], ()), c, ()))) = some ((e, b, ()), ((), (), (), ())) ∧ (e = noEnv ∨ ∃ x ∈ l, e = envOf x) := by
            intro c
            by_cases hc : 0 ≤ c ∧ c ≤ a - 1
            · rw [decide_eq_true hc, Bool.not_true, br_false]
              exact ih c f (by omega) (by omega) (by omega) (by omega)
            · rw [decide_eq_false hc, Bool.not_false, br_true]
              exact ⟨noEnv, false, rfl, Or.inl rfl⟩
          split
          · exact side _
          · exact side _
        · refine ⟨noEnv, false, ?_, Or.inl rfl⟩
          have hw : IntKind.wrap .i64 ((n : Int) - 1) = (n : Int) - 1 := wrap_i64 (by omega) (by omega)
          simp only [impl_Tree_find.l0, br_dec, if_pos h3, hx, bd_some, br_beq, if_neg hm1, hw, within_is, decide_eq_false hr, Bool.not_false, br_true]; rfl
    · refine ⟨noEnv, false, ?_, Or.inl rfl⟩
      simp only [impl_Tree_find.l0, br_dec, if_neg h3]; rfl

theorem ask_total (k : Nat) (l : List NodeT) (hlen : l.length ≤ 1048576) (leaf : Int) : ∀ (m i f : Nat) (a : Int), i + m = 5 → m < f →
    ∃ e b, iter (spec_l8Ask.l0 k) f (leaf, (l, ()), (false, [], [], ()), a, (i : Int), ()) = some ((e, b, ()), ((), (), ())) ∧ (e = noEnv ∨ ∃ x ∈ l, e = envOf x) := by
  intro m
  induction m with
  | zero =>
    intro i f a him hf
    obtain ⟨f, rfl⟩ : ∃ g, f = g + 1 := ⟨f - 1, by omega⟩
    have h3 : ¬ (i : Int) < 5 := by omega
    refine ⟨noEnv, false, ?_, Or.inl rfl⟩
    rw [iter_succ]
    simp only [spec_l8Ask.l0, br_dec, if_neg h3, Option.bind_some, br_false]; rfl
  | succ m ih =>
    intro i f a him hf
    obtain ⟨f, rfl⟩ : ∃ g, f = g + 1 := ⟨f - 1, by omega⟩
    have h5 : (i : Int) < 5 := by omega
    have hw : IntKind.wrap .i64 ((l.length : Int) - 1) = (l.length : Int) - 1 := wrap_i64 (by omega) (by omega)
    rw [iter_succ]
    by_cases hr : 0 ≤ a ∧ a ≤ (l.length : Int) - 1
    · have hi : a.toNat < l.length := by omega
      have hx := List.getElem?_eq_getElem hi
      have hm := List.getElem_mem hi
      generalize l[a.toNat] = x at hx hm
      by_cases hm1 : x.1 = -1
      · refine ⟨envOf x, true, ?_, Or.inr ⟨x, hm, rfl⟩⟩
        simp only [spec_l8Ask.l0, br_dec, if_pos h5, l1In_is, hw, decide_eq_true hr, bd_some, Option.bind_some, br_true, if_pos hr.1, hx, br_beq, if_pos hm1]; rfl
      · by_cases hr2 : 0 ≤ x.1 ∧ x.1 ≤ 2
        · have hwu : IntKind.wrap .u64 x.1 = x.1 := wrap_u64 (by omega) (by omega)
          simp only [spec_l8Ask.l0, br_dec, if_pos h5, l1In_is, hw, decide_eq_true hr, bd_some, Option.bind_some, br_true, if_pos hr.1, hx, br_beq, if_neg hm1, decide_eq_true hr2, Bool.not_true, br_false, hwu, if_pos hr2.1, wrap_succ (show i < 4611686018427387904 by omega)]
          split
          · exact ih (i + 1) f _ (by omega) (by omega)
          · exact ih (i + 1) f _ (by omega) (by omega)
        · refine ⟨noEnv, false, ?_, Or.inl rfl⟩
          simp only [spec_l8Ask.l0, br_dec, if_pos h5, l1In_is, hw, decide_eq_true hr, bd_some, Option.bind_some, br_true, if_pos hr.1, hx, br_beq, if_neg hm1, decide_eq_false hr2, Bool.not_false, br_true]; rfl
    · refine ⟨noEnv, false, ?_, Or.inl rfl⟩
      simp only [spec_l8Ask.l0, br_dec, if_pos h5, l1In_is, hw, decide_eq_false hr, bd_some, Option.bind_some, br_false]; rfl
end Go.Pev.F
end

section
/-
  Tables of trees: the reference's and the program's answers are the same.
-/
set_option linter.unusedVariables false
set_option linter.unusedSimpArgs false
namespace Go.Pev.F

def treeOf (d : DeclT) (T : List EnvT) : List NodeT := (bld d.2.1.length T d.2.1.length 0 []).1
def outF (d : DeclT) (F : Nat → EnvT × Bool) : List EnvT := (List.range (2 ^ d.2.1.length)).map fun i => (F i).1
def allF (d : DeclT) (F : Nat → EnvT × Bool) : Bool := (List.range (2 ^ d.2.1.length)).all fun i => (F i).2
def tabR (d : DeclT) (l : List NodeT) (F : Nat → EnvT × Bool) : List EnvT × Bool × Unit :=
  cond (allF d F && (tableOk d (outF d F) && decide (treeOf d (outF d F) = l))) (outF d F, true, ()) ([], false, ())

theorem table_len {d : DeclT} {T : List EnvT} (h : tableOk d T = true) : T.length = 2 ^ d.2.1.length := by
  simp only [tableOk, Bool.and_eq_true, decide_eq_true_eq] at h
  have := h.1
  rw [← pow_cast] at this
  omega

theorem table_fits {d : DeclT} {T : List EnvT} (h : tableOk d T = true) : ∀ e ∈ T, envFits d e = true := by
  simp only [tableOk, Bool.and_eq_true, List.all_eq_true] at h
  exact h.2

theorem fits_no (d : DeclT) : envFits d noEnv = true := by simp [envFits, noEnv]

theorem treeOf_good {d : DeclT} (hdo : declOk d = true) {T : List EnvT} (h : tableOk d T = true) : Good (fun e => envFits d e = true) d.2.1.length (treeOf d T) ∧ treeOf d T ≠ [] ∧ (treeOf d T).length ≤ 15 := by
  have hf := (decl_flags hdo).2.1
  obtain ⟨g1, g2, y, g3, g4⟩ := bld_good (table_fits h) (fits_no d) d.2.1.length 0 [] (Nat.le_refl _) (fun i hi => absurd hi (by simp))
  refine ⟨g1, fun e => ?_, ?_⟩
  · unfold treeOf at e; rw [e] at g3; simp at g3
  · have := bld_len d.2.1.length T d.2.1.length 0 []
    have h8 := pow_small hf
    rw [Nat.pow_succ] at this
    simp only [List.length_nil] at this
    unfold treeOf
    omega

theorem treeOf_small {d : DeclT} {T : List EnvT} (hs : ∀ e ∈ T, ESmall e) : ∀ y ∈ treeOf d T, ESmall (envOf y) := bld_small _ T hs _ _ _ (by simp)

theorem specTreeOf_is (k : Nat) (hk : 4194304 < k) (d : DeclT) (hd : DSmall d) (hdo : declOk d = true) (T : List EnvT) (ht : T.length ≤ 1048576) (hs : ∀ e ∈ T, ESmall e) :
    spec_TreeOf k (d, T, ()) = some (((cond (tableOk d T) (treeOf d T) [], ()), ()), ((), (), ())) := by
  have hf := (decl_flags hdo).2.1
  unfold spec_TreeOf
  simp only [specTableOk_is k hk d hd hdo T ht hs, bd_some]
  cases hc : tableOk d T with
  | false => simp
  | true =>
    have h8 := pow_small hf
    have h := specBuild_is k hk d.2.1.length hf T (table_len hc) hs d.2.1.length 0 [] k (Nat.le_refl _) (by omega) (Nat.two_pow_pos _) (by rw [Nat.pow_succ]; simp; omega) (by simp)
    rw [Nat.sub_self] at h
    have h' : spec_l8Build k (T, [], 0, 0, ()) = _ := h
    simp only [h', Bool.not_true, br_false, bd_some, cond_true, treeOf]

theorem implTreeOf_is (k : Nat) (hk : 4194304 < k) (d : DeclT) (hdo : declOk d = true) (T : List EnvT) (hs : ∀ e ∈ T, ESmall e) (hc : tableOk d T = true) :
    impl_Decl_treeOf k (d, T, ()) = some (((treeOf d T, ()), ()), ((), (), ())) := by
  have hf := (decl_flags hdo).2.1
  have h8 := pow_small hf
  have h := implBuild_is k hk d.2.1.length hf T (table_len hc) hs d.2.1.length 0 [] k (Nat.le_refl _) (by omega) (Nat.two_pow_pos _) (by rw [Nat.pow_succ]; simp; omega) (by simp)
  rw [Nat.sub_self] at h
  have h' : impl_Tree_build k (([], ()), T, 0, (d.2.1.length : Int), 0, ()) = _ := h
  unfold impl_Decl_treeOf
  simp only [impl_size_string, bd_some, h', treeOf]

theorem equalNodes_is (k : Nat) (hk : 4194304 < k) (a b : List NodeT) (ha : a.length ≤ 1048576) (hs : ∀ x ∈ a, ESmall (envOf x)) :
    slices_EqualFunc_impl_Node_impl_Node_impl_Node_impl_Node k (a, b, (()), ()) = some ((decide (a = b), ()), ((), (), (()), ())) := by
  unfold slices_EqualFunc_impl_Node_impl_Node_impl_Node_impl_Node
  by_cases hl : a.length = b.length
  · have hb : ((a.length : Int) != (b.length : Int)) = false := by simp [hl]
    simp only [hb, br_false]
    have h := iter_range (b := slices_EqualFunc_impl_Node_impl_Node_impl_Node_impl_Node.l0 k) (fun i => (b, (()), a, (a.length : Int), (i : Int), ())) a.length (fun i => !decide (a[i]? = b[i]?)) (rf := some ((false, ()), ((), (), (()), ()))) (r := some ((true, ()), ((), (), (()), ()))) (fun G i hi => by
      have h2 : ((i : Int) < (a.length : Int)) := by omega
      have h3 : (0 : Int) ≤ (i : Int) := by omega
      have hi2 : i < b.length := by omega
      simp only [slices_EqualFunc_impl_Node_impl_Node_impl_Node_impl_Node.l0, br_dec, if_pos h2, if_pos h3, Int.toNat_natCast, List.getElem?_eq_getElem hi, List.getElem?_eq_getElem hi2, bd_some, sameNode_is k hk _ _ (hs _ (List.getElem_mem hi)), Option.some.injEq]
      rw [wrap_succ (by omega)]
      by_cases hq : a[i] = b[i] <;> simp [hq]) (fun G => by
      have h2 : ¬ ((a.length : Int) < (a.length : Int)) := by omega
      simp only [slices_EqualFunc_impl_Node_impl_Node_impl_Node_impl_Node.l0, br_dec, if_neg h2]) (f := k) (by omega)
    refine Eq.trans h ?_
    rw [list_differ a b hl]
    cases decide (a = b) <;> rfl
  · have hb : ((a.length : Int) != (b.length : Int)) = true := by simpa using fun h : (a.length : Int) = b.length => hl (by omega)
    have hd : decide (a = b) = false := decide_eq_false fun h => hl (by rw [h])
    simp only [hb, br_true, hd]

theorem outF_mem {d : DeclT} {F : Nat → EnvT × Bool} (hs : ∀ i, ESmall (F i).1) : ∀ e ∈ outF d F, ESmall e := by
  intro e he
  obtain ⟨i, _, rfl⟩ := List.mem_map.1 he
  exact hs i

theorem outF_len (d : DeclT) (F : Nat → EnvT × Bool) : (outF d F).length = 2 ^ d.2.1.length := by simp [outF]

theorem implTableOf_is (k : Nat) (hk : 4194304 < k) (hk2 : k ≤ 4611686018427387903) (d : DeclT) (hd : DSmall d) (hdo : declOk d = true) (l : List NodeT) (F : Nat → EnvT × Bool) (hF : ∀ i : Nat, impl_Tree_find k ((l, ()), (d.2.1.length : Int), (i : Int), ()) = some (((F i).1, (F i).2, ()), ((), (), (), ()))) (hs : ∀ i, ESmall (F i).1) :
    impl_TableOf k (d, (l, ()), ()) = some (tabR d l F, ((), (), ())) := by
  have hf := (decl_flags hdo).2.1
  have h8 := pow_small hf
  unfold impl_TableOf
  simp only [implDeclOk_is k hk hk2 d hd, hdo, bd_some, Bool.not_true, br_false, leaves_of k d hf]
  have hfin : iter (impl_TableOf.l0 k) k ((d.1, d.2.1, d.2.2.1, ()), (l, ()), [], (2 : Int) ^ d.2.1.length, 0, ()) = if (List.range (2 ^ d.2.1.length)).any (fun i => !(F i).2) = true then some (([], false, ()), ((), (), ())) else some (cond (tableOk d (outF d F) && decide (treeOf d (outF d F) = l)) (outF d F, true, ()) ([], false, ()), ((), (), ())) :=
    iter_range (b := impl_TableOf.l0 k) (fun i => ((d.1, d.2.1, d.2.2.1, ()), (l, ()), (List.range i).map (fun i => (F i).1), (2 : Int) ^ d.2.1.length, (i : Int), ())) (2 ^ d.2.1.length) (fun i => !(F i).2) (fun G i hi => by
      have h2 : ((i : Int) < (2 : Int) ^ d.2.1.length) := by rw [← pow_cast]; omega
      have hb : (((List.range i).map fun i => (F i).1).length + ([(F i).1] : List (Bool × (List (Int × Int × Unit)) × (List (Int × Int × Unit)) × Unit)).length) * 56 ≤ maxBytes := by simp [maxBytes]; omega
      simp only [impl_TableOf.l0, br_dec, if_pos h2, impl_size_string, bd_some, hF i, own_is k _ (hs i), if_pos hb]
      rw [wrap_succ (by omega), List.range_succ, List.map_append]
      cases (F i).2 <;> simp) (fun G => by
      have h2 : ¬ (((2 ^ d.2.1.length : Nat) : Int) < (2 : Int) ^ d.2.1.length) := by rw [← pow_cast]; omega
      have hT : impl_Decl_isTable k ((d.1, d.2.1, d.2.2.1, ()), (List.range (2 ^ d.2.1.length)).map (fun i => (F i).1), ()) = some ((tableOk d (outF d F), ()), ((), (), ())) := isTable_is k hk d hf (outF d F) (by rw [outF_len]; omega) (outF_mem hs)
      simp only [impl_TableOf.l0, br_dec, if_neg h2, hT, bd_some]
      cases hc : tableOk d (outF d F) with
      | false => simp
      | true =>
        have hO : impl_Decl_treeOf k ((d.1, d.2.1, d.2.2.1, ()), (List.range (2 ^ d.2.1.length)).map (fun i => (F i).1), ()) = some (((treeOf d (outF d F), ()), ()), ((), (), ())) := implTreeOf_is k hk d hdo (outF d F) (outF_mem hs) hc
        have h15 := (treeOf_good hdo hc).2.2
        simp only [Bool.not_true, br_false, hO, bd_some, equalNodes_is k hk (treeOf d (outF d F)) l (by omega) (treeOf_small (outF_mem hs)), Bool.true_and]
        cases decide (treeOf d (outF d F) = l) <;> simp [outF]) (f := k) (by omega)
  refine Eq.trans hfin ?_
  unfold tabR allF
  rw [all_any]
  cases (List.range (2 ^ d.2.1.length)).all fun i => (F i).2 <;> simp

theorem specTableOf_is (k : Nat) (hk : 4194304 < k) (d : DeclT) (hd : DSmall d) (hdo : declOk d = true) (l : List NodeT) (hls : ∀ x ∈ l, ESmall (envOf x)) (F : Nat → EnvT × Bool) (hF : ∀ i : Nat, spec_l8Ask k ((l, ()), (i : Int), ()) = some (((F i).1, (F i).2, ()), ((), (), ()))) (hs : ∀ i, ESmall (F i).1) :
    spec_TableOf k (d, (l, ()), ()) = some (tabR d l F, ((), (), ())) := by
  have hf := (decl_flags hdo).2.1
  have h8 := pow_small hf
  unfold spec_TableOf
  simp only [specDeclOk_is k hk d hd, hdo, bd_some, Bool.not_true, br_false, Option.bind_some]
  have hno : ∀ (h : l.length > 15 ∨ l = []), tabR d l F = ([], false, ()) := by
    intro h
    unfold tabR
    cases hc : tableOk d (outF d F) with
    | false => simp
    | true =>
      obtain ⟨_, g2, g3⟩ := treeOf_good hdo hc
      have : decide (treeOf d (outF d F) = l) = false := decide_eq_false fun e => by
        rcases h with h | h
        · rw [e] at g3; omega
        · exact g2 (e.trans h)
      simp [this]
  by_cases h15 : l.length > 15
  · have c : decide ((l.length : Int) > 15) = true := decide_eq_true (by omega)
    rw [c, br_true, hno (Or.inl h15)]
  · have c : decide ((l.length : Int) > 15) = false := decide_eq_false (by omega)
    rw [c, br_false]
    have hfin : iter (spec_TableOf.l0 k) k ((d.1, d.2.1, d.2.2.1, ()), (l, ()), [], 0, ()) = if (List.range (2 ^ d.2.1.length)).any (fun i => !(F i).2) = true then some (([], false, ()), ((), (), ())) else some (cond (tableOk d (outF d F) && decide (treeOf d (outF d F) = l)) (outF d F, true, ()) ([], false, ()), ((), (), ())) :=
      iter_range (b := spec_TableOf.l0 k) (fun i => ((d.1, d.2.1, d.2.2.1, ()), (l, ()), (List.range i).map (fun i => (F i).1), (i : Int), ())) (2 ^ d.2.1.length) (fun i => !(F i).2) (fun G i hi => by
        have h2 : ((i : Int) < (2 : Int) ^ d.2.1.length) := by rw [← pow_cast]; omega
        have hz : spec_l8Size k ((d.1, d.2.1, d.2.2.1, ()), ()) = some (((2 : Int) ^ d.2.1.length, ()), ((), ())) := l8Size_is k d hf
        have hb : (((List.range i).map fun i => (F i).1).length + ([(F i).1] : List (Bool × (List (Int × Int × Unit)) × (List (Int × Int × Unit)) × Unit)).length) * 56 ≤ maxBytes := by simp [maxBytes]; omega
        simp only [spec_TableOf.l0, hz, br_dec, if_pos h2, bd_some, hF i, l6Copy_is k _ (hs i), if_pos hb]
        rw [wrap_succ (by omega), List.range_succ, List.map_append]
        cases (F i).2 <;> simp) (fun G => by
        have h2 : ¬ (((2 ^ d.2.1.length : Nat) : Int) < (2 : Int) ^ d.2.1.length) := by rw [← pow_cast]; omega
        have hz : spec_l8Size k ((d.1, d.2.1, d.2.2.1, ()), ()) = some (((2 : Int) ^ d.2.1.length, ()), ((), ())) := l8Size_is k d hf
        have hT : spec_TreeOf k ((d.1, d.2.1, d.2.2.1, ()), (List.range (2 ^ d.2.1.length)).map (fun i => (F i).1), ()) = some (((cond (tableOk d (outF d F)) (treeOf d (outF d F)) [], ()), ()), ((), (), ())) := specTreeOf_is k hk d hd hdo (outF d F) (by rw [outF_len]; omega) (outF_mem hs)
        simp only [spec_TableOf.l0, hz, br_dec, if_neg h2, hT, bd_some]
        cases hc : tableOk d (outF d F) with
        | false =>
          cases l with
          | nil => simp
          | cons x r =>
            have : ((([] : List NodeT).length : Int) != ((x :: r).length : Int)) = true := by simp; omega
            simp only [cond_false, this, br_true, Option.bind_some, Bool.false_and]
        | true =>
          obtain ⟨_, g2, g3⟩ := treeOf_good hdo hc
          simp only [cond_true, Bool.true_and]
          have hsm := treeOf_small (d := d) (outF_mem (d := d) hs)
          generalize treeOf d (outF d F) = a at g2 g3 hsm
          have ho : (List.range (2 ^ d.2.1.length)).map (fun i => (F i).1) = outF d F := rfl
          rw [ho]
          by_cases hl : a.length = l.length
          · have hb : ((a.length : Int) != (l.length : Int)) = false := by simp [hl]
            have hb2 : ((l.length : Int) == 0) = false := by
              rw [beq_eq_false_iff_ne]
              have : 0 < a.length := List.length_pos_iff.2 g2
              omega
            simp only [hb, br_false, hb2, Option.bind_some]
            have h := iter_range (b := spec_TableOf.l2 k) (fun i => ((l, ()), outF d F, (a, ()), (i : Int), ())) l.length (fun i => !decide (a[i]? = l[i]?)) (rf := some (([], false, ()), ((), (), ()))) (r := some ((outF d F, true, ()), ((), (), ()))) (fun G i hi => by
              have h2 : ((i : Int) < (l.length : Int)) := by omega
              have h3 : (0 : Int) ≤ (i : Int) := by omega
              have hi2 : i < a.length := by omega
              have h4 : ((i : Int) < (a.length : Int)) := by omega
              simp only [spec_TableOf.l2, br_dec, if_pos h2, if_pos (And.intro h3 h4), if_pos h3, Int.toNat_natCast, List.getElem?_eq_getElem hi, List.getElem?_eq_getElem hi2, bd_some, l8Node_is k hk _ _ (hsm _ (List.getElem_mem hi2)) (hls _ (List.getElem_mem hi)), Option.some.injEq]
              rw [wrap_succ (by omega)]
              by_cases hq : a[i] = l[i] <;> simp [hq]) (fun G => by
              have h2 : ¬ ((l.length : Int) < (l.length : Int)) := by omega
              simp only [spec_TableOf.l2, br_dec, if_neg h2]) (f := k) (by omega)
            refine Eq.trans h ?_
            rw [← hl, list_differ a l hl]
            cases decide (a = l) <;> rfl
          · have hb : ((a.length : Int) != (l.length : Int)) = true := by simpa using fun h : (a.length : Int) = l.length => hl (by omega)
            have hd : decide (a = l) = false := decide_eq_false fun h => hl (by rw [h])
            simp only [hb, br_true, Option.bind_some, hd, cond_false]) (f := k) (by omega)
    refine Eq.trans hfin ?_
    unfold tabR allF
    rw [all_any]
    cases (List.range (2 ^ d.2.1.length)).all fun i => (F i).2 <;> simp

theorem find_some (k : Nat) (hk : 4194304 < k) (n : Nat) (hn : n ≤ 3) (l : List NodeT) (hlen : l.length ≤ 1048576) (hls : ∀ x ∈ l, ESmall (envOf x)) (leaf : Nat) : ∃ p : EnvT × Bool, impl_Tree_find k ((l, ()), (n : Int), (leaf : Int), ()) = some ((p.1, p.2, ()), ((), (), (), ())) ∧ ESmall p.1 := by
  obtain ⟨e, b, h1, h2⟩ := find_total k n hn l hlen (leaf : Int) l.length ((l.length : Int) - 1) k (by omega) (by omega) (by omega) (by omega)
  refine ⟨(e, b), ?_, ?_⟩
  · unfold impl_Tree_find
    simp only [impl_size_impl_Node, bd_some]
    rw [wrap_i64 (by omega) (by omega)]
    exact h1
  · rcases h2 with rfl | ⟨x, hx, rfl⟩
    · exact small_no
    · exact hls x hx

theorem ask_some (k : Nat) (hk : 4194304 < k) (l : List NodeT) (hlen : l.length ≤ 1048576) (hls : ∀ x ∈ l, ESmall (envOf x)) (leaf : Nat) : ∃ p : EnvT × Bool, spec_l8Ask k ((l, ()), (leaf : Int), ()) = some ((p.1, p.2, ()), ((), (), ())) ∧ ESmall p.1 := by
  obtain ⟨e, b, h1, h2⟩ := ask_total k l hlen (leaf : Int) 5 0 k ((l.length : Int) - 1) (by omega) (by omega)
  refine ⟨(e, b), ?_, ?_⟩
  · unfold spec_l8Ask
    simp only
    rw [wrap_i64 (by omega) (by omega)]
    exact h1
  · rcases h2 with rfl | ⟨x, hx, rfl⟩
    · exact small_no
    · exact hls x hx

theorem find_askT {P : EnvT → Prop} (k : Nat) (hk : 4194304 < k) (n : Nat) (hn : n ≤ 3) (l : List NodeT) (hg : Good P n l) (hne : l ≠ []) (hlen : l.length ≤ 1048576) (leaf : Int) :
    impl_Tree_find k ((l, ()), (n : Int), leaf, ()) = some ((askT l leaf (n + 1) (l.length - 1), true, ()), ((), (), (), ())) ∧ spec_l8Ask k ((l, ()), leaf, ()) = some ((askT l leaf (n + 1) (l.length - 1), true, ()), ((), (), ())) := by
  have hp : 0 < l.length := List.length_pos_iff.2 hne
  have hi : l.length - 1 < l.length := by omega
  have hx := List.getElem?_eq_getElem hi
  have hm : l[l.length - 1].1 = -1 ∨ (n : Int) - l[l.length - 1].1 ≤ n := by
    rcases hg _ hi with ⟨h, _⟩ | ⟨h, _⟩
    · exact Or.inl h
    · exact Or.inr (by omega)
  have e : ((l.length - 1 : Nat) : Int) = (l.length : Int) - 1 := by omega
  constructor
  · have := find_good hg hn hlen k leaf n _ k _ hx hm (by omega)
    unfold impl_Tree_find
    simp only [impl_size_impl_Node, bd_some]
    rw [wrap_i64 (by omega) (by omega), ← e]
    exact this
  · have := ask_good hg hn hlen k leaf n _ 0 k _ hx hm (by omega) (by omega)
    unfold spec_l8Ask
    simp only
    rw [wrap_i64 (by omega) (by omega), ← e]
    exact this

theorem tabR_true {d : DeclT} {l : List NodeT} {F : Nat → EnvT × Bool} (h : (tabR d l F).2.1 = true) : tableOk d (tabR d l F).1 = true ∧ treeOf d (tabR d l F).1 = l := by
  unfold tabR at h ⊢
  cases hc : (allF d F && (tableOk d (outF d F) && decide (treeOf d (outF d F) = l))) with
  | false => rw [hc] at h; cases h
  | true =>
    simp only [Bool.and_eq_true, decide_eq_true_eq] at hc
    exact ⟨hc.2.1, hc.2.2⟩

theorem tabR_false {d : DeclT} {l : List NodeT} {F : Nat → EnvT × Bool} (h : (tabR d l F).2.1 = false) : tabR d l F = ([], false, ()) := by
  unfold tabR at h ⊢
  cases hc : (allF d F && (tableOk d (outF d F) && decide (treeOf d (outF d F) = l))) with
  | false => rfl
  | true => rw [hc] at h; cases h

theorem tableOf_both (k : Nat) (hk : 4194304 < k) (hk2 : k ≤ 4611686018427387903) (d : DeclT) (hd : DSmall d) (l : List NodeT) (hlen : l.length ≤ 1048576) (hls : ∀ x ∈ l, ESmall (envOf x)) :
    ∃ R : List EnvT × Bool × Unit, spec_TableOf k (d, (l, ()), ()) = some (R, ((), (), ())) ∧ impl_TableOf k (d, (l, ()), ()) = some (R, ((), (), ())) ∧ (R.2.1 = true → declOk d = true ∧ tableOk d R.1 = true ∧ treeOf d R.1 = l) := by
  cases hdo : declOk d with
  | false =>
    refine ⟨([], false, ()), ?_, ?_, fun h => by cases h⟩
    · unfold spec_TableOf
      simp only [specDeclOk_is k hk d hd, hdo, bd_some, Bool.not_false, br_true, Option.bind_some]
    · unfold impl_TableOf
      simp only [implDeclOk_is k hk hk2 d hd, hdo, bd_some, Bool.not_false, br_true]
  | true =>
    have hf := (decl_flags hdo).2.1
    by_cases hg : Good (fun e => envFits d e = true) d.2.1.length l ∧ l ≠ []
    · have hE : ∀ i : Nat, ESmall (askT l (i : Int) (d.2.1.length + 1) (l.length - 1)) := by
        intro i
        rcases askT_mem l (i : Int) (d.2.1.length + 1) (l.length - 1) with h | ⟨x, hx, h⟩
        · rw [h]; exact small_no
        · rw [h]; exact hls x hx
      refine ⟨tabR d l fun i => (askT l (i : Int) (d.2.1.length + 1) (l.length - 1), true), ?_, ?_, fun h => ⟨rfl, tabR_true h⟩⟩
      · exact specTableOf_is k hk d hd hdo l hls (fun i => (askT l (i : Int) (d.2.1.length + 1) (l.length - 1), true)) (fun i => (find_askT k hk _ hf l hg.1 hg.2 hlen i).2) hE
      · exact implTableOf_is k hk hk2 d hd hdo l (fun i => (askT l (i : Int) (d.2.1.length + 1) (l.length - 1), true)) (fun i => (find_askT k hk _ hf l hg.1 hg.2 hlen i).1) hE
    · have bad : ∀ F, tabR d l F = ([], false, ()) := by
        intro F
        cases hc : (tabR d l F).2.1 with
        | false => exact tabR_false hc
        | true =>
          obtain ⟨h1, h2⟩ := tabR_true hc
          obtain ⟨g1, g2, _⟩ := treeOf_good hdo h1
          rw [h2] at g1 g2
          exact absurd ⟨g1, g2⟩ hg
      obtain ⟨F1, f1⟩ := Classical.axiomOfChoice fun i : Nat => find_some k hk d.2.1.length hf l hlen hls i
      obtain ⟨F2, f2⟩ := Classical.axiomOfChoice fun i : Nat => ask_some k hk l hlen hls i
      refine ⟨([], false, ()), ?_, ?_, fun h => by cases h⟩
      · rw [specTableOf_is k hk d hd hdo l hls F2 (fun i => (f2 i).1) (fun i => (f2 i).2), bad]
      · rw [implTableOf_is k hk hk2 d hd hdo l F1 (fun i => (f1 i).1) (fun i => (f1 i).2), bad]
end Go.Pev.F
end

section
/-
  A built tree: its root is its last node, and its leaves are the table's.
-/
set_option linter.unusedVariables false
set_option linter.unusedSimpArgs false
namespace Go.Pev.F

theorem put_ge (l : List NodeT) (x : NodeT) : l.length ≤ (put l x).1.length := by
  unfold put
  by_cases h : idxN l x < l.length
  · rw [if_pos h]; exact Nat.le_refl _
  · rw [if_neg h]; simp

theorem bld_ge (n : Nat) (T : List EnvT) : ∀ (h leaf : Nat) (l : List NodeT), l.length ≤ (bld n T h leaf l).1.length := by
  intro h
  induction h with
  | zero => intro leaf l; exact put_ge _ _
  | succ h ih =>
    intro leaf l
    have h1 := ih leaf l
    have h2 := ih (leaf + 2 ^ (n - (h + 1))) (bld n T h leaf l).1
    have h3 := put_ge (bld n T h (leaf + 2 ^ (n - (h + 1))) (bld n T h leaf l).1).1 (nodeN (n - (h + 1)) (bld n T h leaf l).2 (bld n T h (leaf + 2 ^ (n - (h + 1))) (bld n T h leaf l).1).2)
    simp only [bld]
    split
    · simp only; omega
    · omega

/-- A node is put: it was there, or it is the last. -/
theorem put_last (l : List NodeT) (x : NodeT) : ((put l x).1 = l ∧ (put l x).2 < l.length ∧ l[(put l x).2]? = some x) ∨ ((put l x).1 = l ++ [x] ∧ (put l x).2 = l.length) := by
  unfold put
  by_cases hc : idxN l x < l.length
  · simp only [if_pos hc]
    refine Or.inl ⟨trivial, hc, ?_⟩
    have := List.findIdx_getElem (w := hc)
    rw [List.getElem?_eq_getElem hc]
    exact congrArg some (of_decide_eq_true this)
  · simp only [if_neg hc]
    exact Or.inr ⟨trivial, Nat.le_antisymm (idxN_le l x) (Nat.not_lt.1 hc)⟩

theorem bld_last {P : EnvT → Prop} {n : Nat} {T : List EnvT} (hT : ∀ e ∈ T, P e) (hd : P noEnv) : ∀ (h leaf : Nat) (l : List NodeT), h ≤ n → Good P n l →
    ((bld n T h leaf l).1 = l ∨ ((bld n T h leaf l).2 + 1 = (bld n T h leaf l).1.length ∧ l.length ≤ (bld n T h leaf l).2)) ∧ (∀ (i : Nat) (y : NodeT), (bld n T h leaf l).1[i]? = some y → l.length ≤ i → y.1 = -1 ∨ ((n - h : Nat) : Int) ≤ y.1) := by
  intro h
  induction h with
  | zero =>
    intro leaf l hh hl
    simp only [bld]
    rcases put_last l (leafN (T.getD leaf noEnv)) with ⟨e, h1, _⟩ | ⟨e, h1⟩
    · refine ⟨Or.inl e, fun i y hy hi => ?_⟩
      rw [e, List.getElem?_eq_none hi] at hy
      cases hy
    · refine ⟨Or.inr ⟨by rw [e, h1]; simp, by omega⟩, fun i y hy hi => ?_⟩
      rw [e, List.getElem?_append_right hi] at hy
      obtain ⟨hx, hy⟩ := List.getElem?_eq_some_iff.1 hy
      simp at hx
      have : i - l.length = 0 := by omega
      simp only [this, List.getElem_cons_zero] at hy
      exact Or.inl (hy ▸ rfl)
  | succ h ih =>
    intro leaf l hh hl
    obtain ⟨ga, ea, ya, fa, pa⟩ := bld_good hT hd h leaf l (by omega) hl
    obtain ⟨gb, eb, yb, fb, pb⟩ := bld_good hT hd h (leaf + 2 ^ (n - (h + 1))) (bld n T h leaf l).1 (by omega) ga
    obtain ⟨a1, a2⟩ := ih leaf l (by omega) hl
    obtain ⟨b1, b2⟩ := ih (leaf + 2 ^ (n - (h + 1))) (bld n T h leaf l).1 (by omega) ga
    have la := bld_ge n T h leaf l
    have lb := bld_ge n T h (leaf + 2 ^ (n - (h + 1))) (bld n T h leaf l).1
    simp only [bld]
    generalize bld n T h leaf l = a at *
    generalize bld n T h (leaf + 2 ^ (n - (h + 1))) a.1 = b at *
    obtain ⟨ha, _⟩ := List.getElem?_eq_some_iff.1 fa
    obtain ⟨hb, _⟩ := List.getElem?_eq_some_iff.1 fb
    have new : ∀ (i : Nat) (y : NodeT), b.1[i]? = some y → l.length ≤ i → y.1 = -1 ∨ ((n - h : Nat) : Int) ≤ y.1 := by
      intro i y hy hi
      by_cases hc : a.1.length ≤ i
      · exact b2 i y hy hc
      · have hi2 : i < a.1.length := by omega
        have := (eb i _ (List.getElem?_eq_getElem hi2)).symm.trans hy
        cases this
        exact a2 i _ (List.getElem?_eq_getElem hi2) hi
    by_cases hq : a.2 = b.2
    · simp only [if_pos hq]
      have eq : b.1 = a.1 := by
        rcases b1 with h | ⟨_, h⟩
        · exact h
        · omega
      refine ⟨?_, fun i y hy hi => (new i y hy hi).imp id fun h => by omega⟩
      rw [eq]
      exact a1
    · simp only [if_neg hq]
      rcases put_last b.1 (nodeN (n - (h + 1)) a.2 b.2) with ⟨e, h1, h2⟩ | ⟨e, h1⟩
      · have hlt : (put b.1 (nodeN (n - (h + 1)) a.2 b.2)).2 < l.length := by
          refine Classical.byContradiction fun hc => ?_
          rcases new _ _ h2 (by omega) with h | h
          · simp only [nodeN] at h; omega
          · simp only [nodeN] at h; omega
        have hi2 : (put b.1 (nodeN (n - (h + 1)) a.2 b.2)).2 < a.1.length := by omega
        have e1 := eb _ _ (ea _ _ (List.getElem?_eq_getElem hlt))
        have e2 := e1.symm.trans h2
        have e3 : l[(put b.1 (nodeN (n - (h + 1)) a.2 b.2)).2] = nodeN (n - (h + 1)) a.2 b.2 := Option.some.inj e2
        have hg := hl _ hlt
        rw [e3] at hg
        have ch : a.2 < l.length ∧ b.2 < l.length := by
          rcases hg with ⟨h, _⟩ | ⟨_, _, c1, c2⟩
          · simp only [nodeN] at h; omega
          · have c1 : (a.2 : Int) < ((put b.1 (nodeN (n - (h + 1)) a.2 b.2)).2 : Int) := c1.2.1
            have c2 : (b.2 : Int) < ((put b.1 (nodeN (n - (h + 1)) a.2 b.2)).2 : Int) := c2.2.1
            omega
        have q1 : a.1 = l := by rcases a1 with h | ⟨_, h⟩; exact h; omega
        have q2 : b.1 = a.1 := by rcases b1 with h | ⟨_, h⟩; exact h; omega
        refine ⟨Or.inl (by rw [e, q2, q1]), fun i y hy hi => ?_⟩
        rw [e] at hy
        exact (new i y hy hi).imp id fun h => by omega
      · refine ⟨Or.inr ⟨by rw [e, h1]; simp, by omega⟩, fun i y hy hi => ?_⟩
        rw [e] at hy
        by_cases hc : i < b.1.length
        · rw [List.getElem?_append_left hc] at hy
          exact (new i y hy hi).imp id fun h => by omega
        · rw [List.getElem?_append_right (by omega)] at hy
          obtain ⟨hx, hy⟩ := List.getElem?_eq_some_iff.1 hy
          simp at hx
          have : i - b.1.length = 0 := by omega
          simp only [this, List.getElem_cons_zero] at hy
          refine Or.inr ?_
          rw [← hy]
          simp only [nodeN]
          omega

theorem bit_is : ∀ f : Nat, f < 3 → ∀ j : Nat, j < 8 → bitB (j : Int) (f : Int) = decide (j / 2 ^ f % 2 = 1) := by
  intro f hf
  have : f = 0 ∨ f = 1 ∨ f = 2 := by omega
  rcases this with rfl | rfl | rfl <;> decide

theorem bld_ask {P : EnvT → Prop} {n : Nat} (hn : n ≤ 3) {T : List EnvT} (hT : ∀ e ∈ T, P e) (hd : P noEnv) : ∀ (h leaf : Nat) (l : List NodeT), h ≤ n → Good P n l → ∀ L, Ext (bld n T h leaf l).1 L →
    ∀ j : Nat, j < 2 ^ n → j % 2 ^ (n - h) = leaf → ∀ m, h ≤ m → askT L (j : Int) (m + 1) (bld n T h leaf l).2 = T.getD j noEnv := by
  intro h
  induction h with
  | zero =>
    intro leaf l hh hl L hL j hj hjl m hm
    rw [Nat.sub_zero, Nat.mod_eq_of_lt hj] at hjl
    subst hjl
    simp only [bld] at hL ⊢
    have hx : (put l (leafN (T.getD j noEnv))).1[(put l (leafN (T.getD j noEnv))).2]? = some (leafN (T.getD j noEnv)) := by
      rcases put_last l (leafN (T.getD j noEnv)) with ⟨e, _, h1⟩ | ⟨e, h1⟩
      · rw [e]; exact h1
      · rw [e, h1]; simp
    unfold askT
    rw [hL _ _ hx]
    rfl
  | succ h ih =>
    intro leaf l hh hl L hL j hj hjl m hm
    obtain ⟨ga, ea, ya, fa, pa⟩ := bld_good hT hd h leaf l (by omega) hl
    obtain ⟨gb, eb, yb, fb, pb⟩ := bld_good hT hd h (leaf + 2 ^ (n - (h + 1))) (bld n T h leaf l).1 (by omega) ga
    have ia := ih leaf l (by omega) hl
    have ib := ih (leaf + 2 ^ (n - (h + 1))) (bld n T h leaf l).1 (by omega) ga
    have hpow : j % 2 ^ (n - h) = leaf + 2 ^ (n - (h + 1)) * (j / 2 ^ (n - (h + 1)) % 2) := by
      rw [show n - h = n - (h + 1) + 1 by omega, Nat.mod_pow_succ, hjl]
    have hj8 : j < 8 := Nat.lt_of_lt_of_le hj (pow_small hn)
    have hbit := bit_is (n - (h + 1)) (by omega) j hj8
    simp only [bld] at hL ⊢
    generalize bld n T h leaf l = a at *
    generalize bld n T h (leaf + 2 ^ (n - (h + 1))) a.1 = b at *
    by_cases hq : a.2 = b.2
    · simp only [if_pos hq] at hL ⊢
      by_cases hb1 : j / 2 ^ (n - (h + 1)) % 2 = 1
      · rw [hq]
        exact ib L hL j hj (by rw [hpow, hb1, Nat.mul_one]) m (by omega)
      · have : j / 2 ^ (n - (h + 1)) % 2 = 0 := by omega
        exact ia L (fun i y hy => hL i y (eb i y hy)) j hj (by rw [hpow, this, Nat.mul_zero, Nat.add_zero]) m (by omega)
    · simp only [if_neg hq] at hL ⊢
      have hb' : Ext b.1 L := fun i y hy => by
        refine hL i y ?_
        obtain ⟨hi, _⟩ := List.getElem?_eq_some_iff.1 hy
        rcases put_last b.1 (nodeN (n - (h + 1)) a.2 b.2) with ⟨e, _, _⟩ | ⟨e, _⟩
        · rw [e]; exact hy
        · rw [e, List.getElem?_append_left hi]; exact hy
      have hx : (put b.1 (nodeN (n - (h + 1)) a.2 b.2)).1[(put b.1 (nodeN (n - (h + 1)) a.2 b.2)).2]? = some (nodeN (n - (h + 1)) a.2 b.2) := by
        rcases put_last b.1 (nodeN (n - (h + 1)) a.2 b.2) with ⟨e, _, h1⟩ | ⟨e, h1⟩
        · rw [e]; exact h1
        · rw [e, h1]; simp
      unfold askT
      rw [hL _ _ hx]
      have hne : ¬ (nodeN (n - (h + 1)) a.2 b.2).1 = -1 := by simp only [nodeN]; omega
      simp only [if_neg hne]
      obtain ⟨m, rfl⟩ : ∃ g, m = g + 1 := ⟨m - 1, by omega⟩
      have hbit' : bitB (j : Int) (nodeN (n - (h + 1)) a.2 b.2).1 = decide (j / 2 ^ (n - (h + 1)) % 2 = 1) := hbit
      rw [hbit']
      by_cases hb1 : j / 2 ^ (n - (h + 1)) % 2 = 1
      · rw [if_pos (decide_eq_true hb1)]
        have : (nodeN (n - (h + 1)) a.2 b.2).2.2.1.toNat = b.2 := by simp [nodeN]
        rw [this]
        exact ib L hb' j hj (by rw [hpow, hb1, Nat.mul_one]) m (by omega)
      · have h0 : j / 2 ^ (n - (h + 1)) % 2 = 0 := by omega
        rw [if_neg (by simp [h0])]
        have : (nodeN (n - (h + 1)) a.2 b.2).2.1.toNat = a.2 := by simp [nodeN]
        rw [this]
        exact ia L (fun i y hy => hb' i y (eb i y hy)) j hj (by rw [hpow, h0, Nat.mul_zero, Nat.add_zero]) m (by omega)

/-- A right table's tree is right: its table is the table. -/
theorem treeOf_right (k : Nat) (hk : 4194304 < k) (d : DeclT) (hd : DSmall d) (hdo : declOk d = true) (T : List EnvT) (hs : ∀ e ∈ T, ESmall e) (hT : tableOk d T = true) :
    spec_TableOf k (d, (treeOf d T, ()), ()) = some ((T, true, ()), ((), (), ())) := by
  have hf := (decl_flags hdo).2.1
  obtain ⟨g1, g2, g3⟩ := treeOf_good hdo hT
  have hlen := table_len hT
  have hsm := treeOf_small (d := d) hs
  have hlast : (bld d.2.1.length T d.2.1.length 0 []).2 = (treeOf d T).length - 1 := by
    rcases (bld_last (table_fits hT) (fits_no d) d.2.1.length 0 [] (Nat.le_refl _) (fun i hi => absurd hi (by simp))).1 with h | ⟨h, _⟩
    · exact absurd h g2
    · unfold treeOf; omega
  have hask : ∀ j : Nat, j < 2 ^ d.2.1.length → askT (treeOf d T) (j : Int) (d.2.1.length + 1) ((treeOf d T).length - 1) = T.getD j noEnv := by
    intro j hj
    rw [← hlast]
    exact bld_ask hf (table_fits hT) (fits_no d) d.2.1.length 0 [] (Nat.le_refl _) (fun i hi => absurd hi (by simp)) (treeOf d T) (fun _ _ h => h) j hj (by rw [Nat.sub_self, Nat.pow_zero, Nat.mod_one]) d.2.1.length (Nat.le_refl _)
  have hE : ∀ i : Nat, ESmall (askT (treeOf d T) (i : Int) (d.2.1.length + 1) ((treeOf d T).length - 1)) := by
    intro i
    rcases askT_mem (treeOf d T) (i : Int) (d.2.1.length + 1) ((treeOf d T).length - 1) with h | ⟨x, hx, h⟩
    · rw [h]; exact small_no
    · rw [h]; exact hsm x hx
  have hout : outF d (fun i => (askT (treeOf d T) (i : Int) (d.2.1.length + 1) ((treeOf d T).length - 1), true)) = T := by
    refine List.ext_getElem (by rw [outF_len, hlen]) fun i h1 h2 => ?_
    simp only [outF, List.getElem_map, List.getElem_range]
    rw [hask i (by omega)]
    simp [List.getD, List.getElem?_eq_getElem h2]
  rw [specTableOf_is k hk d hd hdo (treeOf d T) hsm (fun i => (askT (treeOf d T) (i : Int) (d.2.1.length + 1) ((treeOf d T).length - 1), true)) (fun i => (find_askT k hk _ hf _ g1 g2 (by omega) i).2) hE]
  unfold tabR
  rw [hout, hT]
  have : allF d (fun i => (askT (treeOf d T) (i : Int) (d.2.1.length + 1) ((treeOf d T).length - 1), true)) = true := List.all_eq_true.2 fun _ _ => rfl
  simp [this]
end Go.Pev.F
end

section
/-
  Joined words.
-/
set_option linter.unusedVariables false
set_option linter.unusedSimpArgs false
namespace Go.Pev.F
open Go.Lib (join join_nil join_one join_cons joinTail joinTail_take_succ)

theorem join_step (l : Names) (sep : List UInt8) {i : Nat} (hi : i + 1 < l.length) : join (l.take (i + 1 + 1)) sep = (join (l.take (i + 1)) sep ++ sep) ++ l[i + 1] := by
  cases l with
  | nil => simp at hi
  | cons x r =>
    have hr : i < r.length := by simpa using hi
    rw [List.take_succ_cons, List.take_succ_cons, join_cons, join_cons, joinTail_take_succ sep r i r[i] (List.getElem?_eq_getElem hr)]
    simp

theorem join_first (l : Names) (sep : List UInt8) (hi : 0 < l.length) : join (l.take (0 + 1)) sep = l[0] := by
  cases l with
  | nil => simp at hi
  | cons x r => simp [join_one]

theorem join_len (sep : List UInt8) (M : Nat) : ∀ (l : Names), (∀ x ∈ l, x.length ≤ M) → (join l sep).length ≤ l.length * (M + sep.length)
  | [], _ => by simp [join_nil]
  | x :: r, h => by
    have key : ∀ (r : Names), (∀ x ∈ r, x.length ≤ M) → (joinTail sep r).length ≤ r.length * (M + sep.length) := by
      intro r
      induction r with
      | nil => intro _; simp [joinTail]
      | cons y r ih =>
        intro h
        have h1 := ih fun x hx => h x (List.mem_cons_of_mem _ hx)
        have h2 := h y List.mem_cons_self
        simp only [joinTail, List.map_cons, List.flatten_cons, List.length_append, List.length_cons, Nat.add_mul, Nat.one_mul] at h1 ⊢
        omega
    have h1 := key r fun x hx => h x (List.mem_cons_of_mem _ hx)
    have h2 := h x List.mem_cons_self
    rw [join_cons]
    simp only [List.length_append, List.length_cons, Nat.add_mul, Nat.one_mul] at h1 ⊢
    omega

/-- Pairs told one by one read as pairs told together. -/
theorem join_pairs (sep : List UInt8) (l : List (List UInt8 × List UInt8)) : join (l.flatMap fun p => [p.1, p.2]) sep = join (l.map fun p => (p.1 ++ sep) ++ p.2) sep := by
  have key : ∀ (l : List (List UInt8 × List UInt8)), joinTail sep (l.flatMap fun p => [p.1, p.2]) = joinTail sep (l.map fun p => (p.1 ++ sep) ++ p.2) := by
    intro l
    induction l with
    | nil => rfl
    | cons p r ih =>
      simp only [joinTail] at ih
      simp [joinTail, ih]
  cases l with
  | nil => rfl
  | cons p r =>
    have := key r
    simp only [joinTail] at this
    simp only [List.flatMap_cons, List.map_cons, List.cons_append, List.nil_append, join_cons]
    simp [joinTail, this]

theorem l13Joined_is (k : Nat) (l : Names) (sep : List UInt8) (hl : l.length < k) (hk : k ≤ 4611686018427387903) (M : Nat) (hM : ∀ x ∈ l, x.length ≤ M) (hb : l.length * (M + sep.length) ≤ 4611686018427387903) : spec_l13Joined k (l, sep, ()) = some ((join l sep, ()), ((), (), ())) := by
  have hlen : ∀ i, (join (l.take i) sep).length ≤ (l.take i).length * (M + sep.length) := fun i => join_len sep M _ fun x hx => hM x (List.mem_of_mem_take hx)
  have h := iter_for (b := spec_l13Joined.l0 k) (fun i => (l, sep, join (l.take i) sep, (i : Int), ())) l.length (r := some ((join l sep, ()), ((), (), ()))) (fun G i hi => by
    have h2 : ((i : Int) < (l.length : Int)) := by omega
    have h3 : (0 : Int) ≤ (i : Int) := by omega
    have h5 := hlen (i + 1)
    have h6 : (l.take (i + 1)).length * (M + sep.length) ≤ l.length * (M + sep.length) := Nat.mul_le_mul_right _ (by simp; omega)
    simp only [spec_l13Joined.l0, br_dec, if_pos h2, if_pos h3, Int.toNat_natCast, List.getElem?_eq_getElem hi, bd_some]
    rw [wrap_succ (by omega)]
    cases i with
    | zero =>
      have h4 : ¬ (((0 : Nat) : Int) > 0) := by omega
      rw [if_neg h4, join_first l sep hi] 
      rw [join_first l sep hi] at h5
      have h7 : (((join (l.take 0) sep).length + l[0].length : Nat) : Int) ≤ maxInt64 := by
        rw [List.take_zero, join_nil]; simp only [maxInt64, List.length_nil]; omega
      rw [if_pos h7, List.take_zero, join_nil]
      rfl
    | succ i =>
      have h4 : (((i + 1 : Nat) : Int) > 0) := by omega
      rw [join_step l sep hi] at h5 ⊢
      simp only [List.length_append] at h5
      have h7 : (((join (l.take (i + 1)) sep).length + sep.length : Nat) : Int) ≤ maxInt64 := by simp only [maxInt64]; omega
      have h8 : (((join (l.take (i + 1)) sep ++ sep).length + l[i + 1].length : Nat) : Int) ≤ maxInt64 := by simp only [maxInt64, List.length_append]; omega
      rw [if_pos h4, if_pos h7, if_pos h8]) (fun G => by
    have h2 : ¬ ((l.length : Int) < (l.length : Int)) := by omega
    simp only [spec_l13Joined.l0, br_dec, if_neg h2, List.take_length]) hl
  unfold spec_l13Joined
  simp only [List.take_zero, join_nil] at h
  exact h

theorem lbJoin_is (k : Nat) (l : Names) (sep : List UInt8) (M : Nat) (hM : ∀ x ∈ l, x.length ≤ M) (hl : l.length ≤ 140737488355328) (hb : l.length * (M + sep.length) ≤ 140737488355328) : Lb.Join k (l, sep, ()) = some ((join l sep, ()), ((), (), ())) := by
  unfold Lb.Join
  have := join_len sep M l hM
  rw [if_pos ⟨hl, by simp only; omega⟩]
end Go.Pev.F
end

section
/-
  Numbers in decimal: the reference's and the program's are the library's.
-/
set_option linter.unusedVariables false
set_option linter.unusedSimpArgs false
namespace Go.Pev.F
open Go.Lib (decDigits itoa)

theorem dec_step {u : Nat} (h : ¬ u < 10) : decDigits u = decDigits (u / 10) ++ [UInt8.ofNat (48 + u % 10)] := by
  rw [decDigits]; simp [h]
theorem dec_end {u : Nat} (h : u < 10) : decDigits u = [UInt8.ofNat (48 + u)] := by
  rw [decDigits]; simp [h]

theorem decDigits_len : ∀ (f u : Nat), u < 10 ^ (f + 1) → (decDigits u).length ≤ f + 1
  | 0, u, h => by rw [dec_end (by omega)]; simp
  | f + 1, u, h => by
    by_cases hu : u < 10
    · rw [dec_end hu]; simp
    · rw [dec_step hu]
      have := decDigits_len f (u / 10) (by rw [Nat.pow_succ] at h; omega)
      simp; omega

theorem l1Dec_last (k : Nat) (n : Int) (f m : Nat) (s : List UInt8) (hm : m < 10) (h3 : s.length ≤ 100) :
    iter (spec_l1Dec.l0 k) (f + 1) (n, (m : Int), s, ()) = some (((if n < 0 then 45 :: (decDigits m ++ s) else decDigits m ++ s), ()), ((), ())) := by
  have hm' : ¬ ((m : Int) ≥ 10) := by omega
  have e : ((48 + (m : Int)).toNat) = 48 + m := by omega
  rw [iter_succ]
  simp only [spec_l1Dec.l0, br_dec, if_neg hm']
  rw [wrap_u64 (n := 48 + (m : Int)) (by omega) (by omega), wrap_u8 (n := 48 + (m : Int)) (by omega) (by omega), dec_end hm]
  simp only [List.map_cons, List.map_nil, e]
  have l1 : ((([UInt8.ofNat (48 + m)].length + s.length : Nat) : Int) ≤ maxInt64) := by simp [maxInt64]; omega
  have l2 : ((([(45 : UInt8)].length + ([UInt8.ofNat (48 + m)] ++ s).length : Nat) : Int) ≤ maxInt64) := by simp [maxInt64]; omega
  rw [if_pos l1, if_pos l2]
  by_cases hn : n < 0 <;> simp [hn]

theorem l1Dec_round (k : Nat) (n : Int) : ∀ (f m : Nat) (s : List UInt8), m < 10 ^ (f + 1) → (m : Int) < 18446744073709551616 → s.length + (decDigits m).length ≤ 100 →
    iter (spec_l1Dec.l0 k) (f + 1) (n, (m : Int), s, ()) = some (((if n < 0 then 45 :: (decDigits m ++ s) else decDigits m ++ s), ()), ((), ())) := by
  intro f
  induction f with
  | zero => intro m s h _ h3; exact l1Dec_last k n 0 m s (by omega) (by omega)
  | succ f ih =>
    intro m s h h2 h3
    by_cases hm : m < 10
    · exact l1Dec_last k n (f + 1) m s hm (by omega)
    · have hm' : ((m : Int) ≥ 10) := by omega
      have h4 : s.length ≤ 100 := by omega
      rw [iter_succ]
      simp only [spec_l1Dec.l0, br_dec, if_pos hm']
      rw [tmod10 (by omega), tdiv10 (by omega), wrap_u64 (n := 48 + (m : Int) % 10) (by omega) (by omega), wrap_u8 (n := 48 + (m : Int) % 10) (by omega) (by omega), wrap_u64 (n := (m : Int) / 10) (by omega) (by omega)]
      have e1 : (m : Int) / 10 = ((m / 10 : Nat) : Int) := by omega
      have e2 : ((48 + (m : Int) % 10).toNat) = 48 + m % 10 := by omega
      simp only [List.map_cons, List.map_nil, e2, e1]
      have l1 : ((([UInt8.ofNat (48 + m % 10)].length + s.length : Nat) : Int) ≤ maxInt64) := by simp [maxInt64]; omega
      rw [if_pos l1, ih (m / 10) _ (by rw [Nat.pow_succ] at h; omega) (by omega) (by rw [dec_step (u := m) hm] at h3; simp at h3 ⊢; omega), dec_step (u := m) hm]
      simp

theorem l1Dec_is (k : Nat) (hk : 20 ≤ k) (n : Int) (h0 : -9223372036854775808 ≤ n) (h1 : n ≤ 9223372036854775807) : spec_l1Dec k (n, ()) = some ((itoa n, ()), ((), ())) := by
  obtain ⟨j, rfl⟩ : ∃ j, k = j + 1 := ⟨k - 1, by omega⟩
  have big : ∀ (m : Nat), (m : Int) < 18446744073709551616 → m < 10 ^ (j + 1) := fun m hm => Nat.lt_of_lt_of_le (show m < 10 ^ 20 by omega) (Nat.pow_le_pow_right (by decide) (by omega))
  unfold spec_l1Dec
  simp only [br_dec]
  unfold itoa
  by_cases hn : n < 0
  · rw [if_pos hn, if_pos hn, wrap_u64_neg h0 hn]
    have e : IntKind.wrap .u64 (0 - (n + 18446744073709551616)) = ((n.natAbs : Nat) : Int) := by
      simp [IntKind.wrap, IntKind.bits, IntKind.signed]
      omega
    rw [e]
    rw [l1Dec_round (j + 1) n j n.natAbs [] (big _ (by omega)) (by omega) (by have := decDigits_len 19 n.natAbs (by omega); simp; omega)]
    simp [hn]
  · rw [if_neg hn, if_neg hn, wrap_u64 (by omega) (by omega)]
    have e : n = ((n.toNat : Nat) : Int) := by omega
    have := l1Dec_round (j + 1) n j n.toNat [] (big _ (by omega)) (by omega) (by have := decDigits_len 19 n.toNat (by omega); simp; omega)
    rw [← e] at this
    rw [this]
    simp [hn]

theorem itoa_len (n : Int) (h0 : -9223372036854775808 ≤ n) (h1 : n ≤ 9223372036854775807) : (itoa n).length ≤ 21 := by
  unfold itoa
  split
  · have := decDigits_len 19 n.natAbs (by omega); simp; omega
  · have := decDigits_len 19 n.toNat (by omega); omega

theorem decimal_is (k : Nat) (n : Int) (h0 : -9223372036854775808 ≤ n) (h1 : n ≤ 9223372036854775807) : impl_decimal k (n, ()) = some ((itoa n, ()), ((), ())) := by
  unfold impl_decimal Lb.FormatInt
  simp [h0, h1]
end Go.Pev.F
end

section
/-
  An environment's text, as both write it.
-/
set_option linter.unusedVariables false
set_option linter.unusedSimpArgs false
namespace Go.Pev.F
open Go.Lib (itoa join)

def ivT (a : IvT) : List UInt8 := (itoa a.1 ++ [46, 46]) ++ itoa a.2.1
def IvFits (a : IvT) : Prop := (-9223372036854775808 ≤ a.1 ∧ a.1 ≤ 9223372036854775807) ∧ (-9223372036854775808 ≤ a.2.1 ∧ a.2.1 ≤ 9223372036854775807)

theorem ivT_len {a : IvT} (ha : IvFits a) : (ivT a).length ≤ 44 := by
  have h1 := itoa_len a.1 ha.1.1 ha.1.2
  have h2 := itoa_len a.2.1 ha.2.1 ha.2.2
  simp [ivT]; omega

theorem l13Iv_is (k : Nat) (hk : 20 ≤ k) (a : IvT) (ha : IvFits a) : spec_l13Iv k (a, ()) = some ((ivT a, ()), ((), ())) := by
  have h1 := itoa_len a.1 ha.1.1 ha.1.2
  have h2 := itoa_len a.2.1 ha.2.1 ha.2.2
  have l1 : (((itoa a.1).length + ([46, 46] : List UInt8).length : Nat) : Int) ≤ maxInt64 := by simp [maxInt64]; omega
  have l2 : (((itoa a.1 ++ [46, 46]).length + (itoa a.2.1).length : Nat) : Int) ≤ maxInt64 := by simp [maxInt64]; omega
  unfold spec_l13Iv
  simp only [l1Dec_is k hk a.1 ha.1.1 ha.1.2, bd_some, br_dec, if_pos l1]
  rw [l1Dec_is k hk a.2.1 ha.2.1 ha.2.2]
  simp only [bd_some, if_pos l2]
  rfl

def told (p : List UInt8 × List UInt8) : List UInt8 := (p.1 ++ [32]) ++ p.2
def both (p : List UInt8 × List UInt8) : Names := [p.1, p.2]

theorem map_next {α β : Type} (f : α → β) {l : List α} {i : Nat} (hi : i < l.length) : (l.take (i + 1)).map f = (l.take i).map f ++ [f l[i]] := by
  rw [← List.take_append_getElem hi, List.map_append]; rfl

theorem flat_next {α β : Type} (f : α → List β) {l : List α} {i : Nat} (hi : i < l.length) : (l.take (i + 1)).flatMap f = (l.take i).flatMap f ++ f l[i] := by
  rw [← List.take_append_getElem hi, List.flatMap_append]; simp

def zero (d : DeclT) (e : EnvT) : List (List UInt8 × List UInt8) := d.1.zip (e.2.1.map ivT)
def ones (d : DeclT) (e : EnvT) : List (List UInt8 × List UInt8) := (d.2.2.1.map (·.1)).zip (e.2.2.1.map ivT)
def envT (d : DeclT) (e : EnvT) : List UInt8 :=
  cond e.1 (cond ((((zero d e ++ ones d e).map told).length : Int) == 0) [97, 108, 108] (join ((zero d e ++ ones d e).map told) [32])) [110, 111, 110, 101]

structure Fine (d : DeclT) (e : EnvT) : Prop where
  l0 : d.1.length ≤ 5
  l2 : d.2.2.1.length ≤ 2
  e1 : e.2.1.length = d.1.length
  e2 : e.2.2.1.length = d.2.2.1.length
  f1 : ∀ a ∈ e.2.1, IvFits a
  f2 : ∀ a ∈ e.2.2.1, IvFits a

theorem fine_of {d : DeclT} {e : EnvT} (h : envOk d e = true) (he : e.1 = true) (hw : envKd.WF e) : Fine d e := by
  simp only [envOk, declOk, envFits, he, cond_true, Bool.and_eq_true, decide_eq_true_eq, beq_iff_eq] at h
  obtain ⟨⟨⟨h0, h1, h2⟩, _⟩, h3, h4, _⟩ := h
  obtain ⟨_, ⟨_, b2⟩, ⟨_, c2⟩, _⟩ := hw
  exact ⟨h0, h2, by omega, by omega, fun a ha => ⟨(b2 a ha).1, (b2 a ha).2.1⟩, fun a ha => ⟨(c2 a ha).1, (c2 a ha).2.1⟩⟩

theorem told_len {d : DeclT} {e : EnvT} (hd : DSmall d) (hf : Fine d e) : ∀ p ∈ zero d e ++ ones d e, p.1.length ≤ 1048576 ∧ p.2.length ≤ 44 := by
  intro p hp
  rcases List.mem_append.1 hp with hp | hp
  · have h := List.of_mem_zip hp
    obtain ⟨a, ha, e⟩ := List.mem_map.1 h.2
    exact ⟨hd.s0 _ h.1, e ▸ ivT_len (hf.f1 a ha)⟩
  · have h := List.of_mem_zip hp
    obtain ⟨a, ha, e⟩ := List.mem_map.1 h.2
    obtain ⟨b, hb, e'⟩ := List.mem_map.1 h.1
    exact ⟨e' ▸ hd.s2 b hb, e ▸ ivT_len (hf.f2 a ha)⟩

theorem l13Env_l2 (k : Nat) (hk : 4194304 < k) (hk2 : k ≤ 4611686018427387903) (d : DeclT) (hd : DSmall d) (e : EnvT) (hf : Fine d e) (he : e.1 = true) :
    iter (spec_l13Env.l2 k) k ((d.1, d.2.1, d.2.2.1, ()), (e.1, e.2.1, e.2.2.1, ()), (zero d e).map told, 0, ()) = some ((envT d e, ()), ((), (), ())) := by
  have l0 := hf.l0
  have l2 := hf.l2
  have x1 := hf.e1
  have x2 := hf.e2
  have z0 : (zero d e).length = d.1.length := by simp [zero]; omega
  have z1 : (ones d e).length = d.2.2.1.length := by simp [ones]; omega
  have h := iter_for (b := spec_l13Env.l2 k) (fun i => ((d.1, d.2.1, d.2.2.1, ()), (e.1, e.2.1, e.2.2.1, ()), (zero d e).map told ++ ((ones d e).take i).map told, (i : Int), ())) e.2.2.1.length (r := some ((envT d e, ()), ((), (), ()))) (fun G i hi => by
    have hi2 : i < d.2.2.1.length := by omega
    have hi3 : i < (ones d e).length := by omega
    have h2 : ((i : Int) < (e.2.2.1.length : Int)) := by omega
    have h3 : (0 : Int) ≤ (i : Int) := by omega
    have s1 := hd.s2 d.2.2.1[i] (List.getElem_mem _)
    have hfi := hf.f2 e.2.2.1[i] (List.getElem_mem _)
    have s2 := ivT_len hfi
    have h4 : (((d.2.2.1[i].1.length + ([32] : List UInt8).length : Nat) : Int) ≤ maxInt64) := by simp [maxInt64]; omega
    have h5 : ((((d.2.2.1[i].1 ++ [32]).length + (ivT e.2.2.1[i]).length : Nat) : Int) ≤ maxInt64) := by simp [maxInt64]; omega
    have h6 : (((zero d e).map told ++ ((ones d e).take i).map told).length + ([(d.2.2.1[i].1 ++ [32]) ++ ivT e.2.2.1[i]] : List (List UInt8)).length) * 16 ≤ maxBytes := by simp [maxBytes]; omega
    have eo : told (ones d e)[i] = (d.2.2.1[i].1 ++ [32]) ++ ivT e.2.2.1[i] := by simp [ones, told]
    simp only [spec_l13Env.l2, br_dec, if_pos h2, if_pos h3, Int.toNat_natCast, List.getElem?_eq_getElem hi, List.getElem?_eq_getElem hi2, bd_some, if_pos h4, l13Iv_is k (by omega) e.2.2.1[i] hfi, if_pos h5, if_pos h6]
    rw [wrap_succ (by omega), map_next told hi3, eo, List.append_assoc (bs := List.map _ _)]) (fun G => by
    have h2 : ¬ ((e.2.2.1.length : Int) < (e.2.2.1.length : Int)) := by omega
    have ht : (ones d e).take e.2.2.1.length = ones d e := by rw [List.take_of_length_le (by omega)]
    have hlen : ((zero d e ++ ones d e).map told).length = d.1.length + d.2.2.1.length := by simp; omega
    have hj := l13Joined_is k ((zero d e ++ ones d e).map told) [32] (by omega) hk2 1048700 (fun x hx => by
      obtain ⟨p, hp, rfl⟩ := List.mem_map.1 hx
      have := told_len hd hf p hp
      simp [told]; omega) (by rw [hlen]; exact Nat.le_trans (Nat.mul_le_mul_right _ (show d.1.length + d.2.2.1.length ≤ 7 by omega)) (by decide))
    simp only [spec_l13Env.l2, br_dec, if_neg h2, ht, ← List.map_append, hj, bd_some, envT, he, cond_true]
    cases ((((zero d e ++ ones d e).map told).length : Int) == 0) <;> simp) (f := k) (by omega)
  simp only [List.take_zero, List.map_nil, List.append_nil] at h
  exact h

theorem l13Env_is (k : Nat) (hk : 4194304 < k) (hk2 : k ≤ 4611686018427387903) (d : DeclT) (hd : DSmall d) (e : EnvT) (hf : e.1 = true → Fine d e) : spec_l13Env k (d, e, ()) = some ((envT d e, ()), ((), (), ())) := by
  unfold spec_l13Env
  cases he : e.1 with
  | false => simp [he, envT]
  | true =>
    have hf := hf he
    have l0 := hf.l0
    have l2 := hf.l2
    have x1 := hf.e1
    have z0 : (zero d e).length = d.1.length := by simp [zero]; omega
    simp only [he, Bool.not_true, br_false]
    have h := iter_for (b := spec_l13Env.l0 k) (fun i => ((d.1, d.2.1, d.2.2.1, ()), (e.1, e.2.1, e.2.2.1, ()), ((zero d e).take i).map told, (i : Int), ())) e.2.1.length (r := some ((envT d e, ()), ((), (), ()))) (fun G i hi => by
      have hi2 : i < d.1.length := by omega
      have hi3 : i < (zero d e).length := by omega
      have h2 : ((i : Int) < (e.2.1.length : Int)) := by omega
      have h3 : (0 : Int) ≤ (i : Int) := by omega
      have s1 := hd.s0 d.1[i] (List.getElem_mem _)
      have hfi := hf.f1 e.2.1[i] (List.getElem_mem _)
      have s2 := ivT_len hfi
      have h4 : (((d.1[i].length + ([32] : List UInt8).length : Nat) : Int) ≤ maxInt64) := by simp [maxInt64]; omega
      have h5 : ((((d.1[i] ++ [32]).length + (ivT e.2.1[i]).length : Nat) : Int) ≤ maxInt64) := by simp [maxInt64]; omega
      have h6 : ((((zero d e).take i).map told).length + ([(d.1[i] ++ [32]) ++ ivT e.2.1[i]] : List (List UInt8)).length) * 16 ≤ maxBytes := by simp [maxBytes]; omega
      have eo : told (zero d e)[i] = (d.1[i] ++ [32]) ++ ivT e.2.1[i] := by simp [zero, told]
      simp only [spec_l13Env.l0, br_dec, if_pos h2, if_pos h3, Int.toNat_natCast, List.getElem?_eq_getElem hi, List.getElem?_eq_getElem hi2, bd_some, if_pos h4, l13Iv_is k (by omega) e.2.1[i] hfi, if_pos h5, if_pos h6]
      rw [wrap_succ (by omega), map_next told hi3, eo]) (fun G => by
      have h2 : ¬ ((e.2.1.length : Int) < (e.2.1.length : Int)) := by omega
      have ht : (zero d e).take e.2.1.length = zero d e := by rw [List.take_of_length_le (by omega)]
      simp only [spec_l13Env.l0, br_dec, if_neg h2, ht]
      exact l13Env_l2 k hk hk2 d hd e hf he) (f := k) (by omega)
    simp only [List.take_zero, List.map_nil, he] at h
    exact h

/-! ### The program -/

theorem named_is (k : Nat) (hk : 4194304 < k) (ns : Names) (l : List IvT) (hl : l.length ≤ 5) (hn : l.length ≤ ns.length) (hf : ∀ a ∈ l, IvFits a) : impl_named k (ns, l, ()) = some (((ns.zip (l.map ivT)).flatMap both, ()), ((), (), ())) := by
  have z0 : (ns.zip (l.map ivT)).length = l.length := by simp; omega
  have h := iter_for (b := impl_named.l0 k) (fun i => (ns, ((ns.zip (l.map ivT)).take i).flatMap both, l, (l.length : Int), (i : Int), ())) l.length (r := some (((ns.zip (l.map ivT)).flatMap both, ()), ((), (), ()))) (fun G i hi => by
    have hi2 : i < ns.length := by omega
    have hi3 : i < (ns.zip (l.map ivT)).length := by omega
    have h2 : ((i : Int) < (l.length : Int)) := by omega
    have h3 : (0 : Int) ≤ (i : Int) := by omega
    have hfi := hf l[i] (List.getElem_mem _)
    have i1 := itoa_len l[i].1 hfi.1.1 hfi.1.2
    have i2 := itoa_len l[i].2.1 hfi.2.1 hfi.2.2
    have h4 : (((itoa l[i].1).length + ([46, 46] : List UInt8).length : Nat) : Int) ≤ maxInt64 := by simp [maxInt64]; omega
    have h5 : (((itoa l[i].1 ++ [46, 46]).length + (itoa l[i].2.1).length : Nat) : Int) ≤ maxInt64 := by simp [maxInt64]; omega
    have hb : ∀ (z : List (List UInt8 × List UInt8)), (z.flatMap both).length = 2 * z.length := by
      intro z
      induction z with
      | nil => rfl
      | cons p r ih => simp [both] at ih ⊢; omega
    have h6 : ((((ns.zip (l.map ivT)).take i).flatMap both).length + ([ns[i], (itoa l[i].1 ++ [46, 46]) ++ itoa l[i].2.1] : List (List UInt8)).length) * 16 ≤ maxBytes := by
      rw [hb]; simp [maxBytes]; omega
    have eo : both (ns.zip (l.map ivT))[i] = [ns[i], (itoa l[i].1 ++ [46, 46]) ++ itoa l[i].2.1] := by simp [both, ivT]
    simp only [impl_named.l0, br_dec, if_pos h2, if_pos h3, Int.toNat_natCast, List.getElem?_eq_getElem hi, List.getElem?_eq_getElem hi2, bd_some, decimal_is k l[i].1 hfi.1.1 hfi.1.2, if_pos h4, decimal_is k l[i].2.1 hfi.2.1 hfi.2.2, if_pos h5, if_pos h6]
    rw [wrap_succ (by omega), flat_next both hi3, eo]) (fun G => by
    have h2 : ¬ ((l.length : Int) < (l.length : Int)) := by omega
    have ht : (ns.zip (l.map ivT)).take l.length = ns.zip (l.map ivT) := by rw [List.take_of_length_le (by omega)]
    simp only [impl_named.l0, br_dec, if_neg h2, ht]) (f := k) (by omega)
  unfold impl_named
  simp only [List.take_zero, List.flatMap_nil] at h
  exact h

theorem implEnvT_is (k : Nat) (hk : 4194304 < k) (hk2 : k ≤ 4611686018427387903) (d : DeclT) (hd : DSmall d) (e : EnvT) (hf : e.1 = true → Fine d e) : impl_Decl_envText k (d, e, ()) = some ((envT d e, ()), ((), (), ())) := by
  unfold impl_Decl_envText
  cases he : e.1 with
  | false => simp [he, envT]
  | true =>
    have hf := hf he
    have l0 := hf.l0
    have l2 := hf.l2
    have x1 := hf.e1
    have x2 := hf.e2
    have n1 := hd.n1
    have hb : ∀ (z : List (List UInt8 × List UInt8)), (z.flatMap both).length = 2 * z.length := by
      intro z
      induction z with
      | nil => rfl
      | cons p r ih => simp [both] at ih ⊢; omega
    have ew : IntKind.wrap .i64 ((d.1.length : Int) + (d.2.1.length : Int)) = ((d.1.length + d.2.1.length : Nat) : Int) := by rw [wrap_i64 (by omega) (by omega)]; omega
    have hnl : (namesOf d).length = d.1.length + d.2.1.length + d.2.2.1.length := by simp [namesOf]; omega
    have h2 : 0 ≤ ((d.1.length + d.2.1.length : Nat) : Int) ∧ ((d.1.length + d.2.1.length : Nat) : Int) ≤ ((namesOf d).length : Int) := by omega
    have es : subL (namesOf d) (d.1.length + d.2.1.length) ((namesOf d).length - (d.1.length + d.2.1.length)) = d.2.2.1.map (·.1) := by
      simp only [subL, namesOf]
      rw [List.drop_append_of_le_length (by simp), List.drop_of_length_le (by simp), List.nil_append, List.take_of_length_le (by simp; omega)]
    have z0 : (zero d e).length = d.1.length := by simp [zero]; omega
    have z1 : (ones d e).length = d.2.2.1.length := by simp [ones]; omega
    have nm1 := named_is k hk d.1 e.2.1 (by omega) (by omega) hf.f1
    have nm2 := named_is k hk (d.2.2.1.map (·.1)) e.2.2.1 (by omega) (by simp; omega) hf.f2
    have h3 : (((zero d e).flatMap both).length + ((ones d e).flatMap both).length) * 16 ≤ maxBytes := by rw [hb, hb]; simp only [maxBytes]; omega
    change impl_named k (d.1, e.2.1, ()) = some (((zero d e).flatMap both, ()), ((), (), ())) at nm1
    change impl_named k (d.2.2.1.map (·.1), e.2.2.1, ()) = some (((ones d e).flatMap both, ()), ((), (), ())) at nm2
    have hj := lbJoin_is k ((zero d e).flatMap both ++ (ones d e).flatMap both) [32] 1048576 (fun x hx => by
      rw [← List.flatMap_append] at hx
      obtain ⟨p, hp, hx⟩ := List.mem_flatMap.1 hx
      have := told_len hd hf p hp
      simp only [both, List.mem_cons, List.not_mem_nil, or_false] at hx
      rcases hx with rfl | rfl <;> omega) (by rw [List.length_append, hb, hb]; omega) (by rw [List.length_append, hb, hb]; exact Nat.le_trans (Nat.mul_le_mul_right _ (show 2 * (zero d e).length + 2 * (ones d e).length ≤ 14 by omega)) (by decide))
    have el : ((((zero d e).flatMap both ++ (ones d e).flatMap both).length : Int) == 0) = ((((zero d e ++ ones d e).map told).length : Int) == 0) := by
      rw [Bool.eq_iff_iff, beq_iff_eq, beq_iff_eq, List.length_append, hb, hb, List.length_map, List.length_append]; omega
    have ej : join ((zero d e).flatMap both ++ (ones d e).flatMap both) [32] = join ((zero d e ++ ones d e).map told) [32] := by
      rw [← List.flatMap_append]; exact join_pairs [32] _
    simp only [he, Bool.not_true, br_false, names_is k hk hk2 d hd, bd_some, nm1, br_dec, ew, if_pos h2, Int.toNat_natCast, es, nm2, if_pos h3, hj, el, ej, envT, cond_true]
    cases ((((zero d e ++ ones d e).map told).length : Int) == 0) <;> simp
end Go.Pev.F
end

section
/-
  Sizes, copies and comparisons of plain data, in general.
-/
set_option linter.unusedVariables false
set_option linter.unusedSimpArgs false
namespace Go.Pev

/-- What a guard of 2^20 things grants. -/
def Kd.Small : (k : Kd) → k.T → Prop
  | .str, s => s.length ≤ 1048576
  | .sl _ e, l => l.length ≤ 1048576 ∧ ∀ x ∈ l, e.Small x
  | .cons a b, x => a.Small x.1 ∧ b.Small x.2
  | _, _ => True

/-- A size's loop. -/
theorem sz_loop {A α β : Type} {b : (A → Option ((Int × Unit) × β)) → A → Option ((Int × Unit) × β)} (st : Nat → Int → A) (l : List α) (P : α → Prop) {o : β}
    (h : ∀ G i (hi : i < l.length) (left : Int), 0 ≤ left → left ≤ 1048576 → ∃ r : Int, b G (st i left) = (if r < 0 then some ((-1, ()), o) else G (st (i + 1) r)) ∧ (0 ≤ r → r ≤ left ∧ P l[i]))
    (he : ∀ G left, b G (st l.length left) = some ((left, ()), o)) {f : Nat} (hf : l.length < f) (left : Int) (h0 : 0 ≤ left) (h1 : left ≤ 1048576) :
    ∃ r : Int, iter b f (st 0 left) = some ((r, ()), o) ∧ (0 ≤ r → r ≤ left ∧ ∀ x ∈ l, P x) := by
  have key : ∀ (n i f : Nat) (left : Int), i + n = l.length → n < f → 0 ≤ left → left ≤ 1048576 → ∃ r : Int, iter b f (st i left) = some ((r, ()), o) ∧ (0 ≤ r → r ≤ left ∧ ∀ j (hj : j < l.length), i ≤ j → P l[j]) := by
    intro n
    induction n with
    | zero =>
      intro i f left hi hf h0 h1
      obtain ⟨f, rfl⟩ : ∃ g, f = g + 1 := ⟨f - 1, by omega⟩
      obtain rfl : i = l.length := by omega
      exact ⟨left, by rw [iter_succ, he], fun _ => ⟨Int.le_refl _, fun j hj h => by omega⟩⟩
    | succ n ih =>
      intro i f left hi hf h0 h1
      obtain ⟨f, rfl⟩ : ∃ g, f = g + 1 := ⟨f - 1, by omega⟩
      have hi' : i < l.length := by omega
      obtain ⟨r1, e1, p1⟩ := h (iter b f) i hi' left h0 h1
      by_cases hr : r1 < 0
      · exact ⟨-1, by rw [iter_succ, e1, if_pos hr], fun h => by omega⟩
      · obtain ⟨q1, q2⟩ := p1 (by omega)
        obtain ⟨r, h4, h5⟩ := ih (i + 1) f r1 (by omega) (by omega) (by omega) (by omega)
        refine ⟨r, by rw [iter_succ, e1, if_neg hr, h4], fun h => ?_⟩
        obtain ⟨h6, h7⟩ := h5 h
        refine ⟨by omega, fun j hj hij => ?_⟩
        by_cases e : j = i
        · subst e; exact q2
        · exact h7 j hj (by omega)
  obtain ⟨r, h2, h3⟩ := key l.length 0 f left (by omega) hf h0 h1
  refine ⟨r, h2, fun hr => ?_⟩
  obtain ⟨h4, h5⟩ := h3 hr
  refine ⟨h4, fun x hx => ?_⟩
  obtain ⟨j, hj, rfl⟩ := List.mem_iff_getElem.1 hx
  exact h5 j hj (by omega)

/-- A copy's loop. -/
theorem to_loop {A α β : Type} {b : (A → Option ((List α × Unit) × β)) → A → Option ((List α × Unit) × β)} (st : Nat → List α → A) (a : List α) (z : α) {o : β}
    (h : ∀ G i (hi : i < a.length) (out : List α), out.length = a.length → out[i]? = some z → b G (st i out) = G (st (i + 1) (out.set i a[i])))
    (he : ∀ G out, b G (st a.length out) = some ((out, ()), o)) {f : Nat} (hf : a.length < f) : iter b f (st 0 (List.replicate a.length z)) = some ((a, ()), o) := by
  have key := iter_for (b := b) (fun i => st i (a.take i ++ List.replicate (a.length - i) z)) a.length (r := some ((a, ()), o)) (fun G i hi => by
    rw [h G i hi _ (by simp; omega) (get_next a z hi), set_next a z hi]) (fun G => by
    rw [he]; simp) hf
  simpa using key
end Go.Pev
end

section
/-
  Printed by copies.py: sizes, copies and comparisons of the statements' data.
-/
set_option linter.unusedVariables false
set_option linter.unusedSimpArgs false
namespace Go.Pev.F.Cp

theorem szStringS_is (k : Nat) (hk : 1048576 < k) (a : (List (List UInt8))) (hw : Kd.WF (.sl false .str) a) (left : Int) (h0 : 0 ≤ left) (h1 : left ≤ 1048576) :
    ∃ r : Int, laws_szStringS k (a, left, ()) = some ((r, ()), ((), (), ())) ∧ (0 ≤ r → r ≤ left ∧ Kd.Small (.sl false .str) a) := by
  obtain ⟨w0, w1⟩ := hw
  have w0 : a.length ≤ 140737488351232 := w0
  unfold laws_szStringS
  simp only [br_dec]
  rw [wrap_i64 (n := left - (a.length : Int)) (by omega) (by omega)]
  by_cases hc : left - (a.length : Int) < 0
  · rw [if_pos hc]; exact ⟨-1, rfl, fun h => by omega⟩
  rw [if_neg hc]
  obtain ⟨r, e, p⟩ := sz_loop (b := laws_szStringS.l0 k) (fun i left => (a, left, (i : Int), ())) a (Kd.Small .str) (o := ((), (), ())) (fun G i hi left h0 h1 => by
    have h2 : ((i : Int) < (a.length : Int)) := by omega
    have h3 : (0 : Int) ≤ (i : Int) := by omega
    have hl : a[i].length ≤ 140737488351232 := w1 _ (List.getElem_mem hi)
    refine ⟨left - (a[i].length : Int), ?_, fun h => ⟨by omega, by show a[i].length ≤ 1048576; omega⟩⟩
    simp only [laws_szStringS.l0, br_dec, if_pos h2, if_pos h3, Int.toNat_natCast, List.getElem?_eq_getElem hi, bd_some]
    rw [wrap_i64 (n := left - (a[i].length : Int)) (by omega) (by omega), wrap_succ (by omega)]) (fun G left => by
    have h2 : ¬ ((a.length : Int) < (a.length : Int)) := by omega
    simp only [laws_szStringS.l0, br_dec, if_neg h2]) (f := k) (by omega) (left - (a.length : Int)) (by omega) (by omega)
  refine ⟨r, e, fun hr => ?_⟩
  obtain ⟨q1, q2⟩ := p hr
  exact ⟨by omega, by show a.length ≤ 1048576; omega, q2⟩

theorem szArr_is (k : Nat) (hk : 1048576 < k) (a : ((List UInt8) × Int × Unit)) (hw : Kd.WF (.cons .str (.cons (.int .i64) .nil)) a) (left : Int) (h0 : 0 ≤ left) (h1 : left ≤ 1048576) :
    ∃ r : Int, laws_szArr k (a, left, ()) = some ((r, ()), ((), (), ())) ∧ (0 ≤ r → r ≤ left ∧ Kd.Small (.cons .str (.cons (.int .i64) .nil)) a) := by
  obtain ⟨w0, w1, _⟩ := hw
  unfold laws_szArr
  simp only [br_dec]
  have g1 : a.1.length ≤ 140737488351232 := w0
  obtain ⟨r1, d1⟩ : ∃ z : Int, z = left - (a.1.length : Int) := ⟨_, rfl⟩
  rw [← d1, wrap_i64 (n := r1) (by omega) (by omega)]
  by_cases c1 : r1 < 0
  · rw [if_pos c1]; exact ⟨-1, rfl, fun h => by omega⟩
  rw [if_neg c1]
  have s1 : a.1.length ≤ 1048576 := by omega
  exact ⟨r1, rfl, fun h => ⟨by omega, ⟨s1, trivial, trivial⟩⟩⟩

theorem szArrS_is (k : Nat) (hk : 1048576 < k) (a : (List ((List UInt8) × Int × Unit))) (hw : Kd.WF (.sl false (.cons .str (.cons (.int .i64) .nil))) a) (left : Int) (h0 : 0 ≤ left) (h1 : left ≤ 1048576) :
    ∃ r : Int, laws_szArrS k (a, left, ()) = some ((r, ()), ((), (), ())) ∧ (0 ≤ r → r ≤ left ∧ Kd.Small (.sl false (.cons .str (.cons (.int .i64) .nil))) a) := by
  obtain ⟨w0, w1⟩ := hw
  have w0 : a.length ≤ 140737488351232 := w0
  unfold laws_szArrS
  simp only [br_dec]
  rw [wrap_i64 (n := left - (a.length : Int)) (by omega) (by omega)]
  by_cases hc : left - (a.length : Int) < 0
  · rw [if_pos hc]; exact ⟨-1, rfl, fun h => by omega⟩
  rw [if_neg hc]
  obtain ⟨r, e, p⟩ := sz_loop (b := laws_szArrS.l0 k) (fun i left => (a, left, (i : Int), ())) a (Kd.Small (.cons .str (.cons (.int .i64) .nil))) (o := ((), (), ())) (fun G i hi left h0 h1 => by
    have h2 : ((i : Int) < (a.length : Int)) := by omega
    have h3 : (0 : Int) ≤ (i : Int) := by omega
    obtain ⟨r1, e1, p1⟩ := szArr_is k hk a[i] (w1 _ (List.getElem_mem hi)) left h0 h1
    refine ⟨r1, ?_, p1⟩
    simp only [laws_szArrS.l0, br_dec, if_pos h2, if_pos h3, Int.toNat_natCast, List.getElem?_eq_getElem hi, bd_some, e1]
    rw [wrap_succ (by omega)]) (fun G left => by
    have h2 : ¬ ((a.length : Int) < (a.length : Int)) := by omega
    simp only [laws_szArrS.l0, br_dec, if_neg h2]) (f := k) (by omega) (left - (a.length : Int)) (by omega) (by omega)
  refine ⟨r, e, fun hr => ?_⟩
  obtain ⟨q1, q2⟩ := p hr
  exact ⟨by omega, by show a.length ≤ 1048576; omega, q2⟩

theorem szDecl_is (k : Nat) (hk : 1048576 < k) (a : ((List (List UInt8)) × (List (List UInt8)) × (List ((List UInt8) × Int × Unit)) × Unit)) (hw : Kd.WF (.cons (.sl false .str) (.cons (.sl false .str) (.cons (.sl false (.cons .str (.cons (.int .i64) .nil))) .nil))) a) (left : Int) (h0 : 0 ≤ left) (h1 : left ≤ 1048576) :
    ∃ r : Int, laws_szDecl k (a, left, ()) = some ((r, ()), ((), (), ())) ∧ (0 ≤ r → r ≤ left ∧ Kd.Small (.cons (.sl false .str) (.cons (.sl false .str) (.cons (.sl false (.cons .str (.cons (.int .i64) .nil))) .nil))) a) := by
  obtain ⟨w0, w1, w2, _⟩ := hw
  unfold laws_szDecl
  simp only [br_dec]
  obtain ⟨r1, e1, p1⟩ := szStringS_is k hk a.1 w0 left (by omega) (by omega)
  simp only [e1, bd_some]
  by_cases c1 : r1 < 0
  · rw [if_pos c1]; exact ⟨-1, rfl, fun h => by omega⟩
  rw [if_neg c1]
  obtain ⟨q1, s1⟩ := p1 (by omega)
  obtain ⟨r2, e2, p2⟩ := szStringS_is k hk a.2.1 w1 r1 (by omega) (by omega)
  simp only [e2, bd_some]
  by_cases c2 : r2 < 0
  · rw [if_pos c2]; exact ⟨-1, rfl, fun h => by omega⟩
  rw [if_neg c2]
  obtain ⟨q2, s2⟩ := p2 (by omega)
  obtain ⟨r3, e3, p3⟩ := szArrS_is k hk a.2.2.1 w2 r2 (by omega) (by omega)
  simp only [e3, bd_some]
  by_cases c3 : r3 < 0
  · rw [if_pos c3]; exact ⟨-1, rfl, fun h => by omega⟩
  rw [if_neg c3]
  obtain ⟨q3, s3⟩ := p3 (by omega)
  exact ⟨r3, rfl, fun h => ⟨by omega, ⟨s1, s2, s3, trivial⟩⟩⟩

theorem szIntervalS_is (k : Nat) (hk : 1048576 < k) (a : (List (Int × Int × Unit))) (hw : Kd.WF (.sl false (.cons (.int .i64) (.cons (.int .i64) .nil))) a) (left : Int) (h0 : 0 ≤ left) (h1 : left ≤ 1048576) :
    ∃ r : Int, laws_szIntervalS k (a, left, ()) = some ((r, ()), ((), (), ())) ∧ (0 ≤ r → r ≤ left ∧ Kd.Small (.sl false (.cons (.int .i64) (.cons (.int .i64) .nil))) a) := by
  obtain ⟨w0, w1⟩ := hw
  have w0 : a.length ≤ 140737488351232 := w0
  unfold laws_szIntervalS
  simp only [br_dec]
  rw [wrap_i64 (n := left - (a.length : Int)) (by omega) (by omega)]
  by_cases hc : left - (a.length : Int) < 0
  · rw [if_pos hc]; exact ⟨-1, rfl, fun h => by omega⟩
  rw [if_neg hc]
  exact ⟨_, rfl, fun h => ⟨by omega, by show a.length ≤ 1048576; omega, fun x hx => ⟨trivial, trivial, trivial⟩⟩⟩

theorem szEnv_is (k : Nat) (hk : 1048576 < k) (a : (Bool × (List (Int × Int × Unit)) × (List (Int × Int × Unit)) × Unit)) (hw : Kd.WF (.cons .bool (.cons (.sl false (.cons (.int .i64) (.cons (.int .i64) .nil))) (.cons (.sl false (.cons (.int .i64) (.cons (.int .i64) .nil))) .nil))) a) (left : Int) (h0 : 0 ≤ left) (h1 : left ≤ 1048576) :
    ∃ r : Int, laws_szEnv k (a, left, ()) = some ((r, ()), ((), (), ())) ∧ (0 ≤ r → r ≤ left ∧ Kd.Small (.cons .bool (.cons (.sl false (.cons (.int .i64) (.cons (.int .i64) .nil))) (.cons (.sl false (.cons (.int .i64) (.cons (.int .i64) .nil))) .nil))) a) := by
  obtain ⟨w0, w1, w2, _⟩ := hw
  unfold laws_szEnv
  simp only [br_dec]
  obtain ⟨r1, e1, p1⟩ := szIntervalS_is k hk a.2.1 w1 left (by omega) (by omega)
  simp only [e1, bd_some]
  by_cases c1 : r1 < 0
  · rw [if_pos c1]; exact ⟨-1, rfl, fun h => by omega⟩
  rw [if_neg c1]
  obtain ⟨q1, s1⟩ := p1 (by omega)
  obtain ⟨r2, e2, p2⟩ := szIntervalS_is k hk a.2.2.1 w2 r1 (by omega) (by omega)
  simp only [e2, bd_some]
  by_cases c2 : r2 < 0
  · rw [if_pos c2]; exact ⟨-1, rfl, fun h => by omega⟩
  rw [if_neg c2]
  obtain ⟨q2, s2⟩ := p2 (by omega)
  exact ⟨r2, rfl, fun h => ⟨by omega, ⟨trivial, s1, s2, trivial⟩⟩⟩

theorem szNode_is (k : Nat) (hk : 1048576 < k) (a : (Int × Int × Int × Bool × (List (Int × Int × Unit)) × (List (Int × Int × Unit)) × Unit)) (hw : Kd.WF (.cons (.int .i64) (.cons (.int .i64) (.cons (.int .i64) (.cons .bool (.cons (.sl false (.cons (.int .i64) (.cons (.int .i64) .nil))) (.cons (.sl false (.cons (.int .i64) (.cons (.int .i64) .nil))) .nil)))))) a) (left : Int) (h0 : 0 ≤ left) (h1 : left ≤ 1048576) :
    ∃ r : Int, laws_szNode k (a, left, ()) = some ((r, ()), ((), (), ())) ∧ (0 ≤ r → r ≤ left ∧ Kd.Small (.cons (.int .i64) (.cons (.int .i64) (.cons (.int .i64) (.cons .bool (.cons (.sl false (.cons (.int .i64) (.cons (.int .i64) .nil))) (.cons (.sl false (.cons (.int .i64) (.cons (.int .i64) .nil))) .nil)))))) a) := by
  obtain ⟨w0, w1, w2, w3, w4, w5, _⟩ := hw
  unfold laws_szNode
  simp only [br_dec]
  obtain ⟨r1, e1, p1⟩ := szEnv_is k hk (a.2.2.2.1, a.2.2.2.2.1, a.2.2.2.2.2.1, ()) ⟨w3, w4, w5, trivial⟩ left (by omega) (by omega)
  simp only [e1, bd_some]
  by_cases c1 : r1 < 0
  · rw [if_pos c1]; exact ⟨-1, rfl, fun h => by omega⟩
  rw [if_neg c1]
  obtain ⟨q1, s1⟩ := p1 (by omega)
  obtain ⟨S3, S4, S5, _⟩ := s1
  exact ⟨r1, rfl, fun h => ⟨by omega, ⟨trivial, trivial, trivial, S3, S4, S5, trivial⟩⟩⟩

theorem szNodeS_is (k : Nat) (hk : 1048576 < k) (a : (List (Int × Int × Int × Bool × (List (Int × Int × Unit)) × (List (Int × Int × Unit)) × Unit))) (hw : Kd.WF (.sl false (.cons (.int .i64) (.cons (.int .i64) (.cons (.int .i64) (.cons .bool (.cons (.sl false (.cons (.int .i64) (.cons (.int .i64) .nil))) (.cons (.sl false (.cons (.int .i64) (.cons (.int .i64) .nil))) .nil))))))) a) (left : Int) (h0 : 0 ≤ left) (h1 : left ≤ 1048576) :
    ∃ r : Int, laws_szNodeS k (a, left, ()) = some ((r, ()), ((), (), ())) ∧ (0 ≤ r → r ≤ left ∧ Kd.Small (.sl false (.cons (.int .i64) (.cons (.int .i64) (.cons (.int .i64) (.cons .bool (.cons (.sl false (.cons (.int .i64) (.cons (.int .i64) .nil))) (.cons (.sl false (.cons (.int .i64) (.cons (.int .i64) .nil))) .nil))))))) a) := by
  obtain ⟨w0, w1⟩ := hw
  have w0 : a.length ≤ 140737488351232 := w0
  unfold laws_szNodeS
  simp only [br_dec]
  rw [wrap_i64 (n := left - (a.length : Int)) (by omega) (by omega)]
  by_cases hc : left - (a.length : Int) < 0
  · rw [if_pos hc]; exact ⟨-1, rfl, fun h => by omega⟩
  rw [if_neg hc]
  obtain ⟨r, e, p⟩ := sz_loop (b := laws_szNodeS.l0 k) (fun i left => (a, left, (i : Int), ())) a (Kd.Small (.cons (.int .i64) (.cons (.int .i64) (.cons (.int .i64) (.cons .bool (.cons (.sl false (.cons (.int .i64) (.cons (.int .i64) .nil))) (.cons (.sl false (.cons (.int .i64) (.cons (.int .i64) .nil))) .nil))))))) (o := ((), (), ())) (fun G i hi left h0 h1 => by
    have h2 : ((i : Int) < (a.length : Int)) := by omega
    have h3 : (0 : Int) ≤ (i : Int) := by omega
    obtain ⟨r1, e1, p1⟩ := szNode_is k hk a[i] (w1 _ (List.getElem_mem hi)) left h0 h1
    refine ⟨r1, ?_, p1⟩
    simp only [laws_szNodeS.l0, br_dec, if_pos h2, if_pos h3, Int.toNat_natCast, List.getElem?_eq_getElem hi, bd_some, e1]
    rw [wrap_succ (by omega)]) (fun G left => by
    have h2 : ¬ ((a.length : Int) < (a.length : Int)) := by omega
    simp only [laws_szNodeS.l0, br_dec, if_neg h2]) (f := k) (by omega) (left - (a.length : Int)) (by omega) (by omega)
  refine ⟨r, e, fun hr => ?_⟩
  obtain ⟨q1, q2⟩ := p hr
  exact ⟨by omega, by show a.length ≤ 1048576; omega, q2⟩

theorem szTree_is (k : Nat) (hk : 1048576 < k) (a : ((List (Int × Int × Int × Bool × (List (Int × Int × Unit)) × (List (Int × Int × Unit)) × Unit)) × Unit)) (hw : Kd.WF (.cons (.sl false (.cons (.int .i64) (.cons (.int .i64) (.cons (.int .i64) (.cons .bool (.cons (.sl false (.cons (.int .i64) (.cons (.int .i64) .nil))) (.cons (.sl false (.cons (.int .i64) (.cons (.int .i64) .nil))) .nil))))))) .nil) a) (left : Int) (h0 : 0 ≤ left) (h1 : left ≤ 1048576) :
    ∃ r : Int, laws_szTree k (a, left, ()) = some ((r, ()), ((), (), ())) ∧ (0 ≤ r → r ≤ left ∧ Kd.Small (.cons (.sl false (.cons (.int .i64) (.cons (.int .i64) (.cons (.int .i64) (.cons .bool (.cons (.sl false (.cons (.int .i64) (.cons (.int .i64) .nil))) (.cons (.sl false (.cons (.int .i64) (.cons (.int .i64) .nil))) .nil))))))) .nil) a) := by
  obtain ⟨w0, _⟩ := hw
  unfold laws_szTree
  simp only [br_dec]
  obtain ⟨r1, e1, p1⟩ := szNodeS_is k hk a.1 w0 left (by omega) (by omega)
  simp only [e1, bd_some]
  by_cases c1 : r1 < 0
  · rw [if_pos c1]; exact ⟨-1, rfl, fun h => by omega⟩
  rw [if_neg c1]
  obtain ⟨q1, s1⟩ := p1 (by omega)
  exact ⟨r1, rfl, fun h => ⟨by omega, ⟨s1, trivial⟩⟩⟩

theorem toStringS_is (k : Nat) (hk : 1048576 < k) (a : (List (List UInt8))) (h : Kd.Small (.sl false .str) a) : laws_toStringS k (a, ()) = some ((a, ()), ((), ())) := by
  obtain ⟨h0, h1⟩ := h
  have h0 : a.length ≤ 1048576 := h0
  unfold laws_toStringS
  have hm : 0 ≤ (a.length : Int) ∧ (a.length : Int) ≤ (a.length : Int) ∧ (a.length : Int) * 16 ≤ maxBytes := by simp [maxBytes]; omega
  simp only [br_dec, if_pos hm, Int.toNat_natCast]
  generalize hz : (Kd.z .str : (List UInt8)) = z
  exact to_loop (b := laws_toStringS.l0 k) (fun i out => (a, out, (i : Int), ())) a z (fun G i hi out ho hg => by
    have h2 : ((i : Int) < (a.length : Int)) := by omega
    have h3 : (0 : Int) ≤ (i : Int) := by omega
    have h4 : 0 ≤ (i : Int) ∧ (i : Int) < (out.length : Int) := by omega
    simp only [laws_toStringS.l0, br_dec, if_pos h2, if_pos h3, if_pos h4, Int.toNat_natCast, List.getElem?_eq_getElem hi, hg, bd_some]
    rw [wrap_succ (by omega)]) (fun G out => by
    have h2 : ¬ ((a.length : Int) < (a.length : Int)) := by omega
    simp only [laws_toStringS.l0, br_dec, if_neg h2]) (by omega)

theorem toArr_is (k : Nat) (hk : 1048576 < k) (a : ((List UInt8) × Int × Unit)) (h : Kd.Small (.cons .str (.cons (.int .i64) .nil)) a) : laws_toArr k (a, ()) = some ((a, ()), ((), ())) := by
  rfl

theorem toArrS_is (k : Nat) (hk : 1048576 < k) (a : (List ((List UInt8) × Int × Unit))) (h : Kd.Small (.sl false (.cons .str (.cons (.int .i64) .nil))) a) : laws_toArrS k (a, ()) = some ((a, ()), ((), ())) := by
  obtain ⟨h0, h1⟩ := h
  have h0 : a.length ≤ 1048576 := h0
  unfold laws_toArrS
  have hm : 0 ≤ (a.length : Int) ∧ (a.length : Int) ≤ (a.length : Int) ∧ (a.length : Int) * 24 ≤ maxBytes := by simp [maxBytes]; omega
  simp only [br_dec, if_pos hm, Int.toNat_natCast]
  generalize hz : (Kd.z (.cons .str (.cons (.int .i64) .nil)) : ((List UInt8) × Int × Unit)) = z
  exact to_loop (b := laws_toArrS.l0 k) (fun i out => (a, out, (i : Int), ())) a z (fun G i hi out ho hg => by
    have h2 : ((i : Int) < (a.length : Int)) := by omega
    have h3 : (0 : Int) ≤ (i : Int) := by omega
    have h4 : 0 ≤ (i : Int) ∧ (i : Int) < (out.length : Int) := by omega
    simp only [laws_toArrS.l0, br_dec, if_pos h2, if_pos h3, if_pos h4, Int.toNat_natCast, List.getElem?_eq_getElem hi, hg, bd_some, toArr_is k hk a[i] (h1 _ (List.getElem_mem hi))]
    rw [wrap_succ (by omega)]) (fun G out => by
    have h2 : ¬ ((a.length : Int) < (a.length : Int)) := by omega
    simp only [laws_toArrS.l0, br_dec, if_neg h2]) (by omega)

theorem toDecl_is (k : Nat) (hk : 1048576 < k) (a : ((List (List UInt8)) × (List (List UInt8)) × (List ((List UInt8) × Int × Unit)) × Unit)) (h : Kd.Small (.cons (.sl false .str) (.cons (.sl false .str) (.cons (.sl false (.cons .str (.cons (.int .i64) .nil))) .nil))) a) : laws_toDecl k (a, ()) = some ((a, ()), ((), ())) := by
  obtain ⟨h0, h1, h2, _⟩ := h
  unfold laws_toDecl
  simp only [toStringS_is k hk a.1 h0, toStringS_is k hk a.2.1 h1, toArrS_is k hk a.2.2.1 h2, bd_some]

theorem toInterval_is (k : Nat) (hk : 1048576 < k) (a : (Int × Int × Unit)) (h : Kd.Small (.cons (.int .i64) (.cons (.int .i64) .nil)) a) : laws_toInterval k (a, ()) = some ((a, ()), ((), ())) := by
  rfl

theorem toIntervalS_is (k : Nat) (hk : 1048576 < k) (a : (List (Int × Int × Unit))) (h : Kd.Small (.sl false (.cons (.int .i64) (.cons (.int .i64) .nil))) a) : laws_toIntervalS k (a, ()) = some ((a, ()), ((), ())) := by
  obtain ⟨h0, h1⟩ := h
  have h0 : a.length ≤ 1048576 := h0
  unfold laws_toIntervalS
  have hm : 0 ≤ (a.length : Int) ∧ (a.length : Int) ≤ (a.length : Int) ∧ (a.length : Int) * 16 ≤ maxBytes := by simp [maxBytes]; omega
  simp only [br_dec, if_pos hm, Int.toNat_natCast]
  generalize hz : (Kd.z (.cons (.int .i64) (.cons (.int .i64) .nil)) : (Int × Int × Unit)) = z
  exact to_loop (b := laws_toIntervalS.l0 k) (fun i out => (a, out, (i : Int), ())) a z (fun G i hi out ho hg => by
    have h2 : ((i : Int) < (a.length : Int)) := by omega
    have h3 : (0 : Int) ≤ (i : Int) := by omega
    have h4 : 0 ≤ (i : Int) ∧ (i : Int) < (out.length : Int) := by omega
    simp only [laws_toIntervalS.l0, br_dec, if_pos h2, if_pos h3, if_pos h4, Int.toNat_natCast, List.getElem?_eq_getElem hi, hg, bd_some, toInterval_is k hk a[i] (h1 _ (List.getElem_mem hi))]
    rw [wrap_succ (by omega)]) (fun G out => by
    have h2 : ¬ ((a.length : Int) < (a.length : Int)) := by omega
    simp only [laws_toIntervalS.l0, br_dec, if_neg h2]) (by omega)

theorem toEnv_is (k : Nat) (hk : 1048576 < k) (a : (Bool × (List (Int × Int × Unit)) × (List (Int × Int × Unit)) × Unit)) (h : Kd.Small (.cons .bool (.cons (.sl false (.cons (.int .i64) (.cons (.int .i64) .nil))) (.cons (.sl false (.cons (.int .i64) (.cons (.int .i64) .nil))) .nil))) a) : laws_toEnv k (a, ()) = some ((a, ()), ((), ())) := by
  obtain ⟨h0, h1, h2, _⟩ := h
  unfold laws_toEnv
  simp only [toIntervalS_is k hk a.2.1 h1, toIntervalS_is k hk a.2.2.1 h2, bd_some]

theorem toNode_is (k : Nat) (hk : 1048576 < k) (a : (Int × Int × Int × Bool × (List (Int × Int × Unit)) × (List (Int × Int × Unit)) × Unit)) (h : Kd.Small (.cons (.int .i64) (.cons (.int .i64) (.cons (.int .i64) (.cons .bool (.cons (.sl false (.cons (.int .i64) (.cons (.int .i64) .nil))) (.cons (.sl false (.cons (.int .i64) (.cons (.int .i64) .nil))) .nil)))))) a) : laws_toNode k (a, ()) = some ((a, ()), ((), ())) := by
  obtain ⟨h0, h1, h2, h3, h4, h5, _⟩ := h
  unfold laws_toNode
  simp only [toEnv_is k hk (a.2.2.2.1, a.2.2.2.2.1, a.2.2.2.2.2.1, ()) ⟨h3, h4, h5, trivial⟩, bd_some]

theorem toNodeS_is (k : Nat) (hk : 1048576 < k) (a : (List (Int × Int × Int × Bool × (List (Int × Int × Unit)) × (List (Int × Int × Unit)) × Unit))) (h : Kd.Small (.sl false (.cons (.int .i64) (.cons (.int .i64) (.cons (.int .i64) (.cons .bool (.cons (.sl false (.cons (.int .i64) (.cons (.int .i64) .nil))) (.cons (.sl false (.cons (.int .i64) (.cons (.int .i64) .nil))) .nil))))))) a) : laws_toNodeS k (a, ()) = some ((a, ()), ((), ())) := by
  obtain ⟨h0, h1⟩ := h
  have h0 : a.length ≤ 1048576 := h0
  unfold laws_toNodeS
  have hm : 0 ≤ (a.length : Int) ∧ (a.length : Int) ≤ (a.length : Int) ∧ (a.length : Int) * 80 ≤ maxBytes := by simp [maxBytes]; omega
  simp only [br_dec, if_pos hm, Int.toNat_natCast]
  generalize hz : (Kd.z (.cons (.int .i64) (.cons (.int .i64) (.cons (.int .i64) (.cons .bool (.cons (.sl false (.cons (.int .i64) (.cons (.int .i64) .nil))) (.cons (.sl false (.cons (.int .i64) (.cons (.int .i64) .nil))) .nil)))))) : (Int × Int × Int × Bool × (List (Int × Int × Unit)) × (List (Int × Int × Unit)) × Unit)) = z
  exact to_loop (b := laws_toNodeS.l0 k) (fun i out => (a, out, (i : Int), ())) a z (fun G i hi out ho hg => by
    have h2 : ((i : Int) < (a.length : Int)) := by omega
    have h3 : (0 : Int) ≤ (i : Int) := by omega
    have h4 : 0 ≤ (i : Int) ∧ (i : Int) < (out.length : Int) := by omega
    simp only [laws_toNodeS.l0, br_dec, if_pos h2, if_pos h3, if_pos h4, Int.toNat_natCast, List.getElem?_eq_getElem hi, hg, bd_some, toNode_is k hk a[i] (h1 _ (List.getElem_mem hi))]
    rw [wrap_succ (by omega)]) (fun G out => by
    have h2 : ¬ ((a.length : Int) < (a.length : Int)) := by omega
    simp only [laws_toNodeS.l0, br_dec, if_neg h2]) (by omega)

theorem toTree_is (k : Nat) (hk : 1048576 < k) (a : ((List (Int × Int × Int × Bool × (List (Int × Int × Unit)) × (List (Int × Int × Unit)) × Unit)) × Unit)) (h : Kd.Small (.cons (.sl false (.cons (.int .i64) (.cons (.int .i64) (.cons (.int .i64) (.cons .bool (.cons (.sl false (.cons (.int .i64) (.cons (.int .i64) .nil))) (.cons (.sl false (.cons (.int .i64) (.cons (.int .i64) .nil))) .nil))))))) .nil) a) : laws_toTree k (a, ()) = some ((a, ()), ((), ())) := by
  obtain ⟨h0, _⟩ := h
  unfold laws_toTree
  simp only [toNodeS_is k hk a.1 h0, bd_some]

theorem eqStringS_is (k : Nat) (hk : 1048576 < k) (a : (List (List UInt8))) (h : Kd.Small (.sl false .str) a) : laws_eqStringS k (a, a, ()) = some ((true, ()), ((), (), ())) := by
  obtain ⟨h0, h1⟩ := h
  have h0 : a.length ≤ 1048576 := h0
  unfold laws_eqStringS
  have hb : ((a.length : Int) != (a.length : Int)) = false := by simp
  simp only [hb, br_false]
  exact iter_for (b := laws_eqStringS.l0 k) (fun i => (a, a, (i : Int), ())) a.length (fun G i hi => by
    have h2 : ((i : Int) < (a.length : Int)) := by omega
    have h3 : (0 : Int) ≤ (i : Int) := by omega
    simp only [laws_eqStringS.l0, br_dec, if_pos h2, if_pos h3, Int.toNat_natCast, List.getElem?_eq_getElem hi, bd_some, bne_self_eq_false, BEq.rfl, Bool.not_true, br_false]
    rw [wrap_succ (by omega)]) (fun G => by
    have h2 : ¬ ((a.length : Int) < (a.length : Int)) := by omega
    simp only [laws_eqStringS.l0, br_dec, if_neg h2]) (by omega)

theorem eqArr_is (k : Nat) (hk : 1048576 < k) (a : ((List UInt8) × Int × Unit)) (h : Kd.Small (.cons .str (.cons (.int .i64) .nil)) a) : laws_eqArr k (a, a, ()) = some ((true, ()), ((), (), ())) := by
  obtain ⟨h0, h1, _⟩ := h
  unfold laws_eqArr
  simp only [bd_some, bne_self_eq_false, BEq.rfl, Bool.not_true, br_false]

theorem eqArrS_is (k : Nat) (hk : 1048576 < k) (a : (List ((List UInt8) × Int × Unit))) (h : Kd.Small (.sl false (.cons .str (.cons (.int .i64) .nil))) a) : laws_eqArrS k (a, a, ()) = some ((true, ()), ((), (), ())) := by
  obtain ⟨h0, h1⟩ := h
  have h0 : a.length ≤ 1048576 := h0
  unfold laws_eqArrS
  have hb : ((a.length : Int) != (a.length : Int)) = false := by simp
  simp only [hb, br_false]
  exact iter_for (b := laws_eqArrS.l0 k) (fun i => (a, a, (i : Int), ())) a.length (fun G i hi => by
    have h2 : ((i : Int) < (a.length : Int)) := by omega
    have h3 : (0 : Int) ≤ (i : Int) := by omega
    simp only [laws_eqArrS.l0, br_dec, if_pos h2, if_pos h3, Int.toNat_natCast, List.getElem?_eq_getElem hi, bd_some, bne_self_eq_false, BEq.rfl, Bool.not_true, br_false, eqArr_is k hk a[i] (h1 _ (List.getElem_mem hi))]
    rw [wrap_succ (by omega)]) (fun G => by
    have h2 : ¬ ((a.length : Int) < (a.length : Int)) := by omega
    simp only [laws_eqArrS.l0, br_dec, if_neg h2]) (by omega)

theorem eqDecl_is (k : Nat) (hk : 1048576 < k) (a : ((List (List UInt8)) × (List (List UInt8)) × (List ((List UInt8) × Int × Unit)) × Unit)) (h : Kd.Small (.cons (.sl false .str) (.cons (.sl false .str) (.cons (.sl false (.cons .str (.cons (.int .i64) .nil))) .nil))) a) : laws_eqDecl k (a, a, ()) = some ((true, ()), ((), (), ())) := by
  obtain ⟨h0, h1, h2, _⟩ := h
  unfold laws_eqDecl
  simp only [eqStringS_is k hk a.1 h0, eqStringS_is k hk a.2.1 h1, eqArrS_is k hk a.2.2.1 h2, bd_some, bne_self_eq_false, BEq.rfl, Bool.not_true, br_false]

theorem eqInterval_is (k : Nat) (hk : 1048576 < k) (a : (Int × Int × Unit)) (h : Kd.Small (.cons (.int .i64) (.cons (.int .i64) .nil)) a) : laws_eqInterval k (a, a, ()) = some ((true, ()), ((), (), ())) := by
  obtain ⟨h0, h1, _⟩ := h
  unfold laws_eqInterval
  simp only [bd_some, bne_self_eq_false, BEq.rfl, Bool.not_true, br_false]

theorem eqIntervalS_is (k : Nat) (hk : 1048576 < k) (a : (List (Int × Int × Unit))) (h : Kd.Small (.sl false (.cons (.int .i64) (.cons (.int .i64) .nil))) a) : laws_eqIntervalS k (a, a, ()) = some ((true, ()), ((), (), ())) := by
  obtain ⟨h0, h1⟩ := h
  have h0 : a.length ≤ 1048576 := h0
  unfold laws_eqIntervalS
  have hb : ((a.length : Int) != (a.length : Int)) = false := by simp
  simp only [hb, br_false]
  exact iter_for (b := laws_eqIntervalS.l0 k) (fun i => (a, a, (i : Int), ())) a.length (fun G i hi => by
    have h2 : ((i : Int) < (a.length : Int)) := by omega
    have h3 : (0 : Int) ≤ (i : Int) := by omega
    simp only [laws_eqIntervalS.l0, br_dec, if_pos h2, if_pos h3, Int.toNat_natCast, List.getElem?_eq_getElem hi, bd_some, bne_self_eq_false, BEq.rfl, Bool.not_true, br_false, eqInterval_is k hk a[i] (h1 _ (List.getElem_mem hi))]
    rw [wrap_succ (by omega)]) (fun G => by
    have h2 : ¬ ((a.length : Int) < (a.length : Int)) := by omega
    simp only [laws_eqIntervalS.l0, br_dec, if_neg h2]) (by omega)

theorem eqEnv_is (k : Nat) (hk : 1048576 < k) (a : (Bool × (List (Int × Int × Unit)) × (List (Int × Int × Unit)) × Unit)) (h : Kd.Small (.cons .bool (.cons (.sl false (.cons (.int .i64) (.cons (.int .i64) .nil))) (.cons (.sl false (.cons (.int .i64) (.cons (.int .i64) .nil))) .nil))) a) : laws_eqEnv k (a, a, ()) = some ((true, ()), ((), (), ())) := by
  obtain ⟨h0, h1, h2, _⟩ := h
  unfold laws_eqEnv
  simp only [eqIntervalS_is k hk a.2.1 h1, eqIntervalS_is k hk a.2.2.1 h2, bd_some, bne_self_eq_false, BEq.rfl, Bool.not_true, br_false]

theorem eqNode_is (k : Nat) (hk : 1048576 < k) (a : (Int × Int × Int × Bool × (List (Int × Int × Unit)) × (List (Int × Int × Unit)) × Unit)) (h : Kd.Small (.cons (.int .i64) (.cons (.int .i64) (.cons (.int .i64) (.cons .bool (.cons (.sl false (.cons (.int .i64) (.cons (.int .i64) .nil))) (.cons (.sl false (.cons (.int .i64) (.cons (.int .i64) .nil))) .nil)))))) a) : laws_eqNode k (a, a, ()) = some ((true, ()), ((), (), ())) := by
  obtain ⟨h0, h1, h2, h3, h4, h5, _⟩ := h
  unfold laws_eqNode
  simp only [eqEnv_is k hk (a.2.2.2.1, a.2.2.2.2.1, a.2.2.2.2.2.1, ()) ⟨h3, h4, h5, trivial⟩, bd_some, bne_self_eq_false, BEq.rfl, Bool.not_true, br_false]

theorem eqNodeS_is (k : Nat) (hk : 1048576 < k) (a : (List (Int × Int × Int × Bool × (List (Int × Int × Unit)) × (List (Int × Int × Unit)) × Unit))) (h : Kd.Small (.sl false (.cons (.int .i64) (.cons (.int .i64) (.cons (.int .i64) (.cons .bool (.cons (.sl false (.cons (.int .i64) (.cons (.int .i64) .nil))) (.cons (.sl false (.cons (.int .i64) (.cons (.int .i64) .nil))) .nil))))))) a) : laws_eqNodeS k (a, a, ()) = some ((true, ()), ((), (), ())) := by
  obtain ⟨h0, h1⟩ := h
  have h0 : a.length ≤ 1048576 := h0
  unfold laws_eqNodeS
  have hb : ((a.length : Int) != (a.length : Int)) = false := by simp
  simp only [hb, br_false]
  exact iter_for (b := laws_eqNodeS.l0 k) (fun i => (a, a, (i : Int), ())) a.length (fun G i hi => by
    have h2 : ((i : Int) < (a.length : Int)) := by omega
    have h3 : (0 : Int) ≤ (i : Int) := by omega
    simp only [laws_eqNodeS.l0, br_dec, if_pos h2, if_pos h3, Int.toNat_natCast, List.getElem?_eq_getElem hi, bd_some, bne_self_eq_false, BEq.rfl, Bool.not_true, br_false, eqNode_is k hk a[i] (h1 _ (List.getElem_mem hi))]
    rw [wrap_succ (by omega)]) (fun G => by
    have h2 : ¬ ((a.length : Int) < (a.length : Int)) := by omega
    simp only [laws_eqNodeS.l0, br_dec, if_neg h2]) (by omega)

theorem eqTree_is (k : Nat) (hk : 1048576 < k) (a : ((List (Int × Int × Int × Bool × (List (Int × Int × Unit)) × (List (Int × Int × Unit)) × Unit)) × Unit)) (h : Kd.Small (.cons (.sl false (.cons (.int .i64) (.cons (.int .i64) (.cons (.int .i64) (.cons .bool (.cons (.sl false (.cons (.int .i64) (.cons (.int .i64) .nil))) (.cons (.sl false (.cons (.int .i64) (.cons (.int .i64) .nil))) .nil))))))) .nil) a) : laws_eqTree k (a, a, ()) = some ((true, ()), ((), (), ())) := by
  obtain ⟨h0, _⟩ := h
  unfold laws_eqTree
  simp only [eqNodeS_is k hk a.1 h0, bd_some, bne_self_eq_false, BEq.rfl, Bool.not_true, br_false]

theorem szEntryS_is (k : Nat) (hk : 1048576 < k) (a : (List (Int × Int × Unit))) (hw : Kd.WF (.sl false (.cons (.int .i64) (.cons (.int .i64) .nil))) a) (left : Int) (h0 : 0 ≤ left) (h1 : left ≤ 1048576) :
    ∃ r : Int, laws_szEntryS k (a, left, ()) = some ((r, ()), ((), (), ())) ∧ (0 ≤ r → r ≤ left ∧ Kd.Small (.sl false (.cons (.int .i64) (.cons (.int .i64) .nil))) a) := by
  obtain ⟨w0, w1⟩ := hw
  have w0 : a.length ≤ 140737488351232 := w0
  unfold laws_szEntryS
  simp only [br_dec]
  rw [wrap_i64 (n := left - (a.length : Int)) (by omega) (by omega)]
  by_cases hc : left - (a.length : Int) < 0
  · rw [if_pos hc]; exact ⟨-1, rfl, fun h => by omega⟩
  rw [if_neg hc]
  exact ⟨_, rfl, fun h => ⟨by omega, by show a.length ≤ 1048576; omega, fun x hx => ⟨trivial, trivial, trivial⟩⟩⟩

theorem szEnvS_is (k : Nat) (hk : 1048576 < k) (a : (List (Bool × (List (Int × Int × Unit)) × (List (Int × Int × Unit)) × Unit))) (hw : Kd.WF (.sl false (.cons .bool (.cons (.sl false (.cons (.int .i64) (.cons (.int .i64) .nil))) (.cons (.sl false (.cons (.int .i64) (.cons (.int .i64) .nil))) .nil)))) a) (left : Int) (h0 : 0 ≤ left) (h1 : left ≤ 1048576) :
    ∃ r : Int, laws_szEnvS k (a, left, ()) = some ((r, ()), ((), (), ())) ∧ (0 ≤ r → r ≤ left ∧ Kd.Small (.sl false (.cons .bool (.cons (.sl false (.cons (.int .i64) (.cons (.int .i64) .nil))) (.cons (.sl false (.cons (.int .i64) (.cons (.int .i64) .nil))) .nil)))) a) := by
  obtain ⟨w0, w1⟩ := hw
  have w0 : a.length ≤ 140737488351232 := w0
  unfold laws_szEnvS
  simp only [br_dec]
  rw [wrap_i64 (n := left - (a.length : Int)) (by omega) (by omega)]
  by_cases hc : left - (a.length : Int) < 0
  · rw [if_pos hc]; exact ⟨-1, rfl, fun h => by omega⟩
  rw [if_neg hc]
  obtain ⟨r, e, p⟩ := sz_loop (b := laws_szEnvS.l0 k) (fun i left => (a, left, (i : Int), ())) a (Kd.Small (.cons .bool (.cons (.sl false (.cons (.int .i64) (.cons (.int .i64) .nil))) (.cons (.sl false (.cons (.int .i64) (.cons (.int .i64) .nil))) .nil)))) (o := ((), (), ())) (fun G i hi left h0 h1 => by
    have h2 : ((i : Int) < (a.length : Int)) := by omega
    have h3 : (0 : Int) ≤ (i : Int) := by omega
    obtain ⟨r1, e1, p1⟩ := szEnv_is k hk a[i] (w1 _ (List.getElem_mem hi)) left h0 h1
    refine ⟨r1, ?_, p1⟩
    simp only [laws_szEnvS.l0, br_dec, if_pos h2, if_pos h3, Int.toNat_natCast, List.getElem?_eq_getElem hi, bd_some, e1]
    rw [wrap_succ (by omega)]) (fun G left => by
    have h2 : ¬ ((a.length : Int) < (a.length : Int)) := by omega
    simp only [laws_szEnvS.l0, br_dec, if_neg h2]) (f := k) (by omega) (left - (a.length : Int)) (by omega) (by omega)
  refine ⟨r, e, fun hr => ?_⟩
  obtain ⟨q1, q2⟩ := p hr
  exact ⟨by omega, by show a.length ≤ 1048576; omega, q2⟩

theorem szPart_is (k : Nat) (hk : 1048576 < k) (a : ((List (Int × Int × Unit)) × (List (Bool × (List (Int × Int × Unit)) × (List (Int × Int × Unit)) × Unit)) × Unit)) (hw : Kd.WF (.cons (.sl false (.cons (.int .i64) (.cons (.int .i64) .nil))) (.cons (.sl false (.cons .bool (.cons (.sl false (.cons (.int .i64) (.cons (.int .i64) .nil))) (.cons (.sl false (.cons (.int .i64) (.cons (.int .i64) .nil))) .nil)))) .nil)) a) (left : Int) (h0 : 0 ≤ left) (h1 : left ≤ 1048576) :
    ∃ r : Int, laws_szPart k (a, left, ()) = some ((r, ()), ((), (), ())) ∧ (0 ≤ r → r ≤ left ∧ Kd.Small (.cons (.sl false (.cons (.int .i64) (.cons (.int .i64) .nil))) (.cons (.sl false (.cons .bool (.cons (.sl false (.cons (.int .i64) (.cons (.int .i64) .nil))) (.cons (.sl false (.cons (.int .i64) (.cons (.int .i64) .nil))) .nil)))) .nil)) a) := by
  obtain ⟨w0, w1, _⟩ := hw
  unfold laws_szPart
  simp only [br_dec]
  obtain ⟨r1, e1, p1⟩ := szEntryS_is k hk a.1 w0 left (by omega) (by omega)
  simp only [e1, bd_some]
  by_cases c1 : r1 < 0
  · rw [if_pos c1]; exact ⟨-1, rfl, fun h => by omega⟩
  rw [if_neg c1]
  obtain ⟨q1, s1⟩ := p1 (by omega)
  obtain ⟨r2, e2, p2⟩ := szEnvS_is k hk a.2.1 w1 r1 (by omega) (by omega)
  simp only [e2, bd_some]
  by_cases c2 : r2 < 0
  · rw [if_pos c2]; exact ⟨-1, rfl, fun h => by omega⟩
  rw [if_neg c2]
  obtain ⟨q2, s2⟩ := p2 (by omega)
  exact ⟨r2, rfl, fun h => ⟨by omega, ⟨s1, s2, trivial⟩⟩⟩

theorem szPartS_is (k : Nat) (hk : 1048576 < k) (a : (List ((List (Int × Int × Unit)) × (List (Bool × (List (Int × Int × Unit)) × (List (Int × Int × Unit)) × Unit)) × Unit))) (hw : Kd.WF (.sl false (.cons (.sl false (.cons (.int .i64) (.cons (.int .i64) .nil))) (.cons (.sl false (.cons .bool (.cons (.sl false (.cons (.int .i64) (.cons (.int .i64) .nil))) (.cons (.sl false (.cons (.int .i64) (.cons (.int .i64) .nil))) .nil)))) .nil))) a) (left : Int) (h0 : 0 ≤ left) (h1 : left ≤ 1048576) :
    ∃ r : Int, laws_szPartS k (a, left, ()) = some ((r, ()), ((), (), ())) ∧ (0 ≤ r → r ≤ left ∧ Kd.Small (.sl false (.cons (.sl false (.cons (.int .i64) (.cons (.int .i64) .nil))) (.cons (.sl false (.cons .bool (.cons (.sl false (.cons (.int .i64) (.cons (.int .i64) .nil))) (.cons (.sl false (.cons (.int .i64) (.cons (.int .i64) .nil))) .nil)))) .nil))) a) := by
  obtain ⟨w0, w1⟩ := hw
  have w0 : a.length ≤ 140737488351232 := w0
  unfold laws_szPartS
  simp only [br_dec]
  rw [wrap_i64 (n := left - (a.length : Int)) (by omega) (by omega)]
  by_cases hc : left - (a.length : Int) < 0
  · rw [if_pos hc]; exact ⟨-1, rfl, fun h => by omega⟩
  rw [if_neg hc]
  obtain ⟨r, e, p⟩ := sz_loop (b := laws_szPartS.l0 k) (fun i left => (a, left, (i : Int), ())) a (Kd.Small (.cons (.sl false (.cons (.int .i64) (.cons (.int .i64) .nil))) (.cons (.sl false (.cons .bool (.cons (.sl false (.cons (.int .i64) (.cons (.int .i64) .nil))) (.cons (.sl false (.cons (.int .i64) (.cons (.int .i64) .nil))) .nil)))) .nil))) (o := ((), (), ())) (fun G i hi left h0 h1 => by
    have h2 : ((i : Int) < (a.length : Int)) := by omega
    have h3 : (0 : Int) ≤ (i : Int) := by omega
    obtain ⟨r1, e1, p1⟩ := szPart_is k hk a[i] (w1 _ (List.getElem_mem hi)) left h0 h1
    refine ⟨r1, ?_, p1⟩
    simp only [laws_szPartS.l0, br_dec, if_pos h2, if_pos h3, Int.toNat_natCast, List.getElem?_eq_getElem hi, bd_some, e1]
    rw [wrap_succ (by omega)]) (fun G left => by
    have h2 : ¬ ((a.length : Int) < (a.length : Int)) := by omega
    simp only [laws_szPartS.l0, br_dec, if_neg h2]) (f := k) (by omega) (left - (a.length : Int)) (by omega) (by omega)
  refine ⟨r, e, fun hr => ?_⟩
  obtain ⟨q1, q2⟩ := p hr
  exact ⟨by omega, by show a.length ≤ 1048576; omega, q2⟩

theorem toEntry_is (k : Nat) (hk : 1048576 < k) (a : (Int × Int × Unit)) (h : Kd.Small (.cons (.int .i64) (.cons (.int .i64) .nil)) a) : laws_toEntry k (a, ()) = some ((a, ()), ((), ())) := by
  rfl

theorem toEntryS_is (k : Nat) (hk : 1048576 < k) (a : (List (Int × Int × Unit))) (h : Kd.Small (.sl false (.cons (.int .i64) (.cons (.int .i64) .nil))) a) : laws_toEntryS k (a, ()) = some ((a, ()), ((), ())) := by
  obtain ⟨h0, h1⟩ := h
  have h0 : a.length ≤ 1048576 := h0
  unfold laws_toEntryS
  have hm : 0 ≤ (a.length : Int) ∧ (a.length : Int) ≤ (a.length : Int) ∧ (a.length : Int) * 16 ≤ maxBytes := by simp [maxBytes]; omega
  simp only [br_dec, if_pos hm, Int.toNat_natCast]
  generalize hz : (Kd.z (.cons (.int .i64) (.cons (.int .i64) .nil)) : (Int × Int × Unit)) = z
  exact to_loop (b := laws_toEntryS.l0 k) (fun i out => (a, out, (i : Int), ())) a z (fun G i hi out ho hg => by
    have h2 : ((i : Int) < (a.length : Int)) := by omega
    have h3 : (0 : Int) ≤ (i : Int) := by omega
    have h4 : 0 ≤ (i : Int) ∧ (i : Int) < (out.length : Int) := by omega
    simp only [laws_toEntryS.l0, br_dec, if_pos h2, if_pos h3, if_pos h4, Int.toNat_natCast, List.getElem?_eq_getElem hi, hg, bd_some, toEntry_is k hk a[i] (h1 _ (List.getElem_mem hi))]
    rw [wrap_succ (by omega)]) (fun G out => by
    have h2 : ¬ ((a.length : Int) < (a.length : Int)) := by omega
    simp only [laws_toEntryS.l0, br_dec, if_neg h2]) (by omega)

theorem toEnvS_is (k : Nat) (hk : 1048576 < k) (a : (List (Bool × (List (Int × Int × Unit)) × (List (Int × Int × Unit)) × Unit))) (h : Kd.Small (.sl false (.cons .bool (.cons (.sl false (.cons (.int .i64) (.cons (.int .i64) .nil))) (.cons (.sl false (.cons (.int .i64) (.cons (.int .i64) .nil))) .nil)))) a) : laws_toEnvS k (a, ()) = some ((a, ()), ((), ())) := by
  obtain ⟨h0, h1⟩ := h
  have h0 : a.length ≤ 1048576 := h0
  unfold laws_toEnvS
  have hm : 0 ≤ (a.length : Int) ∧ (a.length : Int) ≤ (a.length : Int) ∧ (a.length : Int) * 56 ≤ maxBytes := by simp [maxBytes]; omega
  simp only [br_dec, if_pos hm, Int.toNat_natCast]
  generalize hz : (Kd.z (.cons .bool (.cons (.sl false (.cons (.int .i64) (.cons (.int .i64) .nil))) (.cons (.sl false (.cons (.int .i64) (.cons (.int .i64) .nil))) .nil))) : (Bool × (List (Int × Int × Unit)) × (List (Int × Int × Unit)) × Unit)) = z
  exact to_loop (b := laws_toEnvS.l0 k) (fun i out => (a, out, (i : Int), ())) a z (fun G i hi out ho hg => by
    have h2 : ((i : Int) < (a.length : Int)) := by omega
    have h3 : (0 : Int) ≤ (i : Int) := by omega
    have h4 : 0 ≤ (i : Int) ∧ (i : Int) < (out.length : Int) := by omega
    simp only [laws_toEnvS.l0, br_dec, if_pos h2, if_pos h3, if_pos h4, Int.toNat_natCast, List.getElem?_eq_getElem hi, hg, bd_some, toEnv_is k hk a[i] (h1 _ (List.getElem_mem hi))]
    rw [wrap_succ (by omega)]) (fun G out => by
    have h2 : ¬ ((a.length : Int) < (a.length : Int)) := by omega
    simp only [laws_toEnvS.l0, br_dec, if_neg h2]) (by omega)

theorem toPart_is (k : Nat) (hk : 1048576 < k) (a : ((List (Int × Int × Unit)) × (List (Bool × (List (Int × Int × Unit)) × (List (Int × Int × Unit)) × Unit)) × Unit)) (h : Kd.Small (.cons (.sl false (.cons (.int .i64) (.cons (.int .i64) .nil))) (.cons (.sl false (.cons .bool (.cons (.sl false (.cons (.int .i64) (.cons (.int .i64) .nil))) (.cons (.sl false (.cons (.int .i64) (.cons (.int .i64) .nil))) .nil)))) .nil)) a) : laws_toPart k (a, ()) = some ((a, ()), ((), ())) := by
  obtain ⟨h0, h1, _⟩ := h
  unfold laws_toPart
  simp only [toEntryS_is k hk a.1 h0, toEnvS_is k hk a.2.1 h1, bd_some]

theorem toPartS_is (k : Nat) (hk : 1048576 < k) (a : (List ((List (Int × Int × Unit)) × (List (Bool × (List (Int × Int × Unit)) × (List (Int × Int × Unit)) × Unit)) × Unit))) (h : Kd.Small (.sl false (.cons (.sl false (.cons (.int .i64) (.cons (.int .i64) .nil))) (.cons (.sl false (.cons .bool (.cons (.sl false (.cons (.int .i64) (.cons (.int .i64) .nil))) (.cons (.sl false (.cons (.int .i64) (.cons (.int .i64) .nil))) .nil)))) .nil))) a) : laws_toPartS k (a, ()) = some ((a, ()), ((), ())) := by
  obtain ⟨h0, h1⟩ := h
  have h0 : a.length ≤ 1048576 := h0
  unfold laws_toPartS
  have hm : 0 ≤ (a.length : Int) ∧ (a.length : Int) ≤ (a.length : Int) ∧ (a.length : Int) * 48 ≤ maxBytes := by simp [maxBytes]; omega
  simp only [br_dec, if_pos hm, Int.toNat_natCast]
  generalize hz : (Kd.z (.cons (.sl false (.cons (.int .i64) (.cons (.int .i64) .nil))) (.cons (.sl false (.cons .bool (.cons (.sl false (.cons (.int .i64) (.cons (.int .i64) .nil))) (.cons (.sl false (.cons (.int .i64) (.cons (.int .i64) .nil))) .nil)))) .nil)) : ((List (Int × Int × Unit)) × (List (Bool × (List (Int × Int × Unit)) × (List (Int × Int × Unit)) × Unit)) × Unit)) = z
  exact to_loop (b := laws_toPartS.l0 k) (fun i out => (a, out, (i : Int), ())) a z (fun G i hi out ho hg => by
    have h2 : ((i : Int) < (a.length : Int)) := by omega
    have h3 : (0 : Int) ≤ (i : Int) := by omega
    have h4 : 0 ≤ (i : Int) ∧ (i : Int) < (out.length : Int) := by omega
    simp only [laws_toPartS.l0, br_dec, if_pos h2, if_pos h3, if_pos h4, Int.toNat_natCast, List.getElem?_eq_getElem hi, hg, bd_some, toPart_is k hk a[i] (h1 _ (List.getElem_mem hi))]
    rw [wrap_succ (by omega)]) (fun G out => by
    have h2 : ¬ ((a.length : Int) < (a.length : Int)) := by omega
    simp only [laws_toPartS.l0, br_dec, if_neg h2]) (by omega)

theorem eqEntry_is (k : Nat) (hk : 1048576 < k) (a : (Int × Int × Unit)) (h : Kd.Small (.cons (.int .i64) (.cons (.int .i64) .nil)) a) : laws_eqEntry k (a, a, ()) = some ((true, ()), ((), (), ())) := by
  obtain ⟨h0, h1, _⟩ := h
  unfold laws_eqEntry
  simp only [bd_some, bne_self_eq_false, BEq.rfl, Bool.not_true, br_false]

theorem eqEntryS_is (k : Nat) (hk : 1048576 < k) (a : (List (Int × Int × Unit))) (h : Kd.Small (.sl false (.cons (.int .i64) (.cons (.int .i64) .nil))) a) : laws_eqEntryS k (a, a, ()) = some ((true, ()), ((), (), ())) := by
  obtain ⟨h0, h1⟩ := h
  have h0 : a.length ≤ 1048576 := h0
  unfold laws_eqEntryS
  have hb : ((a.length : Int) != (a.length : Int)) = false := by simp
  simp only [hb, br_false]
  exact iter_for (b := laws_eqEntryS.l0 k) (fun i => (a, a, (i : Int), ())) a.length (fun G i hi => by
    have h2 : ((i : Int) < (a.length : Int)) := by omega
    have h3 : (0 : Int) ≤ (i : Int) := by omega
    simp only [laws_eqEntryS.l0, br_dec, if_pos h2, if_pos h3, Int.toNat_natCast, List.getElem?_eq_getElem hi, bd_some, bne_self_eq_false, BEq.rfl, Bool.not_true, br_false, eqEntry_is k hk a[i] (h1 _ (List.getElem_mem hi))]
    rw [wrap_succ (by omega)]) (fun G => by
    have h2 : ¬ ((a.length : Int) < (a.length : Int)) := by omega
    simp only [laws_eqEntryS.l0, br_dec, if_neg h2]) (by omega)

theorem eqEnvS_is (k : Nat) (hk : 1048576 < k) (a : (List (Bool × (List (Int × Int × Unit)) × (List (Int × Int × Unit)) × Unit))) (h : Kd.Small (.sl false (.cons .bool (.cons (.sl false (.cons (.int .i64) (.cons (.int .i64) .nil))) (.cons (.sl false (.cons (.int .i64) (.cons (.int .i64) .nil))) .nil)))) a) : laws_eqEnvS k (a, a, ()) = some ((true, ()), ((), (), ())) := by
  obtain ⟨h0, h1⟩ := h
  have h0 : a.length ≤ 1048576 := h0
  unfold laws_eqEnvS
  have hb : ((a.length : Int) != (a.length : Int)) = false := by simp
  simp only [hb, br_false]
  exact iter_for (b := laws_eqEnvS.l0 k) (fun i => (a, a, (i : Int), ())) a.length (fun G i hi => by
    have h2 : ((i : Int) < (a.length : Int)) := by omega
    have h3 : (0 : Int) ≤ (i : Int) := by omega
    simp only [laws_eqEnvS.l0, br_dec, if_pos h2, if_pos h3, Int.toNat_natCast, List.getElem?_eq_getElem hi, bd_some, bne_self_eq_false, BEq.rfl, Bool.not_true, br_false, eqEnv_is k hk a[i] (h1 _ (List.getElem_mem hi))]
    rw [wrap_succ (by omega)]) (fun G => by
    have h2 : ¬ ((a.length : Int) < (a.length : Int)) := by omega
    simp only [laws_eqEnvS.l0, br_dec, if_neg h2]) (by omega)

theorem eqPart_is (k : Nat) (hk : 1048576 < k) (a : ((List (Int × Int × Unit)) × (List (Bool × (List (Int × Int × Unit)) × (List (Int × Int × Unit)) × Unit)) × Unit)) (h : Kd.Small (.cons (.sl false (.cons (.int .i64) (.cons (.int .i64) .nil))) (.cons (.sl false (.cons .bool (.cons (.sl false (.cons (.int .i64) (.cons (.int .i64) .nil))) (.cons (.sl false (.cons (.int .i64) (.cons (.int .i64) .nil))) .nil)))) .nil)) a) : laws_eqPart k (a, a, ()) = some ((true, ()), ((), (), ())) := by
  obtain ⟨h0, h1, _⟩ := h
  unfold laws_eqPart
  simp only [eqEntryS_is k hk a.1 h0, eqEnvS_is k hk a.2.1 h1, bd_some, bne_self_eq_false, BEq.rfl, Bool.not_true, br_false]

theorem eqPartS_is (k : Nat) (hk : 1048576 < k) (a : (List ((List (Int × Int × Unit)) × (List (Bool × (List (Int × Int × Unit)) × (List (Int × Int × Unit)) × Unit)) × Unit))) (h : Kd.Small (.sl false (.cons (.sl false (.cons (.int .i64) (.cons (.int .i64) .nil))) (.cons (.sl false (.cons .bool (.cons (.sl false (.cons (.int .i64) (.cons (.int .i64) .nil))) (.cons (.sl false (.cons (.int .i64) (.cons (.int .i64) .nil))) .nil)))) .nil))) a) : laws_eqPartS k (a, a, ()) = some ((true, ()), ((), (), ())) := by
  obtain ⟨h0, h1⟩ := h
  have h0 : a.length ≤ 1048576 := h0
  unfold laws_eqPartS
  have hb : ((a.length : Int) != (a.length : Int)) = false := by simp
  simp only [hb, br_false]
  exact iter_for (b := laws_eqPartS.l0 k) (fun i => (a, a, (i : Int), ())) a.length (fun G i hi => by
    have h2 : ((i : Int) < (a.length : Int)) := by omega
    have h3 : (0 : Int) ≤ (i : Int) := by omega
    simp only [laws_eqPartS.l0, br_dec, if_pos h2, if_pos h3, Int.toNat_natCast, List.getElem?_eq_getElem hi, bd_some, bne_self_eq_false, BEq.rfl, Bool.not_true, br_false, eqPart_is k hk a[i] (h1 _ (List.getElem_mem hi))]
    rw [wrap_succ (by omega)]) (fun G => by
    have h2 : ¬ ((a.length : Int) < (a.length : Int)) := by omega
    simp only [laws_eqPartS.l0, br_dec, if_neg h2]) (by omega)

end Go.Pev.F.Cp
end

section
/-
  A tree's text: the program's is the reference's.
-/
set_option linter.unusedVariables false
set_option linter.unusedSimpArgs false
namespace Go.Pev.F
open Go.Lib (itoa join)

theorem envT_len {d : DeclT} (hd : DSmall d) {e : EnvT} (hf : e.1 = true → Fine d e) : (envT d e).length ≤ 8000000 := by
  unfold envT
  cases he : e.1 with
  | false => simp
  | true =>
    have hf := hf he
    simp only [cond_true]
    cases hc : ((((zero d e ++ ones d e).map told).length : Int) == 0) with
    | true => simp
    | false =>
      simp only [cond_false]
      have l0 := hf.l0
      have l2 := hf.l2
      have h := join_len [32] 1048621 ((zero d e ++ ones d e).map told) (fun x hx => by
        obtain ⟨p, hp, rfl⟩ := List.mem_map.1 hx
        have := told_len hd hf p hp
        simp only [told, List.length_append, List.length_cons, List.length_nil]
        omega)
      have hl : ((zero d e ++ ones d e).map told).length ≤ 7 := by simp [zero, ones]; omega
      refine Nat.le_trans h (Nat.le_trans (Nat.mul_le_mul_right _ hl) (by decide))

theorem nodeText_both (k : Nat) (hk : 4194304 < k) (hk2 : k ≤ 4611686018427387903) (d : DeclT) (hd : DSmall d) (hdo : declOk d = true) (l : List NodeT) (hg : Good (fun e => envFits d e = true) d.2.1.length l) (hw : ∀ x ∈ l, envKd.WF (envOf x)) :
    ∀ (m a f : Nat) (x : NodeT), l[a]? = some x → (x.1 = -1 ∨ (d.2.1.length : Int) - x.1 ≤ m) → m ≤ 3 → m < f →
    ∃ s : List UInt8, s.length + 5000000 ≤ 2 ^ m * 20000000 ∧ iter (spec_l13Node.f k) f (d, (l, ()), (a : Int), ()) = some ((s, ()), ((), (), (), ())) ∧ iter (impl_Decl_nodeText.f k) f (d, (l, ()), (a : Int), ()) = some ((s, ()), ((), (), (), ())) := by
  intro m
  have leaf : ∀ (m a f : Nat) (x : NodeT), l[a]? = some x → x.1 = -1 → m < f → ∃ s : List UInt8, s.length + 5000000 ≤ 2 ^ m * 20000000 ∧ iter (spec_l13Node.f k) f (d, (l, ()), (a : Int), ()) = some ((s, ()), ((), (), (), ())) ∧ iter (impl_Decl_nodeText.f k) f (d, (l, ()), (a : Int), ()) = some ((s, ()), ((), (), (), ())) := by
    intro m a f x hx h1 hf
    obtain ⟨f, rfl⟩ : ∃ g, f = g + 1 := ⟨f - 1, by omega⟩
    obtain ⟨ha, e⟩ := List.getElem?_eq_some_iff.1 hx
    have hfit : envFits d (envOf x) = true := by
      rcases e ▸ hg a ha with ⟨_, h⟩ | ⟨h0, _⟩
      · exact h
      · omega
    have hfine : (envOf x).1 = true → Fine d (envOf x) := fun h => fine_of (by rw [envOk, hdo, hfit]; rfl) h (hw x (List.mem_of_getElem? hx))
    have hlen := envT_len hd hfine
    have p1 : 1 ≤ 2 ^ m := Nat.one_le_two_pow
    have h0 : (0 : Int) ≤ (a : Int) := by omega
    have hneg : x.1 < 0 := by omega
    have t1 : spec_l13Env k (d, (x.2.2.2.1, x.2.2.2.2.1, x.2.2.2.2.2.1, ()), ()) = some ((envT d (envOf x), ()), ((), (), ())) := l13Env_is k hk hk2 d hd (envOf x) hfine
    have t2 : impl_Decl_envText k (d, (x.2.2.2.1, x.2.2.2.2.1, x.2.2.2.2.2.1, ()), ()) = some ((envT d (envOf x), ()), ((), (), ())) := implEnvT_is k hk hk2 d hd (envOf x) hfine
    generalize envT d (envOf x) = s at t1 t2 hlen
    have b1 : (((([91] : List UInt8).length + s.length : Nat)) : Int) ≤ maxInt64 := by simp [maxInt64]; omega
    have b2 : (((([91] : List UInt8) ++ s).length + ([93] : List UInt8).length : Nat) : Int) ≤ maxInt64 := by simp [maxInt64]; omega
    refine ⟨(([91] : List UInt8) ++ s) ++ [93], ?_, ?_, ?_⟩
    · simp only [List.length_append, List.length_cons, List.length_nil]; omega
    · rw [iter_succ]
      simp only [spec_l13Node.f, br_dec, if_pos h0, Int.toNat_natCast, hx, bd_some, if_pos hneg, t1, if_pos b1, if_pos b2]
    · rw [iter_succ]
      simp only [impl_Decl_nodeText.f, br_dec, if_pos h0, Int.toNat_natCast, hx, bd_some, br_beq, if_pos h1, t2, if_pos b1, if_pos b2]
  induction m with
  | zero =>
    intro a f x hx hm _ hf
    obtain ⟨ha, e⟩ := List.getElem?_eq_some_iff.1 hx
    refine leaf 0 a f x hx ?_ hf
    rcases hm with h | h
    · exact h
    · rcases e ▸ hg a ha with ⟨h, _⟩ | ⟨_, h', _⟩
      · exact h
      · omega
  | succ m ih =>
    intro a f x hx hm hm3 hf
    by_cases h1 : x.1 = -1
    · exact leaf (m + 1) a f x hx h1 hf
    obtain ⟨f, rfl⟩ : ∃ g, f = g + 1 := ⟨f - 1, by omega⟩
    obtain ⟨ha, e⟩ := List.getElem?_eq_some_iff.1 hx
    rcases e ▸ hg a ha with ⟨h, _⟩ | ⟨f0, f1, c1, c2⟩
    · exact absurd h h1
    have h0 : (0 : Int) ≤ (a : Int) := by omega
    have hneg : ¬ x.1 < 0 := by omega
    have sub : ∀ c : Int, child l a x.1 c → ∃ s : List UInt8, s.length + 5000000 ≤ 2 ^ m * 20000000 ∧ iter (spec_l13Node.f k) f (d, (l, ()), c, ()) = some ((s, ()), ((), (), (), ())) ∧ iter (impl_Decl_nodeText.f k) f (d, (l, ()), c, ()) = some ((s, ()), ((), (), (), ())) := by
      intro c hc
      obtain ⟨g0, g1, g2⟩ := hc
      have hi : c.toNat < l.length := by omega
      have hcy := List.getElem?_eq_getElem hi
      have := ih c.toNat f l[c.toNat] hcy ((g2 _ hcy).imp id fun h => by rcases hm with h' | h' <;> omega) (by omega) (by omega)
      rwa [show ((c.toNat : Nat) : Int) = c by omega] at this
    obtain ⟨s1, l1, u1, v1⟩ := sub _ c1
    obtain ⟨s2, l2, u2, v2⟩ := sub _ c2
    have hi : x.1.toNat < d.2.1.length := by omega
    have hnm := hd.s1 d.2.1[x.1.toNat] (List.getElem_mem hi)
    have hgn := List.getElem?_eq_getElem hi
    generalize d.2.1[x.1.toNat] = nm at hnm hgn
    have hp : 2 ^ (m + 1) = 2 * 2 ^ m := by rw [Nat.pow_succ]; omega
    have h8 := pow_small (show m ≤ 3 by omega)
    have b1 : ((nm.length + ([40] : List UInt8).length : Nat) : Int) ≤ maxInt64 := by simp only [List.length_cons, List.length_nil, maxInt64]; omega
    have b2 : (((nm ++ [40]).length + s2.length : Nat) : Int) ≤ maxInt64 := by simp only [List.length_append, List.length_cons, List.length_nil, maxInt64]; omega
    have b3 : ((((nm ++ [40]) ++ s2).length + ([32, 124, 32] : List UInt8).length : Nat) : Int) ≤ maxInt64 := by simp only [List.length_append, List.length_cons, List.length_nil, maxInt64]; omega
    have b4 : (((((nm ++ [40]) ++ s2) ++ [32, 124, 32]).length + s1.length : Nat) : Int) ≤ maxInt64 := by simp only [List.length_append, List.length_cons, List.length_nil, maxInt64]; omega
    have b5 : ((((((nm ++ [40]) ++ s2) ++ [32, 124, 32]) ++ s1).length + ([41] : List UInt8).length : Nat) : Int) ≤ maxInt64 := by simp only [List.length_append, List.length_cons, List.length_nil, maxInt64]; omega
    refine ⟨((((nm ++ [40]) ++ s2) ++ [32, 124, 32]) ++ s1) ++ [41], ?_, ?_, ?_⟩
    · simp only [List.length_append, List.length_cons, List.length_nil]; omega
    · rw [iter_succ]
      simp only [spec_l13Node.f, br_dec, if_pos h0, Int.toNat_natCast, hx, bd_some, if_neg hneg, if_pos f0, hgn, if_pos b1, u2, if_pos b2, if_pos b3, u1, if_pos b4, if_pos b5]
    · rw [iter_succ]
      simp only [impl_Decl_nodeText.f, br_dec, if_pos h0, Int.toNat_natCast, hx, bd_some, br_beq, if_neg h1, if_pos f0, hgn, if_pos b1, v2, if_pos b2, if_pos b3, v1, if_pos b4, if_pos b5]

theorem treeText_both (k : Nat) (hk : 4194304 < k) (hk2 : k ≤ 4611686018427387903) (d : DeclT) (hd : DSmall d) (l : List NodeT) (hlen : l.length ≤ 1048576) (hls : ∀ x ∈ l, ESmall (envOf x)) (hw : ∀ x ∈ l, envKd.WF (envOf x)) :
    ∃ t, spec_TreeText k (d, (l, ()), ()) = some ((t, ()), ((), (), ())) ∧ impl_TreeText k (d, (l, ()), ()) = some ((t, ()), ((), (), ())) := by
  obtain ⟨R, r1, r2, r3⟩ := tableOf_both k hk hk2 d hd l hlen hls
  unfold spec_TreeText impl_TreeText spec_TreeOk impl_TreeOk
  simp only [r1, r2, bd_some]
  cases hR : R.2.1 with
  | false => exact ⟨[], by simp, by simp⟩
  | true =>
    obtain ⟨hdo, hT, hl⟩ := r3 hR
    have hf := (decl_flags hdo).2.1
    obtain ⟨g1, g2, _⟩ := treeOf_good hdo hT
    rw [hl] at g1 g2
    have hp : 0 < l.length := List.length_pos_iff.2 g2
    have hi : l.length - 1 < l.length := by omega
    have hm : l[l.length - 1].1 = -1 ∨ (d.2.1.length : Int) - l[l.length - 1].1 ≤ d.2.1.length := by
      rcases g1 _ hi with ⟨h, _⟩ | ⟨h, _⟩
      · exact Or.inl h
      · exact Or.inr (by omega)
    obtain ⟨s, _, s1, s2⟩ := nodeText_both k hk hk2 d hd hdo l g1 hw d.2.1.length (l.length - 1) k _ (List.getElem?_eq_getElem hi) hm hf (by omega)
    rw [show ((l.length - 1 : Nat) : Int) = (l.length : Int) - 1 by omega] at s1 s2
    have s1' : spec_l13Node k (d, (l, ()), (l.length : Int) - 1, ()) = _ := s1
    have s2' : impl_Decl_nodeText k (d, (l, ()), (l.length : Int) - 1, ()) = _ := s2
    refine ⟨s, ?_, ?_⟩
    · simp only [Bool.not_true, br_false, wrap_i64 (n := (l.length : Int) - 1) (by omega) (by omega), s1', bd_some]
    · unfold impl_Decl_treeText
      simp only [Bool.not_true, br_false, impl_size_impl_Node, bd_some, wrap_i64 (n := (l.length : Int) - 1) (by omega) (by omega), s2']

abbrev nodeKd : Kd := .cons (.int .i64) (.cons (.int .i64) (.cons (.int .i64) envKd))
abbrev treeKd : Kd := .cons (.sl false nodeKd) .nil

theorem FnExactTreeText_true (x : DeclT × (List NodeT × Unit) × Unit) (hw : WFs [declKd, treeKd] x) : ∃ k o, laws_FnExactTreeText k x = some ((true, ()), o) := by
  obtain ⟨d, ⟨l, ⟨⟩⟩, ⟨⟩⟩ := x
  obtain ⟨hwd, hwt, _⟩ := hw
  refine ⟨8388608, ((), (), ()), ?_⟩
  unfold laws_FnExactTreeText
  obtain ⟨r1, e1, p1⟩ := Cp.szDecl_is 8388608 (by omega) d hwd 1048576 (by omega) (by omega)
  simp only [e1, bd_some, br_dec]
  by_cases h1 : r1 < 0
  · rw [if_pos h1]
  rw [if_neg h1]
  obtain ⟨b1, s1⟩ := p1 (by omega)
  obtain ⟨r2, e2, p2⟩ := Cp.szTree_is 8388608 (by omega) (l, ()) hwt r1 (by omega) (by omega)
  simp only [e2, bd_some]
  by_cases h2 : r2 < 0
  · rw [if_pos h2]
  rw [if_neg h2]
  obtain ⟨b2, s2⟩ := p2 (by omega)
  have hd : DSmall d := ⟨s1.1.1, s1.1.2, s1.2.1.1, s1.2.1.2, s1.2.2.1.1, fun x hx => (s1.2.2.1.2 x hx).1⟩
  have hls : ∀ x ∈ l, ESmall (envOf x) := fun x hx => ⟨(s2.1.2 x hx).2.2.2.2.1.1, (s2.1.2 x hx).2.2.2.2.2.1.1⟩
  have hwn : ∀ x ∈ l, envKd.WF (envOf x) := fun x hx => (hwt.1.2 x hx).2.2.2
  obtain ⟨t, t1, t2⟩ := treeText_both 8388608 (by omega) (by omega) d hd l s2.1.1 hls hwn
  simp only [Cp.toDecl_is 8388608 (by omega) d s1, Cp.toTree_is 8388608 (by omega) (l, ()) s2, bd_some]
  have t1' : spec_TreeText 8388608 ((d.1, d.2.1, d.2.2.1, ()), (l, ()), ()) = some ((t, ()), ((), (), ())) := t1
  have t2' : impl_TreeText 8388608 ((d.1, d.2.1, d.2.2.1, ()), (l, ()), ()) = some ((t, ()), ((), (), ())) := t2
  have q1 : laws_eqDecl 8388608 ((d.1, d.2.1, d.2.2.1, ()), (d.1, d.2.1, d.2.2.1, ()), ()) = some ((true, ()), ((), (), ())) := Cp.eqDecl_is 8388608 (by omega) d s1
  have q2 := Cp.eqTree_is 8388608 (by omega) (l, ()) s2
  simp only [t1', t2', bd_some, BEq.rfl, Bool.not_true, br_false, q1, q2]
end Go.Pev.F
end

section
/-
  Parts: which are right: the reference's test and the program's agree.
-/
set_option linter.unusedVariables false
set_option linter.unusedSimpArgs false
namespace Go.Pev.F

abbrev PartT := List EntT × List EnvT × Unit
def partOkB (d : DeclT) (p : PartT) : Bool := tokenOk p.1 && (tableOk d p.2.1 && tableLive p.2.1)
def above (prev : Option (List EntT)) (t : List EntT) : Bool :=
  match prev with
  | none => true
  | some s => !decide (cmpT s t ≥ 0)
def riseP : Option (List EntT) → List PartT → Bool
  | _, [] => true
  | prev, p :: r => above prev p.1 && riseP (some p.1) r
def goodP (d : DeclT) : Option (List EntT) → List PartT → Bool
  | _, [] => true
  | prev, p :: r => (tokenOk p.1 && (above prev p.1 && (tableOk d p.2.1 && tableLive p.2.1))) && goodP d (some p.1) r
def partsOk (d : DeclT) (l : List PartT) : Bool := decide (l.length ≤ 100) && (l.all (partOkB d) && riseP none l)

theorem goodP_is (d : DeclT) : ∀ (l : List PartT) (prev : Option (List EntT)), goodP d prev l = (l.all (partOkB d) && riseP prev l)
  | [], _ => rfl
  | p :: r, prev => by
    simp only [goodP, riseP, List.all_cons, goodP_is d r, partOkB]
    cases tokenOk p.1 <;> cases above prev p.1 <;> cases tableOk d p.2.1 <;> cases tableLive p.2.1 <;> cases r.all (fun p => tokenOk p.1 && (tableOk d p.2.1 && tableLive p.2.1)) <;> simp [partOkB]

structure LSmall (l : List PartT) : Prop where
  n : l.length ≤ 1048576
  t : ∀ p ∈ l, p.1.length ≤ 1048576
  m : ∀ p ∈ l, p.2.1.length ≤ 1048576
  e : ∀ p ∈ l, ∀ e ∈ p.2.1, ESmall e

theorem specParts_loop (k : Nat) (hk : 4194304 < k) (d : DeclT) (hd : DSmall d) (hdo : declOk d = true) (l : List PartT) (hl : LSmall l) : ∀ (n i f : Nat) (prev : Option (List EntT)), i + n = l.length → n < f → (i = 0 → prev = none) → (∀ (h : 0 < i) (h' : i - 1 < l.length), prev = some l[i - 1].1 ∧ tokenOk l[i - 1].1 = true) →
    iter (spec_PartsOk.l0 k) f (l, (d.1, d.2.1, d.2.2.1, ()), (i : Int), ()) = some ((goodP d prev (l.drop i), ()), ((), (), ())) := by
  have hn := hl.n
  intro n
  induction n with
  | zero =>
    intro i f prev hi hf h0 h1
    obtain ⟨f, rfl⟩ : ∃ g, f = g + 1 := ⟨f - 1, by omega⟩
    have h2 : ¬ ((i : Int) < (l.length : Int)) := by omega
    rw [iter_succ, List.drop_of_length_le (by omega)]
    simp only [spec_PartsOk.l0, br_dec (p := (i : Int) < (l.length : Int)), if_neg h2, goodP]
  | succ n ih =>
    intro i f prev hi hf h0 h1
    obtain ⟨f, rfl⟩ : ∃ g, f = g + 1 := ⟨f - 1, by omega⟩
    have hi' : i < l.length := by omega
    have h2 : ((i : Int) < (l.length : Int)) := by omega
    have h3 : (0 : Int) ≤ (i : Int) := by omega
    have hm := List.getElem_mem hi'
    have ht : spec_TableOk k ((d.1, d.2.1, d.2.2.1, ()), l[i].2.1, ()) = some ((tableOk d l[i].2.1, ()), ((), (), ())) := specTableOk_is k hk d hd hdo l[i].2.1 (hl.m _ hm) (hl.e _ hm)
    rw [iter_succ, List.drop_eq_getElem_cons hi']
    simp only [spec_PartsOk.l0, br_dec (p := (i : Int) < (l.length : Int)), br_dec (p := (0 : Int) ≤ (i : Int)), if_pos h2, if_pos h3, Int.toNat_natCast, List.getElem?_eq_getElem hi', bd_some, specTokenOk_is k hk, ht, l9Live_is k hk l[i].2.1 (hl.m _ hm), goodP]
    cases htok : tokenOk l[i].1 with
    | false => simp
    | true =>
      have next := ih (i + 1) f (some l[i].1) (by omega) (by omega) (fun h => by omega) (fun h h' => ⟨by simp, by simpa using htok⟩)
      simp only [Bool.not_true, br_false, Bool.true_and]
      by_cases hz : i = 0
      · have hz' : ¬ ((i : Int) > 0) := by omega
        have hp := h0 hz
        rw [wrap_succ (by omega)]
        simp only [br_dec (p := (i : Int) > 0), if_neg hz', hp, above, Bool.true_and]
        cases tableOk d l[i].2.1 <;> cases tableLive l[i].2.1 <;> simp [next]
        all_goals exact next
      · have hz' : ((i : Int) > 0) := by omega
        obtain ⟨hp, hpt⟩ := h1 (by omega) (by omega)
        have ew : IntKind.wrap .i64 ((i : Int) - 1) = ((i - 1 : Nat) : Int) := by rw [wrap_i64 (by omega) (by omega)]; omega
        have h4 : (0 : Int) ≤ ((i - 1 : Nat) : Int) := by omega
        have hi1 : i - 1 < l.length := by omega
        rw [wrap_succ (by omega)]
        simp only [br_dec (p := (i : Int) > 0), if_pos hz', ew, br_dec (p := (0 : Int) ≤ ((i - 1 : Nat) : Int)), if_pos h4, Int.toNat_natCast, List.getElem?_eq_getElem hi1, bd_some, specCmp_is k hk l[i - 1].1 l[i].1 hpt htok, hp, above]
        cases decide (cmpT l[i - 1].1 l[i].1 ≥ 0) <;> cases tableOk d l[i].2.1 <;> cases tableLive l[i].2.1 <;> simp [next]
        all_goals exact next

theorem specPartsOk_is (k : Nat) (hk : 4194304 < k) (d : DeclT) (hd : DSmall d) (hdo : declOk d = true) (l : List PartT) (hl : LSmall l) : spec_PartsOk k (d, l, ()) = some ((partsOk d l, ()), ((), (), ())) := by
  have hn := hl.n
  unfold spec_PartsOk partsOk
  simp only [specDeclOk_is k hk d hd, hdo, bd_some, Bool.not_true, br_false, Option.bind_some, br_dec]
  by_cases hc : (l.length : Int) > 100
  · have : decide (l.length ≤ 100) = false := by simp; omega
    rw [if_pos hc, this]; rfl
  · have hc' : l.length ≤ 100 := by omega
    rw [if_neg hc, decide_eq_true hc', Bool.true_and, ← goodP_is]
    exact specParts_loop k hk d hd hdo l hl l.length 0 k none (by omega) (by omega) (fun _ => rfl) (fun h => by omega)
end Go.Pev.F
end

section
/-
  Parts: the program's test.
-/
set_option linter.unusedVariables false
set_option linter.unusedSimpArgs false
namespace Go.Pev.F

theorem live_is (k : Nat) (hk : 4194304 < k) (t : List EnvT) (ht : t.length ≤ 1048576) : slices_ContainsFunc_impl_Env_impl_Env_v1 k (t, (()), ()) = some ((tableLive t, ()), ((), (()), ())) := by
  obtain ⟨n, h1, h2⟩ := iter_find (b := slices_IndexFunc_impl_Env_impl_Env_v1.l0 k) (fun i => (t, (()), (t.length : Int), (i : Int), ())) t (fun e => e.1) (o := ((), (()), ())) (fun G i hi => by
    have h2 : ((i : Int) < (t.length : Int)) := by omega
    have h3 : (0 : Int) ≤ (i : Int) := by omega
    simp only [slices_IndexFunc_impl_Env_impl_Env_v1.l0, impl_Decl_partOk_1, br_dec, if_pos h2, if_pos h3, Int.toNat_natCast, List.getElem?_eq_getElem hi, bd_some]
    rw [wrap_succ (by omega)]
    cases t[i].1 <;> simp) (fun G => by
    have h2 : ¬ ((t.length : Int) < (t.length : Int)) := by omega
    simp only [slices_IndexFunc_impl_Env_impl_Env_v1.l0, br_dec, if_neg h2]) (f := k) (by omega)
  unfold slices_ContainsFunc_impl_Env_impl_Env_v1 slices_IndexFunc_impl_Env_impl_Env_v1
  have h1' : iter (slices_IndexFunc_impl_Env_impl_Env_v1.l0 k) k (t, (()), (t.length : Int), 0, ()) = some ((n, ()), ((), (()), ())) := h1
  simp only [h1', bd_some, h2]
  rfl

theorem partOk_is (k : Nat) (hk : 4194304 < k) (d : DeclT) (hf : d.2.1.length ≤ 3) (p : PartT) (hm : p.2.1.length ≤ 1048576) (hs : ∀ e ∈ p.2.1, ESmall e) : impl_Decl_partOk k (d, p, ()) = some ((partOkB d p, ()), ((), (), ())) := by
  unfold impl_Decl_partOk partOkB
  simp only [implTokenOk_is k hk, isTable_is k hk d hf p.2.1 hm hs, live_is k hk p.2.1 hm, bd_some]
  cases tokenOk p.1 <;> cases tableOk d p.2.1 <;> simp

theorem areAllPart_is (k : Nat) (hk : 4194304 < k) (d : DeclT) (hf : d.2.1.length ≤ 3) (l : List PartT) (hl : LSmall l) : impl_areAll_impl_Part k (l, (d, ()), ()) = some ((l.all (partOkB d), ()), ((), ((), ()), ())) := by
  have hn := hl.n
  obtain ⟨n, h1, h2⟩ := iter_find (b := slices_IndexFunc_impl_Part_impl_Part.l0 k) (fun i => (l, (((d, ()), ()), ()), (l.length : Int), (i : Int), ())) l (fun p => !partOkB d p) (o := ((), (((d, ()), ()), ()), ())) (fun G i hi => by
    have h2 : ((i : Int) < (l.length : Int)) := by omega
    have h3 : (0 : Int) ≤ (i : Int) := by omega
    have hm := List.getElem_mem hi
    simp only [slices_IndexFunc_impl_Part_impl_Part.l0, impl_areAll_impl_Part_1, partOk_is k hk d hf l[i] (hl.m _ hm) (hl.e _ hm), br_dec, if_pos h2, if_pos h3, Int.toNat_natCast, List.getElem?_eq_getElem hi, bd_some]
    rw [wrap_succ (by omega)]
    cases partOkB d l[i] <;> simp) (fun G => by
    have h2 : ¬ ((l.length : Int) < (l.length : Int)) := by omega
    simp only [slices_IndexFunc_impl_Part_impl_Part.l0, br_dec, if_neg h2]) (f := k) (by omega)
  unfold impl_areAll_impl_Part slices_ContainsFunc_impl_Part_impl_Part slices_IndexFunc_impl_Part_impl_Part
  have h1' : iter (slices_IndexFunc_impl_Part_impl_Part.l0 k) k (l, (((d, ()), ()), ()), (l.length : Int), 0, ()) = some ((n, ()), ((), (((d, ()), ()), ()), ())) := h1
  simp only [h1', bd_some, h2, all_any, Bool.not_not]

theorem implParts_loop (k : Nat) (hk : 4194304 < k) (d : DeclT) (hf : d.2.1.length ≤ 3) (l : List PartT) (hl : LSmall l) : ∀ (n i f : Nat) (h1 : 1 ≤ i), (i ≤ l.length → ∀ (h' : i - 1 < l.length), i + n = l.length → n < f →
    iter (impl_Decl_areParts.l0 k) f (l, (d.1, d.2.1, d.2.2.1, ()), (i : Int), ()) = some ((riseP (some l[i - 1].1) (l.drop i) && (decide (l.length ≤ 100) && l.all (partOkB d)), ()), ((), (), ()))) := by
  have hn := hl.n
  intro n
  induction n with
  | zero =>
    intro i f h1 hle h' hi hf'
    obtain ⟨f, rfl⟩ : ∃ g, f = g + 1 := ⟨f - 1, by omega⟩
    have h2 : ¬ ((i : Int) < (l.length : Int)) := by omega
    have ha : impl_areAll_impl_Part k (l, ((d.1, d.2.1, d.2.2.1, ()), ()), ()) = some ((l.all (partOkB d), ()), ((), ((), ()), ())) := areAllPart_is k hk d hf l hl
    rw [iter_succ, List.drop_of_length_le (by omega)]
    simp only [impl_Decl_areParts.l0, br_dec, if_neg h2, riseP, Bool.true_and, ha, bd_some]
    by_cases hc : l.length ≤ 100
    · rw [if_pos (by omega), decide_eq_true hc, Bool.true_and]
    · rw [if_neg (by omega), decide_eq_false hc]; rfl
  | succ n ih =>
    intro i f h1 hle h' hi hf'
    obtain ⟨f, rfl⟩ : ∃ g, f = g + 1 := ⟨f - 1, by omega⟩
    have hi' : i < l.length := by omega
    have h2 : ((i : Int) < (l.length : Int)) := by omega
    have h3 : (0 : Int) ≤ (i : Int) := by omega
    have ew : IntKind.wrap .i64 ((i : Int) - 1) = ((i - 1 : Nat) : Int) := by rw [wrap_i64 (by omega) (by omega)]; omega
    have h4 : (0 : Int) ≤ ((i - 1 : Nat) : Int) := by omega
    rw [iter_succ, List.drop_eq_getElem_cons hi']
    simp only [impl_Decl_areParts.l0, br_dec (p := (i : Int) < (l.length : Int)), br_dec (p := (0 : Int) ≤ (i : Int)), if_pos h2, if_pos h3, ew, br_dec (p := (0 : Int) ≤ ((i - 1 : Nat) : Int)), if_pos h4, Int.toNat_natCast, List.getElem?_eq_getElem hi', List.getElem?_eq_getElem h', bd_some, implCmp_is k hk l[i - 1].1 l[i].1 (hl.t _ (List.getElem_mem h')), riseP, above]
    rw [wrap_succ (by omega)]
    cases decide (cmpT l[i - 1].1 l[i].1 ≥ 0) with
    | true => simp
    | false =>
      have := ih (i + 1) f (by omega) (by omega) (by omega) (by omega) (by omega)
      simp only [Nat.add_sub_cancel] at this
      simpa using this

theorem areParts_is (k : Nat) (hk : 4194304 < k) (d : DeclT) (hf : d.2.1.length ≤ 3) (l : List PartT) (hl : LSmall l) : impl_Decl_areParts k (d, l, ()) = some ((partsOk d l, ()), ((), (), ())) := by
  have hn := hl.n
  unfold impl_Decl_areParts partsOk
  cases l with
  | nil =>
    obtain ⟨j, rfl⟩ : ∃ j, k = j + 1 := ⟨k - 1, by omega⟩
    have ha : impl_areAll_impl_Part (j + 1) (([] : List PartT), ((d.1, d.2.1, d.2.2.1, ()), ()), ()) = some ((([] : List PartT).all (partOkB d), ()), ((), ((), ()), ())) := areAllPart_is (j + 1) hk d hf [] hl
    simp only
    rw [iter_succ]
    simp only [impl_Decl_areParts.l0, br_dec, List.length_nil]
    rw [if_neg (by decide), if_pos (by decide), ha]
    simp [riseP]
  | cons p r =>
    have h := implParts_loop k hk d hf (p :: r) hl r.length 1 k (Nat.le_refl _) (by simp) (by simp) (by simp; omega) (by simp at hn; omega)
    refine Eq.trans h ?_
    simp only [riseP, above, Bool.true_and]
    have e : (p :: r)[1 - 1].1 = p.1 := rfl
    have e2 : (p :: r).drop 1 = r := rfl
    rw [e, e2]
    cases riseP (some p.1) r <;> simp
end Go.Pev.F
end
