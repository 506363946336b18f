/-
  Small laws for the printed texts.
-/
import Derived.Test.YtamhcmffadindaaGreatDoorK02
import Derived.Lib.ItoaNum
import Derived.Test.YtamhcmffadindaaGreatDoorK10
import Derived.KernelRfl
section
set_option linter.unusedVariables false
set_option linter.unusedSimpArgs false
namespace Go.Pev

@[simp] theorem br_true {α : Type} (n : Nat) (x y : Option α) : br n true x y = x := by rw [br_eq]; rfl
@[simp] theorem br_false {α : Type} (n : Nat) (x y : Option α) : br n false x y = y := by rw [br_eq]; rfl
@[simp] theorem bd_some {α β : Type} (n : Nat) (a : β) (f : β → Option α) : bd n (some a) f = f a := by rw [bd_eq]; rfl
@[simp] theorem bd_none {α β : Type} (n : Nat) (f : β → Option α) : bd n none f = none := by rw [bd_eq]; rfl

theorem br_dec {α : Type} (n : Nat) (p : Prop) [Decidable p] (x y : Option α) : br n (decide p) x y = if p then x else y := by
  by_cases h : p <;> simp [h]

theorem iter_succ {A R : Type} (b : (A → Option R) → A → Option R) (n : Nat) (x : A) : iter b (n + 1) x = b (iter b n) x := rfl

/-! ### Numbers that fit -/

theorem wrap_i64 {n : Int} (h0 : -9223372036854775808 ≤ n) (h1 : n ≤ 9223372036854775807) : IntKind.wrap .i64 n = n := by
  simp [IntKind.wrap, IntKind.bits, IntKind.signed]
  omega

theorem wrap_u64 {n : Int} (h0 : 0 ≤ n) (h1 : n < 18446744073709551616) : IntKind.wrap .u64 n = n := by
  simp [IntKind.wrap, IntKind.bits, IntKind.signed]
  omega

theorem wrap_u64_neg {n : Int} (h0 : -9223372036854775808 ≤ n) (h1 : n < 0) : IntKind.wrap .u64 n = n + 18446744073709551616 := by
  simp [IntKind.wrap, IntKind.bits, IntKind.signed]
  omega

theorem wrap_u8 {n : Int} (h0 : 0 ≤ n) (h1 : n < 256) : IntKind.wrap .u8 n = n := by
  simp [IntKind.wrap, IntKind.bits, IntKind.signed]
  omega

theorem tdiv10 {n : Int} (h0 : 0 ≤ n) : n.tdiv 10 = n / 10 := Int.tdiv_eq_ediv_of_nonneg h0
theorem tmod10 {n : Int} (h0 : 0 ≤ n) : n.tmod 10 = n % 10 := Int.tmod_eq_emod_of_nonneg h0
end Go.Pev
end

section
/-
  Tests of numbers, in both packages.
-/
set_option linter.unusedVariables false
set_option linter.unusedSimpArgs false
namespace Go.Pev.F

theorem br_beq {α : Type} (k : Nat) (a b : Int) (x y : Option α) : br k (a == b) x y = if a = b then x else y := by
  by_cases h : a = b
  · simp [h]
  · have : (a == b) = false := by simpa using h
    rw [this, br_false, if_neg h]

theorem l1In_is (k : Nat) (a b c : Int) : spec_l1In k (a, b, c, ()) = some ((decide (b ≤ a ∧ a ≤ c), ()), ((), (), (), ())) := by
  unfold spec_l1In
  by_cases h : b ≤ a <;> by_cases h2 : a ≤ c <;> simp [h, h2]

theorem within_is (k : Nat) (a b c : Int) : impl_within k (a, b, c, ()) = some ((decide (b ≤ a ∧ a ≤ c), ()), ((), (), (), ())) := by
  unfold impl_within
  by_cases h : b ≤ a <;> by_cases h2 : a ≤ c <;> simp [h, h2]

end Go.Pev.F
end

section
/-
  Loops of the printed texts, in general.
-/
set_option linter.unusedVariables false
set_option linter.unusedSimpArgs false
namespace Go.Pev

/-- A loop that goes all its rounds. -/
theorem iter_for {A R : Type} {b : (A → Option R) → A → Option R} (st : Nat → A) (m : Nat) {r : Option R} (h : ∀ G i, i < m → b G (st i) = G (st (i + 1))) (he : ∀ G, b G (st m) = r) {f : Nat} (hf : m < f) : iter b f (st 0) = r := by
  have key : ∀ (n i f : Nat), i + n = m → n < f → iter b f (st i) = r := by
    intro n
    induction n with
    | zero =>
      intro i f hi hf
      obtain ⟨f, rfl⟩ : ∃ g, f = g + 1 := ⟨f - 1, by omega⟩
      obtain rfl : i = m := by omega
      rw [iter_succ, he]
    | succ n ih =>
      intro i f hi hf
      obtain ⟨f, rfl⟩ : ∃ g, f = g + 1 := ⟨f - 1, by omega⟩
      rw [iter_succ, h _ i (by omega)]
      exact ih (i + 1) f (by omega) (by omega)
  exact key m 0 f (by omega) hf

/-- A loop that stops at the first that a test finds. -/
theorem iter_first {A R : Type} {b : (A → Option R) → A → Option R} (st : Nat → A) (m : Nat) (q : Nat → Bool) (rf : Nat → Option R) {r : Option R} (h : ∀ G i, i < m → b G (st i) = if q i = true then rf i else G (st (i + 1))) (he : ∀ G, b G (st m) = r) {f : Nat} (hf : m < f) :
    (∃ i, i < m ∧ q i = true ∧ iter b f (st 0) = rf i) ∨ ((∀ i, i < m → q i = false) ∧ iter b f (st 0) = r) := by
  have key : ∀ (n i f : Nat), i + n = m → n < f → (∃ j, i ≤ j ∧ j < m ∧ q j = true ∧ iter b f (st i) = rf j) ∨ ((∀ j, i ≤ j → j < m → q j = false) ∧ iter b f (st i) = r) := by
    intro n
    induction n with
    | zero =>
      intro i f hi hf
      obtain ⟨f, rfl⟩ : ∃ g, f = g + 1 := ⟨f - 1, by omega⟩
      obtain rfl : i = m := by omega
      exact .inr ⟨fun j h1 h2 => by omega, by rw [iter_succ, he]⟩
    | succ n ih =>
      intro i f hi hf
      obtain ⟨f, rfl⟩ : ∃ g, f = g + 1 := ⟨f - 1, by omega⟩
      rw [iter_succ, h _ i (by omega)]
      cases hq : q i with
      | true => exact .inl ⟨i, Nat.le_refl _, by omega, hq, by simp⟩
      | false =>
        simp only [Bool.false_eq_true, if_false]
        rcases ih (i + 1) f (by omega) (by omega) with ⟨j, h1, h2, h3, h4⟩ | ⟨h1, h2⟩
        · exact .inl ⟨j, by omega, h2, h3, h4⟩
        · refine .inr ⟨fun j h3 h4 => ?_, h2⟩
          by_cases hj : j = i
          · rw [hj]; exact hq
          · exact h1 j (by omega) h4
  rcases key m 0 f (by omega) hf with ⟨j, _, h2, h3, h4⟩ | ⟨h1, h2⟩
  · exact .inl ⟨j, h2, h3, h4⟩
  · exact .inr ⟨fun j hj => h1 j (by omega) hj, h2⟩

/-- A loop that looks for one of a list. -/
theorem iter_any {A R α : Type} {b : (A → Option R) → A → Option R} (st : Nat → A) (l : List α) (p : α → Bool) {rf r : Option R} (h : ∀ G i (hi : i < l.length), b G (st i) = if p l[i] = true then rf else G (st (i + 1))) (he : ∀ G, b G (st l.length) = r) {f : Nat} (hf : l.length < f) :
    iter b f (st 0) = if l.any p = true then rf else r := by
  rcases iter_first st l.length (fun i => if hi : i < l.length then p l[i] else false) (fun _ => rf) (r := r) (fun G i hi => by simp only [dif_pos hi]; exact h G i hi) he hf with ⟨i, hi, hq, e⟩ | ⟨hq, e⟩
  · simp only [dif_pos hi] at hq
    have ha : l.any p = true := List.any_eq_true.2 ⟨l[i], List.getElem_mem _, hq⟩
    rw [e, if_pos ha]
  · have ha : ¬ l.any p = true := by
      intro ha
      obtain ⟨x, hx, hp⟩ := List.any_eq_true.1 ha
      obtain ⟨i, hi, rfl⟩ := List.mem_iff_getElem.1 hx
      have := hq i hi
      simp only [dif_pos hi] at this
      rw [hp] at this
      cases this
    rw [e, if_neg ha]

/-- A loop that looks for the first place that a test finds: whether there is one. -/
theorem iter_find {A α β : Type} {b : (A → Option ((Int × Unit) × β)) → A → Option ((Int × Unit) × β)} (st : Nat → A) (l : List α) (p : α → Bool) {o : β} (h : ∀ G i (hi : i < l.length), b G (st i) = if p l[i] = true then some (((i : Int), ()), o) else G (st (i + 1))) (he : ∀ G, b G (st l.length) = some ((-1, ()), o)) {f : Nat} (hf : l.length < f) :
    ∃ n : Int, iter b f (st 0) = some ((n, ()), o) ∧ decide (n ≥ 0) = l.any p := by
  rcases iter_first st l.length (fun i => if hi : i < l.length then p l[i] else false) (fun i => some (((i : Int), ()), o)) (r := some ((-1, ()), o)) (fun G i hi => by simp only [dif_pos hi]; exact h G i hi) he hf with ⟨i, hi, hq, e⟩ | ⟨hq, e⟩
  · simp only [dif_pos hi] at hq
    refine ⟨i, e, ?_⟩
    have ha : l.any p = true := List.any_eq_true.2 ⟨l[i], List.getElem_mem _, hq⟩
    rw [ha]
    simp
  · refine ⟨-1, e, ?_⟩
    have ha : l.any p = false := by
      cases ha : l.any p with
      | false => rfl
      | true =>
        obtain ⟨x, hx, hp⟩ := List.any_eq_true.1 ha
        obtain ⟨i, hi, rfl⟩ := List.mem_iff_getElem.1 hx
        have := hq i hi
        simp only [dif_pos hi] at this
        rw [hp] at this
        cases this
    rw [ha]
    simp

/-- A loop that looks for a number that a test finds. -/
theorem iter_range {A R : Type} {b : (A → Option R) → A → Option R} (st : Nat → A) (m : Nat) (q : Nat → Bool) {rf r : Option R} (h : ∀ G i, i < m → b G (st i) = if q i = true then rf else G (st (i + 1))) (he : ∀ G, b G (st m) = r) {f : Nat} (hf : m < f) :
    iter b f (st 0) = if (List.range m).any q = true then rf else r := by
  rcases iter_first st m q (fun _ => rf) (r := r) h he hf with ⟨i, hi, hq, e⟩ | ⟨hq, e⟩
  · rw [e, if_pos (List.any_eq_true.2 ⟨i, List.mem_range.2 hi, hq⟩)]
  · rw [e, if_neg]
    intro ha
    obtain ⟨i, hi, hp⟩ := List.any_eq_true.1 ha
    rw [hq i (List.mem_range.1 hi)] at hp
    cases hp

theorem wrap_succ {i : Nat} (h : i < 4611686018427387904) : IntKind.wrap .i64 ((i : Int) + 1) = ((i + 1 : Nat) : Int) := by
  rw [wrap_i64 (by omega) (by omega)]; omega

theorem set_next {α : Type} (a : List α) (z : α) {i : Nat} (hi : i < a.length) : (a.take i ++ List.replicate (a.length - i) z).set i a[i] = a.take (i + 1) ++ List.replicate (a.length - (i + 1)) z := by
  have e : a.length - i = (a.length - (i + 1)) + 1 := by omega
  rw [List.set_append_right _ _ (by simp; omega), e, List.replicate_succ]
  simp only [List.length_take, Nat.min_eq_left (Nat.le_of_lt hi), Nat.sub_self, List.set_cons_zero]
  rw [← List.take_append_getElem hi, List.append_assoc]
  rfl

theorem get_next {α : Type} (a : List α) (z : α) {i : Nat} (hi : i < a.length) : (a.take i ++ List.replicate (a.length - i) z)[i]? = some z := by
  rw [List.getElem?_append_right (by simp; omega)]
  simp only [List.length_take, Nat.min_eq_left (Nat.le_of_lt hi), Nat.sub_self]
  rw [List.getElem?_replicate]
  simp; omega
end Go.Pev
end

section
/-
  A program's names: sizes, copies, comparisons; which are right: the reference's and the program's test agree.
-/
set_option linter.unusedVariables false
set_option linter.unusedSimpArgs false
namespace Go.Pev.F

abbrev Names := List (List UInt8)
abbrev ArrT := List UInt8 × Int × Unit
abbrev DeclT := Names × Names × List ArrT × Unit
abbrev IvT := Int × Int × Unit
abbrev EnvT := Bool × List IvT × List IvT × Unit

/-! ### Sizes -/

theorem szStringS_loop (k : Nat) (a : Names) (ha : a.length ≤ 4611686018427387903) (hs : ∀ x ∈ a, x.length ≤ 4611686018427387903) : ∀ (n i f : Nat) (left : Int), i + n = a.length → n < f → 0 ≤ left → left ≤ 1048576 →
    ∃ r : Int, iter (laws_szStringS.l0 k) f (a, left, (i : Int), ()) = some ((r, ()), ((), (), ())) ∧ (0 ≤ r → r ≤ left ∧ ∀ j (hj : j < a.length), i ≤ j → (a[j].length : Int) ≤ left) := by
  intro n
  induction n with
  | zero =>
    intro i f left hi hf h0 h1
    obtain ⟨f, rfl⟩ : ∃ g, f = g + 1 := ⟨f - 1, by omega⟩
    refine ⟨left, ?_, fun _ => ⟨Int.le_refl _, fun j hj h => by omega⟩⟩
    rw [iter_succ]
    have : ¬ ((i : Int) < (a.length : Int)) := by omega
    simp only [laws_szStringS.l0, br_dec, if_neg this]
  | succ n ih =>
    intro i f left hi hf h0 h1
    obtain ⟨f, rfl⟩ : ∃ g, f = g + 1 := ⟨f - 1, by omega⟩
    have hi' : i < a.length := by omega
    have hx := hs a[i] (List.getElem_mem _)
    have h2 : ((i : Int) < (a.length : Int)) := by omega
    have h3 : (0 : Int) ≤ (i : Int) := by omega
    rw [iter_succ]
    simp only [laws_szStringS.l0, br_dec, if_pos h2, if_pos h3, Int.toNat_natCast, List.getElem?_eq_getElem hi', bd_some]
    rw [wrap_i64 (n := left - (a[i].length : Int)) (by omega) (by omega), wrap_succ (by omega)]
    by_cases hc : left - (a[i].length : Int) < 0
    · rw [if_pos hc]
      exact ⟨-1, rfl, fun h => by omega⟩
    · rw [if_neg hc]
      obtain ⟨r, h4, h5⟩ := ih (i + 1) f (left - (a[i].length : Int)) (by omega) (by omega) (by omega) (by omega)
      refine ⟨r, h4, fun hr => ?_⟩
      obtain ⟨h6, h7⟩ := h5 hr
      refine ⟨by omega, fun j hj hij => ?_⟩
      by_cases e : j = i
      · subst e; omega
      · have := h7 j hj (by omega); omega

theorem szStringS_is (k : Nat) (hk : 1048576 < k) (a : Names) (ha : a.length ≤ 140737488351232) (hs : ∀ x ∈ a, x.length ≤ 140737488351232) (left : Int) (h0 : 0 ≤ left) (h1 : left ≤ 1048576) :
    ∃ r : Int, laws_szStringS k (a, left, ()) = some ((r, ()), ((), (), ())) ∧ (0 ≤ r → r ≤ left ∧ a.length ≤ 1048576 ∧ ∀ x ∈ a, x.length ≤ 1048576) := by
  unfold laws_szStringS
  simp only [br_dec]
  rw [wrap_i64 (by omega) (by omega)]
  by_cases hc : left - (a.length : Int) < 0
  · rw [if_pos hc]
    exact ⟨-1, rfl, fun h => by omega⟩
  · rw [if_neg hc]
    obtain ⟨r, h4, h5⟩ := szStringS_loop k a (by omega) (fun x hx => by have := hs x hx; omega) a.length 0 k (left - (a.length : Int)) (by omega) (by omega) (by omega) (by omega)
    refine ⟨r, h4, fun hr => ?_⟩
    obtain ⟨h6, h7⟩ := h5 hr
    refine ⟨by omega, by omega, fun x hx => ?_⟩
    obtain ⟨j, hj, rfl⟩ := List.mem_iff_getElem.1 hx
    have := h7 j hj (by omega)
    omega

theorem szArrS_loop (k : Nat) (a : List ArrT) (ha : a.length ≤ 4611686018427387903) (hs : ∀ x ∈ a, x.1.length ≤ 4611686018427387903) : ∀ (n i f : Nat) (left : Int), i + n = a.length → n < f → 0 ≤ left → left ≤ 1048576 →
    ∃ r : Int, iter (laws_szArrS.l0 k) f (a, left, (i : Int), ()) = some ((r, ()), ((), (), ())) ∧ (0 ≤ r → r ≤ left ∧ ∀ j (hj : j < a.length), i ≤ j → (a[j].1.length : Int) ≤ left) := by
  intro n
  induction n with
  | zero =>
    intro i f left hi hf h0 h1
    obtain ⟨f, rfl⟩ : ∃ g, f = g + 1 := ⟨f - 1, by omega⟩
    refine ⟨left, ?_, fun _ => ⟨Int.le_refl _, fun j hj h => by omega⟩⟩
    rw [iter_succ]
    have : ¬ ((i : Int) < (a.length : Int)) := by omega
    simp only [laws_szArrS.l0, br_dec, if_neg this]
  | succ n ih =>
    intro i f left hi hf h0 h1
    obtain ⟨f, rfl⟩ : ∃ g, f = g + 1 := ⟨f - 1, by omega⟩
    have hi' : i < a.length := by omega
    have hx := hs a[i] (List.getElem_mem _)
    have h2 : ((i : Int) < (a.length : Int)) := by omega
    have h3 : (0 : Int) ≤ (i : Int) := by omega
    rw [iter_succ]
    simp only [laws_szArrS.l0, laws_szArr, br_dec, if_pos h2, if_pos h3, Int.toNat_natCast, List.getElem?_eq_getElem hi', bd_some]
    rw [wrap_i64 (n := left - (a[i].1.length : Int)) (by omega) (by omega), wrap_succ (by omega)]
    by_cases hc : left - (a[i].1.length : Int) < 0
    · rw [if_pos hc]
      exact ⟨-1, by simp, fun h => by omega⟩
    · rw [if_neg hc]
      simp only [bd_some]
      rw [if_neg hc]
      obtain ⟨r, h4, h5⟩ := ih (i + 1) f (left - (a[i].1.length : Int)) (by omega) (by omega) (by omega) (by omega)
      refine ⟨r, h4, fun hr => ?_⟩
      obtain ⟨h6, h7⟩ := h5 hr
      refine ⟨by omega, fun j hj hij => ?_⟩
      by_cases e : j = i
      · subst e; omega
      · have := h7 j hj (by omega); omega

theorem szArrS_is (k : Nat) (hk : 1048576 < k) (a : List ArrT) (ha : a.length ≤ 140737488351232) (hs : ∀ x ∈ a, x.1.length ≤ 140737488351232) (left : Int) (h0 : 0 ≤ left) (h1 : left ≤ 1048576) :
    ∃ r : Int, laws_szArrS k (a, left, ()) = some ((r, ()), ((), (), ())) ∧ (0 ≤ r → r ≤ left ∧ a.length ≤ 1048576 ∧ ∀ x ∈ a, x.1.length ≤ 1048576) := by
  unfold laws_szArrS
  simp only [br_dec]
  rw [wrap_i64 (by omega) (by omega)]
  by_cases hc : left - (a.length : Int) < 0
  · rw [if_pos hc]
    exact ⟨-1, rfl, fun h => by omega⟩
  · rw [if_neg hc]
    obtain ⟨r, h4, h5⟩ := szArrS_loop k a (by omega) (fun x hx => by have := hs x hx; omega) a.length 0 k (left - (a.length : Int)) (by omega) (by omega) (by omega) (by omega)
    refine ⟨r, h4, fun hr => ?_⟩
    obtain ⟨h6, h7⟩ := h5 hr
    refine ⟨by omega, by omega, fun x hx => ?_⟩
    obtain ⟨j, hj, rfl⟩ := List.mem_iff_getElem.1 hx
    have := h7 j hj (by omega)
    omega

/-- What the guard grants of a declaration. -/
structure DSmall (d : DeclT) : Prop where
  n0 : d.1.length ≤ 1048576
  s0 : ∀ x ∈ d.1, x.length ≤ 1048576
  n1 : d.2.1.length ≤ 1048576
  s1 : ∀ x ∈ d.2.1, x.length ≤ 1048576
  n2 : d.2.2.1.length ≤ 1048576
  s2 : ∀ x ∈ d.2.2.1, x.1.length ≤ 1048576

abbrev declKd : Kd := .cons (.sl false .str) (.cons (.sl false .str) (.cons (.sl false (.cons .str (.cons (.int .i64) .nil))) .nil))

theorem szDecl_is (k : Nat) (hk : 1048576 < k) (d : DeclT) (hw : declKd.WF d) : ∃ r : Int, laws_szDecl k (d, 1048576, ()) = some ((r, ()), ((), (), ())) ∧ r ≤ 1048576 ∧ (0 ≤ r → DSmall d) := by
  obtain ⟨⟨a1, a2⟩, ⟨b1, b2⟩, ⟨c1, c2⟩, _⟩ := hw
  obtain ⟨r1, e1, p1⟩ := szStringS_is k hk d.1 a1 (fun x hx => a2 x hx) 1048576 (by omega) (by omega)
  unfold laws_szDecl
  simp only [e1, bd_some, br_dec]
  by_cases h1 : r1 < 0
  · rw [if_pos h1]; exact ⟨-1, rfl, by omega, fun h => by omega⟩
  rw [if_neg h1]
  obtain ⟨q1, q2, q3⟩ := p1 (by omega)
  obtain ⟨r2, e2, p2⟩ := szStringS_is k hk d.2.1 b1 (fun x hx => b2 x hx) r1 (by omega) (by omega)
  simp only [e2, bd_some]
  by_cases h2 : r2 < 0
  · rw [if_pos h2]; exact ⟨-1, rfl, by omega, fun h => by omega⟩
  rw [if_neg h2]
  obtain ⟨u1, u2, u3⟩ := p2 (by omega)
  obtain ⟨r3, e3, p3⟩ := szArrS_is k hk d.2.2.1 c1 (fun x hx => (c2 x hx).1) r2 (by omega) (by omega)
  simp only [e3, bd_some]
  by_cases h3 : r3 < 0
  · rw [if_pos h3]; exact ⟨-1, rfl, by omega, fun h => by omega⟩
  rw [if_neg h3]
  obtain ⟨v1, v2, v3⟩ := p3 (by omega)
  exact ⟨r3, rfl, by omega, fun _ => ⟨q2, q3, u2, u3, v2, v3⟩⟩

/-! ### Copies -/

theorem toStringS_is (k : Nat) (a : Names) (ha : a.length ≤ 1048576) (hk : 1048576 < k) : laws_toStringS k (a, ()) = some ((a, ()), ((), ())) := by
  unfold laws_toStringS
  have h : 0 ≤ (a.length : Int) ∧ (a.length : Int) ≤ (a.length : Int) ∧ (a.length : Int) * 16 ≤ maxBytes := by simp [maxBytes]; omega
  simp only [br_dec, if_pos h, Int.toNat_natCast]
  have key := iter_for (b := laws_toStringS.l0 k) (fun i => (a, a.take i ++ List.replicate (a.length - i) (Kd.z .str), (i : Int), ())) a.length (r := some ((a, ()), ((), ()))) (fun G i hi => by
    have h2 : ((i : Int) < (a.length : Int)) := by omega
    have h3 : (0 : Int) ≤ (i : Int) := by omega
    have h4 : 0 ≤ (i : Int) ∧ (i : Int) < ((a.take i ++ List.replicate (a.length - i) (Kd.z .str)).length : Int) := by simp; omega
    simp only [laws_toStringS.l0, br_dec, if_pos h2, if_pos h3, if_pos h4, Int.toNat_natCast, List.getElem?_eq_getElem hi, get_next a _ hi, bd_some]
    rw [set_next a _ hi, wrap_succ (by omega)]) (fun G => by
    have h2 : ¬ ((a.length : Int) < (a.length : Int)) := by omega
    simp only [laws_toStringS.l0, br_dec, if_neg h2]
    simp) (f := k) (by omega)
  simpa using key

theorem toArrS_is (k : Nat) (a : List ArrT) (ha : a.length ≤ 1048576) (hk : 1048576 < k) : laws_toArrS k (a, ()) = some ((a, ()), ((), ())) := by
  unfold laws_toArrS
  have h : 0 ≤ (a.length : Int) ∧ (a.length : Int) ≤ (a.length : Int) ∧ (a.length : Int) * 24 ≤ maxBytes := by simp [maxBytes]; omega
  simp only [br_dec, if_pos h, Int.toNat_natCast]
  generalize hz : (Kd.z (.cons .str (.cons (.int .i64) .nil)) : ArrT) = z
  have key := iter_for (b := laws_toArrS.l0 k) (fun i => (a, a.take i ++ List.replicate (a.length - i) z, (i : Int), ())) a.length (r := some ((a, ()), ((), ()))) (fun G i hi => by
    have h2 : ((i : Int) < (a.length : Int)) := by omega
    have h3 : (0 : Int) ≤ (i : Int) := by omega
    have h4 : 0 ≤ (i : Int) ∧ (i : Int) < ((a.take i ++ List.replicate (a.length - i) z).length : Int) := by simp; omega
    simp only [laws_toArrS.l0, laws_toArr, br_dec, if_pos h2, if_pos h3, if_pos h4, Int.toNat_natCast, List.getElem?_eq_getElem hi, get_next a _ hi, bd_some]
    rw [set_next a _ hi, wrap_succ (by omega)]) (fun G => by
    have h2 : ¬ ((a.length : Int) < (a.length : Int)) := by omega
    simp only [laws_toArrS.l0, br_dec, if_neg h2]
    simp) (f := k) (by omega)
  simpa using key

theorem toDecl_is (k : Nat) (d : DeclT) (hd : DSmall d) (hk : 1048576 < k) : laws_toDecl k (d, ()) = some ((d, ()), ((), ())) := by
  unfold laws_toDecl
  simp only [toStringS_is k _ hd.n0 hk, toStringS_is k _ hd.n1 hk, toArrS_is k _ hd.n2 hk, bd_some]

/-! ### Comparisons -/

theorem eqStringS_is (k : Nat) (a : Names) (ha : a.length ≤ 1048576) (hk : 1048576 < k) : laws_eqStringS k (a, a, ()) = some ((true, ()), ((), (), ())) := by
  unfold laws_eqStringS
  have hb : ((a.length : Int) != (a.length : Int)) = false := by simp
  simp only [hb, br_false]
  exact iter_for (b := laws_eqStringS.l0 k) (fun i => (a, a, (i : Int), ())) a.length (fun G i hi => by
    have h2 : ((i : Int) < (a.length : Int)) := by omega
    have h3 : (0 : Int) ≤ (i : Int) := by omega
    simp only [laws_eqStringS.l0, br_dec, if_pos h2, if_pos h3, Int.toNat_natCast, List.getElem?_eq_getElem hi, bd_some, BEq.rfl, Bool.not_true, br_false]
    rw [wrap_succ (by omega)]) (fun G => by
    have h2 : ¬ ((a.length : Int) < (a.length : Int)) := by omega
    simp only [laws_eqStringS.l0, br_dec, if_neg h2]) (by omega)

theorem eqArrS_is (k : Nat) (a : List ArrT) (ha : a.length ≤ 1048576) (hk : 1048576 < k) : laws_eqArrS k (a, a, ()) = some ((true, ()), ((), (), ())) := by
  unfold laws_eqArrS
  have hb : ((a.length : Int) != (a.length : Int)) = false := by simp
  simp only [hb, br_false]
  exact iter_for (b := laws_eqArrS.l0 k) (fun i => (a, a, (i : Int), ())) a.length (fun G i hi => by
    have h2 : ((i : Int) < (a.length : Int)) := by omega
    have h3 : (0 : Int) ≤ (i : Int) := by omega
    simp only [laws_eqArrS.l0, laws_eqArr, br_dec, if_pos h2, if_pos h3, Int.toNat_natCast, List.getElem?_eq_getElem hi, bd_some, BEq.rfl, bne_self_eq_false, Bool.not_true, br_false]
    rw [wrap_succ (by omega)]) (fun G => by
    have h2 : ¬ ((a.length : Int) < (a.length : Int)) := by omega
    simp only [laws_eqArrS.l0, br_dec, if_neg h2]) (by omega)

theorem eqDecl_is (k : Nat) (d : DeclT) (hd : DSmall d) (hk : 1048576 < k) : laws_eqDecl k (d, d, ()) = some ((true, ()), ((), (), ())) := by
  unfold laws_eqDecl
  simp only [eqStringS_is k _ hd.n0 hk, eqStringS_is k _ hd.n1 hk, eqArrS_is k _ hd.n2 hk, bd_some, Bool.not_true, br_false]
end Go.Pev.F
end

section
/-
  Which names are right: the reference's test and the program's agree.
-/
set_option linter.unusedVariables false
set_option linter.unusedSimpArgs false
namespace Go.Pev.F

def keys : Names := [[118, 97, 114], [102, 108, 97, 103], [97, 114, 114, 97, 121], [105, 102], [102, 111, 114, 107], [101, 108, 115, 101], [101, 110, 100], [119, 104, 105, 108, 101], [117, 110, 114, 111, 108, 108], [97, 115, 115, 101, 114, 116], [97, 115, 115, 117, 109, 101], [105, 110, 112, 117, 116], [115, 112, 108, 105, 116], [109, 101, 114, 103, 101], [116, 114, 117, 101], [102, 97, 108, 115, 101]]
def letter (b : UInt8) : Bool := decide (97 ≤ b.toNat ∧ b.toNat ≤ 122)
def nameOk (s : List UInt8) : Bool := s.all letter && (decide (1 ≤ s.length ∧ s.length ≤ 8) && !keys.contains s)

theorem l3Key_is (k : Nat) (hk : 1048576 < k) (s : List UInt8) : spec_l3Key k (s, ()) = some ((keys.contains s, ()), ((), ())) := by
  have h := iter_any (b := spec_l3Key.l0 k) (fun i => (s, keys, (i : Int), ())) keys (fun x => x == s) (rf := some ((true, ()), ((), ()))) (r := some ((false, ()), ((), ()))) (fun G i hi => by
    have h2 : ((i : Int) < (keys.length : Int)) := by omega
    have h3 : (0 : Int) ≤ (i : Int) ∧ ((i : Int) < (keys.length : Int)) := by omega
    have h4 : keys.length = 16 := rfl
    simp only [spec_l3Key.l0, br_dec, if_pos h2, if_pos h3, Int.toNat_natCast, List.getElem?_eq_getElem hi, bd_some]
    rw [wrap_succ (by omega)]
    cases h : (keys[i] == s) <;> simp) (fun G => by
    have h2 : ¬ ((keys.length : Int) < (keys.length : Int)) := by omega
    simp only [spec_l3Key.l0, br_dec, if_neg h2]) (f := k) (by show 16 < k; omega)
  unfold spec_l3Key
  refine Eq.trans h ?_
  rw [List.any_beq']
  cases keys.contains s <;> rfl

theorem l3Name_is (k : Nat) (hk : 1048576 < k) (s : List UInt8) (hs : s.length ≤ 1048576) : spec_l3Name k (s, ()) = some ((nameOk s, ()), ((), ())) := by
  have h := iter_any (b := spec_l3Name.l0 k) (fun i => (s, (i : Int), ())) s (fun b => !letter b) (rf := some ((false, ()), ((), ()))) (r := some ((decide (1 ≤ s.length ∧ s.length ≤ 8) && !keys.contains s, ()), ((), ()))) (fun G i hi => by
    have h2 : ((i : Int) < (s.length : Int)) := by omega
    have h3 : (0 : Int) ≤ (i : Int) := by omega
    simp only [spec_l3Name.l0, br_dec, if_pos h2, if_pos h3, Int.toNat_natCast, List.getElem?_eq_getElem hi, bd_some]
    rw [wrap_succ (by omega)]
    by_cases c1 : ((s[i].toNat : Int) < 97)
    · have : letter s[i] = false := by simp [letter]; omega
      simp [if_pos c1, this]
    · rw [if_neg c1]
      by_cases c2 : ((s[i].toNat : Int) > 122)
      · have : letter s[i] = false := by simp [letter]; omega
        have c2' : decide ((s[i].toNat : Int) > 122) = true := decide_eq_true c2
        simp only [Option.bind_some, c2', br_true, this, Bool.not_false, if_true]
      · have : letter s[i] = true := by simp [letter]; omega
        have c2' : decide ((s[i].toNat : Int) > 122) = false := decide_eq_false c2
        simp only [Option.bind_some, c2', br_false, this, Bool.not_true, Bool.false_eq_true, if_false]) (fun G => by
    have h2 : ¬ ((s.length : Int) < (s.length : Int)) := by omega
    simp only [spec_l3Name.l0, br_dec, if_neg h2, l1In_is, l3Key_is k hk, bd_some]
    by_cases c : 1 ≤ s.length ∧ s.length ≤ 8
    · have c' : (1 : Int) ≤ (s.length : Int) ∧ (s.length : Int) ≤ 8 := by omega
      simp only [if_pos c', Option.bind_some, decide_eq_true c, Bool.true_and]
    · have c' : ¬ ((1 : Int) ≤ (s.length : Int) ∧ (s.length : Int) ≤ 8) := by omega
      simp only [if_neg c', Option.bind_some, decide_eq_false c, Bool.false_and]) (f := k) (by omega)
  unfold spec_l3Name
  refine Eq.trans h ?_
  unfold nameOk
  rw [show s.any (fun b => !letter b) = !s.all letter by rw [List.not_all_eq_any_not]]
  cases s.all letter <;> simp

theorem l3Place_is (k : Nat) (l : Names) (v : List UInt8) (hl : l.length ≤ 4194304) (hk : 4194304 < k) : ∃ n : Int, spec_l3Place k (l, v, ()) = some ((n, ()), ((), (), ())) ∧ decide (n ≥ 0) = l.contains v := by
  obtain ⟨n, h1, h2⟩ := iter_find (b := spec_l3Place.l0 k) (fun i => (l, v, (i : Int), ())) l (fun x => x == v) (o := ((), (), ())) (fun G i hi => by
    have h2 : ((i : Int) < (l.length : Int)) := by omega
    have h3 : (0 : Int) ≤ (i : Int) := by omega
    simp only [spec_l3Place.l0, br_dec, if_pos h2, if_pos h3, Int.toNat_natCast, List.getElem?_eq_getElem hi, bd_some]
    rw [wrap_succ (by omega)]
    cases h : (l[i] == v) <;> simp) (fun G => by
    have h2 : ¬ ((l.length : Int) < (l.length : Int)) := by omega
    simp only [spec_l3Place.l0, br_dec, if_neg h2]) (f := k) (by omega)
  refine ⟨n, h1, ?_⟩
  rw [h2, List.any_beq']

theorem slicesContains_is (k : Nat) (l : Names) (v : List UInt8) (hl : l.length ≤ 4194304) (hk : 4194304 < k) : slices_Contains_string_string k (l, v, ()) = some ((l.contains v, ()), ((), (), ())) := by
  obtain ⟨n, h1, h2⟩ := iter_find (b := slices_Index_string_string.l0 k) (fun i => (l, v, (l.length : Int), (i : Int), ())) l (fun x => x == v) (o := ((), (), ())) (fun G i hi => by
    have h2 : ((i : Int) < (l.length : Int)) := by omega
    have h3 : (0 : Int) ≤ (i : Int) := by omega
    simp only [slices_Index_string_string.l0, br_dec, if_pos h2, if_pos h3, Int.toNat_natCast, List.getElem?_eq_getElem hi, bd_some]
    rw [wrap_succ (by omega), show (v == l[i]) = (l[i] == v) from BEq.comm]
    cases h : (l[i] == v) <;> simp) (fun G => by
    have h2 : ¬ ((l.length : Int) < (l.length : Int)) := by omega
    simp only [slices_Index_string_string.l0, br_dec, if_neg h2]) (f := k) (by omega)
  unfold slices_Contains_string_string slices_Index_string_string
  have h1' : iter (slices_Index_string_string.l0 k) k (l, v, (l.length : Int), 0, ()) = some ((n, ()), ((), (), ())) := h1
  simp only [h1', bd_some]
  rw [h2, List.any_beq']

theorem isWord_is (k : Nat) (hk : 4194304 < k) (s : List UInt8) : impl_isWord k (s, ()) = some ((keys.contains s, ()), ((), ())) := by
  unfold impl_isWord
  have h : Lb.Fields k ([118, 97, 114, 32, 102, 108, 97, 103, 32, 97, 114, 114, 97, 121, 32, 105, 102, 32, 102, 111, 114, 107, 32, 101, 108, 115, 101, 32, 101, 110, 100, 32, 119, 104, 105, 108, 101, 32, 117, 110, 114, 111, 108, 108, 32, 97, 115, 115, 101, 114, 116, 32, 97, 115, 115, 117, 109, 101, 32, 105, 110, 112, 117, 116, 32, 115, 112, 108, 105, 116, 32, 109, 101, 114, 103, 101, 32, 116, 114, 117, 101, 32, 102, 97, 108, 115, 101], ()) = some ((keys, ()), ((), ())) := by
    unfold Lb.Fields
    rw [if_pos (by decide +kernel)]
    have : Go.Lib.fields [118, 97, 114, 32, 102, 108, 97, 103, 32, 97, 114, 114, 97, 121, 32, 105, 102, 32, 102, 111, 114, 107, 32, 101, 108, 115, 101, 32, 101, 110, 100, 32, 119, 104, 105, 108, 101, 32, 117, 110, 114, 111, 108, 108, 32, 97, 115, 115, 101, 114, 116, 32, 97, 115, 115, 117, 109, 101, 32, 105, 110, 112, 117, 116, 32, 115, 112, 108, 105, 116, 32, 109, 101, 114, 103, 101, 32, 116, 114, 117, 101, 32, 102, 97, 108, 115, 101] = keys := by decide +kernel
    rw [this]
  simp only [h, bd_some]
  rw [slicesContains_is k keys s (by decide) hk]
  simp

theorem isName_is (k : Nat) (hk : 4194304 < k) (s : List UInt8) (hs : s.length ≤ 1048576) : impl_isName k (s, ()) = some ((nameOk s, ()), ((), ())) := by
  have h := iter_any (b := impl_isName.l0 k) (fun i => (s, (s.length : Int), (i : Int), ())) s (fun b => !letter b) (rf := some ((false, ()), ((), ()))) (r := some ((decide (1 ≤ s.length ∧ s.length ≤ 8) && !keys.contains s, ()), ((), ()))) (fun G i hi => by
    have h2 : ((i : Int) < (s.length : Int)) := by omega
    have h3 : (0 : Int) ≤ (i : Int) := by omega
    simp only [impl_isName.l0, impl_isLetter, br_dec, if_pos h2, if_pos h3, Int.toNat_natCast, List.getElem?_eq_getElem hi, bd_some]
    rw [wrap_succ (by omega)]
    by_cases c1 : ((s[i].toNat : Int) ≥ 97)
    · rw [if_pos c1]
      by_cases c2 : ((s[i].toNat : Int) ≤ 122)
      · have : letter s[i] = true := by simp [letter]; omega
        have c2' : decide ((s[i].toNat : Int) ≤ 122) = true := decide_eq_true c2
        simp only [Option.bind_some, c2', bd_some, br_false, this, Bool.not_true, Bool.false_eq_true, if_false]
      · have : letter s[i] = false := by simp [letter]; omega
        have c2' : decide ((s[i].toNat : Int) ≤ 122) = false := decide_eq_false c2
        simp only [Option.bind_some, c2', bd_some, br_true, this, Bool.not_false, if_true]
    · rw [if_neg c1]
      have : letter s[i] = false := by simp [letter]; omega
      simp only [Option.bind_some, bd_some, br_true, this, Bool.not_false, if_true]) (fun G => by
    have h2 : ¬ ((s.length : Int) < (s.length : Int)) := by omega
    simp only [impl_isName.l0, br_dec, if_neg h2, within_is, isWord_is k hk, bd_some]
    by_cases c : 1 ≤ s.length ∧ s.length ≤ 8
    · have c' : (1 : Int) ≤ (s.length : Int) ∧ (s.length : Int) ≤ 8 := by omega
      simp only [if_pos c', Option.bind_some, decide_eq_true c, Bool.true_and]
    · have c' : ¬ ((1 : Int) ≤ (s.length : Int) ∧ (s.length : Int) ≤ 8) := by omega
      simp only [if_neg c', Option.bind_some, decide_eq_false c, Bool.false_and]) (f := k) (by omega)
  unfold impl_isName
  refine Eq.trans h ?_
  unfold nameOk
  rw [show s.any (fun b => !letter b) = !s.all letter by rw [List.not_all_eq_any_not]]
  cases s.all letter <;> simp

/-! ### Lists of names -/

def badAt (l : Names) (i : Nat) : Bool := !nameOk (l.getD i []) || (l.take i).contains (l.getD i [])
def namesOk (l : Names) : Bool := !(List.range l.length).any (badAt l)
def arrsOk (l : List ArrT) : Bool := !l.any fun a => !decide (1 ≤ a.2.1 ∧ a.2.1 ≤ 16)
def namesOf (d : DeclT) : Names := (d.1 ++ d.2.1) ++ d.2.2.1.map (·.1)
def declOk (d : DeclT) : Bool := decide (d.1.length ≤ 5 ∧ d.2.1.length ≤ 3 ∧ d.2.2.1.length ≤ 2) && (arrsOk d.2.2.1 && namesOk (namesOf d))

theorem namesOf_small {d : DeclT} (hd : DSmall d) : (namesOf d).length ≤ 3145728 ∧ ∀ x ∈ namesOf d, x.length ≤ 1048576 := by
  have h0 := hd.n0
  have h1 := hd.n1
  have h2 := hd.n2
  refine ⟨by simp [namesOf]; omega, fun x hx => ?_⟩
  simp only [namesOf, List.mem_append, List.mem_map] at hx
  rcases hx with (hx | hx) | ⟨y, hy, rfl⟩
  · exact hd.s0 x hx
  · exact hd.s1 x hx
  · exact hd.s2 y hy

theorem declOk_l2 (k : Nat) (hk : 4194304 < k) (l : Names) (hl : l.length ≤ 3145728) (hs : ∀ x ∈ l, x.length ≤ 1048576) : iter (spec_DeclOk.l2 k) k (l, 0, ()) = some ((namesOk l, ()), ((), ())) := by
  have h := iter_range (b := spec_DeclOk.l2 k) (fun i => (l, (i : Int), ())) l.length (badAt l) (rf := some ((false, ()), ((), ()))) (r := some ((true, ()), ((), ()))) (fun G i hi => by
    have h2 : ((i : Int) < (l.length : Int)) := by omega
    have h3 : (0 : Int) ≤ (i : Int) ∧ (i : Int) < (l.length : Int) := by omega
    have h4 : (0 : Int) ≤ (i : Int) ∧ (i : Int) ≤ (l.length : Int) := by omega
    have e : subL l ((0 : Int).toNat) (i - (0 : Int).toNat) = l.take i := by simp [subL]
    obtain ⟨n, e1, e2⟩ := l3Place_is k (l.take i) l[i] (by simp; omega) hk
    have hg : l.getD i [] = l[i] := by simp [List.getD, List.getElem?_eq_getElem hi]
    simp only [spec_DeclOk.l2, br_dec, if_pos h2, if_pos h3, if_pos h4, Int.toNat_natCast, List.getElem?_eq_getElem hi, bd_some, l3Name_is k (by omega) l[i] (hs _ (List.getElem_mem _)), e, e1, e2]
    rw [wrap_succ (by omega), badAt, hg]
    cases nameOk l[i] <;> cases (l.take i).contains l[i] <;> simp) (fun G => by
    have h2 : ¬ ((l.length : Int) < (l.length : Int)) := by omega
    simp only [spec_DeclOk.l2, br_dec, if_neg h2]) (f := k) (by omega)
  refine Eq.trans h ?_
  unfold namesOk
  cases (List.range l.length).any (badAt l) <;> rfl

theorem specDeclOk_is (k : Nat) (hk : 4194304 < k) (d : DeclT) (hd : DSmall d) : spec_DeclOk k (d, ()) = some ((declOk d, ()), ((), ())) := by
  unfold spec_DeclOk declOk
  simp only [br_dec]
  by_cases c0 : (d.1.length : Int) > 5
  · rw [if_pos c0]
    have : decide (d.1.length ≤ 5 ∧ d.2.1.length ≤ 3 ∧ d.2.2.1.length ≤ 2) = false := by simp; omega
    simp [this]
  rw [if_neg c0]
  by_cases c1 : (d.2.1.length : Int) > 3
  · rw [if_pos c1]
    have : decide (d.1.length ≤ 5 ∧ d.2.1.length ≤ 3 ∧ d.2.2.1.length ≤ 2) = false := by simp; omega
    simp [this]
  rw [if_neg c1]
  by_cases c2 : (d.2.2.1.length : Int) > 2
  · have : decide (d.1.length ≤ 5 ∧ d.2.1.length ≤ 3 ∧ d.2.2.1.length ≤ 2) = false := by simp; omega
    have c2' : decide ((d.2.2.1.length : Int) > 2) = true := decide_eq_true c2
    simp only [Option.bind_some, c2', br_true, this, Bool.false_and]
  have c2' : decide ((d.2.2.1.length : Int) > 2) = false := decide_eq_false c2
  have hc : decide (d.1.length ≤ 5 ∧ d.2.1.length ≤ 3 ∧ d.2.2.1.length ≤ 2) = true := by simp; omega
  simp only [Option.bind_some, c2', br_false, hc, Bool.true_and]
  have l1 : (([] : List (List UInt8)).length + d.1.length) * 16 ≤ maxBytes := by simp [maxBytes]; omega
  have l2 : ((([] : List (List UInt8)) ++ d.1).length + d.2.1.length) * 16 ≤ maxBytes := by simp [maxBytes]; omega
  rw [if_pos l1, if_pos l2]
  obtain ⟨hn, hs⟩ := namesOf_small hd
  have h := iter_any (b := spec_DeclOk.l0 k) (fun i => ((d.1, d.2.1, d.2.2.1, ()), ((([] : List (List UInt8)) ++ d.1) ++ d.2.1) ++ (d.2.2.1.take i).map (·.1), (i : Int), ())) d.2.2.1 (fun a => !decide (1 ≤ a.2.1 ∧ a.2.1 ≤ 16)) (rf := some ((false, ()), ((), ()))) (r := some ((namesOk (namesOf d), ()), ((), ()))) (fun G i hi => by
    have h2 : ((i : Int) < (d.2.2.1.length : Int)) := by omega
    have h3 : (0 : Int) ≤ (i : Int) := by omega
    have h4 : (((([] : List (List UInt8)) ++ d.1) ++ d.2.1 ++ (d.2.2.1.take i).map (·.1)).length + ([d.2.2.1[i].1] : List (List UInt8)).length) * 16 ≤ maxBytes := by simp [maxBytes]; omega
    simp only [spec_DeclOk.l0, br_dec, if_pos h2, if_pos h3, Int.toNat_natCast, List.getElem?_eq_getElem hi, bd_some, l1In_is, if_pos h4]
    rw [wrap_succ (by omega), ← List.take_append_getElem hi, List.map_append, List.append_assoc (bs := List.map _ _)]
    cases decide (1 ≤ d.2.2.1[i].2.1 ∧ d.2.2.1[i].2.1 ≤ 16) <;> simp) (fun G => by
    have h2 : ¬ ((d.2.2.1.length : Int) < (d.2.2.1.length : Int)) := by omega
    simp only [spec_DeclOk.l0, br_dec, if_neg h2, List.take_length]
    exact declOk_l2 k hk (namesOf d) hn hs) (f := k) (by omega)
  simp only [List.take_zero, List.map_nil, List.append_nil] at h
  refine Eq.trans h ?_
  unfold arrsOk
  cases d.2.2.1.any (fun a => !decide (1 ≤ a.2.1 ∧ a.2.1 ≤ 16)) <;> simp
end Go.Pev.F
end

section
/-
  Which names are right: the program's test.
-/
set_option linter.unusedVariables false
set_option linter.unusedSimpArgs false
namespace Go.Pev.F

theorem take_flat {l : List Names} {i : Nat} (hi : i < l.length) : (l.take (i + 1)).flatten = (l.take i).flatten ++ l[i] := by
  rw [← List.take_append_getElem hi, List.flatten_append]; simp

theorem flat_le (l : List Names) (i : Nat) : (l.take i).flatten.length ≤ l.flatten.length := by
  conv => rhs; rw [← List.take_append_drop i l, List.flatten_append, List.length_append]
  omega

theorem concat_is (k : Nat) (l : List Names) (hl : l.length < k) (hk : k ≤ 4611686018427387903) (hb : l.flatten.length ≤ 4194304) : slices_Concat_string_string k (l, ()) = some ((l.flatten, ()), ((), ())) := by
  unfold slices_Concat_string_string
  have h2 : iter (slices_Concat_string_string.l2 k) k ([], l, (l.length : Int), 0, ()) = some ((l.flatten, ()), ((), ())) := by
    have h := iter_for (b := slices_Concat_string_string.l2 k) (fun i => ((l.take i).flatten, l, (l.length : Int), (i : Int), ())) l.length (r := some ((l.flatten, ()), ((), ()))) (fun G i hi => by
      have h2 : ((i : Int) < (l.length : Int)) := by omega
      have h3 : (0 : Int) ≤ (i : Int) := by omega
      have h5 := flat_le l (i + 1)
      rw [take_flat hi, List.length_append] at h5
      have h4 : ((l.take i).flatten.length + l[i].length) * 16 ≤ maxBytes := by simp only [maxBytes]; omega
      simp only [slices_Concat_string_string.l2, br_dec, if_pos h2, if_pos h3, Int.toNat_natCast, List.getElem?_eq_getElem hi, bd_some, if_pos h4]
      rw [wrap_succ (by omega), take_flat hi]) (fun G => by
      have h2 : ¬ ((l.length : Int) < (l.length : Int)) := by omega
      simp only [slices_Concat_string_string.l2, br_dec, if_neg h2, List.take_length]) hl
    exact h
  have h := iter_for (b := slices_Concat_string_string.l0 k) (fun i => (l, ((l.take i).flatten.length : Int), l, (l.length : Int), (i : Int), ())) l.length (r := some ((l.flatten, ()), ((), ()))) (fun G i hi => by
    have h2 : ((i : Int) < (l.length : Int)) := by omega
    have h3 : (0 : Int) ≤ (i : Int) := by omega
    have h5 := flat_le l (i + 1)
    have h6 : (l.take (i + 1)).flatten.length = (l.take i).flatten.length + l[i].length := by rw [take_flat hi, List.length_append]
    have e : IntKind.wrap .i64 (((l.take i).flatten.length : Int) + (l[i].length : Int)) = ((l.take (i + 1)).flatten.length : Int) := by
      rw [wrap_i64 (by omega) (by omega), h6]; omega
    have h4 : ¬ (((l.take (i + 1)).flatten.length : Int) < 0) := by omega
    simp only [slices_Concat_string_string.l0, br_dec, if_pos h2, if_pos h3, Int.toNat_natCast, List.getElem?_eq_getElem hi, bd_some, e, if_neg h4]
    rw [wrap_succ (by omega)]) (fun G => by
    have h3 : ¬ ((l.length : Int) < (l.length : Int)) := by omega
    have h4 : 0 ≤ (l.flatten.length : Int) ∧ (l.flatten.length : Int) * ((16 : Nat) : Int) ≤ 140737488355328 := by omega
    simp only [slices_Concat_string_string.l0, br_dec, if_neg h3, List.take_length, Lb.slices_Grow_string_string, Grow, if_pos h4, bd_some]
    exact h2) hl
  exact h

theorem names_is (k : Nat) (hk : 4194304 < k) (hk2 : k ≤ 4611686018427387903) (d : DeclT) (hd : DSmall d) : impl_Decl_names k (d, ()) = some ((namesOf d, ()), ((), ())) := by
  have n0 := hd.n0
  have n1 := hd.n1
  have n2 := hd.n2
  have e : ([d.1, d.2.1] : List Names).flatten = d.1 ++ d.2.1 := by simp
  unfold impl_Decl_names
  have hc := concat_is k [d.1, d.2.1] (by show 2 < k; omega) hk2 (by rw [e]; simp; omega)
  rw [e] at hc
  simp only [hc, bd_some]
  have h := iter_for (b := impl_Decl_names.l0 k) (fun i => ((d.1 ++ d.2.1) ++ (d.2.2.1.take i).map (·.1), d.2.2.1, (d.2.2.1.length : Int), (i : Int), ())) d.2.2.1.length (r := some ((namesOf d, ()), ((), ()))) (fun G i hi => by
    have h2 : ((i : Int) < (d.2.2.1.length : Int)) := by omega
    have h3 : (0 : Int) ≤ (i : Int) := by omega
    have h4 : ((((d.1 ++ d.2.1) ++ (d.2.2.1.take i).map (·.1)).length) + ([d.2.2.1[i].1] : List (List UInt8)).length) * 16 ≤ maxBytes := by simp [maxBytes]; omega
    simp only [impl_Decl_names.l0, br_dec, if_pos h2, if_pos h3, Int.toNat_natCast, List.getElem?_eq_getElem hi, bd_some, if_pos h4]
    rw [wrap_succ (by omega), ← List.take_append_getElem hi, List.map_append, List.append_assoc (bs := List.map _ _)]
    rfl) (fun G => by
    have h2 : ¬ ((d.2.2.1.length : Int) < (d.2.2.1.length : Int)) := by omega
    simp only [impl_Decl_names.l0, br_dec, if_neg h2, List.take_length]
    rfl) (f := k) (by omega)
  simp only [List.take_zero, List.map_nil, List.append_nil] at h
  exact h

theorem areAllArr_is (k : Nat) (l : List ArrT) (hl : l.length ≤ 1048576) (hk : 4194304 < k) : impl_areAll_impl_Arr k (l, (()), ()) = some ((arrsOk l, ()), ((), (()), ())) := by
  obtain ⟨n, h1, h2⟩ := iter_find (b := slices_IndexFunc_impl_Arr_impl_Arr.l0 k) (fun i => (l, (((()), ()), ()), (l.length : Int), (i : Int), ())) l (fun a => !decide (1 ≤ a.2.1 ∧ a.2.1 ≤ 16)) (o := ((), (((()), ()), ()), ())) (fun G i hi => by
    have h2 : ((i : Int) < (l.length : Int)) := by omega
    have h3 : (0 : Int) ≤ (i : Int) := by omega
    simp only [slices_IndexFunc_impl_Arr_impl_Arr.l0, impl_areAll_impl_Arr_1, impl_Decl_isRight_1, within_is, br_dec, if_pos h2, if_pos h3, Int.toNat_natCast, List.getElem?_eq_getElem hi, bd_some]
    rw [wrap_succ (by omega)]
    cases decide (1 ≤ l[i].2.1 ∧ l[i].2.1 ≤ 16) <;> simp) (fun G => by
    have h2 : ¬ ((l.length : Int) < (l.length : Int)) := by omega
    simp only [slices_IndexFunc_impl_Arr_impl_Arr.l0, br_dec, if_neg h2]) (f := k) (by omega)
  unfold impl_areAll_impl_Arr slices_ContainsFunc_impl_Arr_impl_Arr slices_IndexFunc_impl_Arr_impl_Arr
  have h1' : iter (slices_IndexFunc_impl_Arr_impl_Arr.l0 k) k (l, (((()), ()), ()), (l.length : Int), 0, ()) = some ((n, ()), ((), (((()), ()), ()), ())) := h1
  simp only [h1', bd_some, h2]
  rfl

theorem implDeclOk_is (k : Nat) (hk : 4194304 < k) (hk2 : k ≤ 4611686018427387903) (d : DeclT) (hd : DSmall d) : impl_Decl_isRight k (d, ()) = some ((declOk d, ()), ((), ())) := by
  have n2 := hd.n2
  obtain ⟨hn, hs⟩ := namesOf_small hd
  unfold impl_Decl_isRight
  simp only [names_is k hk hk2 d hd, bd_some]
  have h := iter_range (b := impl_Decl_isRight.l0 k) (fun i => ((d.1, d.2.1, d.2.2.1, ()), namesOf d, namesOf d, ((namesOf d).length : Int), (i : Int), ())) (namesOf d).length (badAt (namesOf d)) (rf := some ((false, ()), ((), ()))) (r := some ((decide (d.1.length ≤ 5 ∧ d.2.1.length ≤ 3 ∧ d.2.2.1.length ≤ 2) && arrsOk d.2.2.1, ()), ((), ()))) (fun G i hi => by
    have h2 : ((i : Int) < ((namesOf d).length : Int)) := by omega
    have h3 : (0 : Int) ≤ (i : Int) := by omega
    have h4 : (0 : Int) ≤ (i : Int) ∧ (i : Int) ≤ ((namesOf d).length : Int) := by omega
    have hg : (namesOf d).getD i [] = (namesOf d)[i] := by simp [List.getD, List.getElem?_eq_getElem hi]
    simp only [impl_Decl_isRight.l0, br_dec, if_pos h2, if_pos h3, if_pos h4, Int.toNat_natCast, List.getElem?_eq_getElem hi, bd_some, isName_is k hk (namesOf d)[i] (hs _ (List.getElem_mem _)), slicesContains_is k ((namesOf d).take i) (namesOf d)[i] (by simp; omega) hk]
    rw [wrap_succ (by omega), badAt, hg]
    cases nameOk (namesOf d)[i] <;> cases ((namesOf d).take i).contains (namesOf d)[i] <;> simp) (fun G => by
    have h2 : ¬ (((namesOf d).length : Int) < ((namesOf d).length : Int)) := by omega
    simp only [impl_Decl_isRight.l0, br_dec, if_neg h2, areAllArr_is k d.2.2.1 hd.n2 hk, bd_some]
    by_cases c0 : d.1.length ≤ 5
    · rw [if_pos (by omega)]
      by_cases c1 : d.2.1.length ≤ 3
      · rw [if_pos (by omega)]
        by_cases c2 : d.2.2.1.length ≤ 2
        · rw [if_pos (by omega)]
          simp [c0, c1, c2]
        · rw [if_neg (by omega)]
          simp [c2]
      · rw [if_neg (by omega)]
        simp [c1]
    · rw [if_neg (by omega)]
      simp [c0]) (f := k) (by omega)
  refine Eq.trans h ?_
  unfold declOk namesOk
  cases (List.range (namesOf d).length).any (badAt (namesOf d)) <;> simp
end Go.Pev.F
end

section
/-
  Which expressions are right, and of what kind: the reference's test and the program's agree.
-/
set_option linter.unusedVariables false
set_option linter.unusedSimpArgs false
namespace Go.Pev.F

abbrev TokT := Int × Int × Unit

/-! ### What an op takes and leaves -/

def nT (op : Int) : Nat := if op ≤ 5 then 0 else if op ≤ 7 ∨ op = 19 then 1 else 2
def kT (op : Int) : Int := if op = 3 ∨ op = 4 ∨ op = 5 then 0 else if op ≤ 18 then 1 else 2
def leavesK (op : Int) : Int := if op = 3 ∨ op = 4 ∨ op = 5 then 2 else if op ≤ 12 then 1 else 2
def tokOk (d : DeclT) (t : TokT) : Bool :=
  if t.1 = 1 then decide (0 ≤ t.2.1 ∧ t.2.1 ≤ 999999999999999999)
  else if t.1 = 2 then decide (0 ≤ t.2.1 ∧ t.2.1 ≤ (d.1.length : Int) - 1)
  else if t.1 = 3 then decide (0 ≤ t.2.1 ∧ t.2.1 ≤ (d.2.1.length : Int) - 1)
  else if t.1 = 6 then decide (0 ≤ t.2.1 ∧ t.2.1 ≤ (d.2.2.1.length : Int) - 1)
  else decide (4 ≤ t.1 ∧ t.1 ≤ 21) && (t.2.1 == 0)

theorem nT_le (op : Int) : nT op ≤ 2 := by
  unfold nT
  split
  · omega
  · split <;> omega

theorem tokOk_op {d : DeclT} {t : TokT} (h : tokOk d t = true) : 1 ≤ t.1 ∧ t.1 ≤ 21 := by
  unfold tokOk at h
  by_cases h1 : t.1 = 1
  · omega
  by_cases h2 : t.1 = 2
  · omega
  by_cases h3 : t.1 = 3
  · omega
  by_cases h6 : t.1 = 6
  · omega
  rw [if_neg h1, if_neg h2, if_neg h3, if_neg h6, Bool.and_eq_true] at h
  have := of_decide_eq_true h.1
  omega

theorem l3Takes_is (k : Nat) (op : Int) : spec_l3Takes k (op, ()) = some (((nT op : Int), ()), ((), ())) := by
  unfold spec_l3Takes nT
  simp only [br_dec]
  by_cases h1 : op ≤ 5
  · simp [h1]
  · rw [if_neg h1, if_neg h1]
    by_cases h2 : op ≤ 7
    · simp [h2]
    · rw [if_neg h2]
      by_cases h3 : op = 19
      · subst h3; simp
      · have : (op == 19) = false := by simpa using h3
        simp [this, h2, h3]

theorem l3Kinds_is (k : Nat) (op : Int) : spec_l3Kinds k (op, ()) = some ((kT op, leavesK op, ()), ((), ())) := by
  unfold spec_l3Kinds kT leavesK
  simp only [br_dec, br_beq]
  by_cases h3 : op = 3
  · subst h3; simp
  by_cases h4 : op = 4
  · subst h4; simp
  by_cases h5 : op = 5
  · subst h5; simp
  have e5 : (op == 5) = false := by simpa using h5
  simp only [h3, h4, h5, e5, if_false, Option.bind_some, br_false, false_or]
  by_cases h12 : op ≤ 12
  · have h18 : op ≤ 18 := by omega
    simp [h12, h18]
  · by_cases h18 : op ≤ 18 <;> simp [h12, h18]

theorem l3Tok_is (k : Nat) (d : DeclT) (hd : DSmall d) (t : TokT) : spec_l3Tok k (d, t, ()) = some ((tokOk d t, ()), ((), (), ())) := by
  have n0 := hd.n0
  have n1 := hd.n1
  have n2 := hd.n2
  unfold spec_l3Tok tokOk
  simp only [br_beq, l1In_is, bd_some]
  rw [wrap_i64 (n := (d.1.length : Int) - 1) (by omega) (by omega), wrap_i64 (n := (d.2.1.length : Int) - 1) (by omega) (by omega), wrap_i64 (n := (d.2.2.1.length : Int) - 1) (by omega) (by omega)]
  by_cases h1 : t.1 = 1
  · simp only [if_pos h1]
  by_cases h2 : t.1 = 2
  · simp only [if_neg h1, if_pos h2]
  by_cases h3 : t.1 = 3
  · simp only [if_neg h1, if_neg h2, if_pos h3]
  by_cases h6 : t.1 = 6
  · simp only [if_neg h1, if_neg h2, if_neg h3, if_pos h6]
  simp only [if_neg h1, if_neg h2, if_neg h3, if_neg h6]
  cases decide (4 ≤ t.1 ∧ t.1 ≤ 21) <;> simp

theorem isTok_is (k : Nat) (d : DeclT) (hd : DSmall d) (t : TokT) : impl_Decl_isTok k (d, t, ()) = some ((tokOk d t, ()), ((), (), ())) := by
  have n0 := hd.n0
  have n1 := hd.n1
  have n2 := hd.n2
  unfold impl_Decl_isTok tokOk impl_size_string impl_size_impl_Arr
  simp only [br_beq, within_is, bd_some]
  rw [wrap_i64 (n := (d.1.length : Int) - 1) (by omega) (by omega), wrap_i64 (n := (d.2.1.length : Int) - 1) (by omega) (by omega), wrap_i64 (n := (d.2.2.1.length : Int) - 1) (by omega) (by omega)]
  by_cases h1 : t.1 = 1
  · simp only [if_pos h1]
  by_cases h2 : t.1 = 2
  · simp only [if_neg h1, if_pos h2]
  by_cases h3 : t.1 = 3
  · simp only [if_neg h1, if_neg h2, if_pos h3]
  by_cases h6 : t.1 = 6
  · simp only [if_neg h1, if_neg h2, if_neg h3, if_pos h6]
  simp only [if_neg h1, if_neg h2, if_neg h3, if_neg h6]
  cases decide (4 ≤ t.1 ∧ t.1 ≤ 21) <;> simp

theorem takes_is (k : Nat) (op : Int) (h : 1 ≤ op ∧ op ≤ 21) : impl_takes k (op, ()) = some ((List.replicate (nT op) (kT op), ()), ((), ())) := by
  have : op = 1 ∨ op = 2 ∨ op = 3 ∨ op = 4 ∨ op = 5 ∨ op = 6 ∨ op = 7 ∨ op = 8 ∨ op = 9 ∨ op = 10 ∨ op = 11 ∨ op = 12 ∨ op = 13 ∨ op = 14 ∨ op = 15 ∨ op = 16 ∨ op = 17 ∨ op = 18 ∨ op = 19 ∨ op = 20 ∨ op = 21 := by omega
  unfold impl_takes
  simp only [within_is, br_beq, bd_some]
  rcases this with rfl | rfl | rfl | rfl | rfl | rfl | rfl | rfl | rfl | rfl | rfl | rfl | rfl | rfl | rfl | rfl | rfl | rfl | rfl | rfl | rfl <;> simp [nT, kT, br_dec, List.replicate]

theorem leaves_is (k : Nat) (op : Int) (h : 1 ≤ op ∧ op ≤ 21) : impl_leaves k (op, ()) = some ((leavesK op, ()), ((), ())) := by
  have : op = 1 ∨ op = 2 ∨ op = 3 ∨ op = 4 ∨ op = 5 ∨ op = 6 ∨ op = 7 ∨ op = 8 ∨ op = 9 ∨ op = 10 ∨ op = 11 ∨ op = 12 ∨ op = 13 ∨ op = 14 ∨ op = 15 ∨ op = 16 ∨ op = 17 ∨ op = 18 ∨ op = 19 ∨ op = 20 ∨ op = 21 := by omega
  unfold impl_leaves
  simp only [within_is, bd_some]
  rcases this with rfl | rfl | rfl | rfl | rfl | rfl | rfl | rfl | rfl | rfl | rfl | rfl | rfl | rfl | rfl | rfl | rfl | rfl | rfl | rfl | rfl <;> simp [leavesK, br_dec]

/-! ### The pile -/

def stepP (p : List Int) (op : Int) : Option (List Int) :=
  if nT op ≤ p.length ∧ p.drop (p.length - nT op) = List.replicate (nT op) (kT op) then some (p.take (p.length - nT op) ++ [leavesK op]) else none
def runP : List Int → List TokT → Option (List Int)
  | p, [] => some p
  | p, t :: r => (stepP p t.1).bind fun q => runP q r
def resE : Option (List Int) → Int
  | some [x] => x
  | _ => 0
def exprK (d : DeclT) (l : List TokT) : Int := cond (decide (l.length ≤ 40) && l.all (tokOk d)) (resE (runP [] l)) 0

theorem resE_pile (k : Nat) (p : List Int) : (br k ((p.length : Int) != 1)
      (some ((0, ()), ((), (), ())))
      (br k (decide (0 ≤ (0 : Int) ∧ (0 : Int) < (p.length : Int)))
      (bd k (p[(0 : Int).toNat]?) fun x11 =>
      some ((x11, ()), ((), (), ())))
      none) : Option ((Int × Unit) × (Unit × Unit × Unit))) = some ((resE (some p), ()), ((), (), ())) := by
  match p with
  | [] => simp [resE]
  | [x] => simp [resE]
  | x :: y :: r =>
    have : (((x :: y :: r).length : Int) != 1) = true := by simp; omega
    simp only [this, br_true, resE]

theorem sliceEqual_is (k : Nat) (a b : List Int) (ha : a.length < k) (hk : k ≤ 4611686018427387903) : slices_Equal_int64_int64 k (a, b, ()) = some ((decide (a = b), ()), ((), (), ())) := by
  unfold slices_Equal_int64_int64
  by_cases hl : a.length = b.length
  · have hb : ((a.length : Int) != (b.length : Int)) = false := by simp [hl]
    simp only [hb, br_false]
    have h := iter_first (b := slices_Equal_int64_int64.l0 k) (fun i => (a, b, (a.length : Int), (i : Int), ())) a.length (fun i => a.getD i 0 != b.getD i 0) (fun _ => some ((false, ()), ((), (), ()))) (r := some ((true, ()), ((), (), ()))) (fun G i hi => by
      have hi2 : i < b.length := by omega
      have h2 : ((i : Int) < (a.length : Int)) := by omega
      have h3 : (0 : Int) ≤ (i : Int) := by omega
      have g1 : a.getD i 0 = a[i] := by simp [List.getD, List.getElem?_eq_getElem hi]
      have g2 : b.getD i 0 = b[i] := by simp [List.getD, List.getElem?_eq_getElem hi2]
      simp only [slices_Equal_int64_int64.l0, br_dec, if_pos h2, if_pos h3, Int.toNat_natCast, List.getElem?_eq_getElem hi, List.getElem?_eq_getElem hi2, bd_some, g1, g2]
      rw [wrap_succ (by omega)]
      cases (a[i] != b[i]) <;> simp) (fun G => by
      have h2 : ¬ ((a.length : Int) < (a.length : Int)) := by omega
      simp only [slices_Equal_int64_int64.l0, br_dec, if_neg h2]) ha
    rcases h with ⟨i, hi, hq, e⟩ | ⟨hq, e⟩
    · refine Eq.trans e ?_
      have hne : a ≠ b := by
        intro h; subst h; simp at hq
      simp [hne]
    · refine Eq.trans e ?_
      have he : a = b := by
        apply List.ext_getElem hl
        intro i h1 h2
        have := hq i h1
        simp only [List.getD, List.getElem?_eq_getElem h1, List.getElem?_eq_getElem h2, Option.getD_some, bne_eq_false_iff_eq] at this
        exact this
      simp [he]
  · have hb : ((a.length : Int) != (b.length : Int)) = true := by simp; omega
    have hne : a ≠ b := fun h => hl (by rw [h])
    simp only [hb, br_true, hne, decide_false]

theorem implExpr_loop (k : Nat) (hk : 4194304 < k) (hk2 : k ≤ 4611686018427387903) (d : DeclT) (l : List TokT) (hl : l.length ≤ 40) (hok : ∀ t ∈ l, tokOk d t = true) : ∀ (n i f : Nat) (p : List Int), i + n = l.length → n < f → p.length ≤ i →
    iter (impl_Decl_kindOf.l0 k) f (p, l, (l.length : Int), (i : Int), ()) = some ((resE (runP p (l.drop i)), ()), ((), (), ())) := by
  intro n
  induction n with
  | zero =>
    intro i f p hi hf hp
    obtain ⟨f, rfl⟩ : ∃ g, f = g + 1 := ⟨f - 1, by omega⟩
    have h2 : ¬ ((i : Int) < (l.length : Int)) := by omega
    rw [iter_succ, List.drop_of_length_le (by omega)]
    simp only [impl_Decl_kindOf.l0, br_dec (p := (i : Int) < (l.length : Int)), if_neg h2, runP]
    exact resE_pile k p
  | succ n ih =>
    intro i f p hi hf hp
    obtain ⟨f, rfl⟩ : ∃ g, f = g + 1 := ⟨f - 1, by omega⟩
    have hi' : i < l.length := by omega
    have h2 : ((i : Int) < (l.length : Int)) := by omega
    have h3 : (0 : Int) ≤ (i : Int) := by omega
    have hop := tokOk_op (hok l[i] (List.getElem_mem hi'))
    have hn := nT_le l[i].1
    rw [iter_succ, List.drop_eq_getElem_cons hi']
    simp only [impl_Decl_kindOf.l0, br_dec, if_pos h2, if_pos h3, Int.toNat_natCast, List.getElem?_eq_getElem hi', bd_some, takes_is k l[i].1 hop, leaves_is k l[i].1 hop, List.length_replicate, runP]
    rw [wrap_i64 (n := (p.length : Int) - (nT l[i].1 : Int)) (by omega) (by omega)]
    by_cases hlt : p.length < nT l[i].1
    · have c1 : ((p.length : Int) - (nT l[i].1 : Int)) < 0 := by omega
      have c2 : ¬ (nT l[i].1 ≤ p.length ∧ p.drop (p.length - nT l[i].1) = List.replicate (nT l[i].1) (kT l[i].1)) := by omega
      simp only [if_pos c1, Option.bind_some, br_true, stepP, if_neg c2, Option.bind_none, resE]
    · have c1 : ¬ ((p.length : Int) - (nT l[i].1 : Int)) < 0 := by omega
      have c2 : 0 ≤ ((p.length : Int) - (nT l[i].1 : Int)) ∧ ((p.length : Int) - (nT l[i].1 : Int)) ≤ (p.length : Int) := by omega
      have ew : ((p.length : Int) - (nT l[i].1 : Int)).toNat = p.length - nT l[i].1 := by omega
      have es : subL p (p.length - nT l[i].1) (p.length - (p.length - nT l[i].1)) = p.drop (p.length - nT l[i].1) := by
        unfold subL; rw [List.take_of_length_le (by simp)]
      have et : subL p ((0 : Int).toNat) (p.length - nT l[i].1 - (0 : Int).toNat) = p.take (p.length - nT l[i].1) := by simp [subL]
      have hm : ((p.take (p.length - nT l[i].1)).length + ([leavesK l[i].1] : List Int).length) * 8 ≤ maxBytes := by simp [maxBytes]; omega
      simp only [if_neg c1, if_pos c2, ew, es, et, sliceEqual_is k (p.drop (p.length - nT l[i].1)) (List.replicate (nT l[i].1) (kT l[i].1)) (by simp; omega) hk2, bd_some, Option.bind_some, if_pos hm]
      rw [wrap_succ (by omega)]
      by_cases he : p.drop (p.length - nT l[i].1) = List.replicate (nT l[i].1) (kT l[i].1)
      · have c3 : nT l[i].1 ≤ p.length ∧ p.drop (p.length - nT l[i].1) = List.replicate (nT l[i].1) (kT l[i].1) := ⟨by omega, he⟩
        simp only [decide_eq_true he, Bool.not_true, br_false, stepP, if_pos c3, Option.bind_some]
        exact ih (i + 1) f _ (by omega) (by omega) (by simp; omega)
      · have c3 : ¬ (nT l[i].1 ≤ p.length ∧ p.drop (p.length - nT l[i].1) = List.replicate (nT l[i].1) (kT l[i].1)) := fun h => he h.2
        simp only [decide_eq_false he, Bool.not_false, br_true, stepP, if_neg c3, Option.bind_none, resE]

theorem areAllTok_is (k : Nat) (hk : 4194304 < k) (d : DeclT) (hd : DSmall d) (l : List TokT) (hl : l.length ≤ 1048576) : impl_areAll_impl_Tok k (l, (d, ()), ()) = some ((l.all (tokOk d), ()), ((), ((), ()), ())) := by
  obtain ⟨n, h1, h2⟩ := iter_find (b := slices_IndexFunc_impl_Tok_impl_Tok.l0 k) (fun i => (l, (((d, ()), ()), ()), (l.length : Int), (i : Int), ())) l (fun t => !tokOk d t) (o := ((), (((d, ()), ()), ()), ())) (fun G i hi => by
    have h2 : ((i : Int) < (l.length : Int)) := by omega
    have h3 : (0 : Int) ≤ (i : Int) := by omega
    simp only [slices_IndexFunc_impl_Tok_impl_Tok.l0, impl_areAll_impl_Tok_1, isTok_is k d hd, br_dec, if_pos h2, if_pos h3, Int.toNat_natCast, List.getElem?_eq_getElem hi, bd_some]
    rw [wrap_succ (by omega)]
    cases tokOk d l[i] <;> simp) (fun G => by
    have h2 : ¬ ((l.length : Int) < (l.length : Int)) := by omega
    simp only [slices_IndexFunc_impl_Tok_impl_Tok.l0, br_dec, if_neg h2]) (f := k) (by omega)
  unfold impl_areAll_impl_Tok slices_ContainsFunc_impl_Tok_impl_Tok slices_IndexFunc_impl_Tok_impl_Tok
  have h1' : iter (slices_IndexFunc_impl_Tok_impl_Tok.l0 k) k (l, (((d, ()), ()), ()), (l.length : Int), 0, ()) = some ((n, ()), ((), (((d, ()), ()), ()), ())) := h1
  simp only [h1', bd_some, h2]
  rw [List.not_any_eq_all_not]
  simp

theorem kindOf_is (k : Nat) (hk : 4194304 < k) (hk2 : k ≤ 4611686018427387903) (d : DeclT) (hd : DSmall d) (l : List TokT) (hl : l.length ≤ 1048576) : impl_Decl_kindOf k (d, l, ()) = some ((exprK d l, ()), ((), (), ())) := by
  unfold impl_Decl_kindOf exprK
  simp only [br_dec]
  by_cases hc : (l.length : Int) > 40
  · have : decide (l.length ≤ 40) = false := by simp; omega
    simp [if_pos hc, this]
  · have hc' : l.length ≤ 40 := by omega
    simp only [if_neg hc, areAllTok_is k hk d hd l hl, bd_some, decide_eq_true hc', Bool.true_and]
    cases ha : l.all (tokOk d) with
    | false => simp
    | true =>
      have h := implExpr_loop k hk hk2 d l hc' (fun t ht => List.all_eq_true.1 ha t ht) l.length 0 k [] (by omega) (by omega) (Nat.zero_le _)
      simp only [Bool.not_true, br_false, cond_true]
      exact h

/-! ### The reference -/

theorem specExpr_loop (k : Nat) (hk : 4194304 < k) (hk2 : k ≤ 4611686018427387903) (d : DeclT) (hd : DSmall d) (l : List TokT) (hl : l.length ≤ 40) : ∀ (n i f : Nat) (p : List Int), i + n = l.length → n < f → p.length ≤ i →
    iter (spec_ExprOk.l0 k) f (l, d, p, (i : Int), ()) = some ((cond ((l.drop i).all (tokOk d)) (resE (runP p (l.drop i))) 0, ()), ((), (), ())) := by
  intro n
  induction n with
  | zero =>
    intro i f p hi hf hp
    obtain ⟨f, rfl⟩ : ∃ g, f = g + 1 := ⟨f - 1, by omega⟩
    have h2 : ¬ ((i : Int) < (l.length : Int)) := by omega
    rw [iter_succ, List.drop_of_length_le (by omega)]
    simp only [spec_ExprOk.l0, br_dec (p := (i : Int) < (l.length : Int)), if_neg h2, runP, List.all_nil, cond_true]
    exact resE_pile k p
  | succ n ih =>
    intro i f p hi hf hp
    obtain ⟨f, rfl⟩ : ∃ g, f = g + 1 := ⟨f - 1, by omega⟩
    have hi' : i < l.length := by omega
    have h2 : ((i : Int) < (l.length : Int)) := by omega
    have h3 : (0 : Int) ≤ (i : Int) := by omega
    have hn := nT_le l[i].1
    have ed : ((d.1, d.2.1, d.2.2.1, ()) : DeclT) = d := rfl
    rw [iter_succ, List.drop_eq_getElem_cons hi', List.all_cons]
    simp only [spec_ExprOk.l0, br_dec (p := (i : Int) < (l.length : Int)), br_dec (p := (0 : Int) ≤ (i : Int)), if_pos h2, if_pos h3, Int.toNat_natCast, List.getElem?_eq_getElem hi', bd_some, l3Takes_is, l3Kinds_is, ed, l3Tok_is k d hd, runP]
    cases ht : tokOk d l[i] with
    | false => simp
    | true =>
      simp only [Bool.not_true, br_false, Option.bind_some, Bool.true_and]
      by_cases hlt : p.length < nT l[i].1
      · have c1 : ((p.length : Int) < (nT l[i].1 : Int)) := by omega
        have c2 : ¬ (nT l[i].1 ≤ p.length ∧ p.drop (p.length - nT l[i].1) = List.replicate (nT l[i].1) (kT l[i].1)) := by omega
        simp only [decide_eq_true c1, br_true, stepP, if_neg c2, Option.bind_none, resE]
        cases (l.drop (i + 1)).all (tokOk d) <;> rfl
      · have c1 : ¬ ((p.length : Int) < (nT l[i].1 : Int)) := by omega
        simp only [decide_eq_false c1, br_false]
        rw [wrap_i64 (n := (p.length : Int) - (nT l[i].1 : Int)) (by omega) (by omega)]
        have ih' := fun j p h1 h2 h3 => ih j f p h1 h2 h3
        generalize hG : iter (spec_ExprOk.l0 k) f = G0 at ih' ⊢
        have hin := iter_first (b := spec_ExprOk.l2 k G0) (fun j => (l, d, p, (i : Int), (nT l[i].1 : Int), kT l[i].1, leavesK l[i].1, (p.length : Int) - (nT l[i].1 : Int) + (j : Int), ())) (nT l[i].1) (fun j => p.getD (p.length - nT l[i].1 + j) 0 != kT l[i].1) (fun _ => some ((0, ()), ((), (), ()))) (r := G0 (l, d, p.take (p.length - nT l[i].1) ++ [leavesK l[i].1], ((i + 1 : Nat) : Int), ())) (fun G j hj => by
          have hj' : p.length - nT l[i].1 + j < p.length := by omega
          have k2 : ((p.length : Int) - (nT l[i].1 : Int) + (j : Int)) < (p.length : Int) := by omega
          have k3 : 0 ≤ ((p.length : Int) - (nT l[i].1 : Int) + (j : Int)) ∧ ((p.length : Int) - (nT l[i].1 : Int) + (j : Int)) < (p.length : Int) := by omega
          have k4 : ((p.length : Int) - (nT l[i].1 : Int) + (j : Int)).toNat = p.length - nT l[i].1 + j := by omega
          have g1 : p.getD (p.length - nT l[i].1 + j) 0 = p[p.length - nT l[i].1 + j] := by simp [List.getD, List.getElem?_eq_getElem hj']
          simp only [spec_ExprOk.l2, br_dec, if_pos k2, if_pos k3, k4, List.getElem?_eq_getElem hj', bd_some, g1]
          rw [wrap_i64 (n := (p.length : Int) - (nT l[i].1 : Int) + (j : Int) + 1) (by omega) (by omega)]
          have k5 : (p.length : Int) - (nT l[i].1 : Int) + (j : Int) + 1 = (p.length : Int) - (nT l[i].1 : Int) + ((j + 1 : Nat) : Int) := by omega
          rw [k5]
          cases (p[p.length - nT l[i].1 + j] != kT l[i].1) <;> simp) (fun G => by
          have k2 : ¬ ((p.length : Int) - (nT l[i].1 : Int) + (nT l[i].1 : Int)) < (p.length : Int) := by omega
          have k3 : 0 ≤ ((p.length : Int) - (nT l[i].1 : Int)) ∧ ((p.length : Int) - (nT l[i].1 : Int)) ≤ (p.length : Int) := by omega
          have ew : ((p.length : Int) - (nT l[i].1 : Int)).toNat = p.length - nT l[i].1 := by omega
          have et : subL p ((0 : Int).toNat) (p.length - nT l[i].1 - (0 : Int).toNat) = p.take (p.length - nT l[i].1) := by simp [subL]
          have hm : ((p.take (p.length - nT l[i].1)).length + ([leavesK l[i].1] : List Int).length) * 8 ≤ maxBytes := by simp [maxBytes]; omega
          simp only [spec_ExprOk.l2, br_dec, if_neg k2]
          rw [wrap_i64 (n := (p.length : Int) - (nT l[i].1 : Int)) (by omega) (by omega)]
          simp only [if_pos k3, ew, et, if_pos hm]
          rw [wrap_succ (by omega)]) (f := k) (by omega)
        have e0 : (p.length : Int) - (nT l[i].1 : Int) + ((0 : Nat) : Int) = (p.length : Int) - (nT l[i].1 : Int) := by omega
        simp only [e0] at hin
        rcases hin with ⟨j, hj, hq, e⟩ | ⟨hq, e⟩
        · refine Eq.trans e ?_
          have hj' : p.length - nT l[i].1 + j < p.length := by omega
          have c3 : ¬ (nT l[i].1 ≤ p.length ∧ p.drop (p.length - nT l[i].1) = List.replicate (nT l[i].1) (kT l[i].1)) := by
            rintro ⟨_, h⟩
            have h5 := congrArg (fun z => z[j]?) h
            simp only [List.getElem?_drop, List.getElem?_eq_getElem hj', List.getElem?_replicate, if_pos hj, Option.some.injEq] at h5
            simp [List.getD, List.getElem?_eq_getElem hj', h5] at hq
          simp only [stepP, if_neg c3, Option.bind_none, resE]
          cases (l.drop (i + 1)).all (tokOk d) <;> rfl
        · refine Eq.trans e ?_
          have c3 : nT l[i].1 ≤ p.length ∧ p.drop (p.length - nT l[i].1) = List.replicate (nT l[i].1) (kT l[i].1) := by
            refine ⟨by omega, ?_⟩
            apply List.ext_getElem (by simp; omega)
            intro j h5 h6
            have hj : j < nT l[i].1 := by simpa using h6
            have hj' : p.length - nT l[i].1 + j < p.length := by omega
            have := hq j hj
            simp only [List.getD, List.getElem?_eq_getElem hj', Option.getD_some, bne_eq_false_iff_eq] at this
            simp [this]
          simp only [stepP, if_pos c3, Option.bind_some]
          exact ih' (i + 1) _ (by omega) (by omega) (by simp; omega)

theorem exprOk_is (k : Nat) (hk : 4194304 < k) (hk2 : k ≤ 4611686018427387903) (d : DeclT) (hd : DSmall d) (l : List TokT) (hdo : declOk d = true) : spec_ExprOk k (d, l, ()) = some ((exprK d l, ()), ((), (), ())) := by
  unfold spec_ExprOk exprK
  simp only [specDeclOk_is k hk d hd, hdo, bd_some, Bool.not_true, br_false, Option.bind_some, br_dec]
  by_cases hc : (l.length : Int) > 40
  · have : decide (l.length ≤ 40) = false := by simp; omega
    simp [if_pos hc, this]
  · have hc' : l.length ≤ 40 := by omega
    have h := specExpr_loop k hk hk2 d hd l hc' l.length 0 k [] (by omega) (by omega) (Nat.zero_le _)
    simp only [if_neg hc, decide_eq_true hc', Bool.true_and]
    exact h
end Go.Pev.F
end

section
/-
  Blocks of lines: the reference's test and the program's agree.
-/
set_option linter.unusedVariables false
set_option linter.unusedSimpArgs false
namespace Go.Pev.F

abbrev LineT := Int × Int × List TokT × List TokT × Int × Int × Unit

def opensK (n : Int) : Bool := n == 5 || (n == 6 || (n == 9 || n == 10))
def loopsK (n : Int) : Bool := n == 9 || n == 10
/-- One line more, behind these that are open (the innermost first; an else stands for its if). -/
def stepB (st : List Int) (kd : Int) : Option (List Int) :=
  if opensK kd = true then some (kd :: st) else
  if kd = 7 then (match st with | t :: r => if t = 5 ∨ t = 6 then some (7 :: r) else none | [] => none) else
  if kd = 8 then (match st with | _ :: r => some r | [] => none) else some st
def runB : List Int → List Int → Option (List Int)
  | st, [] => some st
  | st, n :: r => (stepB st n).bind fun s => runB s r
def endB : Option (List Int) → Bool
  | some [] => true
  | _ => false
def blocksOk (l : List LineT) : Bool := endB (runB [] (l.map (·.1)))
def lineD : LineT := (0, 0, [], [], 0, 0, ())
def kindAt (l : List LineT) (x : Int) : Int := (l.getD x.toNat lineD).1

theorem l4Loops_is (k : Nat) (n : Int) : spec_l4Loops k (n, ()) = some ((loopsK n, ()), ((), ())) := by
  unfold spec_l4Loops loopsK
  simp only
  cases (n == 9) <;> simp

theorem l4Opens_is (k : Nat) (n : Int) : spec_l4Opens k (n, ()) = some ((opensK n, ()), ((), ())) := by
  unfold spec_l4Opens opensK
  simp only [l4Loops_is, bd_some, loopsK]
  cases (n == 5) <;> cases (n == 6) <;> simp

theorem step7_nil : stepB [] 7 = none := by decide
theorem step8_nil : stepB [] 8 = none := by decide
theorem step7_ok {t : Int} {r : List Int} (h : t = 5 ∨ t = 6) : stepB (t :: r) 7 = some (7 :: r) := by
  simp [stepB, opensK, h]
theorem step7_no {t : Int} {r : List Int} (h : ¬ (t = 5 ∨ t = 6)) : stepB (t :: r) 7 = none := by
  unfold stepB
  rw [if_neg (by decide), if_pos rfl]
  simp only [if_neg h]
theorem step8_ok {t : Int} {r : List Int} : stepB (t :: r) 8 = some r := by simp [stepB, opensK]

theorem kindAt_get (l : List LineT) {x : Int} (h0 : 0 ≤ x) (h : x.toNat < l.length) : kindAt l x = l[x.toNat].1 := by
  simp [kindAt, List.getD, List.getElem?_eq_getElem h]

theorem specBlocks_loop (k : Nat) (l : List LineT) (hl : l.length ≤ 30) : ∀ (n i f : Nat) (out op : List Int), i + n = l.length → n < f → out.length = i → op.length ≤ i → (∀ x ∈ op, 0 ≤ x ∧ x < (i : Int)) →
    ∃ o m, iter (spec_l4Targets.l0 k) f (l, out, op, (i : Int), ()) = some ((o, m, ()), ((), ())) ∧ decide (m > (l.length : Int)) = endB (runB ((op.map (kindAt l)).reverse) ((l.drop i).map (·.1))) := by
  intro n
  induction n with
  | zero =>
    intro i f out op hi hf ho hp hx
    obtain ⟨f, rfl⟩ : ∃ g, f = g + 1 := ⟨f - 1, by omega⟩
    have h2 : ¬ ((i : Int) < (l.length : Int)) := by omega
    rw [iter_succ, List.drop_of_length_le (by omega)]
    simp only [spec_l4Targets.l0, br_dec, if_neg h2, List.map_nil, runB]
    by_cases hop : (op.length : Int) > 0
    · refine ⟨[], (l.length : Int), by rw [if_pos hop], ?_⟩
      cases op with
      | nil => simp at hop
      | cons x r =>
        have : ¬ ((l.length : Int) > (l.length : Int)) := by omega
        rw [decide_eq_false this]
        cases hr : ((x :: r).map (kindAt l)).reverse with
        | nil => simp at hr
        | cons y z => rfl
    · have : op = [] := by cases op with | nil => rfl | cons x r => simp at hop
      subst this
      refine ⟨out, IntKind.wrap .i64 ((l.length : Int) + 1), by rw [if_neg hop], ?_⟩
      rw [wrap_i64 (by omega) (by omega)]
      have : (l.length : Int) + 1 > (l.length : Int) := by omega
      rw [decide_eq_true this]; rfl
  | succ n ih =>
    intro i f out op hi hf ho hp hx
    obtain ⟨f, rfl⟩ : ∃ g, f = g + 1 := ⟨f - 1, by omega⟩
    have hi' : i < l.length := by omega
    have h2 : ((i : Int) < (l.length : Int)) := by omega
    have h3 : (0 : Int) ≤ (i : Int) := by omega
    have m1 : (out.length + ([((i + 1 : Nat) : Int)] : List Int).length) * 8 ≤ maxBytes := by simp [maxBytes]; omega
    have m2 : (op.length + ([(i : Int)] : List Int).length) * 8 ≤ maxBytes := by simp [maxBytes]; omega
    have ew := wrap_succ (i := i) (by omega)
    have ki : kindAt l (i : Int) = l[i].1 := by rw [kindAt_get l h3 (by simpa using hi')]; simp
    rw [iter_succ, List.drop_eq_getElem_cons hi', List.map_cons]
    -- a line that opens, at whatever stands open
    have opens : opensK l[i].1 = true → ∃ o m, iter (spec_l4Targets.l0 k) f (l, out ++ [((i + 1 : Nat) : Int)], op ++ [(i : Int)], ((i + 1 : Nat) : Int), ()) = some ((o, m, ()), ((), ())) ∧ decide (m > (l.length : Int)) = endB (runB ((op.map (kindAt l)).reverse) (l[i].1 :: (l.drop (i + 1)).map (·.1))) := by
      intro hop
      obtain ⟨o, m, e1, e2⟩ := ih (i + 1) f (out ++ [((i + 1 : Nat) : Int)]) (op ++ [(i : Int)]) (by omega) (by omega) (by simp; omega) (by simp; omega) (fun x h => by
        rcases List.mem_append.1 h with h | h
        · have := hx x h; omega
        · simp at h; omega)
      refine ⟨o, m, e1, ?_⟩
      rw [e2, List.map_append, List.reverse_append]
      simp only [List.map_cons, List.map_nil, List.reverse_cons, List.reverse_nil, List.nil_append, List.cons_append, ki, runB, stepB, if_pos hop, Option.bind_some]
    have plain : opensK l[i].1 = false → l[i].1 ≠ 7 → l[i].1 ≠ 8 → ∃ o m, iter (spec_l4Targets.l0 k) f (l, out ++ [((i + 1 : Nat) : Int)], op, ((i + 1 : Nat) : Int), ()) = some ((o, m, ()), ((), ())) ∧ decide (m > (l.length : Int)) = endB (runB ((op.map (kindAt l)).reverse) (l[i].1 :: (l.drop (i + 1)).map (·.1))) := by
      intro hop h7 h8
      obtain ⟨o, m, e1, e2⟩ := ih (i + 1) f (out ++ [((i + 1 : Nat) : Int)]) op (by omega) (by omega) (by simp; omega) (by omega) (fun x h => by have := hx x h; omega)
      refine ⟨o, m, e1, ?_⟩
      rw [e2]
      simp only [runB, stepB, hop, Bool.false_eq_true, if_false, if_neg h7, if_neg h8, Option.bind_some]
    rcases List.eq_nil_or_concat op with hn | ⟨ini, t, hc⟩
    · subst hn
      have c0 : ¬ ((([] : List Int).length : Int) > 0) := by simp
      simp only [spec_l4Targets.l0, br_dec (p := (i : Int) < (l.length : Int)), if_pos h2, br_dec (p := (0 : Int) ≤ (i : Int)), if_pos h3, ew, br_dec (p := (out.length + ([((i + 1 : Nat) : Int)] : List Int).length) * 8 ≤ maxBytes), if_pos m1, br_dec (p := (([] : List Int).length : Int) > 0), if_neg c0, Int.toNat_natCast, List.getElem?_eq_getElem hi', bd_some, l4Opens_is]
      cases hop : opensK l[i].1 with
      | true =>
        simp only [br_true, br_dec, if_pos m2]
        exact opens hop
      | false =>
        simp only [br_false, br_beq]
        by_cases h7 : l[i].1 = 7
        · refine ⟨[], (i : Int), by simp [if_pos h7], ?_⟩
          have : ¬ ((i : Int) > (l.length : Int)) := by omega
          rw [decide_eq_false this]
          rw [h7]
          simp [runB, step7_nil, endB]
        · by_cases h8 : l[i].1 = 8
          · refine ⟨[], (i : Int), by simp [if_neg h7, if_pos h8], ?_⟩
            have : ¬ ((i : Int) > (l.length : Int)) := by omega
            rw [decide_eq_false this]
            rw [h8]
            simp [runB, step8_nil, endB]
          · simp only [if_neg h7, if_neg h8]
            exact plain hop h7 h8
    · rw [List.concat_eq_append] at hc
      subst hc
      have ht := hx t (by simp)
      have ht' : t.toNat < l.length := by omega
      have c0 : (((ini ++ [t]).length : Int) > 0) := by simp only [List.length_append, List.length_cons, List.length_nil]; omega
      have el : (((ini ++ [t]).length : Int) - 1) = (ini.length : Int) := by simp
      have ewl : IntKind.wrap .i64 (ini.length : Int) = (ini.length : Int) := wrap_i64 (by omega) (by simp at hp; omega)
      have c1 : 0 ≤ (ini.length : Int) ∧ (ini.length : Int) < ((ini ++ [t]).length : Int) := by simp only [List.length_append, List.length_cons, List.length_nil]; omega
      have c2 : 0 ≤ (ini.length : Int) ∧ (ini.length : Int) ≤ ((ini ++ [t]).length : Int) := by simp only [List.length_append, List.length_cons, List.length_nil]; omega
      have eg : (ini ++ [t])[ini.length]? = some t := by simp
      have kt := kindAt_get l ht.1 ht'
      have c3 : 0 ≤ t ∧ t < ((out ++ [((i + 1 : Nat) : Int)]).length : Int) := by simp; omega
      have c4 : ¬ t < 0 := by omega
      obtain ⟨y8, eo⟩ : ∃ y, (out ++ [((i + 1 : Nat) : Int)])[t.toNat]? = some y := ⟨_, List.getElem?_eq_getElem (by simp; omega)⟩
      have es : subL (ini ++ [t]) ((0 : Int).toNat) (ini.length - (0 : Int).toNat) = ini := by simp [subL]
      have em : (((ini ++ [t]).map (kindAt l)).reverse) = l[t.toNat].1 :: (ini.map (kindAt l)).reverse := by simp [kt]
      simp only [spec_l4Targets.l0, br_dec (p := (i : Int) < (l.length : Int)), if_pos h2, br_dec (p := (0 : Int) ≤ (i : Int)), if_pos h3, ew, br_dec (p := (out.length + ([((i + 1 : Nat) : Int)] : List Int).length) * 8 ≤ maxBytes), if_pos m1, br_dec (p := ((ini ++ [t]).length : Int) > 0), if_pos c0, el, ewl, br_dec (p := 0 ≤ (ini.length : Int) ∧ (ini.length : Int) < ((ini ++ [t]).length : Int)), if_pos c1, Int.toNat_natCast, eg, List.getElem?_eq_getElem hi', bd_some, l4Opens_is]
      cases hop : opensK l[i].1 with
      | true =>
        simp only [br_true, br_dec, if_pos m2]
        exact opens hop
      | false =>
        simp only [br_false, br_beq]
        by_cases h7 : l[i].1 = 7
        · simp only [if_pos h7, br_dec, if_neg c4, if_pos ht.1, List.getElem?_eq_getElem ht', bd_some]
          by_cases h56 : l[t.toNat].1 = 5 ∨ l[t.toNat].1 = 6
          · have hq : (br k (l[t.toNat].1 != 5) (some (l[t.toNat].1 != 6, ())) (some (false, ())) : Option (Bool × Unit)) = some (false, ()) := by
              rcases h56 with h | h <;> simp [h]
            simp only [hq, Option.bind_some, br_false, if_pos c3, eo, bd_some, if_pos c1]
            obtain ⟨o, m, e1, e2⟩ := ih (i + 1) f ((out ++ [((i + 1 : Nat) : Int)]).set t.toNat ((i + 1 : Nat) : Int)) (ini ++ [(i : Int)]) (by omega) (by omega) (by simp; omega) (by simp at hp ⊢; omega) (fun x h => by
              rcases List.mem_append.1 h with h | h
              · have := hx x (by simp [h]); omega
              · simp at h; omega)
            have est : (ini ++ [t]).set ini.length (i : Int) = ini ++ [(i : Int)] := by simp
            refine ⟨o, m, by rw [est]; exact e1, ?_⟩
            rw [e2, em]
            simp only [List.map_append, List.map_cons, List.map_nil, List.reverse_append, List.reverse_cons, List.reverse_nil, List.nil_append, List.cons_append, ki, h7, runB, step7_ok h56, Option.bind_some]
          · have hq : (br k (l[t.toNat].1 != 5) (some (l[t.toNat].1 != 6, ())) (some (false, ())) : Option (Bool × Unit)) = some (true, ()) := by
              have a5 : (l[t.toNat].1 != 5) = true := by simp; omega
              have a6 : (l[t.toNat].1 != 6) = true := by simp; omega
              rw [a5, a6, br_true]
            refine ⟨[], (i : Int), by simp only [hq, Option.bind_some, br_true], ?_⟩
            have : ¬ ((i : Int) > (l.length : Int)) := by omega
            rw [decide_eq_false this, em]
            simp only [h7, runB, step7_no h56, Option.bind_none, endB]
        · by_cases h8 : l[i].1 = 8
          · have done : ∀ out' : List Int, out'.length = i + 1 → ∃ o m, iter (spec_l4Targets.l0 k) f (l, out', ini, ((i + 1 : Nat) : Int), ()) = some ((o, m, ()), ((), ())) ∧ decide (m > (l.length : Int)) = endB (runB (((ini ++ [t]).map (kindAt l)).reverse) (l[i].1 :: (l.drop (i + 1)).map (·.1))) := by
              intro out' ho'
              obtain ⟨o, m, e1, e2⟩ := ih (i + 1) f out' ini (by omega) (by omega) ho' (by simp at hp; omega) (fun x h => by have := hx x (by simp [h]); omega)
              refine ⟨o, m, e1, ?_⟩
              rw [e2, em]
              simp only [h8, runB, step8_ok, Option.bind_some]
            have c5 : 0 ≤ t ∧ t < (((out ++ [((i + 1 : Nat) : Int)]).set t.toNat (i : Int)).length : Int) := by simp; omega
            obtain ⟨z, ez⟩ : ∃ y, ((out ++ [((i + 1 : Nat) : Int)]).set t.toNat (i : Int))[t.toNat]? = some y := ⟨_, List.getElem?_eq_getElem (by simp; omega)⟩
            have c6 : 0 ≤ (i : Int) ∧ (i : Int) < ((((out ++ [((i + 1 : Nat) : Int)]).set t.toNat (i : Int)).set t.toNat ((i + 1 : Nat) : Int)).length : Int) := by simp; omega
            obtain ⟨z2, ez2⟩ : ∃ y, (((out ++ [((i + 1 : Nat) : Int)]).set t.toNat (i : Int)).set t.toNat ((i + 1 : Nat) : Int))[i]? = some y := ⟨_, List.getElem?_eq_getElem (by simp; omega)⟩
            simp only [if_neg h7, if_pos h8, br_dec, if_neg c4, if_pos c2, if_pos c3, eo, bd_some, if_pos ht.1, List.getElem?_eq_getElem ht', l4Loops_is, es, if_pos c5, ez, if_pos c6, ez2]
            cases loopsK l[t.toNat].1 with
            | true => rw [br_true]; exact done _ (by simp; omega)
            | false => rw [br_false]; exact done _ (by simp; omega)
          · simp only [if_neg h7, if_neg h8]
            exact plain hop h7 h8
end Go.Pev.F
end

section
/-
  Blocks of lines: the program's test.
-/
set_option linter.unusedVariables false
set_option linter.unusedSimpArgs false
namespace Go.Pev.F

abbrev FrT := Int × Int × Unit
def kindF (l : List LineT) (x : FrT) : Int := if x.2.1 ≥ 0 then 7 else kindAt l x.1

theorem isChoice_is (k : Nat) (n : LineT) : impl_Line_isChoice k (n, ()) = some ((n.1 == 5 || n.1 == 6, ()), ((), ())) := by
  unfold impl_Line_isChoice
  simp only
  cases (n.1 == 5) <;> simp

theorem isLoop_is (k : Nat) (n : LineT) : impl_Line_isLoop k (n, ()) = some ((loopsK n.1, ()), ((), ())) := by
  unfold impl_Line_isLoop loopsK
  simp only
  cases (n.1 == 9) <;> simp

theorem opens_split (n : Int) : opensK n = ((n == 5 || n == 6) || loopsK n) := by
  unfold opensK loopsK
  cases (n == 5) <;> cases (n == 6) <;> rfl

theorem implBlocks_loop (k : Nat) (l : List LineT) (hl : l.length ≤ 30) : ∀ (n i f : Nat) (out : List Int) (op : List FrT), i + n = l.length → n < f → out.length = l.length → op.length ≤ i → (∀ x ∈ op, (0 ≤ x.1 ∧ x.1 < (i : Int)) ∧ x.2.1 < (i : Int)) →
    ∃ o, iter (impl_targets.l0 k) f (l, out, (op, ()), (l.length : Int), (i : Int), ()) = some ((o, endB (runB ((op.map (kindF l)).reverse) ((l.drop i).map (·.1))), ()), ((), ())) := by
  intro n
  induction n with
  | zero =>
    intro i f out op hi hf ho hp hx
    obtain ⟨f, rfl⟩ : ∃ g, f = g + 1 := ⟨f - 1, by omega⟩
    have h2 : ¬ ((i : Int) < (l.length : Int)) := by omega
    rw [iter_succ, List.drop_of_length_le (by omega)]
    simp only [impl_targets.l0, br_dec, if_neg h2, List.map_nil, runB]
    refine ⟨out, ?_⟩
    cases op with
    | nil => rfl
    | cons x r =>
      have : (((x :: r).length : Int) == 0) = false := by simp; omega
      rw [this]
      cases hr : ((x :: r).map (kindF l)).reverse with
      | nil => simp at hr
      | cons y z => rfl
  | succ n ih =>
    intro i f out op hi hf ho hp hx
    obtain ⟨f, rfl⟩ : ∃ g, f = g + 1 := ⟨f - 1, by omega⟩
    have hi' : i < l.length := by omega
    have h2 : ((i : Int) < (l.length : Int)) := by omega
    have h3 : (0 : Int) ≤ (i : Int) := by omega
    have h4 : 0 ≤ (i : Int) ∧ (i : Int) < (out.length : Int) := by omega
    have m2 : (op.length + ([((i : Int), (-1), ())] : List FrT).length) * 16 ≤ maxBytes := by simp [maxBytes]; omega
    have ew := wrap_succ (i := i) (by omega)
    have ki : kindF l ((i : Int), (-1), ()) = l[i].1 := by
      unfold kindF; rw [if_neg (show ¬ ((-1 : Int) ≥ 0) by decide), kindAt_get l h3 (by simpa using hi')]; simp
    obtain ⟨y1, eo⟩ : ∃ y, out[i]? = some y := ⟨_, List.getElem?_eq_getElem (by omega)⟩
    have next : ∀ op' : List FrT, (∀ x ∈ op', (0 ≤ x.1 ∧ x.1 < ((i + 1 : Nat) : Int)) ∧ x.2.1 < ((i + 1 : Nat) : Int)) → op'.length ≤ i + 1 → ∀ out' : List Int, out'.length = l.length → ∃ o, iter (impl_targets.l0 k) f (l, out', (op', ()), (l.length : Int), ((i + 1 : Nat) : Int), ()) = some ((o, endB (runB ((op'.map (kindF l)).reverse) ((l.drop (i + 1)).map (·.1))), ()), ((), ())) :=
      fun op' h1 h2 out' h3 => ih (i + 1) f out' op' (by omega) (by omega) h3 h2 h1
    have up : ∀ x ∈ op, (0 ≤ x.1 ∧ x.1 < ((i + 1 : Nat) : Int)) ∧ x.2.1 < ((i + 1 : Nat) : Int) := fun x h => by have := hx x h; omega
    have so : (out.set i ((i + 1 : Nat) : Int)).length = l.length := by simp; omega
    rw [iter_succ, List.drop_eq_getElem_cons hi', List.map_cons]
    simp only [impl_targets.l0, impl_frames_next, br_dec (p := (i : Int) < (l.length : Int)), if_pos h2, br_dec (p := (0 : Int) ≤ (i : Int)), if_pos h3, br_dec (p := 0 ≤ (i : Int) ∧ (i : Int) < (out.length : Int)), if_pos h4, ew, Int.toNat_natCast, eo, List.getElem?_eq_getElem hi', bd_some, isChoice_is, isLoop_is]
    have hq : (br k (l[i].1 == 5 || l[i].1 == 6) (some (true, ())) (some (loopsK l[i].1, ())) : Option (Bool × Unit)) = some (opensK l[i].1, ()) := by
      rw [opens_split]; cases (l[i].1 == 5 || l[i].1 == 6) <;> simp
    simp only [hq, Option.bind_some]
    cases hop : opensK l[i].1 with
    | true =>
      have n8 : (l[i].1 != 8) = true := by
        by_cases h : l[i].1 = 8
        · rw [h] at hop; exact absurd hop (by decide)
        · simpa using h
      simp only [br_true, br_dec, if_pos m2, bd_some, Bool.not_true, br_false, n8]
      obtain ⟨o, e⟩ := next (op ++ [((i : Int), (-1), ())]) (fun x h => by
        rcases List.mem_append.1 h with h | h
        · exact up x h
        · simp at h; subst h; simp; omega) (by simp; omega) _ so
      refine ⟨o, e.trans ?_⟩
      simp only [List.map_append, List.map_cons, List.map_nil, List.reverse_append, List.reverse_cons, List.reverse_nil, List.nil_append, List.cons_append, ki, runB, stepB, if_pos hop, Option.bind_some]
    | false =>
      simp only [br_false, br_beq]
      rcases List.eq_nil_or_concat op with hn | ⟨ini, t, hc⟩
      · subst hn
        have c0 : IntKind.wrap .i64 ((([] : List FrT).length : Int) - 1) < 0 := by rw [wrap_i64 (by simp) (by simp)]; simp
        by_cases h7 : l[i].1 = 7
        · refine ⟨[], ?_⟩
          simp only [if_pos h7, br_dec, if_pos c0, Option.bind_some, br_true, bd_some, Bool.not_false]
          rw [h7]
          simp [runB, step7_nil, endB]
        · by_cases h8 : l[i].1 = 8
          · refine ⟨[], ?_⟩
            simp only [if_neg h7, if_pos h8, br_dec, if_pos c0, bd_some, Bool.not_false, br_true]
            rw [h8]
            simp [runB, step8_nil, endB]
          · have n8 : (l[i].1 != 8) = true := by simpa using h8
            simp only [if_neg h7, if_neg h8, bd_some, Bool.not_true, br_false, n8, br_true]
            obtain ⟨o, e⟩ := next [] (fun x h => by simp at h) (by simp) _ so
            refine ⟨o, e.trans ?_⟩
            simp only [runB, stepB, hop, Bool.false_eq_true, if_false, if_neg h7, if_neg h8, Option.bind_some]
      · rw [List.concat_eq_append] at hc
        subst hc
        obtain ⟨⟨ht0, ht1⟩, ht2⟩ := hx t (by simp)
        have ht' : t.1.toNat < l.length := by omega
        have el : (((ini ++ [t]).length : Int) - 1) = (ini.length : Int) := by simp
        have ewl : IntKind.wrap .i64 (ini.length : Int) = (ini.length : Int) := wrap_i64 (by omega) (by simp at hp; omega)
        have c0 : ¬ (ini.length : Int) < 0 := by omega
        have c1 : 0 ≤ (ini.length : Int) ∧ (ini.length : Int) < ((ini ++ [t]).length : Int) := by simp only [List.length_append, List.length_cons, List.length_nil]; omega
        have c2 : 0 ≤ (ini.length : Int) ∧ (ini.length : Int) ≤ ((ini ++ [t]).length : Int) := by simp only [List.length_append, List.length_cons, List.length_nil]; omega
        have eg : (ini ++ [t])[ini.length]? = some t := by simp
        have kt := kindAt_get l ht0 ht'
        have es : subL (ini ++ [t]) ((0 : Int).toNat) (ini.length - (0 : Int).toNat) = ini := by simp [subL]
        have em : (((ini ++ [t]).map (kindF l)).reverse) = kindF l t :: (ini.map (kindF l)).reverse := by simp
        have iniup : ∀ x ∈ ini, (0 ≤ x.1 ∧ x.1 < ((i + 1 : Nat) : Int)) ∧ x.2.1 < ((i + 1 : Nat) : Int) := fun x h => up x (by simp [h])
        simp only [el, ewl, Int.toNat_natCast, eg]
        by_cases h7 : l[i].1 = 7
        · simp only [if_pos h7, br_dec, if_neg c0, if_pos c1, if_pos ht0, bd_some, List.getElem?_eq_getElem ht', isChoice_is]
          by_cases h56 : kindF l t = 5 ∨ kindF l t = 6
          · have hneg : ¬ t.2.1 ≥ 0 := by
              intro h; unfold kindF at h56; rw [if_pos h] at h56; omega
            have hkt : l[t.1.toNat].1 = 5 ∨ l[t.1.toNat].1 = 6 := by
              unfold kindF at h56; rw [if_neg hneg, kt] at h56; exact h56
            have hq2 : (br k (!(l[t.1.toNat].1 == 5 || l[t.1.toNat].1 == 6)) (some (true, ())) (some (decide (t.2.1 ≥ 0), ())) : Option (Bool × Unit)) = some (false, ()) := by
              have : (l[t.1.toNat].1 == 5 || l[t.1.toNat].1 == 6) = true := by rcases hkt with h | h <;> simp [h]
              rw [this, Bool.not_true, br_false, decide_eq_false hneg]
            have n8 : (l[i].1 != 8) = true := by rw [h7]; decide
            simp only [hq2, Option.bind_some, br_false, bd_some, Bool.not_true, n8, br_true]
            have est : (ini ++ [t]).set ini.length (t.1, (i : Int), ()) = ini ++ [(t.1, (i : Int), ())] := by simp
            rw [est]
            obtain ⟨o, e⟩ := next (ini ++ [(t.1, (i : Int), ())]) (fun x h => by
              rcases List.mem_append.1 h with h | h
              · exact iniup x h
              · simp at h; subst h; simp; omega) (by simp at hp ⊢; omega) _ so
            refine ⟨o, e.trans ?_⟩
            have k7 : kindF l (t.1, (i : Int), ()) = 7 := by unfold kindF; rw [if_pos (by omega)]
            rw [em, h7]
            simp only [List.map_append, List.map_cons, List.map_nil, List.reverse_append, List.reverse_cons, List.reverse_nil, List.nil_append, List.cons_append, k7, runB, step7_ok h56, Option.bind_some]
          · have hq2 : (br k (!(l[t.1.toNat].1 == 5 || l[t.1.toNat].1 == 6)) (some (true, ())) (some (decide (t.2.1 ≥ 0), ())) : Option (Bool × Unit)) = some (true, ()) := by
              by_cases hpos : t.2.1 ≥ 0
              · rw [decide_eq_true hpos]
                cases (l[t.1.toNat].1 == 5 || l[t.1.toNat].1 == 6) <;> simp
              · unfold kindF at h56
                rw [if_neg hpos, kt] at h56
                have : (l[t.1.toNat].1 == 5 || l[t.1.toNat].1 == 6) = false := by simp; omega
                rw [this, Bool.not_false, br_true]
            refine ⟨[], ?_⟩
            simp only [hq2, Option.bind_some, br_true, bd_some, Bool.not_false]
            rw [em, h7]
            simp only [runB, step7_no h56, Option.bind_none, endB]
        · by_cases h8 : l[i].1 = 8
          · have n8 : (l[i].1 != 8) = false := by rw [h8]; decide
            have done : ∀ out' : List Int, out'.length = l.length → ∃ o, iter (impl_targets.l0 k) f (l, out', (ini, ()), (l.length : Int), ((i + 1 : Nat) : Int), ()) = some ((o, endB (runB (((ini ++ [t]).map (kindF l)).reverse) (l[i].1 :: (l.drop (i + 1)).map (·.1))), ()), ((), ())) := by
              intro out' ho'
              obtain ⟨o, e⟩ := next ini iniup (by simp at hp; omega) out' ho'
              refine ⟨o, e.trans ?_⟩
              rw [em, h8]
              simp only [runB, step8_ok, Option.bind_some]
            simp only [if_neg h7, if_pos h8, br_dec, if_neg c0, if_pos c1, if_pos c2, es, bd_some, Bool.not_true, br_false, n8]
            have c3 : 0 ≤ t.1 ∧ t.1 < ((out.set i ((i + 1 : Nat) : Int)).length : Int) := by simp; omega
            obtain ⟨a1, ea1⟩ : ∃ y, (out.set i ((i + 1 : Nat) : Int))[t.1.toNat]? = some y := ⟨_, List.getElem?_eq_getElem (by simp; omega)⟩
            have c4 : 0 ≤ t.1 ∧ t.1 < (((out.set i ((i + 1 : Nat) : Int)).set t.1.toNat (i : Int)).length : Int) := by simp; omega
            obtain ⟨a2, ea2⟩ : ∃ y, ((out.set i ((i + 1 : Nat) : Int)).set t.1.toNat (i : Int))[t.1.toNat]? = some y := ⟨_, List.getElem?_eq_getElem (by simp; omega)⟩
            have c5 : 0 ≤ (i : Int) ∧ (i : Int) < ((((out.set i ((i + 1 : Nat) : Int)).set t.1.toNat (i : Int)).set t.1.toNat ((i + 1 : Nat) : Int)).length : Int) := by simp; omega
            obtain ⟨a3, ea3⟩ : ∃ y, (((out.set i ((i + 1 : Nat) : Int)).set t.1.toNat (i : Int)).set t.1.toNat ((i + 1 : Nat) : Int))[i]? = some y := ⟨_, List.getElem?_eq_getElem (by simp; omega)⟩
            simp only [if_pos c3, ea1, bd_some, if_pos ht0, List.getElem?_eq_getElem ht', isLoop_is, if_pos c4, ea2, if_pos c5, ea3]
            cases loopsK l[t.1.toNat].1 with
            | true => rw [br_true]; exact done _ (by simp; omega)
            | false =>
              rw [br_false]
              by_cases hpos : t.2.1 ≥ 0
              · have c6 : 0 ≤ t.2.1 ∧ t.2.1 < ((((out.set i ((i + 1 : Nat) : Int)).set t.1.toNat (i : Int)).set t.1.toNat (IntKind.wrap .i64 (t.2.1 + 1))).length : Int) := by simp; omega
                obtain ⟨a4, ea4⟩ : ∃ y, (((out.set i ((i + 1 : Nat) : Int)).set t.1.toNat (i : Int)).set t.1.toNat (IntKind.wrap .i64 (t.2.1 + 1)))[t.2.1.toNat]? = some y := ⟨_, List.getElem?_eq_getElem (by simp; omega)⟩
                simp only [if_pos hpos, if_pos c6, ea4, bd_some]
                exact done _ (by simp; omega)
              · simp only [if_neg hpos]
                exact done _ (by simp; omega)
          · have n8 : (l[i].1 != 8) = true := by simpa using h8
            simp only [if_neg h7, if_neg h8, bd_some, Bool.not_true, br_false, n8, br_true]
            obtain ⟨o, e⟩ := next (ini ++ [t]) up (by omega) _ so
            refine ⟨o, e.trans ?_⟩
            simp only [runB, stepB, hop, Bool.false_eq_true, if_false, if_neg h7, if_neg h8, Option.bind_some]

theorem specTargets_ok (k : Nat) (hk : 4194304 < k) (l : List LineT) (hl : l.length ≤ 30) : ∃ o m, spec_l4Targets k (l, ()) = some ((o, m, ()), ((), ())) ∧ decide (m > (l.length : Int)) = blocksOk l := by
  obtain ⟨o, m, h1, h2⟩ := specBlocks_loop k l hl l.length 0 k [] [] (by omega) (by omega) rfl (Nat.le_refl _) (fun x h => by simp at h)
  exact ⟨o, m, h1, h2⟩

theorem implTargets_ok (k : Nat) (hk : 4194304 < k) (l : List LineT) (hl : l.length ≤ 30) : ∃ o, impl_targets k (l, ()) = some ((o, blocksOk l, ()), ((), ())) := by
  unfold impl_targets
  have hm : 0 ≤ (l.length : Int) ∧ (l.length : Int) ≤ (l.length : Int) ∧ (l.length : Int) * 8 ≤ maxBytes := by simp [maxBytes]; omega
  simp only [br_dec, if_pos hm, Int.toNat_natCast]
  obtain ⟨o, h⟩ := implBlocks_loop k l hl l.length 0 k (List.replicate l.length (Kd.z (.int .i64))) [] (by omega) (by omega) (by simp) (Nat.le_refl _) (fun x h => by simp at h)
  exact ⟨o, h⟩
end Go.Pev.F
end

section
/-
  Which lines are right: the reference's test and the program's agree.
-/
set_option linter.unusedVariables false
set_option linter.unusedSimpArgs false
namespace Go.Pev.F

def vIn (n : Nat) (v : Int) : Bool := decide (0 ≤ v ∧ v ≤ (n : Int) - 1)
def nilB {α : Type} (l : List α) : Bool := (l.length : Int) == 0
def endsB (lo hi : Int) : Bool := decide (-999999999999999999 ≤ lo ∧ lo ≤ hi) && decide (hi ≤ 999999999999999999)
def lineOk (d : DeclT) (n : LineT) : Bool :=
  if n.1 = 1 then vIn d.1.length n.2.1 && (nilB n.2.2.1 && ((exprK d n.2.2.2.1 == 1) && ((n.2.2.2.2.1 == 0) && (n.2.2.2.2.2.1 == 0))))
  else if n.1 = 2 then vIn d.2.1.length n.2.1 && (nilB n.2.2.1 && ((exprK d n.2.2.2.1 == 2) && ((n.2.2.2.2.1 == 0) && (n.2.2.2.2.2.1 == 0))))
  else if n.1 = 3 then vIn d.2.2.1.length n.2.1 && ((exprK d n.2.2.1 == 1) && ((exprK d n.2.2.2.1 == 1) && ((n.2.2.2.2.1 == 0) && (n.2.2.2.2.2.1 == 0))))
  else if n.1 = 4 then vIn d.1.length n.2.1 && (nilB n.2.2.1 && (nilB n.2.2.2.1 && endsB n.2.2.2.2.1 n.2.2.2.2.2.1))
  else if n.1 = 13 then vIn d.1.length n.2.1 && (nilB n.2.2.1 && (nilB n.2.2.2.1 && (endsB n.2.2.2.2.1 n.2.2.2.2.2.1 && decide (n.2.2.2.2.2.1 ≤ n.2.2.2.2.1 + 3))))
  else if n.1 = 10 then (n.2.1 == 0) && (nilB n.2.2.1 && ((exprK d n.2.2.2.1 == 2) && (decide (1 ≤ n.2.2.2.2.1 ∧ n.2.2.2.2.1 ≤ 3) && (n.2.2.2.2.2.1 == 0))))
  else if n.1 = 5 ∨ n.1 = 6 ∨ n.1 = 9 ∨ n.1 = 11 ∨ n.1 = 12 then (n.2.1 == 0) && (nilB n.2.2.1 && ((exprK d n.2.2.2.1 == 2) && ((n.2.2.2.2.1 == 0) && (n.2.2.2.2.2.1 == 0))))
  else if n.1 = 7 ∨ n.1 = 8 ∨ n.1 = 14 then (n.2.1 == 0) && (nilB n.2.2.1 && (nilB n.2.2.2.1 && ((n.2.2.2.2.1 == 0) && (n.2.2.2.2.2.1 == 0))))
  else false

theorem kind_cases (n : Int) : n = 1 ∨ n = 2 ∨ n = 3 ∨ n = 4 ∨ n = 5 ∨ n = 6 ∨ n = 7 ∨ n = 8 ∨ n = 9 ∨ n = 10 ∨ n = 11 ∨ n = 12 ∨ n = 13 ∨ n = 14 ∨ (n < 1 ∨ 14 < n) := by omega

theorem bd_within (k : Nat) {α : Type} (a b c : Int) (f : _ → Option α) : bd k (impl_within k (a, b, c, ())) f = f ((decide (b ≤ a ∧ a ≤ c), ()), ((), (), (), ())) := by rw [within_is, bd_some]
theorem bd_sizeS (k : Nat) {α : Type} (l : Names) (f : _ → Option α) : bd k (impl_size_string k (l, ())) f = f (((l.length : Int), ()), ((), ())) := by unfold impl_size_string; rw [bd_some]
theorem bd_sizeA (k : Nat) {α : Type} (l : List ArrT) (f : _ → Option α) : bd k (impl_size_impl_Arr k (l, ())) f = f (((l.length : Int), ()), ((), ())) := by unfold impl_size_impl_Arr; rw [bd_some]

theorem isPlain_is (k : Nat) (n : LineT) : impl_Line_isPlain k (n, ()) = some (((n.2.1 == 0) && (nilB n.2.2.1 && (nilB n.2.2.2.1 && ((n.2.2.2.2.1 == 0) && (n.2.2.2.2.2.1 == 0)))), ()), ((), ())) := by
  unfold impl_Line_isPlain nilB
  simp only
  cases (n.2.1 == 0) <;> cases ((n.2.2.1.length : Int) == 0) <;> cases ((n.2.2.2.1.length : Int) == 0) <;> cases (n.2.2.2.2.1 == 0) <;> simp

theorem areEnds_is (k : Nat) (n : LineT) : impl_Line_areEnds k (n, ()) = some ((endsB n.2.2.2.2.1 n.2.2.2.2.2.1, ()), ((), ())) := by
  unfold impl_Line_areEnds endsB
  simp only [within_is, bd_some]
  cases decide (-999999999999999999 ≤ n.2.2.2.2.1 ∧ n.2.2.2.2.1 ≤ n.2.2.2.2.2.1) <;> simp

theorem bd_plain (k : Nat) {α : Type} (n : LineT) (f : _ → Option α) : bd k (impl_Line_isPlain k (n, ())) f = f (((n.2.1 == 0) && (nilB n.2.2.1 && (nilB n.2.2.2.1 && ((n.2.2.2.2.1 == 0) && (n.2.2.2.2.2.1 == 0)))), ()), ((), ())) := by rw [isPlain_is, bd_some]
theorem bd_ends (k : Nat) {α : Type} (n : LineT) (f : _ → Option α) : bd k (impl_Line_areEnds k (n, ())) f = f ((endsB n.2.2.2.2.1 n.2.2.2.2.2.1, ()), ((), ())) := by rw [areEnds_is, bd_some]

def wantE (n : Int) : Int := if n = 1 ∨ n = 3 then 1 else if n = 2 ∨ n = 5 ∨ n = 6 ∨ n = 9 ∨ n = 10 ∨ n = 11 ∨ n = 12 then 2 else 0
theorem kindOfE_is (k : Nat) (n : Int) : impl_kindOfE k (n, ()) = some ((wantE n, ()), ((), ())) := by
  rcases kind_cases n with rfl | rfl | rfl | rfl | rfl | rfl | rfl | rfl | rfl | rfl | rfl | rfl | rfl | rfl | h
  all_goals first
    | (unfold impl_kindOfE wantE; simp [br_beq]; done)
    | (have e : ∀ c : Int, 1 ≤ c → c ≤ 14 → ¬ n = c := fun c h1 h2 => by omega
       unfold impl_kindOfE wantE
       simp [br_beq, e])

theorem isLine_is (k : Nat) (hk : 4194304 < k) (hk2 : k ≤ 4611686018427387903) (d : DeclT) (hd : DSmall d) (n : LineT) (hI : n.2.2.1.length ≤ 1048576) (hE : n.2.2.2.1.length ≤ 1048576) :
    impl_Decl_isLine k (d, n, ()) = some ((lineOk d n, ()), ((), (), ())) := by
  obtain ⟨kd, v, I, E, lo, hi, ⟨⟩⟩ := n
  simp only at hI hE
  have n0 := hd.n0
  have n1 := hd.n1
  have n2 := hd.n2
  have w0 := wrap_i64 (n := (d.1.length : Int) - 1) (by omega) (by omega)
  have w1 := wrap_i64 (n := (d.2.1.length : Int) - 1) (by omega) (by omega)
  have w2 := wrap_i64 (n := (d.2.2.1.length : Int) - 1) (by omega) (by omega)
  have kE : ∀ {α : Type} (f : _ → Option α), bd k (impl_Decl_kindOf k (d, E, ())) f = f ((exprK d E, ()), ((), (), ())) := fun f => by rw [kindOf_is k hk hk2 d hd E hE, bd_some]
  have kI : ∀ {α : Type} (f : _ → Option α), bd k (impl_Decl_kindOf k (d, I, ())) f = f ((exprK d I, ()), ((), (), ())) := fun f => by rw [kindOf_is k hk hk2 d hd I hI, bd_some]
  unfold impl_Decl_isLine lineOk
  rcases kind_cases kd with rfl | rfl | rfl | rfl | rfl | rfl | rfl | rfl | rfl | rfl | rfl | rfl | rfl | rfl | h
  all_goals (simp (config := { failIfUnchanged := false }) only [jn_eq, impl_Decl_isLine.h7, impl_Decl_isLine.h11, impl_Decl_isLine.h12, kindOfE_is, wantE, bd_some, br_beq, br_dec, kE, kI, bd_sizeS, bd_sizeA, bd_within, bd_plain, bd_ends, w0, w1, w2, ↓reduceIte, Int.reduceEq, Int.reduceLT, Int.reduceGT, Int.reduceLE, Int.reduceNe, or_true, true_or, or_false, false_or, Option.bind_some, br_true, br_false, Int.reduceBEq, Int.reduceBNe, gt_iff_lt])
  case inr.inr.inr.inr.inr.inr.inr.inr.inr.inr.inr.inr.inr.inr =>
    have e1 : ¬ kd = 1 := by omega
    have e2 : ¬ kd = 2 := by omega
    have e3 : ¬ kd = 3 := by omega
    have e4 : ¬ kd = 4 := by omega
    have e5 : ¬ kd = 5 := by omega
    have e6 : ¬ kd = 6 := by omega
    have e7 : ¬ kd = 7 := by omega
    have e8 : ¬ kd = 8 := by omega
    have e9 : ¬ kd = 9 := by omega
    have e10 : ¬ kd = 10 := by omega
    have e11 : ¬ kd = 11 := by omega
    have e12 : ¬ kd = 12 := by omega
    have e13 : ¬ kd = 13 := by omega
    have e14 : ¬ kd = 14 := by omega
    have e15 : ¬ (1 ≤ kd ∧ kd ≤ 14) := by omega
    have b13 : (kd == 13) = false := by simpa using e13
    simp only [e1, e2, e3, e4, e5, e6, e7, e8, e9, e10, e11, e12, e13, e14, e15, b13, or_self, ↓reduceIte, Option.bind_some, br_false, Int.reduceLT]
  case inr.inr.inr.inr.inr.inr.inr.inr.inr.inr.inr.inr.inl =>
    by_cases hv : 0 ≤ v ∧ v ≤ (d.1.length : Int) - 1
    · cases he : endsB lo hi with
      | false => simp [vIn, hv, he]
      | true =>
        have hb : (-999999999999999999 ≤ lo ∧ lo ≤ hi) ∧ hi ≤ 999999999999999999 := by
          unfold endsB at he; rw [Bool.and_eq_true] at he; exact ⟨of_decide_eq_true he.1, of_decide_eq_true he.2⟩
        have hd3 : decide (hi - lo ≤ 3) = decide (hi ≤ lo + 3) := by apply decide_eq_decide.2; omega
        rw [wrap_i64 (n := hi - lo) (by omega) (by omega), hd3]
        cases decide (hi ≤ lo + 3) <;> simp [vIn, hv, nilB]
    · simp [vIn, hv]
  case inr.inr.inr.inr.inr.inr.inr.inr.inr.inl =>
    by_cases hv : 1 ≤ lo ∧ lo ≤ 3 <;> cases he : (exprK d E == 2) <;> simp [bne, vIn, hv, he, nilB]
  case inl =>
    by_cases hv : 0 ≤ v ∧ v ≤ (d.1.length : Int) - 1 <;> cases he : (exprK d E == 1) <;> simp [bne, vIn, hv, he, nilB]
  case inr.inl =>
    by_cases hv : 0 ≤ v ∧ v ≤ (d.2.1.length : Int) - 1 <;> cases he : (exprK d E == 2) <;> simp [bne, vIn, hv, he, nilB]
  case inr.inr.inl =>
    by_cases hv : 0 ≤ v ∧ v ≤ (d.2.2.1.length : Int) - 1 <;> cases he : (exprK d E == 1) <;> cases hi : (exprK d I == 1) <;> simp [bne, vIn, hv, he, hi, nilB]
  case inr.inr.inr.inl =>
    by_cases hv : 0 ≤ v ∧ v ≤ (d.1.length : Int) - 1 <;> cases he : endsB lo hi <;> simp [bne, vIn, hv, he, nilB]
  all_goals (cases he : (exprK d E == 2) <;> simp [bne, he, nilB])
end Go.Pev.F
end

section
/-
  Which programs are right: the reference's test and the program's agree.
-/
set_option linter.unusedVariables false
set_option linter.unusedSimpArgs false
namespace Go.Pev.F

def usesV (d : DeclT) (n : Int) : Int := if n = 1 ∨ n = 4 ∨ n = 13 then (d.1.length : Int) else if n = 2 then (d.2.1.length : Int) else if n = 3 then (d.2.2.1.length : Int) else -1
theorem l4Uses_is (k : Nat) (d : DeclT) (n : Int) : spec_l4Uses k (d, n, ()) = some ((usesV d n, n == 3, wantE n, (n == 4 || (n == 10 || n == 13)), ()), ((), (), ())) := by
  rcases kind_cases n with rfl | rfl | rfl | rfl | rfl | rfl | rfl | rfl | rfl | rfl | rfl | rfl | rfl | rfl | h
  all_goals first
    | (unfold spec_l4Uses wantE usesV; simp [br_beq]; done)
    | (have e : ∀ c : Int, 1 ≤ c → c ≤ 14 → ¬ n = c := fun c h1 h2 => by omega
       have b3 : (n == 3) = false := by simpa using e 3 (by omega) (by omega)
       have b4 : (n == 4) = false := by simpa using e 4 (by omega) (by omega)
       have b10 : (n == 10) = false := by simpa using e 10 (by omega) (by omega)
       have b13 : (n == 13) = false := by simpa using e 13 (by omega) (by omega)
       unfold spec_l4Uses wantE usesV
       simp [br_beq, e, b3, b4, b10, b13])

theorem bd_in (k : Nat) {α : Type} (a b c : Int) (f : _ → Option α) : bd k (spec_l1In k (a, b, c, ())) f = f ((decide (b ≤ a ∧ a ≤ c), ()), ((), (), (), ())) := by rw [l1In_is, bd_some]

theorem nil_gt {α : Type} (l : List α) : decide ((l.length : Int) > 0) = !nilB l := by
  unfold nilB
  cases l with
  | nil => rfl
  | cons x r => simp; omega

theorem ends_alt (lo hi : Int) : endsB lo hi = (decide (-999999999999999999 ≤ lo ∧ lo ≤ 999999999999999999) && decide (lo ≤ hi ∧ hi ≤ 999999999999999999)) := by
  rw [Bool.eq_iff_iff]
  simp only [endsB, Bool.and_eq_true, decide_eq_true_eq]
  omega

theorem l4Line_is (k : Nat) (hk : 4194304 < k) (hk2 : k ≤ 4611686018427387903) (d : DeclT) (hd : DSmall d) (hdo : declOk d = true) (n : LineT) : spec_l4Line k (d, n, ()) = some ((lineOk d n, ()), ((), (), ())) := by
  obtain ⟨kd, v, I, E, lo, hi, ⟨⟩⟩ := n
  have n0 := hd.n0
  have n1 := hd.n1
  have n2 := hd.n2
  have w0 := wrap_i64 (n := (d.1.length : Int) - 1) (by omega) (by omega)
  have w1 := wrap_i64 (n := (d.2.1.length : Int) - 1) (by omega) (by omega)
  have w2 := wrap_i64 (n := (d.2.2.1.length : Int) - 1) (by omega) (by omega)
  have p0 : ¬ ((d.1.length : Int) < 0) := by omega
  have p1 : ¬ ((d.2.1.length : Int) < 0) := by omega
  have p2 : ¬ ((d.2.2.1.length : Int) < 0) := by omega
  have q0 : ((d.1.length : Int) ≥ 0) := by omega
  have q1 : ((d.2.1.length : Int) ≥ 0) := by omega
  have q2 : ((d.2.2.1.length : Int) ≥ 0) := by omega
  have kE : ∀ {α : Type} (f : _ → Option α), bd k (spec_ExprOk k (d, E, ())) f = f ((exprK d E, ()), ((), (), ())) := fun f => by rw [exprOk_is k hk hk2 d hd E hdo, bd_some]
  have kI : ∀ {α : Type} (f : _ → Option α), bd k (spec_ExprOk k (d, I, ())) f = f ((exprK d I, ()), ((), (), ())) := fun f => by rw [exprOk_is k hk hk2 d hd I hdo, bd_some]
  unfold spec_l4Line lineOk
  rcases kind_cases kd with rfl | rfl | rfl | rfl | rfl | rfl | rfl | rfl | rfl | rfl | rfl | rfl | rfl | rfl | h
  case inr.inr.inr.inr.inr.inr.inr.inr.inr.inr.inr.inr.inr.inr =>
    have e1 : ¬ kd = 1 := by omega
    have e2 : ¬ kd = 2 := by omega
    have e3 : ¬ kd = 3 := by omega
    have e4 : ¬ kd = 4 := by omega
    have e5 : ¬ kd = 5 := by omega
    have e6 : ¬ kd = 6 := by omega
    have e7 : ¬ kd = 7 := by omega
    have e8 : ¬ kd = 8 := by omega
    have e9 : ¬ kd = 9 := by omega
    have e10 : ¬ kd = 10 := by omega
    have e11 : ¬ kd = 11 := by omega
    have e12 : ¬ kd = 12 := by omega
    have e13 : ¬ kd = 13 := by omega
    have e14 : ¬ kd = 14 := by omega
    have e15 : ¬ (1 ≤ kd ∧ kd ≤ 14) := by omega
    simp only [l4Uses_is, bd_some, bd_in, decide_eq_false e15, Bool.not_false, br_true, e1, e2, e3, e4, e5, e6, e7, e8, e9, e10, e11, e12, e13, e14, or_self, ↓reduceIte]
  all_goals (simp (config := { failIfUnchanged := false }) only [l4Uses_is, usesV, wantE, bd_some, br_beq, br_dec, kE, kI, bd_in, w0, w1, w2, p0, p1, p2, q0, q1, q2, nil_gt, ↓reduceIte, Int.reduceEq, Int.reduceLT, Int.reduceGT, Int.reduceLE, Int.reduceGE, Int.reduceNe, Int.reduceNeg, or_true, true_or, or_false, false_or, Option.bind_some, br_true, br_false, Int.reduceBEq, Int.reduceBNe, gt_iff_lt, ge_iff_le, and_self, decide_true, Bool.not_true, Bool.not_false, Bool.or_self, Bool.or_true, Bool.true_or, Bool.or_false, Bool.false_or, Int.reduceSub])
  case inl =>
    by_cases hv : 0 ≤ v ∧ v ≤ (d.1.length : Int) - 1 <;> cases hn : nilB I <;> cases he : (exprK d E == 1) <;> cases hlo : (lo == 0) <;> cases hhi : (hi == 0) <;> simp [bne, vIn, hv, he, hn, hlo, hhi]
  case inr.inl =>
    by_cases hv : 0 ≤ v ∧ v ≤ (d.2.1.length : Int) - 1 <;> cases hn : nilB I <;> cases he : (exprK d E == 2) <;> cases hlo : (lo == 0) <;> cases hhi : (hi == 0) <;> simp [bne, vIn, hv, he, hn, hlo, hhi]
  case inr.inr.inl =>
    by_cases hv : 0 ≤ v ∧ v ≤ (d.2.2.1.length : Int) - 1 <;> cases he : (exprK d E == 1) <;> cases hI : (exprK d I == 1) <;> cases hlo : (lo == 0) <;> cases hhi : (hi == 0) <;> simp [bne, vIn, hv, he, hI, hlo, hhi]
  case inr.inr.inr.inl =>
    rw [ends_alt]
    by_cases hv : 0 ≤ v ∧ v ≤ (d.1.length : Int) - 1 <;> cases hn : nilB I <;> cases he : nilB E <;> cases ha : decide (-999999999999999999 ≤ lo ∧ lo ≤ 999999999999999999) <;> cases hb : decide (lo ≤ hi ∧ hi ≤ 999999999999999999) <;> simp [bne, vIn, hv, he, hn]
  case inr.inr.inr.inr.inr.inr.inr.inr.inr.inr.inr.inr.inl =>
    by_cases hv : 0 ≤ v ∧ v ≤ (d.1.length : Int) - 1
    · cases hn : nilB I
      · simp [bne, vIn, hv, hn]
      cases he : nilB E
      · simp [bne, vIn, hv, hn, he]
      by_cases ha : -999999999999999999 ≤ lo ∧ lo ≤ 999999999999999999
      · by_cases hb : lo ≤ hi ∧ hi ≤ 999999999999999999
        · rw [wrap_i64 (n := lo + 3) (by omega) (by omega), ends_alt, decide_eq_true ha, decide_eq_true hb]
          cases decide (hi ≤ lo + 3) <;> simp [bne, vIn, hv]
        · rw [ends_alt, decide_eq_true ha, decide_eq_false hb]
          simp [bne, vIn, hv]
      · rw [ends_alt, decide_eq_false ha]
        simp [bne, vIn, hv]
    · simp [vIn, hv]
  case inr.inr.inr.inr.inr.inr.inr.inr.inr.inl =>
    by_cases hlo : 1 ≤ lo ∧ lo ≤ 3 <;> cases hv : (v == 0) <;> cases hn : nilB I <;> cases he : (exprK d E == 2) <;> simp [bne, hv, he, hn, hlo]
  all_goals (cases hv : (v == 0) <;> cases hn : nilB I <;> cases he : (exprK d E == 2) <;> cases hE : nilB E <;> cases hlo : (lo == 0) <;> cases hhi : (hi == 0) <;> simp [bne, hv, he, hn, hE, hlo, hhi])
end Go.Pev.F
end

section
/-
  Which programs are right: the whole test.
-/
set_option linter.unusedVariables false
set_option linter.unusedSimpArgs false
namespace Go.Pev.F

abbrev ProgT := Names × Names × List ArrT × List LineT × Unit
def declOf (p : ProgT) : DeclT := (p.1, p.2.1, p.2.2.1, ())
structure PSmall (p : ProgT) : Prop where
  d : DSmall (declOf p)
  n : p.2.2.2.1.length ≤ 1048576
  i : ∀ n ∈ p.2.2.2.1, n.2.2.1.length ≤ 1048576
  e : ∀ n ∈ p.2.2.2.1, n.2.2.2.1.length ≤ 1048576
def progOk (p : ProgT) : Bool := declOk (declOf p) && (decide (p.2.2.2.1.length ≤ 30) && (p.2.2.2.1.all (lineOk (declOf p)) && blocksOk p.2.2.2.1))

theorem all_any {α : Type} (l : List α) (q : α → Bool) : (l.any fun x => !q x) = !l.all q := by rw [List.not_all_eq_any_not]

theorem specProgOk_is (k : Nat) (hk : 4194304 < k) (hk2 : k ≤ 4611686018427387903) (p : ProgT) (hp : PSmall p) : spec_ProgOk k (p, ()) = some ((progOk p, ()), ((), ())) := by
  unfold spec_ProgOk progOk
  have hd : spec_DeclOk k ((p.1, p.2.1, p.2.2.1, ()), ()) = some ((declOk (declOf p), ()), ((), ())) := specDeclOk_is k hk (declOf p) hp.d
  simp only [hd, bd_some]
  cases hdo : declOk (declOf p) with
  | false => simp
  | true =>
    simp only [Bool.not_true, br_false, Bool.true_and, Option.bind_some, br_dec]
    by_cases hc : (p.2.2.2.1.length : Int) > 30
    · have : decide (p.2.2.2.1.length ≤ 30) = false := by simp; omega
      rw [if_pos hc, this]; rfl
    · have hc' : p.2.2.2.1.length ≤ 30 := by omega
      rw [if_neg hc, decide_eq_true hc', Bool.true_and]
      obtain ⟨o, m, t1, t2⟩ := specTargets_ok k hk p.2.2.2.1 hc'
      have h := iter_any (b := spec_ProgOk.l0 k) (fun i => ((p.1, p.2.1, p.2.2.1, p.2.2.2.1, ()), (i : Int), ())) p.2.2.2.1 (fun n => !lineOk (declOf p) n) (rf := some ((false, ()), ((), ()))) (r := some ((blocksOk p.2.2.2.1, ()), ((), ()))) (fun G i hi => by
        have h2 : ((i : Int) < (p.2.2.2.1.length : Int)) := by omega
        have h3 : (0 : Int) ≤ (i : Int) := by omega
        have hl : spec_l4Line k ((p.1, p.2.1, p.2.2.1, ()), p.2.2.2.1[i], ()) = some ((lineOk (declOf p) p.2.2.2.1[i], ()), ((), (), ())) := l4Line_is k hk hk2 (declOf p) hp.d hdo p.2.2.2.1[i]
        simp only [spec_ProgOk.l0, br_dec, if_pos h2, if_pos h3, Int.toNat_natCast, List.getElem?_eq_getElem hi, bd_some, hl]
        rw [wrap_succ (by omega)]
        cases lineOk (declOf p) p.2.2.2.1[i] <;> simp) (fun G => by
        have h2 : ¬ ((p.2.2.2.1.length : Int) < (p.2.2.2.1.length : Int)) := by omega
        simp only [spec_ProgOk.l0, br_dec, if_neg h2, t1, bd_some, t2]) (f := k) (by omega)
      refine Eq.trans h ?_
      rw [all_any]
      cases p.2.2.2.1.all (lineOk (declOf p)) <;> simp

theorem areAllLine_is (k : Nat) (hk : 4194304 < k) (hk2 : k ≤ 4611686018427387903) (d : DeclT) (hd : DSmall d) (l : List LineT) (hl : l.length ≤ 1048576) (hi : ∀ n ∈ l, n.2.2.1.length ≤ 1048576) (he : ∀ n ∈ l, n.2.2.2.1.length ≤ 1048576) :
    impl_areAll_impl_Line k (l, (d, ()), ()) = some ((l.all (lineOk d), ()), ((), ((), ()), ())) := by
  obtain ⟨n, h1, h2⟩ := iter_find (b := slices_IndexFunc_impl_Line_impl_Line.l0 k) (fun i => (l, (((d, ()), ()), ()), (l.length : Int), (i : Int), ())) l (fun t => !lineOk d t) (o := ((), (((d, ()), ()), ()), ())) (fun G i hi' => by
    have h2 : ((i : Int) < (l.length : Int)) := by omega
    have h3 : (0 : Int) ≤ (i : Int) := by omega
    have hm := List.getElem_mem hi'
    simp only [slices_IndexFunc_impl_Line_impl_Line.l0, impl_areAll_impl_Line_1, isLine_is k hk hk2 d hd l[i] (hi _ hm) (he _ hm), br_dec, if_pos h2, if_pos h3, Int.toNat_natCast, List.getElem?_eq_getElem hi', bd_some]
    rw [wrap_succ (by omega)]
    cases lineOk d l[i] <;> simp) (fun G => by
    have h2 : ¬ ((l.length : Int) < (l.length : Int)) := by omega
    simp only [slices_IndexFunc_impl_Line_impl_Line.l0, br_dec, if_neg h2]) (f := k) (by omega)
  unfold impl_areAll_impl_Line slices_ContainsFunc_impl_Line_impl_Line slices_IndexFunc_impl_Line_impl_Line
  have h1' : iter (slices_IndexFunc_impl_Line_impl_Line.l0 k) k (l, (((d, ()), ()), ()), (l.length : Int), 0, ()) = some ((n, ()), ((), (((d, ()), ()), ()), ())) := h1
  simp only [h1', bd_some, h2, all_any, Bool.not_not]

theorem implProgOk_is (k : Nat) (hk : 4194304 < k) (hk2 : k ≤ 4611686018427387903) (p : ProgT) (hp : PSmall p) : impl_Prog_isRight k (p, ()) = some ((progOk p, ()), ((), ())) := by
  unfold impl_Prog_isRight progOk
  have hd : impl_Decl_isRight k ((p.1, p.2.1, p.2.2.1, ()), ()) = some ((declOk (declOf p), ()), ((), ())) := implDeclOk_is k hk hk2 (declOf p) hp.d
  have ha : impl_areAll_impl_Line k (p.2.2.2.1, ((p.1, p.2.1, p.2.2.1, ()), ()), ()) = some ((p.2.2.2.1.all (lineOk (declOf p)), ()), ((), ((), ()), ())) := areAllLine_is k hk hk2 (declOf p) hp.d p.2.2.2.1 hp.n hp.i hp.e
  simp only [hd, bd_some]
  cases hdo : declOk (declOf p) with
  | false => simp
  | true =>
    simp only [Bool.not_true, br_false, Bool.true_and, br_dec]
    by_cases hc : (p.2.2.2.1.length : Int) > 30
    · have : decide (p.2.2.2.1.length ≤ 30) = false := by simp; omega
      rw [if_pos hc, this]; rfl
    · have hc' : p.2.2.2.1.length ≤ 30 := by omega
      obtain ⟨o, t⟩ := implTargets_ok k hk p.2.2.2.1 hc'
      rw [if_neg hc, decide_eq_true hc', Bool.true_and]
      simp only [ha, t, bd_some]
      cases p.2.2.2.1.all (lineOk (declOf p)) <;> simp
end Go.Pev.F
end

section
/-
  Tokens: which are right, and their order: the reference's and the program's agree.
-/
set_option linter.unusedVariables false
set_option linter.unusedSimpArgs false
namespace Go.Pev.F

abbrev EntT := Int × Int × Unit
def entOk (e : EntT) : Bool := decide (0 ≤ e.1 ∧ e.1 ≤ 29) && decide (0 ≤ e.2.1 ∧ e.2.1 ≤ 4)
def tokenOk (t : List EntT) : Bool := decide (t.length ≤ 3) && t.all entOk

theorem entOk_fits {e : EntT} (h : entOk e = true) : (0 ≤ e.1 ∧ e.1 ≤ 29) ∧ (0 ≤ e.2.1 ∧ e.2.1 ≤ 4) := by
  unfold entOk at h
  rw [Bool.and_eq_true] at h
  exact ⟨of_decide_eq_true h.1, of_decide_eq_true h.2⟩

theorem specTokenOk_is (k : Nat) (hk : 4194304 < k) (t : List EntT) : spec_TokenOk k (t, ()) = some ((tokenOk t, ()), ((), ())) := by
  unfold spec_TokenOk tokenOk
  simp only [br_dec]
  by_cases hc : (t.length : Int) > 3
  · have : decide (t.length ≤ 3) = false := by simp; omega
    rw [if_pos hc, this]; rfl
  · have hc' : t.length ≤ 3 := by omega
    rw [if_neg hc, decide_eq_true hc', Bool.true_and]
    have h := iter_any (b := spec_TokenOk.l0 k) (fun i => (t, (i : Int), ())) t (fun e => !entOk e) (rf := some ((false, ()), ((), ()))) (r := some ((true, ()), ((), ()))) (fun G i hi => by
      have h2 : ((i : Int) < (t.length : Int)) := by omega
      have h3 : (0 : Int) ≤ (i : Int) := by omega
      simp only [spec_TokenOk.l0, br_dec, if_pos h2, if_pos h3, Int.toNat_natCast, List.getElem?_eq_getElem hi, bd_some, l1In_is]
      rw [wrap_succ (by omega), entOk]
      cases decide (0 ≤ t[i].1 ∧ t[i].1 ≤ 29) <;> cases decide (0 ≤ t[i].2.1 ∧ t[i].2.1 ≤ 4) <;> simp) (fun G => by
      have h2 : ¬ ((t.length : Int) < (t.length : Int)) := by omega
      simp only [spec_TokenOk.l0, br_dec, if_neg h2]) (f := k) (by omega)
    refine Eq.trans h ?_
    rw [all_any]
    cases t.all entOk <;> rfl

theorem implTokenOk_is (k : Nat) (hk : 4194304 < k) (t : List EntT) : impl_TokenOk k (t, ()) = some ((tokenOk t, ()), ((), ())) := by
  unfold impl_TokenOk tokenOk
  simp only [br_dec]
  by_cases hc : (t.length : Int) ≤ 3
  · have hc' : t.length ≤ 3 := by omega
    rw [if_pos hc, decide_eq_true hc', Bool.true_and]
    obtain ⟨n, h1, h2⟩ := iter_find (b := slices_IndexFunc_impl_Entry_impl_Entry.l0 k) (fun i => (t, (((()), ()), ()), (t.length : Int), (i : Int), ())) t (fun e => !entOk e) (o := ((), (((()), ()), ()), ())) (fun G i hi => by
      have h2 : ((i : Int) < (t.length : Int)) := by omega
      have h3 : (0 : Int) ≤ (i : Int) := by omega
      simp only [slices_IndexFunc_impl_Entry_impl_Entry.l0, impl_areAll_impl_Entry_1, impl_entryOk, within_is, br_dec (p := (i : Int) < (t.length : Int)), br_dec (p := (0 : Int) ≤ (i : Int)), if_pos h2, if_pos h3, Int.toNat_natCast, List.getElem?_eq_getElem hi, bd_some]
      rw [wrap_succ (by omega), entOk]
      cases decide (0 ≤ t[i].1 ∧ t[i].1 ≤ 29) <;> cases decide (0 ≤ t[i].2.1 ∧ t[i].2.1 ≤ 4) <;> simp) (fun G => by
      have h2 : ¬ ((t.length : Int) < (t.length : Int)) := by omega
      simp only [slices_IndexFunc_impl_Entry_impl_Entry.l0, br_dec, if_neg h2]) (f := k) (by omega)
    unfold impl_areAll_impl_Entry slices_ContainsFunc_impl_Entry_impl_Entry slices_IndexFunc_impl_Entry_impl_Entry
    have h1' : iter (slices_IndexFunc_impl_Entry_impl_Entry.l0 k) k (t, (((()), ()), ()), (t.length : Int), 0, ()) = some ((n, ()), ((), (((()), ()), ()), ())) := h1
    simp only [h1', bd_some, h2, all_any, Bool.not_not]
  · have : decide (t.length ≤ 3) = false := by simp; omega
    rw [if_neg hc, this]; rfl

/-! ### The order -/

def cmpE (x y : EntT) : Int := if x.1 < y.1 then -1 else if x.1 > y.1 then 1 else if x.2.1 < y.2.1 then -1 else if x.2.1 > y.2.1 then 1 else 0
def cmpX : List EntT → List EntT → Int
  | x :: a, y :: b => if cmpE x y = 0 then cmpX a b else cmpE x y
  | _, _ => 0
def cmpT (a b : List EntT) : Int := if a.length < b.length then -1 else if a.length > b.length then 1 else cmpX a b

theorem compare_is (k : Nat) (x y : Int) : cmp_Compare_int k (x, y, ()) = some ((if x < y then -1 else if x > y then 1 else 0, ()), ((), (), ())) := by
  unfold cmp_Compare_int cmp_isNaN_int
  simp only [bd_some, bne_self_eq_false, br_false, br_dec]
  by_cases h1 : x < y
  · simp only [if_pos h1]
  · by_cases h2 : x > y
    · simp only [if_neg h1, if_pos h2]
    · simp only [if_neg h1, if_neg h2]

theorem compare64_is (k : Nat) (x y : Int) : cmp_Compare_int64 k (x, y, ()) = some ((if x < y then -1 else if x > y then 1 else 0, ()), ((), (), ())) := by
  unfold cmp_Compare_int64 cmp_isNaN_int64
  simp only [bd_some, bne_self_eq_false, br_false, br_dec]
  by_cases h1 : x < y
  · simp only [if_pos h1]
  · by_cases h2 : x > y
    · simp only [if_neg h1, if_pos h2]
    · simp only [if_neg h1, if_neg h2]

theorem or_is (k : Nat) (hk : 4194304 < k) (x y : Int) : cmp_Or_int k (([x, y] : List Int), ()) = some ((if x = 0 then y else x, ()), ((), ())) := by
  obtain ⟨j, rfl⟩ : ∃ j, k = j + 3 := ⟨k - 3, by omega⟩
  unfold cmp_Or_int
  simp only [List.length_cons, List.length_nil]
  rw [iter_succ]
  simp only [cmp_Or_int.l0, br_dec]
  rw [if_pos (by decide), if_pos (by decide)]
  by_cases h1 : x = 0
  · subst h1
    simp only [Int.toNat_zero, List.getElem?_cons_zero, bd_some, bne_self_eq_false, br_false, if_pos]
    rw [wrap_i64 (by decide) (by decide), iter_succ]
    simp only [cmp_Or_int.l0, br_dec]
    rw [if_pos (by decide), if_pos (by decide)]
    by_cases h2 : y = 0
    · subst h2
      have e : ([0, 0] : List Int)[((0 : Int) + 1).toNat]? = some 0 := rfl
      simp only [e, bd_some, bne_self_eq_false, br_false]
      rw [wrap_i64 (by decide) (by decide), iter_succ]
      simp only [cmp_Or_int.l0, br_dec]
      rw [if_neg (by decide)]
    · have e : ([0, y] : List Int)[((0 : Int) + 1).toNat]? = some y := rfl
      have b : (y != 0) = true := by simpa using h2
      simp only [e, bd_some, b, br_true]
  · have b : (x != 0) = true := by simpa using h1
    simp only [Int.toNat_zero, List.getElem?_cons_zero, bd_some, b, br_true, if_neg h1]

theorem cmpE_is (k : Nat) (hk : 4194304 < k) (x y : EntT) : impl_compareTokens_1 k (x, y, ()) = some ((cmpE x y, ()), ((), (), ())) := by
  unfold impl_compareTokens_1
  simp only [compare64_is, or_is k hk, bd_some]
  unfold cmpE
  by_cases h1 : x.1 < y.1
  · simp [h1]
  · by_cases h2 : x.1 > y.1
    · simp [h1, h2]
    · simp [h1, h2]

theorem cmpX_drop {a b : List EntT} {i : Nat} (ha : i < a.length) (hb : i < b.length) : cmpX (a.drop i) (b.drop i) = if cmpE a[i] b[i] = 0 then cmpX (a.drop (i + 1)) (b.drop (i + 1)) else cmpE a[i] b[i] := by
  rw [List.drop_eq_getElem_cons ha, List.drop_eq_getElem_cons hb]; rfl

theorem cmpX_nil (a b : List EntT) {i : Nat} (ha : a.length ≤ i) : cmpX (a.drop i) (b.drop i) = 0 := by
  rw [List.drop_of_length_le ha]; cases b.drop i <;> rfl

theorem compareFunc_is (k : Nat) (hk : 4194304 < k) (a b : List EntT) (ha : a.length ≤ 1048576) : ∃ n : Int, slices_CompareFunc_impl_Entry_impl_Entry_impl_Entry_impl_Entry k (a, b, (()), ()) = some ((n, ()), ((), (), (()), ())) ∧ (a.length = b.length → n = cmpX a b) := by
  have key : ∀ (n i f : Nat), i + n = a.length → n < f → ∃ m : Int, iter (slices_CompareFunc_impl_Entry_impl_Entry_impl_Entry_impl_Entry.l0 k) f (a, b, (()), a, (a.length : Int), (i : Int), ()) = some ((m, ()), ((), (), (()), ())) ∧ (a.length = b.length → m = cmpX (a.drop i) (b.drop i)) := by
    intro n
    induction n with
    | zero =>
      intro i f hi hf
      obtain ⟨f, rfl⟩ : ∃ g, f = g + 1 := ⟨f - 1, by omega⟩
      have h2 : ¬ ((i : Int) < (a.length : Int)) := by omega
      rw [iter_succ]
      simp only [slices_CompareFunc_impl_Entry_impl_Entry_impl_Entry_impl_Entry.l0, br_dec, if_neg h2]
      by_cases hl : (a.length : Int) < (b.length : Int)
      · exact ⟨-1, by rw [if_pos hl], fun h => by omega⟩
      · exact ⟨0, by rw [if_neg hl], fun h => by rw [cmpX_nil a b (by omega)]⟩
    | succ n ih =>
      intro i f hi hf
      obtain ⟨f, rfl⟩ : ∃ g, f = g + 1 := ⟨f - 1, by omega⟩
      have hi' : i < a.length := by omega
      have h2 : ((i : Int) < (a.length : Int)) := by omega
      have h3 : (0 : Int) ≤ (i : Int) := by omega
      rw [iter_succ]
      simp only [slices_CompareFunc_impl_Entry_impl_Entry_impl_Entry_impl_Entry.l0, br_dec, if_pos h2, if_pos h3, Int.toNat_natCast, List.getElem?_eq_getElem hi', bd_some]
      by_cases hb : (i : Int) ≥ (b.length : Int)
      · exact ⟨1, by rw [if_pos hb], fun h => by omega⟩
      · have hb' : i < b.length := by omega
        rw [if_neg hb]
        simp only [List.getElem?_eq_getElem hb', bd_some, cmpE_is k hk]
        rw [wrap_succ (by omega)]
        by_cases hc : cmpE a[i] b[i] = 0
        · have e : (cmpE a[i] b[i] != 0) = false := by simpa using hc
          obtain ⟨m, e1, e2⟩ := ih (i + 1) f (by omega) (by omega)
          refine ⟨m, by rw [e, br_false]; exact e1, fun h => ?_⟩
          rw [cmpX_drop hi' hb', if_pos hc]; exact e2 h
        · have e : (cmpE a[i] b[i] != 0) = true := by simpa using hc
          exact ⟨cmpE a[i] b[i], by rw [e, br_true], fun h => by rw [cmpX_drop hi' hb', if_neg hc]⟩
  obtain ⟨m, e1, e2⟩ := key a.length 0 k (by omega) (by omega)
  exact ⟨m, e1, fun h => e2 h⟩

theorem implCmp_is (k : Nat) (hk : 4194304 < k) (a b : List EntT) (ha : a.length ≤ 1048576) : impl_compareTokens k (a, b, ()) = some ((cmpT a b, ()), ((), (), ())) := by
  unfold impl_compareTokens cmpT
  obtain ⟨n, e1, e2⟩ := compareFunc_is k hk a b ha
  simp only [compare_is, e1, or_is k hk, bd_some]
  by_cases h1 : a.length < b.length
  · have h1' : (a.length : Int) < (b.length : Int) := by omega
    rw [if_pos h1', if_pos h1]; rfl
  · by_cases h2 : a.length > b.length
    · have h1' : ¬ (a.length : Int) < (b.length : Int) := by omega
      have h2' : (a.length : Int) > (b.length : Int) := by omega
      rw [if_neg h1', if_pos h2', if_neg h1, if_pos h2]; rfl
    · have h1' : ¬ (a.length : Int) < (b.length : Int) := by omega
      have h2' : ¬ (a.length : Int) > (b.length : Int) := by omega
      rw [if_neg h1', if_neg h2', if_neg h1, if_neg h2, if_pos rfl, e2 (by omega)]

/-- The reference's order is the program's where entries fit. -/
theorem specCmp_is (k : Nat) (hk : 4194304 < k) (a b : List EntT) (ha : tokenOk a = true) (hb : tokenOk b = true) : spec_l9Cmp k (a, b, ()) = some ((cmpT a b, ()), ((), (), ())) := by
  unfold tokenOk at ha hb
  rw [Bool.and_eq_true] at ha hb
  have la := of_decide_eq_true ha.1
  have fa := fun i (h : i < a.length) => entOk_fits (List.all_eq_true.1 ha.2 a[i] (List.getElem_mem h))
  have fb := fun i (h : i < b.length) => entOk_fits (List.all_eq_true.1 hb.2 b[i] (List.getElem_mem h))
  unfold spec_l9Cmp cmpT
  by_cases hl : a.length = b.length
  · have hz : ((a.length : Int) != (b.length : Int)) = false := by simp [hl]
    simp only [hz, br_false]
    rw [if_neg (by omega), if_neg (by omega)]
    have key : ∀ (n i f : Nat), i + n = a.length → n < f → iter (spec_l9Cmp.l0 k) f (a, b, (i : Int), ()) = some ((cmpX (a.drop i) (b.drop i), ()), ((), (), ())) := by
      intro n
      induction n with
      | zero =>
        intro i f hi hf
        obtain ⟨f, rfl⟩ : ∃ g, f = g + 1 := ⟨f - 1, by omega⟩
        have h2 : ¬ ((i : Int) < (a.length : Int)) := by omega
        rw [iter_succ, cmpX_nil a b (by omega)]
        simp only [spec_l9Cmp.l0, br_dec, if_neg h2]
      | succ n ih =>
        intro i f hi hf
        obtain ⟨f, rfl⟩ : ∃ g, f = g + 1 := ⟨f - 1, by omega⟩
        have hi' : i < a.length := by omega
        have hb' : i < b.length := by omega
        have h2 : ((i : Int) < (a.length : Int)) := by omega
        have h3 : (0 : Int) ≤ (i : Int) := by omega
        have xa := fa i hi'
        have xb := fb i hb'
        rw [iter_succ, cmpX_drop hi' hb']
        simp only [spec_l9Cmp.l0, br_dec, if_pos h2, if_pos h3, Int.toNat_natCast, List.getElem?_eq_getElem hi', List.getElem?_eq_getElem hb', bd_some]
        rw [wrap_i64 (n := 10 * a[i].1) (by omega) (by omega), wrap_i64 (n := 10 * b[i].1) (by omega) (by omega), wrap_i64 (n := 10 * a[i].1 + a[i].2.1) (by omega) (by omega), wrap_i64 (n := 10 * b[i].1 + b[i].2.1) (by omega) (by omega), wrap_succ (by omega)]
        by_cases c1 : 10 * a[i].1 + a[i].2.1 < 10 * b[i].1 + b[i].2.1
        · have e : cmpE a[i] b[i] = -1 := by
            unfold cmpE
            by_cases d1 : a[i].1 < b[i].1
            · rw [if_pos d1]
            · rw [if_neg d1, if_neg (by omega), if_pos (by omega)]
          rw [if_pos c1, e]; rfl
        · by_cases c2 : 10 * a[i].1 + a[i].2.1 > 10 * b[i].1 + b[i].2.1
          · have e : cmpE a[i] b[i] = 1 := by
              unfold cmpE
              by_cases d1 : a[i].1 > b[i].1
              · rw [if_neg (by omega), if_pos d1]
              · rw [if_neg (by omega), if_neg d1, if_neg (by omega), if_pos (by omega)]
            rw [if_neg c1, if_pos c2, e]; rfl
          · have e : cmpE a[i] b[i] = 0 := by
              unfold cmpE
              rw [if_neg (by omega), if_neg (by omega), if_neg (by omega), if_neg (by omega)]
            rw [if_neg c1, if_neg c2, if_pos e]
            exact ih (i + 1) f (by omega) (by omega)
    exact key a.length 0 k (by omega) (by omega)
  · have hz : ((a.length : Int) != (b.length : Int)) = true := by simp; omega
    simp only [hz, br_true, br_dec]
    by_cases h1 : a.length < b.length
    · rw [if_pos (show (a.length : Int) < (b.length : Int) by omega), if_pos h1]
    · rw [if_neg (show ¬ (a.length : Int) < (b.length : Int) by omega), if_neg h1, if_pos (by omega)]
end Go.Pev.F
end

section
/-
  An environment's text: sizes, copies, comparisons; which are right.
-/
set_option linter.unusedVariables false
set_option linter.unusedSimpArgs false
namespace Go.Pev.F

structure ESmall (e : EnvT) : Prop where
  n1 : e.2.1.length ≤ 1048576
  n2 : e.2.2.1.length ≤ 1048576

abbrev ivKd : Kd := .cons (.int .i64) (.cons (.int .i64) .nil)
abbrev envKd : Kd := .cons .bool (.cons (.sl false ivKd) (.cons (.sl false ivKd) .nil))

theorem szIntervalS_is (k : Nat) (a : List IvT) (ha : a.length ≤ 140737488351232) (left : Int) (h0 : 0 ≤ left) (h1 : left ≤ 1048576) :
    ∃ r : Int, laws_szIntervalS k (a, left, ()) = some ((r, ()), ((), (), ())) ∧ (0 ≤ r → r ≤ left ∧ a.length ≤ 1048576) := by
  unfold laws_szIntervalS
  simp only [br_dec]
  rw [wrap_i64 (by omega) (by omega)]
  by_cases hc : left - (a.length : Int) < 0
  · rw [if_pos hc]; exact ⟨-1, rfl, fun h => by omega⟩
  · rw [if_neg hc]; exact ⟨_, rfl, fun h => by omega⟩

theorem szEnv_is (k : Nat) (e : EnvT) (hw : envKd.WF e) (left : Int) (h0 : 0 ≤ left) (h1 : left ≤ 1048576) : ∃ r : Int, laws_szEnv k (e, left, ()) = some ((r, ()), ((), (), ())) ∧ (0 ≤ r → ESmall e) := by
  obtain ⟨_, ⟨b1, b2⟩, ⟨c1, c2⟩, _⟩ := hw
  obtain ⟨r1, e1, p1⟩ := szIntervalS_is k e.2.1 b1 left h0 h1
  unfold laws_szEnv
  simp only [e1, bd_some, br_dec]
  by_cases h1 : r1 < 0
  · rw [if_pos h1]; exact ⟨-1, rfl, fun h => by omega⟩
  rw [if_neg h1]
  obtain ⟨q1, q2⟩ := p1 (by omega)
  obtain ⟨r2, e2, p2⟩ := szIntervalS_is k e.2.2.1 c1 r1 (by omega) (by omega)
  simp only [e2, bd_some]
  by_cases h2 : r2 < 0
  · rw [if_pos h2]; exact ⟨-1, rfl, fun h => by omega⟩
  rw [if_neg h2]
  exact ⟨r2, rfl, fun h => ⟨q2, (p2 h).2⟩⟩

theorem toIntervalS_is (k : Nat) (a : List IvT) (ha : a.length ≤ 1048576) (hk : 1048576 < k) : laws_toIntervalS k (a, ()) = some ((a, ()), ((), ())) := by
  unfold laws_toIntervalS
  have h : 0 ≤ (a.length : Int) ∧ (a.length : Int) ≤ (a.length : Int) ∧ (a.length : Int) * 16 ≤ maxBytes := by simp [maxBytes]; omega
  simp only [br_dec, if_pos h, Int.toNat_natCast]
  generalize hz : (Kd.z (.cons (.int .i64) (.cons (.int .i64) .nil)) : IvT) = z
  have key := iter_for (b := laws_toIntervalS.l0 k) (fun i => (a, a.take i ++ List.replicate (a.length - i) z, (i : Int), ())) a.length (r := some ((a, ()), ((), ()))) (fun G i hi => by
    have h2 : ((i : Int) < (a.length : Int)) := by omega
    have h3 : (0 : Int) ≤ (i : Int) := by omega
    have h4 : 0 ≤ (i : Int) ∧ (i : Int) < ((a.take i ++ List.replicate (a.length - i) z).length : Int) := by simp; omega
    simp only [laws_toIntervalS.l0, laws_toInterval, br_dec, if_pos h2, if_pos h3, if_pos h4, Int.toNat_natCast, List.getElem?_eq_getElem hi, get_next a _ hi, bd_some]
    rw [set_next a _ hi, wrap_succ (by omega)]) (fun G => by
    have h2 : ¬ ((a.length : Int) < (a.length : Int)) := by omega
    simp only [laws_toIntervalS.l0, br_dec, if_neg h2]
    simp) (f := k) (by omega)
  simpa using key

theorem toEnv_is (k : Nat) (e : EnvT) (he : ESmall e) (hk : 1048576 < k) : laws_toEnv k (e, ()) = some ((e, ()), ((), ())) := by
  unfold laws_toEnv
  simp only [toIntervalS_is k _ he.n1 hk, toIntervalS_is k _ he.n2 hk, bd_some]

theorem eqIntervalS_is (k : Nat) (a : List IvT) (ha : a.length ≤ 1048576) (hk : 1048576 < k) : laws_eqIntervalS k (a, a, ()) = some ((true, ()), ((), (), ())) := by
  unfold laws_eqIntervalS
  have hb : ((a.length : Int) != (a.length : Int)) = false := by simp
  simp only [hb, br_false]
  exact iter_for (b := laws_eqIntervalS.l0 k) (fun i => (a, a, (i : Int), ())) a.length (fun G i hi => by
    have h2 : ((i : Int) < (a.length : Int)) := by omega
    have h3 : (0 : Int) ≤ (i : Int) := by omega
    simp only [laws_eqIntervalS.l0, laws_eqInterval, br_dec, if_pos h2, if_pos h3, Int.toNat_natCast, List.getElem?_eq_getElem hi, bd_some, bne_self_eq_false, Bool.not_true, br_false]
    rw [wrap_succ (by omega)]) (fun G => by
    have h2 : ¬ ((a.length : Int) < (a.length : Int)) := by omega
    simp only [laws_eqIntervalS.l0, br_dec, if_neg h2]) (by omega)

theorem eqEnv_is (k : Nat) (e : EnvT) (he : ESmall e) (hk : 1048576 < k) : laws_eqEnv k (e, e, ()) = some ((true, ()), ((), (), ())) := by
  unfold laws_eqEnv
  simp only [eqIntervalS_is k _ he.n1 hk, eqIntervalS_is k _ he.n2 hk, bd_some, BEq.rfl, Bool.not_true, br_false]

/-! ### Which are right -/

def ivOk (a : IvT) : Bool := decide (a.1 ≤ a.2.1)
def ivsOk (l : List IvT) : Bool := !l.any fun a => !ivOk a
def envFits (d : DeclT) (e : EnvT) : Bool :=
  cond e.1 (((e.2.1.length : Int) == (d.1.length : Int)) && (((e.2.2.1.length : Int) == (d.2.2.1.length : Int)) && (ivsOk e.2.1 && ivsOk e.2.2.1))) (((e.2.1.length : Int) == 0) && ((e.2.2.1.length : Int) == 0))
def envOk (d : DeclT) (e : EnvT) : Bool := declOk d && envFits d e

theorem specEnvOk_is (k : Nat) (hk : 4194304 < k) (d : DeclT) (hd : DSmall d) (e : EnvT) (he : ESmall e) : spec_EnvOk k (d, e, ()) = some ((envOk d e, ()), ((), (), ())) := by
  have n1 := he.n1
  have n2 := he.n2
  unfold spec_EnvOk envOk
  simp only [specDeclOk_is k hk d hd, bd_some]
  cases hdo : declOk d with
  | false => simp
  | true =>
    simp only [Bool.not_true, br_false, Bool.true_and]
    unfold envFits
    cases he1 : e.1 with
    | false =>
      simp only [Bool.not_false, br_true, cond_false]
      cases hz : ((e.2.1.length : Int) == 0) <;> simp
    | true =>
      simp only [Bool.not_true, br_false, cond_true]
      unfold bne
      cases h1 : ((e.2.1.length : Int) == (d.1.length : Int)) with
      | false => simp
      | true =>
        simp only [Bool.not_true, br_false, Bool.true_and]
        cases h2 : ((e.2.2.1.length : Int) == (d.2.2.1.length : Int)) with
        | false => simp
        | true =>
          have l1 : (([] : List (Int × Int × Unit)).length + e.2.1.length) * 16 ≤ maxBytes := by simp [maxBytes]; omega
          have l2 : ((([] : List (Int × Int × Unit)) ++ e.2.1).length + e.2.2.1.length) * 16 ≤ maxBytes := by simp [maxBytes]; omega
          simp only [Bool.not_true, Option.bind_some, br_false, Bool.true_and, spec_l6List, br_dec, if_pos l1, if_pos l2, bd_some]
          have h := iter_any (b := spec_EnvOk.l0 k) (fun i => (([] ++ e.2.1) ++ e.2.2.1, (i : Int), ())) (([] ++ e.2.1) ++ e.2.2.1) (fun a => !ivOk a) (rf := some ((false, ()), ((), (), ()))) (r := some ((true, ()), ((), (), ()))) (fun G i hi => by
            have hi' : i < e.2.1.length + e.2.2.1.length := by simpa using hi
            have h2 : ((i : Int) < ((([] ++ e.2.1) ++ e.2.2.1).length : Int)) := by omega
            have h3 : 0 ≤ (i : Int) ∧ ((i : Int) < ((([] ++ e.2.1) ++ e.2.2.1).length : Int)) := by omega
            simp only [spec_EnvOk.l0, spec_IvOk, br_dec, if_pos h2, if_pos h3, Int.toNat_natCast, List.getElem?_eq_getElem hi, bd_some]
            rw [wrap_succ (by omega), ivOk]
            cases decide ((([] ++ e.2.1) ++ e.2.2.1)[i].1 ≤ (([] ++ e.2.1) ++ e.2.2.1)[i].2.1) <;> simp) (fun G => by
            have h2 : ¬ ((((([] ++ e.2.1) ++ e.2.2.1).length : Nat) : Int) < ((([] ++ e.2.1) ++ e.2.2.1).length : Int)) := by omega
            simp only [spec_EnvOk.l0, br_dec, if_neg h2]) (f := k) (by simp; omega)
          refine Eq.trans h ?_
          unfold ivsOk
          rw [List.nil_append, List.any_append]
          cases e.2.1.any (fun a => !ivOk a) <;> cases e.2.2.1.any (fun a => !ivOk a) <;> rfl

theorem areAllIv_is (k : Nat) (l : List IvT) (hl : l.length ≤ 1048576) (hk : 4194304 < k) : impl_areAll_impl_Interval k (l, (()), ()) = some ((ivsOk l, ()), ((), (()), ())) := by
  obtain ⟨n, h1, h2⟩ := iter_find (b := slices_IndexFunc_impl_Interval_impl_Interval.l0 k) (fun i => (l, (((()), ()), ()), (l.length : Int), (i : Int), ())) l (fun a => !ivOk a) (o := ((), (((()), ()), ()), ())) (fun G i hi => by
    have h2 : ((i : Int) < (l.length : Int)) := by omega
    have h3 : (0 : Int) ≤ (i : Int) := by omega
    simp only [slices_IndexFunc_impl_Interval_impl_Interval.l0, impl_areAll_impl_Interval_1, impl_IvOk, br_dec, if_pos h2, if_pos h3, Int.toNat_natCast, List.getElem?_eq_getElem hi, bd_some]
    rw [wrap_succ (by omega), ivOk]
    cases decide (l[i].1 ≤ l[i].2.1) <;> simp) (fun G => by
    have h2 : ¬ ((l.length : Int) < (l.length : Int)) := by omega
    simp only [slices_IndexFunc_impl_Interval_impl_Interval.l0, br_dec, if_neg h2]) (f := k) (by omega)
  unfold impl_areAll_impl_Interval slices_ContainsFunc_impl_Interval_impl_Interval slices_IndexFunc_impl_Interval_impl_Interval
  have h1' : iter (slices_IndexFunc_impl_Interval_impl_Interval.l0 k) k (l, (((()), ()), ()), (l.length : Int), 0, ()) = some ((n, ()), ((), (((()), ()), ()), ())) := h1
  simp only [h1', bd_some, h2]
  rfl

theorem isEnv_is (k : Nat) (hk : 4194304 < k) (d : DeclT) (e : EnvT) (he : ESmall e) : impl_Decl_isEnv k (d, e, ()) = some ((envFits d e, ()), ((), (), ())) := by
  unfold impl_Decl_isEnv envFits
  cases he1 : e.1 with
  | false =>
    simp only [he1, Bool.not_false, br_true, cond_false]
    cases hz : ((e.2.1.length : Int) == 0) <;> simp
  | true =>
    simp only [he1, Bool.not_true, br_false, cond_true]
    cases h1 : ((e.2.1.length : Int) == (d.1.length : Int)) with
    | false => simp
    | true =>
      cases h2 : ((e.2.2.1.length : Int) == (d.2.2.1.length : Int)) with
      | false => simp
      | true =>
        simp only [areAllIv_is k _ he.n1 hk, areAllIv_is k _ he.n2 hk, br_true, bd_some]
        cases ivsOk e.2.1 <;> simp
end Go.Pev.F
end

section
/-
  Tables: which are right, and which live: the reference's test and the program's agree.
-/
set_option linter.unusedVariables false
set_option linter.unusedSimpArgs false
namespace Go.Pev.F

def tableOk (d : DeclT) (t : List EnvT) : Bool := decide ((t.length : Int) = 2 ^ d.2.1.length) && t.all (envFits d)
def tableLive (t : List EnvT) : Bool := t.any fun e => e.1

theorem wrap_pow {n : Nat} (h : n ≤ 3) : IntKind.wrap .i64 (1 * 2 ^ (min n 64)) = 2 ^ n := by
  have : n = 0 ∨ n = 1 ∨ n = 2 ∨ n = 3 := by omega
  rcases this with rfl | rfl | rfl | rfl <;> decide

theorem l8Size_is (k : Nat) (d : DeclT) (h : d.2.1.length ≤ 3) : spec_l8Size k (d, ()) = some (((2 : Int) ^ d.2.1.length, ()), ((), ())) := by
  unfold spec_l8Size
  have w : IntKind.wrap .u64 (d.2.1.length : Int) = (d.2.1.length : Int) := wrap_u64 (by omega) (by omega)
  have h0 : (0 : Int) ≤ (d.2.1.length : Int) := by omega
  simp only [w, br_dec, if_pos h0, Int.toNat_natCast, wrap_pow h]

theorem leaves_of (k : Nat) (d : DeclT) (h : d.2.1.length ≤ 3) : impl_Decl_leaves k (d, ()) = some (((2 : Int) ^ d.2.1.length, ()), ((), ())) := by
  unfold impl_Decl_leaves
  have h0 : (0 : Int) ≤ (d.2.1.length : Int) := by omega
  simp only [br_dec, if_pos h0, Int.toNat_natCast, wrap_pow h]

theorem decl_flags {d : DeclT} (h : declOk d = true) : d.1.length ≤ 5 ∧ d.2.1.length ≤ 3 ∧ d.2.2.1.length ≤ 2 := by
  unfold declOk at h
  rw [Bool.and_eq_true] at h
  exact of_decide_eq_true h.1

theorem specTableOk_is (k : Nat) (hk : 4194304 < k) (d : DeclT) (hd : DSmall d) (hdo : declOk d = true) (t : List EnvT) (ht : t.length ≤ 1048576) (hs : ∀ e ∈ t, ESmall e) : spec_TableOk k (d, t, ()) = some ((tableOk d t, ()), ((), (), ())) := by
  have hf := (decl_flags hdo).2.1
  unfold spec_TableOk tableOk
  simp only [specDeclOk_is k hk d hd, hdo, bd_some, Bool.not_true, br_false, l8Size_is k d hf, Option.bind_some]
  by_cases hl : (t.length : Int) = 2 ^ d.2.1.length
  · have b : ((t.length : Int) != 2 ^ d.2.1.length) = false := by simpa using hl
    rw [b, br_false, decide_eq_true hl, Bool.true_and]
    have h := iter_any (b := spec_TableOk.l0 k) (fun i => (t, (d.1, d.2.1, d.2.2.1, ()), (i : Int), ())) t (fun e => !envFits d e) (rf := some ((false, ()), ((), (), ()))) (r := some ((true, ()), ((), (), ()))) (fun G i hi => by
      have h2 : ((i : Int) < (t.length : Int)) := by omega
      have h3 : (0 : Int) ≤ (i : Int) := by omega
      have he : spec_EnvOk k ((d.1, d.2.1, d.2.2.1, ()), t[i], ()) = some ((envOk d t[i], ()), ((), (), ())) := specEnvOk_is k hk d hd t[i] (hs _ (List.getElem_mem hi))
      simp only [spec_TableOk.l0, br_dec, if_pos h2, if_pos h3, Int.toNat_natCast, List.getElem?_eq_getElem hi, bd_some, he, envOk, hdo, Bool.true_and]
      rw [wrap_succ (by omega)]
      cases envFits d t[i] <;> simp) (fun G => by
      have h2 : ¬ ((t.length : Int) < (t.length : Int)) := by omega
      simp only [spec_TableOk.l0, br_dec, if_neg h2]) (f := k) (by omega)
    refine Eq.trans h ?_
    rw [all_any]
    cases t.all (envFits d) <;> rfl
  · have b : ((t.length : Int) != 2 ^ d.2.1.length) = true := by simpa using hl
    rw [b, br_true, decide_eq_false hl]; rfl

theorem areAllEnv_is (k : Nat) (hk : 4194304 < k) (d : DeclT) (t : List EnvT) (ht : t.length ≤ 1048576) (hs : ∀ e ∈ t, ESmall e) : impl_areAll_impl_Env k (t, (d, ()), ()) = some ((t.all (envFits d), ()), ((), ((), ()), ())) := by
  obtain ⟨n, h1, h2⟩ := iter_find (b := slices_IndexFunc_impl_Env_impl_Env.l0 k) (fun i => (t, (((d, ()), ()), ()), (t.length : Int), (i : Int), ())) t (fun e => !envFits d e) (o := ((), (((d, ()), ()), ()), ())) (fun G i hi => by
    have h2 : ((i : Int) < (t.length : Int)) := by omega
    have h3 : (0 : Int) ≤ (i : Int) := by omega
    simp only [slices_IndexFunc_impl_Env_impl_Env.l0, impl_areAll_impl_Env_1, isEnv_is k hk d t[i] (hs _ (List.getElem_mem hi)), br_dec, if_pos h2, if_pos h3, Int.toNat_natCast, List.getElem?_eq_getElem hi, bd_some]
    rw [wrap_succ (by omega)]
    cases envFits d t[i] <;> simp) (fun G => by
    have h2 : ¬ ((t.length : Int) < (t.length : Int)) := by omega
    simp only [slices_IndexFunc_impl_Env_impl_Env.l0, br_dec, if_neg h2]) (f := k) (by omega)
  unfold impl_areAll_impl_Env slices_ContainsFunc_impl_Env_impl_Env slices_IndexFunc_impl_Env_impl_Env
  have h1' : iter (slices_IndexFunc_impl_Env_impl_Env.l0 k) k (t, (((d, ()), ()), ()), (t.length : Int), 0, ()) = some ((n, ()), ((), (((d, ()), ()), ()), ())) := h1
  simp only [h1', bd_some, h2, all_any, Bool.not_not]

theorem isTable_is (k : Nat) (hk : 4194304 < k) (d : DeclT) (hf : d.2.1.length ≤ 3) (t : List EnvT) (ht : t.length ≤ 1048576) (hs : ∀ e ∈ t, ESmall e) : impl_Decl_isTable k (d, t, ()) = some ((tableOk d t, ()), ((), (), ())) := by
  unfold impl_Decl_isTable tableOk impl_size_impl_Env
  simp only [bd_some, leaves_of k d hf, areAllEnv_is k hk d t ht hs]
  by_cases hl : (t.length : Int) = 2 ^ d.2.1.length
  · have b : ((t.length : Int) == 2 ^ d.2.1.length) = true := by simpa using hl
    rw [b, br_true, decide_eq_true hl, Bool.true_and]
  · have b : ((t.length : Int) == 2 ^ d.2.1.length) = false := by simpa using hl
    rw [b, br_false, decide_eq_false hl]; rfl

theorem l9Live_is (k : Nat) (hk : 4194304 < k) (t : List EnvT) (ht : t.length ≤ 1048576) : spec_l9Live k (t, ()) = some ((tableLive t, ()), ((), ())) := by
  have h := iter_any (b := spec_l9Live.l0 k) (fun i => (t, (i : Int), ())) t (fun e => e.1) (rf := some ((true, ()), ((), ()))) (r := some ((false, ()), ((), ()))) (fun G i hi => by
    have h2 : ((i : Int) < (t.length : Int)) := by omega
    have h3 : (0 : Int) ≤ (i : Int) := by omega
    simp only [spec_l9Live.l0, br_dec, if_pos h2, if_pos h3, Int.toNat_natCast, List.getElem?_eq_getElem hi, bd_some]
    rw [wrap_succ (by omega)]
    cases t[i].1 <;> simp) (fun G => by
    have h2 : ¬ ((t.length : Int) < (t.length : Int)) := by omega
    simp only [spec_l9Live.l0, br_dec, if_neg h2]) (f := k) (by omega)
  unfold spec_l9Live
  refine Eq.trans h ?_
  unfold tableLive
  cases t.any fun e => e.1 <;> rfl
end Go.Pev.F
end

section
/-
  Parts: which are right: the reference's test and the program's agree.
-/
set_option linter.unusedVariables false
set_option linter.unusedSimpArgs false
namespace Go.Pev.F

abbrev PartT := List EntT × List EnvT × Unit
def partOkB (d : DeclT) (p : PartT) : Bool := tokenOk p.1 && (tableOk d p.2.1 && tableLive p.2.1)
def above (prev : Option (List EntT)) (t : List EntT) : Bool :=
  match prev with
  | none => true
  | some s => !decide (cmpT s t ≥ 0)
def riseP : Option (List EntT) → List PartT → Bool
  | _, [] => true
  | prev, p :: r => above prev p.1 && riseP (some p.1) r
def goodP (d : DeclT) : Option (List EntT) → List PartT → Bool
  | _, [] => true
  | prev, p :: r => (tokenOk p.1 && (above prev p.1 && (tableOk d p.2.1 && tableLive p.2.1))) && goodP d (some p.1) r
def partsOk (d : DeclT) (l : List PartT) : Bool := decide (l.length ≤ 100) && (l.all (partOkB d) && riseP none l)

theorem goodP_is (d : DeclT) : ∀ (l : List PartT) (prev : Option (List EntT)), goodP d prev l = (l.all (partOkB d) && riseP prev l)
  | [], _ => rfl
  | p :: r, prev => by
    simp only [goodP, riseP, List.all_cons, goodP_is d r, partOkB]
    cases tokenOk p.1 <;> cases above prev p.1 <;> cases tableOk d p.2.1 <;> cases tableLive p.2.1 <;> cases r.all (fun p => tokenOk p.1 && (tableOk d p.2.1 && tableLive p.2.1)) <;> simp [partOkB]

structure LSmall (l : List PartT) : Prop where
  n : l.length ≤ 1048576
  t : ∀ p ∈ l, p.1.length ≤ 1048576
  m : ∀ p ∈ l, p.2.1.length ≤ 1048576
  e : ∀ p ∈ l, ∀ e ∈ p.2.1, ESmall e

theorem specParts_loop (k : Nat) (hk : 4194304 < k) (d : DeclT) (hd : DSmall d) (hdo : declOk d = true) (l : List PartT) (hl : LSmall l) : ∀ (n i f : Nat) (prev : Option (List EntT)), i + n = l.length → n < f → (i = 0 → prev = none) → (∀ (h : 0 < i) (h' : i - 1 < l.length), prev = some l[i - 1].1 ∧ tokenOk l[i - 1].1 = true) →
    iter (spec_PartsOk.l0 k) f (l, (d.1, d.2.1, d.2.2.1, ()), (i : Int), ()) = some ((goodP d prev (l.drop i), ()), ((), (), ())) := by
  have hn := hl.n
  intro n
  induction n with
  | zero =>
    intro i f prev hi hf h0 h1
    obtain ⟨f, rfl⟩ : ∃ g, f = g + 1 := ⟨f - 1, by omega⟩
    have h2 : ¬ ((i : Int) < (l.length : Int)) := by omega
    rw [iter_succ, List.drop_of_length_le (by omega)]
    simp only [spec_PartsOk.l0, br_dec (p := (i : Int) < (l.length : Int)), if_neg h2, goodP]
  | succ n ih =>
    intro i f prev hi hf h0 h1
    obtain ⟨f, rfl⟩ : ∃ g, f = g + 1 := ⟨f - 1, by omega⟩
    have hi' : i < l.length := by omega
    have h2 : ((i : Int) < (l.length : Int)) := by omega
    have h3 : (0 : Int) ≤ (i : Int) := by omega
    have hm := List.getElem_mem hi'
    have ht : spec_TableOk k ((d.1, d.2.1, d.2.2.1, ()), l[i].2.1, ()) = some ((tableOk d l[i].2.1, ()), ((), (), ())) := specTableOk_is k hk d hd hdo l[i].2.1 (hl.m _ hm) (hl.e _ hm)
    rw [iter_succ, List.drop_eq_getElem_cons hi']
    simp only [spec_PartsOk.l0, br_dec (p := (i : Int) < (l.length : Int)), br_dec (p := (0 : Int) ≤ (i : Int)), if_pos h2, if_pos h3, Int.toNat_natCast, List.getElem?_eq_getElem hi', bd_some, specTokenOk_is k hk, ht, l9Live_is k hk l[i].2.1 (hl.m _ hm), goodP]
    cases htok : tokenOk l[i].1 with
    | false => simp
    | true =>
      have next := ih (i + 1) f (some l[i].1) (by omega) (by omega) (fun h => by omega) (fun h h' => ⟨by simp, by simpa using htok⟩)
      simp only [Bool.not_true, br_false, Bool.true_and]
      by_cases hz : i = 0
      · have hz' : ¬ ((i : Int) > 0) := by omega
        have hp := h0 hz
        rw [wrap_succ (by omega)]
        simp only [br_dec (p := (i : Int) > 0), if_neg hz', hp, above, Bool.true_and]
        cases tableOk d l[i].2.1 <;> cases tableLive l[i].2.1 <;> simp [next]
        all_goals exact next
      · have hz' : ((i : Int) > 0) := by omega
        obtain ⟨hp, hpt⟩ := h1 (by omega) (by omega)
        have ew : IntKind.wrap .i64 ((i : Int) - 1) = ((i - 1 : Nat) : Int) := by rw [wrap_i64 (by omega) (by omega)]; omega
        have h4 : (0 : Int) ≤ ((i - 1 : Nat) : Int) := by omega
        have hi1 : i - 1 < l.length := by omega
        rw [wrap_succ (by omega)]
        simp only [br_dec (p := (i : Int) > 0), if_pos hz', ew, br_dec (p := (0 : Int) ≤ ((i - 1 : Nat) : Int)), if_pos h4, Int.toNat_natCast, List.getElem?_eq_getElem hi1, bd_some, specCmp_is k hk l[i - 1].1 l[i].1 hpt htok, hp, above]
        cases decide (cmpT l[i - 1].1 l[i].1 ≥ 0) <;> cases tableOk d l[i].2.1 <;> cases tableLive l[i].2.1 <;> simp [next]
        all_goals exact next

theorem specPartsOk_is (k : Nat) (hk : 4194304 < k) (d : DeclT) (hd : DSmall d) (hdo : declOk d = true) (l : List PartT) (hl : LSmall l) : spec_PartsOk k (d, l, ()) = some ((partsOk d l, ()), ((), (), ())) := by
  have hn := hl.n
  unfold spec_PartsOk partsOk
  simp only [specDeclOk_is k hk d hd, hdo, bd_some, Bool.not_true, br_false, Option.bind_some, br_dec]
  by_cases hc : (l.length : Int) > 100
  · have : decide (l.length ≤ 100) = false := by simp; omega
    rw [if_pos hc, this]; rfl
  · have hc' : l.length ≤ 100 := by omega
    rw [if_neg hc, decide_eq_true hc', Bool.true_and, ← goodP_is]
    exact specParts_loop k hk d hd hdo l hl l.length 0 k none (by omega) (by omega) (fun _ => rfl) (fun h => by omega)
end Go.Pev.F
end

section
/-
  Parts: the program's test.
-/
set_option linter.unusedVariables false
set_option linter.unusedSimpArgs false
namespace Go.Pev.F

theorem live_is (k : Nat) (hk : 4194304 < k) (t : List EnvT) (ht : t.length ≤ 1048576) : slices_ContainsFunc_impl_Env_impl_Env_v1 k (t, (()), ()) = some ((tableLive t, ()), ((), (()), ())) := by
  obtain ⟨n, h1, h2⟩ := iter_find (b := slices_IndexFunc_impl_Env_impl_Env_v1.l0 k) (fun i => (t, (()), (t.length : Int), (i : Int), ())) t (fun e => e.1) (o := ((), (()), ())) (fun G i hi => by
    have h2 : ((i : Int) < (t.length : Int)) := by omega
    have h3 : (0 : Int) ≤ (i : Int) := by omega
    simp only [slices_IndexFunc_impl_Env_impl_Env_v1.l0, impl_Decl_partOk_1, br_dec, if_pos h2, if_pos h3, Int.toNat_natCast, List.getElem?_eq_getElem hi, bd_some]
    rw [wrap_succ (by omega)]
    cases t[i].1 <;> simp) (fun G => by
    have h2 : ¬ ((t.length : Int) < (t.length : Int)) := by omega
    simp only [slices_IndexFunc_impl_Env_impl_Env_v1.l0, br_dec, if_neg h2]) (f := k) (by omega)
  unfold slices_ContainsFunc_impl_Env_impl_Env_v1 slices_IndexFunc_impl_Env_impl_Env_v1
  have h1' : iter (slices_IndexFunc_impl_Env_impl_Env_v1.l0 k) k (t, (()), (t.length : Int), 0, ()) = some ((n, ()), ((), (()), ())) := h1
  simp only [h1', bd_some, h2]
  rfl

theorem partOk_is (k : Nat) (hk : 4194304 < k) (d : DeclT) (hf : d.2.1.length ≤ 3) (p : PartT) (hm : p.2.1.length ≤ 1048576) (hs : ∀ e ∈ p.2.1, ESmall e) : impl_Decl_partOk k (d, p, ()) = some ((partOkB d p, ()), ((), (), ())) := by
  unfold impl_Decl_partOk partOkB
  simp only [implTokenOk_is k hk, isTable_is k hk d hf p.2.1 hm hs, live_is k hk p.2.1 hm, bd_some]
  cases tokenOk p.1 <;> cases tableOk d p.2.1 <;> simp

theorem areAllPart_is (k : Nat) (hk : 4194304 < k) (d : DeclT) (hf : d.2.1.length ≤ 3) (l : List PartT) (hl : LSmall l) : impl_areAll_impl_Part k (l, (d, ()), ()) = some ((l.all (partOkB d), ()), ((), ((), ()), ())) := by
  have hn := hl.n
  obtain ⟨n, h1, h2⟩ := iter_find (b := slices_IndexFunc_impl_Part_impl_Part.l0 k) (fun i => (l, (((d, ()), ()), ()), (l.length : Int), (i : Int), ())) l (fun p => !partOkB d p) (o := ((), (((d, ()), ()), ()), ())) (fun G i hi => by
    have h2 : ((i : Int) < (l.length : Int)) := by omega
    have h3 : (0 : Int) ≤ (i : Int) := by omega
    have hm := List.getElem_mem hi
    simp only [slices_IndexFunc_impl_Part_impl_Part.l0, impl_areAll_impl_Part_1, partOk_is k hk d hf l[i] (hl.m _ hm) (hl.e _ hm), br_dec, if_pos h2, if_pos h3, Int.toNat_natCast, List.getElem?_eq_getElem hi, bd_some]
    rw [wrap_succ (by omega)]
    cases partOkB d l[i] <;> simp) (fun G => by
    have h2 : ¬ ((l.length : Int) < (l.length : Int)) := by omega
    simp only [slices_IndexFunc_impl_Part_impl_Part.l0, br_dec, if_neg h2]) (f := k) (by omega)
  unfold impl_areAll_impl_Part slices_ContainsFunc_impl_Part_impl_Part slices_IndexFunc_impl_Part_impl_Part
  have h1' : iter (slices_IndexFunc_impl_Part_impl_Part.l0 k) k (l, (((d, ()), ()), ()), (l.length : Int), 0, ()) = some ((n, ()), ((), (((d, ()), ()), ()), ())) := h1
  simp only [h1', bd_some, h2, all_any, Bool.not_not]

theorem implParts_loop (k : Nat) (hk : 4194304 < k) (d : DeclT) (hf : d.2.1.length ≤ 3) (l : List PartT) (hl : LSmall l) : ∀ (n i f : Nat) (h1 : 1 ≤ i), (i ≤ l.length → ∀ (h' : i - 1 < l.length), i + n = l.length → n < f →
    iter (impl_Decl_areParts.l0 k) f (l, (d.1, d.2.1, d.2.2.1, ()), (i : Int), ()) = some ((riseP (some l[i - 1].1) (l.drop i) && (decide (l.length ≤ 100) && l.all (partOkB d)), ()), ((), (), ()))) := by
  have hn := hl.n
  intro n
  induction n with
  | zero =>
    intro i f h1 hle h' hi hf'
    obtain ⟨f, rfl⟩ : ∃ g, f = g + 1 := ⟨f - 1, by omega⟩
    have h2 : ¬ ((i : Int) < (l.length : Int)) := by omega
    have ha : impl_areAll_impl_Part k (l, ((d.1, d.2.1, d.2.2.1, ()), ()), ()) = some ((l.all (partOkB d), ()), ((), ((), ()), ())) := areAllPart_is k hk d hf l hl
    rw [iter_succ, List.drop_of_length_le (by omega)]
    simp only [impl_Decl_areParts.l0, br_dec, if_neg h2, riseP, Bool.true_and, ha, bd_some]
    by_cases hc : l.length ≤ 100
    · rw [if_pos (by omega), decide_eq_true hc, Bool.true_and]
    · rw [if_neg (by omega), decide_eq_false hc]; rfl
  | succ n ih =>
    intro i f h1 hle h' hi hf'
    obtain ⟨f, rfl⟩ : ∃ g, f = g + 1 := ⟨f - 1, by omega⟩
    have hi' : i < l.length := by omega
    have h2 : ((i : Int) < (l.length : Int)) := by omega
    have h3 : (0 : Int) ≤ (i : Int) := by omega
    have ew : IntKind.wrap .i64 ((i : Int) - 1) = ((i - 1 : Nat) : Int) := by rw [wrap_i64 (by omega) (by omega)]; omega
    have h4 : (0 : Int) ≤ ((i - 1 : Nat) : Int) := by omega
    rw [iter_succ, List.drop_eq_getElem_cons hi']
    simp only [impl_Decl_areParts.l0, br_dec (p := (i : Int) < (l.length : Int)), br_dec (p := (0 : Int) ≤ (i : Int)), if_pos h2, if_pos h3, ew, br_dec (p := (0 : Int) ≤ ((i - 1 : Nat) : Int)), if_pos h4, Int.toNat_natCast, List.getElem?_eq_getElem hi', List.getElem?_eq_getElem h', bd_some, implCmp_is k hk l[i - 1].1 l[i].1 (hl.t _ (List.getElem_mem h')), riseP, above]
    rw [wrap_succ (by omega)]
    cases decide (cmpT l[i - 1].1 l[i].1 ≥ 0) with
    | true => simp
    | false =>
      have := ih (i + 1) f (by omega) (by omega) (by omega) (by omega) (by omega)
      simp only [Nat.add_sub_cancel] at this
      simpa using this

theorem areParts_is (k : Nat) (hk : 4194304 < k) (d : DeclT) (hf : d.2.1.length ≤ 3) (l : List PartT) (hl : LSmall l) : impl_Decl_areParts k (d, l, ()) = some ((partsOk d l, ()), ((), (), ())) := by
  have hn := hl.n
  unfold impl_Decl_areParts partsOk
  cases l with
  | nil =>
    obtain ⟨j, rfl⟩ : ∃ j, k = j + 1 := ⟨k - 1, by omega⟩
    have ha : impl_areAll_impl_Part (j + 1) (([] : List PartT), ((d.1, d.2.1, d.2.2.1, ()), ()), ()) = some ((([] : List PartT).all (partOkB d), ()), ((), ((), ()), ())) := areAllPart_is (j + 1) hk d hf [] hl
    simp only
    rw [iter_succ]
    simp only [impl_Decl_areParts.l0, br_dec, List.length_nil]
    rw [if_neg (by decide), if_pos (by decide), ha]
    simp [riseP]
  | cons p r =>
    have h := implParts_loop k hk d hf (p :: r) hl r.length 1 k (Nat.le_refl _) (by simp) (by simp) (by simp; omega) (by simp at hn; omega)
    refine Eq.trans h ?_
    simp only [riseP, above, Bool.true_and]
    have e : (p :: r)[1 - 1].1 = p.1 := rfl
    have e2 : (p :: r).drop 1 = r := rfl
    rw [e, e2]
    cases riseP (some p.1) r <;> simp
end Go.Pev.F
end

section
/-
  The order of tokens is transitive; rising parts rise everywhere.
-/
set_option linter.unusedVariables false
set_option linter.unusedSimpArgs false
namespace Go.Pev.F

theorem cmpE_cases (x y : EntT) : (cmpE x y = -1 ∧ (x.1 < y.1 ∨ (x.1 = y.1 ∧ x.2.1 < y.2.1))) ∨ (cmpE x y = 1 ∧ (y.1 < x.1 ∨ (x.1 = y.1 ∧ y.2.1 < x.2.1))) ∨ (cmpE x y = 0 ∧ x.1 = y.1 ∧ x.2.1 = y.2.1) := by
  unfold cmpE
  by_cases h1 : x.1 < y.1
  · rw [if_pos h1]; exact .inl ⟨rfl, .inl h1⟩
  · by_cases h2 : x.1 > y.1
    · rw [if_neg h1, if_pos h2]; exact .inr (.inl ⟨rfl, .inl h2⟩)
    · by_cases h3 : x.2.1 < y.2.1
      · rw [if_neg h1, if_neg h2, if_pos h3]; exact .inl ⟨rfl, .inr ⟨by omega, h3⟩⟩
      · by_cases h4 : x.2.1 > y.2.1
        · rw [if_neg h1, if_neg h2, if_neg h3, if_pos h4]; exact .inr (.inl ⟨rfl, .inr ⟨by omega, h4⟩⟩)
        · rw [if_neg h1, if_neg h2, if_neg h3, if_neg h4]; exact .inr (.inr ⟨rfl, by omega, by omega⟩)

/-- Less, and then not more, is less. -/
theorem cmpX_lt : ∀ (a b c : List EntT), a.length = b.length → b.length = c.length → cmpX a b < 0 → cmpX b c ≤ 0 → cmpX a c < 0
  | [], [], _, _, _, h, _ => by simp [cmpX] at h
  | x :: a, y :: b, z :: c, h1, h2, h, h' => by
    have ih := cmpX_lt a b c (by simpa using h1) (by simpa using h2)
    simp only [cmpX] at h h' ⊢
    rcases cmpE_cases x y with ⟨e1, f1⟩ | ⟨e1, f1⟩ | ⟨e1, f1⟩ <;> rcases cmpE_cases y z with ⟨e2, f2⟩ | ⟨e2, f2⟩ | ⟨e2, f2⟩ <;> rcases cmpE_cases x z with ⟨e3, f3⟩ | ⟨e3, f3⟩ | ⟨e3, f3⟩ <;> simp only [e1, e2, e3] at h h' ⊢ <;> simp at h h' ⊢ <;> first | omega | exact ih h h'

/-- Not more, and then less, is less. -/
theorem cmpX_le_lt : ∀ (a b c : List EntT), a.length = b.length → b.length = c.length → cmpX a b ≤ 0 → cmpX b c < 0 → cmpX a c < 0
  | [], [], [], _, _, _, h => by simp [cmpX] at h
  | x :: a, y :: b, z :: c, h1, h2, h, h' => by
    have ih := cmpX_le_lt a b c (by simpa using h1) (by simpa using h2)
    simp only [cmpX] at h h' ⊢
    rcases cmpE_cases x y with ⟨e1, f1⟩ | ⟨e1, f1⟩ | ⟨e1, f1⟩ <;> rcases cmpE_cases y z with ⟨e2, f2⟩ | ⟨e2, f2⟩ | ⟨e2, f2⟩ <;> rcases cmpE_cases x z with ⟨e3, f3⟩ | ⟨e3, f3⟩ | ⟨e3, f3⟩ <;> simp only [e1, e2, e3] at h h' ⊢ <;> simp at h h' ⊢ <;> first | omega | exact ih h h'

theorem cmpT_lt {a b c : List EntT} (h : cmpT a b < 0) (h' : cmpT b c ≤ 0) : cmpT a c < 0 := by
  unfold cmpT at h h' ⊢
  by_cases h1 : a.length < b.length
  · by_cases h2 : c.length < b.length
    · rw [if_neg (by omega), if_pos (by omega)] at h'; omega
    · rw [if_pos (by omega)]; decide
  · by_cases h2 : a.length > b.length
    · rw [if_neg h1, if_pos h2] at h; omega
    · rw [if_neg h1, if_neg h2] at h
      by_cases h3 : b.length < c.length
      · rw [if_pos (by omega)]; decide
      · by_cases h4 : b.length > c.length
        · rw [if_neg h3, if_pos h4] at h'; omega
        · rw [if_neg h3, if_neg h4] at h'
          rw [if_neg (by omega), if_neg (by omega)]
          exact cmpX_lt a b c (by omega) (by omega) h h'

theorem cmpT_le_lt {a b c : List EntT} (h : cmpT a b ≤ 0) (h' : cmpT b c < 0) : cmpT a c < 0 := by
  unfold cmpT at h h' ⊢
  by_cases h1 : a.length < b.length
  · by_cases h2 : c.length < b.length
    · rw [if_neg (by omega), if_pos (by omega)] at h'; omega
    · rw [if_pos (by omega)]; decide
  · by_cases h2 : a.length > b.length
    · rw [if_neg h1, if_pos h2] at h; omega
    · rw [if_neg h1, if_neg h2] at h
      by_cases h3 : b.length < c.length
      · rw [if_pos (by omega)]; decide
      · by_cases h4 : b.length > c.length
        · rw [if_neg h3, if_pos h4] at h'; omega
        · rw [if_neg h3, if_neg h4] at h'
          rw [if_neg (by omega), if_neg (by omega)]
          exact cmpX_le_lt a b c (by omega) (by omega) h h'

/-- Rising parts rise everywhere. -/
theorem rise_all : ∀ (l : List PartT) (prev : Option (List EntT)), riseP prev l = true → (∀ s, prev = some s → ∀ p ∈ l, cmpT s p.1 < 0) ∧ l.Pairwise fun p q => cmpT p.1 q.1 < 0
  | [], _, _ => ⟨fun _ _ p hp => by simp at hp, .nil⟩
  | p :: r, prev, h => by
    simp only [riseP, Bool.and_eq_true] at h
    obtain ⟨h1, h2⟩ := rise_all r (some p.1) h.2
    refine ⟨fun s hs q hq => ?_, List.pairwise_cons.2 ⟨fun q hq => h1 p.1 rfl q hq, h2⟩⟩
    subst hs
    have hsp : cmpT s p.1 < 0 := by
      have := h.1
      simp only [above, Bool.not_eq_true', decide_eq_false_iff_not] at this
      omega
    rcases List.mem_cons.1 hq with rfl | hq
    · exact hsp
    · exact cmpT_lt hsp (by have := h1 p.1 rfl q hq; omega)
end Go.Pev.F
end

section
/-
  The binary search of rising parts finds what there is.
-/
set_option linter.unusedVariables false
set_option linter.unusedSimpArgs false
namespace Go.Pev.F

theorem search_loop (k : Nat) (hk : 4194304 < k) (l : List PartT) (hl : LSmall l) (hP : l.Pairwise fun p q => cmpT p.1 q.1 < 0) (t : List EntT) : ∀ (n i j f : Nat), j - i ≤ n → n < f → i ≤ j → j ≤ l.length → (∀ x (hx : x < l.length), x < i → cmpT l[x].1 t < 0) → (∀ x (hx : x < l.length), j ≤ x → cmpT l[x].1 t ≥ 0) →
    ∃ (m : Nat) (b : Bool), iter (slices_BinarySearchFunc_impl_Part_impl_Part_impl_Entry.l0 k) f (l, t, (()), (l.length : Int), (i : Int), (j : Int), ()) = some (((m : Int), b, ()), ((), (), (()), ())) ∧ (b = true → ∃ h : m < l.length, cmpT l[m].1 t = 0) ∧ (b = false → ∀ x (hx : x < l.length), cmpT l[x].1 t ≠ 0) := by
  have hn := hl.n
  have hlt := List.pairwise_iff_getElem.1 hP
  intro n
  induction n with
  | zero =>
    intro i j f hij hf h1 h2 lo hi
    obtain ⟨f, rfl⟩ : ∃ g, f = g + 1 := ⟨f - 1, by omega⟩
    obtain rfl : i = j := by omega
    have c0 : ¬ ((i : Int) < (i : Int)) := by omega
    have c3 : (0 : Int) ≤ (i : Int) := by omega
    rw [iter_succ]
    simp only [slices_BinarySearchFunc_impl_Part_impl_Part_impl_Entry.l0, impl_partAt_1, br_dec, if_neg c0, if_pos c3, Int.toNat_natCast]
    by_cases hil : i < l.length
    · have hil' : (i : Int) < (l.length : Int) := by omega
      have hc := implCmp_is k hk l[i].1 t (hl.t _ (List.getElem_mem hil))
      simp only [if_pos hil', List.getElem?_eq_getElem hil, bd_some, hc, Option.bind_some]
      refine ⟨i, _, rfl, fun h => ⟨hil, by simpa using h⟩, fun h x hx => ?_⟩
      by_cases hxi : x < i
      · have := lo x hx hxi; omega
      · by_cases he : x = i
        · subst he; simpa using h
        · have h3 := hi i hil (Nat.le_refl _)
          have h4 := hlt i x hil hx (by omega)
          intro h5
          have := cmpT_lt h4 (Int.le_of_eq h5)
          omega
    · have hil' : ¬ (i : Int) < (l.length : Int) := by omega
      simp only [if_neg hil', Option.bind_some]
      exact ⟨i, false, rfl, fun h => (by cases h), fun _ x hx => by have := lo x hx (by omega); omega⟩
  | succ n ih =>
    intro i j f hij hf h1 h2 lo hi
    by_cases hlt' : i < j
    · obtain ⟨f, rfl⟩ : ∃ g, f = g + 1 := ⟨f - 1, by omega⟩
      obtain ⟨h, hh⟩ : ∃ h, h = (i + j) / 2 := ⟨_, rfl⟩
      have hil : h < l.length := by omega
      have c0 : ((i : Int) < (j : Int)) := by omega
      have c1 : (0 : Int) ≤ 1 := by decide
      have c3 : (0 : Int) ≤ (h : Int) := by omega
      have e2 : ((2 : Int) ^ (min (1 : Int).toNat 64)) = 2 := by decide
      have eh : IntKind.wrap .i64 ((IntKind.wrap .u64 (IntKind.wrap .i64 ((i : Int) + (j : Int)))).fdiv (2 ^ (min (1 : Int).toNat 64))) = (h : Int) := by
        rw [e2, wrap_i64 (n := (i : Int) + (j : Int)) (by omega) (by omega), wrap_u64 (by omega) (by omega), Int.fdiv_eq_ediv_of_nonneg _ (by decide), wrap_i64 (by omega) (by omega)]
        omega
      have hc := implCmp_is k hk l[h].1 t (hl.t _ (List.getElem_mem hil))
      rw [iter_succ]
      simp only [slices_BinarySearchFunc_impl_Part_impl_Part_impl_Entry.l0, impl_partAt_1, br_dec, if_pos c0, if_pos c1, eh, if_pos c3, Int.toNat_natCast, List.getElem?_eq_getElem hil, bd_some, hc]
      by_cases hneg : cmpT l[h].1 t < 0
      · rw [if_pos hneg, wrap_succ (by omega)]
        refine ih (h + 1) j f (by omega) (by omega) (by omega) h2 (fun x hx hxh => ?_) hi
        by_cases he : x = h
        · subst he; exact hneg
        · exact cmpT_lt (hlt x h hx hil (by omega)) (by omega)
      · rw [if_neg hneg]
        refine ih i h f (by omega) (by omega) (by omega) (by omega) lo (fun x hx hxh => ?_)
        by_cases he : x = h
        · subst he; omega
        · by_cases h7 : cmpT l[x].1 t < 0
          · exact absurd (cmpT_lt (hlt h x hil hx (by omega)) (by omega)) hneg
          · omega
    · exact ih i j f (by omega) (by omega) h1 h2 lo hi
end Go.Pev.F
end

section
/-
  A store's text: sizes, copies, comparisons; which are right.
-/
set_option linter.unusedVariables false
set_option linter.unusedSimpArgs false
namespace Go.Pev.F

abbrev StoreT := List Int × List Bool × List (List Int) × Unit

structure SSmall (s : StoreT) : Prop where
  n0 : s.1.length ≤ 1048576
  n1 : s.2.1.length ≤ 1048576
  n2 : s.2.2.1.length ≤ 1048576
  m2 : ∀ x ∈ s.2.2.1, x.length ≤ 1048576

abbrev storeKd : Kd := .cons (.sl false (.int .i64)) (.cons (.sl false .bool) (.cons (.sl false (.sl false (.int .i64))) .nil))

theorem szInt64S_is (k : Nat) (a : List Int) (ha : a.length ≤ 140737488351232) (left : Int) (h0 : 0 ≤ left) (h1 : left ≤ 1048576) :
    ∃ r : Int, laws_szInt64S k (a, left, ()) = some ((r, ()), ((), (), ())) ∧ (0 ≤ r → r = left - a.length ∧ a.length ≤ 1048576) := by
  unfold laws_szInt64S
  simp only [br_dec]
  rw [wrap_i64 (by omega) (by omega)]
  by_cases hc : left - (a.length : Int) < 0
  · rw [if_pos hc]; exact ⟨-1, rfl, fun h => by omega⟩
  · rw [if_neg hc]; exact ⟨_, rfl, fun h => by omega⟩

theorem szBoolS_is (k : Nat) (a : List Bool) (ha : a.length ≤ 140737488351232) (left : Int) (h0 : 0 ≤ left) (h1 : left ≤ 1048576) :
    ∃ r : Int, laws_szBoolS k (a, left, ()) = some ((r, ()), ((), (), ())) ∧ (0 ≤ r → r = left - a.length ∧ a.length ≤ 1048576) := by
  unfold laws_szBoolS
  simp only [br_dec]
  rw [wrap_i64 (by omega) (by omega)]
  by_cases hc : left - (a.length : Int) < 0
  · rw [if_pos hc]; exact ⟨-1, rfl, fun h => by omega⟩
  · rw [if_neg hc]; exact ⟨_, rfl, fun h => by omega⟩

theorem szInt64SS_loop (k : Nat) (a : List (List Int)) (ha : a.length ≤ 4611686018427387903) (hs : ∀ x ∈ a, x.length ≤ 140737488351232) : ∀ (n i f : Nat) (left : Int), i + n = a.length → n < f → 0 ≤ left → left ≤ 1048576 →
    ∃ r : Int, iter (laws_szInt64SS.l0 k) f (a, left, (i : Int), ()) = some ((r, ()), ((), (), ())) ∧ (0 ≤ r → r ≤ left ∧ ∀ j (hj : j < a.length), i ≤ j → (a[j].length : Int) ≤ left) := by
  intro n
  induction n with
  | zero =>
    intro i f left hi hf h0 h1
    obtain ⟨f, rfl⟩ : ∃ g, f = g + 1 := ⟨f - 1, by omega⟩
    refine ⟨left, ?_, fun _ => ⟨Int.le_refl _, fun j hj h => by omega⟩⟩
    rw [iter_succ]
    have : ¬ ((i : Int) < (a.length : Int)) := by omega
    simp only [laws_szInt64SS.l0, br_dec, if_neg this]
  | succ n ih =>
    intro i f left hi hf h0 h1
    obtain ⟨f, rfl⟩ : ∃ g, f = g + 1 := ⟨f - 1, by omega⟩
    have hi' : i < a.length := by omega
    have h2 : ((i : Int) < (a.length : Int)) := by omega
    have h3 : (0 : Int) ≤ (i : Int) := by omega
    obtain ⟨r1, e1, p1⟩ := szInt64S_is k a[i] (hs _ (List.getElem_mem _)) left h0 h1
    rw [iter_succ]
    simp only [laws_szInt64SS.l0, br_dec, if_pos h2, if_pos h3, Int.toNat_natCast, List.getElem?_eq_getElem hi', bd_some, e1]
    rw [wrap_succ (by omega)]
    by_cases hc : r1 < 0
    · rw [if_pos hc]
      exact ⟨-1, rfl, fun h => by omega⟩
    · rw [if_neg hc]
      obtain ⟨q1, q2⟩ := p1 (by omega)
      obtain ⟨r, h4, h5⟩ := ih (i + 1) f r1 (by omega) (by omega) (by omega) (by omega)
      refine ⟨r, h4, fun hr => ?_⟩
      obtain ⟨h6, h7⟩ := h5 hr
      refine ⟨by omega, fun j hj hij => ?_⟩
      by_cases e : j = i
      · subst e; omega
      · have := h7 j hj (by omega); omega

theorem szInt64SS_is (k : Nat) (hk : 1048576 < k) (a : List (List Int)) (ha : a.length ≤ 140737488351232) (hs : ∀ x ∈ a, x.length ≤ 140737488351232) (left : Int) (h0 : 0 ≤ left) (h1 : left ≤ 1048576) :
    ∃ r : Int, laws_szInt64SS k (a, left, ()) = some ((r, ()), ((), (), ())) ∧ (0 ≤ r → r ≤ left ∧ a.length ≤ 1048576 ∧ ∀ x ∈ a, x.length ≤ 1048576) := by
  unfold laws_szInt64SS
  simp only [br_dec]
  rw [wrap_i64 (by omega) (by omega)]
  by_cases hc : left - (a.length : Int) < 0
  · rw [if_pos hc]
    exact ⟨-1, rfl, fun h => by omega⟩
  · rw [if_neg hc]
    obtain ⟨r, h4, h5⟩ := szInt64SS_loop k a (by omega) hs a.length 0 k (left - (a.length : Int)) (by omega) (by omega) (by omega) (by omega)
    refine ⟨r, h4, fun hr => ?_⟩
    obtain ⟨h6, h7⟩ := h5 hr
    refine ⟨by omega, by omega, fun x hx => ?_⟩
    obtain ⟨j, hj, rfl⟩ := List.mem_iff_getElem.1 hx
    have := h7 j hj (by omega)
    omega

theorem szStore_is (k : Nat) (hk : 1048576 < k) (s : StoreT) (hw : storeKd.WF s) (left : Int) (hl0 : 0 ≤ left) (hl1 : left ≤ 1048576) : ∃ r : Int, laws_szStore k (s, left, ()) = some ((r, ()), ((), (), ())) ∧ (0 ≤ r → SSmall s) := by
  obtain ⟨⟨a1, a2⟩, ⟨b1, b2⟩, ⟨c1, c2⟩, _⟩ := hw
  obtain ⟨r1, e1, p1⟩ := szInt64S_is k s.1 a1 left hl0 hl1
  unfold laws_szStore
  simp only [e1, bd_some, br_dec]
  by_cases h1 : r1 < 0
  · rw [if_pos h1]; exact ⟨-1, rfl, fun h => by omega⟩
  rw [if_neg h1]
  obtain ⟨q1, q2⟩ := p1 (by omega)
  obtain ⟨r2, e2, p2⟩ := szBoolS_is k s.2.1 b1 r1 (by omega) (by omega)
  simp only [e2, bd_some]
  by_cases h2 : r2 < 0
  · rw [if_pos h2]; exact ⟨-1, rfl, fun h => by omega⟩
  rw [if_neg h2]
  obtain ⟨u1, u2⟩ := p2 (by omega)
  obtain ⟨r3, e3, p3⟩ := szInt64SS_is k hk s.2.2.1 c1 (fun x hx => (c2 x hx).1) r2 (by omega) (by omega)
  simp only [e3, bd_some]
  by_cases h3 : r3 < 0
  · rw [if_pos h3]; exact ⟨-1, rfl, fun h => by omega⟩
  rw [if_neg h3]
  obtain ⟨v1, v2, v3⟩ := p3 (by omega)
  exact ⟨r3, rfl, fun _ => ⟨q2, u2, v2, v3⟩⟩

/-! ### Copies -/

theorem toInt64S_is (k : Nat) (a : List Int) (ha : a.length ≤ 1048576) (hk : 1048576 < k) : laws_toInt64S k (a, ()) = some ((a, ()), ((), ())) := by
  unfold laws_toInt64S
  have h : 0 ≤ (a.length : Int) ∧ (a.length : Int) ≤ (a.length : Int) ∧ (a.length : Int) * 8 ≤ maxBytes := by simp [maxBytes]; omega
  simp only [br_dec, if_pos h, Int.toNat_natCast]
  generalize hz : (Kd.z (.int .i64) : Int) = z
  have key := iter_for (b := laws_toInt64S.l0 k) (fun i => (a, a.take i ++ List.replicate (a.length - i) z, (i : Int), ())) a.length (r := some ((a, ()), ((), ()))) (fun G i hi => by
    have h2 : ((i : Int) < (a.length : Int)) := by omega
    have h3 : (0 : Int) ≤ (i : Int) := by omega
    have h4 : 0 ≤ (i : Int) ∧ (i : Int) < ((a.take i ++ List.replicate (a.length - i) z).length : Int) := by simp; omega
    simp only [laws_toInt64S.l0, br_dec, if_pos h2, if_pos h3, if_pos h4, Int.toNat_natCast, List.getElem?_eq_getElem hi, get_next a _ hi, bd_some]
    rw [set_next a _ hi, wrap_succ (by omega)]) (fun G => by
    have h2 : ¬ ((a.length : Int) < (a.length : Int)) := by omega
    simp only [laws_toInt64S.l0, br_dec, if_neg h2]
    simp) (f := k) (by omega)
  simpa using key

theorem toBoolS_is (k : Nat) (a : List Bool) (ha : a.length ≤ 1048576) (hk : 1048576 < k) : laws_toBoolS k (a, ()) = some ((a, ()), ((), ())) := by
  unfold laws_toBoolS
  have h : 0 ≤ (a.length : Int) ∧ (a.length : Int) ≤ (a.length : Int) ∧ (a.length : Int) * 1 ≤ maxBytes := by simp [maxBytes]; omega
  simp only [br_dec, if_pos h, Int.toNat_natCast]
  generalize hz : (Kd.z .bool : Bool) = z
  have key := iter_for (b := laws_toBoolS.l0 k) (fun i => (a, a.take i ++ List.replicate (a.length - i) z, (i : Int), ())) a.length (r := some ((a, ()), ((), ()))) (fun G i hi => by
    have h2 : ((i : Int) < (a.length : Int)) := by omega
    have h3 : (0 : Int) ≤ (i : Int) := by omega
    have h4 : 0 ≤ (i : Int) ∧ (i : Int) < ((a.take i ++ List.replicate (a.length - i) z).length : Int) := by simp; omega
    simp only [laws_toBoolS.l0, br_dec, if_pos h2, if_pos h3, if_pos h4, Int.toNat_natCast, List.getElem?_eq_getElem hi, get_next a _ hi, bd_some]
    rw [set_next a _ hi, wrap_succ (by omega)]) (fun G => by
    have h2 : ¬ ((a.length : Int) < (a.length : Int)) := by omega
    simp only [laws_toBoolS.l0, br_dec, if_neg h2]
    simp) (f := k) (by omega)
  simpa using key

theorem toInt64SS_is (k : Nat) (a : List (List Int)) (ha : a.length ≤ 1048576) (hs : ∀ x ∈ a, x.length ≤ 1048576) (hk : 1048576 < k) : laws_toInt64SS k (a, ()) = some ((a, ()), ((), ())) := by
  unfold laws_toInt64SS
  have h : 0 ≤ (a.length : Int) ∧ (a.length : Int) ≤ (a.length : Int) ∧ (a.length : Int) * 24 ≤ maxBytes := by simp [maxBytes]; omega
  simp only [br_dec, if_pos h, Int.toNat_natCast]
  generalize hz : (Kd.z (.sl false (.int .i64)) : List Int) = z
  have key := iter_for (b := laws_toInt64SS.l0 k) (fun i => (a, a.take i ++ List.replicate (a.length - i) z, (i : Int), ())) a.length (r := some ((a, ()), ((), ()))) (fun G i hi => by
    have h2 : ((i : Int) < (a.length : Int)) := by omega
    have h3 : (0 : Int) ≤ (i : Int) := by omega
    have h4 : 0 ≤ (i : Int) ∧ (i : Int) < ((a.take i ++ List.replicate (a.length - i) z).length : Int) := by simp; omega
    simp only [laws_toInt64SS.l0, br_dec, if_pos h2, if_pos h3, if_pos h4, Int.toNat_natCast, List.getElem?_eq_getElem hi, get_next a _ hi, bd_some, toInt64S_is k a[i] (hs _ (List.getElem_mem _)) hk]
    rw [set_next a _ hi, wrap_succ (by omega)]) (fun G => by
    have h2 : ¬ ((a.length : Int) < (a.length : Int)) := by omega
    simp only [laws_toInt64SS.l0, br_dec, if_neg h2]
    simp) (f := k) (by omega)
  simpa using key

theorem toStore_is (k : Nat) (s : StoreT) (hs : SSmall s) (hk : 1048576 < k) : laws_toStore k (s, ()) = some ((s, ()), ((), ())) := by
  unfold laws_toStore
  simp only [toInt64S_is k _ hs.n0 hk, toBoolS_is k _ hs.n1 hk, toInt64SS_is k _ hs.n2 hs.m2 hk, bd_some]

/-! ### Comparisons -/

theorem eqInt64S_is (k : Nat) (a : List Int) (ha : a.length ≤ 1048576) (hk : 1048576 < k) : laws_eqInt64S k (a, a, ()) = some ((true, ()), ((), (), ())) := by
  unfold laws_eqInt64S
  have hb : ((a.length : Int) != (a.length : Int)) = false := by simp
  simp only [hb, br_false]
  exact iter_for (b := laws_eqInt64S.l0 k) (fun i => (a, a, (i : Int), ())) a.length (fun G i hi => by
    have h2 : ((i : Int) < (a.length : Int)) := by omega
    have h3 : (0 : Int) ≤ (i : Int) := by omega
    simp only [laws_eqInt64S.l0, br_dec, if_pos h2, if_pos h3, Int.toNat_natCast, List.getElem?_eq_getElem hi, bd_some, bne_self_eq_false, br_false]
    rw [wrap_succ (by omega)]) (fun G => by
    have h2 : ¬ ((a.length : Int) < (a.length : Int)) := by omega
    simp only [laws_eqInt64S.l0, br_dec, if_neg h2]) (by omega)

theorem eqBoolS_is (k : Nat) (a : List Bool) (ha : a.length ≤ 1048576) (hk : 1048576 < k) : laws_eqBoolS k (a, a, ()) = some ((true, ()), ((), (), ())) := by
  unfold laws_eqBoolS
  have hb : ((a.length : Int) != (a.length : Int)) = false := by simp
  simp only [hb, br_false]
  exact iter_for (b := laws_eqBoolS.l0 k) (fun i => (a, a, (i : Int), ())) a.length (fun G i hi => by
    have h2 : ((i : Int) < (a.length : Int)) := by omega
    have h3 : (0 : Int) ≤ (i : Int) := by omega
    simp only [laws_eqBoolS.l0, br_dec, if_pos h2, if_pos h3, Int.toNat_natCast, List.getElem?_eq_getElem hi, bd_some, BEq.rfl, Bool.not_true, br_false]
    rw [wrap_succ (by omega)]) (fun G => by
    have h2 : ¬ ((a.length : Int) < (a.length : Int)) := by omega
    simp only [laws_eqBoolS.l0, br_dec, if_neg h2]) (by omega)

theorem eqInt64SS_is (k : Nat) (a : List (List Int)) (ha : a.length ≤ 1048576) (hs : ∀ x ∈ a, x.length ≤ 1048576) (hk : 1048576 < k) : laws_eqInt64SS k (a, a, ()) = some ((true, ()), ((), (), ())) := by
  unfold laws_eqInt64SS
  have hb : ((a.length : Int) != (a.length : Int)) = false := by simp
  simp only [hb, br_false]
  exact iter_for (b := laws_eqInt64SS.l0 k) (fun i => (a, a, (i : Int), ())) a.length (fun G i hi => by
    have h2 : ((i : Int) < (a.length : Int)) := by omega
    have h3 : (0 : Int) ≤ (i : Int) := by omega
    simp only [laws_eqInt64SS.l0, br_dec, if_pos h2, if_pos h3, Int.toNat_natCast, List.getElem?_eq_getElem hi, bd_some, eqInt64S_is k a[i] (hs _ (List.getElem_mem _)) hk, Bool.not_true, br_false]
    rw [wrap_succ (by omega)]) (fun G => by
    have h2 : ¬ ((a.length : Int) < (a.length : Int)) := by omega
    simp only [laws_eqInt64SS.l0, br_dec, if_neg h2]) (by omega)

theorem eqStore_is (k : Nat) (s : StoreT) (hs : SSmall s) (hk : 1048576 < k) : laws_eqStore k (s, s, ()) = some ((true, ()), ((), (), ())) := by
  unfold laws_eqStore
  simp only [eqInt64S_is k _ hs.n0 hk, eqBoolS_is k _ hs.n1 hk, eqInt64SS_is k _ hs.n2 hs.m2 hk, bd_some, Bool.not_true, br_false]

/-! ### Which are right -/

def lensOk (d : DeclT) (s : StoreT) : Bool := ((s.1.length : Int) == (d.1.length : Int)) && (((s.2.1.length : Int) == (d.2.1.length : Int)) && ((s.2.2.1.length : Int) == (d.2.2.1.length : Int)))
def rowsOk (d : DeclT) (s : StoreT) : Bool := !(List.range s.2.2.1.length).any fun i => ((s.2.2.1.getD i []).length : Int) != (d.2.2.1.getD i ([], 0, ())).2.1
def storeOk (d : DeclT) (s : StoreT) : Bool := declOk d && (lensOk d s && rowsOk d s)

theorem lens_of {d : DeclT} {s : StoreT} (h : lensOk d s = true) : s.1.length = d.1.length ∧ s.2.1.length = d.2.1.length ∧ s.2.2.1.length = d.2.2.1.length := by
  simp only [lensOk, Bool.and_eq_true, beq_iff_eq] at h
  omega

theorem specRows (k : Nat) (hk : 4194304 < k) (d : DeclT) (s : StoreT) (hs : SSmall s) (hl : s.2.2.1.length = d.2.2.1.length) : iter (spec_StoreOk.l0 k) k ((d.1, d.2.1, d.2.2.1, ()), (s.1, s.2.1, s.2.2.1, ()), 0, ()) = some ((rowsOk d s, ()), ((), (), ())) := by
  have n2 := hs.n2
  have h := iter_range (b := spec_StoreOk.l0 k) (fun i => ((d.1, d.2.1, d.2.2.1, ()), (s.1, s.2.1, s.2.2.1, ()), (i : Int), ())) s.2.2.1.length (fun i => ((s.2.2.1.getD i []).length : Int) != (d.2.2.1.getD i ([], 0, ())).2.1) (rf := some ((false, ()), ((), (), ()))) (r := some ((true, ()), ((), (), ()))) (fun G i hi => by
    have hi2 : i < d.2.2.1.length := by omega
    have h2 : ((i : Int) < (s.2.2.1.length : Int)) := by omega
    have h3 : (0 : Int) ≤ (i : Int) := by omega
    have g1 : s.2.2.1.getD i [] = s.2.2.1[i] := by simp [List.getD, List.getElem?_eq_getElem hi]
    have g2 : d.2.2.1.getD i ([], 0, ()) = d.2.2.1[i] := by simp [List.getD, List.getElem?_eq_getElem hi2]
    simp only [spec_StoreOk.l0, br_dec, if_pos h2, if_pos h3, Int.toNat_natCast, List.getElem?_eq_getElem hi, List.getElem?_eq_getElem hi2, bd_some, g1, g2]
    rw [wrap_succ (by omega)]
    cases ((s.2.2.1[i].length : Int) != d.2.2.1[i].2.1) <;> simp) (fun G => by
    have h2 : ¬ ((s.2.2.1.length : Int) < (s.2.2.1.length : Int)) := by omega
    simp only [spec_StoreOk.l0, br_dec, if_neg h2]) (f := k) (by omega)
  refine Eq.trans h ?_
  unfold rowsOk
  cases (List.range s.2.2.1.length).any fun i => ((s.2.2.1.getD i []).length : Int) != (d.2.2.1.getD i ([], 0, ())).2.1 <;> rfl

theorem implRows (k : Nat) (hk : 4194304 < k) (d : DeclT) (s : StoreT) (hs : SSmall s) (hl : s.2.2.1.length = d.2.2.1.length) : iter (impl_Decl_isStore.l0 k) k ((s.1, s.2.1, s.2.2.1, ()), d.2.2.1, (d.2.2.1.length : Int), 0, ()) = some ((rowsOk d s, ()), ((), (), ())) := by
  have n2 := hs.n2
  have h := iter_range (b := impl_Decl_isStore.l0 k) (fun i => ((s.1, s.2.1, s.2.2.1, ()), d.2.2.1, (d.2.2.1.length : Int), (i : Int), ())) s.2.2.1.length (fun i => ((s.2.2.1.getD i []).length : Int) != (d.2.2.1.getD i ([], 0, ())).2.1) (rf := some ((false, ()), ((), (), ()))) (r := some ((true, ()), ((), (), ()))) (fun G i hi => by
    have hi2 : i < d.2.2.1.length := by omega
    have h2 : ((i : Int) < (d.2.2.1.length : Int)) := by omega
    have h3 : (0 : Int) ≤ (i : Int) := by omega
    have g1 : s.2.2.1.getD i [] = s.2.2.1[i] := by simp [List.getD, List.getElem?_eq_getElem hi]
    have g2 : d.2.2.1.getD i ([], 0, ()) = d.2.2.1[i] := by simp [List.getD, List.getElem?_eq_getElem hi2]
    simp only [impl_Decl_isStore.l0, impl_size_int64, br_dec, if_pos h2, if_pos h3, Int.toNat_natCast, List.getElem?_eq_getElem hi, List.getElem?_eq_getElem hi2, bd_some, g1, g2]
    rw [wrap_succ (by omega)]
    cases ((s.2.2.1[i].length : Int) != d.2.2.1[i].2.1) <;> simp) (fun G => by
    have h2 : ¬ ((s.2.2.1.length : Int) < (d.2.2.1.length : Int)) := by omega
    simp only [impl_Decl_isStore.l0, br_dec, if_neg h2]) (f := k) (by omega)
  refine Eq.trans h ?_
  unfold rowsOk
  cases (List.range s.2.2.1.length).any fun i => ((s.2.2.1.getD i []).length : Int) != (d.2.2.1.getD i ([], 0, ())).2.1 <;> rfl

theorem specStoreOk_is (k : Nat) (hk : 4194304 < k) (d : DeclT) (hd : DSmall d) (s : StoreT) (hs : SSmall s) : spec_StoreOk k (d, s, ()) = some ((storeOk d s, ()), ((), (), ())) := by
  unfold spec_StoreOk storeOk
  simp only [specDeclOk_is k hk d hd, bd_some]
  cases hdo : declOk d with
  | false => simp
  | true =>
    simp only [Bool.not_true, br_false, Bool.true_and]
    cases hl : lensOk d s with
    | true =>
      obtain ⟨l0, l1, l2⟩ := lens_of hl
      simp only [l0, l1, l2, bne_self_eq_false, br_false, Option.bind_some, Bool.true_and]
      exact specRows k hk d s hs l2
    | false =>
      unfold lensOk at hl
      unfold bne
      revert hl
      cases ((s.1.length : Int) == (d.1.length : Int)) <;> cases ((s.2.1.length : Int) == (d.2.1.length : Int)) <;> cases ((s.2.2.1.length : Int) == (d.2.2.1.length : Int)) <;> simp

theorem isStore_is (k : Nat) (hk : 4194304 < k) (d : DeclT) (s : StoreT) (hs : SSmall s) : impl_Decl_isStore k (d, s, ()) = some ((lensOk d s && rowsOk d s, ()), ((), (), ())) := by
  unfold impl_Decl_isStore
  cases hl : lensOk d s with
  | true =>
    obtain ⟨l0, l1, l2⟩ := lens_of hl
    have hr := implRows k hk d s hs l2
    simp only [l0, l1, l2, bne_self_eq_false, br_false, Option.bind_some, Bool.true_and]
    exact hr
  | false =>
    unfold lensOk at hl
    simp only [bne]
    revert hl
    cases ((s.1.length : Int) == (d.1.length : Int)) <;> cases ((s.2.1.length : Int) == (d.2.1.length : Int)) <;> cases ((s.2.2.1.length : Int) == (d.2.2.1.length : Int)) <;> simp
end Go.Pev.F
end

section
/-
  The leaf of flags: the reference's sum of powers is the program's bits.
-/
set_option linter.unusedVariables false
set_option linter.unusedSimpArgs false
namespace Go.Pev.F

def oneB (b : Bool) : Int := cond b 1 0
def leafN : List Bool → Int
  | [] => 0
  | b :: r => oneB b + 2 * leafN r

theorem l5One_is (k : Nat) (b : Bool) : spec_l5One k (b, ()) = some ((oneB b, ()), ((), ())) := by
  unfold spec_l5One oneB; cases b <;> simp
theorem truth_is (k : Nat) (b : Bool) : impl_truth k (b, ()) = some ((oneB b, ()), ((), ())) := by
  unfold impl_truth oneB; cases b <;> simp

theorem leafN_take (l : List Bool) : ∀ {i : Nat} (hi : i < l.length), leafN (l.take (i + 1)) = leafN (l.take i) + oneB l[i] * 2 ^ i := by
  induction l with
  | nil => intro i hi; simp at hi
  | cons b r ih =>
    intro i hi
    cases i with
    | zero => simp [leafN]
    | succ i =>
      have hr : i < r.length := by simpa using hi
      have := ih (i := i) hr
      simp only [List.take_succ_cons, leafN, this, List.getElem_cons_succ, Int.pow_succ]
      generalize leafN (r.take i) = A
      generalize oneB r[i] = B
      generalize (2 : Int) ^ i = C
      rw [Int.mul_add, ← Int.add_assoc, Int.mul_comm 2 (B * C), Int.mul_assoc]

theorem leafN_lt : ∀ (l : List Bool), 0 ≤ leafN l ∧ leafN l < 2 ^ l.length
  | [] => by simp [leafN]
  | b :: r => by
    have := leafN_lt r
    have h : (2 : Int) ^ (b :: r).length = 2 * 2 ^ r.length := by rw [List.length_cons, Int.pow_succ, Int.mul_comm]
    rw [h]
    have hb : 0 ≤ oneB b ∧ oneB b ≤ 1 := by cases b <;> decide
    simp only [leafN]
    omega

theorem l8Leaf_is (k : Nat) (hk : 4194304 < k) (s : StoreT) (h : s.2.1.length ≤ 3) : spec_l8Leaf k (s, ()) = some ((leafN s.2.1, ()), ((), ())) := by
  have key := iter_for (b := spec_l8Leaf.l0 k) (fun i => ((s.1, s.2.1, s.2.2.1, ()), leafN (s.2.1.take i), (i : Int), ())) s.2.1.length (r := some ((leafN s.2.1, ()), ((), ()))) (fun G i hi => by
    have h2 : ((i : Int) < (s.2.1.length : Int)) := by omega
    have h3 : (0 : Int) ≤ (i : Int) := by omega
    have wu : IntKind.wrap .u64 (i : Int) = (i : Int) := wrap_u64 (by omega) (by omega)
    have hb : 0 ≤ oneB s.2.1[i] ∧ oneB s.2.1[i] ≤ 1 := by cases s.2.1[i] <;> decide
    have hl := leafN_lt (s.2.1.take i)
    have hi3 : i = 0 ∨ i = 1 ∨ i = 2 := by omega
    have hp : ((2 : Int) ^ (min i 64)) = 2 ^ i ∧ (2 : Int) ^ i ≤ 4 ∧ 0 ≤ (2 : Int) ^ i := by rcases hi3 with rfl | rfl | rfl <;> decide
    have hlen : (2 : Int) ^ (s.2.1.take i).length ≤ 8 := by
      have : (s.2.1.take i).length = 0 ∨ (s.2.1.take i).length = 1 ∨ (s.2.1.take i).length = 2 := by simp; omega
      rcases this with e | e | e <;> rw [e] <;> decide
    have hm : 0 ≤ oneB s.2.1[i] * 2 ^ i ∧ oneB s.2.1[i] * 2 ^ i ≤ 4 := by
      rcases (show oneB s.2.1[i] = 0 ∨ oneB s.2.1[i] = 1 by omega) with e | e <;> rw [e] <;> omega
    simp only [spec_l8Leaf.l0, br_dec, if_pos h2, if_pos h3, wu, Int.toNat_natCast, List.getElem?_eq_getElem hi, bd_some, l5One_is, hp.1]
    rw [wrap_i64 (n := oneB s.2.1[i] * 2 ^ i) (by omega) (by omega), wrap_i64 (n := leafN (s.2.1.take i) + oneB s.2.1[i] * 2 ^ i) (by omega) (by omega), wrap_succ (by omega), leafN_take s.2.1 hi]) (fun G => by
    have h2 : ¬ ((s.2.1.length : Int) < (s.2.1.length : Int)) := by omega
    simp only [spec_l8Leaf.l0, br_dec, if_neg h2, List.take_length]) (f := k) (by omega)
  unfold spec_l8Leaf
  exact key

theorem leafOf_is (k : Nat) (hk : 4194304 < k) (l : List Bool) (h : l.length ≤ 3) : impl_leafOf k (l, ()) = some ((leafN l, ()), ((), ())) := by
  have key := iter_for (b := impl_leafOf.l0 k) (fun i => (leafN (l.take i), l, (l.length : Int), (i : Int), ())) l.length (r := some ((leafN l, ()), ((), ()))) (fun G i hi => by
    have h2 : ((i : Int) < (l.length : Int)) := by omega
    have h3 : (0 : Int) ≤ (i : Int) := by omega
    have hb : oneB l[i] = 0 ∨ oneB l[i] = 1 := by cases l[i] <;> decide
    have hl := leafN_lt (l.take i)
    have e : IntKind.wrap .i64 (((BitVec.ofInt 64 (leafN (l.take i)) ||| BitVec.ofInt 64 (IntKind.wrap .i64 (oneB l[i] * 2 ^ (min i 64)))).toNat : Int)) = leafN (l.take (i + 1)) := by
      rw [leafN_take l hi]
      have hi3 : i = 0 ∨ i = 1 ∨ i = 2 := by omega
      have hlen : (l.take i).length = i := by simp; omega
      rw [hlen] at hl
      obtain ⟨h5, h6⟩ := hl
      generalize leafN (l.take i) = A at h5 h6 ⊢
      rcases hi3 with rfl | rfl | rfl
      · have : A = 0 := by have : (2 : Int) ^ 0 = 1 := rfl; omega
        subst this
        rcases hb with e | e <;> rw [e] <;> decide
      · have : A = 0 ∨ A = 1 := by have : (2 : Int) ^ 1 = 2 := rfl; omega
        rcases this with rfl | rfl <;> rcases hb with e | e <;> rw [e] <;> decide
      · have : A = 0 ∨ A = 1 ∨ A = 2 ∨ A = 3 := by have : (2 : Int) ^ 2 = 4 := rfl; omega
        rcases this with rfl | rfl | rfl | rfl <;> rcases hb with e | e <;> rw [e] <;> decide
    simp only [impl_leafOf.l0, br_dec, if_pos h2, if_pos h3, Int.toNat_natCast, List.getElem?_eq_getElem hi, bd_some, truth_is, e]
    rw [wrap_succ (by omega)]) (fun G => by
    have h2 : ¬ ((l.length : Int) < (l.length : Int)) := by omega
    simp only [impl_leafOf.l0, br_dec, if_neg h2, List.take_length]) (f := k) (by omega)
  unfold impl_leafOf
  exact key
end Go.Pev.F
end

section
/-
  Whether bounds have a store: the reference's test and the program's agree.
-/
set_option linter.unusedVariables false
set_option linter.unusedSimpArgs false
namespace Go.Pev.F

def hasI (a : IvT) (n : Int) : Bool := decide (a.1 ≤ n ∧ n ≤ a.2.1)
def hasInts (e : EnvT) (s : StoreT) : Bool := !(List.range e.2.1.length).any fun i => !hasI (e.2.1.getD i (0, 0, ())) (s.1.getD i 0)
def hasRow (a : IvT) (l : List Int) : Bool := l.all (hasI a)
def hasArrs (e : EnvT) (s : StoreT) : Bool := !(List.range e.2.2.1.length).any fun i => !hasRow (e.2.2.1.getD i (0, 0, ())) (s.2.2.1.getD i [])
def envHas (e : EnvT) (s : StoreT) : Bool := e.1 && (hasInts e s && hasArrs e s)

theorem ivHas_is (k : Nat) (a : IvT) (n : Int) : spec_IvHas k (a, n, ()) = some ((hasI a n, ()), ((), (), ())) := by
  unfold spec_IvHas hasI
  by_cases h : a.1 ≤ n <;> by_cases h2 : n ≤ a.2.1 <;> simp [h, h2]

theorem has_is (k : Nat) (a : IvT) (n : Int) : impl_Interval_has k (a, n, ()) = some ((hasI a n, ()), ((), (), ())) := by
  unfold impl_Interval_has hasI
  simp only [within_is, bd_some]

theorem areAllInt_is (k : Nat) (hk : 4194304 < k) (a : IvT) (l : List Int) (hl : l.length ≤ 1048576) : impl_areAll_int64 k (l, (a, ()), ()) = some ((hasRow a l, ()), ((), ((), ()), ())) := by
  obtain ⟨n, h1, h2⟩ := iter_find (b := slices_IndexFunc_int64_int64.l0 k) (fun i => (l, (((a, ()), ()), ()), (l.length : Int), (i : Int), ())) l (fun n => !hasI a n) (o := ((), (((a, ()), ()), ()), ())) (fun G i hi => by
    have h2 : ((i : Int) < (l.length : Int)) := by omega
    have h3 : (0 : Int) ≤ (i : Int) := by omega
    simp only [slices_IndexFunc_int64_int64.l0, impl_areAll_int64_1, has_is, br_dec, if_pos h2, if_pos h3, Int.toNat_natCast, List.getElem?_eq_getElem hi, bd_some]
    rw [wrap_succ (by omega)]
    cases hasI a l[i] <;> simp) (fun G => by
    have h2 : ¬ ((l.length : Int) < (l.length : Int)) := by omega
    simp only [slices_IndexFunc_int64_int64.l0, br_dec, if_neg h2]) (f := k) (by omega)
  unfold impl_areAll_int64 slices_ContainsFunc_int64_int64 slices_IndexFunc_int64_int64
  have h1' : iter (slices_IndexFunc_int64_int64.l0 k) k (l, (((a, ()), ()), ()), (l.length : Int), 0, ()) = some ((n, ()), ((), (((a, ()), ()), ()), ())) := h1
  simp only [h1', bd_some, h2, all_any, Bool.not_not, hasRow]

theorem hasStore_is (k : Nat) (hk : 4194304 < k) (e : EnvT) (he : ESmall e) (s : StoreT) (hs : SSmall s) (hl : e.1 = true → e.2.1.length = s.1.length ∧ e.2.2.1.length = s.2.2.1.length) : impl_Env_hasStore k (e, s, ()) = some ((envHas e s, ()), ((), (), ())) := by
  have n1 := he.n1
  have n2 := he.n2
  unfold impl_Env_hasStore envHas
  cases he1 : e.1 with
  | false => simp [he1]
  | true =>
    obtain ⟨l1, l2⟩ := hl he1
    simp only [he1, Bool.not_true, br_false, Bool.true_and]
    have h2 := iter_range (b := impl_Env_hasStore.l2 k) (fun i => ((true, e.2.1, e.2.2.1, ()), s.2.2.1, (s.2.2.1.length : Int), (i : Int), ())) e.2.2.1.length (fun i => !hasRow (e.2.2.1.getD i (0, 0, ())) (s.2.2.1.getD i [])) (rf := some ((false, ()), ((), (), ()))) (r := some ((true, ()), ((), (), ()))) (fun G i hi => by
      have hi2 : i < s.2.2.1.length := by omega
      have h2 : ((i : Int) < (s.2.2.1.length : Int)) := by omega
      have h3 : (0 : Int) ≤ (i : Int) := by omega
      have g1 : e.2.2.1.getD i (0, 0, ()) = e.2.2.1[i] := by simp [List.getD, List.getElem?_eq_getElem hi]
      have g2 : s.2.2.1.getD i [] = s.2.2.1[i] := by simp [List.getD, List.getElem?_eq_getElem hi2]
      simp only [impl_Env_hasStore.l2, br_dec, if_pos h2, if_pos h3, Int.toNat_natCast, List.getElem?_eq_getElem hi, List.getElem?_eq_getElem hi2, bd_some, areAllInt_is k hk e.2.2.1[i] s.2.2.1[i] (hs.m2 _ (List.getElem_mem hi2)), g1, g2]
      rw [wrap_succ (by omega)]
      cases hasRow e.2.2.1[i] s.2.2.1[i] <;> simp) (fun G => by
      have h2 : ¬ ((e.2.2.1.length : Int) < (s.2.2.1.length : Int)) := by omega
      simp only [impl_Env_hasStore.l2, br_dec, if_neg h2]) (f := k) (by omega)
    have h0 := iter_range (b := impl_Env_hasStore.l0 k) (fun i => ((true, e.2.1, e.2.2.1, ()), (s.1, s.2.1, s.2.2.1, ()), s.1, (s.1.length : Int), (i : Int), ())) e.2.1.length (fun i => !hasI (e.2.1.getD i (0, 0, ())) (s.1.getD i 0)) (rf := some ((false, ()), ((), (), ()))) (r := some ((hasArrs e s, ()), ((), (), ()))) (fun G i hi => by
      have hi2 : i < s.1.length := by omega
      have h2 : ((i : Int) < (s.1.length : Int)) := by omega
      have h3 : (0 : Int) ≤ (i : Int) := by omega
      have g1 : e.2.1.getD i (0, 0, ()) = e.2.1[i] := by simp [List.getD, List.getElem?_eq_getElem hi]
      have g2 : s.1.getD i 0 = s.1[i] := by simp [List.getD, List.getElem?_eq_getElem hi2]
      simp only [impl_Env_hasStore.l0, br_dec, if_pos h2, if_pos h3, Int.toNat_natCast, List.getElem?_eq_getElem hi, List.getElem?_eq_getElem hi2, bd_some, has_is, g1, g2]
      rw [wrap_succ (by omega)]
      cases hasI e.2.1[i] s.1[i] <;> simp) (fun G => by
      have h3 : ¬ ((e.2.1.length : Int) < (s.1.length : Int)) := by omega
      simp only [impl_Env_hasStore.l0, br_dec, if_neg h3]
      refine Eq.trans h2 ?_
      unfold hasArrs
      cases (List.range e.2.2.1.length).any fun i => !hasRow (e.2.2.1.getD i (0, 0, ())) (s.2.2.1.getD i []) <;> rfl) (f := k) (by omega)
    refine Eq.trans h0 ?_
    unfold hasInts
    cases (List.range e.2.1.length).any fun i => !hasI (e.2.1.getD i (0, 0, ())) (s.1.getD i 0) <;> simp
end Go.Pev.F
end

section
/-
  Whether bounds have a store: the reference's test.
-/
set_option linter.unusedVariables false
set_option linter.unusedSimpArgs false
namespace Go.Pev.F

theorem specHasRow (k : Nat) (hk : 4194304 < k) (e : EnvT) (s : StoreT) (G2) {i : Nat} (hi : i < e.2.2.1.length) (hi2 : i < s.2.2.1.length) (hn : i < 1048576) (hr : s.2.2.1[i].length ≤ 1048576) :
    iter (spec_l6Has.l4 k G2) k ((true, e.2.1, e.2.2.1, ()), (s.1, s.2.1, s.2.2.1, ()), (i : Int), 0, ()) = if hasRow e.2.2.1[i] s.2.2.1[i] = true then G2 ((true, e.2.1, e.2.2.1, ()), (s.1, s.2.1, s.2.2.1, ()), ((i + 1 : Nat) : Int), ()) else some ((false, ()), ((), (), ())) := by
  have h3 : (0 : Int) ≤ (i : Int) := by omega
  have h := iter_any (b := spec_l6Has.l4 k G2) (fun j => ((true, e.2.1, e.2.2.1, ()), (s.1, s.2.1, s.2.2.1, ()), (i : Int), (j : Int), ())) s.2.2.1[i] (fun n => !hasI e.2.2.1[i] n) (rf := some ((false, ()), ((), (), ()))) (r := G2 ((true, e.2.1, e.2.2.1, ()), (s.1, s.2.1, s.2.2.1, ()), ((i + 1 : Nat) : Int), ())) (fun G j hj => by
    have h2 : ((j : Int) < (s.2.2.1[i].length : Int)) := by omega
    have h4 : (0 : Int) ≤ (j : Int) := by omega
    simp only [spec_l6Has.l4, br_dec, if_pos h2, if_pos h3, if_pos h4, Int.toNat_natCast, List.getElem?_eq_getElem hi, List.getElem?_eq_getElem hi2, List.getElem?_eq_getElem hj, bd_some, ivHas_is]
    rw [wrap_succ (by omega)]
    cases hasI e.2.2.1[i] s.2.2.1[i][j] <;> simp) (fun G => by
    have h2 : ¬ ((s.2.2.1[i].length : Int) < (s.2.2.1[i].length : Int)) := by omega
    simp only [spec_l6Has.l4, br_dec, if_pos h3, Int.toNat_natCast, List.getElem?_eq_getElem hi2, bd_some, if_neg h2]
    rw [wrap_succ (by omega)]) (f := k) (by omega)
  refine Eq.trans h ?_
  rw [all_any, hasRow]
  cases s.2.2.1[i].all (hasI e.2.2.1[i]) <;> simp

theorem l6Has_is (k : Nat) (hk : 4194304 < k) (e : EnvT) (he : ESmall e) (s : StoreT) (hs : SSmall s) (hl : e.1 = true → e.2.1.length = s.1.length ∧ e.2.2.1.length = s.2.2.1.length) : spec_l6Has k (e, s, ()) = some ((envHas e s, ()), ((), (), ())) := by
  have n1 := he.n1
  have n2 := he.n2
  have m2 := hs.n2
  unfold spec_l6Has envHas
  cases he1 : e.1 with
  | false => simp [he1]
  | true =>
    obtain ⟨l1, l2⟩ := hl he1
    simp only [he1, Bool.not_true, br_false, Bool.true_and]
    have h2 := iter_range (b := spec_l6Has.l2 k) (fun i => ((true, e.2.1, e.2.2.1, ()), (s.1, s.2.1, s.2.2.1, ()), (i : Int), ())) e.2.2.1.length (fun i => !hasRow (e.2.2.1.getD i (0, 0, ())) (s.2.2.1.getD i [])) (rf := some ((false, ()), ((), (), ()))) (r := some ((true, ()), ((), (), ()))) (fun G i hi => by
      have hi2 : i < s.2.2.1.length := by omega
      have h2 : ((i : Int) < (e.2.2.1.length : Int)) := by omega
      have g1 : e.2.2.1.getD i (0, 0, ()) = e.2.2.1[i] := by simp [List.getD, List.getElem?_eq_getElem hi]
      have g2 : s.2.2.1.getD i [] = s.2.2.1[i] := by simp [List.getD, List.getElem?_eq_getElem hi2]
      simp only [spec_l6Has.l2, br_dec, if_pos h2, g1, g2]
      rw [specHasRow k hk e s G hi hi2 (by omega) (hs.m2 _ (List.getElem_mem hi2))]
      cases hasRow e.2.2.1[i] s.2.2.1[i] <;> simp) (fun G => by
      have h2 : ¬ ((e.2.2.1.length : Int) < (e.2.2.1.length : Int)) := by omega
      simp only [spec_l6Has.l2, br_dec, if_neg h2]) (f := k) (by omega)
    have h0 := iter_range (b := spec_l6Has.l0 k) (fun i => ((true, e.2.1, e.2.2.1, ()), (s.1, s.2.1, s.2.2.1, ()), (i : Int), ())) e.2.1.length (fun i => !hasI (e.2.1.getD i (0, 0, ())) (s.1.getD i 0)) (rf := some ((false, ()), ((), (), ()))) (r := some ((hasArrs e s, ()), ((), (), ()))) (fun G i hi => by
      have hi2 : i < s.1.length := by omega
      have h2 : ((i : Int) < (e.2.1.length : Int)) := by omega
      have h3 : (0 : Int) ≤ (i : Int) := by omega
      have g1 : e.2.1.getD i (0, 0, ()) = e.2.1[i] := by simp [List.getD, List.getElem?_eq_getElem hi]
      have g2 : s.1.getD i 0 = s.1[i] := by simp [List.getD, List.getElem?_eq_getElem hi2]
      simp only [spec_l6Has.l0, br_dec, if_pos h2, if_pos h3, Int.toNat_natCast, List.getElem?_eq_getElem hi, List.getElem?_eq_getElem hi2, bd_some, ivHas_is, g1, g2]
      rw [wrap_succ (by omega)]
      cases hasI e.2.1[i] s.1[i] <;> simp) (fun G => by
      have h3 : ¬ ((e.2.1.length : Int) < (e.2.1.length : Int)) := by omega
      simp only [spec_l6Has.l0, br_dec, if_neg h3]
      refine Eq.trans h2 ?_
      unfold hasArrs
      cases (List.range e.2.2.1.length).any fun i => !hasRow (e.2.2.1.getD i (0, 0, ())) (s.2.2.1.getD i []) <;> rfl) (f := k) (by omega)
    refine Eq.trans h0 ?_
    unfold hasInts
    cases (List.range e.2.1.length).any fun i => !hasI (e.2.1.getD i (0, 0, ())) (s.1.getD i 0) <;> simp
end Go.Pev.F
end

section
/-
  Sizes, copies and comparisons of plain data, in general.
-/
set_option linter.unusedVariables false
set_option linter.unusedSimpArgs false
namespace Go.Pev

/-- What a guard of 2^20 things grants. -/
def Kd.Small : (k : Kd) → k.T → Prop
  | .str, s => s.length ≤ 1048576
  | .sl _ e, l => l.length ≤ 1048576 ∧ ∀ x ∈ l, e.Small x
  | .cons a b, x => a.Small x.1 ∧ b.Small x.2
  | _, _ => True

/-- A size's loop. -/
theorem sz_loop {A α β : Type} {b : (A → Option ((Int × Unit) × β)) → A → Option ((Int × Unit) × β)} (st : Nat → Int → A) (l : List α) (P : α → Prop) {o : β}
    (h : ∀ G i (hi : i < l.length) (left : Int), 0 ≤ left → left ≤ 1048576 → ∃ r : Int, b G (st i left) = (if r < 0 then some ((-1, ()), o) else G (st (i + 1) r)) ∧ (0 ≤ r → r ≤ left ∧ P l[i]))
    (he : ∀ G left, b G (st l.length left) = some ((left, ()), o)) {f : Nat} (hf : l.length < f) (left : Int) (h0 : 0 ≤ left) (h1 : left ≤ 1048576) :
    ∃ r : Int, iter b f (st 0 left) = some ((r, ()), o) ∧ (0 ≤ r → r ≤ left ∧ ∀ x ∈ l, P x) := by
  have key : ∀ (n i f : Nat) (left : Int), i + n = l.length → n < f → 0 ≤ left → left ≤ 1048576 → ∃ r : Int, iter b f (st i left) = some ((r, ()), o) ∧ (0 ≤ r → r ≤ left ∧ ∀ j (hj : j < l.length), i ≤ j → P l[j]) := by
    intro n
    induction n with
    | zero =>
      intro i f left hi hf h0 h1
      obtain ⟨f, rfl⟩ : ∃ g, f = g + 1 := ⟨f - 1, by omega⟩
      obtain rfl : i = l.length := by omega
      exact ⟨left, by rw [iter_succ, he], fun _ => ⟨Int.le_refl _, fun j hj h => by omega⟩⟩
    | succ n ih =>
      intro i f left hi hf h0 h1
      obtain ⟨f, rfl⟩ : ∃ g, f = g + 1 := ⟨f - 1, by omega⟩
      have hi' : i < l.length := by omega
      obtain ⟨r1, e1, p1⟩ := h (iter b f) i hi' left h0 h1
      by_cases hr : r1 < 0
      · exact ⟨-1, by rw [iter_succ, e1, if_pos hr], fun h => by omega⟩
      · obtain ⟨q1, q2⟩ := p1 (by omega)
        obtain ⟨r, h4, h5⟩ := ih (i + 1) f r1 (by omega) (by omega) (by omega) (by omega)
        refine ⟨r, by rw [iter_succ, e1, if_neg hr, h4], fun h => ?_⟩
        obtain ⟨h6, h7⟩ := h5 h
        refine ⟨by omega, fun j hj hij => ?_⟩
        by_cases e : j = i
        · subst e; exact q2
        · exact h7 j hj (by omega)
  obtain ⟨r, h2, h3⟩ := key l.length 0 f left (by omega) hf h0 h1
  refine ⟨r, h2, fun hr => ?_⟩
  obtain ⟨h4, h5⟩ := h3 hr
  refine ⟨h4, fun x hx => ?_⟩
  obtain ⟨j, hj, rfl⟩ := List.mem_iff_getElem.1 hx
  exact h5 j hj (by omega)

/-- A copy's loop. -/
theorem to_loop {A α β : Type} {b : (A → Option ((List α × Unit) × β)) → A → Option ((List α × Unit) × β)} (st : Nat → List α → A) (a : List α) (z : α) {o : β}
    (h : ∀ G i (hi : i < a.length) (out : List α), out.length = a.length → out[i]? = some z → b G (st i out) = G (st (i + 1) (out.set i a[i])))
    (he : ∀ G out, b G (st a.length out) = some ((out, ()), o)) {f : Nat} (hf : a.length < f) : iter b f (st 0 (List.replicate a.length z)) = some ((a, ()), o) := by
  have key := iter_for (b := b) (fun i => st i (a.take i ++ List.replicate (a.length - i) z)) a.length (r := some ((a, ()), o)) (fun G i hi => by
    rw [h G i hi _ (by simp; omega) (get_next a z hi), set_next a z hi]) (fun G => by
    rw [he]; simp) hf
  simpa using key
end Go.Pev
end

section
/-
  What a guard grants, part by part.
-/
set_option linter.unusedVariables false
set_option linter.unusedSimpArgs false
namespace Go.Pev.F

abbrev tokKd : Kd := .cons (.int .i64) (.cons (.int .i64) .nil)
abbrev lineKd : Kd := .cons (.int .i64) (.cons (.int .i64) (.cons (.sl false tokKd) (.cons (.sl false tokKd) (.cons (.int .i64) (.cons (.int .i64) .nil)))))
abbrev progKd : Kd := .cons (.sl false .str) (.cons (.sl false .str) (.cons (.sl false (.cons .str (.cons (.int .i64) .nil))) (.cons (.sl false lineKd) .nil)))
abbrev partKd : Kd := .cons (.sl false tokKd) (.cons (.sl false envKd) .nil)

theorem small_decl {d : DeclT} (h : Kd.Small declKd d) : DSmall d := by
  obtain ⟨⟨a0, a1⟩, ⟨b0, b1⟩, ⟨c0, c1⟩, _⟩ := h
  exact ⟨a0, a1, b0, b1, c0, fun x hx => (c1 x hx).1⟩

theorem small_prog {p : ProgT} (h : Kd.Small progKd p) : PSmall p := by
  obtain ⟨h0, h1, h2, ⟨h3, h4⟩, _⟩ := h
  exact ⟨small_decl ⟨h0, h1, h2, trivial⟩, h3, fun n hn => (h4 n hn).2.2.1.1, fun n hn => (h4 n hn).2.2.2.1.1⟩

theorem small_env {e : EnvT} (h : Kd.Small envKd e) : ESmall e := ⟨h.2.1.1, h.2.2.1.1⟩

theorem small_parts {l : List PartT} (h : Kd.Small (.sl false partKd) l) : LSmall l :=
  ⟨h.1, fun p hp => (h.2 p hp).1.1, fun p hp => (h.2 p hp).2.1.1, fun p hp e he => small_env ((h.2 p hp).2.1.2 e he)⟩

theorem small_store {s : StoreT} (h : Kd.Small storeKd s) : SSmall s := ⟨h.1.1, h.2.1.1, h.2.2.1.1, fun x hx => (h.2.2.1.2 x hx).1⟩
end Go.Pev.F
end

section
/-
  The part of a token: the reference looks at each one, the program halves.
-/
set_option linter.unusedVariables false
set_option linter.unusedSimpArgs false
namespace Go.Pev.F

theorem cmpX_zero : ∀ {a b : List EntT}, a.length = b.length → cmpX a b = 0 → a = b
  | [], [], _, _ => rfl
  | x :: a, y :: b, h, e => by
    simp only [cmpX] at e
    rcases cmpE_cases x y with ⟨e1, f1⟩ | ⟨e1, f1⟩ | ⟨e1, f1, f2⟩
    · rw [if_neg (by omega)] at e; omega
    · rw [if_neg (by omega)] at e; omega
    · rw [if_pos e1] at e
      obtain ⟨x1, x2, ⟨⟩⟩ := x
      obtain ⟨y1, y2, ⟨⟩⟩ := y
      rw [cmpX_zero (by simpa using h) e]
      simp only at f1 f2
      rw [f1, f2]
  | [], _ :: _, h, _ => by simp at h
  | _ :: _, [], h, _ => by simp at h

theorem cmpT_zero {a b : List EntT} (h : cmpT a b = 0) : a = b := by
  unfold cmpT at h
  by_cases h1 : a.length < b.length
  · rw [if_pos h1] at h; omega
  · by_cases h2 : a.length > b.length
    · rw [if_neg h1, if_pos h2] at h; omega
    · rw [if_neg h1, if_neg h2] at h
      exact cmpX_zero (by omega) h

theorem cmpX_self : ∀ (a : List EntT), cmpX a a = 0
  | [] => rfl
  | x :: a => by
    have : cmpE x x = 0 := by unfold cmpE; simp
    simp only [cmpX, this, if_true]
    exact cmpX_self a
theorem cmpT_self (a : List EntT) : cmpT a a = 0 := by unfold cmpT; simp [cmpX_self]

/-- The part of a token. -/
def findP (l : List PartT) (t : List EntT) : Option PartT := l.find? fun p => cmpT p.1 t == 0

theorem findP_at {l : List PartT} (hP : l.Pairwise fun p q => cmpT p.1 q.1 < 0) {t : List EntT} {m : Nat} (hm : m < l.length) (h : cmpT l[m].1 t = 0) : findP l t = some l[m] := by
  unfold findP
  rw [List.find?_eq_some_iff_getElem]
  refine ⟨by simpa using h, m, hm, rfl, fun j hj => ?_⟩
  have h1 := List.pairwise_iff_getElem.1 hP j m (by omega) hm hj
  have e := cmpT_zero h
  rw [e] at h1
  simp only [Bool.not_eq_true', beq_eq_false_iff_ne, ne_eq]
  omega

theorem findP_none {l : List PartT} {t : List EntT} (h : ∀ x (hx : x < l.length), cmpT l[x].1 t ≠ 0) : findP l t = none := by
  unfold findP
  rw [List.find?_eq_none]
  intro p hp
  obtain ⟨i, hi, rfl⟩ := List.mem_iff_getElem.1 hp
  simpa using h i hi

theorem findP_mem {l : List PartT} {t : List EntT} {p : PartT} (h : findP l t = some p) : p ∈ l ∧ p.1 = t := by
  unfold findP at h
  refine ⟨List.mem_of_find?_eq_some h, ?_⟩
  have := List.find?_some h
  exact cmpT_zero (by simpa using this)

theorem partAt_is (k : Nat) (hk : 4194304 < k) (l : List PartT) (hl : LSmall l) (hP : l.Pairwise fun p q => cmpT p.1 q.1 < 0) (t : List EntT) :
    ∃ (m : Nat) (b : Bool), impl_partAt k (l, t, ()) = some (((m : Int), b, ()), ((), (), ())) ∧ (b = true → ∃ h : m < l.length, findP l t = some l[m]) ∧ (b = false → findP l t = none) := by
  obtain ⟨m, b, h1, h2, h3⟩ := search_loop k hk l hl hP t l.length 0 l.length k (by omega) (by have := hl.n; omega) (by omega) (Nat.le_refl _) (fun x _ h => by omega) (fun x hx h => by omega)
  refine ⟨m, b, ?_, fun hb => ?_, fun hb => findP_none (h3 hb)⟩
  · unfold impl_partAt slices_BinarySearchFunc_impl_Part_impl_Part_impl_Entry
    have h1' : iter (slices_BinarySearchFunc_impl_Part_impl_Part_impl_Entry.l0 k) k (l, t, (()), (l.length : Int), 0, (l.length : Int), ()) = some (((m : Int), b, ()), ((), (), (()), ())) := h1
    simp only [h1', bd_some]
  · obtain ⟨hm, hc⟩ := h2 hb
    exact ⟨hm, findP_at hP hm hc⟩

theorem l9Find_is (k : Nat) (hk : 4194304 < k) (l : List PartT) (hl : LSmall l) (ht : ∀ p ∈ l, tokenOk p.1 = true) (hP : l.Pairwise fun p q => cmpT p.1 q.1 < 0) (t : List EntT) (htt : tokenOk t = true) :
    (∃ m : Nat, ∃ h : m < l.length, spec_l9Find k (l, t, ()) = some (((m : Int), ()), ((), (), ())) ∧ findP l t = some l[m]) ∨ (spec_l9Find k (l, t, ()) = some ((-1, ()), ((), (), ())) ∧ findP l t = none) := by
  have hn := hl.n
  unfold spec_l9Find
  rcases iter_first (b := spec_l9Find.l0 k) (fun i => (l, t, (i : Int), ())) l.length (fun i => if hi : i < l.length then cmpT l[i].1 t == 0 else false) (fun i => some (((i : Int), ()), ((), (), ()))) (r := some ((-1, ()), ((), (), ()))) (fun G i hi => by
    have h2 : ((i : Int) < (l.length : Int)) := by omega
    have h3 : (0 : Int) ≤ (i : Int) := by omega
    have hc := specCmp_is k hk l[i].1 t (ht _ (List.getElem_mem hi)) htt
    simp only [spec_l9Find.l0, br_dec, if_pos h2, if_pos h3, Int.toNat_natCast, List.getElem?_eq_getElem hi, bd_some, hc, dif_pos hi]
    rw [wrap_succ (by omega)]
    cases (cmpT l[i].1 t == 0) <;> simp) (fun G => by
    have h2 : ¬ ((l.length : Int) < (l.length : Int)) := by omega
    simp only [spec_l9Find.l0, br_dec, if_neg h2]) (f := k) (by omega) with ⟨j, h1, h2, h3⟩ | ⟨h1, h2⟩
  · left
    simp only [dif_pos h1, beq_iff_eq] at h2
    exact ⟨j, h1, h3, findP_at hP h1 h2⟩
  · right
    refine ⟨h2, findP_none fun x hx => ?_⟩
    have := h1 x hx
    simpa [dif_pos hx] using this
end Go.Pev.F
end
