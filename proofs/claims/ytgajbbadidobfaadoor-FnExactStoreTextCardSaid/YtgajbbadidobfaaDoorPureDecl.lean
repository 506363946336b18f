/-
  A program's names: sizes, copies, comparisons; which are right: the reference's and the program's test agree.
-/
import Derived.Test.YtgajbbadidobfaaDoorPureAlarmText
import Derived.Test.YtgajbbadidobfaaDoorPureLoop
import Derived.KernelRfl
set_option linter.unusedVariables false
set_option linter.unusedSimpArgs false
namespace Go.Pev.F

abbrev Names := List (List UInt8)
abbrev ArrT := List UInt8 × Int × Unit
abbrev DeclT := Names × Names × List ArrT × Unit
abbrev IvT := Int × Int × Unit
abbrev EnvT := Bool × List IvT × List IvT × Unit

/-! ### Sizes -/

theorem szStringS_loop (k : Nat) (a : Names) (ha : a.length ≤ 4611686018427387903) (hs : ∀ x ∈ a, x.length ≤ 4611686018427387903) : ∀ (n i f : Nat) (left : Int), i + n = a.length → n < f → 0 ≤ left → left ≤ 1048576 →
    ∃ r : Int, iter (laws_szStringS.l0 k) f (a, left, (i : Int), ()) = some ((r, ()), ((), (), ())) ∧ (0 ≤ r → r ≤ left ∧ ∀ j (hj : j < a.length), i ≤ j → (a[j].length : Int) ≤ left) := by
  intro n
  induction n with
  | zero =>
    intro i f left hi hf h0 h1
    obtain ⟨f, rfl⟩ : ∃ g, f = g + 1 := ⟨f - 1, by omega⟩
    refine ⟨left, ?_, fun _ => ⟨Int.le_refl _, fun j hj h => by omega⟩⟩
    rw [iter_succ]
    have : ¬ ((i : Int) < (a.length : Int)) := by omega
    simp only [laws_szStringS.l0, br_dec, if_neg this]
  | succ n ih =>
    intro i f left hi hf h0 h1
    obtain ⟨f, rfl⟩ : ∃ g, f = g + 1 := ⟨f - 1, by omega⟩
    have hi' : i < a.length := by omega
    have hx := hs a[i] (List.getElem_mem _)
    have h2 : ((i : Int) < (a.length : Int)) := by omega
    have h3 : (0 : Int) ≤ (i : Int) := by omega
    rw [iter_succ]
    simp only [laws_szStringS.l0, br_dec, if_pos h2, if_pos h3, Int.toNat_natCast, List.getElem?_eq_getElem hi', bd_some]
    rw [wrap_i64 (n := left - (a[i].length : Int)) (by omega) (by omega), wrap_succ (by omega)]
    by_cases hc : left - (a[i].length : Int) < 0
    · rw [if_pos hc]
      exact ⟨-1, rfl, fun h => by omega⟩
    · rw [if_neg hc]
      obtain ⟨r, h4, h5⟩ := ih (i + 1) f (left - (a[i].length : Int)) (by omega) (by omega) (by omega) (by omega)
      refine ⟨r, h4, fun hr => ?_⟩
      obtain ⟨h6, h7⟩ := h5 hr
      refine ⟨by omega, fun j hj hij => ?_⟩
      by_cases e : j = i
      · subst e; omega
      · have := h7 j hj (by omega); omega

theorem szStringS_is (k : Nat) (hk : 1048576 < k) (a : Names) (ha : a.length ≤ 140737488351232) (hs : ∀ x ∈ a, x.length ≤ 140737488351232) (left : Int) (h0 : 0 ≤ left) (h1 : left ≤ 1048576) :
    ∃ r : Int, laws_szStringS k (a, left, ()) = some ((r, ()), ((), (), ())) ∧ (0 ≤ r → r ≤ left ∧ a.length ≤ 1048576 ∧ ∀ x ∈ a, x.length ≤ 1048576) := by
  unfold laws_szStringS
  simp only [br_dec]
  rw [wrap_i64 (by omega) (by omega)]
  by_cases hc : left - (a.length : Int) < 0
  · rw [if_pos hc]
    exact ⟨-1, rfl, fun h => by omega⟩
  · rw [if_neg hc]
    obtain ⟨r, h4, h5⟩ := szStringS_loop k a (by omega) (fun x hx => by have := hs x hx; omega) a.length 0 k (left - (a.length : Int)) (by omega) (by omega) (by omega) (by omega)
    refine ⟨r, h4, fun hr => ?_⟩
    obtain ⟨h6, h7⟩ := h5 hr
    refine ⟨by omega, by omega, fun x hx => ?_⟩
    obtain ⟨j, hj, rfl⟩ := List.mem_iff_getElem.1 hx
    have := h7 j hj (by omega)
    omega

theorem szArrS_loop (k : Nat) (a : List ArrT) (ha : a.length ≤ 4611686018427387903) (hs : ∀ x ∈ a, x.1.length ≤ 4611686018427387903) : ∀ (n i f : Nat) (left : Int), i + n = a.length → n < f → 0 ≤ left → left ≤ 1048576 →
    ∃ r : Int, iter (laws_szArrS.l0 k) f (a, left, (i : Int), ()) = some ((r, ()), ((), (), ())) ∧ (0 ≤ r → r ≤ left ∧ ∀ j (hj : j < a.length), i ≤ j → (a[j].1.length : Int) ≤ left) := by
  intro n
  induction n with
  | zero =>
    intro i f left hi hf h0 h1
    obtain ⟨f, rfl⟩ : ∃ g, f = g + 1 := ⟨f - 1, by omega⟩
    refine ⟨left, ?_, fun _ => ⟨Int.le_refl _, fun j hj h => by omega⟩⟩
    rw [iter_succ]
    have : ¬ ((i : Int) < (a.length : Int)) := by omega
    simp only [laws_szArrS.l0, br_dec, if_neg this]
  | succ n ih =>
    intro i f left hi hf h0 h1
    obtain ⟨f, rfl⟩ : ∃ g, f = g + 1 := ⟨f - 1, by omega⟩
    have hi' : i < a.length := by omega
    have hx := hs a[i] (List.getElem_mem _)
    have h2 : ((i : Int) < (a.length : Int)) := by omega
    have h3 : (0 : Int) ≤ (i : Int) := by omega
    rw [iter_succ]
    simp only [laws_szArrS.l0, laws_szArr, br_dec, if_pos h2, if_pos h3, Int.toNat_natCast, List.getElem?_eq_getElem hi', bd_some]
    rw [wrap_i64 (n := left - (a[i].1.length : Int)) (by omega) (by omega), wrap_succ (by omega)]
    by_cases hc : left - (a[i].1.length : Int) < 0
    · rw [if_pos hc]
      exact ⟨-1, by simp, fun h => by omega⟩
    · rw [if_neg hc]
      simp only [bd_some]
      rw [if_neg hc]
      obtain ⟨r, h4, h5⟩ := ih (i + 1) f (left - (a[i].1.length : Int)) (by omega) (by omega) (by omega) (by omega)
      refine ⟨r, h4, fun hr => ?_⟩
      obtain ⟨h6, h7⟩ := h5 hr
      refine ⟨by omega, fun j hj hij => ?_⟩
      by_cases e : j = i
      · subst e; omega
      · have := h7 j hj (by omega); omega

theorem szArrS_is (k : Nat) (hk : 1048576 < k) (a : List ArrT) (ha : a.length ≤ 140737488351232) (hs : ∀ x ∈ a, x.1.length ≤ 140737488351232) (left : Int) (h0 : 0 ≤ left) (h1 : left ≤ 1048576) :
    ∃ r : Int, laws_szArrS k (a, left, ()) = some ((r, ()), ((), (), ())) ∧ (0 ≤ r → r ≤ left ∧ a.length ≤ 1048576 ∧ ∀ x ∈ a, x.1.length ≤ 1048576) := by
  unfold laws_szArrS
  simp only [br_dec]
  rw [wrap_i64 (by omega) (by omega)]
  by_cases hc : left - (a.length : Int) < 0
  · rw [if_pos hc]
    exact ⟨-1, rfl, fun h => by omega⟩
  · rw [if_neg hc]
    obtain ⟨r, h4, h5⟩ := szArrS_loop k a (by omega) (fun x hx => by have := hs x hx; omega) a.length 0 k (left - (a.length : Int)) (by omega) (by omega) (by omega) (by omega)
    refine ⟨r, h4, fun hr => ?_⟩
    obtain ⟨h6, h7⟩ := h5 hr
    refine ⟨by omega, by omega, fun x hx => ?_⟩
    obtain ⟨j, hj, rfl⟩ := List.mem_iff_getElem.1 hx
    have := h7 j hj (by omega)
    omega

/-- What the guard grants of a declaration. -/
structure DSmall (d : DeclT) : Prop where
  n0 : d.1.length ≤ 1048576
  s0 : ∀ x ∈ d.1, x.length ≤ 1048576
  n1 : d.2.1.length ≤ 1048576
  s1 : ∀ x ∈ d.2.1, x.length ≤ 1048576
  n2 : d.2.2.1.length ≤ 1048576
  s2 : ∀ x ∈ d.2.2.1, x.1.length ≤ 1048576

abbrev declKd : Kd := .cons (.sl false .str) (.cons (.sl false .str) (.cons (.sl false (.cons .str (.cons (.int .i64) .nil))) .nil))

theorem szDecl_is (k : Nat) (hk : 1048576 < k) (d : DeclT) (hw : declKd.WF d) : ∃ r : Int, laws_szDecl k (d, 1048576, ()) = some ((r, ()), ((), (), ())) ∧ r ≤ 1048576 ∧ (0 ≤ r → DSmall d) := by
  obtain ⟨⟨a1, a2⟩, ⟨b1, b2⟩, ⟨c1, c2⟩, _⟩ := hw
  obtain ⟨r1, e1, p1⟩ := szStringS_is k hk d.1 a1 (fun x hx => a2 x hx) 1048576 (by omega) (by omega)
  unfold laws_szDecl
  simp only [e1, bd_some, br_dec]
  by_cases h1 : r1 < 0
  · rw [if_pos h1]; exact ⟨-1, rfl, by omega, fun h => by omega⟩
  rw [if_neg h1]
  obtain ⟨q1, q2, q3⟩ := p1 (by omega)
  obtain ⟨r2, e2, p2⟩ := szStringS_is k hk d.2.1 b1 (fun x hx => b2 x hx) r1 (by omega) (by omega)
  simp only [e2, bd_some]
  by_cases h2 : r2 < 0
  · rw [if_pos h2]; exact ⟨-1, rfl, by omega, fun h => by omega⟩
  rw [if_neg h2]
  obtain ⟨u1, u2, u3⟩ := p2 (by omega)
  obtain ⟨r3, e3, p3⟩ := szArrS_is k hk d.2.2.1 c1 (fun x hx => (c2 x hx).1) r2 (by omega) (by omega)
  simp only [e3, bd_some]
  by_cases h3 : r3 < 0
  · rw [if_pos h3]; exact ⟨-1, rfl, by omega, fun h => by omega⟩
  rw [if_neg h3]
  obtain ⟨v1, v2, v3⟩ := p3 (by omega)
  exact ⟨r3, rfl, by omega, fun _ => ⟨q2, q3, u2, u3, v2, v3⟩⟩

/-! ### Copies -/

theorem toStringS_is (k : Nat) (a : Names) (ha : a.length ≤ 1048576) (hk : 1048576 < k) : laws_toStringS k (a, ()) = some ((a, ()), ((), ())) := by
  unfold laws_toStringS
  have h : 0 ≤ (a.length : Int) ∧ (a.length : Int) ≤ (a.length : Int) ∧ (a.length : Int) * 16 ≤ maxBytes := by simp [maxBytes]; omega
  simp only [br_dec, if_pos h, Int.toNat_natCast]
  have key := iter_for (b := laws_toStringS.l0 k) (fun i => (a, a.take i ++ List.replicate (a.length - i) (Kd.z .str), (i : Int), ())) a.length (r := some ((a, ()), ((), ()))) (fun G i hi => by
    have h2 : ((i : Int) < (a.length : Int)) := by omega
    have h3 : (0 : Int) ≤ (i : Int) := by omega
    have h4 : 0 ≤ (i : Int) ∧ (i : Int) < ((a.take i ++ List.replicate (a.length - i) (Kd.z .str)).length : Int) := by simp; omega
    simp only [laws_toStringS.l0, br_dec, if_pos h2, if_pos h3, if_pos h4, Int.toNat_natCast, List.getElem?_eq_getElem hi, get_next a _ hi, bd_some]
    rw [set_next a _ hi, wrap_succ (by omega)]) (fun G => by
    have h2 : ¬ ((a.length : Int) < (a.length : Int)) := by omega
    simp only [laws_toStringS.l0, br_dec, if_neg h2]
    simp) (f := k) (by omega)
  simpa using key

theorem toArrS_is (k : Nat) (a : List ArrT) (ha : a.length ≤ 1048576) (hk : 1048576 < k) : laws_toArrS k (a, ()) = some ((a, ()), ((), ())) := by
  unfold laws_toArrS
  have h : 0 ≤ (a.length : Int) ∧ (a.length : Int) ≤ (a.length : Int) ∧ (a.length : Int) * 24 ≤ maxBytes := by simp [maxBytes]; omega
  simp only [br_dec, if_pos h, Int.toNat_natCast]
  generalize hz : (Kd.z (.cons .str (.cons (.int .i64) .nil)) : ArrT) = z
  have key := iter_for (b := laws_toArrS.l0 k) (fun i => (a, a.take i ++ List.replicate (a.length - i) z, (i : Int), ())) a.length (r := some ((a, ()), ((), ()))) (fun G i hi => by
    have h2 : ((i : Int) < (a.length : Int)) := by omega
    have h3 : (0 : Int) ≤ (i : Int) := by omega
    have h4 : 0 ≤ (i : Int) ∧ (i : Int) < ((a.take i ++ List.replicate (a.length - i) z).length : Int) := by simp; omega
    simp only [laws_toArrS.l0, laws_toArr, br_dec, if_pos h2, if_pos h3, if_pos h4, Int.toNat_natCast, List.getElem?_eq_getElem hi, get_next a _ hi, bd_some]
    rw [set_next a _ hi, wrap_succ (by omega)]) (fun G => by
    have h2 : ¬ ((a.length : Int) < (a.length : Int)) := by omega
    simp only [laws_toArrS.l0, br_dec, if_neg h2]
    simp) (f := k) (by omega)
  simpa using key

theorem toDecl_is (k : Nat) (d : DeclT) (hd : DSmall d) (hk : 1048576 < k) : laws_toDecl k (d, ()) = some ((d, ()), ((), ())) := by
  unfold laws_toDecl
  simp only [toStringS_is k _ hd.n0 hk, toStringS_is k _ hd.n1 hk, toArrS_is k _ hd.n2 hk, bd_some]

/-! ### Comparisons -/

theorem eqStringS_is (k : Nat) (a : Names) (ha : a.length ≤ 1048576) (hk : 1048576 < k) : laws_eqStringS k (a, a, ()) = some ((true, ()), ((), (), ())) := by
  unfold laws_eqStringS
  have hb : ((a.length : Int) != (a.length : Int)) = false := by simp
  simp only [hb, br_false]
  exact iter_for (b := laws_eqStringS.l0 k) (fun i => (a, a, (i : Int), ())) a.length (fun G i hi => by
    have h2 : ((i : Int) < (a.length : Int)) := by omega
    have h3 : (0 : Int) ≤ (i : Int) := by omega
    simp only [laws_eqStringS.l0, br_dec, if_pos h2, if_pos h3, Int.toNat_natCast, List.getElem?_eq_getElem hi, bd_some, BEq.rfl, Bool.not_true, br_false]
    rw [wrap_succ (by omega)]) (fun G => by
    have h2 : ¬ ((a.length : Int) < (a.length : Int)) := by omega
    simp only [laws_eqStringS.l0, br_dec, if_neg h2]) (by omega)

theorem eqArrS_is (k : Nat) (a : List ArrT) (ha : a.length ≤ 1048576) (hk : 1048576 < k) : laws_eqArrS k (a, a, ()) = some ((true, ()), ((), (), ())) := by
  unfold laws_eqArrS
  have hb : ((a.length : Int) != (a.length : Int)) = false := by simp
  simp only [hb, br_false]
  exact iter_for (b := laws_eqArrS.l0 k) (fun i => (a, a, (i : Int), ())) a.length (fun G i hi => by
    have h2 : ((i : Int) < (a.length : Int)) := by omega
    have h3 : (0 : Int) ≤ (i : Int) := by omega
    simp only [laws_eqArrS.l0, laws_eqArr, br_dec, if_pos h2, if_pos h3, Int.toNat_natCast, List.getElem?_eq_getElem hi, bd_some, BEq.rfl, bne_self_eq_false, Bool.not_true, br_false]
    rw [wrap_succ (by omega)]) (fun G => by
    have h2 : ¬ ((a.length : Int) < (a.length : Int)) := by omega
    simp only [laws_eqArrS.l0, br_dec, if_neg h2]) (by omega)

theorem eqDecl_is (k : Nat) (d : DeclT) (hd : DSmall d) (hk : 1048576 < k) : laws_eqDecl k (d, d, ()) = some ((true, ()), ((), (), ())) := by
  unfold laws_eqDecl
  simp only [eqStringS_is k _ hd.n0 hk, eqStringS_is k _ hd.n1 hk, eqArrS_is k _ hd.n2 hk, bd_some, Bool.not_true, br_false]
end Go.Pev.F
