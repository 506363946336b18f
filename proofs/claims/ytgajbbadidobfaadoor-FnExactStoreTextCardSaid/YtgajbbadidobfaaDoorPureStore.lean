/-
  A store's text: sizes, copies, comparisons; which are right.
-/
import Derived.Test.YtgajbbadidobfaaDoorPureJoined
set_option linter.unusedVariables false
set_option linter.unusedSimpArgs false
namespace Go.Pev.F
open Go.Lib (itoa join)

abbrev StoreT := List Int × List Bool × List (List Int) × Unit

structure SSmall (s : StoreT) : Prop where
  n0 : s.1.length ≤ 1048576
  n1 : s.2.1.length ≤ 1048576
  n2 : s.2.2.1.length ≤ 1048576
  m2 : ∀ x ∈ s.2.2.1, x.length ≤ 1048576

abbrev storeKd : Kd := .cons (.sl false (.int .i64)) (.cons (.sl false .bool) (.cons (.sl false (.sl false (.int .i64))) .nil))

theorem szInt64S_is (k : Nat) (a : List Int) (ha : a.length ≤ 140737488351232) (left : Int) (h0 : 0 ≤ left) (h1 : left ≤ 1048576) :
    ∃ r : Int, laws_szInt64S k (a, left, ()) = some ((r, ()), ((), (), ())) ∧ (0 ≤ r → r = left - a.length ∧ a.length ≤ 1048576) := by
  unfold laws_szInt64S
  simp only [br_dec]
  rw [wrap_i64 (by omega) (by omega)]
  by_cases hc : left - (a.length : Int) < 0
  · rw [if_pos hc]; exact ⟨-1, rfl, fun h => by omega⟩
  · rw [if_neg hc]; exact ⟨_, rfl, fun h => by omega⟩

theorem szBoolS_is (k : Nat) (a : List Bool) (ha : a.length ≤ 140737488351232) (left : Int) (h0 : 0 ≤ left) (h1 : left ≤ 1048576) :
    ∃ r : Int, laws_szBoolS k (a, left, ()) = some ((r, ()), ((), (), ())) ∧ (0 ≤ r → r = left - a.length ∧ a.length ≤ 1048576) := by
  unfold laws_szBoolS
  simp only [br_dec]
  rw [wrap_i64 (by omega) (by omega)]
  by_cases hc : left - (a.length : Int) < 0
  · rw [if_pos hc]; exact ⟨-1, rfl, fun h => by omega⟩
  · rw [if_neg hc]; exact ⟨_, rfl, fun h => by omega⟩

theorem szInt64SS_loop (k : Nat) (a : List (List Int)) (ha : a.length ≤ 4611686018427387903) (hs : ∀ x ∈ a, x.length ≤ 140737488351232) : ∀ (n i f : Nat) (left : Int), i + n = a.length → n < f → 0 ≤ left → left ≤ 1048576 →
    ∃ r : Int, iter (laws_szInt64SS.l0 k) f (a, left, (i : Int), ()) = some ((r, ()), ((), (), ())) ∧ (0 ≤ r → r ≤ left ∧ ∀ j (hj : j < a.length), i ≤ j → (a[j].length : Int) ≤ left) := by
  intro n
  induction n with
  | zero =>
    intro i f left hi hf h0 h1
    obtain ⟨f, rfl⟩ : ∃ g, f = g + 1 := ⟨f - 1, by omega⟩
    refine ⟨left, ?_, fun _ => ⟨Int.le_refl _, fun j hj h => by omega⟩⟩
    rw [iter_succ]
    have : ¬ ((i : Int) < (a.length : Int)) := by omega
    simp only [laws_szInt64SS.l0, br_dec, if_neg this]
  | succ n ih =>
    intro i f left hi hf h0 h1
    obtain ⟨f, rfl⟩ : ∃ g, f = g + 1 := ⟨f - 1, by omega⟩
    have hi' : i < a.length := by omega
    have h2 : ((i : Int) < (a.length : Int)) := by omega
    have h3 : (0 : Int) ≤ (i : Int) := by omega
    obtain ⟨r1, e1, p1⟩ := szInt64S_is k a[i] (hs _ (List.getElem_mem _)) left h0 h1
    rw [iter_succ]
    simp only [laws_szInt64SS.l0, br_dec, if_pos h2, if_pos h3, Int.toNat_natCast, List.getElem?_eq_getElem hi', bd_some, e1]
    rw [wrap_succ (by omega)]
    by_cases hc : r1 < 0
    · rw [if_pos hc]
      exact ⟨-1, rfl, fun h => by omega⟩
    · rw [if_neg hc]
      obtain ⟨q1, q2⟩ := p1 (by omega)
      obtain ⟨r, h4, h5⟩ := ih (i + 1) f r1 (by omega) (by omega) (by omega) (by omega)
      refine ⟨r, h4, fun hr => ?_⟩
      obtain ⟨h6, h7⟩ := h5 hr
      refine ⟨by omega, fun j hj hij => ?_⟩
      by_cases e : j = i
      · subst e; omega
      · have := h7 j hj (by omega); omega

theorem szInt64SS_is (k : Nat) (hk : 1048576 < k) (a : List (List Int)) (ha : a.length ≤ 140737488351232) (hs : ∀ x ∈ a, x.length ≤ 140737488351232) (left : Int) (h0 : 0 ≤ left) (h1 : left ≤ 1048576) :
    ∃ r : Int, laws_szInt64SS k (a, left, ()) = some ((r, ()), ((), (), ())) ∧ (0 ≤ r → r ≤ left ∧ a.length ≤ 1048576 ∧ ∀ x ∈ a, x.length ≤ 1048576) := by
  unfold laws_szInt64SS
  simp only [br_dec]
  rw [wrap_i64 (by omega) (by omega)]
  by_cases hc : left - (a.length : Int) < 0
  · rw [if_pos hc]
    exact ⟨-1, rfl, fun h => by omega⟩
  · rw [if_neg hc]
    obtain ⟨r, h4, h5⟩ := szInt64SS_loop k a (by omega) hs a.length 0 k (left - (a.length : Int)) (by omega) (by omega) (by omega) (by omega)
    refine ⟨r, h4, fun hr => ?_⟩
    obtain ⟨h6, h7⟩ := h5 hr
    refine ⟨by omega, by omega, fun x hx => ?_⟩
    obtain ⟨j, hj, rfl⟩ := List.mem_iff_getElem.1 hx
    have := h7 j hj (by omega)
    omega

theorem szStore_is (k : Nat) (hk : 1048576 < k) (s : StoreT) (hw : storeKd.WF s) (left : Int) (hl0 : 0 ≤ left) (hl1 : left ≤ 1048576) : ∃ r : Int, laws_szStore k (s, left, ()) = some ((r, ()), ((), (), ())) ∧ (0 ≤ r → SSmall s) := by
  obtain ⟨⟨a1, a2⟩, ⟨b1, b2⟩, ⟨c1, c2⟩, _⟩ := hw
  obtain ⟨r1, e1, p1⟩ := szInt64S_is k s.1 a1 left hl0 hl1
  unfold laws_szStore
  simp only [e1, bd_some, br_dec]
  by_cases h1 : r1 < 0
  · rw [if_pos h1]; exact ⟨-1, rfl, fun h => by omega⟩
  rw [if_neg h1]
  obtain ⟨q1, q2⟩ := p1 (by omega)
  obtain ⟨r2, e2, p2⟩ := szBoolS_is k s.2.1 b1 r1 (by omega) (by omega)
  simp only [e2, bd_some]
  by_cases h2 : r2 < 0
  · rw [if_pos h2]; exact ⟨-1, rfl, fun h => by omega⟩
  rw [if_neg h2]
  obtain ⟨u1, u2⟩ := p2 (by omega)
  obtain ⟨r3, e3, p3⟩ := szInt64SS_is k hk s.2.2.1 c1 (fun x hx => (c2 x hx).1) r2 (by omega) (by omega)
  simp only [e3, bd_some]
  by_cases h3 : r3 < 0
  · rw [if_pos h3]; exact ⟨-1, rfl, fun h => by omega⟩
  rw [if_neg h3]
  obtain ⟨v1, v2, v3⟩ := p3 (by omega)
  exact ⟨r3, rfl, fun _ => ⟨q2, u2, v2, v3⟩⟩

/-! ### Copies -/

theorem toInt64S_is (k : Nat) (a : List Int) (ha : a.length ≤ 1048576) (hk : 1048576 < k) : laws_toInt64S k (a, ()) = some ((a, ()), ((), ())) := by
  unfold laws_toInt64S
  have h : 0 ≤ (a.length : Int) ∧ (a.length : Int) ≤ (a.length : Int) ∧ (a.length : Int) * 8 ≤ maxBytes := by simp [maxBytes]; omega
  simp only [br_dec, if_pos h, Int.toNat_natCast]
  generalize hz : (Kd.z (.int .i64) : Int) = z
  have key := iter_for (b := laws_toInt64S.l0 k) (fun i => (a, a.take i ++ List.replicate (a.length - i) z, (i : Int), ())) a.length (r := some ((a, ()), ((), ()))) (fun G i hi => by
    have h2 : ((i : Int) < (a.length : Int)) := by omega
    have h3 : (0 : Int) ≤ (i : Int) := by omega
    have h4 : 0 ≤ (i : Int) ∧ (i : Int) < ((a.take i ++ List.replicate (a.length - i) z).length : Int) := by simp; omega
    simp only [laws_toInt64S.l0, br_dec, if_pos h2, if_pos h3, if_pos h4, Int.toNat_natCast, List.getElem?_eq_getElem hi, get_next a _ hi, bd_some]
    rw [set_next a _ hi, wrap_succ (by omega)]) (fun G => by
    have h2 : ¬ ((a.length : Int) < (a.length : Int)) := by omega
    simp only [laws_toInt64S.l0, br_dec, if_neg h2]
    simp) (f := k) (by omega)
  simpa using key

theorem toBoolS_is (k : Nat) (a : List Bool) (ha : a.length ≤ 1048576) (hk : 1048576 < k) : laws_toBoolS k (a, ()) = some ((a, ()), ((), ())) := by
  unfold laws_toBoolS
  have h : 0 ≤ (a.length : Int) ∧ (a.length : Int) ≤ (a.length : Int) ∧ (a.length : Int) * 1 ≤ maxBytes := by simp [maxBytes]; omega
  simp only [br_dec, if_pos h, Int.toNat_natCast]
  generalize hz : (Kd.z .bool : Bool) = z
  have key := iter_for (b := laws_toBoolS.l0 k) (fun i => (a, a.take i ++ List.replicate (a.length - i) z, (i : Int), ())) a.length (r := some ((a, ()), ((), ()))) (fun G i hi => by
    have h2 : ((i : Int) < (a.length : Int)) := by omega
    have h3 : (0 : Int) ≤ (i : Int) := by omega
    have h4 : 0 ≤ (i : Int) ∧ (i : Int) < ((a.take i ++ List.replicate (a.length - i) z).length : Int) := by simp; omega
    simp only [laws_toBoolS.l0, br_dec, if_pos h2, if_pos h3, if_pos h4, Int.toNat_natCast, List.getElem?_eq_getElem hi, get_next a _ hi, bd_some]
    rw [set_next a _ hi, wrap_succ (by omega)]) (fun G => by
    have h2 : ¬ ((a.length : Int) < (a.length : Int)) := by omega
    simp only [laws_toBoolS.l0, br_dec, if_neg h2]
    simp) (f := k) (by omega)
  simpa using key

theorem toInt64SS_is (k : Nat) (a : List (List Int)) (ha : a.length ≤ 1048576) (hs : ∀ x ∈ a, x.length ≤ 1048576) (hk : 1048576 < k) : laws_toInt64SS k (a, ()) = some ((a, ()), ((), ())) := by
  unfold laws_toInt64SS
  have h : 0 ≤ (a.length : Int) ∧ (a.length : Int) ≤ (a.length : Int) ∧ (a.length : Int) * 24 ≤ maxBytes := by simp [maxBytes]; omega
  simp only [br_dec, if_pos h, Int.toNat_natCast]
  generalize hz : (Kd.z (.sl false (.int .i64)) : List Int) = z
  have key := iter_for (b := laws_toInt64SS.l0 k) (fun i => (a, a.take i ++ List.replicate (a.length - i) z, (i : Int), ())) a.length (r := some ((a, ()), ((), ()))) (fun G i hi => by
    have h2 : ((i : Int) < (a.length : Int)) := by omega
    have h3 : (0 : Int) ≤ (i : Int) := by omega
    have h4 : 0 ≤ (i : Int) ∧ (i : Int) < ((a.take i ++ List.replicate (a.length - i) z).length : Int) := by simp; omega
    simp only [laws_toInt64SS.l0, br_dec, if_pos h2, if_pos h3, if_pos h4, Int.toNat_natCast, List.getElem?_eq_getElem hi, get_next a _ hi, bd_some, toInt64S_is k a[i] (hs _ (List.getElem_mem _)) hk]
    rw [set_next a _ hi, wrap_succ (by omega)]) (fun G => by
    have h2 : ¬ ((a.length : Int) < (a.length : Int)) := by omega
    simp only [laws_toInt64SS.l0, br_dec, if_neg h2]
    simp) (f := k) (by omega)
  simpa using key

theorem toStore_is (k : Nat) (s : StoreT) (hs : SSmall s) (hk : 1048576 < k) : laws_toStore k (s, ()) = some ((s, ()), ((), ())) := by
  unfold laws_toStore
  simp only [toInt64S_is k _ hs.n0 hk, toBoolS_is k _ hs.n1 hk, toInt64SS_is k _ hs.n2 hs.m2 hk, bd_some]

/-! ### Comparisons -/

theorem eqInt64S_is (k : Nat) (a : List Int) (ha : a.length ≤ 1048576) (hk : 1048576 < k) : laws_eqInt64S k (a, a, ()) = some ((true, ()), ((), (), ())) := by
  unfold laws_eqInt64S
  have hb : ((a.length : Int) != (a.length : Int)) = false := by simp
  simp only [hb, br_false]
  exact iter_for (b := laws_eqInt64S.l0 k) (fun i => (a, a, (i : Int), ())) a.length (fun G i hi => by
    have h2 : ((i : Int) < (a.length : Int)) := by omega
    have h3 : (0 : Int) ≤ (i : Int) := by omega
    simp only [laws_eqInt64S.l0, br_dec, if_pos h2, if_pos h3, Int.toNat_natCast, List.getElem?_eq_getElem hi, bd_some, bne_self_eq_false, br_false]
    rw [wrap_succ (by omega)]) (fun G => by
    have h2 : ¬ ((a.length : Int) < (a.length : Int)) := by omega
    simp only [laws_eqInt64S.l0, br_dec, if_neg h2]) (by omega)

theorem eqBoolS_is (k : Nat) (a : List Bool) (ha : a.length ≤ 1048576) (hk : 1048576 < k) : laws_eqBoolS k (a, a, ()) = some ((true, ()), ((), (), ())) := by
  unfold laws_eqBoolS
  have hb : ((a.length : Int) != (a.length : Int)) = false := by simp
  simp only [hb, br_false]
  exact iter_for (b := laws_eqBoolS.l0 k) (fun i => (a, a, (i : Int), ())) a.length (fun G i hi => by
    have h2 : ((i : Int) < (a.length : Int)) := by omega
    have h3 : (0 : Int) ≤ (i : Int) := by omega
    simp only [laws_eqBoolS.l0, br_dec, if_pos h2, if_pos h3, Int.toNat_natCast, List.getElem?_eq_getElem hi, bd_some, BEq.rfl, Bool.not_true, br_false]
    rw [wrap_succ (by omega)]) (fun G => by
    have h2 : ¬ ((a.length : Int) < (a.length : Int)) := by omega
    simp only [laws_eqBoolS.l0, br_dec, if_neg h2]) (by omega)

theorem eqInt64SS_is (k : Nat) (a : List (List Int)) (ha : a.length ≤ 1048576) (hs : ∀ x ∈ a, x.length ≤ 1048576) (hk : 1048576 < k) : laws_eqInt64SS k (a, a, ()) = some ((true, ()), ((), (), ())) := by
  unfold laws_eqInt64SS
  have hb : ((a.length : Int) != (a.length : Int)) = false := by simp
  simp only [hb, br_false]
  exact iter_for (b := laws_eqInt64SS.l0 k) (fun i => (a, a, (i : Int), ())) a.length (fun G i hi => by
    have h2 : ((i : Int) < (a.length : Int)) := by omega
    have h3 : (0 : Int) ≤ (i : Int) := by omega
    simp only [laws_eqInt64SS.l0, br_dec, if_pos h2, if_pos h3, Int.toNat_natCast, List.getElem?_eq_getElem hi, bd_some, eqInt64S_is k a[i] (hs _ (List.getElem_mem _)) hk, Bool.not_true, br_false]
    rw [wrap_succ (by omega)]) (fun G => by
    have h2 : ¬ ((a.length : Int) < (a.length : Int)) := by omega
    simp only [laws_eqInt64SS.l0, br_dec, if_neg h2]) (by omega)

theorem eqStore_is (k : Nat) (s : StoreT) (hs : SSmall s) (hk : 1048576 < k) : laws_eqStore k (s, s, ()) = some ((true, ()), ((), (), ())) := by
  unfold laws_eqStore
  simp only [eqInt64S_is k _ hs.n0 hk, eqBoolS_is k _ hs.n1 hk, eqInt64SS_is k _ hs.n2 hs.m2 hk, bd_some, Bool.not_true, br_false]

/-! ### Which are right -/

def lensOk (d : DeclT) (s : StoreT) : Bool := ((s.1.length : Int) == (d.1.length : Int)) && (((s.2.1.length : Int) == (d.2.1.length : Int)) && ((s.2.2.1.length : Int) == (d.2.2.1.length : Int)))
def rowsOk (d : DeclT) (s : StoreT) : Bool := !(List.range s.2.2.1.length).any fun i => ((s.2.2.1.getD i []).length : Int) != (d.2.2.1.getD i ([], 0, ())).2.1
def storeOk (d : DeclT) (s : StoreT) : Bool := declOk d && (lensOk d s && rowsOk d s)

theorem lens_of {d : DeclT} {s : StoreT} (h : lensOk d s = true) : s.1.length = d.1.length ∧ s.2.1.length = d.2.1.length ∧ s.2.2.1.length = d.2.2.1.length := by
  simp only [lensOk, Bool.and_eq_true, beq_iff_eq] at h
  omega

theorem specRows (k : Nat) (hk : 4194304 < k) (d : DeclT) (s : StoreT) (hs : SSmall s) (hl : s.2.2.1.length = d.2.2.1.length) : iter (spec_StoreOk.l0 k) k ((d.1, d.2.1, d.2.2.1, ()), (s.1, s.2.1, s.2.2.1, ()), 0, ()) = some ((rowsOk d s, ()), ((), (), ())) := by
  have n2 := hs.n2
  have h := iter_range (b := spec_StoreOk.l0 k) (fun i => ((d.1, d.2.1, d.2.2.1, ()), (s.1, s.2.1, s.2.2.1, ()), (i : Int), ())) s.2.2.1.length (fun i => ((s.2.2.1.getD i []).length : Int) != (d.2.2.1.getD i ([], 0, ())).2.1) (rf := some ((false, ()), ((), (), ()))) (r := some ((true, ()), ((), (), ()))) (fun G i hi => by
    have hi2 : i < d.2.2.1.length := by omega
    have h2 : ((i : Int) < (s.2.2.1.length : Int)) := by omega
    have h3 : (0 : Int) ≤ (i : Int) := by omega
    have g1 : s.2.2.1.getD i [] = s.2.2.1[i] := by simp [List.getD, List.getElem?_eq_getElem hi]
    have g2 : d.2.2.1.getD i ([], 0, ()) = d.2.2.1[i] := by simp [List.getD, List.getElem?_eq_getElem hi2]
    simp only [spec_StoreOk.l0, br_dec, if_pos h2, if_pos h3, Int.toNat_natCast, List.getElem?_eq_getElem hi, List.getElem?_eq_getElem hi2, bd_some, g1, g2]
    rw [wrap_succ (by omega)]
    cases ((s.2.2.1[i].length : Int) != d.2.2.1[i].2.1) <;> simp) (fun G => by
    have h2 : ¬ ((s.2.2.1.length : Int) < (s.2.2.1.length : Int)) := by omega
    simp only [spec_StoreOk.l0, br_dec, if_neg h2]) (f := k) (by omega)
  refine Eq.trans h ?_
  unfold rowsOk
  cases (List.range s.2.2.1.length).any fun i => ((s.2.2.1.getD i []).length : Int) != (d.2.2.1.getD i ([], 0, ())).2.1 <;> rfl

theorem implRows (k : Nat) (hk : 4194304 < k) (d : DeclT) (s : StoreT) (hs : SSmall s) (hl : s.2.2.1.length = d.2.2.1.length) : iter (impl_Decl_isStore.l0 k) k ((s.1, s.2.1, s.2.2.1, ()), d.2.2.1, (d.2.2.1.length : Int), 0, ()) = some ((rowsOk d s, ()), ((), (), ())) := by
  have n2 := hs.n2
  have h := iter_range (b := impl_Decl_isStore.l0 k) (fun i => ((s.1, s.2.1, s.2.2.1, ()), d.2.2.1, (d.2.2.1.length : Int), (i : Int), ())) s.2.2.1.length (fun i => ((s.2.2.1.getD i []).length : Int) != (d.2.2.1.getD i ([], 0, ())).2.1) (rf := some ((false, ()), ((), (), ()))) (r := some ((true, ()), ((), (), ()))) (fun G i hi => by
    have hi2 : i < d.2.2.1.length := by omega
    have h2 : ((i : Int) < (d.2.2.1.length : Int)) := by omega
    have h3 : (0 : Int) ≤ (i : Int) := by omega
    have g1 : s.2.2.1.getD i [] = s.2.2.1[i] := by simp [List.getD, List.getElem?_eq_getElem hi]
    have g2 : d.2.2.1.getD i ([], 0, ()) = d.2.2.1[i] := by simp [List.getD, List.getElem?_eq_getElem hi2]
    simp only [impl_Decl_isStore.l0, impl_size_int64, br_dec, if_pos h2, if_pos h3, Int.toNat_natCast, List.getElem?_eq_getElem hi, List.getElem?_eq_getElem hi2, bd_some, g1, g2]
    rw [wrap_succ (by omega)]
    cases ((s.2.2.1[i].length : Int) != d.2.2.1[i].2.1) <;> simp) (fun G => by
    have h2 : ¬ ((s.2.2.1.length : Int) < (d.2.2.1.length : Int)) := by omega
    simp only [impl_Decl_isStore.l0, br_dec, if_neg h2]) (f := k) (by omega)
  refine Eq.trans h ?_
  unfold rowsOk
  cases (List.range s.2.2.1.length).any fun i => ((s.2.2.1.getD i []).length : Int) != (d.2.2.1.getD i ([], 0, ())).2.1 <;> rfl

theorem specStoreOk_is (k : Nat) (hk : 4194304 < k) (d : DeclT) (hd : DSmall d) (s : StoreT) (hs : SSmall s) : spec_StoreOk k (d, s, ()) = some ((storeOk d s, ()), ((), (), ())) := by
  unfold spec_StoreOk storeOk
  simp only [specDeclOk_is k hk d hd, bd_some]
  cases hdo : declOk d with
  | false => simp
  | true =>
    simp only [Bool.not_true, br_false, Bool.true_and]
    cases hl : lensOk d s with
    | true =>
      obtain ⟨l0, l1, l2⟩ := lens_of hl
      simp only [l0, l1, l2, bne_self_eq_false, br_false, Option.bind_some, Bool.true_and]
      exact specRows k hk d s hs l2
    | false =>
      unfold lensOk at hl
      unfold bne
      revert hl
      cases ((s.1.length : Int) == (d.1.length : Int)) <;> cases ((s.2.1.length : Int) == (d.2.1.length : Int)) <;> cases ((s.2.2.1.length : Int) == (d.2.2.1.length : Int)) <;> simp

theorem implStoreOk_is (k : Nat) (hk : 4194304 < k) (hk2 : k ≤ 4611686018427387903) (d : DeclT) (hd : DSmall d) (s : StoreT) (hs : SSmall s) : impl_StoreOk k (d, s, ()) = some ((storeOk d s, ()), ((), (), ())) := by
  unfold impl_StoreOk storeOk
  simp only [implDeclOk_is k hk hk2 d hd, bd_some]
  cases hdo : declOk d with
  | false => simp
  | true =>
    simp only [br_true, Bool.true_and]
    unfold impl_Decl_isStore
    cases hl : lensOk d s with
    | true =>
      obtain ⟨l0, l1, l2⟩ := lens_of hl
      have hr := implRows k hk d s hs l2
      simp only [l0, l1, l2, bne_self_eq_false, br_false, Option.bind_some, Bool.true_and]
      rw [hr]
      simp
    | false =>
      unfold lensOk at hl
      simp only [bne]
      revert hl
      cases ((s.1.length : Int) == (d.1.length : Int)) <;> cases ((s.2.1.length : Int) == (d.2.1.length : Int)) <;> cases ((s.2.2.1.length : Int) == (d.2.2.1.length : Int)) <;> simp
end Go.Pev.F
