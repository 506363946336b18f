/-
  Which names are right: the program's test.
-/
import Derived.Test.YtgajbbadidobfaaDoorPureDeclOk
set_option linter.unusedVariables false
set_option linter.unusedSimpArgs false
namespace Go.Pev.F

theorem take_flat {l : List Names} {i : Nat} (hi : i < l.length) : (l.take (i + 1)).flatten = (l.take i).flatten ++ l[i] := by
  rw [← List.take_append_getElem hi, List.flatten_append]; simp

theorem flat_le (l : List Names) (i : Nat) : (l.take i).flatten.length ≤ l.flatten.length := by
  conv => rhs; rw [← List.take_append_drop i l, List.flatten_append, List.length_append]
  omega

theorem concat_is (k : Nat) (l : List Names) (hl : l.length < k) (hk : k ≤ 4611686018427387903) (hb : l.flatten.length ≤ 4194304) : slices_Concat_string_string k (l, ()) = some ((l.flatten, ()), ((), ())) := by
  unfold slices_Concat_string_string
  have h2 : iter (slices_Concat_string_string.l2 k) k ([], l, (l.length : Int), 0, ()) = some ((l.flatten, ()), ((), ())) := by
    have h := iter_for (b := slices_Concat_string_string.l2 k) (fun i => ((l.take i).flatten, l, (l.length : Int), (i : Int), ())) l.length (r := some ((l.flatten, ()), ((), ()))) (fun G i hi => by
      have h2 : ((i : Int) < (l.length : Int)) := by omega
      have h3 : (0 : Int) ≤ (i : Int) := by omega
      have h5 := flat_le l (i + 1)
      rw [take_flat hi, List.length_append] at h5
      have h4 : ((l.take i).flatten.length + l[i].length) * 16 ≤ maxBytes := by simp only [maxBytes]; omega
      simp only [slices_Concat_string_string.l2, br_dec, if_pos h2, if_pos h3, Int.toNat_natCast, List.getElem?_eq_getElem hi, bd_some, if_pos h4]
      rw [wrap_succ (by omega), take_flat hi]) (fun G => by
      have h2 : ¬ ((l.length : Int) < (l.length : Int)) := by omega
      simp only [slices_Concat_string_string.l2, br_dec, if_neg h2, List.take_length]) hl
    exact h
  have h := iter_for (b := slices_Concat_string_string.l0 k) (fun i => (l, ((l.take i).flatten.length : Int), l, (l.length : Int), (i : Int), ())) l.length (r := some ((l.flatten, ()), ((), ()))) (fun G i hi => by
    have h2 : ((i : Int) < (l.length : Int)) := by omega
    have h3 : (0 : Int) ≤ (i : Int) := by omega
    have h5 := flat_le l (i + 1)
    have h6 : (l.take (i + 1)).flatten.length = (l.take i).flatten.length + l[i].length := by rw [take_flat hi, List.length_append]
    have e : IntKind.wrap .i64 (((l.take i).flatten.length : Int) + (l[i].length : Int)) = ((l.take (i + 1)).flatten.length : Int) := by
      rw [wrap_i64 (by omega) (by omega), h6]; omega
    have h4 : ¬ (((l.take (i + 1)).flatten.length : Int) < 0) := by omega
    simp only [slices_Concat_string_string.l0, br_dec, if_pos h2, if_pos h3, Int.toNat_natCast, List.getElem?_eq_getElem hi, bd_some, e, if_neg h4]
    rw [wrap_succ (by omega)]) (fun G => by
    have h3 : ¬ ((l.length : Int) < (l.length : Int)) := by omega
    have h4 : 0 ≤ (l.flatten.length : Int) ∧ (l.flatten.length : Int) * ((16 : Nat) : Int) ≤ 140737488355328 := by omega
    simp only [slices_Concat_string_string.l0, br_dec, if_neg h3, List.take_length, Lb.slices_Grow_string_string, Grow, if_pos h4, bd_some]
    exact h2) hl
  exact h

theorem names_is (k : Nat) (hk : 4194304 < k) (hk2 : k ≤ 4611686018427387903) (d : DeclT) (hd : DSmall d) : impl_Decl_names k (d, ()) = some ((namesOf d, ()), ((), ())) := by
  have n0 := hd.n0
  have n1 := hd.n1
  have n2 := hd.n2
  have e : ([d.1, d.2.1] : List Names).flatten = d.1 ++ d.2.1 := by simp
  unfold impl_Decl_names
  have hc := concat_is k [d.1, d.2.1] (by show 2 < k; omega) hk2 (by rw [e]; simp; omega)
  rw [e] at hc
  simp only [hc, bd_some]
  have h := iter_for (b := impl_Decl_names.l0 k) (fun i => ((d.1 ++ d.2.1) ++ (d.2.2.1.take i).map (·.1), d.2.2.1, (d.2.2.1.length : Int), (i : Int), ())) d.2.2.1.length (r := some ((namesOf d, ()), ((), ()))) (fun G i hi => by
    have h2 : ((i : Int) < (d.2.2.1.length : Int)) := by omega
    have h3 : (0 : Int) ≤ (i : Int) := by omega
    have h4 : ((((d.1 ++ d.2.1) ++ (d.2.2.1.take i).map (·.1)).length) + ([d.2.2.1[i].1] : List (List UInt8)).length) * 16 ≤ maxBytes := by simp [maxBytes]; omega
    simp only [impl_Decl_names.l0, br_dec, if_pos h2, if_pos h3, Int.toNat_natCast, List.getElem?_eq_getElem hi, bd_some, if_pos h4]
    rw [wrap_succ (by omega), ← List.take_append_getElem hi, List.map_append, List.append_assoc (bs := List.map _ _)]
    rfl) (fun G => by
    have h2 : ¬ ((d.2.2.1.length : Int) < (d.2.2.1.length : Int)) := by omega
    simp only [impl_Decl_names.l0, br_dec, if_neg h2, List.take_length]
    rfl) (f := k) (by omega)
  simp only [List.take_zero, List.map_nil, List.append_nil] at h
  exact h

theorem areAllArr_is (k : Nat) (l : List ArrT) (hl : l.length ≤ 1048576) (hk : 4194304 < k) : impl_areAll_impl_Arr k (l, (()), ()) = some ((arrsOk l, ()), ((), (()), ())) := by
  obtain ⟨n, h1, h2⟩ := iter_find (b := slices_IndexFunc_impl_Arr_impl_Arr.l0 k) (fun i => (l, (((()), ()), ()), (l.length : Int), (i : Int), ())) l (fun a => !decide (1 ≤ a.2.1 ∧ a.2.1 ≤ 16)) (o := ((), (((()), ()), ()), ())) (fun G i hi => by
    have h2 : ((i : Int) < (l.length : Int)) := by omega
    have h3 : (0 : Int) ≤ (i : Int) := by omega
    simp only [slices_IndexFunc_impl_Arr_impl_Arr.l0, impl_areAll_impl_Arr_1, impl_Decl_isRight_1, within_is, br_dec, if_pos h2, if_pos h3, Int.toNat_natCast, List.getElem?_eq_getElem hi, bd_some]
    rw [wrap_succ (by omega)]
    cases decide (1 ≤ l[i].2.1 ∧ l[i].2.1 ≤ 16) <;> simp) (fun G => by
    have h2 : ¬ ((l.length : Int) < (l.length : Int)) := by omega
    simp only [slices_IndexFunc_impl_Arr_impl_Arr.l0, br_dec, if_neg h2]) (f := k) (by omega)
  unfold impl_areAll_impl_Arr slices_ContainsFunc_impl_Arr_impl_Arr slices_IndexFunc_impl_Arr_impl_Arr
  have h1' : iter (slices_IndexFunc_impl_Arr_impl_Arr.l0 k) k (l, (((()), ()), ()), (l.length : Int), 0, ()) = some ((n, ()), ((), (((()), ()), ()), ())) := h1
  simp only [h1', bd_some, h2]
  rfl

theorem implDeclOk_is (k : Nat) (hk : 4194304 < k) (hk2 : k ≤ 4611686018427387903) (d : DeclT) (hd : DSmall d) : impl_Decl_isRight k (d, ()) = some ((declOk d, ()), ((), ())) := by
  have n2 := hd.n2
  obtain ⟨hn, hs⟩ := namesOf_small hd
  unfold impl_Decl_isRight
  simp only [names_is k hk hk2 d hd, bd_some]
  have h := iter_range (b := impl_Decl_isRight.l0 k) (fun i => ((d.1, d.2.1, d.2.2.1, ()), namesOf d, namesOf d, ((namesOf d).length : Int), (i : Int), ())) (namesOf d).length (badAt (namesOf d)) (rf := some ((false, ()), ((), ()))) (r := some ((decide (d.1.length ≤ 5 ∧ d.2.1.length ≤ 3 ∧ d.2.2.1.length ≤ 2) && arrsOk d.2.2.1, ()), ((), ()))) (fun G i hi => by
    have h2 : ((i : Int) < ((namesOf d).length : Int)) := by omega
    have h3 : (0 : Int) ≤ (i : Int) := by omega
    have h4 : (0 : Int) ≤ (i : Int) ∧ (i : Int) ≤ ((namesOf d).length : Int) := by omega
    have hg : (namesOf d).getD i [] = (namesOf d)[i] := by simp [List.getD, List.getElem?_eq_getElem hi]
    simp only [impl_Decl_isRight.l0, br_dec, if_pos h2, if_pos h3, if_pos h4, Int.toNat_natCast, List.getElem?_eq_getElem hi, bd_some, isName_is k hk (namesOf d)[i] (hs _ (List.getElem_mem _)), slicesContains_is k ((namesOf d).take i) (namesOf d)[i] (by simp; omega) hk]
    rw [wrap_succ (by omega), badAt, hg]
    cases nameOk (namesOf d)[i] <;> cases ((namesOf d).take i).contains (namesOf d)[i] <;> simp) (fun G => by
    have h2 : ¬ (((namesOf d).length : Int) < ((namesOf d).length : Int)) := by omega
    simp only [impl_Decl_isRight.l0, br_dec, if_neg h2, areAllArr_is k d.2.2.1 hd.n2 hk, bd_some]
    by_cases c0 : d.1.length ≤ 5
    · rw [if_pos (by omega)]
      by_cases c1 : d.2.1.length ≤ 3
      · rw [if_pos (by omega)]
        by_cases c2 : d.2.2.1.length ≤ 2
        · rw [if_pos (by omega)]
          simp [c0, c1, c2]
        · rw [if_neg (by omega)]
          simp [c2]
      · rw [if_neg (by omega)]
        simp [c1]
    · rw [if_neg (by omega)]
      simp [c0]) (f := k) (by omega)
  refine Eq.trans h ?_
  unfold declOk namesOk
  cases (List.range (namesOf d).length).any (badAt (namesOf d)) <;> simp
end Go.Pev.F
