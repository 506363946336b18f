/-
  A row's text: the program's is the reference's.
-/
import Derived.Test.YtimiagnkcjfdhaaGreatDoorK10
set_option linter.unusedSimpArgs false
set_option linter.unusedVariables false
set_option linter.unusedVariables false
set_option linter.unusedSimpArgs false
namespace Go.Pev.F
open Go.Lib (itoa join)

def entT (e : EntT) : List UInt8 := (itoa e.1 ++ [58]) ++ itoa e.2.1
def tokT (t : List EntT) : List UInt8 := if t.length = 0 then [45] else join (t.map entT) [32]

theorem entT_len {e : EntT} (h : entOk e = true) : (entT e).length ≤ 43 := by
  have hf := entOk_fits h
  have h1 := itoa_len e.1 (by omega) (by omega)
  have h2 := itoa_len e.2.1 (by omega) (by omega)
  simp [entT]; omega

theorem tok_fits {t : List EntT} (h : tokenOk t = true) : t.length ≤ 3 ∧ ∀ e ∈ t, entOk e = true := by
  simp only [tokenOk, Bool.and_eq_true, decide_eq_true_eq, List.all_eq_true] at h
  exact h

theorem tokT_len {t : List EntT} (h : tokenOk t = true) : (tokT t).length ≤ 200 := by
  obtain ⟨h1, h2⟩ := tok_fits h
  unfold tokT
  split
  · simp
  · refine Nat.le_trans (join_len [32] 43 (t.map entT) fun x hx => ?_) ?_
    · obtain ⟨e, he, rfl⟩ := List.mem_map.1 hx
      exact entT_len (h2 e he)
    · rw [List.length_map]
      exact Nat.le_trans (Nat.mul_le_mul_right _ h1) (by decide)

theorem tok_take {t : List EntT} (h : tokenOk t = true) (i : Nat) : (join ((t.take i).map entT) [32]).length ≤ 200 := by
  obtain ⟨h1, h2⟩ := tok_fits h
  refine Nat.le_trans (join_len [32] 43 ((t.take i).map entT) fun x hx => ?_) ?_
  · obtain ⟨e, he, rfl⟩ := List.mem_map.1 hx
    exact entT_len (h2 e (List.mem_of_mem_take he))
  · rw [List.length_map]
    exact Nat.le_trans (Nat.mul_le_mul_right _ (Nat.le_trans (by simp; omega : (t.take i).length ≤ t.length) h1)) (by decide)

theorem specTokT_is (k : Nat) (hk : 4194304 < k) (t : List EntT) (h : tokenOk t = true) : spec_TokenText k (t, ()) = some ((tokT t, ()), ((), ())) := by
  obtain ⟨h1, h2⟩ := tok_fits h
  unfold spec_TokenText
  simp only [specTokenOk_is k hk t, h, bd_some, Bool.not_true, br_false]
  have hh := iter_for (b := spec_TokenText.l0 k) (fun i => (t, (if i = 0 then [45] else join ((t.take i).map entT) [32]), (i : Int), ())) t.length (r := some ((tokT t, ()), ((), ()))) (fun G i hi => by
    have h3 : ((i : Int) < (t.length : Int)) := by omega
    have h4 : (0 : Int) ≤ (i : Int) := by omega
    have he := h2 t[i] (List.getElem_mem hi)
    have hf := entOk_fits he
    have i1 := itoa_len t[i].1 (by omega) (by omega)
    have i2 := itoa_len t[i].2.1 (by omega) (by omega)
    have b1 : (((itoa t[i].1).length + ([58] : List UInt8).length : Nat) : Int) ≤ maxInt64 := by simp only [List.length_cons, List.length_nil, maxInt64]; omega
    have b2 : (((itoa t[i].1 ++ [58]).length + (itoa t[i].2.1).length : Nat) : Int) ≤ maxInt64 := by simp only [List.length_append, List.length_cons, List.length_nil, maxInt64]; omega
    simp only [spec_TokenText.l0, br_dec, if_pos h3, if_pos h4, Int.toNat_natCast, List.getElem?_eq_getElem hi, bd_some, l1Dec_is k (by omega) t[i].1 (by omega) (by omega), if_pos b1, l1Dec_is k (by omega) t[i].2.1 (by omega) (by omega), if_pos b2, br_beq]
    rw [wrap_succ (by omega)]
    have hm : i < (t.map entT).length := by simpa using hi
    cases i with
    | zero =>
      have e := join_first (t.map entT) [32] hm
      rw [← List.map_take] at e
      simp only [List.getElem_map] at e
      rw [if_pos (by rfl), if_neg (by omega), e]
      rfl
    | succ j =>
      have e := join_step (t.map entT) [32] (i := j) (by simpa using hi)
      rw [← List.map_take, ← List.map_take] at e
      simp only [List.getElem_map] at e
      have hl := tok_take h (j + 1)
      have b3 : (((join ((t.take (j + 1)).map entT) [32]).length + ([32] : List UInt8).length : Nat) : Int) ≤ maxInt64 := by simp only [List.length_cons, List.length_nil, maxInt64]; omega
      have b4 : (((join ((t.take (j + 1)).map entT) [32] ++ [32]).length + ((itoa t[j + 1].1 ++ [58]) ++ itoa t[j + 1].2.1).length : Nat) : Int) ≤ maxInt64 := by simp only [List.length_append, List.length_cons, List.length_nil, maxInt64]; omega
      simp only [if_neg (show ¬ ((j + 1 : Nat) : Int) = 0 by omega), if_neg (show ¬ j + 1 = 0 by omega), if_neg (show ¬ j + 1 + 1 = 0 by omega), if_pos b3, if_pos b4, e]
      rfl) (fun G => by
    have h3 : ¬ ((t.length : Int) < (t.length : Int)) := by omega
    simp only [spec_TokenText.l0, br_dec, if_neg h3, List.take_length, tokT]) (f := k) (by omega)
  exact hh

theorem implTokT_is (k : Nat) (hk : 4194304 < k) (t : List EntT) (h : tokenOk t = true) : impl_tokenText k (t, ()) = some ((tokT t, ()), ((), ())) := by
  obtain ⟨h1, h2⟩ := tok_fits h
  unfold impl_tokenText
  simp only [br_beq]
  by_cases hz : (t.length : Int) = 0
  · rw [if_pos hz, tokT, if_pos (by omega)]
  rw [if_neg hz, tokT, if_neg (by omega)]
  have hj := lbJoin_is k (t.map entT) [32] 43 (fun x hx => by
    obtain ⟨e, he, rfl⟩ := List.mem_map.1 hx
    exact entT_len (h2 e he)) (by rw [List.length_map]; omega) (by rw [List.length_map]; exact Nat.le_trans (Nat.mul_le_mul_right _ h1) (by decide))
  have hh := iter_for (b := impl_tokenText.l0 k) (fun i => ((t.take i).map entT, t, (t.length : Int), (i : Int), ())) t.length (r := some ((join (t.map entT) [32], ()), ((), ()))) (fun G i hi => by
    have h3 : ((i : Int) < (t.length : Int)) := by omega
    have h4 : (0 : Int) ≤ (i : Int) := by omega
    have he := h2 t[i] (List.getElem_mem hi)
    have hf := entOk_fits he
    have i1 := itoa_len t[i].1 (by omega) (by omega)
    have i2 := itoa_len t[i].2.1 (by omega) (by omega)
    have b1 : (((itoa t[i].1).length + ([58] : List UInt8).length : Nat) : Int) ≤ maxInt64 := by simp only [List.length_cons, List.length_nil, maxInt64]; omega
    have b2 : (((itoa t[i].1 ++ [58]).length + (itoa t[i].2.1).length : Nat) : Int) ≤ maxInt64 := by simp only [List.length_append, List.length_cons, List.length_nil, maxInt64]; omega
    have b3 : (((t.take i).map entT).length + ([(itoa t[i].1 ++ [58]) ++ itoa t[i].2.1] : List (List UInt8)).length) * 16 ≤ maxBytes := by simp [maxBytes]; omega
    simp only [impl_tokenText.l0, br_dec, if_pos h3, if_pos h4, Int.toNat_natCast, List.getElem?_eq_getElem hi, bd_some, decimal_is k t[i].1 (by omega) (by omega), if_pos b1, decimal_is k t[i].2.1 (by omega) (by omega), if_pos b2, if_pos b3]
    rw [wrap_succ (by omega), map_next entT hi]
    rfl) (fun G => by
    have h3 : ¬ ((t.length : Int) < (t.length : Int)) := by omega
    simp only [impl_tokenText.l0, br_dec, if_neg h3, List.take_length, hj, bd_some]) (f := k) (by omega)
  exact hh

theorem treeTexts (k : Nat) (hk : 4194304 < k) (hk2 : k ≤ 4611686018427387903) (d : DeclT) (hd : DSmall d) (hdo : declOk d = true) (T : List EnvT) (hs : ∀ e ∈ T, ESmall e) (hw : ∀ e ∈ T, envKd.WF e) (hT : tableOk d T = true) :
    ∃ s : List UInt8, s.length ≤ 160000000 ∧ spec_TreeText k (d, (treeOf d T, ()), ()) = some ((s, ()), ((), (), ())) ∧ impl_Decl_treeText k (d, (treeOf d T, ()), ()) = some ((s, ()), ((), (), ())) := by
  have hf := (decl_flags hdo).2.1
  have hr := treeOf_right k hk d hd hdo T hs hT
  obtain ⟨g1, g2, g3⟩ := treeOf_good hdo hT
  have hwn : ∀ x ∈ treeOf d T, envKd.WF (envOf x) := bld_all (fun y => envKd.WF (envOf y)) _ T (fun e he => hw e he) (by simp [envOf, leafN, noEnv, Kd.WF]) (fun _ _ _ => by simp [envOf, nodeN, Kd.WF]) _ _ _ (by simp)
  generalize treeOf d T = l at hr g1 g2 g3 hwn
  have hp : 0 < l.length := List.length_pos_iff.2 g2
  have hi : l.length - 1 < l.length := by omega
  have hm : l[l.length - 1].1 = -1 ∨ (d.2.1.length : Int) - l[l.length - 1].1 ≤ d.2.1.length := by
    rcases g1 _ hi with ⟨h, _⟩ | ⟨h, _⟩
    · exact Or.inl h
    · exact Or.inr (by omega)
  obtain ⟨s, s0, s1, s2⟩ := nodeText_both k hk hk2 d hd hdo l g1 hwn d.2.1.length (l.length - 1) k _ (List.getElem?_eq_getElem hi) hm hf (by omega)
  rw [show ((l.length - 1 : Nat) : Int) = (l.length : Int) - 1 by omega] at s1 s2
  have s1' : spec_l13Node k (d, (l, ()), (l.length : Int) - 1, ()) = _ := s1
  have s2' : impl_Decl_nodeText k (d, (l, ()), (l.length : Int) - 1, ()) = _ := s2
  have h8 := pow_small hf
  refine ⟨s, by omega, ?_, ?_⟩
  · unfold spec_TreeText spec_TreeOk
    simp only [hr, bd_some, Bool.not_true, br_false, wrap_i64 (n := (l.length : Int) - 1) (by omega) (by omega), s1']
  · unfold impl_Decl_treeText
    simp only [impl_size_impl_Node, bd_some, wrap_i64 (n := (l.length : Int) - 1) (by omega) (by omega), s2']

theorem part_of {d : DeclT} {l : List PartT} (h : partsOk d l = true) : l.length ≤ 100 ∧ ∀ p ∈ l, tokenOk p.1 = true ∧ tableOk d p.2.1 = true := by
  simp only [partsOk, Bool.and_eq_true, decide_eq_true_eq, List.all_eq_true] at h
  refine ⟨h.1, fun p hp => ?_⟩
  have := h.2.1 p hp
  simp only [partOkB, Bool.and_eq_true] at this
  exact ⟨this.1, this.2.1⟩

theorem rowText_both (k : Nat) (hk : 4194304 < k) (hk2 : k ≤ 4611686018427387903) (d : DeclT) (hd : DSmall d) (l : List PartT) (hl : LSmall l) (hw : ∀ p ∈ l, ∀ e ∈ p.2.1, envKd.WF e) :
    ∃ t, spec_RowText k (d, l, ()) = some ((t, ()), ((), (), ())) ∧ impl_RowText k (d, l, ()) = some ((t, ()), ((), (), ())) := by
  cases hdo : declOk d with
  | false =>
    refine ⟨[], ?_, ?_⟩
    · unfold spec_RowText spec_PartsOk
      simp only [specDeclOk_is k hk d hd, hdo, bd_some, Bool.not_false, br_true, Option.bind_some]
    · unfold impl_RowText impl_PartsOk
      simp only [implDeclOk_is k hk hk2 d hd, hdo, bd_some, br_false, Option.bind_some, Bool.not_false, br_true]
  | true =>
    have hf := (decl_flags hdo).2.1
    unfold spec_RowText impl_RowText impl_PartsOk
    simp only [specPartsOk_is k hk d hd hdo l hl, implDeclOk_is k hk hk2 d hd, areParts_is k hk d hf l hl, hdo, bd_some, br_true, Option.bind_some]
    cases hP : partsOk d l with
    | false => exact ⟨[], by simp, by simp⟩
    | true =>
      obtain ⟨hn, hp⟩ := part_of hP
      have hS : ∀ p : PartT, ∃ s : List UInt8, p ∈ l → s.length ≤ 160000000 ∧ spec_TreeText k (d, (treeOf d p.2.1, ()), ()) = some ((s, ()), ((), (), ())) ∧ impl_Decl_treeText k (d, (treeOf d p.2.1, ()), ()) = some ((s, ()), ((), (), ())) := by
        intro p
        by_cases h : p ∈ l
        · obtain ⟨s, hs⟩ := treeTexts k hk hk2 d hd hdo p.2.1 (hl.e p h) (hw p h) (hp p h).2
          exact ⟨s, fun _ => hs⟩
        · exact ⟨[], fun h' => absurd h' h⟩
      obtain ⟨S, hS⟩ := Classical.axiomOfChoice hS
      have hq : ∀ x ∈ l.map (fun p => (tokT p.1 ++ [32]) ++ S p), x.length ≤ 160000201 := by
        intro x hx
        obtain ⟨p, hp', rfl⟩ := List.mem_map.1 hx
        have h1 := tokT_len (hp p hp').1
        have h2 := (hS p hp').1
        simp only [List.length_append, List.length_cons, List.length_nil]
        omega
      have hml : (l.map (fun p => (tokT p.1 ++ [32]) ++ S p)).length ≤ 100 := by rw [List.length_map]; exact hn
      have hcost : (l.map (fun p => (tokT p.1 ++ [32]) ++ S p)).length * (160000201 + ([32, 47, 32] : List UInt8).length) ≤ 140737488355328 := Nat.le_trans (Nat.mul_le_mul_right _ hml) (by decide)
      have j1 := l13Joined_is k (l.map (fun p => (tokT p.1 ++ [32]) ++ S p)) [32, 47, 32] (by omega) hk2 160000201 hq (by omega)
      have j2 := lbJoin_is k (l.map (fun p => (tokT p.1 ++ [32]) ++ S p)) [32, 47, 32] 160000201 hq (by omega) hcost
      have key : ∀ (i : Nat) (hi : i < l.length), spec_TreeOf k (d, l[i].2.1, ()) = some (((treeOf d l[i].2.1, ()), ()), ((), (), ())) ∧ impl_Decl_treeOf k (d, l[i].2.1, ()) = some (((treeOf d l[i].2.1, ()), ()), ((), (), ())) := by
        intro i hi
        have hm := List.getElem_mem hi
        constructor
        · have := specTreeOf_is k hk d hd hdo l[i].2.1 (hl.m _ hm) (hl.e _ hm)
          rw [(hp _ hm).2] at this
          exact this
        · exact implTreeOf_is k hk d hdo l[i].2.1 (hl.e _ hm) (hp _ hm).2
      refine ⟨if l.length = 0 then [110, 111, 110, 101] else join (l.map (fun p => (tokT p.1 ++ [32]) ++ S p)) [32, 47, 32], ?_, ?_⟩
      · have hh := iter_for (b := spec_l13Row.l0 k) (fun i => (l, (d.1, d.2.1, d.2.2.1, ()), (l.take i).map (fun p => (tokT p.1 ++ [32]) ++ S p), (i : Int), ())) l.length (r := some ((if l.length = 0 then [110, 111, 110, 101] else join (l.map (fun p => (tokT p.1 ++ [32]) ++ S p)) [32, 47, 32], ()), ((), (), ()))) (fun G i hi => by
          have h3 : ((i : Int) < (l.length : Int)) := by omega
          have h4 : (0 : Int) ≤ (i : Int) := by omega
          have hm := List.getElem_mem hi
          obtain ⟨q1, q2, _⟩ := hS _ hm
          have q0 := tokT_len (hp _ hm).1
          have q3 : spec_TreeOf k ((d.1, d.2.1, d.2.2.1, ()), l[i].2.1, ()) = _ := (key i hi).1
          have q4 : spec_TreeText k ((d.1, d.2.1, d.2.2.1, ()), (treeOf d l[i].2.1, ()), ()) = _ := q2
          have b1 : (((tokT l[i].1).length + ([32] : List UInt8).length : Nat) : Int) ≤ maxInt64 := by simp only [List.length_cons, List.length_nil, maxInt64]; omega
          have b2 : (((tokT l[i].1 ++ [32]).length + (S l[i]).length : Nat) : Int) ≤ maxInt64 := by simp only [List.length_append, List.length_cons, List.length_nil, maxInt64]; omega
          have b3 : (((l.take i).map (fun p => (tokT p.1 ++ [32]) ++ S p)).length + ([(tokT l[i].1 ++ [32]) ++ S l[i]] : List (List UInt8)).length) * 16 ≤ maxBytes := by simp only [List.length_map, List.length_take, List.length_cons, List.length_nil, maxBytes]; omega
          simp only [spec_l13Row.l0, br_dec, if_pos h3, if_pos h4, Int.toNat_natCast, List.getElem?_eq_getElem hi, bd_some, specTokT_is k hk _ (hp _ hm).1, if_pos b1, q3, q4, if_pos b2, if_pos b3]
          rw [wrap_succ (by omega), map_next _ hi]) (fun G => by
          have h3 : ¬ ((l.length : Int) < (l.length : Int)) := by omega
          simp only [spec_l13Row.l0, br_dec, if_neg h3, List.take_length, br_beq, List.length_map, j1, bd_some]
          by_cases hz : l.length = 0
          · rw [if_pos (by omega), if_pos hz]
          · rw [if_neg (by omega), if_neg hz]) (f := k) (by omega)
        have hh' : spec_l13Row k (d, l, ()) = _ := hh
        simp only [Bool.not_true, br_false, hh', bd_some]
      · have hh := iter_for (b := impl_orNone_impl_Part.l0 k) (fun i => (((d.1, d.2.1, d.2.2.1, ()), ()), (l.take i).map (fun p => (tokT p.1 ++ [32]) ++ S p), l, (l.length : Int), (i : Int), ())) l.length (r := some ((if l.length = 0 then [110, 111, 110, 101] else join (l.map (fun p => (tokT p.1 ++ [32]) ++ S p)) [32, 47, 32], ()), ((), ((d.1, d.2.1, d.2.2.1, ()), ()), ()))) (fun G i hi => by
          have h3 : ((i : Int) < (l.length : Int)) := by omega
          have h4 : (0 : Int) ≤ (i : Int) := by omega
          have hm := List.getElem_mem hi
          obtain ⟨q1, _, q2⟩ := hS _ hm
          have q0 := tokT_len (hp _ hm).1
          have q3 : impl_Decl_treeOf k ((d.1, d.2.1, d.2.2.1, ()), l[i].2.1, ()) = _ := (key i hi).2
          have q4 : impl_Decl_treeText k ((d.1, d.2.1, d.2.2.1, ()), (treeOf d l[i].2.1, ()), ()) = _ := q2
          have b1 : (((tokT l[i].1).length + ([32] : List UInt8).length : Nat) : Int) ≤ maxInt64 := by simp only [List.length_cons, List.length_nil, maxInt64]; omega
          have b2 : (((tokT l[i].1 ++ [32]).length + (S l[i]).length : Nat) : Int) ≤ maxInt64 := by simp only [List.length_append, List.length_cons, List.length_nil, maxInt64]; omega
          have b3 : (((l.take i).map (fun p => (tokT p.1 ++ [32]) ++ S p)).length + ([(tokT l[i].1 ++ [32]) ++ S l[i]] : List (List UInt8)).length) * 16 ≤ maxBytes := by simp only [List.length_map, List.length_take, List.length_cons, List.length_nil, maxBytes]; omega
          simp only [impl_orNone_impl_Part.l0, impl_RowText_1, br_dec, if_pos h3, if_pos h4, Int.toNat_natCast, List.getElem?_eq_getElem hi, bd_some, implTokT_is k hk _ (hp _ hm).1, if_pos b1, q3, q4, if_pos b2, if_pos b3]
          rw [wrap_succ (by omega), map_next _ hi]) (fun G => by
          have h3 : ¬ ((l.length : Int) < (l.length : Int)) := by omega
          simp only [impl_orNone_impl_Part.l0, br_dec, if_neg h3, List.take_length, br_beq, List.length_map, j2, bd_some]
          by_cases hz : l.length = 0
          · rw [if_pos (by omega), if_pos hz]
          · rw [if_neg (by omega), if_neg hz]) (f := k) (by omega)
        have hh' : impl_orNone_impl_Part k (l, ((d.1, d.2.1, d.2.2.1, ()), ()), ()) = _ := hh
        simp only [Bool.not_true, br_false, hh', bd_some]

abbrev partKd' : Kd := .cons (.sl false (.cons (.int .i64) (.cons (.int .i64) .nil))) (.cons (.sl false envKd) .nil)

theorem FnExactRowText_true (x : DeclT × List PartT × Unit) (hw : WFs [declKd, .sl false partKd'] x) : ∃ k o, laws_FnExactRowText k x = some ((true, ()), o) := by
  obtain ⟨d, l, ⟨⟩⟩ := x
  obtain ⟨hwd, hwl, _⟩ := hw
  refine ⟨8388608, ((), (), ()), ?_⟩
  unfold laws_FnExactRowText
  obtain ⟨r1, e1, p1⟩ := Cp.szDecl_is 8388608 (by omega) d hwd 1048576 (by omega) (by omega)
  simp only [e1, bd_some, br_dec]
  by_cases h1 : r1 < 0
  · rw [if_pos h1]
  rw [if_neg h1]
  obtain ⟨b1, s1⟩ := p1 (by omega)
  obtain ⟨r2, e2, p2⟩ := Cp.szPartS_is 8388608 (by omega) l hwl r1 (by omega) (by omega)
  simp only [e2, bd_some]
  by_cases h2 : r2 < 0
  · rw [if_pos h2]
  rw [if_neg h2]
  obtain ⟨b2, s2⟩ := p2 (by omega)
  have hd : DSmall d := ⟨s1.1.1, s1.1.2, s1.2.1.1, s1.2.1.2, s1.2.2.1.1, fun x hx => (s1.2.2.1.2 x hx).1⟩
  have hl : LSmall l := ⟨s2.1, fun p hp => (s2.2 p hp).1.1, fun p hp => (s2.2 p hp).2.1.1, fun p hp e he => ⟨((s2.2 p hp).2.1.2 e he).2.1.1, ((s2.2 p hp).2.1.2 e he).2.2.1.1⟩⟩
  have hwn : ∀ p ∈ l, ∀ e ∈ p.2.1, envKd.WF e := fun p hp e he => (hwl.2 p hp).2.1.2 e he
  obtain ⟨t, t1, t2⟩ := rowText_both 8388608 (by omega) (by omega) d hd l hl hwn
  simp only [Cp.toDecl_is 8388608 (by omega) d s1, Cp.toPartS_is 8388608 (by omega) l s2, bd_some]
  have t1' : spec_RowText 8388608 ((d.1, d.2.1, d.2.2.1, ()), l, ()) = some ((t, ()), ((), (), ())) := t1
  have t2' : impl_RowText 8388608 ((d.1, d.2.1, d.2.2.1, ()), l, ()) = some ((t, ()), ((), (), ())) := t2
  have q1 : laws_eqDecl 8388608 ((d.1, d.2.1, d.2.2.1, ()), (d.1, d.2.1, d.2.2.1, ()), ()) = some ((true, ()), ((), (), ())) := Cp.eqDecl_is 8388608 (by omega) d s1
  have q2 := Cp.eqPartS_is 8388608 (by omega) l s2
  simp only [t1', t2', bd_some, BEq.rfl, Bool.not_true, br_false, q1, q2]
end Go.Pev.F
