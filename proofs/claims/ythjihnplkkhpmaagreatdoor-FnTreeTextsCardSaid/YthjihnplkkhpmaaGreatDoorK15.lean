
/-
  A tree's text: the program's is the reference's.
-/
import Derived.Test.YthjihnplkkhpmaaGreatDoorK14
set_option linter.unusedSimpArgs false
set_option linter.unusedVariables false
section
set_option linter.unusedVariables false
set_option linter.unusedSimpArgs false
namespace Go.Pev.F
open Go.Lib (itoa join)

theorem envT_len {d : DeclT} (hd : DSmall d) {e : EnvT} (hf : e.1 = true → Fine d e) : (envT d e).length ≤ 8000000 := by
  unfold envT
  cases he : e.1 with
  | false => simp
  | true =>
    have hf := hf he
    simp only [cond_true]
    cases hc : ((((zero d e ++ ones d e).map told).length : Int) == 0) with
    | true => simp
    | false =>
      simp only [cond_false]
      have l0 := hf.l0
      have l2 := hf.l2
      have h := join_len [32] 1048621 ((zero d e ++ ones d e).map told) (fun x hx => by
        obtain ⟨p, hp, rfl⟩ := List.mem_map.1 hx
        have := told_len hd hf p hp
        simp only [told, List.length_append, List.length_cons, List.length_nil]
        omega)
      have hl : ((zero d e ++ ones d e).map told).length ≤ 7 := by simp [zero, ones]; omega
      refine Nat.le_trans h (Nat.le_trans (Nat.mul_le_mul_right _ hl) (by decide))

/-- A node's text, so deep. -/
def nodeT (d : DeclT) (l : List NodeT) : Nat → Nat → List UInt8
  | 0, a => (match l[a]? with | some x => if x.1 = -1 then (([91] : List UInt8) ++ envT d (envOf x)) ++ [93] else [] | none => [])
  | m + 1, a => (match l[a]? with
    | some x => if x.1 = -1 then (([91] : List UInt8) ++ envT d (envOf x)) ++ [93] else
      ((((d.2.1.getD x.1.toNat [] ++ [40]) ++ nodeT d l m x.2.2.1.toNat) ++ [32, 124, 32]) ++ nodeT d l m x.2.1.toNat) ++ [41]
    | none => [])

theorem nodeT_leaf (d : DeclT) (l : List NodeT) (m a : Nat) {x : NodeT} (hx : l[a]? = some x) (h : x.1 = -1) : nodeT d l m a = (([91] : List UInt8) ++ envT d (envOf x)) ++ [93] := by
  cases m <;> simp only [nodeT, hx, if_pos h]

theorem nodeText_both (k : Nat) (hk : 4194304 < k) (hk2 : k ≤ 4611686018427387903) (d : DeclT) (hd : DSmall d) (hdo : declOk d = true) (l : List NodeT) (hg : Good (fun e => envFits d e = true) d.2.1.length l) (hw : ∀ x ∈ l, envKd.WF (envOf x)) :
    ∀ (m a f : Nat) (x : NodeT), l[a]? = some x → (x.1 = -1 ∨ (d.2.1.length : Int) - x.1 ≤ m) → m ≤ 3 → m < f →
    ∃ s : List UInt8, s = nodeT d l m a ∧ s.length + 5000000 ≤ 2 ^ m * 20000000 ∧ iter (spec_l13Node.f k) f (d, (l, ()), (a : Int), ()) = some ((s, ()), ((), (), (), ())) ∧ iter (impl_Decl_nodeText.f k) f (d, (l, ()), (a : Int), ()) = some ((s, ()), ((), (), (), ())) := by
  intro m
  have leaf : ∀ (m a f : Nat) (x : NodeT), l[a]? = some x → x.1 = -1 → m < f → ∃ s : List UInt8, s = nodeT d l m a ∧ s.length + 5000000 ≤ 2 ^ m * 20000000 ∧ iter (spec_l13Node.f k) f (d, (l, ()), (a : Int), ()) = some ((s, ()), ((), (), (), ())) ∧ iter (impl_Decl_nodeText.f k) f (d, (l, ()), (a : Int), ()) = some ((s, ()), ((), (), (), ())) := by
    intro m a f x hx h1 hf
    obtain ⟨f, rfl⟩ : ∃ g, f = g + 1 := ⟨f - 1, by omega⟩
    obtain ⟨ha, e⟩ := List.getElem?_eq_some_iff.1 hx
    have hfit : envFits d (envOf x) = true := by
      rcases e ▸ hg a ha with ⟨_, h⟩ | ⟨h0, _⟩
      · exact h
      · omega
    have hfine : (envOf x).1 = true → Fine d (envOf x) := fun h => fine_of (by rw [envOk, hdo, hfit]; rfl) h (hw x (List.mem_of_getElem? hx))
    have hlen := envT_len hd hfine
    have p1 : 1 ≤ 2 ^ m := Nat.one_le_two_pow
    have h0 : (0 : Int) ≤ (a : Int) := by omega
    have hneg : x.1 < 0 := by omega
    have t1 : spec_l13Env k (d, (x.2.2.2.1, x.2.2.2.2.1, x.2.2.2.2.2.1, ()), ()) = some ((envT d (envOf x), ()), ((), (), ())) := l13Env_is k hk hk2 d hd (envOf x) hfine
    have t2 : impl_Decl_envText k (d, (x.2.2.2.1, x.2.2.2.2.1, x.2.2.2.2.2.1, ()), ()) = some ((envT d (envOf x), ()), ((), (), ())) := implEnvT_is k hk hk2 d hd (envOf x) hfine
    have hnT := nodeT_leaf d l m a hx h1
    generalize envT d (envOf x) = s at t1 t2 hlen hnT
    have b1 : (((([91] : List UInt8).length + s.length : Nat)) : Int) ≤ maxInt64 := by simp [maxInt64]; omega
    have b2 : (((([91] : List UInt8) ++ s).length + ([93] : List UInt8).length : Nat) : Int) ≤ maxInt64 := by simp [maxInt64]; omega
    refine ⟨(([91] : List UInt8) ++ s) ++ [93], hnT.symm, ?_, ?_, ?_⟩
    · simp only [List.length_append, List.length_cons, List.length_nil]; omega
    · rw [iter_succ]
      simp only [spec_l13Node.f, br_dec, if_pos h0, Int.toNat_natCast, hx, bd_some, if_pos hneg, t1, if_pos b1, if_pos b2]
    · rw [iter_succ]
      simp only [impl_Decl_nodeText.f, br_dec, if_pos h0, Int.toNat_natCast, hx, bd_some, br_beq, if_pos h1, t2, if_pos b1, if_pos b2]
  induction m with
  | zero =>
    intro a f x hx hm _ hf
    obtain ⟨ha, e⟩ := List.getElem?_eq_some_iff.1 hx
    refine leaf 0 a f x hx ?_ hf
    rcases hm with h | h
    · exact h
    · rcases e ▸ hg a ha with ⟨h, _⟩ | ⟨_, h', _⟩
      · exact h
      · omega
  | succ m ih =>
    intro a f x hx hm hm3 hf
    by_cases h1 : x.1 = -1
    · exact leaf (m + 1) a f x hx h1 hf
    obtain ⟨f, rfl⟩ : ∃ g, f = g + 1 := ⟨f - 1, by omega⟩
    obtain ⟨ha, e⟩ := List.getElem?_eq_some_iff.1 hx
    rcases e ▸ hg a ha with ⟨h, _⟩ | ⟨f0, f1, c1, c2⟩
    · exact absurd h h1
    have h0 : (0 : Int) ≤ (a : Int) := by omega
    have hneg : ¬ x.1 < 0 := by omega
    have sub : ∀ c : Int, child l a x.1 c → ∃ s : List UInt8, s = nodeT d l m c.toNat ∧ s.length + 5000000 ≤ 2 ^ m * 20000000 ∧ iter (spec_l13Node.f k) f (d, (l, ()), c, ()) = some ((s, ()), ((), (), (), ())) ∧ iter (impl_Decl_nodeText.f k) f (d, (l, ()), c, ()) = some ((s, ()), ((), (), (), ())) := by
      intro c hc
      obtain ⟨g0, g1, g2⟩ := hc
      have hi : c.toNat < l.length := by omega
      have hcy := List.getElem?_eq_getElem hi
      have := ih c.toNat f l[c.toNat] hcy ((g2 _ hcy).imp id fun h => by rcases hm with h' | h' <;> omega) (by omega) (by omega)
      rwa [show ((c.toNat : Nat) : Int) = c by omega] at this
    obtain ⟨s1, w1, l1, u1, v1⟩ := sub _ c1
    obtain ⟨s2, w2, l2, u2, v2⟩ := sub _ c2
    have hi : x.1.toNat < d.2.1.length := by omega
    have hnm := hd.s1 d.2.1[x.1.toNat] (List.getElem_mem hi)
    have hgn := List.getElem?_eq_getElem hi
    have hgD : d.2.1.getD x.1.toNat [] = d.2.1[x.1.toNat] := by simp [List.getD, hgn]
    have hnT : nodeT d l (m + 1) a = ((((d.2.1[x.1.toNat] ++ [40]) ++ s2) ++ [32, 124, 32]) ++ s1) ++ [41] := by
      rw [w1, w2, ← hgD]
      simp only [nodeT, hx, if_neg h1]
    generalize d.2.1[x.1.toNat] = nm at hnm hgn hnT
    have hp : 2 ^ (m + 1) = 2 * 2 ^ m := by rw [Nat.pow_succ]; omega
    have h8 := pow_small (show m ≤ 3 by omega)
    have b1 : ((nm.length + ([40] : List UInt8).length : Nat) : Int) ≤ maxInt64 := by simp only [List.length_cons, List.length_nil, maxInt64]; omega
    have b2 : (((nm ++ [40]).length + s2.length : Nat) : Int) ≤ maxInt64 := by simp only [List.length_append, List.length_cons, List.length_nil, maxInt64]; omega
    have b3 : ((((nm ++ [40]) ++ s2).length + ([32, 124, 32] : List UInt8).length : Nat) : Int) ≤ maxInt64 := by simp only [List.length_append, List.length_cons, List.length_nil, maxInt64]; omega
    have b4 : (((((nm ++ [40]) ++ s2) ++ [32, 124, 32]).length + s1.length : Nat) : Int) ≤ maxInt64 := by simp only [List.length_append, List.length_cons, List.length_nil, maxInt64]; omega
    have b5 : ((((((nm ++ [40]) ++ s2) ++ [32, 124, 32]) ++ s1).length + ([41] : List UInt8).length : Nat) : Int) ≤ maxInt64 := by simp only [List.length_append, List.length_cons, List.length_nil, maxInt64]; omega
    refine ⟨((((nm ++ [40]) ++ s2) ++ [32, 124, 32]) ++ s1) ++ [41], hnT.symm, ?_, ?_, ?_⟩
    · simp only [List.length_append, List.length_cons, List.length_nil]; omega
    · rw [iter_succ]
      simp only [spec_l13Node.f, br_dec, if_pos h0, Int.toNat_natCast, hx, bd_some, if_neg hneg, if_pos f0, hgn, if_pos b1, u2, if_pos b2, if_pos b3, u1, if_pos b4, if_pos b5]
    · rw [iter_succ]
      simp only [impl_Decl_nodeText.f, br_dec, if_pos h0, Int.toNat_natCast, hx, bd_some, br_beq, if_neg h1, if_pos f0, hgn, if_pos b1, v2, if_pos b2, if_pos b3, v1, if_pos b4, if_pos b5]

theorem treeText_both (k : Nat) (hk : 4194304 < k) (hk2 : k ≤ 4611686018427387903) (d : DeclT) (hd : DSmall d) (l : List NodeT) (hlen : l.length ≤ 1048576) (hls : ∀ x ∈ l, ESmall (envOf x)) (hw : ∀ x ∈ l, envKd.WF (envOf x)) :
    ∃ t, spec_TreeText k (d, (l, ()), ()) = some ((t, ()), ((), (), ())) ∧ impl_TreeText k (d, (l, ()), ()) = some ((t, ()), ((), (), ())) := by
  obtain ⟨R, r1, r2, r3⟩ := tableOf_both k hk hk2 d hd l hlen hls
  unfold spec_TreeText impl_TreeText spec_TreeOk impl_TreeOk
  simp only [r1, r2, bd_some]
  cases hR : R.2.1 with
  | false => exact ⟨[], by simp, by simp⟩
  | true =>
    obtain ⟨hdo, hT, hl⟩ := r3 hR
    have hf := (decl_flags hdo).2.1
    obtain ⟨g1, g2, _⟩ := treeOf_good hdo hT
    rw [hl] at g1 g2
    have hp : 0 < l.length := List.length_pos_iff.2 g2
    have hi : l.length - 1 < l.length := by omega
    have hm : l[l.length - 1].1 = -1 ∨ (d.2.1.length : Int) - l[l.length - 1].1 ≤ d.2.1.length := by
      rcases g1 _ hi with ⟨h, _⟩ | ⟨h, _⟩
      · exact Or.inl h
      · exact Or.inr (by omega)
    obtain ⟨s, _, _, s1, s2⟩ := nodeText_both k hk hk2 d hd hdo l g1 hw d.2.1.length (l.length - 1) k _ (List.getElem?_eq_getElem hi) hm hf (by omega)
    rw [show ((l.length - 1 : Nat) : Int) = (l.length : Int) - 1 by omega] at s1 s2
    have s1' : spec_l13Node k (d, (l, ()), (l.length : Int) - 1, ()) = _ := s1
    have s2' : impl_Decl_nodeText k (d, (l, ()), (l.length : Int) - 1, ()) = _ := s2
    refine ⟨s, ?_, ?_⟩
    · simp only [Bool.not_true, br_false, wrap_i64 (n := (l.length : Int) - 1) (by omega) (by omega), s1', bd_some]
    · unfold impl_Decl_treeText
      simp only [Bool.not_true, br_false, impl_size_impl_Node, bd_some, wrap_i64 (n := (l.length : Int) - 1) (by omega) (by omega), s2']

abbrev nodeKd : Kd := .cons (.int .i64) (.cons (.int .i64) (.cons (.int .i64) envKd))
abbrev treeKd : Kd := .cons (.sl false nodeKd) .nil

end Go.Pev.F
end

section
/-
  A row's text: the program's is the reference's.
-/
set_option linter.unusedVariables false
set_option linter.unusedSimpArgs false
namespace Go.Pev.F
open Go.Lib (itoa join)

def entT (e : EntT) : List UInt8 := (itoa e.1 ++ [58]) ++ itoa e.2.1
def tokT (t : List EntT) : List UInt8 := if t.length = 0 then [45] else join (t.map entT) [32]

theorem entT_len {e : EntT} (h : entOk e = true) : (entT e).length ≤ 43 := by
  have hf := entOk_fits h
  have h1 := itoa_len e.1 (by omega) (by omega)
  have h2 := itoa_len e.2.1 (by omega) (by omega)
  simp [entT]; omega

theorem tok_fits {t : List EntT} (h : tokenOk t = true) : t.length ≤ 3 ∧ ∀ e ∈ t, entOk e = true := by
  simp only [tokenOk, Bool.and_eq_true, decide_eq_true_eq, List.all_eq_true] at h
  exact h

theorem tokT_len {t : List EntT} (h : tokenOk t = true) : (tokT t).length ≤ 200 := by
  obtain ⟨h1, h2⟩ := tok_fits h
  unfold tokT
  split
  · simp
  · refine Nat.le_trans (join_len [32] 43 (t.map entT) fun x hx => ?_) ?_
    · obtain ⟨e, he, rfl⟩ := List.mem_map.1 hx
      exact entT_len (h2 e he)
    · rw [List.length_map]
      exact Nat.le_trans (Nat.mul_le_mul_right _ h1) (by decide)

theorem tok_take {t : List EntT} (h : tokenOk t = true) (i : Nat) : (join ((t.take i).map entT) [32]).length ≤ 200 := by
  obtain ⟨h1, h2⟩ := tok_fits h
  refine Nat.le_trans (join_len [32] 43 ((t.take i).map entT) fun x hx => ?_) ?_
  · obtain ⟨e, he, rfl⟩ := List.mem_map.1 hx
    exact entT_len (h2 e (List.mem_of_mem_take he))
  · rw [List.length_map]
    exact Nat.le_trans (Nat.mul_le_mul_right _ (Nat.le_trans (by simp; omega : (t.take i).length ≤ t.length) h1)) (by decide)

theorem specTokT_is (k : Nat) (hk : 4194304 < k) (t : List EntT) (h : tokenOk t = true) : spec_TokenText k (t, ()) = some ((tokT t, ()), ((), ())) := by
  obtain ⟨h1, h2⟩ := tok_fits h
  unfold spec_TokenText
  simp only [specTokenOk_is k hk t, h, bd_some, Bool.not_true, br_false]
  have hh := iter_for (b := spec_TokenText.l0 k) (fun i => (t, (if i = 0 then [45] else join ((t.take i).map entT) [32]), (i : Int), ())) t.length (r := some ((tokT t, ()), ((), ()))) (fun G i hi => by
    have h3 : ((i : Int) < (t.length : Int)) := by omega
    have h4 : (0 : Int) ≤ (i : Int) := by omega
    have he := h2 t[i] (List.getElem_mem hi)
    have hf := entOk_fits he
    have i1 := itoa_len t[i].1 (by omega) (by omega)
    have i2 := itoa_len t[i].2.1 (by omega) (by omega)
    have b1 : (((itoa t[i].1).length + ([58] : List UInt8).length : Nat) : Int) ≤ maxInt64 := by simp only [List.length_cons, List.length_nil, maxInt64]; omega
    have b2 : (((itoa t[i].1 ++ [58]).length + (itoa t[i].2.1).length : Nat) : Int) ≤ maxInt64 := by simp only [List.length_append, List.length_cons, List.length_nil, maxInt64]; omega
    simp only [spec_TokenText.l0, br_dec, if_pos h3, if_pos h4, Int.toNat_natCast, List.getElem?_eq_getElem hi, bd_some, l1Dec_is k (by omega) t[i].1 (by omega) (by omega), if_pos b1, l1Dec_is k (by omega) t[i].2.1 (by omega) (by omega), if_pos b2, br_beq]
    rw [wrap_succ (by omega)]
    have hm : i < (t.map entT).length := by simpa using hi
    cases i with
    | zero =>
      have e := join_first (t.map entT) [32] hm
      rw [← List.map_take] at e
      simp only [List.getElem_map] at e
      rw [if_pos (by rfl), if_neg (by omega), e]
      rfl
    | succ j =>
      have e := join_step (t.map entT) [32] (i := j) (by simpa using hi)
      rw [← List.map_take, ← List.map_take] at e
      simp only [List.getElem_map] at e
      have hl := tok_take h (j + 1)
      have b3 : (((join ((t.take (j + 1)).map entT) [32]).length + ([32] : List UInt8).length : Nat) : Int) ≤ maxInt64 := by simp only [List.length_cons, List.length_nil, maxInt64]; omega
      have b4 : (((join ((t.take (j + 1)).map entT) [32] ++ [32]).length + ((itoa t[j + 1].1 ++ [58]) ++ itoa t[j + 1].2.1).length : Nat) : Int) ≤ maxInt64 := by simp only [List.length_append, List.length_cons, List.length_nil, maxInt64]; omega
      simp only [if_neg (show ¬ ((j + 1 : Nat) : Int) = 0 by omega), if_neg (show ¬ j + 1 = 0 by omega), if_neg (show ¬ j + 1 + 1 = 0 by omega), if_pos b3, if_pos b4, e]
      rfl) (fun G => by
    have h3 : ¬ ((t.length : Int) < (t.length : Int)) := by omega
    simp only [spec_TokenText.l0, br_dec, if_neg h3, List.take_length, tokT]) (f := k) (by omega)
  exact hh

theorem implTokT_is (k : Nat) (hk : 4194304 < k) (t : List EntT) (h : tokenOk t = true) : impl_tokenText k (t, ()) = some ((tokT t, ()), ((), ())) := by
  obtain ⟨h1, h2⟩ := tok_fits h
  unfold impl_tokenText
  simp only [br_beq]
  by_cases hz : (t.length : Int) = 0
  · rw [if_pos hz, tokT, if_pos (by omega)]
  rw [if_neg hz, tokT, if_neg (by omega)]
  have hj := lbJoin_is k (t.map entT) [32] 43 (fun x hx => by
    obtain ⟨e, he, rfl⟩ := List.mem_map.1 hx
    exact entT_len (h2 e he)) (by rw [List.length_map]; omega) (by rw [List.length_map]; exact Nat.le_trans (Nat.mul_le_mul_right _ h1) (by decide))
  have hh := iter_for (b := impl_tokenText.l0 k) (fun i => ((t.take i).map entT, t, (t.length : Int), (i : Int), ())) t.length (r := some ((join (t.map entT) [32], ()), ((), ()))) (fun G i hi => by
    have h3 : ((i : Int) < (t.length : Int)) := by omega
    have h4 : (0 : Int) ≤ (i : Int) := by omega
    have he := h2 t[i] (List.getElem_mem hi)
    have hf := entOk_fits he
    have i1 := itoa_len t[i].1 (by omega) (by omega)
    have i2 := itoa_len t[i].2.1 (by omega) (by omega)
    have b1 : (((itoa t[i].1).length + ([58] : List UInt8).length : Nat) : Int) ≤ maxInt64 := by simp only [List.length_cons, List.length_nil, maxInt64]; omega
    have b2 : (((itoa t[i].1 ++ [58]).length + (itoa t[i].2.1).length : Nat) : Int) ≤ maxInt64 := by simp only [List.length_append, List.length_cons, List.length_nil, maxInt64]; omega
    have b3 : (((t.take i).map entT).length + ([(itoa t[i].1 ++ [58]) ++ itoa t[i].2.1] : List (List UInt8)).length) * 16 ≤ maxBytes := by simp [maxBytes]; omega
    simp only [impl_tokenText.l0, br_dec, if_pos h3, if_pos h4, Int.toNat_natCast, List.getElem?_eq_getElem hi, bd_some, decimal_is k t[i].1 (by omega) (by omega), if_pos b1, decimal_is k t[i].2.1 (by omega) (by omega), if_pos b2, if_pos b3]
    rw [wrap_succ (by omega), map_next entT hi]
    rfl) (fun G => by
    have h3 : ¬ ((t.length : Int) < (t.length : Int)) := by omega
    simp only [impl_tokenText.l0, br_dec, if_neg h3, List.take_length, hj, bd_some]) (f := k) (by omega)
  exact hh

/-- The text of a table's tree. -/
def treeT (d : DeclT) (T : List EnvT) : List UInt8 := nodeT d (treeOf d T) d.2.1.length ((treeOf d T).length - 1)

theorem treeTexts (k : Nat) (hk : 4194304 < k) (hk2 : k ≤ 4611686018427387903) (d : DeclT) (hd : DSmall d) (hdo : declOk d = true) (T : List EnvT) (hs : ∀ e ∈ T, ESmall e) (hw : ∀ e ∈ T, envKd.WF e) (hT : tableOk d T = true) :
    ∃ s : List UInt8, s = treeT d T ∧ s.length ≤ 160000000 ∧ spec_TreeText k (d, (treeOf d T, ()), ()) = some ((s, ()), ((), (), ())) ∧ impl_Decl_treeText k (d, (treeOf d T, ()), ()) = some ((s, ()), ((), (), ())) := by
  have hf := (decl_flags hdo).2.1
  have hr := treeOf_right k hk d hd hdo T hs hT
  obtain ⟨g1, g2, g3⟩ := treeOf_good hdo hT
  have hwn : ∀ x ∈ treeOf d T, envKd.WF (envOf x) := bld_all (fun y => envKd.WF (envOf y)) _ T (fun e he => hw e he) (by simp [envOf, leafN, noEnv, Kd.WF]) (fun _ _ _ => by simp [envOf, nodeN, Kd.WF]) _ _ _ (by simp)
  unfold treeT
  generalize treeOf d T = l at hr g1 g2 g3 hwn ⊢
  have hp : 0 < l.length := List.length_pos_iff.2 g2
  have hi : l.length - 1 < l.length := by omega
  have hm : l[l.length - 1].1 = -1 ∨ (d.2.1.length : Int) - l[l.length - 1].1 ≤ d.2.1.length := by
    rcases g1 _ hi with ⟨h, _⟩ | ⟨h, _⟩
    · exact Or.inl h
    · exact Or.inr (by omega)
  obtain ⟨s, s9, s0, s1, s2⟩ := nodeText_both k hk hk2 d hd hdo l g1 hwn d.2.1.length (l.length - 1) k _ (List.getElem?_eq_getElem hi) hm hf (by omega)
  rw [show ((l.length - 1 : Nat) : Int) = (l.length : Int) - 1 by omega] at s1 s2
  have s1' : spec_l13Node k (d, (l, ()), (l.length : Int) - 1, ()) = _ := s1
  have s2' : impl_Decl_nodeText k (d, (l, ()), (l.length : Int) - 1, ()) = _ := s2
  have h8 := pow_small hf
  refine ⟨s, s9, by omega, ?_, ?_⟩
  · unfold spec_TreeText spec_TreeOk
    simp only [hr, bd_some, Bool.not_true, br_false, wrap_i64 (n := (l.length : Int) - 1) (by omega) (by omega), s1']
  · unfold impl_Decl_treeText
    simp only [impl_size_impl_Node, bd_some, wrap_i64 (n := (l.length : Int) - 1) (by omega) (by omega), s2']

theorem part_of {d : DeclT} {l : List PartT} (h : partsOk d l = true) : l.length ≤ 100 ∧ ∀ p ∈ l, tokenOk p.1 = true ∧ tableOk d p.2.1 = true := by
  simp only [partsOk, Bool.and_eq_true, decide_eq_true_eq, List.all_eq_true] at h
  refine ⟨h.1, fun p hp => ?_⟩
  have := h.2.1 p hp
  simp only [partOkB, Bool.and_eq_true] at this
  exact ⟨this.1, this.2.1⟩

/-- A row's text. -/
def rowT (d : DeclT) (l : List PartT) : List UInt8 := if l.length = 0 then [110, 111, 110, 101] else join (l.map fun p => (tokT p.1 ++ [32]) ++ treeT d p.2.1) [32, 47, 32]

theorem rowText_both (k : Nat) (hk : 4194304 < k) (hk2 : k ≤ 4611686018427387903) (d : DeclT) (hd : DSmall d) (l : List PartT) (hl : LSmall l) (hw : ∀ p ∈ l, ∀ e ∈ p.2.1, envKd.WF e) :
    ∃ t, spec_RowText k (d, l, ()) = some ((t, ()), ((), (), ())) ∧ impl_RowText k (d, l, ()) = some ((t, ()), ((), (), ())) ∧ t = cond (declOk d && partsOk d l) (rowT d l) [] := by
  cases hdo : declOk d with
  | false =>
    refine ⟨[], ?_, ?_, rfl⟩
    · unfold spec_RowText spec_PartsOk
      simp only [specDeclOk_is k hk d hd, hdo, bd_some, Bool.not_false, br_true, Option.bind_some]
    · unfold impl_RowText impl_PartsOk
      simp only [implDeclOk_is k hk hk2 d hd, hdo, bd_some, br_false, Option.bind_some, Bool.not_false, br_true]
  | true =>
    have hf := (decl_flags hdo).2.1
    unfold spec_RowText impl_RowText impl_PartsOk
    simp only [specPartsOk_is k hk d hd hdo l hl, implDeclOk_is k hk hk2 d hd, areParts_is k hk d hf l hl, hdo, bd_some, br_true, Option.bind_some]
    cases hP : partsOk d l with
    | false => exact ⟨[], by simp, by simp, rfl⟩
    | true =>
      obtain ⟨hn, hp⟩ := part_of hP
      have hS : ∀ p : PartT, ∃ s : List UInt8, p ∈ l → s = treeT d p.2.1 ∧ s.length ≤ 160000000 ∧ spec_TreeText k (d, (treeOf d p.2.1, ()), ()) = some ((s, ()), ((), (), ())) ∧ impl_Decl_treeText k (d, (treeOf d p.2.1, ()), ()) = some ((s, ()), ((), (), ())) := by
        intro p
        by_cases h : p ∈ l
        · obtain ⟨s, hs⟩ := treeTexts k hk hk2 d hd hdo p.2.1 (hl.e p h) (hw p h) (hp p h).2
          exact ⟨s, fun _ => hs⟩
        · exact ⟨[], fun h' => absurd h' h⟩
      obtain ⟨S, hS⟩ := Classical.axiomOfChoice hS
      have hq : ∀ x ∈ l.map (fun p => (tokT p.1 ++ [32]) ++ S p), x.length ≤ 160000201 := by
        intro x hx
        obtain ⟨p, hp', rfl⟩ := List.mem_map.1 hx
        have h1 := tokT_len (hp p hp').1
        have h2 := (hS p hp').2.1
        simp only [List.length_append, List.length_cons, List.length_nil]
        omega
      have hml : (l.map (fun p => (tokT p.1 ++ [32]) ++ S p)).length ≤ 100 := by rw [List.length_map]; exact hn
      have hcost : (l.map (fun p => (tokT p.1 ++ [32]) ++ S p)).length * (160000201 + ([32, 47, 32] : List UInt8).length) ≤ 140737488355328 := Nat.le_trans (Nat.mul_le_mul_right _ hml) (by decide)
      have j1 := l13Joined_is k (l.map (fun p => (tokT p.1 ++ [32]) ++ S p)) [32, 47, 32] (by omega) hk2 160000201 hq (by omega)
      have j2 := lbJoin_is k (l.map (fun p => (tokT p.1 ++ [32]) ++ S p)) [32, 47, 32] 160000201 hq (by omega) hcost
      have key : ∀ (i : Nat) (hi : i < l.length), spec_TreeOf k (d, l[i].2.1, ()) = some (((treeOf d l[i].2.1, ()), ()), ((), (), ())) ∧ impl_Decl_treeOf k (d, l[i].2.1, ()) = some (((treeOf d l[i].2.1, ()), ()), ((), (), ())) := by
        intro i hi
        have hm := List.getElem_mem hi
        constructor
        · have := specTreeOf_is k hk d hd hdo l[i].2.1 (hl.m _ hm) (hl.e _ hm)
          rw [(hp _ hm).2] at this
          exact this
        · exact implTreeOf_is k hk d hdo l[i].2.1 (hl.e _ hm) (hp _ hm).2
      have hmap : l.map (fun p => (tokT p.1 ++ [32]) ++ S p) = l.map fun p => (tokT p.1 ++ [32]) ++ treeT d p.2.1 := List.map_congr_left fun p hp' => by rw [(hS p hp').1]
      refine ⟨if l.length = 0 then [110, 111, 110, 101] else join (l.map (fun p => (tokT p.1 ++ [32]) ++ S p)) [32, 47, 32], ?_, ?_, by simp only [Bool.and_self, cond_true, rowT, hmap]⟩
      · have hh := iter_for (b := spec_l13Row.l0 k) (fun i => (l, (d.1, d.2.1, d.2.2.1, ()), (l.take i).map (fun p => (tokT p.1 ++ [32]) ++ S p), (i : Int), ())) l.length (r := some ((if l.length = 0 then [110, 111, 110, 101] else join (l.map (fun p => (tokT p.1 ++ [32]) ++ S p)) [32, 47, 32], ()), ((), (), ()))) (fun G i hi => by
          have h3 : ((i : Int) < (l.length : Int)) := by omega
          have h4 : (0 : Int) ≤ (i : Int) := by omega
          have hm := List.getElem_mem hi
          obtain ⟨_, q1, q2, _⟩ := hS _ hm
          have q0 := tokT_len (hp _ hm).1
          have q3 : spec_TreeOf k ((d.1, d.2.1, d.2.2.1, ()), l[i].2.1, ()) = _ := (key i hi).1
          have q4 : spec_TreeText k ((d.1, d.2.1, d.2.2.1, ()), (treeOf d l[i].2.1, ()), ()) = _ := q2
          have b1 : (((tokT l[i].1).length + ([32] : List UInt8).length : Nat) : Int) ≤ maxInt64 := by simp only [List.length_cons, List.length_nil, maxInt64]; omega
          have b2 : (((tokT l[i].1 ++ [32]).length + (S l[i]).length : Nat) : Int) ≤ maxInt64 := by simp only [List.length_append, List.length_cons, List.length_nil, maxInt64]; omega
          have b3 : (((l.take i).map (fun p => (tokT p.1 ++ [32]) ++ S p)).length + ([(tokT l[i].1 ++ [32]) ++ S l[i]] : List (List UInt8)).length) * 16 ≤ maxBytes := by simp only [List.length_map, List.length_take, List.length_cons, List.length_nil, maxBytes]; omega
          simp only [spec_l13Row.l0, br_dec, if_pos h3, if_pos h4, Int.toNat_natCast, List.getElem?_eq_getElem hi, bd_some, specTokT_is k hk _ (hp _ hm).1, if_pos b1, q3, q4, if_pos b2, if_pos b3]
          rw [wrap_succ (by omega), map_next _ hi]) (fun G => by
          have h3 : ¬ ((l.length : Int) < (l.length : Int)) := by omega
          simp only [spec_l13Row.l0, br_dec, if_neg h3, List.take_length, br_beq, List.length_map, j1, bd_some]
          by_cases hz : l.length = 0
          · rw [if_pos (by omega), if_pos hz]
          · rw [if_neg (by omega), if_neg hz]) (f := k) (by omega)
        have hh' : spec_l13Row k (d, l, ()) = _ := hh
        simp only [Bool.not_true, br_false, hh', bd_some]
      · have hh := iter_for (b := impl_orNone_impl_Part.l0 k) (fun i => (((d.1, d.2.1, d.2.2.1, ()), ()), (l.take i).map (fun p => (tokT p.1 ++ [32]) ++ S p), l, (l.length : Int), (i : Int), ())) l.length (r := some ((if l.length = 0 then [110, 111, 110, 101] else join (l.map (fun p => (tokT p.1 ++ [32]) ++ S p)) [32, 47, 32], ()), ((), ((d.1, d.2.1, d.2.2.1, ()), ()), ()))) (fun G i hi => by
          have h3 : ((i : Int) < (l.length : Int)) := by omega
          have h4 : (0 : Int) ≤ (i : Int) := by omega
          have hm := List.getElem_mem hi
          obtain ⟨_, q1, _, q2⟩ := hS _ hm
          have q0 := tokT_len (hp _ hm).1
          have q3 : impl_Decl_treeOf k ((d.1, d.2.1, d.2.2.1, ()), l[i].2.1, ()) = _ := (key i hi).2
          have q4 : impl_Decl_treeText k ((d.1, d.2.1, d.2.2.1, ()), (treeOf d l[i].2.1, ()), ()) = _ := q2
          have b1 : (((tokT l[i].1).length + ([32] : List UInt8).length : Nat) : Int) ≤ maxInt64 := by simp only [List.length_cons, List.length_nil, maxInt64]; omega
          have b2 : (((tokT l[i].1 ++ [32]).length + (S l[i]).length : Nat) : Int) ≤ maxInt64 := by simp only [List.length_append, List.length_cons, List.length_nil, maxInt64]; omega
          have b3 : (((l.take i).map (fun p => (tokT p.1 ++ [32]) ++ S p)).length + ([(tokT l[i].1 ++ [32]) ++ S l[i]] : List (List UInt8)).length) * 16 ≤ maxBytes := by simp only [List.length_map, List.length_take, List.length_cons, List.length_nil, maxBytes]; omega
          simp only [impl_orNone_impl_Part.l0, impl_RowText_1, br_dec, if_pos h3, if_pos h4, Int.toNat_natCast, List.getElem?_eq_getElem hi, bd_some, implTokT_is k hk _ (hp _ hm).1, if_pos b1, q3, q4, if_pos b2, if_pos b3]
          rw [wrap_succ (by omega), map_next _ hi]) (fun G => by
          have h3 : ¬ ((l.length : Int) < (l.length : Int)) := by omega
          simp only [impl_orNone_impl_Part.l0, br_dec, if_neg h3, List.take_length, br_beq, List.length_map, j2, bd_some]
          by_cases hz : l.length = 0
          · rw [if_pos (by omega), if_pos hz]
          · rw [if_neg (by omega), if_neg hz]) (f := k) (by omega)
        have hh' : impl_orNone_impl_Part k (l, ((d.1, d.2.1, d.2.2.1, ()), ()), ()) = _ := hh
        simp only [Bool.not_true, br_false, hh', bd_some]

abbrev partKd' : Kd := .cons (.sl false (.cons (.int .i64) (.cons (.int .i64) .nil))) (.cons (.sl false envKd) .nil)

end Go.Pev.F
end

section
/-
  Unlike tables have trees with unlike texts.
-/
set_option linter.unusedVariables false
set_option linter.unusedSimpArgs false
namespace Go.Pev.F

/-- A leaf's bounds: right ones, that fit. -/
structure LeafOk (d : DeclT) (e : EnvT) : Prop where
  f : envFits d e = true
  w : envKd.WF e

theorem LeafOk.fine {d : DeclT} (hdo : declOk d = true) {e : EnvT} (h : LeafOk d e) : e.1 = true → Fine d e := fun he => fine_of (by rw [envOk, hdo, h.f]; rfl) he h.w
theorem LeafOk.dead {d : DeclT} {e : EnvT} (h : LeafOk d e) (he : e.1 = false) : e.2.1 = [] ∧ e.2.2.1 = [] := by
  have := h.f
  simp only [envFits, he, cond_false, Bool.and_eq_true, beq_iff_eq] at this
  exact ⟨List.eq_nil_of_length_eq_zero (by omega), List.eq_nil_of_length_eq_zero (by omega)⟩

theorem leaf_inj {d : DeclT} (hdo : declOk d = true) {e f : EnvT} (he : LeafOk d e) (hf : LeafOk d f) {r s : List UInt8} (h : (([91] : List UInt8) ++ envT d e) ++ [93] ++ r = (([91] : List UInt8) ++ envT d f) ++ [93] ++ s) : e = f ∧ r = s := by
  have h' : envT d e ++ 93 :: r = envT d f ++ 93 :: s := by simpa using h
  obtain ⟨h1, h2⟩ := app_sep (envT_no hdo (by decide) (by decide) (by decide) (by decide) (by decide)) (envT_no hdo (by decide) (by decide) (by decide) (by decide) (by decide)) h'
  exact ⟨envT_inj hdo (he.fine hdo) (hf.fine hdo) he.dead hf.dead h1, h2⟩

theorem nodeT_node (d : DeclT) (l : List NodeT) (m a : Nat) {x : NodeT} (hx : l[a]? = some x) (h : ¬ x.1 = -1) : nodeT d l (m + 1) a = ((((d.2.1.getD x.1.toNat [] ++ [40]) ++ nodeT d l m x.2.2.1.toNat) ++ [32, 124, 32]) ++ nodeT d l m x.2.1.toNat) ++ [41] := by
  simp only [nodeT, hx, if_neg h]

theorem flag_head {d : DeclT} (hdo : declOk d = true) {i : Nat} (hi : i < d.2.1.length) : ∃ c r, d.2.1.getD i [] = c :: r ∧ letter c = true ∧ (40 : UInt8) ∉ d.2.1.getD i [] := by
  obtain ⟨_, n1, _, _⟩ := decl_names hdo
  have hm : d.2.1.getD i [] ∈ d.2.1 := by
    simp only [List.getD, List.getElem?_eq_getElem hi, Option.getD_some]
    exact List.getElem_mem hi
  have hn := n1 _ hm
  have h40 := name_no hn (c := 40) (by decide)
  cases hs : d.2.1.getD i [] with
  | nil => exact absurd hs (name_ne hn)
  | cons c r =>
    rw [hs] at hn h40
    refine ⟨c, r, rfl, ?_, h40⟩
    simp only [nameOk, Bool.and_eq_true, List.all_eq_true] at hn
    exact hn.1 c (by simp)

theorem nodeT_inj {d : DeclT} (hdo : declOk d = true) {l l' : List NodeT} (hg : Good (LeafOk d) d.2.1.length l) (hg' : Good (LeafOk d) d.2.1.length l') :
    ∀ (m m' a a' : Nat) (x x' : NodeT), l[a]? = some x → l'[a']? = some x' → (x.1 = -1 ∨ (d.2.1.length : Int) - x.1 ≤ m) → (x'.1 = -1 ∨ (d.2.1.length : Int) - x'.1 ≤ m') →
    ∀ r r' : List UInt8, nodeT d l m a ++ r = nodeT d l' m' a' ++ r' → r = r' ∧ ∀ j : Int, askT l j (m + 1) a = askT l' j (m' + 1) a' := by
  intro m
  induction m with
  | zero =>
    intro m' a a' x x' hx hx' hm hm' r r' h
    obtain ⟨ha, e⟩ := List.getElem?_eq_some_iff.1 hx
    obtain ⟨ha', e'⟩ := List.getElem?_eq_some_iff.1 hx'
    have h1 : x.1 = -1 := by
      rcases hm with h | h
      · exact h
      · rcases e ▸ hg a ha with ⟨h, _⟩ | ⟨_, h', _⟩
        · exact h
        · omega
    have lx : LeafOk d (envOf x) := by
      rcases e ▸ hg a ha with ⟨_, h⟩ | ⟨h, _⟩
      · exact h
      · omega
    rw [nodeT_leaf d l 0 a hx h1] at h
    by_cases h1' : x'.1 = -1
    · have lx' : LeafOk d (envOf x') := by
        rcases e' ▸ hg' a' ha' with ⟨_, h⟩ | ⟨h, _⟩
        · exact h
        · omega
      rw [nodeT_leaf d l' m' a' hx' h1'] at h
      obtain ⟨h2, h3⟩ := leaf_inj hdo lx lx' h
      refine ⟨h3, fun j => ?_⟩
      simp only [askT, hx, hx', if_pos h1, if_pos h1', h2]
    · rcases e' ▸ hg' a' ha' with ⟨h, _⟩ | ⟨f0, f1, _⟩
      · exact absurd h h1'
      · obtain ⟨m', rfl⟩ : ∃ g, m' = g + 1 := ⟨m' - 1, by rcases hm' with h | h <;> omega⟩
        rw [nodeT_node d l' m' a' hx' h1'] at h
        obtain ⟨c, q, hc, hl, _⟩ := flag_head hdo (i := x'.1.toNat) (by omega)
        rw [hc] at h
        have := (List.cons.inj (by simpa using h : (91 : UInt8) :: _ = c :: _)).1
        rw [← this] at hl
        cases hl
  | succ m ih =>
    intro m' a a' x x' hx hx' hm hm' r r' h
    obtain ⟨ha, e⟩ := List.getElem?_eq_some_iff.1 hx
    obtain ⟨ha', e'⟩ := List.getElem?_eq_some_iff.1 hx'
    by_cases h1 : x.1 = -1
    · have lx : LeafOk d (envOf x) := by
        rcases e ▸ hg a ha with ⟨_, h⟩ | ⟨h, _⟩
        · exact h
        · omega
      rw [nodeT_leaf d l (m + 1) a hx h1] at h
      by_cases h1' : x'.1 = -1
      · have lx' : LeafOk d (envOf x') := by
          rcases e' ▸ hg' a' ha' with ⟨_, h⟩ | ⟨h, _⟩
          · exact h
          · omega
        rw [nodeT_leaf d l' m' a' hx' h1'] at h
        obtain ⟨h2, h3⟩ := leaf_inj hdo lx lx' h
        refine ⟨h3, fun j => ?_⟩
        simp only [askT, hx, hx', if_pos h1, if_pos h1', h2]
      · rcases e' ▸ hg' a' ha' with ⟨h, _⟩ | ⟨f0, f1, _⟩
        · exact absurd h h1'
        · obtain ⟨m', rfl⟩ : ∃ g, m' = g + 1 := ⟨m' - 1, by rcases hm' with h | h <;> omega⟩
          rw [nodeT_node d l' m' a' hx' h1'] at h
          obtain ⟨c, q, hc, hl, _⟩ := flag_head hdo (i := x'.1.toNat) (by omega)
          rw [hc] at h
          have := (List.cons.inj (by simpa using h : (91 : UInt8) :: _ = c :: _)).1
          rw [← this] at hl
          cases hl
    · rcases e ▸ hg a ha with ⟨h, _⟩ | ⟨f0, f1, c1, c2⟩
      · exact absurd h h1
      obtain ⟨c, q, hc, hl, h40⟩ := flag_head hdo (i := x.1.toNat) (by omega)
      rw [nodeT_node d l m a hx h1] at h
      by_cases h1' : x'.1 = -1
      · rw [nodeT_leaf d l' m' a' hx' h1', hc] at h
        have := (List.cons.inj (by simpa using h : c :: _ = (91 : UInt8) :: _)).1
        rw [this] at hl
        cases hl
      · rcases e' ▸ hg' a' ha' with ⟨h, _⟩ | ⟨f0', f1', c1', c2'⟩
        · exact absurd h h1'
        obtain ⟨m', rfl⟩ : ∃ g, m' = g + 1 := ⟨m' - 1, by rcases hm' with h | h <;> omega⟩
        rw [nodeT_node d l' m' a' hx' h1'] at h
        obtain ⟨c', q', hc', hl', h40'⟩ := flag_head hdo (i := x'.1.toNat) (by omega)
        have h' : d.2.1.getD x.1.toNat [] ++ 40 :: (nodeT d l m x.2.2.1.toNat ++ ([32, 124, 32] ++ (nodeT d l m x.2.1.toNat ++ ([41] ++ r)))) = d.2.1.getD x'.1.toNat [] ++ 40 :: (nodeT d l' m' x'.2.2.1.toNat ++ ([32, 124, 32] ++ (nodeT d l' m' x'.2.1.toNat ++ ([41] ++ r')))) := by
          simpa [List.append_assoc] using h
        obtain ⟨h2, h3⟩ := app_sep h40 h40' h'
        have hxx : x.1 = x'.1 := by
          have hi : x.1.toNat < d.2.1.length := by omega
          have hi' : x'.1.toNat < d.2.1.length := by omega
          simp only [List.getD, List.getElem?_eq_getElem hi, List.getElem?_eq_getElem hi', Option.getD_some] at h2
          have := (decl_names hdo).2.2.2 _ _ hi hi' h2
          omega
        have sub : ∀ (l : List NodeT) (m a : Nat) (x : NodeT) (c : Int), (x.1 = -1 ∨ (d.2.1.length : Int) - x.1 ≤ ((m + 1 : Nat) : Int)) → ¬ x.1 = -1 → Good (LeafOk d) d.2.1.length l → a < l.length → child l a x.1 c → ∃ y, l[c.toNat]? = some y ∧ (y.1 = -1 ∨ (d.2.1.length : Int) - y.1 ≤ m) := by
          intro l m a x c hm h1 hg ha hc
          obtain ⟨g0, g1, g2⟩ := hc
          have hi : c.toNat < l.length := by omega
          refine ⟨l[c.toNat], List.getElem?_eq_getElem hi, ?_⟩
          exact (g2 _ (List.getElem?_eq_getElem hi)).imp id fun h => by rcases hm with h' | h' <;> omega
        obtain ⟨y1, ey1, my1⟩ := sub l m a x _ hm h1 hg ha c1
        obtain ⟨y2, ey2, my2⟩ := sub l m a x _ hm h1 hg ha c2
        obtain ⟨z1, ez1, mz1⟩ := sub l' m' a' x' _ hm' h1' hg' ha' c1'
        obtain ⟨z2, ez2, mz2⟩ := sub l' m' a' x' _ hm' h1' hg' ha' c2'
        obtain ⟨h4, k4⟩ := ih m' _ _ y2 z2 ey2 ez2 my2 mz2 _ _ h3
        obtain ⟨h5, k5⟩ := ih m' _ _ y1 z1 ey1 ez1 my1 mz1 _ _ (List.append_cancel_left h4)
        refine ⟨List.append_cancel_left h5, fun j => ?_⟩
        have ux : askT l j (m + 1 + 1) a = if bitB j x.1 = true then askT l j (m + 1) x.2.2.1.toNat else askT l j (m + 1) x.2.1.toNat := by
          rw [askT, hx]; simp only [if_neg h1]
        have ux' : askT l' j (m' + 1 + 1) a' = if bitB j x'.1 = true then askT l' j (m' + 1) x'.2.2.1.toNat else askT l' j (m' + 1) x'.2.1.toNat := by
          rw [askT, hx']; simp only [if_neg h1']
        rw [ux, ux', hxx, k4 j, k5 j]

/-- A built tree asked. -/
theorem treeOf_ask {P : EnvT → Prop} {d : DeclT} (hf : d.2.1.length ≤ 3) {T : List EnvT} (hT : ∀ e ∈ T, P e) (hd : P noEnv) (hne : treeOf d T ≠ []) : ∀ j : Nat, j < 2 ^ d.2.1.length → askT (treeOf d T) (j : Int) (d.2.1.length + 1) ((treeOf d T).length - 1) = T.getD j noEnv := by
  have hlast : (bld d.2.1.length T d.2.1.length 0 []).2 = (treeOf d T).length - 1 := by
    rcases (bld_last hT hd d.2.1.length 0 [] (Nat.le_refl _) (fun i hi => absurd hi (by simp))).1 with h | ⟨h, _⟩
    · exact absurd h hne
    · unfold treeOf; omega
  intro j hj
  rw [← hlast]
  exact bld_ask hf hT hd d.2.1.length 0 [] (Nat.le_refl _) (fun i hi => absurd hi (by simp)) (treeOf d T) (fun _ _ h => h) j hj (by rw [Nat.sub_self, Nat.pow_zero, Nat.mod_one]) d.2.1.length (Nat.le_refl _)

theorem treeT_inj {d : DeclT} (hdo : declOk d = true) {T S : List EnvT} (hT : tableOk d T = true) (hS : tableOk d S = true) (wT : ∀ e ∈ T, envKd.WF e) (wS : ∀ e ∈ S, envKd.WF e) (h : treeT d T = treeT d S) : T = S := by
  have hf := (decl_flags hdo).2.1
  have w0 : envKd.WF noEnv := by simp [noEnv, Kd.WF]
  have lT : ∀ e ∈ T, LeafOk d e := fun e he => ⟨table_fits hT e he, wT e he⟩
  have lS : ∀ e ∈ S, LeafOk d e := fun e he => ⟨table_fits hS e he, wS e he⟩
  have l0 : LeafOk d noEnv := ⟨fits_no d, w0⟩
  have good : ∀ {T : List EnvT}, (∀ e ∈ T, LeafOk d e) → Good (LeafOk d) d.2.1.length (treeOf d T) := fun hl => (bld_good hl l0 d.2.1.length 0 [] (Nat.le_refl _) (fun i hi => absurd hi (by simp))).1
  have gT := good lT
  have gS := good lS
  have nT := (treeOf_good hdo hT).2.1
  have nS := (treeOf_good hdo hS).2.1
  have root : ∀ {l : List NodeT}, Good (LeafOk d) d.2.1.length l → l ≠ [] → ∃ x, l[l.length - 1]? = some x ∧ (x.1 = -1 ∨ (d.2.1.length : Int) - x.1 ≤ d.2.1.length) := by
    intro l hg hn
    have hp : 0 < l.length := List.length_pos_iff.2 hn
    have hi : l.length - 1 < l.length := by omega
    refine ⟨_, List.getElem?_eq_getElem hi, ?_⟩
    rcases hg _ hi with ⟨h, _⟩ | ⟨h, _⟩
    · exact Or.inl h
    · exact Or.inr (by omega)
  obtain ⟨x, hx, mx⟩ := root gT nT
  obtain ⟨y, hy, my⟩ := root gS nS
  have key := (nodeT_inj hdo gT gS _ _ _ _ x y hx hy mx my [] [] (by simpa [treeT] using h)).2
  have tl := table_len hT
  have sl := table_len hS
  refine List.ext_getElem (by omega) fun i h1 h2 => ?_
  have a1 := treeOf_ask hf lT l0 nT i (by omega)
  have a2 := treeOf_ask hf lS l0 nS i (by omega)
  have := key (i : Int)
  rw [a1, a2] at this
  simpa [List.getD, List.getElem?_eq_getElem h1, List.getElem?_eq_getElem h2] using this

theorem nodeT_ne {d : DeclT} (hdo : declOk d = true) {l : List NodeT} (hg : Good (LeafOk d) d.2.1.length l) {m a : Nat} {x : NodeT} (hx : l[a]? = some x) (hm : x.1 = -1 ∨ (d.2.1.length : Int) - x.1 ≤ m) : nodeT d l m a ≠ [] := by
  by_cases h1 : x.1 = -1
  · rw [nodeT_leaf d l m a hx h1]; simp
  · obtain ⟨ha, e⟩ := List.getElem?_eq_some_iff.1 hx
    rcases e ▸ hg a ha with ⟨h, _⟩ | ⟨f0, f1, _⟩
    · exact absurd h h1
    · obtain ⟨m, rfl⟩ : ∃ g, m = g + 1 := ⟨m - 1, by rcases hm with h | h <;> omega⟩
      rw [nodeT_node d l m a hx h1]; simp

theorem treeT_ne {d : DeclT} (hdo : declOk d = true) {T : List EnvT} (hT : tableOk d T = true) (wT : ∀ e ∈ T, envKd.WF e) : treeT d T ≠ [] := by
  have w0 : envKd.WF noEnv := by simp [noEnv, Kd.WF]
  have lT : ∀ e ∈ T, LeafOk d e := fun e he => ⟨table_fits hT e he, wT e he⟩
  have gT : Good (LeafOk d) d.2.1.length (treeOf d T) := (bld_good lT ⟨fits_no d, w0⟩ d.2.1.length 0 [] (Nat.le_refl _) (fun i hi => absurd hi (by simp))).1
  have nT := (treeOf_good hdo hT).2.1
  have hp : 0 < (treeOf d T).length := List.length_pos_iff.2 nT
  have hi : (treeOf d T).length - 1 < (treeOf d T).length := by omega
  refine nodeT_ne hdo gT (List.getElem?_eq_getElem hi) ?_
  rcases gT _ hi with ⟨h, _⟩ | ⟨h, _⟩
  · exact Or.inl h
  · exact Or.inr (by omega)
end Go.Pev.F
end

section
/-
  Unlike tables have trees with unlike texts: the law.
-/
set_option linter.unusedVariables false
set_option linter.unusedSimpArgs false
namespace Go.Pev.F

theorem t_big (k : Nat) (code : List Int) : Tot (laws_big k (code, ())) fun _ => True := by
  unfold laws_big
  exact Tot.ret trivial

/-- Small tables, right or not. -/
def TAny (t : List EnvT) : Prop := t.length ≤ 9 ∧ ∀ e ∈ t, EAny e

theorem t_drawTables (k : Nat) (hk : 4194304 < k) {code : List Int} (h1 : code.length ≤ 140737488351232) (h2 : ∀ x ∈ code, 0 ≤ x ∧ x ≤ 255) : Tot (spec_DrawTableJoin k (code, ())) fun y => DDr y.1.1 ∧ TAny y.1.2.1 ∧ TAny y.1.2.2.1 := by
  unfold spec_DrawTableJoin
  refine Tot.bd (P := fun y => DDr y.1.1 ∧ TAny y.1.2.1 ∧ TAny y.1.2.2.1) ?_ fun y hy => Tot.ret hy
  unfold spec_DrawTableLeq
  refine Tot.bd (t_open k h1 h2) fun y1 r1 => Tot.bd (t_decl k (by omega) r1) fun y2 h2 => Tot.bd (t_table k (by omega) h2.2 h2.1) fun y3 h3 => Tot.bd (t_table k (by omega) h3.2 h2.1) fun y4 h4 => Tot.bd (t_once k h4.2 2) fun y5 r5 => Tot.br (fun _ => ?_) fun _ => ?_
  · exact Tot.bd (t_join8 k (by omega) h2.1 h3.1 h4.1) fun y6 h6 => Tot.bd (t_hurtTable k r5 h2.1 h3.1) fun y7 h7 => Tot.bd (t_hurtTable k h7.2 h2.1 h6) fun y8 h8 => Tot.ret ⟨h2.1, h7.1, h8.1⟩
  · exact Tot.bd (t_hurtTable k r5 h2.1 h3.1) fun y7 h7 => Tot.bd (t_hurtTable k h7.2 h2.1 h4.1) fun y8 h8 => Tot.ret ⟨h2.1, h7.1, h8.1⟩

def okT (d : DeclT) (T : List EnvT) : Bool := declOk d && tableOk d T

theorem specTableOk_any (k : Nat) (hk : 4194304 < k) {d : DeclT} (hd : DSmall d) {T : List EnvT} (ht : T.length ≤ 1048576) (hs : ∀ e ∈ T, ESmall e) : spec_TableOk k (d, T, ()) = some ((okT d T, ()), ((), (), ())) := by
  cases hdo : declOk d with
  | true => rw [specTableOk_is k hk d hd hdo T ht hs, okT, hdo]; rfl
  | false =>
    unfold spec_TableOk
    simp only [specDeclOk_is k hk d hd, hdo, bd_some, Bool.not_false, br_true, Option.bind_some, okT, Bool.false_and]

theorem specTreeOf_any (k : Nat) (hk : 4194304 < k) {d : DeclT} (hd : DSmall d) {T : List EnvT} (ht : T.length ≤ 1048576) (hs : ∀ e ∈ T, ESmall e) : spec_TreeOf k (d, T, ()) = some (((cond (okT d T) (treeOf d T) [], ()), ()), ((), (), ())) := by
  cases hdo : declOk d with
  | true => rw [specTreeOf_is k hk d hd hdo T ht hs, okT, hdo]; rfl
  | false =>
    unfold spec_TreeOf
    simp only [specTableOk_any k hk hd ht hs, bd_some, okT, hdo, Bool.false_and, Bool.not_false, br_true, cond_false]

theorem implTreeOf_any (k : Nat) (hk : 4194304 < k) (hk2 : k ≤ 4611686018427387903) {d : DeclT} (hd : DSmall d) {T : List EnvT} (ht : T.length ≤ 1048576) (hs : ∀ e ∈ T, ESmall e) : impl_TreeOf k (d, T, ()) = some (((cond (okT d T) (treeOf d T) [], ()), ()), ((), (), ())) := by
  unfold impl_TreeOf impl_TableOk
  cases hdo : declOk d with
  | false => simp only [implDeclOk_is k hk hk2 d hd, hdo, bd_some, br_false, Option.bind_some, Bool.not_false, br_true, okT, Bool.false_and, cond_false]
  | true =>
    have hf := (decl_flags hdo).2.1
    simp only [implDeclOk_is k hk hk2 d hd, hdo, bd_some, br_true, isTable_is k hk d hf T ht hs, Option.bind_some, okT, Bool.true_and]
    cases hT : tableOk d T with
    | false => simp only [Bool.not_false, br_true, cond_false]
    | true => simp only [Bool.not_true, br_false, implTreeOf_is k hk d hdo T hs hT, bd_some, cond_true]

/-- A table's tree's text. -/
theorem text_any (k : Nat) (hk : 4194304 < k) (hk2 : k ≤ 4611686018427387903) {d : DeclT} (hd : DSmall d) {T : List EnvT} (hs : ∀ e ∈ T, ESmall e) (hw : ∀ e ∈ T, envKd.WF e) : ∃ t, spec_TreeText k (d, (cond (okT d T) (treeOf d T) [], ()), ()) = some ((t, ()), ((), (), ())) ∧ impl_TreeText k (d, (cond (okT d T) (treeOf d T) [], ()), ()) = some ((t, ()), ((), (), ())) ∧ (okT d T = true → t = treeT d T) := by
  cases hT : okT d T with
  | false =>
    obtain ⟨t, t1, t2⟩ := treeText_both k hk hk2 d hd [] (by simp) (by simp) (by simp)
    exact ⟨t, t1, t2, fun h => by cases h⟩
  | true =>
    simp only [okT, Bool.and_eq_true] at hT
    obtain ⟨hdo, hT⟩ := hT
    have hwn : ∀ x ∈ treeOf d T, envKd.WF (envOf x) := bld_all (fun y => envKd.WF (envOf y)) _ T (fun e he => hw e he) (by simp [envOf, leafN, noEnv, Kd.WF]) (fun _ _ _ => by simp [envOf, nodeN, Kd.WF]) _ _ _ (by simp)
    obtain ⟨t, t1, t2⟩ := treeText_both k hk hk2 d hd (treeOf d T) (by have := (treeOf_good hdo hT).2.2; omega) (treeOf_small hs) hwn
    obtain ⟨s, rfl, _, s1, _⟩ := treeTexts k hk hk2 d hd hdo T hs hw hT
    rw [t1] at s1
    exact ⟨t, t1, t2, fun _ => (Prod.mk.inj (Prod.mk.inj (Option.some.inj s1)).1).1⟩

theorem treeTexts_tot (k : Nat) (hk : 4194304 < k) (hk2 : k ≤ 4611686018427387903) {code : List Int} (h1 : code.length ≤ 140737488351232) (h2 : ∀ x ∈ code, 0 ≤ x ∧ x ≤ 255) : Tot (laws_FnTreeTexts k (code, ())) fun y => y.1.1 = true := by
  unfold laws_FnTreeTexts
  refine Tot.bd (t_big k code) fun y1 _ => Tot.br (fun _ => Tot.ret rfl) fun _ => Tot.bd (t_drawTables k hk h1 h2) fun y2 hy => ?_
  obtain ⟨hd, ⟨na, ea⟩, nb, eb⟩ := hy
  generalize y2.1.1 = d at hd
  generalize y2.1.2.1 = a at na ea
  generalize y2.1.2.2.1 = b at nb eb
  have sa : ∀ e ∈ a, ESmall e := fun e he => ⟨by have := (ea e he).n1; omega, by have := (ea e he).n2; omega⟩
  have sb : ∀ e ∈ b, ESmall e := fun e he => ⟨by have := (eb e he).n1; omega, by have := (eb e he).n2; omega⟩
  have wa : ∀ e ∈ a, envKd.WF e := fun e he => (ea e he).wf
  have wb : ∀ e ∈ b, envKd.WF e := fun e he => (eb e he).wf
  obtain ⟨s, s1, s2, s3⟩ := text_any k hk hk2 hd.s sa wa
  obtain ⟨t, t1, t2, t3⟩ := text_any k hk hk2 hd.s sb wb
  simp only [implTreeOf_any k hk hk2 hd.s (T := a) (by omega) sa, implTreeOf_any k hk hk2 hd.s (T := b) (by omega) sb, specTreeOf_any k hk hd.s (T := a) (by omega) sa, bd_some, s1, s2, t2, BEq.rfl, Bool.not_true, br_false, specTableOk_any k hk hd.s (T := a) (by omega) sa, specTableOk_any k hk hd.s (T := b) (by omega) sb]
  cases ha : okT d a with
  | false => rw [Bool.not_false, br_true]; exact Tot.ret rfl
  | true =>
    rw [Bool.not_true, br_false]
    cases hb : okT d b with
    | false => rw [Bool.not_false, br_true]; exact Tot.ret rfl
    | true =>
      rw [Bool.not_true, br_false]
      have es := s3 ha
      have et := t3 hb
      simp only [okT, Bool.and_eq_true] at ha hb
      have ns : (s == []) = false := by
        rw [es]; simpa using treeT_ne ha.1 ha.2 wa
      have nt : (t == []) = false := by
        rw [et]; simpa using treeT_ne ha.1 hb.2 wb
      rw [ns, Bool.not_false, br_true, nt, Bool.not_false, br_true]
      refine Tot.bind (P := fun y => y.1 = true) (Tot.bd (t_sameTable k (by omega) (by omega) ea) fun y17 h17 => Tot.ret ?_) fun j hj => Tot.ret hj
      rw [h17]
      have : (s == t) = decide (a = b) := by
        rw [Bool.eq_iff_iff, beq_iff_eq, decide_eq_true_iff, es, et]
        exact ⟨fun h => treeT_inj ha.1 ha.2 hb.2 wa wb h, fun h => by rw [h]⟩
      simp [this]

theorem FnTreeTexts_true (x : List Int × Unit) (hw : WFs [.sl false (.int .u8)] x) : ∃ k o, laws_FnTreeTexts k x = some ((true, ()), o) := by
  obtain ⟨code, ⟨⟩⟩ := x
  obtain ⟨⟨hlen, hby⟩, _⟩ := hw
  obtain ⟨⟨⟨b, ⟨⟩⟩, o⟩, e, h⟩ := treeTexts_tot 8388608 (by omega) (by omega) hlen fun x hx => hby x hx
  simp only at h
  subst h
  exact ⟨8388608, o, e⟩
end Go.Pev.F
end
