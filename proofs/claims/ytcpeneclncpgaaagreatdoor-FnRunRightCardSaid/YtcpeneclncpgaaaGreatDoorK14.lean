/-
  One step: the program's.
-/
import Derived.Test.YtcpeneclncpgaaaGreatDoorK13
import Derived.Test.YtcpeneclncpgaaaGreatDoorK12
set_option linter.unusedSimpArgs false
set_option linter.unusedVariables false
section
set_option linter.unusedVariables false
set_option linter.unusedSimpArgs false
namespace Go.Pev.F
abbrev MachT : Type := Names × Names × List ArrT × List LineT × List Int × List Int × Int × Int × List Int × List Bool × List (List Int) × Int × Int × List EntT × Unit
theorem cloneE_is (k : Nat) (t : List EntT) (h : t.length ≤ 3) : slices_Clone_impl_Entry_impl_Entry k (t, ()) = some ((t, ()), ((), ())) := by
  unfold slices_Clone_impl_Entry_impl_Entry
  have hm : (([] : List EntT).length + t.length) * 16 ≤ maxBytes := by simp only [List.length_nil, maxBytes]; omega
  cases t with
  | nil => simp [maxBytes]
  | cons x r => simp only [List.isEmpty_cons, br_false, br_dec, if_pos hm, List.nil_append]
def TokP (t : List EntT) : Prop := tokenOk t = true
theorem tokP_len {t : List EntT} (h : TokP t) : t.length ≤ 3 := by
  simp only [TokP, tokenOk, Bool.and_eq_true, decide_eq_true_eq] at h
  exact h.1
def withV (t : List EntT) (line pick : Int) : List EntT := if tokenOk t = true ∧ tokenOk [(line, pick, ())] = true then (if t.length < 3 then t ++ [(line, pick, ())] else t) else []
theorem withV_ok (t : List EntT) (line pick : Int) : TokP (withV t line pick) := by
  unfold withV TokP
  split
  · rename_i h
    split
    · simp only [tokenOk, Bool.and_eq_true, decide_eq_true_eq, List.all_append, List.length_append, List.length_cons, List.length_nil] at h ⊢
      exact ⟨by omega, h.1.2, h.2.2⟩
    · exact h.1
  · rfl
theorem with_is (k : Nat) (hk : 4194304 < k) (t : List EntT) (line pick : Int) : impl_TokenWith k (t, line, pick, ()) = some ((withV t line pick, ()), ((), (), (), ())) := by
  unfold impl_TokenWith withV
  simp only [implTokenOk_is k hk, bd_some]
  cases h1 : tokenOk t with
  | false => simp
  | true =>
    have hl := tokP_len (t := t) h1
    cases h2 : tokenOk [(line, pick, ())] with
    | false => simp
    | true =>
      have hm : (t.length + ([(line, pick, ())] : List EntT).length) * 16 ≤ maxBytes := by simp only [List.length_cons, List.length_nil, maxBytes]; omega
      simp only [Bool.not_true, br_false, cloneE_is k t hl, bd_some, br_dec, and_self, if_true, if_pos hm]
      by_cases h3 : t.length < 3
      · rw [if_pos (show (t.length : Int) < 3 by omega), if_pos h3]
      · rw [if_neg (show ¬ (t.length : Int) < 3 by omega), if_neg h3]
def countV (line : Int) (t : List EntT) : Nat := (t.filter fun e => e.1 == line).length
theorem count_is (k : Nat) (hk : 4194304 < k) (t : List EntT) (ht : t.length ≤ 3) (line : Int) : impl_countOf k (t, line, ()) = some (((countV line t : Int), ()), ((), (), ())) := by
  have gen : ∀ (n i f c : Nat), i + n = t.length → n < f → c ≤ i → iter (impl_countOf.l0 k) f (line, (c : Int), t, (t.length : Int), (i : Int), ()) = some ((((c + countV line (t.drop i) : Nat) : Int), ()), ((), (), ())) := by
    intro n
    induction n with
    | zero =>
      intro i f c hi hf hc
      obtain ⟨f, rfl⟩ : ∃ g, f = g + 1 := ⟨f - 1, by omega⟩
      have h2 : ¬ ((i : Int) < (t.length : Int)) := by omega
      rw [iter_succ, List.drop_of_length_le (by omega)]
      simp only [impl_countOf.l0, br_dec, if_neg h2, countV, List.filter_nil, List.length_nil, Nat.add_zero]
    | succ n ih =>
      intro i f c hi hf hc
      obtain ⟨f, rfl⟩ : ∃ g, f = g + 1 := ⟨f - 1, by omega⟩
      have hlt : i < t.length := by omega
      have h2 : ((i : Int) < (t.length : Int)) := by omega
      have h3 : (0 : Int) ≤ (i : Int) := by omega
      have hb : b2i (t[i].1 == line) = 0 ∨ b2i (t[i].1 == line) = 1 := b2i_bit _
      rw [iter_succ, List.drop_eq_getElem_cons hlt]
      simp only [impl_countOf.l0, br_dec, if_pos h2, if_pos h3, Int.toNat_natCast, List.getElem?_eq_getElem hlt, bd_some, truth_is]
      rw [wrap_succ (by omega)]
      cases he : (t[i].1 == line) with
      | true =>
        have ew : IntKind.wrap .i64 ((c : Int) + b2i true) = ((c + 1 : Nat) : Int) := by simp only [b2i, cond_true]; exact wrap_succ (by omega)
        rw [ew, ih (i + 1) f (c + 1) (by omega) (by omega) (by omega)]
        simp only [countV, List.filter_cons, he, if_true, List.length_cons]
        rw [Nat.add_assoc, Nat.add_comm 1]
      | false =>
        have ew : IntKind.wrap .i64 ((c : Int) + b2i false) = ((c : Nat) : Int) := by simp only [b2i, cond_false]; rw [wrap_i64 (by omega) (by omega)]; omega
        rw [ew, ih (i + 1) f c (by omega) (by omega) (by omega)]
        simp only [countV, List.filter_cons, he, Bool.false_eq_true, if_false]
  have h := gen t.length 0 k 0 (by omega) (by omega) (Nat.le_refl _)
  simp only [List.drop_zero, Nat.zero_add] at h
  exact h
def pickV (n : LineT) (v : Int) : Int := if n.2.2.2.2.1 ≤ v ∧ v ≤ n.2.2.2.2.2.1 then IntKind.wrap .i64 (v - n.2.2.2.2.1) else IntKind.wrap .i64 (IntKind.wrap .i64 (n.2.2.2.2.2.1 - n.2.2.2.2.1) + 1)
theorem pick_is (k : Nat) (n : LineT) (v : Int) : impl_pickOf k (n, v, ()) = some ((pickV n v, ()), ((), (), ())) := by
  unfold impl_pickOf pickV
  simp only [within_is, bd_some]
  by_cases h : n.2.2.2.2.1 ≤ v ∧ v ≤ n.2.2.2.2.2.1
  · rw [decide_eq_true h, if_pos h, Bool.not_true, br_false]
  · rw [decide_eq_false h, if_neg h, Bool.not_false, br_true]
def markV (t : List EntT) (line : Int) (n : LineT) (v : Int) : List EntT :=
  if n.1 = 6 then withV t line v
  else if n.1 = 10 then (if v = 1 ∧ (countV line t : Int) < n.2.2.2.2.1 then withV t line 1 else t)
  else if n.1 = 13 then withV t line (pickV n v)
  else if n.1 = 14 then [] else t
theorem markV_ok {t : List EntT} (ht : TokP t) (line : Int) (n : LineT) (v : Int) : TokP (markV t line n v) := by
  unfold markV
  split
  · exact withV_ok _ _ _
  split
  · split
    · exact withV_ok _ _ _
    · exact ht
  split
  · exact withV_ok _ _ _
  split
  · rfl
  · exact ht
theorem mark_is (k : Nat) (hk : 4194304 < k) (m0 m1 : Names) (m2 : List ArrT) (m3 : List LineT) (m4 m5 : List Int) (m6 m7 : Int) (m8 : List Int) (m9 : List Bool) (m10 : List (List Int)) (m11 m12 : Int) (m13 : List EntT) (ht : TokP m13) (n : LineT) (v : Int) :
    impl_machine_mark k ((m0, m1, m2, m3, m4, m5, m6, m7, m8, m9, m10, m11, m12, m13, ()), n, v, ()) = some ((()), ((m0, m1, m2, m3, m4, m5, m6, m7, m8, m9, m10, m11, m12, markV m13 m7 n v, ()), (), (), ())) := by
  unfold impl_machine_mark markV
  simp only [br_beq, with_is k hk, count_is k hk m13 (tokP_len ht), pick_is, bd_some]
  by_cases h6 : n.1 = 6
  · simp only [if_pos h6]
  by_cases h10 : n.1 = 10
  · simp only [if_neg h6, if_pos h10]
    by_cases hv : v = 1
    · subst hv
      by_cases hlt : (countV m7 m13 : Int) < n.2.2.2.2.1
      · simp [hlt]
      · simp [hlt]
    · have : ¬ (v = 1 ∧ (countV m7 m13 : Int) < n.2.2.2.2.1) := fun h => hv h.1
      simp only [if_neg hv, if_neg this, Option.bind_some, br_false]
  by_cases h13 : n.1 = 13
  · simp only [if_neg h6, if_neg h10, if_pos h13]
  by_cases h14 : n.1 = 14
  · simp only [if_neg h6, if_neg h10, if_neg h13, if_pos h14]
  simp only [if_neg h6, if_neg h10, if_neg h13, if_neg h14]
structure Fix where
  m0 : Names
  m1 : Names
  m2 : List ArrT
  m3 : List LineT
  m4 : List Int
  m5 : List Int
  m6 : Int
  m11 : Int
def Fix.m (F : Fix) (ln : Int) (s : StoreT) (used : Int) (tok : List EntT) : MachT := (F.m0, F.m1, F.m2, F.m3, F.m4, F.m5, F.m6, ln, s.1, s.2.1, s.2.2.1, F.m11, used, tok, ())
def Comes (F : Fix) (q : Int × StoreT × Int × Int) (t : List EntT) (r : Option ((Int × Unit) × (MachT × Unit))) : Prop := r = some ((q.2.2.2, ()), (F.m q.1 q.2.1 q.2.2.1 t, ()))
theorem h32_is (k : Nat) (hk : 4194304 < k) (F : Fix) (ln : Int) (s : StoreT) (used : Int) (tok : List EntT) (ht : TokP tok) (n : LineT) (v code nx : Int) :
    Comes F (if code = 0 then nx else ln, s, used, code) (if code = 0 then markV tok ln n v else tok) (impl_machine_step.h32 k (F.m ln s used tok, (n.1, n.2.1, n.2.2.1, n.2.2.2.1, n.2.2.2.2.1, n.2.2.2.2.2.1, ()), v, code, nx, ())) := by
  unfold Comes Fix.m
  simp only [impl_machine_step.h32]
  by_cases hc : code = 0
  · subst hc
    have hm := mark_is k hk F.m0 F.m1 F.m2 F.m3 F.m4 F.m5 F.m6 ln s.1 s.2.1 s.2.2.1 F.m11 used tok ht n v
    have hm' : impl_machine_mark k ((F.m0, F.m1, F.m2, F.m3, F.m4, F.m5, F.m6, ln, s.1, s.2.1, s.2.2.1, F.m11, used, tok, ()), (n.1, n.2.1, n.2.2.1, n.2.2.2.1, n.2.2.2.2.1, n.2.2.2.2.2.1, ()), v, ()) = _ := hm
    have z : ((0 : Int) != 0) = false := rfl
    simp only [z, br_false, hm', bd_some, if_true]
  · have z : (code != 0) = true := by simpa using hc
    simp only [z, br_true, if_neg hc]
theorem set_same {α : Type} {l : List α} {i : Nat} {x : α} (h : l[i]? = some x) : l.set i x = l := by
  obtain ⟨h1, rfl⟩ := List.getElem?_eq_some_iff.1 h
  exact List.set_getElem_self h1
theorem storeI_is (k : Nat) (hk : 4194304 < k) {d : DeclT} (F : Fix) (ln : Int) {s : StoreT} (hs : SOk d s) (used : Int) (tok : List EntT) {n : LineT} (hn : LineV d n) (h3 : n.1 = 3) (inp : List Int) (nx : Int) :
    impl_machine_store k (F.m ln s used tok, n, ()) = some (((stepV n inp nx ln used s).2.2.2, ()), (F.m ln (stepV n inp nx ln used s).2.1 used tok, (), ())) := by
  obtain ⟨⟨a0, a1⟩, aI⟩ := hn.arr h3
  have aE := hn.ex (by rw [h3]; decide)
  have hlt : n.2.1.toNat < s.2.2.1.length := by rw [hs.n2]; exact a1
  have eI : impl_Store_eval k ((s.1, s.2.1, s.2.2.1, ()), n.2.2.1, ()) = _ := (eval_both k hk hs n.2.2.1 aI).2
  have eE : impl_Store_eval k ((s.1, s.2.1, s.2.2.1, ()), n.2.2.2.1, ()) = _ := (eval_both k hk hs n.2.2.2.1 aE).2
  have hc : 0 ≤ n.2.1 ∧ n.2.1 < (s.2.2.1.length : Int) := by omega
  have eg : s.2.2.1[n.2.1.toNat]? = some (rowV s n.2.1) := by unfold rowV; rw [getD_get hlt]; exact List.getElem?_eq_getElem hlt
  have hm : (rowV s n.2.1).length ≤ 1048576 := hs.m2 _ (by unfold rowV; rw [getD_get hlt]; exact List.getElem_mem _)
  have ess : s.2.2.1.set n.2.1.toNat (rowV s n.2.1) = s.2.2.1 := set_same eg
  unfold impl_machine_store stepV Fix.m impl_size_int64
  simp only [eI, eE, bd_some, if_pos h3]
  generalize evalV s [] n.2.2.1 = i
  generalize evalV s [] n.2.2.2.1 = e
  by_cases h1 : i.2 ≠ 0
  · have b1 : (i.2 != 0) = true := by simpa using h1
    simp only [b1, br_true, if_pos h1]
  · have b1 : (i.2 != 0) = false := by simpa using h1
    simp only [b1, br_false, if_neg h1, br_dec, if_pos hc, eg, bd_some]
    by_cases h2 : e.2 ≠ 0
    · have b2 : (e.2 != 0) = true := by simpa using h2
      simp only [b2, br_true, if_pos h2, ess]
    · have b2 : (e.2 != 0) = false := by simpa using h2
      simp only [b2, br_false, if_neg h2, within_is, bd_some]
      rw [wrap_i64 (n := ((rowV s n.2.1).length : Int) - 1) (by omega) (by omega)]
      by_cases hr : 0 ≤ i.1 ∧ i.1 ≤ ((rowV s n.2.1).length : Int) - 1
      · have q : 0 ≤ i.1 ∧ i.1 < ((rowV s n.2.1).length : Int) := by omega
        have q2 : i.1.toNat < (rowV s n.2.1).length := by omega
        simp only [decide_eq_true hr, Bool.not_true, br_false, if_pos q, List.getElem?_eq_getElem q2, bd_some, if_pos hr]
      · simp only [decide_eq_false hr, Bool.not_false, br_true, if_neg hr, ess]
def seenV (n : LineT) (s : StoreT) : Int := if n.1 = 13 then s.1.getD n.2.1.toNat 0 else (evalV s [] n.2.2.2.1).1
theorem Comes.to {F : Fix} {q q' : Int × StoreT × Int × Int} {t t' : List EntT} {r : Option ((Int × Unit) × (MachT × Unit))} (h : Comes F q t r) (e : q = q') (e2 : t = t') : Comes F q' t' r := e ▸ e2 ▸ h
def tokV (tok : List EntT) (ln : Int) (n : LineT) (s : StoreT) (code : Int) : List EntT := if code = 0 then markV tok ln n (seenV n s) else tok
theorem markV_plain (t : List EntT) (ln : Int) (n : LineT) (v w : Int) (h : n.1 ≠ 6 ∧ n.1 ≠ 10 ∧ n.1 ≠ 13) : markV t ln n v = markV t ln n w := by
  unfold markV
  rw [if_neg h.1, if_neg h.1, if_neg h.2.1, if_neg h.2.1, if_neg h.2.2, if_neg h.2.2]
theorem implStep_is (k : Nat) (hk : 4194304 < k) {d : DeclT} (F : Fix) (i : Nat) {n : LineT} (hl : F.m3[i]? = some n) (hn : LineV d n) (nx : Int) (hnx : F.m4[i]? = some nx) (hi30 : i < 1000) {s : StoreT} (hs : SOk d s) {used : Int} (h0 : 0 ≤ used) (h1 : used ≤ F.m5.length) (hinp : F.m5.length ≤ 1000) {tok : List EntT} (ht : TokP tok) :
    Comes F (stepV n F.m5 nx (i : Int) used s) (tokV tok i n s (stepV n F.m5 nx (i : Int) used s).2.2.2) (impl_machine_step k (F.m (i : Int) s used tok, ())) := by
  have hT : i < F.m4.length := (List.getElem?_eq_some_iff.1 hnx).1
  have c0 : (0 : Int) ≤ (i : Int) := by omega
  have c1 : 0 ≤ (i : Int) ∧ (i : Int) < (F.m4.length : Int) := by omega
  have ew := wrap_succ (i := i) (by omega)
  have eE : wantE n.1 > 0 → impl_Store_eval k ((s.1, s.2.1, s.2.2.1, ()), n.2.2.2.1, ()) = some (((evalV s [] n.2.2.2.1).1, (evalV s [] n.2.2.2.1).2, ()), ((), (), ())) := fun h => (eval_both k hk hs n.2.2.2.1 (hn.ex h)).2
  have eS : n.1 = 3 → impl_machine_store k ((F.m0, F.m1, F.m2, F.m3, F.m4, F.m5, F.m6, (i : Int), s.1, s.2.1, s.2.2.1, F.m11, used, tok, ()), n, ()) = some (((stepV n F.m5 nx i used s).2.2.2, ()), (F.m i (stepV n F.m5 nx i used s).2.1 used tok, (), ())) := fun h => storeI_is k hk F i hs used tok hn h F.m5 nx
  have H := fun (s' : StoreT) (u' v code nx' : Int) => h32_is k hk F (i : Int) s' u' tok ht n v code nx'
  have hvar := hn.var
  have hflag := hn.flag
  have hends := hn.ends
  have n0 := hs.n0
  have n1 := hs.n1
  obtain ⟨kd, v, I, E, lo, hi, ⟨⟩⟩ := n
  have hk14 := hn.kind
  simp only at hk14 hvar hflag hends eE eS
  show Comes F _ _ (impl_machine_step k ((F.m0, F.m1, F.m2, F.m3, F.m4, F.m5, F.m6, (i : Int), s.1, s.2.1, s.2.2.1, F.m11, used, tok, ()), ()))
  unfold impl_machine_step
  rcases kind_cases kd with rfl | rfl | rfl | rfl | rfl | rfl | rfl | rfl | rfl | rfl | rfl | rfl | rfl | rfl | hkk
  case inr.inr.inr.inr.inr.inr.inr.inr.inr.inr.inr.inr.inr.inr => omega
  case inr.inr.inl =>
    have e := eS rfl
    simp only [br_dec, if_pos c0, if_pos c1, Int.toNat_natCast, hl, hnx, bd_some, kindOfE_is, wantE, Int.reduceEq, ↓reduceIte, or_true, true_or, or_false, false_or, br_beq, Int.reduceBNe, Int.reduceGT, Int.reduceLT, br_true, br_false, Option.bind_some, jn_eq, impl_machine_step.h15, gt_iff_lt, bne_self_eq_false] at e ⊢
    rw [e]
    simp only [bd_some]
    have hq := step_ok hn F.m5 nx (i : Int) h0 h1 hs
    have hu : (stepV (3, v, I, E, lo, hi, ()) F.m5 nx i used s).2.2.1 = used := by
      unfold stepV
      simp only [if_true]
      split
      · rfl
      split
      · rfl
      split <;> rfl
    have hgo : (if (stepV (3, v, I, E, lo, hi, ()) F.m5 nx i used s).2.2.2 = 0 then nx else (i : Int)) = (stepV (3, v, I, E, lo, hi, ()) F.m5 nx i used s).1 := by
      unfold stepV
      simp only [if_true]
      split
      · rename_i h; simp only [if_neg h]
      split
      · rename_i h; simp only [if_neg h]
      split <;> simp
    refine Comes.to (H (stepV (3, v, I, E, lo, hi, ()) F.m5 nx i used s).2.1 used 0 (stepV (3, v, I, E, lo, hi, ()) F.m5 nx i used s).2.2.2 nx) ?_ ?_
    · refine Prod.ext hgo (Prod.ext rfl (Prod.ext hu.symm rfl))
    · unfold tokV
      rw [markV_plain tok i _ 0 (seenV (3, v, I, E, lo, hi, ()) s) (by simp)]
  case inr.inr.inr.inl =>
    obtain ⟨v0, v1⟩ := hvar (by omega)
    have vl : v.toNat < s.1.length := by omega
    have c2 : 0 ≤ v ∧ v < (s.1.length : Int) := by omega
    have he := ends_fits (hends rfl)
    have w1 : IntKind.wrap .i64 (IntKind.wrap .i64 (hi - lo) + 1) = hi - lo + 1 := by rw [wrap_i64 (n := hi - lo) (by omega) (by omega), wrap_i64 (by omega) (by omega)]
    simp only [br_dec, if_pos c0, if_pos c1, Int.toNat_natCast, hl, hnx, bd_some, kindOfE_is, wantE, Int.reduceEq, ↓reduceIte, or_true, true_or, or_false, false_or, br_beq, Int.reduceBNe, Int.reduceGT, Int.reduceLT, br_true, br_false, Option.bind_some, jn_eq, gt_iff_lt, bne_self_eq_false, impl_size_int64, w1]
    have stp : stepV (4, v, I, E, lo, hi, ()) F.m5 nx i used s = (nx, (s.1.set v.toNat (inV lo hi F.m5 used).1, s.2.1, s.2.2.1, ()), (inV lo hi F.m5 used).2, 0) := by
      unfold stepV; simp [wantE]
    have tk : tokV tok (i : Int) (4, v, I, E, lo, hi, ()) s 0 = markV tok (i : Int) (4, v, I, E, lo, hi, ()) 0 := by
      unfold tokV; rw [if_pos rfl]; exact markV_plain _ _ _ _ _ (by simp)
    rw [stp]
    simp only [tk]
    by_cases hu : used = (F.m5.length : Int)
    · have hin : inV lo hi F.m5 used = (lo, used) := by unfold inV; rw [if_pos (by omega)]
      simp only [if_pos hu, if_pos c2, List.getElem?_eq_getElem vl, bd_some, hin]
      exact Comes.to (H (s.1.set v.toNat lo, s.2.1, s.2.2.1, ()) used 0 0 nx) rfl rfl
    · have ul : used.toNat < F.m5.length := by omega
      have hin : inV lo hi F.m5 used = (inX lo hi (F.m5[used.toNat]), used + 1) := by unfold inV; rw [if_neg (by omega), getD_get ul]
      have hz : decide (hi - lo + 1 = 0) = false := decide_eq_false (by omega)
      obtain ⟨tm1, tm2⟩ := tmod_abs (F.m5[used.toNat]) (show 1 ≤ hi - lo + 1 by omega)
      have wu : IntKind.wrap .i64 (used + 1) = used + 1 := wrap_i64 (by omega) (by omega)
      simp only [if_neg hu, if_pos h0, List.getElem?_eq_getElem ul, bd_some, hz, Bool.not_false, br_true, if_pos c2, List.getElem?_eq_getElem vl, wu, hin]
      by_cases hneg : F.m5[used.toNat].tmod (hi - lo + 1) < 0
      · have w2 : IntKind.wrap .i64 (F.m5[used.toNat].tmod (hi - lo + 1) + (hi - lo + 1)) = F.m5[used.toNat].tmod (hi - lo + 1) + (hi - lo + 1) := wrap_i64 (by omega) (by omega)
        have w3 : IntKind.wrap .i64 (lo + (F.m5[used.toNat].tmod (hi - lo + 1) + (hi - lo + 1))) = lo + (F.m5[used.toNat].tmod (hi - lo + 1) + (hi - lo + 1)) := wrap_i64 (by omega) (by omega)
        have ex : inX lo hi F.m5[used.toNat] = lo + (F.m5[used.toNat].tmod (hi - lo + 1) + (hi - lo + 1)) := by unfold inX; rw [if_pos hneg]
        simp only [if_pos hneg, w2, w3, ex]
        exact Comes.to (H (s.1.set v.toNat (lo + (F.m5[used.toNat].tmod (hi - lo + 1) + (hi - lo + 1))), s.2.1, s.2.2.1, ()) (used + 1) 0 0 nx) rfl rfl
      · have w3 : IntKind.wrap .i64 (lo + F.m5[used.toNat].tmod (hi - lo + 1)) = lo + F.m5[used.toNat].tmod (hi - lo + 1) := wrap_i64 (by omega) (by omega)
        have ex : inX lo hi F.m5[used.toNat] = lo + F.m5[used.toNat].tmod (hi - lo + 1) := by unfold inX; rw [if_neg hneg]
        simp only [if_neg hneg, w3, ex]
        exact Comes.to (H (s.1.set v.toNat (lo + F.m5[used.toNat].tmod (hi - lo + 1)), s.2.1, s.2.2.1, ()) (used + 1) 0 0 nx) rfl rfl
  case inr.inr.inr.inr.inr.inr.inl =>
    simp only [br_dec, if_pos c0, if_pos c1, Int.toNat_natCast, hl, hnx, bd_some, kindOfE_is, wantE, Int.reduceEq, ↓reduceIte, or_true, true_or, or_false, false_or, or_self, br_beq, Int.reduceBNe, Int.reduceGT, Int.reduceLT, br_true, br_false, Option.bind_some, jn_eq, gt_iff_lt, bne_self_eq_false, impl_machine_step.h26]
    exact Comes.to (H s used 0 0 nx) (by unfold stepV; simp [wantE]) (by unfold tokV stepV; simp [wantE]; exact markV_plain _ _ _ _ _ (by simp))
  case inr.inr.inr.inr.inr.inr.inr.inl =>
    simp only [br_dec, if_pos c0, if_pos c1, Int.toNat_natCast, hl, hnx, bd_some, kindOfE_is, wantE, Int.reduceEq, ↓reduceIte, or_true, true_or, or_false, false_or, or_self, br_beq, Int.reduceBNe, Int.reduceGT, Int.reduceLT, br_true, br_false, Option.bind_some, jn_eq, gt_iff_lt, bne_self_eq_false, impl_machine_step.h26]
    exact Comes.to (H s used 0 0 nx) (by unfold stepV; simp [wantE]) (by unfold tokV stepV; simp [wantE]; exact markV_plain _ _ _ _ _ (by simp))
  case inr.inr.inr.inr.inr.inr.inr.inr.inr.inr.inr.inr.inr.inl =>
    simp only [br_dec, if_pos c0, if_pos c1, Int.toNat_natCast, hl, hnx, bd_some, kindOfE_is, wantE, Int.reduceEq, ↓reduceIte, or_true, true_or, or_false, false_or, or_self, br_beq, Int.reduceBNe, Int.reduceGT, Int.reduceLT, br_true, br_false, Option.bind_some, jn_eq, gt_iff_lt, bne_self_eq_false, impl_machine_step.h26]
    exact Comes.to (H s used 0 0 nx) (by unfold stepV; simp [wantE]) (by unfold tokV stepV; simp [wantE]; exact markV_plain _ _ _ _ _ (by simp))
  case inr.inr.inr.inr.inr.inr.inr.inr.inr.inr.inr.inr.inl =>
    obtain ⟨v0, v1⟩ := hvar (by omega)
    have vl : v.toNat < s.1.length := by omega
    have c2 : 0 ≤ v ∧ v < (s.1.length : Int) := by omega
    simp only [br_dec, if_pos c0, if_pos c1, Int.toNat_natCast, hl, hnx, bd_some, kindOfE_is, wantE, Int.reduceEq, ↓reduceIte, or_true, true_or, or_false, false_or, or_self, br_beq, Int.reduceBNe, Int.reduceGT, Int.reduceLT, br_true, br_false, Option.bind_some, jn_eq, gt_iff_lt, bne_self_eq_false, if_pos c2, List.getElem?_eq_getElem vl]
    exact Comes.to (H s used s.1[v.toNat] 0 nx) (by unfold stepV; simp [wantE]) (by unfold tokV stepV seenV; simp [wantE, vl])
  all_goals
    have e := eE (by decide)
    simp only [br_dec, if_pos c0, if_pos c1, Int.toNat_natCast, hl, hnx, bd_some, kindOfE_is, wantE, Int.reduceEq, ↓reduceIte, or_true, true_or, or_false, false_or, or_self, br_beq, Int.reduceBNe, Int.reduceGT, Int.reduceLT, br_true, br_false, Option.bind_some, jn_eq, gt_iff_lt, bne_self_eq_false, e, ew, impl_machine_step.h26, impl_machine_step.h22, impl_machine_step.h7]
    by_cases hc : (evalV s [] E).2 = 0
    rotate_left
    · have b1 : ((evalV s [] E).2 != 0) = true := by simpa using hc
      simp only [b1, br_true]
      have stp : ∀ n : LineT, n.1 ≠ 3 → wantE n.1 > 0 → n.2.2.2.1 = E → stepV n F.m5 nx i used s = ((i : Int), s, used, (evalV s [] E).2) := fun n h1 h2 h3 => by
        unfold stepV
        rw [if_neg h1, h3, if_pos ⟨h2, hc⟩]
      rw [stp _ (by simp) (by simp [wantE]) rfl]
      simp only [Comes, Fix.m, tokV, if_neg hc]
    have b1 : ((evalV s [] E).2 != 0) = false := by simpa using hc
    simp only [b1, br_false]
  · obtain ⟨v0, v1⟩ := hvar (by omega)
    have vl : v.toNat < s.1.length := by omega
    have c2 : 0 ≤ v ∧ v < (s.1.length : Int) := by omega
    simp only [if_pos c2, List.getElem?_eq_getElem vl, bd_some, hc]
    exact Comes.to (H (s.1.set v.toNat (evalV s [] E).1, s.2.1, s.2.2.1, ()) used (evalV s [] E).1 0 nx) (by unfold stepV; simp [wantE, hc]) (by unfold tokV stepV seenV; simp [wantE, hc])
  · obtain ⟨v0, v1⟩ := hflag rfl
    have vl : v.toNat < s.2.1.length := by omega
    have c2 : 0 ≤ v ∧ v < (s.2.1.length : Int) := by omega
    simp only [if_pos c2, List.getElem?_eq_getElem vl, bd_some, hc]
    exact Comes.to (H (s.1, s.2.1.set v.toNat ((evalV s [] E).1 == 1), s.2.2.1, ()) used (evalV s [] E).1 0 nx) (by unfold stepV; simp [wantE, hc]) (by unfold tokV stepV seenV; simp [wantE, hc])
  · by_cases hz : (evalV s [] E).1 = 1
    · simp only [if_pos hz, hc]
      exact Comes.to (H s used (evalV s [] E).1 0 ((i + 1 : Nat) : Int)) (by unfold stepV; simp [wantE, hc, hz]) (by unfold tokV stepV seenV; simp [wantE, hc, hz])
    · simp only [if_neg hz, hc]
      exact Comes.to (H s used (evalV s [] E).1 0 nx) (by unfold stepV; simp [wantE, hc, hz]) (by unfold tokV stepV seenV; simp [wantE, hc, hz])
  · by_cases hz : (evalV s [] E).1 = 1
    · simp only [if_pos hz, hc]
      exact Comes.to (H s used (evalV s [] E).1 0 ((i + 1 : Nat) : Int)) (by unfold stepV; simp [wantE, hc, hz]) (by unfold tokV stepV seenV; simp [wantE, hc, hz])
    · simp only [if_neg hz, hc]
      exact Comes.to (H s used (evalV s [] E).1 0 nx) (by unfold stepV; simp [wantE, hc, hz]) (by unfold tokV stepV seenV; simp [wantE, hc, hz])
  · by_cases hz : (evalV s [] E).1 = 1
    · simp only [if_pos hz, hc]
      exact Comes.to (H s used (evalV s [] E).1 0 ((i + 1 : Nat) : Int)) (by unfold stepV; simp [wantE, hc, hz]) (by unfold tokV stepV seenV; simp [wantE, hc, hz])
    · simp only [if_neg hz, hc]
      exact Comes.to (H s used (evalV s [] E).1 0 nx) (by unfold stepV; simp [wantE, hc, hz]) (by unfold tokV stepV seenV; simp [wantE, hc, hz])
  · by_cases hz : (evalV s [] E).1 = 1
    · simp only [if_pos hz, hc]
      exact Comes.to (H s used (evalV s [] E).1 0 ((i + 1 : Nat) : Int)) (by unfold stepV; simp [wantE, hc, hz]) (by unfold tokV stepV seenV; simp [wantE, hc, hz])
    · simp only [if_neg hz, hc]
      exact Comes.to (H s used (evalV s [] E).1 0 nx) (by unfold stepV; simp [wantE, hc, hz]) (by unfold tokV stepV seenV; simp [wantE, hc, hz])
  · by_cases hz : (evalV s [] E).1 = 0
    · simp only [if_pos hz]
      exact Comes.to (H s used (evalV s [] E).1 7 nx) (by unfold stepV; simp [wantE, hc, hz]) (by unfold tokV stepV seenV; simp [wantE, hc, hz])
    · simp only [if_neg hz, hc]
      exact Comes.to (H s used (evalV s [] E).1 0 nx) (by unfold stepV; simp [wantE, hc, hz]) (by unfold tokV stepV seenV; simp [wantE, hc, hz])
  · by_cases hz : (evalV s [] E).1 = 0
    · simp only [if_pos hz]
      exact Comes.to (H s used (evalV s [] E).1 3 nx) (by unfold stepV; simp [wantE, hc, hz]) (by unfold tokV stepV seenV; simp [wantE, hc, hz])
    · simp only [if_neg hz, hc]
      exact Comes.to (H s used (evalV s [] E).1 0 nx) (by unfold stepV; simp [wantE, hc, hz]) (by unfold tokV stepV seenV; simp [wantE, hc, hz])
end Go.Pev.F
end

section
/-
  One step: the reference's.
-/
set_option linter.unusedVariables false
set_option linter.unusedSimpArgs false
namespace Go.Pev.F
theorem copy_is (k : Nat) (hk : 4194304 < k) {d : DeclT} {s : StoreT} (hs : SOk d s) (hd : d.1.length ≤ 1000 ∧ d.2.1.length ≤ 1000 ∧ d.2.2.1.length ≤ 1000) : spec_l5Copy k (s, ()) = some ((s, ()), ((), ())) := by
  obtain ⟨s0, s1, s2, ⟨⟩⟩ := s
  have n0 := hs.n0
  have n1 := hs.n1
  have n2 := hs.n2
  have m2 := hs.m2
  simp only at n0 n1 n2 m2
  have c0 : (([] : List Int).length + s0.length) * 8 ≤ maxBytes := by simp only [List.length_nil, maxBytes]; omega
  have c1 : (([] : List Bool).length + s1.length) * 1 ≤ maxBytes := by simp only [List.length_nil, maxBytes]; omega
  have gen : ∀ (n i f : Nat), i + n = s2.length → n < f → iter (spec_l5Copy.l0 k) f ((s0, s1, s2, ()), ([], [], ([] : List (List Int)), ()), (s0, s1, s2.take i, ()), (i : Int), ()) = some (((s0, s1, s2, ()), ()), ((), ())) := by
    intro n
    induction n with
    | zero =>
      intro i f hi hf
      obtain ⟨f, rfl⟩ : ∃ g, f = g + 1 := ⟨f - 1, by omega⟩
      have h2 : ¬ ((i : Int) < (s2.length : Int)) := by omega
      rw [iter_succ]
      simp only [spec_l5Copy.l0, br_dec, if_neg h2]
      rw [List.take_of_length_le (by omega)]
    | succ n ih =>
      intro i f hi hf
      obtain ⟨f, rfl⟩ : ∃ g, f = g + 1 := ⟨f - 1, by omega⟩
      have hlt : i < s2.length := by omega
      have h2 : ((i : Int) < (s2.length : Int)) := by omega
      have h3 : (0 : Int) ≤ (i : Int) := by omega
      have hm := m2 _ (List.getElem_mem hlt)
      have c2 : (([] : List Int).length + s2[i].length) * 8 ≤ maxBytes := by simp only [List.length_nil, maxBytes]; omega
      have c3 : ((s2.take i).length + ([s2[i]] : List (List Int)).length) * 24 ≤ maxBytes := by simp only [List.length_take, List.length_cons, List.length_nil, maxBytes]; omega
      rw [iter_succ]
      simp only [spec_l5Copy.l0, br_dec, if_pos h2, if_pos h3, Int.toNat_natCast, List.getElem?_eq_getElem hlt, bd_some, if_pos c2, if_pos c3, List.nil_append]
      rw [wrap_succ (by omega), List.take_append_getElem hlt]
      exact ih (i + 1) f (by omega) (by omega)
  unfold spec_l5Copy
  simp only [br_dec, if_pos c0, if_pos c1, List.nil_append]
  exact gen s2.length 0 k (by omega) (by omega)
theorem specInput_is (k : Nat) (n : LineT) (he : endsB n.2.2.2.2.1 n.2.2.2.2.2.1 = true) (inp : List Int) (hinp : inp.length ≤ 1000) {used : Int} (h0 : 0 ≤ used) : spec_l5Input k (n, inp, used, ()) = some (((inV n.2.2.2.2.1 n.2.2.2.2.2.1 inp used).1, (inV n.2.2.2.2.1 n.2.2.2.2.2.1 inp used).2, ()), ((), (), (), ())) := by
  obtain ⟨kd, v, I, E, lo, hi, ⟨⟩⟩ := n
  have h := ends_fits he
  simp only at h
  have w1 : IntKind.wrap .i64 (IntKind.wrap .i64 (hi - lo) + 1) = hi - lo + 1 := by rw [wrap_i64 (n := hi - lo) (by omega) (by omega), wrap_i64 (by omega) (by omega)]
  unfold spec_l5Input inV
  simp only [br_dec, w1]
  by_cases hu : used ≥ (inp.length : Int)
  · simp only [if_pos hu]
  · have ul : used.toNat < inp.length := by omega
    have hz : decide (hi - lo + 1 = 0) = false := decide_eq_false (by omega)
    obtain ⟨t1, t2⟩ := tmod_abs (inp[used.toNat]) (show 1 ≤ hi - lo + 1 by omega)
    have w2 : IntKind.wrap .i64 (inp[used.toNat].tmod (hi - lo + 1) + (hi - lo + 1)) = inp[used.toNat].tmod (hi - lo + 1) + (hi - lo + 1) := wrap_i64 (by omega) (by omega)
    have wu : IntKind.wrap .i64 (used + 1) = used + 1 := wrap_i64 (by omega) (by omega)
    have et : (inp[used.toNat].tmod (hi - lo + 1) + (hi - lo + 1)).tmod (hi - lo + 1) = if inp[used.toNat].tmod (hi - lo + 1) < 0 then inp[used.toNat].tmod (hi - lo + 1) + (hi - lo + 1) else inp[used.toNat].tmod (hi - lo + 1) := by
      rw [Int.tmod_eq_emod_of_nonneg (by omega)]
      split
      · exact Int.emod_eq_of_lt (by omega) (by omega)
      · have : (inp[used.toNat].tmod (hi - lo + 1) + (hi - lo + 1)) % (hi - lo + 1) = inp[used.toNat].tmod (hi - lo + 1) % (hi - lo + 1) := by simp
        rw [this]
        exact Int.emod_eq_of_lt (by omega) (by omega)
    have ex : IntKind.wrap .i64 (lo + (inp[used.toNat].tmod (hi - lo + 1) + (hi - lo + 1)).tmod (hi - lo + 1)) = inX lo hi inp[used.toNat] := by
      rw [et]
      unfold inX
      split
      · exact wrap_i64 (by omega) (by omega)
      · exact wrap_i64 (by omega) (by omega)
    simp only [if_neg hu, if_pos h0, List.getElem?_eq_getElem ul, bd_some, hz, Bool.not_false, br_true, w2, ex, wu, getD_get ul]
def SpecR (q : Int × StoreT × Int × Int) (r : Option ((Int × StoreT × Int × Int × Unit) × (Unit × Unit × Unit × Unit × Unit × Unit × Unit × Unit))) : Prop := r = some ((q.1, q.2.1, q.2.2.1, q.2.2.2, ()), ((), (), (), (), (), (), (), ()))
theorem SpecR.to {q q' : Int × StoreT × Int × Int} {r : Option ((Int × StoreT × Int × Int × Unit) × (Unit × Unit × Unit × Unit × Unit × Unit × Unit × Unit))} (h : SpecR q r) (e : q = q') : SpecR q' r := e ▸ h
theorem h8_bad (k : Nat) (nx cur : Int) (inp : List Int) (used : Int) (n : LineT) (s t : StoreT) (i e code : Int) (hc : code ≠ 0) :
    SpecR (cur, s, used, code) (spec_l5Step.h8 k (nx, cur, inp, used, (n.1, n.2.1, n.2.2.1, n.2.2.2.1, n.2.2.2.2.1, n.2.2.2.2.2.1, ()), (s.1, s.2.1, s.2.2.1, ()), (t.1, t.2.1, t.2.2.1, ()), i, e, code, ())) := by
  have b : (code != 0) = true := by simpa using hc
  unfold SpecR
  simp only [spec_l5Step.h8, b, br_true]
theorem h8_good (k : Nat) (hk : 4194304 < k) {d : DeclT} (hd : d.1.length ≤ 1000 ∧ d.2.1.length ≤ 1000 ∧ d.2.2.1.length ≤ 1000) {n : LineT} (hn : LineV d n) (inp : List Int) (hinp : inp.length ≤ 1000) (nx : Int) (cur : Nat) (hcur : cur < 1000) {used : Int} (h0 : 0 ≤ used) {s : StoreT} (hs : SOk d s) (t : StoreT) (i e : Int)
    (h3 : n.1 = 3 → evalV s [] n.2.2.1 = (i, 0)) (hE : wantE n.1 > 0 → evalV s [] n.2.2.2.1 = (e, 0)) :
    SpecR (stepV n inp nx cur used s) (spec_l5Step.h8 k (nx, (cur : Int), inp, used, (n.1, n.2.1, n.2.2.1, n.2.2.2.1, n.2.2.2.2.1, n.2.2.2.2.2.1, ()), (s.1, s.2.1, s.2.2.1, ()), (t.1, t.2.1, t.2.2.1, ()), i, e, 0, ())) := by
  have hcp : spec_l5Copy k ((s.1, s.2.1, s.2.2.1, ()), ()) = some ((s, ()), ((), ())) := copy_is k hk hs hd
  have ew := wrap_succ (i := cur) (by omega)
  have hvar := hn.var
  have hflag := hn.flag
  have harr := hn.arr
  have hends := hn.ends
  have n0 := hs.n0
  have n1 := hs.n1
  have n2 := hs.n2
  obtain ⟨kd, v, I, E, lo, hi, ⟨⟩⟩ := n
  have hk14 := hn.kind
  simp only at hk14 hvar hflag harr hends h3 hE
  rcases kind_cases kd with rfl | rfl | rfl | rfl | rfl | rfl | rfl | rfl | rfl | rfl | rfl | rfl | rfl | rfl | hkk
  case inr.inr.inr.inr.inr.inr.inr.inr.inr.inr.inr.inr.inr.inr => omega
  all_goals (simp only [spec_l5Step.h8, spec_l5Step.h28, spec_l5Step.h30, jn_eq, hcp, bd_some, br_beq, br_dec, Int.reduceEq, ↓reduceIte, Int.reduceBNe, Int.reduceBEq, br_true, br_false, Option.bind_some, bne_self_eq_false, ew])
  · obtain ⟨v0, v1⟩ := hvar (by omega)
    have vl : v.toNat < s.1.length := by omega
    have c2 : 0 ≤ v ∧ v < (s.1.length : Int) := by omega
    have hE := hE (by decide)
    simp only [if_pos c2, List.getElem?_eq_getElem vl, bd_some, SpecR, stepV, wantE, hE]
    simp
  · obtain ⟨v0, v1⟩ := hflag rfl
    have vl : v.toNat < s.2.1.length := by omega
    have c2 : 0 ≤ v ∧ v < (s.2.1.length : Int) := by omega
    have hE := hE (by decide)
    simp only [if_pos c2, List.getElem?_eq_getElem vl, bd_some, SpecR, stepV, wantE, hE]
    simp
  · obtain ⟨⟨v0, v1⟩, _⟩ := harr rfl
    have vl : v.toNat < s.2.2.1.length := by omega
    have c2 : 0 ≤ v ∧ v < (s.2.2.1.length : Int) := by omega
    have hE := hE (by decide)
    have h3 := h3 rfl
    have hm := hs.m2 _ (List.getElem_mem vl)
    have er : rowV s v = s.2.2.1[v.toNat] := by unfold rowV; exact getD_get vl _
    simp only [if_pos v0, if_pos c2, List.getElem?_eq_getElem vl, bd_some, l1In_is]
    rw [wrap_i64 (n := ((s.2.2.1[v.toNat]).length : Int) - 1) (by omega) (by omega)]
    by_cases hr : 0 ≤ i ∧ i ≤ ((s.2.2.1[v.toNat]).length : Int) - 1
    · have q : 0 ≤ i ∧ i < ((s.2.2.1[v.toNat]).length : Int) := by omega
      have q2 : i.toNat < (s.2.2.1[v.toNat]).length := by omega
      simp only [decide_eq_true hr, Bool.not_true, br_false, if_pos q, List.getElem?_eq_getElem q2, bd_some, SpecR, stepV, h3, hE, er]
      simp [hr]
    · simp only [decide_eq_false hr, Bool.not_false, br_true, SpecR, stepV, h3, hE, er]
      simp [hr]
  · obtain ⟨v0, v1⟩ := hvar (by omega)
    have vl : v.toNat < s.1.length := by omega
    have c2 : 0 ≤ v ∧ v < (s.1.length : Int) := by omega
    have hi' := specInput_is k (4, v, I, E, lo, hi, ()) (hends rfl) inp hinp h0
    simp only [hi', if_pos c2, List.getElem?_eq_getElem vl, bd_some, SpecR, stepV, wantE]
    simp
  · have hE := hE (by decide)
    by_cases hz : e = 1 <;> simp [SpecR, stepV, wantE, hE, hz]
  · have hE := hE (by decide)
    by_cases hz : e = 1 <;> simp [SpecR, stepV, wantE, hE, hz]
  · simp [SpecR, stepV, wantE]
  · simp [SpecR, stepV, wantE]
  · have hE := hE (by decide)
    by_cases hz : e = 1 <;> simp [SpecR, stepV, wantE, hE, hz]
  · have hE := hE (by decide)
    by_cases hz : e = 1 <;> simp [SpecR, stepV, wantE, hE, hz]
  · have hE := hE (by decide)
    by_cases hz : e = 0 <;> simp [SpecR, stepV, wantE, hE, hz]
  · have hE := hE (by decide)
    by_cases hz : e = 0 <;> simp [SpecR, stepV, wantE, hE, hz]
  · simp [SpecR, stepV, wantE]
  · simp [SpecR, stepV, wantE]
theorem wantE_3 : wantE 3 > 0 := by decide
theorem h6_is (k : Nat) (hk : 4194304 < k) {d : DeclT} (hd : d.1.length ≤ 1000 ∧ d.2.1.length ≤ 1000 ∧ d.2.2.1.length ≤ 1000) {n : LineT} (hn : LineV d n) (inp : List Int) (hinp : inp.length ≤ 1000) (nx : Int) (cur : Nat) (hcur : cur < 1000) {used : Int} (h0 : 0 ≤ used) {s : StoreT} (hs : SOk d s) (t : StoreT) (i : Int)
    (h3 : n.1 = 3 → evalV s [] n.2.2.1 = (i, 0)) :
    SpecR (stepV n inp nx cur used s) (spec_l5Step.h6 k (nx, (cur : Int), inp, used, (n.1, n.2.1, n.2.2.1, n.2.2.2.1, n.2.2.2.2.1, n.2.2.2.2.2.1, ()), (s.1, s.2.1, s.2.2.1, ()), (t.1, t.2.1, t.2.2.1, ()), i, 0, 0, ())) := by
  have hs' : ((s.1, s.2.1, s.2.2.1, ()) : StoreT) = s := rfl
  simp only [spec_l5Step.h6, jn_eq, nil_gt, beq_self_eq_true]
  by_cases hw : wantE n.1 > 0
  · have hx := hn.ex hw
    have eE : spec_l5Eval k (n.2.2.2.1, (s.1, s.2.1, s.2.2.1, ()), ()) = _ := (eval_both k hk hs n.2.2.2.1 hx).1
    simp only [expr_some hx, Bool.not_false, br_true, Option.bind_some, eE, bd_some]
    by_cases hc : (evalV s [] n.2.2.2.1).2 = 0
    · rw [hc]
      exact h8_good k hk hd hn inp hinp nx cur hcur h0 hs t i _ h3 (fun _ => Prod.ext rfl hc)
    · refine SpecR.to (h8_bad k nx cur inp used n s t i _ _ hc) ?_
      unfold stepV
      by_cases h3' : n.1 = 3
      · rw [if_pos h3', h3 h3', if_neg (by simp), if_pos hc]
      · rw [if_neg h3', if_pos ⟨hw, hc⟩]
  · simp only [hn.noE hw, Bool.not_true, br_false, Option.bind_some]
    exact h8_good k hk hd hn inp hinp nx cur hcur h0 hs t i _ h3 (fun h => absurd h hw)
theorem specStep_is (k : Nat) (hk : 4194304 < k) {d : DeclT} (hd : d.1.length ≤ 1000 ∧ d.2.1.length ≤ 1000 ∧ d.2.2.1.length ≤ 1000) {n : LineT} (hn : LineV d n) (p : ProgT) (inp : List Int) (hinp : inp.length ≤ 1000) (nx : Int) (cur : Nat) (hcur : cur < 1000) {used : Int} (h0 : 0 ≤ used) {s : StoreT} (hs : SOk d s) :
    SpecR (stepV n inp nx cur used s) (spec_l5Step k (p, nx, n, (cur : Int), s, inp, used, ())) := by
  have hs' : ((s.1, s.2.1, s.2.2.1, ()) : StoreT) = s := rfl
  unfold spec_l5Step
  simp only [nil_gt, jn_eq]
  by_cases h3 : n.1 = 3
  · obtain ⟨_, hx⟩ := hn.arr h3
    have eI : spec_l5Eval k (n.2.2.1, s, ()) = _ := (eval_both k hk hs n.2.2.1 hx).1
    simp only [expr_some hx, Bool.not_false, br_true, eI, bd_some]
    by_cases hc : (evalV s [] n.2.2.1).2 = 0
    · rw [hc]
      exact h6_is k hk hd hn inp hinp nx cur hcur h0 hs ([], [], [], ()) _ (fun _ => Prod.ext rfl hc)
    · have b : ((evalV s [] n.2.2.1).2 == 0) = false := by simpa using hc
      have hxE := hn.ex (by rw [h3]; decide)
      simp only [spec_l5Step.h6, jn_eq, nil_gt, expr_some hxE, Bool.not_false, br_true, Option.bind_some, b, br_false]
      refine SpecR.to (h8_bad k nx cur inp used n s ([], [], [], ()) _ 0 _ hc) ?_
      unfold stepV
      rw [if_pos h3, if_pos hc]
  · simp only [hn.noI h3, Bool.not_true, br_false]
    exact h6_is k hk hd hn inp hinp nx cur hcur h0 hs ([], [], [], ()) _ (fun h => absurd h h3)
end Go.Pev.F
end

section
/-
  Runs, in plain words; what they keep.
-/
set_option linter.unusedVariables false
set_option linter.unusedSimpArgs false
namespace Go.Pev.F
abbrev OutT : Type := Int × Int × List Int × List Bool × List (List Int) × Int × Int × Unit
def outS (o : OutT) : StoreT := (o.2.2.1, o.2.2.2.1, o.2.2.2.2.1, ())
def outV (code ln : Int) (s : StoreT) (steps used : Int) : OutT := (code, ln, s.1, s.2.1, s.2.2.1, steps, used, ())
def runV (L : List LineT) (T inp : List Int) : Nat → Int → StoreT → Int → Int → OutT
  | 0, ln, s, steps, used => if ln < (L.length : Int) then outV 2 ln s steps used else outV 0 ln s steps used
  | r + 1, ln, s, steps, used =>
    if ln < (L.length : Int) then
      (if (stepV (L.getD ln.toNat lineD) inp (T.getD ln.toNat 0) ln used s).2.2.2 ≠ 0 then outV (stepV (L.getD ln.toNat lineD) inp (T.getD ln.toNat 0) ln used s).2.2.2 (stepV (L.getD ln.toNat lineD) inp (T.getD ln.toNat 0) ln used s).1 (stepV (L.getD ln.toNat lineD) inp (T.getD ln.toNat 0) ln used s).2.1 (steps + 1) (stepV (L.getD ln.toNat lineD) inp (T.getD ln.toNat 0) ln used s).2.2.1
      else runV L T inp r (stepV (L.getD ln.toNat lineD) inp (T.getD ln.toNat 0) ln used s).1 (stepV (L.getD ln.toNat lineD) inp (T.getD ln.toNat 0) ln used s).2.1 (steps + 1) (stepV (L.getD ln.toNat lineD) inp (T.getD ln.toNat 0) ln used s).2.2.1)
    else outV 0 ln s steps used
structure RunAt (d : DeclT) (L : List LineT) (T inp : List Int) (ln used : Int) (s : StoreT) : Prop where
  l30 : L.length ≤ 30
  lines : ∀ n ∈ L, LineV d n
  tlen : T.length = L.length
  tb : ∀ x ∈ T, 0 ≤ x ∧ x ≤ (L.length : Int)
  i1000 : inp.length ≤ 1000
  lnb : 0 ≤ ln ∧ ln ≤ (L.length : Int)
  use : 0 ≤ used ∧ used ≤ inp.length
  st : SOk d s
theorem RunAt.line {d : DeclT} {L : List LineT} {T inp : List Int} {ln used : Int} {s : StoreT} (h : RunAt d L T inp ln used s) (hl : ln < (L.length : Int)) : L[ln.toNat]? = some (L.getD ln.toNat lineD) ∧ T[ln.toNat]? = some (T.getD ln.toNat 0) ∧ L.getD ln.toNat lineD ∈ L ∧ T.getD ln.toNat 0 ∈ T := by
  have h0 := h.lnb
  have ht := h.tlen
  have a : ln.toNat < L.length := by omega
  have b : ln.toNat < T.length := by omega
  rw [getD_get a, getD_get b]
  exact ⟨List.getElem?_eq_getElem a, List.getElem?_eq_getElem b, List.getElem_mem a, List.getElem_mem b⟩
theorem RunAt.step {d : DeclT} {L : List LineT} {T inp : List Int} {ln used : Int} {s : StoreT} (h : RunAt d L T inp ln used s) (hl : ln < (L.length : Int)) : StepOk d (L.getD ln.toNat lineD) inp (T.getD ln.toNat 0) ln used s (stepV (L.getD ln.toNat lineD) inp (T.getD ln.toNat 0) ln used s) := by
  obtain ⟨_, _, h1, h2⟩ := h.line hl
  exact step_ok (h.lines _ h1) inp _ ln h.use.1 h.use.2 h.st
theorem RunAt.next {d : DeclT} {L : List LineT} {T inp : List Int} {ln used : Int} {s : StoreT} (h : RunAt d L T inp ln used s) (hl : ln < (L.length : Int)) : RunAt d L T inp (stepV (L.getD ln.toNat lineD) inp (T.getD ln.toNat 0) ln used s).1 (stepV (L.getD ln.toNat lineD) inp (T.getD ln.toNat 0) ln used s).2.2.1 (stepV (L.getD ln.toNat lineD) inp (T.getD ln.toNat 0) ln used s).2.1 := by
  have hq := h.step hl
  have h0 := h.lnb
  have hu := h.use
  have q1 := hq.use
  refine ⟨h.l30, h.lines, h.tlen, h.tb, h.i1000, ?_, by omega, hq.st⟩
  by_cases hc : (stepV (L.getD ln.toNat lineD) inp (T.getD ln.toNat 0) ln used s).2.2.2 = 0
  · rcases hq.go hc with e | e
    · rw [e]; exact h.tb _ (h.line hl).2.2.2
    · rw [e]; omega
  · rw [hq.stay hc]; exact h0
structure RunOk (d : DeclT) (L : List LineT) (inp : List Int) (r : Nat) (steps used : Int) (s : StoreT) (o : OutT) : Prop where
  ln : 0 ≤ o.2.1 ∧ o.2.1 ≤ (L.length : Int)
  done : o.1 = 0 ↔ o.2.1 = (L.length : Int)
  code : o.1 ≠ 1 ∧ (o.1 = 7 → (L.getD o.2.1.toNat lineD).1 = 11) ∧ (o.1 = 3 → (L.getD o.2.1.toNat lineD).1 = 12)
  stb : steps ≤ o.2.2.2.2.2.1 ∧ o.2.2.2.2.2.1 ≤ steps + r
  out : o.1 = 2 → o.2.2.2.2.2.1 = steps + r
  use : used ≤ o.2.2.2.2.2.2.1 ∧ o.2.2.2.2.2.2.1 ≤ inp.length
  st : SOk d (outS o)
  lens : (outS o).2.2.1.map List.length = s.2.2.1.map List.length
theorem run_ok {d : DeclT} {L : List LineT} {T inp : List Int} : ∀ (r : Nat) (ln : Int) (s : StoreT) (steps used : Int), RunAt d L T inp ln used s → RunOk d L inp r steps used s (runV L T inp r ln s steps used)
  | 0, ln, s, steps, used, h => by
    have h0 := h.lnb
    unfold runV
    split
    · exact ⟨h0, by simp only [outV]; omega, by simp only [outV]; omega, by simp only [outV]; omega, fun _ => by simp only [outV]; omega, ⟨Int.le_refl _, h.use.2⟩, h.st, rfl⟩
    · exact ⟨h0, ⟨fun _ => by simp only [outV]; omega, fun _ => rfl⟩, by simp only [outV]; omega, by simp only [outV]; omega, fun e => by simp only [outV] at e; omega, ⟨Int.le_refl _, h.use.2⟩, h.st, rfl⟩
  | r + 1, ln, s, steps, used, h => by
    have h0 := h.lnb
    unfold runV
    split
    · rename_i hl
      have hq := h.step hl
      have hn := h.next hl
      split
      · rename_i hc
        have hst := hq.stay hc
        have hcd := hq.code
        refine ⟨hn.lnb, ?_, ⟨hcd.1, fun e => ?_, fun e => ?_⟩, by simp only [outV]; omega, fun e => absurd e hcd.2.1, hq.use, hq.st, hq.lens⟩
        · simp only [outV]; rw [hst]; constructor
          · intro e; exact absurd e hc
          · intro e; omega
        · simp only [outV] at e ⊢; rw [hst]; exact hcd.2.2.1 e
        · simp only [outV] at e ⊢; rw [hst]; exact hcd.2.2.2 e
      · have ih := run_ok r (stepV (L.getD ln.toNat lineD) inp (T.getD ln.toNat 0) ln used s).1 (stepV (L.getD ln.toNat lineD) inp (T.getD ln.toNat 0) ln used s).2.1 (steps + 1) (stepV (L.getD ln.toNat lineD) inp (T.getD ln.toNat 0) ln used s).2.2.1 hn
        have i1 := ih.stb
        have i2 := ih.out
        have i3 := ih.use
        have i4 := hq.use
        exact ⟨ih.ln, ih.done, ih.code, by omega, fun e => by have := i2 e; omega, ⟨by omega, i3.2⟩, ih.st, ih.lens.trans hq.lens⟩
    · exact ⟨h0, ⟨fun _ => by simp only [outV]; omega, fun _ => rfl⟩, by simp only [outV]; omega, by simp only [outV]; omega, fun e => by simp only [outV] at e; omega, ⟨Int.le_refl _, h.use.2⟩, h.st, rfl⟩
theorem run_more (L : List LineT) (T inp : List Int) (j : Nat) : ∀ (r : Nat) (ln : Int) (s : StoreT) (steps used : Int), (runV L T inp r ln s steps used).1 ≠ 2 → runV L T inp (r + j) ln s steps used = runV L T inp r ln s steps used
  | 0, ln, s, steps, used, h => by
    have hl : ¬ ln < (L.length : Int) := fun hl => by
      apply h; unfold runV; rw [if_pos hl]; rfl
    cases j with
    | zero => rfl
    | succ j => rw [Nat.zero_add]; unfold runV; rw [if_neg hl, if_neg hl]
  | r + 1, ln, s, steps, used, h => by
    have e : r + 1 + j = (r + j) + 1 := by omega
    rw [e]
    unfold runV at h ⊢
    split
    · rename_i hl
      rw [if_pos hl] at h
      split
      · rfl
      · rename_i hc
        rw [if_neg hc] at h
        exact run_more L T inp j r _ _ _ _ h
    · rfl
theorem run_less {d : DeclT} {L : List LineT} {T inp : List Int} : ∀ (h r : Nat) (ln : Int) (s : StoreT) (steps used : Int), RunAt d L T inp ln used s → h ≤ r → steps + (h : Int) < (runV L T inp r ln s steps used).2.2.2.2.2.1 →
    (runV L T inp h ln s steps used).1 = 2 ∧ (runV L T inp h ln s steps used).2.2.2.2.2.1 = steps + h ∧ (runV L T inp h ln s steps used).2.2.2.2.2.2.1 ≤ (runV L T inp r ln s steps used).2.2.2.2.2.2.1
  | 0, r, ln, s, steps, used, hr, hle, hlt => by
    have hok := run_ok r ln s steps used hr
    have hl : ln < (L.length : Int) := by
      apply Decidable.byContradiction
      intro hl
      cases r with
      | zero => unfold runV at hlt; rw [if_neg hl] at hlt; simp only [outV] at hlt; omega
      | succ r => unfold runV at hlt; rw [if_neg hl] at hlt; simp only [outV] at hlt; omega
    have e : runV L T inp 0 ln s steps used = outV 2 ln s steps used := by unfold runV; rw [if_pos hl]
    rw [e]
    exact ⟨rfl, by simp [outV], hok.use.1⟩
  | h + 1, r, ln, s, steps, used, hr, hle, hlt => by
    obtain ⟨r, rfl⟩ : ∃ g, r = g + 1 := ⟨r - 1, by omega⟩
    unfold runV at hlt ⊢
    by_cases hl : ln < (L.length : Int)
    · rw [if_pos hl] at hlt
      rw [if_pos hl, if_pos hl]
      by_cases hc : (stepV (L.getD ln.toNat lineD) inp (T.getD ln.toNat 0) ln used s).2.2.2 ≠ 0
      · rw [if_pos hc] at hlt
        simp only [outV] at hlt
        omega
      · rw [if_neg hc] at hlt
        rw [if_neg hc, if_neg hc]
        have ih := run_less h r _ _ (steps + 1) _ (hr.next hl) (by omega) (by omega)
        exact ⟨ih.1, by rw [ih.2.1]; omega, ih.2.2⟩
    · rw [if_neg hl] at hlt
      simp only [outV] at hlt
      omega
theorem run_steps (L : List LineT) (T inp : List Int) (j : Nat) : ∀ (r : Nat) (ln : Int) (s : StoreT) (steps used : Int), (runV L T inp r ln s steps used).2.2.2.2.2.1 ≤ (runV L T inp (r + j) ln s steps used).2.2.2.2.2.1
  | 0, ln, s, steps, used => by
    have low : ∀ (r : Nat) (ln : Int) (s : StoreT) (steps used : Int), steps ≤ (runV L T inp r ln s steps used).2.2.2.2.2.1 := by
      intro r
      induction r with
      | zero => intro ln s steps used; unfold runV; split <;> simp [outV]
      | succ r ih =>
        intro ln s steps used
        unfold runV
        split
        · split
          · simp only [outV]; omega
          · have := ih (stepV (L.getD ln.toNat lineD) inp (T.getD ln.toNat 0) ln used s).1 (stepV (L.getD ln.toNat lineD) inp (T.getD ln.toNat 0) ln used s).2.1 (steps + 1) (stepV (L.getD ln.toNat lineD) inp (T.getD ln.toNat 0) ln used s).2.2.1
            omega
        · simp [outV]
    have e : (runV L T inp 0 ln s steps used).2.2.2.2.2.1 = steps := by unfold runV; split <;> rfl
    rw [e]
    exact low _ _ _ _ _
  | r + 1, ln, s, steps, used => by
    have e : r + 1 + j = (r + j) + 1 := by omega
    rw [e]
    unfold runV
    split
    · split
      · exact Int.le_refl _
      · exact run_steps L T inp j r _ _ _ _
    · exact Int.le_refl _
end Go.Pev.F
end

section
/-
  Runs: both programs come to the same.
-/
set_option linter.unusedVariables false
set_option linter.unusedSimpArgs false
namespace Go.Pev.F
theorem newS_ok {d : DeclT} (h : declOk d = true) : SOk d (newS d) := by
  have ha := newS_any h
  exact ⟨by simp [newS], by simp [newS], by simp [newS], fun x hx => ha.f0 x hx, fun r hr x hx => ha.f2 r hr x hx, fun r hr => by have := ha.m2 r hr; omega⟩
theorem specNew_is (k : Nat) (hk : 4194304 < k) {d : DeclT} (hd : DSmall d) (hdo : declOk d = true) : spec_StoreNew k (d, ()) = some ((newS d, ()), ((), ())) := by
  obtain ⟨⟨y, ⟨⟨⟩, ⟨⟩⟩⟩, e, h⟩ := t_storeNew k hk hd
  rw [e]
  rw [hdo, cond_true] at h
  obtain ⟨y, ⟨⟩⟩ := y
  simp only at h
  rw [h]
def NewJI (d : DeclT) (x : StoreT × StoreT × List ArrT × Int × Int × Unit) : Prop := x.2.2.1 = d.2.2.1 ∧ x.2.2.2.1 = d.2.2.1.length ∧ 0 ≤ x.2.2.2.2.1 ∧ x.2.2.2.2.1 ≤ d.2.2.1.length ∧ x.2.1 = (List.replicate d.1.length (0 : Int), List.replicate d.2.1.length false, (d.2.2.1.take x.2.2.2.2.1.toNat).map fun a => List.replicate a.2.1.toNat (0 : Int), ())
theorem implNew_tot (k : Nat) (hk : 4194304 < k) {d : DeclT} (hdo : declOk d = true) : Tot (impl_Decl_newStore k (d, ())) fun y => y.1.1 = newS d := by
  unfold impl_Decl_newStore
  obtain ⟨⟨h0, h1, h2⟩, h3⟩ := decl_arrs hdo
  refine Tot.chk (by simp only [maxBytes]; omega) (Tot.chk (by simp only [maxBytes]; omega) ?_)
  refine Tot.loop (NewJI d) (fun x => ((d.2.2.1.length : Int) - x.2.2.2.2.1).toNat) ?_ k (([], [], [], ()), (List.replicate (d.1.length : Int).toNat (Kd.z (.int .i64)), List.replicate (d.2.1.length : Int).toNat (Kd.z .bool), [], ()), d.2.2.1, (d.2.2.1.length : Int), 0, ()) ⟨rfl, rfl, Int.le_refl _, Int.natCast_nonneg _, rfl⟩ (by simp only; omega)
  rintro G ⟨⟨t0, t1, t2, ⟨⟩⟩, ⟨s0, s1, s2, ⟨⟩⟩, l, m, i, ⟨⟩⟩ ⟨rfl, rfl, h4, h5, h6⟩ hG
  simp only at h0 h1 h2 h3 h4 h5 h6
  simp only [Prod.mk.injEq] at h6
  obtain ⟨rfl, rfl, rfl, _⟩ := h6
  simp only [impl_Decl_newStore.l0]
  refine Tot.dec (fun hlt => Tot.chk h4 (Tot.get (by omega) fun x2 hx2 e2 => ?_)) fun hlt => Tot.ret ?_
  · have hb := h3 x2 hx2
    refine Tot.chk (by simp only [maxBytes]; omega) (Tot.chk (by simp only [List.length_map, List.length_take, List.length_cons, List.length_nil, maxBytes]; omega) ?_)
    rw [wrap_i64 (n := i + 1) (by omega) (by omega)]
    refine hG _ ⟨rfl, rfl, ?_, ?_, ?_⟩ (by simp only; omega)
    · simp only; omega
    · simp only; omega
    · have e1 : (i + 1).toNat = i.toNat + 1 := by omega
      obtain ⟨q, r⟩ := List.getElem?_eq_some_iff.1 e2
      simp only [e1]
      rw [← List.take_append_getElem q, List.map_append, r]
      rfl
  · simp only [newS]
    rw [List.take_of_length_le (by omega)]
theorem implNew_is (k : Nat) (hk : 4194304 < k) {d : DeclT} (hdo : declOk d = true) : impl_Decl_newStore k (d, ()) = some ((newS d, ()), ((), ())) := by
  obtain ⟨⟨y, ⟨⟨⟩, ⟨⟩⟩⟩, e, h⟩ := implNew_tot k hk hdo
  rw [e]
  obtain ⟨y, ⟨⟩⟩ := y
  simp only at h
  rw [h]
def formOk (p : ProgT) (inp : List Int) (fuel : Int) : Bool := progOk p && (decide (0 ≤ fuel ∧ fuel ≤ 2000) && decide (inp.length ≤ 1000))
theorem formI_is (k : Nat) (hk : 4194304 < k) (hk2 : k ≤ 4611686018427387903) (p : ProgT) (hp : PSmall p) (inp : List Int) (fuel : Int) : impl_isFuel k (p, inp, fuel, ()) = some ((formOk p inp fuel, ()), ((), (), (), ())) := by
  unfold impl_isFuel formOk
  simp only [implProgOk_is k hk hk2 p hp, within_is, bd_some]
  cases progOk p with
  | false => simp
  | true =>
    have e : decide ((inp.length : Int) ≤ 1000) = decide (inp.length ≤ 1000) := decide_eq_decide.2 (by omega)
    cases decide (0 ≤ fuel ∧ fuel ≤ 2000) <;> simp [e]
theorem formS_is (k : Nat) (hk : 4194304 < k) (hk2 : k ≤ 4611686018427387903) (p : ProgT) (hp : PSmall p) (inp : List Int) (fuel : Int) : spec_l5Form k (p, inp, fuel, ()) = some ((formOk p inp fuel, ()), ((), (), (), ())) := by
  unfold spec_l5Form formOk
  simp only [specProgOk_is k hk hk2 p hp, l1In_is, bd_some]
  cases progOk p with
  | false => simp
  | true =>
    have e : decide ((inp.length : Int) ≤ 1000) = decide (inp.length ≤ 1000) := decide_eq_decide.2 (by omega)
    cases decide (0 ≤ fuel ∧ fuel ≤ 2000) <;> simp [e]
def runOf (p : ProgT) (inp : List Int) (fuel : Int) : OutT := runV p.2.2.2.1 (targetsOf p.2.2.2.1) inp fuel.toNat 0 (newS (declOf p)) 0 0
def outOf (p : ProgT) (inp : List Int) (fuel : Int) : OutT := if formOk p inp fuel = true then runOf p inp fuel else (1, 0, [], [], [], 0, 0, ())
theorem runAt_new {p : ProgT} {inp : List Int} {fuel : Int} (h : formOk p inp fuel = true) : RunAt (declOf p) p.2.2.2.1 (targetsOf p.2.2.2.1) inp 0 0 (newS (declOf p)) := by
  simp only [formOk, Bool.and_eq_true, decide_eq_true_eq] at h
  obtain ⟨h1, h2, h3⟩ := h
  obtain ⟨a1, a2, a3, a4⟩ := progOk_parts h1
  obtain ⟨t1, t2⟩ := targetsOf_ok p.2.2.2.1 a2
  exact ⟨a2, fun n hn => line_ok (a3 n hn), t1, t2, h3, by omega, by omega, newS_ok a1⟩
theorem specRun_loop (k : Nat) (hk : 4194304 < k) (p : ProgT) (hd : (declOf p).1.length ≤ 1000 ∧ (declOf p).2.1.length ≤ 1000 ∧ (declOf p).2.2.1.length ≤ 1000) (T inp : List Int) (fuel : Int) (hf : fuel ≤ 2000) (t6 : OutT) : ∀ (r f : Nat) (ln : Int) (s : StoreT) (steps used : Int), RunAt (declOf p) p.2.2.2.1 T inp ln used s → r < f → steps + r = fuel → 0 ≤ steps →
    iter (spec_Run.l0 k) f (inp, fuel, (p.1, p.2.1, p.2.2.1, p.2.2.2.1, ()), (t6.1, t6.2.1, t6.2.2.1, t6.2.2.2.1, t6.2.2.2.2.1, t6.2.2.2.2.2.1, t6.2.2.2.2.2.2.1, ()), T, (0, ln, s.1, s.2.1, s.2.2.1, steps, used, ()), ()) = some ((runV p.2.2.2.1 T inp r ln s steps used, ()), ((), (), (), ())) := by
  intro r
  induction r with
  | zero =>
    intro f ln s steps used h hf' hs h0
    obtain ⟨f, rfl⟩ : ∃ g, f = g + 1 := ⟨f - 1, by omega⟩
    have he : (steps == fuel) = true := by simp; omega
    rw [iter_succ]
    simp only [spec_Run.l0, br_dec, runV]
    split
    · rw [he, br_true]; rfl
    · rfl
  | succ r ih =>
    intro f ln s steps used h hf' hs h0
    obtain ⟨f, rfl⟩ : ∃ g, f = g + 1 := ⟨f - 1, by omega⟩
    have he : (steps == fuel) = false := by simp; omega
    rw [iter_succ]
    simp only [spec_Run.l0, br_dec, runV]
    split
    · rename_i hl
      have hb := h.lnb
      have htl := h.tlen
      obtain ⟨l1, l2, l3, l4⟩ := h.line hl
      have c1 : 0 ≤ ln ∧ ln < (T.length : Int) := by omega
      obtain ⟨i, rfl⟩ : ∃ i : Nat, ln = (i : Int) := ⟨ln.toNat, by omega⟩
      have h30 := h.l30
      have hst := specStep_is k hk hd (h.lines _ l3) p inp h.i1000 (T.getD (i : Int).toNat 0) i (by omega) h.use.1 h.st
      have hst' : spec_l5Step k ((p.1, p.2.1, p.2.2.1, p.2.2.2.1, ()), T.getD (i : Int).toNat 0, p.2.2.2.1.getD (i : Int).toNat lineD, (i : Int), (s.1, s.2.1, s.2.2.1, ()), inp, used, ()) = _ := hst
      rw [he, br_false, if_pos c1, l2, bd_some, if_pos hb.1, l1, bd_some, hst', bd_some]
      have hn := h.next hl
      have ih' := ih f _ _ (steps + 1) _ hn (by omega) (by omega) (by omega)
      generalize stepV (p.2.2.2.1.getD (i : Int).toNat lineD) inp (T.getD (i : Int).toNat 0) (i : Int) used s = q at ih' ⊢
      have ws : IntKind.wrap .i64 (steps + 1) = steps + 1 := wrap_i64 (by omega) (by omega)
      by_cases hc : q.2.2.2 ≠ 0
      · have b : (q.2.2.2 != 0) = true := by simpa using hc
        simp only [b, br_true, ws, if_pos hc]
        rfl
      · have b : (q.2.2.2 != 0) = false := by simpa using hc
        have c0 : q.2.2.2 = 0 := by omega
        simp only [b, br_false, ws, if_neg hc]
        rw [c0]
        exact ih'
    · rfl
theorem specRun_is (k : Nat) (hk : 4194304 < k) (hk2 : k ≤ 4611686018427387903) (p : ProgT) (hp : PSmall p) (inp : List Int) (fuel : Int) : spec_Run k (p, inp, fuel, ()) = some ((outOf p inp fuel, ()), ((), (), (), ())) := by
  unfold spec_Run outOf
  simp only [formS_is k hk hk2 p hp, bd_some]
  cases hf : formOk p inp fuel with
  | false => simp
  | true =>
    have hA := runAt_new hf
    simp only [formOk, Bool.and_eq_true, decide_eq_true_eq] at hf
    obtain ⟨h1, h2, h3⟩ := hf
    have hdo := (progOk_parts h1).1
    obtain ⟨⟨q0, q1, q2⟩, _⟩ := decl_arrs hdo
    have eN : spec_StoreNew k ((p.1, p.2.1, p.2.2.1, ()), ()) = some ((newS (declOf p), ()), ((), ())) := specNew_is k hk hp.d hdo
    have hl := specRun_loop k hk p ⟨by omega, by omega, by omega⟩ (targetsOf p.2.2.2.1) inp fuel h2.2 (0, 0, [], [], [], 0, 0, ()) fuel.toNat k 0 (newS (declOf p)) 0 0 hA (by omega) (by omega) (by omega)
    simp only [Bool.not_true, br_false, specTargets_is k hk hk2 p hp h1, eN, bd_some, if_true]
    exact hl
theorem implRun_loop (k : Nat) (hk : 4194304 < k) {d : DeclT} (m0 m1 : Names) (m2 : List ArrT) (L : List LineT) (T inp : List Int) (fuel : Int) (hf : fuel ≤ 2000) : ∀ (r f : Nat) (ln : Int) (s : StoreT) (steps used : Int) (tok : List EntT), RunAt d L T inp ln used s → TokP tok → r < f → steps + r = fuel → 0 ≤ steps →
    ∃ tok', iter (impl_machine_run.l0 k) f ((m0, m1, m2, L, T, inp, 0, ln, s.1, s.2.1, s.2.2.1, steps, used, tok, ()), fuel, (()), ()) = some ((()), ((m0, m1, m2, L, T, inp, (runV L T inp r ln s steps used).1, (runV L T inp r ln s steps used).2.1, (runV L T inp r ln s steps used).2.2.1, (runV L T inp r ln s steps used).2.2.2.1, (runV L T inp r ln s steps used).2.2.2.2.1, (runV L T inp r ln s steps used).2.2.2.2.2.1, (runV L T inp r ln s steps used).2.2.2.2.2.2.1, tok', ()), (), (()), ())) := by
  have tail : ∀ (G : _ → _) (ln : Int) (s : StoreT) (steps used : Int) (tok : List EntT), ¬ ln < (L.length : Int) → impl_machine_run.l0 k G ((m0, m1, m2, L, T, inp, 0, ln, s.1, s.2.1, s.2.2.1, steps, used, tok, ()), fuel, (()), ()) = some ((()), ((m0, m1, m2, L, T, inp, 0, ln, s.1, s.2.1, s.2.2.1, steps, used, tok, ()), (), (()), ())) := by
    intro G ln s steps used tok hl
    simp only [impl_machine_run.l0, impl_size_impl_Line, impl_Run_1, bd_some, br_dec, if_neg hl]
  intro r
  induction r with
  | zero =>
    intro f ln s steps used tok h ht hf' hs h0
    obtain ⟨f, rfl⟩ : ∃ g, f = g + 1 := ⟨f - 1, by omega⟩
    have he : (steps == fuel) = true := by simp; omega
    rw [iter_succ]
    by_cases hl : ln < (L.length : Int)
    · refine ⟨tok, ?_⟩
      simp only [impl_machine_run.l0, impl_size_impl_Line, impl_Run_1, bd_some, br_dec, if_pos hl, he, br_true, runV, outV]
    · refine ⟨tok, ?_⟩
      rw [tail _ _ _ _ _ _ hl]
      simp only [runV, if_neg hl, outV]
  | succ r ih =>
    intro f ln s steps used tok h ht hf' hs h0
    obtain ⟨f, rfl⟩ : ∃ g, f = g + 1 := ⟨f - 1, by omega⟩
    have he : (steps == fuel) = false := by simp; omega
    rw [iter_succ]
    by_cases hl : ln < (L.length : Int)
    · have hb := h.lnb
      have htl := h.tlen
      obtain ⟨l1, l2, l3, l4⟩ := h.line hl
      obtain ⟨i, rfl⟩ : ∃ i : Nat, ln = (i : Int) := ⟨ln.toNat, by omega⟩
      have h30 := h.l30
      have ws : IntKind.wrap .i64 (steps + 1) = steps + 1 := wrap_i64 (by omega) (by omega)
      have hst := implStep_is k hk (d := d) ⟨m0, m1, m2, L, T, inp, 0, steps + 1⟩ i l1 (h.lines _ l3) (T.getD (i : Int).toNat 0) l2 (by omega) h.st h.use.1 h.use.2 h.i1000 ht
      unfold Comes Fix.m at hst
      simp only at hst
      have hn := h.next hl
      simp only [impl_machine_run.l0, impl_size_impl_Line, impl_Run_1, bd_some, br_dec, if_pos hl, he, br_false, ws, hst, runV]
      have htk : TokP (tokV tok (i : Int) (L.getD (i : Int).toNat lineD) s (stepV (L.getD (i : Int).toNat lineD) inp (T.getD (i : Int).toNat 0) (i : Int) used s).2.2.2) := by
        unfold tokV
        split
        · exact markV_ok ht _ _ _
        · exact ht
      generalize tokV tok (i : Int) (L.getD (i : Int).toNat lineD) s (stepV (L.getD (i : Int).toNat lineD) inp (T.getD (i : Int).toNat 0) (i : Int) used s).2.2.2 = tok2 at htk
      have ih' := ih f _ _ (steps + 1) _ tok2 hn htk (by omega) (by omega) (by omega)
      generalize stepV (L.getD (i : Int).toNat lineD) inp (T.getD (i : Int).toNat 0) (i : Int) used s = q at ih' ⊢
      by_cases hc : q.2.2.2 ≠ 0
      · have b : (q.2.2.2 != 0) = true := by simpa using hc
        simp only [b, br_true, if_pos hc, outV]
        exact ⟨tok2, rfl⟩
      · have b : (q.2.2.2 != 0) = false := by simpa using hc
        have c0 : q.2.2.2 = 0 := by omega
        simp only [b, br_false, if_neg hc]
        rw [c0]
        exact ih'
    · refine ⟨tok, ?_⟩
      rw [tail _ _ _ _ _ _ hl]
      simp only [runV, if_neg hl, outV]
theorem implRun_is (k : Nat) (hk : 4194304 < k) (hk2 : k ≤ 4611686018427387903) (p : ProgT) (hp : PSmall p) (inp : List Int) (fuel : Int) : impl_Run k (p, inp, fuel, ()) = some ((outOf p inp fuel, ()), ((), (), (), ())) := by
  unfold impl_Run outOf
  simp only [formI_is k hk hk2 p hp, bd_some]
  cases hf : formOk p inp fuel with
  | false => simp
  | true =>
    have hA := runAt_new hf
    simp only [formOk, Bool.and_eq_true, decide_eq_true_eq] at hf
    obtain ⟨h1, h2, h3⟩ := hf
    have hdo := (progOk_parts h1).1
    have eN : impl_Decl_newStore k ((p.1, p.2.1, p.2.2.1, ()), ()) = some ((newS (declOf p), ()), ((), ())) := implNew_is k hk hdo
    obtain ⟨tok', hl⟩ := implRun_loop k hk p.1 p.2.1 p.2.2.1 p.2.2.2.1 (targetsOf p.2.2.2.1) inp fuel h2.2 fuel.toNat k 0 (newS (declOf p)) 0 0 [] hA rfl (by omega) (by omega) (by omega)
    have hl' : impl_machine_run k ((p.1, p.2.1, p.2.2.1, p.2.2.2.1, targetsOf p.2.2.2.1, inp, 0, 0, (newS (declOf p)).1, (newS (declOf p)).2.1, (newS (declOf p)).2.2.1, 0, 0, [], ()), fuel, (()), ()) = _ := hl
    simp only [impl_newMachine, Bool.not_true, br_false, implTargets_is k hk p h1, eN, bd_some, if_true, hl']
    rfl
end Go.Pev.F
end

section
/-
  The reader of draws: it always gives something.
-/
set_option linter.unusedVariables false
set_option linter.unusedSimpArgs false
namespace Go.Pev.F
structure RdOk (r : List Int × Int × Unit) : Prop where
  lo : 0 ≤ r.2.1
  hi : r.2.1 ≤ r.1.length
  len : r.1.length ≤ 140737488351232
  byte : ∀ x ∈ r.1, 0 ≤ x ∧ x ≤ 255
theorem rd_open {code : List Int} (h1 : code.length ≤ 140737488351232) (h2 : ∀ x ∈ code, 0 ≤ x ∧ x ≤ 255) : RdOk (code, 0, ()) := ⟨by simp, by simp, h1, h2⟩
theorem rd_next (k : Nat) {r : List Int × Int × Unit} (h : RdOk r) : ∃ v r', spec_l1Rd_next k (r, ()) = some ((v, ()), (r', ())) ∧ (0 ≤ v ∧ v ≤ 255) ∧ RdOk r' ∧ r'.1 = r.1 := by
  obtain ⟨b, p, ⟨⟩⟩ := r
  obtain ⟨h1, h2, h3, h4⟩ := h
  simp only at h1 h2 h3 h4
  unfold spec_l1Rd_next
  by_cases hp : p ≥ (b.length : Int)
  · refine ⟨0, (b, p, ()), ?_, by omega, ⟨h1, h2, h3, h4⟩, rfl⟩
    simp only [br_dec, if_pos hp]
  · have w1 : IntKind.wrap .i64 (p + 1) = p + 1 := wrap_i64 (by omega) (by omega)
    have w2 : IntKind.wrap .i64 (p + 1 - 1) = p := by rw [wrap_i64 (by omega) (by omega)]; omega
    have hlt : p.toNat < b.length := by omega
    obtain ⟨b1, b2⟩ := h4 b[p.toNat] (List.getElem_mem _)
    refine ⟨b[p.toNat], (b, p + 1, ()), ?_, ⟨b1, b2⟩, ⟨by simp; omega, by simp; omega, h3, h4⟩, rfl⟩
    have w3 : IntKind.wrap .i64 b[p.toNat] = b[p.toNat] := wrap_i64 (by omega) (by omega)
    simp only [br_dec, if_neg hp, w1, w2, if_pos h1, List.getElem?_eq_getElem hlt, bd_some, w3]
theorem tmod_lt {a n : Int} (h0 : 0 ≤ a) (hn : 1 ≤ n) : 0 ≤ a.tmod n ∧ a.tmod n < n := by
  rw [Int.tmod_eq_emod_of_nonneg h0]
  exact ⟨Int.emod_nonneg _ (by omega), Int.emod_lt_of_pos _ (by omega)⟩
theorem rd_below (k : Nat) {r : List Int × Int × Unit} (h : RdOk r) (n : Int) : ∃ v r', spec_l1Rd_below k (r, n, ()) = some ((v, ()), (r', (), ())) ∧ 0 ≤ v ∧ v ≤ 65535 ∧ (1 ≤ n → v < n) ∧ RdOk r' ∧ r'.1 = r.1 := by
  obtain ⟨b, p, ⟨⟩⟩ := r
  unfold spec_l1Rd_below
  by_cases h1 : n ≤ 1
  · exact ⟨0, (b, p, ()), by simp only [br_dec, if_pos h1], by omega, by omega, by omega, h, rfl⟩
  · by_cases h2 : n ≤ 256
    · obtain ⟨v, r', e1, hv, hr, hb⟩ := rd_next k h
      obtain ⟨t1, t2⟩ := tmod_lt (a := v) (n := n) hv.1 (by omega)
      refine ⟨v.tmod n, r', ?_, t1, by omega, fun _ => t2, hr, hb⟩
      have hn : ¬ n = 0 := by omega
      simp only [br_dec, if_neg h1, if_pos h2, e1, bd_some, hn, decide_false, Bool.not_false, br_true]
    · obtain ⟨v, r', e1, hv, hr, hb⟩ := rd_next k h
      obtain ⟨v2, r2, e2, hv2, hr2, hb2⟩ := rd_next k hr
      have w1 : IntKind.wrap .i64 (v * 256) = v * 256 := wrap_i64 (by omega) (by omega)
      have w2 : IntKind.wrap .i64 (v * 256 + v2) = v * 256 + v2 := wrap_i64 (by omega) (by omega)
      obtain ⟨t1, t2⟩ := tmod_lt (a := v * 256 + v2) (n := n) (by omega) (by omega)
      have t3 : (v * 256 + v2).tmod n ≤ v * 256 + v2 := by
        by_cases hlt : v * 256 + v2 < n
        · rw [Int.tmod_eq_emod_of_nonneg (by omega), Int.emod_eq_of_lt (by omega) hlt]; omega
        · omega
      refine ⟨(v * 256 + v2).tmod n, r2, ?_, t1, by omega, fun _ => t2, hr2, by rw [hb2, hb]⟩
      have hn : ¬ n = 0 := by omega
      obtain ⟨rb, rp, ⟨⟩⟩ := r'
      simp only [br_dec, if_neg h1, if_neg h2, e1, bd_some, e2, hn, decide_false, Bool.not_false, br_true, w1, w2]
theorem rd_once (k : Nat) {r : List Int × Int × Unit} (h : RdOk r) (n : Int) : ∃ v r', spec_l1Rd_once k (r, n, ()) = some ((v, ()), (r', (), ())) ∧ RdOk r' ∧ r'.1 = r.1 := by
  obtain ⟨b, p, ⟨⟩⟩ := r
  obtain ⟨v, r', e, _, _, _, hr, hb⟩ := rd_below k h n
  refine ⟨v == IntKind.wrap .i64 (n - 1), r', ?_, hr, hb⟩
  unfold spec_l1Rd_once
  simp only [e, bd_some]
theorem rd_word_loop (k : Nat) : (d : Nat) → (f : Nat) → {r : List Int × Int × Unit} → RdOk r → (x i : Int) → 0 ≤ x → x < 18446744073709551616 → i + d = 8 → 0 ≤ i → ∃ v r', iter (spec_l1Rd_word.l0 k) (d + 1 + f) (r, x, i, ()) = some ((v, ()), (r', ())) ∧ (0 ≤ v ∧ v < 18446744073709551616) ∧ RdOk r' ∧ r'.1 = r.1
  | 0, f, r, h, x, i, h0, h1, hi, _ => by
    obtain ⟨b, p, ⟨⟩⟩ := r
    refine ⟨x, (b, p, ()), ?_, ⟨h0, h1⟩, h, rfl⟩
    have : ¬ (i < 8) := by omega
    rw [show 0 + 1 + f = f + 1 by omega, iter_succ]
    simp only [spec_l1Rd_word.l0, br_dec, if_neg this]
  | d + 1, f, r, h, x, i, h0, h1, hi, hi0 => by
    obtain ⟨b, p, ⟨⟩⟩ := r
    obtain ⟨v, r', e, hv, hr, hb⟩ := rd_next k h
    have hlt : i < 8 := by omega
    have h8 : (0 : Int) ≤ 8 := by omega
    have hw : ∀ z : Int, 0 ≤ IntKind.wrap .u64 z ∧ IntKind.wrap .u64 z < 18446744073709551616 := by
      intro z
      simp [IntKind.wrap, IntKind.bits, IntKind.signed]
      omega
    obtain ⟨w1, w2⟩ := hw (((BitVec.ofInt 64 (IntKind.wrap .u64 (x * 2 ^ (min (8 : Int).toNat 64))) ||| BitVec.ofInt 64 (IntKind.wrap .u64 v)).toNat : Int))
    obtain ⟨u, r2, e2, hu, hr2, hb2⟩ := rd_word_loop k d f hr _ (i + 1) w1 w2 (by omega) (by omega)
    refine ⟨u, r2, ?_, hu, hr2, by rw [hb2, hb]⟩
    rw [show d + 1 + 1 + f = (d + 1 + f) + 1 by omega, iter_succ]
    obtain ⟨rb, rp, ⟨⟩⟩ := r'
    have w3 : IntKind.wrap .i64 (i + 1) = i + 1 := wrap_i64 (by omega) (by omega)
    simp only [spec_l1Rd_word.l0, br_dec, if_pos hlt, if_pos h8, e, bd_some, w3]
    exact e2
theorem rd_word (k : Nat) (hk : 9 ≤ k) {r : List Int × Int × Unit} (h : RdOk r) : ∃ v r', spec_l1Rd_word k (r, ()) = some ((v, ()), (r', ())) ∧ (0 ≤ v ∧ v < 18446744073709551616) ∧ RdOk r' ∧ r'.1 = r.1 := by
  obtain ⟨b, p, ⟨⟩⟩ := r
  obtain ⟨v, r', e, hv, hr, hb⟩ := rd_word_loop k 8 (k - 9) h 0 0 (by omega) (by omega) (by omega) (by omega)
  refine ⟨v, r', ?_, hv, hr, hb⟩
  rw [show 8 + 1 + (k - 9) = k by omega] at e
  exact e
theorem rd_near (k : Nat) (hk : 9 ≤ k) {r : List Int × Int × Unit} (h : RdOk r) {lo hi : Int} (h1 : -4611686018427387903 ≤ lo) (h2 : lo ≤ hi) (h3 : hi ≤ 4611686018427387903) :
    ∃ v r', spec_l1Rd_near k (r, lo, hi, ()) = some ((v, ()), (r', (), (), ())) ∧ (lo ≤ v ∧ v ≤ hi) ∧ RdOk r' ∧ r'.1 = r.1 := by
  obtain ⟨b, p, ⟨⟩⟩ := r
  obtain ⟨v, r1, e1, v0, v1, v2, hr1, hb1⟩ := rd_below k h 8
  unfold spec_l1Rd_near
  simp only [e1, bd_some]
  by_cases c0 : v = 0
  · exact ⟨lo, r1, by simp [c0], ⟨by omega, h2⟩, hr1, hb1⟩
  by_cases c1 : v = 1
  · exact ⟨hi, r1, by simp [c1], ⟨h2, by omega⟩, hr1, hb1⟩
  obtain ⟨u, r2, e2, hu, hr2, hb2⟩ := rd_word k hk hr1
  have w1 : IntKind.wrap .i64 (hi - lo) = hi - lo := wrap_i64 (by omega) (by omega)
  have w2 : IntKind.wrap .i64 (hi - lo + 1) = hi - lo + 1 := wrap_i64 (by omega) (by omega)
  have w3 : IntKind.wrap .u64 (hi - lo + 1) = hi - lo + 1 := wrap_u64 (by omega) (by omega)
  have hf : 0 ≤ u.fdiv (2 ^ (min (1 : Int).toNat 64)) := Int.fdiv_nonneg (by omega) (by decide)
  obtain ⟨t1, t2⟩ := tmod_lt (a := u.fdiv (2 ^ (min (1 : Int).toNat 64))) (n := hi - lo + 1) hf (by omega)
  have w4 : IntKind.wrap .i64 ((u.fdiv (2 ^ (min (1 : Int).toNat 64))).tmod (hi - lo + 1)) = (u.fdiv (2 ^ (min (1 : Int).toNat 64))).tmod (hi - lo + 1) := wrap_i64 (by omega) (by omega)
  have w5 : IntKind.wrap .i64 (lo + (u.fdiv (2 ^ (min (1 : Int).toNat 64))).tmod (hi - lo + 1)) = lo + (u.fdiv (2 ^ (min (1 : Int).toNat 64))).tmod (hi - lo + 1) := wrap_i64 (by omega) (by omega)
  refine ⟨lo + (u.fdiv (2 ^ (min (1 : Int).toNat 64))).tmod (hi - lo + 1), r2, ?_, by omega, hr2, by rw [hb2, hb1]⟩
  have n0 : (v == 0) = false := by simpa using c0
  have n1 : (v == 1) = false := by simpa using c1
  have n2 : ¬ hi < lo := by omega
  have n3 : (0 : Int) ≤ 1 := by omega
  have n4 : ¬ (hi - lo + 1 = 0) := by omega
  obtain ⟨rb, rp, ⟨⟩⟩ := r1
  simp only [n0, n1, br_false, br_dec, if_neg n2, e2, bd_some, if_pos n3, w1, w2, w3, w4, w5, n4, decide_false, Bool.not_false, br_true]
theorem rd_off (k : Nat) (hk : 9 ≤ k) {r : List Int × Int × Unit} (h : RdOk r) {lo hi : Int} (h1 : -4611686018427387903 ≤ lo) (h2 : lo ≤ hi) (h3 : hi ≤ 4611686018427387903) :
    ∃ v r', spec_l1Rd_off k (r, lo, hi, ()) = some ((v, ()), (r', (), (), ())) ∧ (-9223372036854775808 ≤ v ∧ v ≤ 9223372036854775807) ∧ RdOk r' ∧ r'.1 = r.1 := by
  obtain ⟨b, p, ⟨⟩⟩ := r
  obtain ⟨c, r1, e1, hr1, hb1⟩ := rd_once k h 24
  unfold spec_l1Rd_off
  simp only [e1, bd_some]
  cases c with
  | true =>
    obtain ⟨v, r2, e2, v0, v1, v2, hr2, hb2⟩ := rd_below k hr1 4
    have v4 := v2 (by omega)
    obtain ⟨rb, rp, ⟨⟩⟩ := r1
    have w1 : IntKind.wrap .i64 (lo - 1) = lo - 1 := wrap_i64 (by omega) (by omega)
    have w2 : IntKind.wrap .i64 (hi + 1) = hi + 1 := wrap_i64 (by omega) (by omega)
    have hc : v = 0 ∨ v = 1 ∨ v = 2 ∨ v = 3 := by omega
    rw [w1, w2]
    rcases hc with rfl | rfl | rfl | rfl
    · exact ⟨lo - 1, r2, by simp [e2], by omega, hr2, by rw [hb2]; exact hb1⟩
    · exact ⟨hi + 1, r2, by simp [e2], by omega, hr2, by rw [hb2]; exact hb1⟩
    · exact ⟨-9223372036854775808, r2, by simp [e2], by omega, hr2, by rw [hb2]; exact hb1⟩
    · exact ⟨9223372036854775807, r2, by simp [e2], by omega, hr2, by rw [hb2]; exact hb1⟩
  | false =>
    obtain ⟨v, r2, e2, hv, hr2, hb2⟩ := rd_near k hk hr1 h1 h2 h3
    obtain ⟨rb, rp, ⟨⟩⟩ := r1
    exact ⟨v, r2, by simp [e2], by omega, hr2, by rw [hb2]; exact hb1⟩
end Go.Pev.F
end

section
/-
  Draws of numbers and declarations: they always give something, and it fits.
-/
set_option linter.unusedVariables false
set_option linter.unusedSimpArgs false
namespace Go.Pev.F
abbrev RdT : Type := List Int × Int × Unit
theorem t_open {code : List Int} (k : Nat) (h1 : code.length ≤ 140737488351232) (h2 : ∀ x ∈ code, 0 ≤ x ∧ x ≤ 255) : Tot (spec_l1Open k (code, ())) fun y => RdOk y.1.1 := by
  unfold spec_l1Open
  exact Tot.ret (rd_open h1 h2)
theorem t_below (k : Nat) {r : RdT} (h : RdOk r) (n : Int) : Tot (spec_l1Rd_below k (r, n, ())) fun y => (0 ≤ y.1.1 ∧ y.1.1 ≤ 65535 ∧ (1 ≤ n → y.1.1 < n)) ∧ RdOk y.2.1 := by
  obtain ⟨v, r', e, h0, h1, h2, hr, _⟩ := rd_below k h n
  exact ⟨_, e, ⟨h0, h1, h2⟩, hr⟩
theorem t_once (k : Nat) {r : RdT} (h : RdOk r) (n : Int) : Tot (spec_l1Rd_once k (r, n, ())) fun y => RdOk y.2.1 := by
  obtain ⟨v, r', e, hr, _⟩ := rd_once k h n
  exact ⟨_, e, hr⟩
theorem t_word (k : Nat) (hk : 9 ≤ k) {r : RdT} (h : RdOk r) : Tot (spec_l1Rd_word k (r, ())) fun y => (0 ≤ y.1.1 ∧ y.1.1 < 18446744073709551616) ∧ RdOk y.2.1 := by
  obtain ⟨v, r', e, hv, hr, _⟩ := rd_word k hk h
  exact ⟨_, e, hv, hr⟩
theorem t_off (k : Nat) (hk : 9 ≤ k) {r : RdT} (h : RdOk r) {lo hi : Int} (h1 : -4611686018427387903 ≤ lo) (h2 : lo ≤ hi) (h3 : hi ≤ 4611686018427387903) : Tot (spec_l1Rd_off k (r, lo, hi, ())) fun y => Fits y.1.1 ∧ RdOk y.2.1 := by
  obtain ⟨v, r', e, hv, hr, _⟩ := rd_off k hk h h1 h2 h3
  exact ⟨_, e, hv, hr⟩
theorem t_num (k : Nat) (hk : 9 ≤ k) {r : RdT} (h : RdOk r) : Tot (spec_l1Rd_num k (r, ())) fun y => Fits y.1.1 ∧ RdOk y.2.1 := by
  obtain ⟨b, p, ⟨⟩⟩ := r
  unfold spec_l1Rd_num
  refine Tot.bd (t_below k h 6) fun y1 h1 => Tot.br (fun _ => ?_) fun _ => Tot.br (fun _ => ?_) fun _ => Tot.br (fun _ => ?_) fun _ => ?_
  · refine Tot.bd (t_below k h1.2 10) fun y2 h2 => ?_
    have b2 := h2.1.2.2 (by omega)
    have b0 := h2.1.1
    refine Tot.chk (by simp only [List.length_cons, List.length_nil]; omega) (Tot.get (by simp only [List.length_cons, List.length_nil]; omega) fun x hx _ => Tot.ret ⟨?_, h2.2⟩)
    simp only [List.mem_cons, List.not_mem_nil, or_false] at hx
    simp only [Fits]
    omega
  · refine Tot.bd (t_word k hk h1.2) fun y4 h4 => Tot.ret ⟨wrap_i64_fits _, h4.2⟩
  · refine Tot.bd (t_word k hk h1.2) fun y5 h5 => Tot.bd (t_below k h5.2 60) fun y6 h6 => ?_
    have b2 := h6.1.2.2 (by omega)
    have b0 := h6.1.1
    have w : IntKind.wrap .u64 y6.1.1 = y6.1.1 := wrap_u64 b0 (by omega)
    rw [w]
    refine Tot.chk b0 (Tot.ret ⟨?_, h6.2⟩)
    obtain ⟨f0, f1⟩ := wrap_i64_fits y5.1.1
    generalize IntKind.wrap .i64 y5.1.1 = z at f0 f1
    have hp : (1 : Int) ≤ 2 ^ (min y6.1.1.toNat 64) := by
      have := Nat.one_le_two_pow (n := min y6.1.1.toNat 64)
      exact_mod_cast this
    generalize (2 : Int) ^ (min y6.1.1.toNat 64) = q at hp
    simp only [Fits]
    rw [Int.fdiv_eq_ediv_of_nonneg _ (by omega)]
    have h3 := Int.natAbs_ediv_le_natAbs z q
    by_cases hz : 0 ≤ z
    · have h4 := Int.ediv_nonneg hz (show 0 ≤ q by omega)
      generalize z / q = y at h3 h4
      omega
    · have h4 := Int.ediv_neg_of_neg_of_pos (show z < 0 by omega) (show 0 < q by omega)
      generalize z / q = y at h3 h4
      omega
  · refine Tot.bd (t_below k h1.2 41) fun y7 h7 => Tot.ret ⟨wrap_i64_fits _, h7.2⟩
structure DDr (d : DeclT) : Prop where
  s : DSmall d
  n0 : d.1.length ≤ 5
  n1 : d.2.1.length ≤ 3
  n2 : d.2.2.1.length ≤ 1
theorem ddr_of (a b : Names) (hb : b = [[98], [99], [102]]) (ha : a = [[120], [121], [105], [110], [107]]) (i j : Nat) (c : List ArrT) (hc : c.length ≤ 1) (hs : ∀ x ∈ c, x.1.length ≤ 1048576) : DDr (subL a 0 i, subL b 0 j, c, ()) := by
  have la := (subL_lens a 0 i).2
  have lb := (subL_lens b 0 j).2
  have sa : ∀ x ∈ subL a 0 i, x.length ≤ 1048576 := fun x hx => by
    have := subL_memb hx
    rw [ha] at this
    simp only [List.mem_cons, List.not_mem_nil, or_false] at this
    rcases this with rfl | rfl | rfl | rfl | rfl <;> decide
  have sb : ∀ x ∈ subL b 0 j, x.length ≤ 1048576 := fun x hx => by
    have := subL_memb hx
    rw [hb] at this
    simp only [List.mem_cons, List.not_mem_nil, or_false] at this
    rcases this with rfl | rfl | rfl <;> decide
  rw [ha] at la sa
  rw [hb] at lb sb
  rw [ha, hb]
  simp only [List.length_cons, List.length_nil] at la lb
  exact ⟨⟨by simp only; omega, sa, by simp only; omega, sb, by simp only; omega, hs⟩, by simp only; omega, by simp only; omega, hc⟩
theorem t_decl (k : Nat) (hk : 9 ≤ k) {r : RdT} (h : RdOk r) : Tot (spec_l1Rd_decl k (r, ())) fun y => DDr y.1.1 ∧ RdOk y.2.1 := by
  obtain ⟨b, p, ⟨⟩⟩ := r
  unfold spec_l1Rd_decl
  refine Tot.bd (t_below k h 4) fun y1 h1 => ?_
  obtain ⟨⟨a0, _, a1⟩, r1⟩ := h1
  have a2 := a1 (by omega)
  have w1 : IntKind.wrap .i64 (1 + y1.1.1) = 1 + y1.1.1 := wrap_i64 (by omega) (by omega)
  rw [w1]
  refine Tot.chk (by simp only [List.length_cons, List.length_nil]; omega) (Tot.bd (t_below k r1 2) fun y2 h2 => ?_)
  obtain ⟨⟨b0, _, b1⟩, r2⟩ := h2
  have b2 := b1 (by omega)
  have w2 : IntKind.wrap .i64 (1 + y2.1.1) = 1 + y2.1.1 := wrap_i64 (by omega) (by omega)
  rw [w2]
  refine Tot.chk (by simp only [List.length_cons, List.length_nil]; omega) (Tot.bd (t_once k r2 3) fun y3 r3 => Tot.br (fun _ => ?_) fun _ => ?_)
  · refine Tot.bd (t_below k r3 4) fun y4 h4 => ?_
    obtain ⟨⟨c0, _, c1⟩, r4⟩ := h4
    have c2 := c1 (by omega)
    refine Tot.chk (by simp only [List.length_cons, List.length_nil]; omega) (Tot.bd (t_once k r4 2) fun y5 r5 => Tot.br (fun _ => ?_) fun _ => ?_)
    · refine Tot.bd (t_below k r5 6) fun y6 h6 => Tot.ret ⟨ddr_of _ _ rfl rfl _ _ _ (by simp) (by simp), h6.2⟩
    · exact Tot.ret ⟨ddr_of _ _ rfl rfl _ _ _ (by simp) (by simp), r5⟩
  · refine Tot.bd (t_once k r3 2) fun y7 r7 => Tot.br (fun _ => ?_) fun _ => ?_
    · refine Tot.bd (t_below k r7 6) fun y8 h8 => Tot.ret ⟨ddr_of _ _ rfl rfl _ _ _ (by simp) (by simp), h8.2⟩
    · exact Tot.ret ⟨ddr_of _ _ rfl rfl _ _ _ (by simp) (by simp), r7⟩
theorem mem_push {α : Type} {P : α → Prop} {l : List α} {x : α} (hl : ∀ a ∈ l, P a) (hx : P x) : ∀ a ∈ l ++ [x], P a := by
  intro a ha
  rcases List.mem_append.1 ha with h | h
  · exact hl a h
  · rw [List.mem_singleton.1 h]; exact hx
theorem mem_set {α : Type} {P : α → Prop} {l : List α} {x : α} {i : Nat} (hl : ∀ a ∈ l, P a) (hx : P x) : ∀ a ∈ l.set i x, P a := by
  intro a ha
  rcases List.mem_or_eq_of_mem_set ha with h | h
  · exact hl a h
  · rw [h]; exact hx
end Go.Pev.F
end

section
/-
  Draws of expressions, lines and programs: they always give something, and it is small.
-/
set_option linter.unusedVariables false
set_option linter.unusedSimpArgs false
namespace Go.Pev.F
abbrev SumT : Type := RdT × DeclT × Int × Unit
abbrev SumR : Type := (List TokT × Unit) × (RdT × Unit × Unit × Unit)
def ExQ (B : Nat) (y : SumR) : Prop := y.1.1.length ≤ B ∧ RdOk y.2.1
theorem mb16 {n m : Nat} (h : n + m ≤ 100000) : (n + m) * 16 ≤ maxBytes := by simp only [maxBytes]; omega
theorem t_sum_step (k : Nat) (R : SumT → Option SumR) {r : RdT} (h : RdOk r) (d : DeclT) {deep : Int} (hd : -100 ≤ deep ∧ deep ≤ 100) (B : Nat) (hB : B ≤ 1000) (hR : 0 < deep → ∀ r', RdOk r' → Tot (R (r', d, deep - 1, ())) (ExQ B)) :
    Tot (spec_l1Rd_sum.f k R (r, d, deep, ())) (ExQ (2 * B + 1)) := by
  obtain ⟨b, p, ⟨⟩⟩ := r
  have ew : IntKind.wrap .i64 (deep - 1) = deep - 1 := wrap_i64 (by omega) (by omega)
  unfold spec_l1Rd_sum.f
  simp only [ew]
  refine Tot.bd (t_below k h 8) fun y1 h1 => Tot.bind (P := fun _ => True) (Tot.dec (fun _ => Tot.ret trivial) fun _ => Tot.ret trivial) fun j2 _ => Tot.br (fun _ => ?_) fun _ => ?_
  · exact Tot.bd (t_below k h1.2 _) fun y3 h3 => Tot.ret ⟨by simp, h3.2⟩
  refine Tot.bind (P := fun j => j.1 = false → 0 < deep) (Tot.dec (fun _ => Tot.ret (fun h => by simp at h)) fun _ => Tot.ret (fun h => by have := of_decide_eq_false h; omega)) fun j4 h4 => Tot.br (fun _ => ?_) fun hj => ?_
  · refine Tot.bd (t_below k h1.2 12) fun y5 h5 => Tot.bd (t_once k h5.2 20) fun y6 h6 => Tot.br (fun _ => ?_) fun _ => ?_
    · refine Tot.bd (t_below k h6 4) fun y7 h7 => ?_
      obtain ⟨⟨a0, _, a1⟩, r7⟩ := h7
      have a2 := a1 (by omega)
      exact Tot.chk (by simp only [List.length_cons, List.length_nil]; omega) (Tot.get (by simp only [List.length_cons, List.length_nil]; omega) fun x8 _ _ => Tot.ret ⟨by simp, r7⟩)
    · exact Tot.ret ⟨by simp, h6⟩
  have hR' := hR (h4 hj)
  refine Tot.bind (P := fun _ => True) (Tot.br (fun _ => Tot.ret trivial) fun _ => Tot.ret trivial) fun j9 _ => Tot.br (fun _ => ?_) fun _ => ?_
  · refine Tot.bd (hR' _ h1.2) fun y10 h10 => Tot.bd (t_below k h10.2 _) fun y11 h11 => ?_
    have := h10.1
    exact Tot.chk (mb16 (by simp only [List.length_cons, List.length_nil]; omega)) (Tot.ret ⟨by simp <;> omega, h11.2⟩)
  refine Tot.br (fun _ => ?_) fun _ => ?_
  · refine Tot.bd (hR' _ h1.2) fun y12 h12 => ?_
    have := h12.1
    exact Tot.chk (mb16 (by simp only [List.length_cons, List.length_nil]; omega)) (Tot.ret ⟨by simp <;> omega, h12.2⟩)
  refine Tot.bd (t_below k h1.2 3) fun y13 h13 => Tot.bd (t_once k h13.2 4) fun y14 h14 => Tot.br (fun _ => ?_) fun _ => ?_
  · refine Tot.bd (t_below k h14 2) fun y15 h15 => Tot.bd (hR' _ h15.2) fun y16 h16 => Tot.bd (hR' _ h16.2) fun y17 h17 => ?_
    have := h16.1
    have := h17.1
    exact Tot.chk (mb16 (by omega)) (Tot.chk (mb16 (by simp only [List.length_append, List.length_cons, List.length_nil]; omega)) (Tot.ret ⟨by simp <;> omega, h17.2⟩))
  · refine Tot.bd (hR' _ h14) fun y16 h16 => Tot.bd (hR' _ h16.2) fun y17 h17 => ?_
    have := h16.1
    have := h17.1
    exact Tot.chk (mb16 (by omega)) (Tot.chk (mb16 (by simp only [List.length_append, List.length_cons, List.length_nil]; omega)) (Tot.ret ⟨by simp <;> omega, h17.2⟩))
theorem t_sum_n (k : Nat) (d : DeclT) : ∀ (D n : Nat), D ≤ 5 → D < n → ∀ (r : RdT), RdOk r → ∀ deep : Int, -100 ≤ deep → deep ≤ D → Tot (iter (spec_l1Rd_sum.f k) n (r, d, deep, ())) (ExQ (2 ^ (D + 1) - 1))
  | 0, n, _, hn, r, h, deep, h0, h1 => by
    obtain ⟨n, rfl⟩ : ∃ g, n = g + 1 := ⟨n - 1, by omega⟩
    rw [iter_succ]
    exact t_sum_step k _ h d ⟨h0, by omega⟩ 0 (by omega) fun h => by omega
  | D + 1, n, hD, hn, r, h, deep, h0, h1 => by
    obtain ⟨n, rfl⟩ : ∃ g, n = g + 1 := ⟨n - 1, by omega⟩
    rw [iter_succ]
    have hp : 2 ^ (D + 1 + 1) = 2 * 2 ^ (D + 1) := by rw [Nat.pow_succ]; omega
    have hq : 1 ≤ 2 ^ (D + 1) := Nat.one_le_two_pow
    have hr : 2 ^ (D + 1) ≤ 2 ^ 6 := Nat.pow_le_pow_right (by omega) (by omega)
    have := t_sum_step k (iter (spec_l1Rd_sum.f k) n) h d (deep := deep) ⟨h0, by omega⟩ (2 ^ (D + 1) - 1) (by omega) fun hp r' hr' => t_sum_n k d D n (by omega) (by omega) r' hr' (deep - 1) (by omega) (by omega)
    refine Tot.mono this fun y hy => ⟨?_, hy.2⟩
    have := hy.1
    omega
theorem t_sum (k : Nat) (hk : 64 ≤ k) (d : DeclT) {r : RdT} (h : RdOk r) {deep : Int} (h0 : -100 ≤ deep) (h1 : deep ≤ 4) : Tot (spec_l1Rd_sum k (r, d, deep, ())) (ExQ 31) :=
  t_sum_n k d 4 k (by omega) (by omega) r h deep h0 h1
abbrev ExpT : Type := RdT × DeclT × Int × Int × Unit
abbrev ExpR : Type := (List TokT × Unit) × (RdT × Unit × Unit × Unit × Unit)
def ExP (B : Nat) (y : ExpR) : Prop := y.1.1.length ≤ B ∧ RdOk y.2.1
theorem t_expr_step (k : Nat) (hk : 64 ≤ k) (R : ExpT → Option ExpR) {r : RdT} (h : RdOk r) (d : DeclT) (kind : Int) {deep : Int} (hd : -50 ≤ deep ∧ deep ≤ 4) (B : Nat) (hB : B ≤ 1000) (hR : 0 < deep → ∀ r' deep', RdOk r' → 0 ≤ deep' → deep' ≤ deep - 1 → Tot (R (r', d, kind, deep', ())) (ExP B)) :
    Tot (spec_l1Rd_expr.f k R (r, d, kind, deep, ())) (ExP (2 * B + 100)) := by
  obtain ⟨b, p, ⟨⟩⟩ := r
  have ew : IntKind.wrap .i64 (deep - 1) = deep - 1 := wrap_i64 (by omega) (by omega)
  unfold spec_l1Rd_expr.f
  simp only [ew]
  refine Tot.br (fun _ => ?_) fun _ => ?_
  · exact Tot.bd (t_sum k hk d h (by omega) (by omega)) fun y1 h1 => Tot.ret ⟨by have := h1.1; simp only; omega, h1.2⟩
  refine Tot.bd (t_below k h 8) fun y2 h2 => Tot.bind (P := fun _ => True) (Tot.dec (fun _ => Tot.dec (fun _ => Tot.ret trivial) fun _ => Tot.ret trivial) fun _ => Tot.ret trivial) fun j3 _ => Tot.br (fun _ => ?_) fun _ => ?_
  · exact Tot.bd (t_below k h2.2 _) fun y4 h4 => Tot.ret ⟨by simp <;> omega, h4.2⟩
  refine Tot.bind (P := fun _ => True) (Tot.dec (fun _ => Tot.ret trivial) fun _ => Tot.ret trivial) fun j5 _ => Tot.br (fun _ => ?_) fun _ => ?_
  · refine Tot.bd (t_below k h2.2 2) fun y6 h6 => ?_
    obtain ⟨⟨a0, _, a1⟩, r6⟩ := h6
    have a2 := a1 (by omega)
    exact Tot.chk (by simp only [List.length_cons, List.length_nil]; omega) (Tot.get (by simp only [List.length_cons, List.length_nil]; omega) fun x7 _ _ => Tot.ret ⟨by simp <;> omega, r6⟩)
  refine Tot.bind (P := fun j => j.1 = false → 0 < deep) (Tot.dec (fun _ => Tot.ret (fun h => by simp at h)) fun _ => Tot.ret (fun h => by have := of_decide_eq_false h; omega)) fun j8 h8 => Tot.br (fun _ => ?_) fun hj => ?_
  · refine Tot.bd (t_sum k hk d h2.2 (by omega) (by omega)) fun y9 h9 => Tot.bd (t_sum k hk d h9.2 (by omega) (by omega)) fun y10 h10 => ?_
    have := h9.1
    have := h10.1
    exact Tot.chk (mb16 (by omega)) (Tot.bd (t_below k h10.2 6) fun y11 h11 => Tot.chk (mb16 (by simp only [List.length_append, List.length_cons, List.length_nil]; omega)) (Tot.ret ⟨by simp <;> omega, h11.2⟩))
  have hp := h8 hj
  have hR' := hR hp
  refine Tot.br (fun _ => ?_) fun _ => ?_
  · refine Tot.bd (hR' _ _ h2.2 (by omega) (by omega)) fun y12 h12 => ?_
    have := h12.1
    exact Tot.chk (mb16 (by simp only [List.length_cons, List.length_nil]; omega)) (Tot.ret ⟨by simp <;> omega, h12.2⟩)
  refine Tot.dec (fun _ => ?_) fun _ => ?_
  · refine Tot.bd (hR' _ _ h2.2 (by omega) (by omega)) fun y13 h13 => Tot.bd (hR' _ _ h13.2 (by omega) (by omega)) fun y14 h14 => ?_
    have := h13.1
    have := h14.1
    exact Tot.chk (mb16 (by omega)) (Tot.bd (t_below k h14.2 2) fun y15 h15 => Tot.chk (mb16 (by simp only [List.length_append, List.length_cons, List.length_nil]; omega)) (Tot.ret ⟨by simp <;> omega, h15.2⟩))
  · exact Tot.bd (hR' _ _ h2.2 (by omega) (by omega)) fun y16 h16 => Tot.ret ⟨by have := h16.1; simp only; omega, h16.2⟩
theorem t_expr (k : Nat) (hk : 64 ≤ k) (d : DeclT) (kind : Int) {r : RdT} (h : RdOk r) {deep : Int} (h0 : -50 ≤ deep) (h1 : deep ≤ 2) : Tot (spec_l1Rd_expr k (r, d, kind, deep, ())) (ExP 700) := by
  have e0 : ∀ n : Nat, 0 < n → ∀ (r : RdT), RdOk r → ∀ deep : Int, -50 ≤ deep → deep ≤ 0 → Tot (iter (spec_l1Rd_expr.f k) n (r, d, kind, deep, ())) (ExP 100) := by
    intro n hn r h deep h0 h1
    obtain ⟨n, rfl⟩ : ∃ g, n = g + 1 := ⟨n - 1, by omega⟩
    rw [iter_succ]
    exact t_expr_step k hk _ h d kind ⟨h0, by omega⟩ 0 (by omega) fun h => by omega
  have e1 : ∀ n : Nat, 1 < n → ∀ (r : RdT), RdOk r → ∀ deep : Int, -50 ≤ deep → deep ≤ 1 → Tot (iter (spec_l1Rd_expr.f k) n (r, d, kind, deep, ())) (ExP 300) := by
    intro n hn r h deep h0 h1
    obtain ⟨n, rfl⟩ : ∃ g, n = g + 1 := ⟨n - 1, by omega⟩
    rw [iter_succ]
    exact t_expr_step k hk _ h d kind ⟨h0, by omega⟩ 100 (by omega) fun _ r' dp hr' h2 h3 => e0 n (by omega) r' hr' dp (by omega) (by omega)
  have e2 : ∀ n : Nat, 2 < n → ∀ (r : RdT), RdOk r → ∀ deep : Int, -50 ≤ deep → deep ≤ 2 → Tot (iter (spec_l1Rd_expr.f k) n (r, d, kind, deep, ())) (ExP 700) := by
    intro n hn r h deep h0 h1
    obtain ⟨n, rfl⟩ : ∃ g, n = g + 1 := ⟨n - 1, by omega⟩
    rw [iter_succ]
    exact t_expr_step k hk _ h d kind ⟨h0, by omega⟩ 300 (by omega) fun _ r' dp hr' h2 h3 => e1 n (by omega) r' hr' dp (by omega) (by omega)
  exact e2 k (by omega) r h deep h0 h1
theorem t_few (k : Nat) (hk : 64 ≤ k) (d : DeclT) (kind : Int) {r : RdT} (h : RdOk r) : Tot (spec_l1Rd_few k (r, d, kind, ())) fun y => y.1.1.length ≤ 700 ∧ RdOk y.2.1 := by
  obtain ⟨b, p, ⟨⟩⟩ := r
  unfold spec_l1Rd_few
  refine Tot.bd (t_below k h 2) fun y1 h1 => ?_
  obtain ⟨⟨a0, _, a1⟩, r1⟩ := h1
  have a2 := a1 (by omega)
  have ew : IntKind.wrap .i64 (1 + y1.1.1) = 1 + y1.1.1 := wrap_i64 (by omega) (by omega)
  simp only [ew]
  exact Tot.bd (t_expr k hk d kind r1 (by omega) (by omega)) fun y2 h2 => Tot.ret ⟨h2.1, h2.2⟩
def LineS (n : LineT) : Prop := n.2.2.1.length ≤ 900 ∧ n.2.2.2.1.length ≤ 900
abbrev BlT : Type := RdT × DeclT × Int × Int × Unit
abbrev BlR : Type := (List LineT × Unit) × (RdT × Unit × Unit × Unit × Unit)
def BlQ (B : Nat) (y : BlR) : Prop := y.1.1.length ≤ B ∧ (∀ n ∈ y.1.1, LineS n) ∧ RdOk y.2.1
def LnQ (B : Nat) (y : BlR) : Prop := (1 ≤ y.1.1.length ∧ y.1.1.length ≤ B) ∧ (∀ n ∈ y.1.1, LineS n) ∧ RdOk y.2.1
theorem mb80 {n m : Nat} (h : n + m ≤ 100000) : (n + m) * 80 ≤ maxBytes := by simp only [maxBytes]; omega
theorem lnS_cat {a b : List LineT} (ha : ∀ n ∈ a, LineS n) (hb : ∀ n ∈ b, LineS n) : ∀ n ∈ a ++ b, LineS n := fun n hn => by
  rcases List.mem_append.1 hn with h | h
  · exact ha n h
  · exact hb n h
theorem lnS_one {n : LineT} (h : LineS n) : ∀ m ∈ [n], LineS m := fun m hm => by rw [List.mem_singleton.1 hm]; exact h
theorem lnS_two {a b : LineT} (h : LineS a) (h2 : LineS b) : ∀ m ∈ [a, b], LineS m := fun m hm => by
  simp only [List.mem_cons, List.not_mem_nil, or_false] at hm
  rcases hm with rfl | rfl
  · exact h
  · exact h2
theorem lnS_nil (a b lo hi : Int) : LineS (a, b, [], [], lo, hi, ()) := ⟨by simp, by simp⟩
theorem lnS_ex (a b lo hi : Int) {e : List TokT} (h : e.length ≤ 900) : LineS (a, b, [], e, lo, hi, ()) := ⟨by simp, h⟩
theorem t_counts (k : Nat) (d : DeclT) (v : Int) {r : RdT} (h : RdOk r) : Tot (spec_l1Rd_counts k (r, d, v, ())) fun y => y.1.1.length ≤ 700 ∧ RdOk y.2.1 := by
  obtain ⟨b, p, ⟨⟩⟩ := r
  unfold spec_l1Rd_counts
  exact Tot.bd (t_below k h 9) fun y1 h1 => Tot.bd (t_below k h1.2 2) fun y2 h2 => Tot.ret ⟨by simp, h2.2⟩
theorem t_more (k : Nat) (v : Int) {r : RdT} (h : RdOk r) : Tot (spec_l1Rd_more k (r, v, ())) fun y => LineS y.1.1 ∧ RdOk y.2.1 := by
  obtain ⟨b, p, ⟨⟩⟩ := r
  unfold spec_l1Rd_more
  exact Tot.bd (t_below k h 2) fun y1 h1 => Tot.ret ⟨⟨by simp, by simp⟩, h1.2⟩
theorem t_line_step (k : Nat) (hk : 64 ≤ k) (R : BlT → Option BlR) {r : RdT} (h : RdOk r) (d : DeclT) (most : Int) {deep : Int} (hd : -50 ≤ deep ∧ deep ≤ 4) (B : Nat) (hB : B ≤ 10000) (hR : 0 < deep → ∀ r' m, RdOk r' → Tot (R (r', d, m, deep - 1, ())) (BlQ B)) :
    Tot (spec_l1Rd_line k R (r, d, most, deep, ())) (LnQ (2 * B + 3)) := by
  obtain ⟨b, p, ⟨⟩⟩ := r
  have ew : IntKind.wrap .i64 (deep - 1) = deep - 1 := wrap_i64 (by omega) (by omega)
  have one : ∀ (n : LineT) (r' : RdT), LineS n → RdOk r' → LnQ (2 * B + 3) (([n], ()), (r', (), (), (), ())) := fun n r' h1 h2 => ⟨⟨by simp, by simp⟩, lnS_one h1, h2⟩
  unfold spec_l1Rd_line
  simp only [ew]
  refine Tot.bd (t_below k h _) fun y1 h1 => Tot.bd (t_below k h1.2 16) fun y2 h2 => ?_
  refine Tot.bind (P := fun j => j.1 = true → 0 < deep) (Tot.dec (fun _ => Tot.dec (fun hp => Tot.ret fun _ => by omega) fun _ => Tot.ret fun h => by simp at h) fun _ => Tot.ret fun h => by simp at h) fun j3 h3 => Tot.br (fun hj => ?_) fun _ => ?_
  · have hR' := hR (h3 hj)
    refine Tot.bd (t_below k h2.2 2) fun y4 h4 => Tot.bd (t_few k hk d 2 h4.2) fun y5 h5 => Tot.bd (hR' _ 3 h5.2) fun y6 h6 => ?_
    have l5 := h5.1
    have l6 := h6.1
    refine Tot.chk (mb80 (by simp only [List.length_cons, List.length_nil]; omega)) (Tot.bd (t_once k h6.2.2 2) fun y7 h7 => Tot.br (fun _ => Tot.dec (fun _ => ?_) fun _ => ?_) fun _ => ?_)
    · refine Tot.chk (mb80 (by simp only [List.length_append, List.length_cons, List.length_nil]; omega)) (Tot.bd (hR' _ 2 h7) fun y8 h8 => ?_)
      have l8 := h8.1
      refine Tot.chk (mb80 (by simp only [List.length_append, List.length_cons, List.length_nil]; omega)) (Tot.chk (mb80 (by simp only [List.length_append, List.length_cons, List.length_nil]; omega)) (Tot.ret ⟨⟨by simp <;> omega, by simp <;> omega⟩, ?_, h8.2.2⟩))
      exact lnS_cat (lnS_cat (lnS_cat (lnS_cat (lnS_one (lnS_ex _ _ _ _ (by omega))) h6.2.1) (lnS_one (lnS_nil _ _ _ _))) h8.2.1) (lnS_one (lnS_nil _ _ _ _))
    · exact Tot.chk (mb80 (by simp only [List.length_append, List.length_cons, List.length_nil]; omega)) (Tot.ret ⟨⟨by simp <;> omega, by simp <;> omega⟩, lnS_cat (lnS_cat (lnS_one (lnS_ex _ _ _ _ (by omega))) h6.2.1) (lnS_one (lnS_nil _ _ _ _)), h7⟩)
    · exact Tot.chk (mb80 (by simp only [List.length_append, List.length_cons, List.length_nil]; omega)) (Tot.ret ⟨⟨by simp <;> omega, by simp <;> omega⟩, lnS_cat (lnS_cat (lnS_one (lnS_ex _ _ _ _ (by omega))) h6.2.1) (lnS_one (lnS_nil _ _ _ _)), h7⟩)
  refine Tot.bind (P := fun j => j.1 = true → 0 < deep) (Tot.dec (fun _ => Tot.dec (fun hp => Tot.ret fun _ => by omega) fun _ => Tot.ret fun h => by simp at h) fun _ => Tot.ret fun h => by simp at h) fun j9 h9 => Tot.br (fun hj => ?_) fun _ => ?_
  · have hR' := hR (h9 hj)
    have body : ∀ (q : Int) (e : List TokT) (lo : Int) (r' : RdT), e.length ≤ 700 → RdOk r' → Tot (bd k (R (r', d, 3, deep - 1, ())) fun y15 =>
        br k (decide ((([(q, 0, [], e, lo, 0, ())] : List LineT).length + y15.1.1.length) * 80 ≤ maxBytes))
        (bd k (spec_l1Rd_more k ((y15.2.1.1, y15.2.1.2.1, ()), y1.1.1, ())) fun y16 =>
        br k (decide (((([(q, 0, [], e, lo, 0, ())] : List LineT) ++ y15.1.1).length + ([(y16.1.1.1, y16.1.1.2.1, y16.1.1.2.2.1, y16.1.1.2.2.2.1, y16.1.1.2.2.2.2.1, y16.1.1.2.2.2.2.2.1, ()), (8, 0, [], [], 0, 0, ())] : List LineT).length) * 80 ≤ maxBytes))
        (some (((([(q, 0, [], e, lo, 0, ())] : List LineT) ++ y15.1.1) ++ ([(y16.1.1.1, y16.1.1.2.1, y16.1.1.2.2.1, y16.1.1.2.2.2.1, y16.1.1.2.2.2.2.1, y16.1.1.2.2.2.2.2.1, ()), (8, 0, [], [], 0, 0, ())] : List LineT), ()), ((y16.2.1.1, y16.2.1.2.1, ()), (), (), (), ())))
        none)
        none) (LnQ (2 * B + 3)) := fun q e lo r' he hr => by
      refine Tot.bd (hR' _ 3 hr) fun y15 h15 => ?_
      have l15 := h15.1
      refine Tot.chk (mb80 (by simp only [List.length_cons, List.length_nil]; omega)) (Tot.bd (t_more k _ h15.2.2) fun y16 h16 => Tot.chk (mb80 (by simp only [List.length_append, List.length_cons, List.length_nil]; omega)) (Tot.ret ⟨⟨by simp <;> omega, by simp <;> omega⟩, lnS_cat (lnS_cat (lnS_one (lnS_ex _ _ _ _ (by omega))) h15.2.1) (lnS_two h16.1 (lnS_nil _ _ _ _)), h16.2⟩))
    refine Tot.bd (t_counts k d _ h2.2) fun y10 h10 => Tot.bd (t_once k h10.2 3) fun y11 h11 => Tot.br (fun _ => ?_) fun _ => ?_
    · refine Tot.bd (t_below k h11 3) fun y12 h12 => Tot.bd (t_once k h12.2 6) fun y13 h13 => Tot.br (fun _ => ?_) fun _ => ?_
      · exact Tot.bd (t_few k hk d 2 h13) fun y14 h14 => body _ _ _ _ h14.1 h14.2
      · exact body _ _ _ _ h10.1 h13
    · refine Tot.bd (t_once k h11 6) fun y19 h19 => Tot.br (fun _ => ?_) fun _ => ?_
      · exact Tot.bd (t_few k hk d 2 h19) fun y20 h20 => body _ _ _ _ h20.1 h20.2
      · exact body _ _ _ _ h10.1 h19
  refine Tot.bind (P := fun _ => True) (Tot.br (fun _ => Tot.ret trivial) fun _ => Tot.ret trivial) fun j25 _ => Tot.br (fun _ => ?_) fun _ => ?_
  · exact Tot.bd (t_below k h2.2 _) fun y26 h26 => Tot.bd (t_few k hk d 2 h26.2) fun y27 h27 => Tot.ret (one _ _ (lnS_ex _ _ _ _ (by have := h27.1; omega)) h27.2)
  refine Tot.bind (P := fun _ => True) (Tot.br (fun _ => Tot.ret trivial) fun _ => Tot.ret trivial) fun j28 _ => Tot.br (fun _ => ?_) fun _ => ?_
  · exact Tot.bd (t_below k h2.2 _) fun y29 h29 => Tot.bd (t_few k hk d 1 h29.2) fun y30 h30 => Tot.bd (t_few k hk d 1 h30.2) fun y31 h31 => Tot.ret (one _ _ ⟨by have := h30.1; simp only; omega, by have := h31.1; simp only; omega⟩ h31.2)
  refine Tot.dec (fun _ => ?_) fun _ => ?_
  · exact Tot.bd (t_below k h2.2 20) fun y32 h32 => Tot.bd (t_below k h32.2 12) fun y33 h33 => Tot.ret (one _ _ (lnS_nil _ _ _ _) h33.2)
  refine Tot.br (fun _ => ?_) fun _ => ?_
  · exact Tot.bd (t_few k hk d 2 h2.2) fun y34 h34 => Tot.ret (one _ _ (lnS_ex _ _ _ _ (by have := h34.1; omega)) h34.2)
  refine Tot.br (fun _ => ?_) fun _ => ?_
  · exact Tot.bd (t_few k hk d 2 h2.2) fun y34 h34 => Tot.ret (one _ _ (lnS_ex _ _ _ _ (by have := h34.1; omega)) h34.2)
  refine Tot.br (fun _ => ?_) fun _ => ?_
  · exact Tot.bd (t_below k h2.2 10) fun y32 h32 => Tot.bd (t_below k h32.2 4) fun y33 h33 => Tot.ret (one _ _ (lnS_nil _ _ _ _) h33.2)
  refine Tot.br (fun _ => ?_) fun _ => ?_
  · refine Tot.bd (t_once k h2.2 3) fun y38 h38 => Tot.br (fun _ => ?_) fun _ => ?_
    · exact Tot.ret (one _ _ (lnS_nil _ _ _ _) h38)
    · exact Tot.bd (t_few k hk d 1 h38) fun y34 h34 => Tot.ret (one _ _ (lnS_ex _ _ _ _ (by have := h34.1; omega)) h34.2)
  · exact Tot.bd (t_few k hk d 1 h2.2) fun y34 h34 => Tot.ret (one _ _ (lnS_ex _ _ _ _ (by have := h34.1; omega)) h34.2)
abbrev BlSt : Type := RdT × Int × Int × DeclT × List LineT × Int × Unit
def BlJ (d : DeclT) (most deep : Int) (C : Nat) (x : BlSt) : Prop := RdOk x.1 ∧ x.2.1 = most ∧ x.2.2.1 = deep ∧ x.2.2.2.1 = d ∧ (∀ n ∈ x.2.2.2.2.1, LineS n) ∧ (0 ≤ x.2.2.2.2.2.1 ∧ x.2.2.2.2.2.1 ≤ 4) ∧ (x.2.2.2.2.1.length ≤ (4 - x.2.2.2.2.2.1.toNat) * C) ∧ (1 ≤ x.2.2.2.2.2.1 ∨ 1 ≤ x.2.2.2.2.1.length)
theorem t_block_step (k : Nat) (hk : 64 ≤ k) (R : BlT → Option BlR) {r : RdT} (h : RdOk r) (d : DeclT) (most : Int) {deep : Int} (hd : -50 ≤ deep ∧ deep ≤ 4) (B : Nat) (hB : B ≤ 2000) (hR : 0 < deep → ∀ r' m, RdOk r' → Tot (R (r', d, m, deep - 1, ())) (BlQ B)) :
    Tot (spec_l1Rd_block.f k R (r, d, most, deep, ())) fun y => BlQ (4 * (2 * B + 3)) y ∧ (1 ≤ most → 1 ≤ y.1.1.length) := by
  obtain ⟨b, p, ⟨⟩⟩ := r
  unfold spec_l1Rd_block.f
  refine Tot.bd (t_below k h 4) fun y1 h1 => ?_
  obtain ⟨⟨a0, _, a1⟩, r1⟩ := h1
  have a2 := a1 (by omega)
  have ew : IntKind.wrap .i64 (1 + y1.1.1) = 1 + y1.1.1 := wrap_i64 (by omega) (by omega)
  simp only [ew]
  refine Tot.loop (BlJ d most deep (2 * B + 3)) (fun x => x.2.2.2.2.2.1.toNat) ?_ k _ ⟨r1, rfl, rfl, rfl, by simp, by simp only; omega, by simp, .inl (by simp only; omega)⟩ (by simp only; omega)
  rintro G ⟨⟨rb, rp, ⟨⟩⟩, m, dp, ⟨d0, d1, d2, ⟨⟩⟩, out, i, ⟨⟩⟩ ⟨hr, rfl, rfl, rfl, hs, hi, hl, hne⟩ hG
  simp only at hr hs hi hl hne
  simp only [spec_l1Rd_block.l0]
  refine Tot.bind (P := fun j => (j.1 = true → 0 < i) ∧ (j.1 = false → 1 ≤ m → 1 ≤ out.length)) (Tot.dec (fun hp => Tot.ret ⟨fun _ => by omega, fun hf hm => ?_⟩) fun hp => Tot.ret ⟨fun h => by simp at h, fun _ _ => by omega⟩) fun j2 h2 => Tot.br (fun hj => ?_) fun hj => ?_
  · have := of_decide_eq_false hf; omega
  · have hi0 := h2.1 hj
    refine Tot.bd (t_line_step k hk R hr (d0, d1, d2, ()) _ hd B (by omega) hR) fun y3 h3 => ?_
    obtain ⟨⟨q1, q2⟩, q3, q4⟩ := h3
    have hm : (4 - i.toNat) * (2 * B + 3) ≤ 4 * (2 * B + 3) := Nat.mul_le_mul_right _ (by omega)
    refine Tot.chk (mb80 (by omega)) ?_
    have ew2 : IntKind.wrap .i64 (i - 1) = i - 1 := wrap_i64 (by omega) (by omega)
    rw [ew2]
    refine hG _ ⟨q4, rfl, rfl, rfl, lnS_cat hs q3, by simp only; omega, ?_, .inr (by simp <;> omega)⟩ (by simp only; omega)
    have e : 4 - (i - 1).toNat = (4 - i.toNat) + 1 := by omega
    simp only [List.length_append]
    rw [e, Nat.add_mul, Nat.one_mul]
    omega
  · have hm : (4 - i.toNat) * (2 * B + 3) ≤ 4 * (2 * B + 3) := Nat.mul_le_mul_right _ (by omega)
    exact Tot.ret ⟨⟨by simp only; omega, hs, hr⟩, h2.2 hj⟩
theorem t_block (k : Nat) (hk : 64 ≤ k) (d : DeclT) {r : RdT} (h : RdOk r) (most : Int) : Tot (spec_l1Rd_block k (r, d, most, 2, ())) fun y => BlQ 900 y ∧ (1 ≤ most → 1 ≤ y.1.1.length) := by
  have e0 : ∀ n : Nat, 0 < n → ∀ (r : RdT) (m : Int), RdOk r → Tot (iter (spec_l1Rd_block.f k) n (r, d, m, 0, ())) (BlQ 12) := by
    intro n hn r m h
    obtain ⟨n, rfl⟩ : ∃ g, n = g + 1 := ⟨n - 1, by omega⟩
    rw [iter_succ]
    exact Tot.mono (t_block_step k hk _ h d m (deep := 0) (by omega) 0 (by omega) fun h => by omega) fun y hy => hy.1
  have e1 : ∀ n : Nat, 1 < n → ∀ (r : RdT) (m : Int), RdOk r → Tot (iter (spec_l1Rd_block.f k) n (r, d, m, 1, ())) (BlQ 108) := by
    intro n hn r m h
    obtain ⟨n, rfl⟩ : ∃ g, n = g + 1 := ⟨n - 1, by omega⟩
    rw [iter_succ]
    exact Tot.mono (t_block_step k hk _ h d m (deep := 1) (by omega) 12 (by omega) fun _ r' m' hr' => e0 n (by omega) r' m' hr') fun y hy => hy.1
  obtain ⟨n, hn⟩ : ∃ g, k = g + 1 := ⟨k - 1, by omega⟩
  have key : Tot (iter (spec_l1Rd_block.f k) (n + 1) (r, d, most, 2, ())) fun y => BlQ 900 y ∧ (1 ≤ most → 1 ≤ y.1.1.length) := by
    rw [iter_succ]
    refine Tot.mono (t_block_step k hk _ h d most (deep := 2) (by omega) 108 (by omega) fun _ r' m' hr' => e1 n (by omega) r' m' hr') fun y hy => ⟨⟨by have := hy.1.1; omega, hy.1.2⟩, hy.2⟩
  unfold spec_l1Rd_block
  rw [hn] at key ⊢
  exact key
structure PDr (p : ProgT) : Prop where
  d : DSmall (declOf p)
  n : p.2.2.2.1.length ≤ 1000
  s : ∀ n ∈ p.2.2.2.1, LineS n
theorem PDr.small {p : ProgT} (h : PDr p) : PSmall p := ⟨h.d, by have := h.n; omega, fun n hn => by have := (h.s n hn).1; omega, fun n hn => by have := (h.s n hn).2; omega⟩
abbrev PrSt : Type := RdT × ProgT × DeclT × ProgT × Int × Unit
def PrJ (d : DeclT) (x : PrSt) : Prop := RdOk x.1 ∧ x.2.2.1 = d ∧ declOf x.2.2.2.1 = d ∧ (∀ n ∈ x.2.2.2.1.2.2.2.1, LineS n) ∧ (0 ≤ x.2.2.2.2.1 ∧ x.2.2.2.2.1 ≤ 3) ∧ x.2.2.2.1.2.2.2.1.length ≤ (3 - x.2.2.2.2.1.toNat) * 900 ∧ (1 ≤ x.2.2.2.1.2.2.2.1.length ∨ (x.2.2.2.1.2.2.2.1.length = 0 ∧ 1 ≤ x.2.2.2.2.1))
theorem t_prog (k : Nat) (hk : 64 ≤ k) {r : RdT} (h : RdOk r) : Tot (spec_l1Rd_prog k (r, ())) fun y => (DDr (declOf y.1.1) ∧ PDr y.1.1 ∧ 1 ≤ y.1.1.2.2.2.1.length ∧ y.1.1.2.2.2.1.length ≤ 30) ∧ RdOk y.2.1 := by
  obtain ⟨b, p, ⟨⟩⟩ := r
  unfold spec_l1Rd_prog
  refine Tot.bd (t_decl k (by omega) h) fun y1 h1 => Tot.bd (t_below k h1.2 3) fun y2 h2 => ?_
  obtain ⟨⟨a0, _, a1⟩, r2⟩ := h2
  have a2 := a1 (by omega)
  have ew : IntKind.wrap .i64 (1 + y2.1.1) = 1 + y2.1.1 := wrap_i64 (by omega) (by omega)
  simp only [ew]
  refine Tot.loop (PrJ y1.1.1) (fun x => x.2.2.2.2.1.toNat) ?_ k _ ⟨r2, rfl, rfl, by simp, by simp only; omega, by simp, .inr ⟨by simp, by simp only; omega⟩⟩ (by simp only; omega)
  rintro G ⟨⟨rb, rp, ⟨⟩⟩, ⟨t0, t1, t2, t3, ⟨⟩⟩, ⟨d0, d1, d2, ⟨⟩⟩, ⟨p0, p1, p2, p3, ⟨⟩⟩, i, ⟨⟩⟩ ⟨hr, hd1, hd2, hs, hi, hl, hne⟩ hG
  simp only [declOf] at hr hd1 hd2 hs hi hl hne
  have hm : (3 - i.toNat) * 900 ≤ 3 * 900 := Nat.mul_le_mul_right _ (by omega)
  simp only [spec_l1Rd_prog.l0]
  refine Tot.dec (fun hp => ?_) fun hp => Tot.dec (fun hlt => Tot.ret ?_) fun hlt => Tot.ret ?_
  · refine Tot.bd (t_block k hk _ hr _) fun y3 h3 => ?_
    obtain ⟨⟨q1, q2, q3⟩, q4⟩ := h3
    refine Tot.chk (mb80 (by omega)) ?_
    have ew2 : IntKind.wrap .i64 (i - 1) = i - 1 := wrap_i64 (by omega) (by omega)
    rw [ew2]
    refine hG _ ⟨q3, hd1, hd2, lnS_cat hs q2, by simp only; omega, ?_, .inl ?_⟩ (by simp only; omega)
    · have e : 3 - (i - 1).toNat = (3 - i.toNat) + 1 := by omega
      simp only [List.length_append]
      rw [e, Nat.add_mul, Nat.one_mul]
      omega
    · simp only [List.length_append]
      rcases hne with hne | ⟨hne, _⟩
      · omega
      · have := q4 (by rw [hne]; decide)
        omega
  · exact ⟨⟨by show DDr (p0, p1, p2, ()); rw [hd2]; exact h1.1, ⟨by show DSmall (p0, p1, p2, ()); rw [hd2]; exact h1.1.s, by simp, lnS_one (lnS_nil _ _ _ _)⟩, by simp, by simp⟩, hr⟩
  · exact ⟨⟨by show DDr (p0, p1, p2, ()); rw [hd2]; exact h1.1, ⟨by show DSmall (p0, p1, p2, ()); rw [hd2]; exact h1.1.s, by simp only; omega, hs⟩, by simp only; omega, by simp only; omega⟩, hr⟩
end Go.Pev.F
end

section
/-
  Draws of runs: hurt programs, inputs.
-/
set_option linter.unusedVariables false
set_option linter.unusedSimpArgs false
namespace Go.Pev.F
theorem t_hurtDecl (k : Nat) (hk : 64 ≤ k) {r : RdT} (h : RdOk r) {d : DeclT} (hd : DDr d) : Tot (spec_l1Rd_hurtDecl k (r, d, ())) fun y => DSmall y.1.1 ∧ RdOk y.2.1 := by
  obtain ⟨b, p, ⟨⟩⟩ := r
  have n0 := hd.n0
  have n1 := hd.n1
  have n2 := hd.n2
  have s0 := hd.s.s0
  have s1 := hd.s.s1
  have s2 := hd.s.s2
  unfold spec_l1Rd_hurtDecl
  refine Tot.bd (t_below k h 24) fun y1 h1 => Tot.br (fun _ => ?_) fun _ => Tot.br (fun _ => ?_) fun _ => Tot.br (fun _ => ?_) fun _ => ?_
  · refine Tot.chk (by simp only [List.length_nil, maxBytes]; omega) (Tot.bd (t_below k h1.2 6) fun y2 h2 => ?_)
    obtain ⟨⟨a0, _, a1⟩, r2⟩ := h2
    have a2 := a1 (by omega)
    refine Tot.chk (by simp only [List.length_cons, List.length_nil]; omega) (Tot.get (by simp only [List.length_cons, List.length_nil]; omega) fun x3 hx _ => ?_)
    have lx : x3.length ≤ 100 := by
      simp only [List.mem_cons, List.not_mem_nil, or_false] at hx
      rcases hx with rfl | rfl | rfl | rfl | rfl | rfl <;> decide
    refine Tot.chk (by simp only [List.length_append, List.length_cons, List.length_nil, maxBytes]; omega) (Tot.ret ⟨⟨by simp <;> omega, ?_, by simp only; omega, s1, by simp only; omega, s2⟩, r2⟩)
    intro x hx
    simp only [List.nil_append] at hx
    rcases List.mem_append.1 hx with hx | hx
    · exact s0 x hx
    · rw [List.mem_singleton.1 hx]; omega
  · refine Tot.chk (by simp only [List.length_nil, maxBytes]; omega) (Tot.bd (t_off k (by omega) h1.2 (by omega) (by omega) (by omega)) fun y4 h4 => ?_)
    refine Tot.chk (by simp only [List.length_append, List.length_cons, List.length_nil, maxBytes]; omega) (Tot.ret ⟨⟨by simp only; omega, s0, by simp only; omega, s1, by simp <;> omega, ?_⟩, h4.2⟩)
    intro x hx
    simp only [List.nil_append] at hx
    rcases List.mem_append.1 hx with hx | hx
    · exact s2 x hx
    · rw [List.mem_singleton.1 hx]; simp
  · refine Tot.bd (t_below k h1.2 2) fun y5 h5 => ?_
    obtain ⟨⟨a0, _, a1⟩, r5⟩ := h5
    have a2 := a1 (by omega)
    have ew : IntKind.wrap .i64 (5 + y5.1.1) = 5 + y5.1.1 := wrap_i64 (by omega) (by omega)
    simp only [ew]
    refine Tot.chk (by simp only [List.length_cons, List.length_nil]; omega) (Tot.ret ⟨⟨?_, ?_, by simp only; omega, s1, by simp only; omega, s2⟩, r5⟩)
    · have := (subL_lens ([[112], [113], [114], [115], [116], [117]] : List (List UInt8)) ((0 : Int).toNat) ((5 + y5.1.1).toNat - (0 : Int).toNat)).2
      simp only [List.length_cons, List.length_nil] at this
      simp only; omega
    · intro x hx
      have := subL_memb hx
      simp only [List.mem_cons, List.not_mem_nil, or_false] at this
      rcases this with rfl | rfl | rfl | rfl | rfl | rfl <;> decide
  · exact Tot.ret ⟨hd.s, h1.2⟩
abbrev HxSt : Type := RdT × List TokT × Int × Unit
def HxJ (x : HxSt) : Prop := RdOk x.1 ∧ (0 ≤ x.2.2.1 ∧ x.2.2.1 ≤ 42) ∧ x.2.1.length ≤ 900 + x.2.2.1.toNat
theorem t_hurtExpr (k : Nat) (hk : 64 ≤ k) {r : RdT} (h : RdOk r) {l : List TokT} (hl : l.length ≤ 900) (hl0 : 1 ≤ l.length) : Tot (spec_l1Rd_hurtExpr k (r, l, ())) fun y => y.1.1.length ≤ 1000 ∧ RdOk y.2.1 := by
  obtain ⟨b, p, ⟨⟩⟩ := r
  unfold spec_l1Rd_hurtExpr
  refine Tot.bd (t_below k h 20) fun y1 h1 => Tot.br (fun _ => ?_) fun _ => Tot.br (fun _ => ?_) fun _ => Tot.br (fun _ => ?_) fun _ => Tot.br (fun _ => ?_) fun _ => ?_
  · have ew : IntKind.wrap .i64 ((l.length : Int) + 1) = (l.length : Int) + 1 := wrap_i64 (by omega) (by omega)
    rw [ew]
    refine Tot.bd (t_below k h1.2 _) fun y2 h2 => ?_
    obtain ⟨⟨a0, _, a1⟩, r2⟩ := h2
    have a2 := a1 (by omega)
    refine Tot.chk (by omega) (Tot.ret ⟨?_, r2⟩)
    have := (subL_lens l ((0 : Int).toNat) (y2.1.1.toNat - (0 : Int).toNat)).2
    simp only; omega
  · refine Tot.bd (t_below k h1.2 _) fun y3 h3 => Tot.bd (t_off k (by omega) h3.2 (by omega) (by omega) (by omega)) fun y4 h4 => ?_
    obtain ⟨⟨a0, _, a1⟩, r3⟩ := h3
    have a2 := a1 (by omega)
    exact Tot.chk (by omega) (Tot.get (by omega) fun x5 _ _ => Tot.ret ⟨by simp <;> omega, h4.2⟩)
  · refine Tot.bd (t_below k h1.2 _) fun y3 h3 => Tot.bd (t_off k (by omega) h3.2 (by omega) (by omega) (by omega)) fun y4 h4 => ?_
    obtain ⟨⟨a0, _, a1⟩, r3⟩ := h3
    have a2 := a1 (by omega)
    exact Tot.chk (by omega) (Tot.get (by omega) fun x5 _ _ => Tot.ret ⟨by simp <;> omega, h4.2⟩)
  · refine Tot.loop HxJ (fun x => (42 - x.2.2.1).toNat) ?_ k _ ⟨h1.2, by simp only; omega, by simp only; omega⟩ (by simp only; omega)
    rintro G ⟨⟨rb, rp, ⟨⟩⟩, l', i, ⟨⟩⟩ ⟨hr, hi, hl'⟩ hG
    simp only at hr hi hl'
    simp only [spec_l1Rd_hurtExpr.l1]
    refine Tot.bind (P := fun j => j.1 = true → i < 42) (Tot.dec (fun hp => Tot.br (fun _ => Tot.ret fun _ => hp) fun hz => by simp at hz) fun _ => Tot.ret fun h => by simp at h) fun j9 h9 => Tot.br (fun hj => ?_) fun _ => Tot.ret ⟨by simp only; omega, hr⟩
    have hi' := h9 hj
    refine Tot.chk (mb16 (by simp only [List.length_cons, List.length_nil]; omega)) ?_
    rw [wrap_i64 (n := i + 1) (by omega) (by omega)]
    refine hG _ ⟨hr, by simp only; omega, by simp only [List.length_append, List.length_cons, List.length_nil]; omega⟩ (by simp only; omega)
  · exact Tot.ret ⟨by simp only; omega, h1.2⟩
theorem lnS_set {l : List LineT} (hl : ∀ n ∈ l, LineS n) (i : Nat) {n : LineT} (hn : LineS n) : ∀ m ∈ l.set i n, LineS m := fun m hm => by
  rcases List.mem_or_eq_of_mem_set hm with h | h
  · exact hl m h
  · rw [h]; exact hn
abbrev HpSt : Type := RdT × ProgT × ProgT × Int × Int × Unit
def HpJ (p : ProgT) (x : HpSt) : Prop := RdOk x.1 ∧ declOf x.2.1 = declOf p ∧ (∀ n ∈ x.2.1.2.2.2.1, LineS n) ∧ (0 ≤ x.2.2.2.2.1 ∧ x.2.2.2.2.1 ≤ 32) ∧ x.2.1.2.2.2.1.length ≤ 30 + x.2.2.2.2.1.toNat
theorem t_hurtProg (k : Nat) (hk : 64 ≤ k) {r : RdT} (h : RdOk r) {p : ProgT} (hd : DDr (declOf p)) (hp : PDr p) (hn : 1 ≤ p.2.2.2.1.length) (hn2 : p.2.2.2.1.length ≤ 30) : Tot (spec_l1Rd_hurtProg k (r, p, ())) fun y => PSmall y.1.1 ∧ RdOk y.2.1 := by
  obtain ⟨b, q, ⟨⟩⟩ := r
  obtain ⟨p0, p1, p2, p3, ⟨⟩⟩ := p
  have hs := hp.s
  have hds := hp.d
  simp only at hs hn hn2
  have set1 : ∀ (i : Nat) (n : LineT), LineS n → PDr (p0, p1, p2, p3.set i n, ()) := fun i n hn => ⟨hds, by simp <;> omega, lnS_set hs i hn⟩
  have set2 : ∀ (i : Nat) (a v lo hi : Int) (x : LineT), LineS x → PSmall (p0, p1, p2, p3.set i (a, v, x.2.2.1, x.2.2.2.1, lo, hi, ()), ()) := fun i a v lo hi x hx => (set1 i (a, v, x.2.2.1, x.2.2.2.1, lo, hi, ()) hx).small
  unfold spec_l1Rd_hurtProg
  refine Tot.bd (t_below k h _) fun y1 h1 => ?_
  obtain ⟨⟨a0, _, a1⟩, r1⟩ := h1
  have a2 := a1 (by omega)
  have lt : y1.1.1.toNat < p3.length := by omega
  refine Tot.bd (t_below k r1 24) fun y2 h2 => Tot.br (fun _ => ?_) fun _ => Tot.br (fun _ => ?_) fun _ => Tot.br (fun _ => ?_) fun _ => Tot.br (fun _ => ?_) fun _ => Tot.br (fun _ => ?_) fun _ => Tot.br (fun _ => ?_) fun _ => Tot.br (fun _ => ?_) fun _ => ?_
  · exact Tot.bd (t_hurtDecl k hk h2.2 hd) fun y3 h3 => Tot.ret ⟨PDr.small ⟨h3.1, by simp only; omega, hs⟩, h3.2⟩
  · exact Tot.bd (t_off k (by omega) h2.2 (by omega) (by omega) (by omega)) fun y4 h4 => Tot.chk (by omega) (Tot.get lt fun x5 hx _ => Tot.ret ⟨set2 _ _ _ _ _ x5 (hs x5 hx), h4.2⟩)
  · have ew : IntKind.wrap .i64 (y1.1.1 + 1) = y1.1.1 + 1 := wrap_i64 (by omega) (by omega)
    simp only [ew]
    refine Tot.chk (by omega) (Tot.chk (by omega) (Tot.chk (by omega) (Tot.chk (by simp only [maxBytes]; omega) (Tot.ret ⟨PDr.small ⟨hds, ?_, ?_⟩, h2.2⟩))))
    · have l1 := (subL_lens p3 ((0 : Int).toNat) (y1.1.1.toNat - (0 : Int).toNat)).2
      have l2 := (subL_lens p3 ((y1.1.1 + 1).toNat) ((p3.length : Int).toNat - (y1.1.1 + 1).toNat)).2
      simp only [List.length_append]; omega
    · exact lnS_cat (fun n hn => hs n (subL_memb hn)) (fun n hn => hs n (subL_memb hn))
  · exact Tot.bd (t_off k (by omega) h2.2 (by omega) (by omega) (by omega)) fun y4 h4 => Tot.chk (by omega) (Tot.get lt fun x5 hx _ => Tot.ret ⟨set2 _ _ _ _ _ x5 (hs x5 hx), h4.2⟩)
  · exact Tot.bd (t_off k (by omega) h2.2 (by omega) (by omega) (by omega)) fun y4 h4 => Tot.chk (by omega) (Tot.get lt fun x5 hx _ => Tot.ret ⟨set2 _ _ _ _ _ x5 (hs x5 hx), h4.2⟩)
  · refine Tot.loop (HpJ (p0, p1, p2, p3, ())) (fun x => (32 - x.2.2.2.2.1).toNat) ?_ k _ ⟨h2.2, rfl, hs, by simp only; omega, by simp only; omega⟩ (by simp only; omega)
    rintro G ⟨⟨rb, rp, ⟨⟩⟩, ⟨q0, q1, q2, q3, ⟨⟩⟩, ⟨t0, t1, t2, t3, ⟨⟩⟩, at_, i, ⟨⟩⟩ ⟨hr, hdd, hs', hi, hl'⟩ hG
    simp only at hr hi hl' hs'
    simp only [spec_l1Rd_hurtProg.l1]
    refine Tot.bind (P := fun j => j.1 = true → i < 32) (Tot.dec (fun hp => Tot.br (fun _ => Tot.ret fun _ => hp) fun hz => by simp at hz) fun _ => Tot.ret fun h => by simp at h) fun j9 h9 => Tot.br (fun hj => ?_) fun _ => Tot.ret ⟨PDr.small ⟨by rw [show declOf (q0, q1, q2, q3, ()) = _ from hdd]; exact hds, by simp only; omega, hs'⟩, hr⟩
    have hi' := h9 hj
    refine Tot.chk (mb80 (by simp only [List.length_cons, List.length_nil]; omega)) ?_
    rw [wrap_i64 (n := i + 1) (by omega) (by omega)]
    exact hG _ ⟨hr, hdd, lnS_cat hs' (lnS_one (lnS_nil _ _ _ _)), by simp only; omega, by simp only [List.length_append, List.length_cons, List.length_nil]; omega⟩ (by simp only; omega)
  · refine Tot.chk (by omega) (Tot.get lt fun x11 hx e11 => Tot.dec (fun hgt => ?_) fun _ => Tot.ret ⟨(set1 _ _ (hs x11 hx)).small, h2.2⟩)
    obtain ⟨x0, xv, xI, xE, xl, xh, ⟨⟩⟩ := x11
    have es : p3.set y1.1.1.toNat (x0, xv, xI, xE, xl, xh, ()) = p3 := by
      obtain ⟨q1, q2⟩ := List.getElem?_eq_some_iff.1 e11
      rw [← q2]; exact List.set_getElem_self q1
    simp only [es] at hgt ⊢
    have hE := hs _ hx
    have hE1 : xI.length ≤ 900 := hE.1
    have hE2 : xE.length ≤ 900 := hE.2
    refine Tot.chk (by omega) ?_
    rw [e11, bd_some]
    refine Tot.bd (t_hurtExpr k hk h2.2 (l := xE) hE2 (by omega)) fun y13 h13 => ?_
    refine Tot.chk (by omega) ?_
    have h1000 := h13.1
    refine Tot.chk trivial (Tot.ret ⟨⟨hds, by simp <;> omega, fun n hn => ?_, fun n hn => ?_⟩, h13.2⟩)
    · rcases List.mem_or_eq_of_mem_set hn with hn | rfl
      · have := (hs n hn).1; omega
      · simp only; omega
    · rcases List.mem_or_eq_of_mem_set hn with hn | rfl
      · have := (hs n hn).2; omega
      · simp only; omega
  · exact Tot.ret ⟨hp.small, h2.2⟩
abbrev InSt : Type := RdT × List Int × Int × Unit
def InJ (x : InSt) : Prop := RdOk x.1 ∧ (0 ≤ x.2.2.1 ∧ x.2.2.1 ≤ 11) ∧ x.2.1.length ≤ 11 - x.2.2.1.toNat
theorem t_inputs (k : Nat) (hk : 64 ≤ k) {r : RdT} (h : RdOk r) : Tot (spec_l1Rd_inputs k (r, ())) fun y => RdOk y.2.1 := by
  obtain ⟨b, q, ⟨⟩⟩ := r
  unfold spec_l1Rd_inputs
  refine Tot.bd (t_below k h 12) fun y1 h1 => ?_
  obtain ⟨⟨a0, _, a1⟩, r1⟩ := h1
  have a2 := a1 (by omega)
  refine Tot.loop InJ (fun x => x.2.2.1.toNat) ?_ k _ ⟨r1, by simp only; omega, by simp⟩ (by simp only; omega)
  rintro G ⟨⟨rb, rp, ⟨⟩⟩, out, i, ⟨⟩⟩ ⟨hr, hi, hl⟩ hG
  simp only at hr hi hl
  simp only [spec_l1Rd_inputs.l0]
  refine Tot.dec (fun hp => ?_) fun _ => ?_
  · refine Tot.bd (t_num k (by omega) hr) fun y2 h2 => Tot.chk (by simp only [List.length_cons, List.length_nil, maxBytes]; omega) ?_
    rw [wrap_i64 (n := i - 1) (by omega) (by omega)]
    exact hG _ ⟨h2.2, by simp only; omega, by simp only [List.length_append, List.length_cons, List.length_nil]; omega⟩ (by simp only; omega)
  · refine Tot.bd (t_once k hr 40) fun y3 h3 => Tot.br (fun _ => ?_) fun _ => Tot.ret h3
    refine Tot.bd (t_below k h3 2) fun y4 h4 => ?_
    obtain ⟨⟨a0, _, a1⟩, r4⟩ := h4
    have a2 := a1 (by omega)
    have ew : IntKind.wrap .i64 (1000 + y4.1.1) = 1000 + y4.1.1 := wrap_i64 (by omega) (by omega)
    simp only [ew]
    exact Tot.chk (by simp only [maxBytes]; omega) (Tot.ret r4)
theorem t_drawRun (k : Nat) (hk : 64 ≤ k) {code : List Int} (h1 : code.length ≤ 140737488351232) (h2 : ∀ x ∈ code, 0 ≤ x ∧ x ≤ 255) : Tot (spec_DrawRun k (code, ())) fun y => PSmall y.1.1 := by
  have tail : ∀ (r : RdT) (p : ProgT), RdOk r → PSmall p → Tot (bd k (spec_l1Rd_below k (r, 180, ())) fun y16 =>
      bd k (spec_l1Rd_once k ((y16.2.1.1, y16.2.1.2.1, ()), 8, ())) fun y17 =>
      br k (y17.1.1)
      (bd k (spec_l1Rd_below k ((y17.2.1.1, y17.2.1.2.1, ()), 20, ())) fun y18 =>
      bd k (spec_l1Rd_once k ((y18.2.1.1, y18.2.1.2.1, ()), 30, ())) fun y19 =>
      br k (y19.1.1)
      (bd k (spec_l1Rd_off k ((y19.2.1.1, y19.2.1.2.1, ()), 0, 2000, ())) fun y20 =>
      bd k (spec_l1Rd_inputs k ((y20.2.1.1, y20.2.1.2.1, ()), ())) fun y21 =>
      some (((p.1, p.2.1, p.2.2.1, p.2.2.2.1, ()), y21.1.1, y20.1.1, ()), ((), ())))
      (bd k (spec_l1Rd_inputs k ((y19.2.1.1, y19.2.1.2.1, ()), ())) fun y22 =>
      some (((p.1, p.2.1, p.2.2.1, p.2.2.2.1, ()), y22.1.1, y18.1.1, ()), ((), ()))))
      (bd k (spec_l1Rd_once k ((y17.2.1.1, y17.2.1.2.1, ()), 30, ())) fun y23 =>
      br k (y23.1.1)
      (bd k (spec_l1Rd_off k ((y23.2.1.1, y23.2.1.2.1, ()), 0, 2000, ())) fun y24 =>
      bd k (spec_l1Rd_inputs k ((y24.2.1.1, y24.2.1.2.1, ()), ())) fun y25 =>
      some (((p.1, p.2.1, p.2.2.1, p.2.2.2.1, ()), y25.1.1, y24.1.1, ()), ((), ())))
      (bd k (spec_l1Rd_inputs k ((y23.2.1.1, y23.2.1.2.1, ()), ())) fun y26 =>
      some (((p.1, p.2.1, p.2.2.1, p.2.2.2.1, ()), y26.1.1, IntKind.wrap .i64 (20 + y16.1.1), ()), ((), ()))))) fun y : (ProgT × List Int × Int × Unit) × (Unit × Unit) => PSmall y.1.1 := fun r p hr hp => by
    refine Tot.bd (t_below k hr 180) fun y16 h16 => Tot.bd (t_once k h16.2 8) fun y17 h17 => Tot.br (fun _ => ?_) fun _ => ?_
    · refine Tot.bd (t_below k h17 20) fun y18 h18 => Tot.bd (t_once k h18.2 30) fun y19 h19 => Tot.br (fun _ => ?_) fun _ => ?_
      · exact Tot.bd (t_off k (by omega) h19 (by omega) (by omega) (by omega)) fun y20 h20 => Tot.bd (t_inputs k hk h20.2) fun y21 _ => Tot.ret hp
      · exact Tot.bd (t_inputs k hk h19) fun y21 _ => Tot.ret hp
    · refine Tot.bd (t_once k h17 30) fun y19 h19 => Tot.br (fun _ => ?_) fun _ => ?_
      · exact Tot.bd (t_off k (by omega) h19 (by omega) (by omega) (by omega)) fun y20 h20 => Tot.bd (t_inputs k hk h20.2) fun y21 _ => Tot.ret hp
      · exact Tot.bd (t_inputs k hk h19) fun y21 _ => Tot.ret hp
  unfold spec_DrawRun
  refine Tot.bd (t_open k h1 h2) fun y1 r1 => Tot.bd (t_prog k hk r1) fun y2 hy2 => ?_
  obtain ⟨⟨q1, q2, q3, q4⟩, r2⟩ := hy2
  refine Tot.bd (t_once k r2 12) fun y3 h3 => Tot.br (fun _ => ?_) fun _ => ?_
  · exact Tot.bd (t_hurtProg k hk h3 q1 q2 q3 q4) fun y4 h4 => tail _ _ h4.2 h4.1
  · exact tail _ _ h3 q2.small
end Go.Pev.F
end

section
/-
  Stores compared.
-/
set_option linter.unusedVariables false
set_option linter.unusedSimpArgs false
namespace Go.Pev.F
def SoFar {α : Type} (a b : List α) (i : Int) : Prop := 0 ≤ i ∧ i ≤ a.length ∧ a.take i.toNat = b.take i.toNat
theorem soFar_0 {α : Type} (a b : List α) : SoFar a b 0 := ⟨by omega, by omega, rfl⟩
theorem soFar_end {α : Type} {a b : List α} (h : a.length = b.length) {i : Int} (hi : SoFar a b i) (hn : ¬ i < (a.length : Int)) : a = b := by
  obtain ⟨h0, h1, h2⟩ := hi
  rw [List.take_of_length_le (by omega), List.take_of_length_le (by omega)] at h2
  exact h2
theorem soFar_step {α : Type} {a b : List α} {i : Int} (hi : SoFar a b i) (hlt : i < (a.length : Int)) {x y : α} (hx : a[i.toNat]? = some x) (hy : b[i.toNat]? = some y) (e : x = y) : SoFar a b (i + 1) := by
  obtain ⟨h0, h1, h2⟩ := hi
  refine ⟨by omega, by omega, ?_⟩
  have e1 : (i + 1).toNat = i.toNat + 1 := by omega
  obtain ⟨q1, r1⟩ := List.getElem?_eq_some_iff.1 hx
  obtain ⟨q2, r2⟩ := List.getElem?_eq_some_iff.1 hy
  rw [e1, ← List.take_append_getElem q1, ← List.take_append_getElem q2, h2, r1, r2, e]
theorem soFar_ne {α : Type} {a b : List α} {i : Nat} {x y : α} (hx : a[i]? = some x) (hy : b[i]? = some y) (e : x ≠ y) : a ≠ b := by
  rintro rfl
  rw [hx] at hy
  exact e (Option.some.inj hy)
abbrev EqSt (α : Type) : Type := List α × List α × Int × Unit
def EqJ {α : Type} (a b : List α) (x : EqSt α) : Prop := x.1 = a ∧ x.2.1 = b ∧ SoFar a b x.2.2.1
theorem t_sameInts (k : Nat) (hk : 2000 ≤ k) {a b : List Int} (ha : a.length ≤ 1000) : Tot (laws_sameInts k (a, b, ())) fun y => y.1.1 = decide (a = b) := by
  unfold laws_sameInts
  refine Tot.br (fun h => Tot.ret ?_) fun h => ?_
  · have : a ≠ b := by rintro rfl; simp at h
    simp [this]
  · have hl : a.length = b.length := by
      simp only [bne_eq_false_iff_eq] at h
      omega
    refine Tot.loop (EqJ a b) (fun x => ((a.length : Int) - x.2.2.1).toNat) ?_ k _ ⟨rfl, rfl, soFar_0 a b⟩ (by simp only; omega)
    rintro G ⟨a', b', i, ⟨⟩⟩ ⟨rfl, rfl, hi⟩ hG
    simp only at hi ha hl
    have h0 := hi.1
    simp only [laws_sameInts.l0]
    refine Tot.dec (fun hlt => ?_) fun hlt => Tot.ret ?_
    · refine Tot.chk h0 (Tot.get (by omega) fun x1 _ e1 => Tot.chk h0 (Tot.get (by omega) fun x2 _ e2 => ?_))
      rw [wrap_i64 (n := i + 1) (by omega) (by omega)]
      refine Tot.br (fun hne => Tot.ret ?_) fun heq => hG _ ⟨rfl, rfl, soFar_step hi hlt e1 e2 (by simpa using heq)⟩ (by simp only; omega)
      have := soFar_ne e1 e2 (by simpa using hne)
      simp [this]
    · simp [soFar_end hl hi hlt]
abbrev SameSt : Type := StoreT × StoreT × Int × Unit
theorem t_sameStore (k : Nat) (hk : 2000 ≤ k) {a b : StoreT} (ha : SAny a) : Tot (laws_sameStore k (a, b, ())) fun y => y.1.1 = decide (a = b) := by
  have N0 := ha.n0
  have N1 := ha.n1
  have N2 := ha.n2
  unfold laws_sameStore
  refine Tot.bind (P := fun y => (y.1 = true → a ≠ b) ∧ (y.1 = false → a.1 = b.1 ∧ a.2.1.length = b.2.1.length ∧ a.2.2.1.length = b.2.2.1.length)) (Tot.bd (t_sameInts k hk N0) fun y1 h1 => Tot.br (fun h => Tot.ret ⟨fun _ e => ?_, fun h => by cases h⟩) fun h => Tot.br (fun h' => Tot.ret ⟨fun _ e => ?_, fun h => by cases h⟩) fun h' => Tot.ret ⟨fun h'' e => ?_, fun h'' => ⟨?_, ?_, ?_⟩⟩) fun j hj => Tot.br (fun h => Tot.ret ?_) fun h => ?_
  · rw [e] at h1; rw [h1] at h; simp at h
  · rw [e] at h'; simp at h'
  · rw [e] at h''; simp at h''
  · rw [h1] at h; simpa using h
  · simp only [bne_eq_false_iff_eq] at h'; omega
  · simp only [bne_eq_false_iff_eq] at h''; omega
  · simp [hj.1 h]
  · obtain ⟨e0, l1, l2⟩ := hj.2 h
    have rows : a.2.1 = b.2.1 → ∀ (f : Nat) (x : SameSt), (x.1 = a ∧ x.2.1 = b ∧ SoFar a.2.2.1 b.2.2.1 x.2.2.1) → ((a.2.2.1.length : Int) - x.2.2.1).toNat < f → Tot (iter (laws_sameStore.l2 k) f x) fun y => y.1.1 = decide (a = b) := by
      intro e1
      refine Tot.loop (fun x : SameSt => x.1 = a ∧ x.2.1 = b ∧ SoFar a.2.2.1 b.2.2.1 x.2.2.1) (fun x : SameSt => ((a.2.2.1.length : Int) - x.2.2.1).toNat) ?_
      rintro G ⟨⟨a0, a1, a2, ⟨⟩⟩, ⟨b0, b1, b2, ⟨⟩⟩, i, ⟨⟩⟩ ⟨rfl, rfl, hi⟩ hG
      simp only at hi e0 e1 l1 l2 N2
      have m2 := ha.m2
      simp only at m2
      have h0 := hi.1
      simp only [laws_sameStore.l2]
      refine Tot.dec (fun hlt => ?_) fun hlt => Tot.ret ?_
      · refine Tot.chk h0 (Tot.get (by omega) fun x1 hx1 e1' => Tot.chk h0 (Tot.get (by omega) fun x2 _ e2 => Tot.bd (t_sameInts k hk (m2 _ hx1)) fun y7 h7 => ?_))
        rw [wrap_i64 (n := i + 1) (by omega) (by omega), h7]
        refine Tot.br (fun hne => Tot.ret ?_) fun heq => hG _ ⟨rfl, rfl, soFar_step hi hlt e1' e2 (by simpa using heq)⟩ (by simp only; omega)
        have := soFar_ne e1' e2 (by simpa using hne)
        simp [this]
      · have := soFar_end l2 hi hlt
        simp [e0, e1, this]
    refine Tot.loop (fun x : SameSt => x.1 = a ∧ x.2.1 = b ∧ SoFar a.2.1 b.2.1 x.2.2.1) (fun x : SameSt => ((a.2.1.length : Int) - x.2.2.1).toNat) ?_ k _ ⟨rfl, rfl, soFar_0 _ _⟩ (by simp only; omega)
    rintro G ⟨⟨a0, a1, a2, ⟨⟩⟩, ⟨b0, b1, b2, ⟨⟩⟩, i, ⟨⟩⟩ ⟨rfl, rfl, hi⟩ hG
    simp only at hi e0 l1 l2 N1 N2
    have h0 := hi.1
    simp only [laws_sameStore.l0]
    refine Tot.dec (fun hlt => ?_) fun hlt => ?_
    · refine Tot.chk h0 (Tot.get (by omega) fun x1 hx1 e1 => Tot.chk h0 (Tot.get (by omega) fun x2 _ e2 => ?_))
      rw [wrap_i64 (n := i + 1) (by omega) (by omega)]
      refine Tot.br (fun hne => Tot.ret ?_) fun heq => hG _ ⟨rfl, rfl, soFar_step hi hlt e1 e2 (by simpa using heq)⟩ (by simp only; omega)
      have := soFar_ne e1 e2 (by simpa using hne)
      simp [this]
    · exact rows (soFar_end l1 hi hlt) k _ ⟨rfl, rfl, soFar_0 _ _⟩ (by simp only; omega)
end Go.Pev.F
end

section
/-
  Laws of runs: both come to the same.
-/
set_option linter.unusedVariables false
set_option linter.unusedSimpArgs false
namespace Go.Pev.F
theorem t_big (k : Nat) (code : List Int) : Tot (laws_big k (code, ())) fun _ => True := by
  unfold laws_big
  exact Tot.ret trivial
theorem outS_any {p : ProgT} {inp : List Int} {fuel : Int} : SAny (outS (outOf p inp fuel)) := by
  unfold outOf
  split
  · rename_i h
    have hok := run_ok fuel.toNat 0 (newS (declOf p)) 0 0 (runAt_new h)
    simp only [formOk, Bool.and_eq_true] at h
    have hdo := (progOk_parts h.1).1
    have ha := newS_any hdo
    obtain ⟨⟨q0, q1, q2⟩, _⟩ := decl_arrs hdo
    have hs := hok.st
    have hl := hok.lens
    have n0 := hs.n0
    have n1 := hs.n1
    have n2 := hs.n2
    refine ⟨by unfold runOf; omega, by unfold runOf; omega, by unfold runOf; omega, fun r hr => ?_, fun x hx => hs.f0 x hx, fun r hr x hx => hs.f2 r hr x hx⟩
    have hm : r.length ∈ (outS (runOf p inp fuel)).2.2.1.map List.length := List.mem_map_of_mem hr
    unfold runOf at hm
    rw [hl] at hm
    obtain ⟨r', hr', e⟩ := List.mem_map.1 hm
    rw [← e]
    exact ha.m2 r' hr'
  · exact ⟨by simp [outS], by simp [outS], by simp [outS], by simp [outS], by simp [outS], by simp [outS]⟩
theorem sameOut_refl (k : Nat) (hk : 4194304 < k) {o : OutT} (h : SAny (outS o)) : laws_sameOut k ((o.1, o.2.1, o.2.2.1, o.2.2.2.1, o.2.2.2.2.1, o.2.2.2.2.2.1, o.2.2.2.2.2.2.1, ()), o, ()) = some ((true, ()), ((), (), ())) := by
  obtain ⟨y, e, hy⟩ := t_sameStore k (by omega) (a := outS o) (b := outS o) h
  obtain ⟨⟨b, ⟨⟩⟩, ⟨⟨⟩, ⟨⟩, ⟨⟩⟩⟩ := y
  simp only [decide_true] at hy
  subst hy
  unfold outS at e
  unfold laws_sameOut
  simp only [beq_self_eq_true, br_true, e, bd_some, Option.bind_some]
theorem runs (k : Nat) (hk : 4194304 < k) (hk2 : k ≤ 4611686018427387903) {p : ProgT} (hp : PSmall p) (inp : List Int) (fuel : Int) : impl_Run k ((p.1, p.2.1, p.2.2.1, p.2.2.2.1, ()), inp, fuel, ()) = some ((outOf p inp fuel, ()), ((), (), (), ())) ∧ spec_Run k ((p.1, p.2.1, p.2.2.1, p.2.2.2.1, ()), inp, fuel, ()) = some ((outOf p inp fuel, ()), ((), (), (), ())) :=
  ⟨implRun_is k hk hk2 p hp inp fuel, specRun_is k hk hk2 p hp inp fuel⟩
theorem bad_code {p : ProgT} {inp : List Int} {fuel : Int} : (outOf p inp fuel).1 = 1 ↔ formOk p inp fuel = false := by
  unfold outOf
  cases h : formOk p inp fuel with
  | false => simp
  | true =>
    simp only [if_true]
    exact ⟨fun e => absurd e (run_ok fuel.toNat 0 (newS (declOf p)) 0 0 (runAt_new h)).code.1, fun e => by cases e⟩
theorem law_of {β : Type} {m : Option ((Bool × Unit) × β)} (h : Tot m fun y => y.1.1 = true) : ∃ o, m = some ((true, ()), o) := by
  obtain ⟨⟨⟨b, ⟨⟩⟩, o⟩, e, hb⟩ := h
  exact ⟨o, by rw [e]; simp only at hb; rw [hb]⟩
end Go.Pev.F
end

section
/-
  Stores of a declaration's form: the program's answer.
-/
set_option linter.unusedVariables false
set_option linter.unusedSimpArgs false
namespace Go.Pev.F
theorem implRows (k : Nat) (hk : 4194304 < k) (d : DeclT) (s : StoreT) (hs : SSmall s) (hl : s.2.2.1.length = d.2.2.1.length) : iter (impl_Decl_isStore.l0 k) k ((s.1, s.2.1, s.2.2.1, ()), d.2.2.1, (d.2.2.1.length : Int), 0, ()) = some ((rowsOk d s, ()), ((), (), ())) := by
  have n2 := hs.n2
  have h := iter_range (b := impl_Decl_isStore.l0 k) (fun i => ((s.1, s.2.1, s.2.2.1, ()), d.2.2.1, (d.2.2.1.length : Int), (i : Int), ())) s.2.2.1.length (fun i => ((s.2.2.1.getD i []).length : Int) != (d.2.2.1.getD i ([], 0, ())).2.1) (rf := some ((false, ()), ((), (), ()))) (r := some ((true, ()), ((), (), ()))) (fun G i hi => by
    have hi2 : i < d.2.2.1.length := by omega
    have h2 : ((i : Int) < (d.2.2.1.length : Int)) := by omega
    have h3 : (0 : Int) ≤ (i : Int) := by omega
    have g1 : s.2.2.1.getD i [] = s.2.2.1[i] := by simp [List.getD, List.getElem?_eq_getElem hi]
    have g2 : d.2.2.1.getD i ([], 0, ()) = d.2.2.1[i] := by simp [List.getD, List.getElem?_eq_getElem hi2]
    simp only [impl_Decl_isStore.l0, impl_size_int64, br_dec, if_pos h2, if_pos h3, Int.toNat_natCast, List.getElem?_eq_getElem hi, List.getElem?_eq_getElem hi2, bd_some, g1, g2]
    rw [wrap_succ (by omega)]
    cases ((s.2.2.1[i].length : Int) != d.2.2.1[i].2.1) <;> simp) (fun G => by
    have h2 : ¬ ((s.2.2.1.length : Int) < (d.2.2.1.length : Int)) := by omega
    simp only [impl_Decl_isStore.l0, br_dec, if_neg h2]) (f := k) (by omega)
  refine Eq.trans h ?_
  unfold rowsOk
  cases (List.range s.2.2.1.length).any fun i => ((s.2.2.1.getD i []).length : Int) != (d.2.2.1.getD i ([], 0, ())).2.1 <;> rfl
theorem isStore_is (k : Nat) (hk : 4194304 < k) (d : DeclT) (s : StoreT) (hs : SSmall s) : impl_Decl_isStore k (d, s, ()) = some ((lensOk d s && rowsOk d s, ()), ((), (), ())) := by
  unfold impl_Decl_isStore
  cases hl : lensOk d s with
  | true =>
    obtain ⟨l0, l1, l2⟩ := lens_of hl
    have hr := implRows k hk d s hs l2
    simp only [l0, l1, l2, bne_self_eq_false, br_false, Option.bind_some, Bool.true_and]
    exact hr
  | false =>
    unfold lensOk at hl
    simp only [bne]
    revert hl
    cases ((s.1.length : Int) == (d.1.length : Int)) <;> cases ((s.2.1.length : Int) == (d.2.1.length : Int)) <;> cases ((s.2.2.1.length : Int) == (d.2.2.1.length : Int)) <;> simp
end Go.Pev.F
end

section
/-
  What a run comes to: the law.
-/
set_option linter.unusedVariables false
set_option linter.unusedSimpArgs false
namespace Go.Pev.F
theorem runRight_tot (k : Nat) (hk : 4194304 < k) (hk2 : k ≤ 4611686018427387903) {code : List Int} (h1 : code.length ≤ 140737488351232) (h2 : ∀ x ∈ code, 0 ≤ x ∧ x ≤ 255) : Tot (laws_FnRunRight k (code, ())) fun y => y.1.1 = true := by
  unfold laws_FnRunRight
  refine Tot.bd (t_big k code) fun _ _ => Tot.br (fun _ => Tot.ret rfl) fun _ => Tot.bd (t_drawRun k (by omega) h1 h2) fun y2 hp => ?_
  generalize y2.1.1 = p at hp
  generalize y2.1.2.1 = inp
  generalize y2.1.2.2.1 = fuel
  obtain ⟨r1, r2⟩ := runs k hk hk2 hp inp fuel
  have hs := sameOut_refl k hk (outS_any (p := p) (inp := inp) (fuel := fuel))
  simp only [r1, r2, bd_some, hs, Bool.not_true, br_false]
  refine Tot.br (fun _ => Tot.ret rfl) fun hc => ?_
  have hf : formOk p inp fuel = true := by
    cases h : formOk p inp fuel with
    | true => rfl
    | false => rw [bad_code.2 h] at hc; cases hc
  have hA := runAt_new hf
  have hfo := hf
  simp only [formOk, Bool.and_eq_true, decide_eq_true_eq] at hfo
  obtain ⟨hpo, ⟨f0, f1⟩, _⟩ := hfo
  obtain ⟨hdo, hl30, hln, _⟩ := progOk_parts hpo
  have hok := run_ok fuel.toNat 0 (newS (declOf p)) 0 0 hA
  have ho : outOf p inp fuel = runV p.2.2.2.1 (targetsOf p.2.2.2.1) inp fuel.toNat 0 (newS (declOf p)) 0 0 := by unfold outOf; rw [if_pos hf]; rfl
  have hany := outS_any (p := p) (inp := inp) (fuel := fuel)
  rw [← ho] at hok
  generalize outOf p inp fuel = o at hok hany
  have hd' : impl_Decl_isRight k ((p.1, p.2.1, p.2.2.1, ()), ()) = some ((true, ()), ((), ())) := by
    have := implDeclOk_is k hk hk2 (declOf p) hp.d
    rw [hdo] at this
    exact this
  have hst := hok.st
  have n0 := hst.n0
  have n1 := hst.n1
  have n2 := hst.n2
  have hlens : lensOk (declOf p) (outS o) = true := by
    simp only [lensOk, Bool.and_eq_true, beq_iff_eq]
    omega
  have hrows : rowsOk (declOf p) (outS o) = true := by
    simp only [rowsOk, Bool.not_eq_true', List.any_eq_false, List.mem_range]
    intro i hi
    have hl := hok.lens
    have hi2 : i < (declOf p).2.2.1.length := by omega
    have e := congrArg (fun l : List Nat => l[i]?) hl
    simp only [newS, List.map_map, List.getElem?_map, List.getElem?_eq_getElem hi, List.getElem?_eq_getElem hi2, Option.map_some, Option.some.injEq, Function.comp, List.length_replicate] at e
    obtain ⟨_, ha⟩ := decl_arrs hdo
    have hb := ha _ (List.getElem_mem hi2)
    simp only [List.getD, List.getElem?_eq_getElem hi, List.getElem?_eq_getElem hi2, Option.getD_some]
    simp
    omega
  have hstore : impl_Decl_isStore k ((p.1, p.2.1, p.2.2.1, ()), (o.2.2.1, o.2.2.2.1, o.2.2.2.2.1, ()), ()) = some ((true, ()), ((), (), ())) := by
    have := isStore_is k hk (declOf p) (outS o) hany.small
    rw [hlens, hrows] at this
    exact this
  have hSO : impl_StoreOk k ((p.1, p.2.1, p.2.2.1, ()), (o.2.2.1, o.2.2.2.1, o.2.2.2.2.1, ()), ()) = some ((true, ()), ((), (), ())) := by
    unfold impl_StoreOk
    simp only [hd', bd_some, br_true, hstore, Option.bind_some]
  have c1 : ¬ o.2.2.2.2.2.1 > fuel := by have := hok.stb; omega
  have c2 : ((o.2.1 == (p.2.2.2.1.length : Int)) == (o.1 == 0)) = true := by
    have := hok.done
    by_cases h : o.1 = 0
    · have e := this.1 h
      simp [h, e]
    · have e : ¬ o.2.1 = (p.2.2.2.1.length : Int) := fun e => h (this.2 e)
      have b1 : (o.1 == 0) = false := by simpa using h
      have b2 : (o.2.1 == (p.2.2.2.1.length : Int)) = false := by simpa using e
      rw [b1, b2]; rfl
  have hb := hok.ln
  have c3 : ¬ o.2.1 < 0 := by omega
  have c4 : ¬ o.2.1 > (p.2.2.2.1.length : Int) := by omega
  simp only [hSO, bd_some, Bool.not_true, br_false, br_dec, if_neg c1, c2, if_neg c3, decide_eq_false c4, Option.bind_some]
  have h2s : (o.1 != 2) = false → (o.2.2.2.2.2.1 == fuel) = true := fun h => by
    have e : o.1 = 2 := by simpa using h
    have := hok.out e
    simp only [beq_iff_eq]
    omega
  have tl : Tot (br k (o.1 != 2) (some (true, ())) (some (o.2.2.2.2.2.1 == fuel, ())) : Option (Bool × Unit)) fun j => j.1 = true := Tot.br (fun _ => Tot.ret rfl) fun h => Tot.ret (h2s h)
  have hcd := hok.code
  by_cases hlen : o.2.1 = (p.2.2.2.1.length : Int)
  · have hz := hok.done.2 hlen
    have b : (!(o.2.1 == (p.2.2.2.1.length : Int))) = false := by simp [hlen]
    have z7 : (o.1 != 7) = true := by rw [hz]; rfl
    have z3 : (o.1 != 3) = true := by rw [hz]; rfl
    have z2 : (o.1 != 2) = true := by rw [hz]; rfl
    simp only [b, br_false, z7, z3, z2, br_true, Option.bind_some]
    exact Tot.ret rfl
  · have b : (!(o.2.1 == (p.2.2.2.1.length : Int))) = true := by
      have : (o.2.1 == (p.2.2.2.1.length : Int)) = false := by simpa using hlen
      rw [this]; rfl
    have hlt : 0 ≤ o.2.1 ∧ o.2.1 < (p.2.2.2.1.length : Int) := by omega
    have hlt2 : o.2.1.toNat < p.2.2.2.1.length := by omega
    have eg : p.2.2.2.1.getD o.2.1.toNat lineD = p.2.2.2.1[o.2.1.toNat] := getD_get hlt2 _
    rw [eg] at hcd
    simp only [b, br_true, if_pos hlt, List.getElem?_eq_getElem hlt2, bd_some]
    refine Tot.bind (P := fun j => j.1 = true) (Tot.br (fun _ => Tot.br (fun _ => tl) fun h3 => ?_) fun h7 => ?_) fun j hj => Tot.ret hj
    · have e3 : o.1 = 3 := by simpa using h3
      have := hcd.2.2 e3
      simp only [this, beq_self_eq_true, br_true]
      exact tl
    · have e7 : o.1 = 7 := by simpa using h7
      have := hcd.2.1 e7
      have z3 : (o.1 != 3) = true := by rw [e7]; rfl
      simp only [this, beq_self_eq_true, br_true, z3]
      exact tl
theorem FnRunRight_true (x : List Int × Unit) (hw : WFs [.sl false (.int .u8)] x) : ∃ k o, laws_FnRunRight k x = some ((true, ()), o) := by
  obtain ⟨code, ⟨⟩⟩ := x
  obtain ⟨⟨hlen, hby⟩, _⟩ := hw
  obtain ⟨o, e⟩ := law_of (runRight_tot 8388608 (by omega) (by omega) hlen fun x hx => hby x hx)
  exact ⟨8388608, o, e⟩
end Go.Pev.F
end
