/-
  The order of tokens is transitive; rising parts rise everywhere.
-/
import Derived.Test.YthjihnplkkhpmaaGreatDoorK14
set_option linter.unusedSimpArgs false
set_option linter.unusedVariables false
section
set_option linter.unusedVariables false
set_option linter.unusedSimpArgs false
namespace Go.Pev.F

theorem cmpE_cases (x y : EntT) : (cmpE x y = -1 ∧ (x.1 < y.1 ∨ (x.1 = y.1 ∧ x.2.1 < y.2.1))) ∨ (cmpE x y = 1 ∧ (y.1 < x.1 ∨ (x.1 = y.1 ∧ y.2.1 < x.2.1))) ∨ (cmpE x y = 0 ∧ x.1 = y.1 ∧ x.2.1 = y.2.1) := by
  unfold cmpE
  by_cases h1 : x.1 < y.1
  · rw [if_pos h1]; exact .inl ⟨rfl, .inl h1⟩
  · by_cases h2 : x.1 > y.1
    · rw [if_neg h1, if_pos h2]; exact .inr (.inl ⟨rfl, .inl h2⟩)
    · by_cases h3 : x.2.1 < y.2.1
      · rw [if_neg h1, if_neg h2, if_pos h3]; exact .inl ⟨rfl, .inr ⟨by omega, h3⟩⟩
      · by_cases h4 : x.2.1 > y.2.1
        · rw [if_neg h1, if_neg h2, if_neg h3, if_pos h4]; exact .inr (.inl ⟨rfl, .inr ⟨by omega, h4⟩⟩)
        · rw [if_neg h1, if_neg h2, if_neg h3, if_neg h4]; exact .inr (.inr ⟨rfl, by omega, by omega⟩)

/-- Less, and then not more, is less. -/
theorem cmpX_lt : ∀ (a b c : List EntT), a.length = b.length → b.length = c.length → cmpX a b < 0 → cmpX b c ≤ 0 → cmpX a c < 0
  | [], [], _, _, _, h, _ => by simp [cmpX] at h
  | x :: a, y :: b, z :: c, h1, h2, h, h' => by
    have ih := cmpX_lt a b c (by simpa using h1) (by simpa using h2)
    simp only [cmpX] at h h' ⊢
    rcases cmpE_cases x y with ⟨e1, f1⟩ | ⟨e1, f1⟩ | ⟨e1, f1⟩ <;> rcases cmpE_cases y z with ⟨e2, f2⟩ | ⟨e2, f2⟩ | ⟨e2, f2⟩ <;> rcases cmpE_cases x z with ⟨e3, f3⟩ | ⟨e3, f3⟩ | ⟨e3, f3⟩ <;> simp only [e1, e2, e3] at h h' ⊢ <;> simp at h h' ⊢ <;> first | omega | exact ih h h'

/-- Not more, and then less, is less. -/
theorem cmpX_le_lt : ∀ (a b c : List EntT), a.length = b.length → b.length = c.length → cmpX a b ≤ 0 → cmpX b c < 0 → cmpX a c < 0
  | [], [], [], _, _, _, h => by simp [cmpX] at h
  | x :: a, y :: b, z :: c, h1, h2, h, h' => by
    have ih := cmpX_le_lt a b c (by simpa using h1) (by simpa using h2)
    simp only [cmpX] at h h' ⊢
    rcases cmpE_cases x y with ⟨e1, f1⟩ | ⟨e1, f1⟩ | ⟨e1, f1⟩ <;> rcases cmpE_cases y z with ⟨e2, f2⟩ | ⟨e2, f2⟩ | ⟨e2, f2⟩ <;> rcases cmpE_cases x z with ⟨e3, f3⟩ | ⟨e3, f3⟩ | ⟨e3, f3⟩ <;> simp only [e1, e2, e3] at h h' ⊢ <;> simp at h h' ⊢ <;> first | omega | exact ih h h'

theorem cmpT_lt {a b c : List EntT} (h : cmpT a b < 0) (h' : cmpT b c ≤ 0) : cmpT a c < 0 := by
  unfold cmpT at h h' ⊢
  by_cases h1 : a.length < b.length
  · by_cases h2 : c.length < b.length
    · rw [if_neg (by omega), if_pos (by omega)] at h'; omega
    · rw [if_pos (by omega)]; decide
  · by_cases h2 : a.length > b.length
    · rw [if_neg h1, if_pos h2] at h; omega
    · rw [if_neg h1, if_neg h2] at h
      by_cases h3 : b.length < c.length
      · rw [if_pos (by omega)]; decide
      · by_cases h4 : b.length > c.length
        · rw [if_neg h3, if_pos h4] at h'; omega
        · rw [if_neg h3, if_neg h4] at h'
          rw [if_neg (by omega), if_neg (by omega)]
          exact cmpX_lt a b c (by omega) (by omega) h h'

theorem cmpT_le_lt {a b c : List EntT} (h : cmpT a b ≤ 0) (h' : cmpT b c < 0) : cmpT a c < 0 := by
  unfold cmpT at h h' ⊢
  by_cases h1 : a.length < b.length
  · by_cases h2 : c.length < b.length
    · rw [if_neg (by omega), if_pos (by omega)] at h'; omega
    · rw [if_pos (by omega)]; decide
  · by_cases h2 : a.length > b.length
    · rw [if_neg h1, if_pos h2] at h; omega
    · rw [if_neg h1, if_neg h2] at h
      by_cases h3 : b.length < c.length
      · rw [if_pos (by omega)]; decide
      · by_cases h4 : b.length > c.length
        · rw [if_neg h3, if_pos h4] at h'; omega
        · rw [if_neg h3, if_neg h4] at h'
          rw [if_neg (by omega), if_neg (by omega)]
          exact cmpX_le_lt a b c (by omega) (by omega) h h'

/-- Rising parts rise everywhere. -/
theorem rise_all : ∀ (l : List PartT) (prev : Option (List EntT)), riseP prev l = true → (∀ s, prev = some s → ∀ p ∈ l, cmpT s p.1 < 0) ∧ l.Pairwise fun p q => cmpT p.1 q.1 < 0
  | [], _, _ => ⟨fun _ _ p hp => by simp at hp, .nil⟩
  | p :: r, prev, h => by
    simp only [riseP, Bool.and_eq_true] at h
    obtain ⟨h1, h2⟩ := rise_all r (some p.1) h.2
    refine ⟨fun s hs q hq => ?_, List.pairwise_cons.2 ⟨fun q hq => h1 p.1 rfl q hq, h2⟩⟩
    subst hs
    have hsp : cmpT s p.1 < 0 := by
      have := h.1
      simp only [above, Bool.not_eq_true', decide_eq_false_iff_not] at this
      omega
    rcases List.mem_cons.1 hq with rfl | hq
    · exact hsp
    · exact cmpT_lt hsp (by have := h1 p.1 rfl q hq; omega)
end Go.Pev.F
end

section
/-
  Parts of rows: which are right; their text.
-/
set_option linter.unusedVariables false
set_option linter.unusedSimpArgs false
namespace Go.Pev.F
open Go.Lib (join joinTail join_cons)

theorem join_app {a b : Names} (ha : a ≠ []) (hb : b ≠ []) (sep : List UInt8) : join (a ++ b) sep = (join a sep ++ sep) ++ join b sep := by
  cases a with
  | nil => exact absurd rfl ha
  | cons x r =>
    cases b with
    | nil => exact absurd rfl hb
    | cons y q =>
      rw [List.cons_append, join_cons, join_cons, join_cons]
      simp [joinTail, List.append_assoc]

theorem rowT_app (d : DeclT) {a b : List PartT} (ha : a ≠ []) (hb : b ≠ []) : rowT d (a ++ b) = (rowT d a ++ [32, 47, 32]) ++ rowT d b := by
  have la : ¬ a.length = 0 := fun h => ha (List.eq_nil_of_length_eq_zero h)
  have lb : ¬ b.length = 0 := fun h => hb (List.eq_nil_of_length_eq_zero h)
  have lab : ¬ (a ++ b).length = 0 := by simp; intro h; exact absurd h ha
  unfold rowT
  rw [if_neg la, if_neg lb, if_neg lab, List.map_append]
  exact join_app (by simpa using ha) (by simpa using hb) _

theorem rise_take : ∀ (l : List PartT) (prev : Option (List EntT)) (k : Nat), riseP prev l = true → riseP prev (l.take k) = true
  | [], _, _, h => by simpa using h
  | p :: r, prev, 0, h => rfl
  | p :: r, prev, k + 1, h => by
    simp only [List.take_succ_cons, riseP, Bool.and_eq_true] at h ⊢
    exact ⟨h.1, rise_take r _ k h.2⟩

theorem rise_none : ∀ (l : List PartT) (prev : Option (List EntT)), riseP prev l = true → riseP none l = true
  | [], _, h => rfl
  | p :: r, prev, h => by
    simp only [riseP, Bool.and_eq_true] at h ⊢
    exact ⟨rfl, h.2⟩

theorem rise_drop : ∀ (l : List PartT) (prev : Option (List EntT)) (k : Nat), riseP prev l = true → riseP none (l.drop k) = true
  | l, prev, 0, h => rise_none l prev h
  | [], _, k + 1, h => rfl
  | p :: r, prev, k + 1, h => by
    simp only [riseP, Bool.and_eq_true] at h
    exact rise_drop r _ k h.2

theorem partsOk_take {d : DeclT} {l : List PartT} (h : partsOk d l = true) (k : Nat) : partsOk d (l.take k) = true := by
  simp only [partsOk, Bool.and_eq_true, decide_eq_true_eq, List.all_eq_true] at h ⊢
  refine ⟨by simp; omega, fun p hp => h.2.1 p (List.mem_of_mem_take hp), rise_take l none k h.2.2⟩

theorem partsOk_drop {d : DeclT} {l : List PartT} (h : partsOk d l = true) (k : Nat) : partsOk d (l.drop k) = true := by
  simp only [partsOk, Bool.and_eq_true, decide_eq_true_eq, List.all_eq_true] at h ⊢
  refine ⟨by simp; omega, fun p hp => h.2.1 p (List.mem_of_mem_drop hp), rise_drop l none k h.2.2⟩

/-- A row of two rows' parts: both texts. -/
theorem rowT_parts (d : DeclT) {l : List PartT} {k : Nat} (h0 : 0 < k) (h1 : k < l.length) : rowT d l = (rowT d (l.take k) ++ [32, 47, 32]) ++ rowT d (l.drop k) := by
  conv => lhs; rw [← List.take_append_drop k l]
  refine rowT_app d (fun h => ?_) (fun h => ?_)
  · have := congrArg List.length h
    simp at this
    rcases this with h | h
    · omega
    · subst h; simp at h1
  · have := congrArg List.length h
    simp at this
    omega
end Go.Pev.F
end

section
/-
  A row's text has one piece for each part.
-/
set_option linter.unusedVariables false
set_option linter.unusedSimpArgs false
namespace Go.Pev.F
open Go.Lib (join)

theorem rowT_len (k : Nat) (hk : 4194304 < k) (hk2 : k ≤ 4611686018427387903) (d : DeclT) (hd : DSmall d) (hdo : declOk d = true) (l : List PartT) (hl : LSmall l) (hw : ∀ p ∈ l, ∀ e ∈ p.2.1, envKd.WF e) (hP : partsOk d l = true) : (rowT d l).length ≤ 16000020400 := by
  obtain ⟨hn, hp⟩ := part_of hP
  unfold rowT
  split
  · simp
  · refine Nat.le_trans (join_len [32, 47, 32] 160000201 _ fun x hx => ?_) ?_
    · obtain ⟨p, hp', rfl⟩ := List.mem_map.1 hx
      have h1 := tokT_len (hp p hp').1
      obtain ⟨s, rfl, h2, _⟩ := treeTexts k hk hk2 d hd hdo p.2.1 (hl.e p hp') (hw p hp') (hp p hp').2
      simp only [List.length_append, List.length_cons, List.length_nil]
      omega
    · rw [List.length_map]
      exact Nat.le_trans (Nat.mul_le_mul_right _ hn) (by decide)

theorem LSmall.sub {l q : List PartT} (h : LSmall l) (hn : q.length ≤ l.length) (hm : ∀ p ∈ q, p ∈ l) : LSmall q := ⟨Nat.le_trans hn h.n, fun p hp => h.t p (hm p hp), fun p hp => h.m p (hm p hp), fun p hp => h.e p (hm p hp)⟩

theorem t_big (k : Nat) (code : List Int) : Tot (laws_big k (code, ())) fun _ => True := by
  unfold laws_big
  exact Tot.ret trivial

theorem t_drawRow (k : Nat) (hk : 4194304 < k) {code : List Int} (h1 : code.length ≤ 140737488351232) (h2 : ∀ x ∈ code, 0 ≤ x ∧ x ≤ 255) : Tot (spec_DrawRowText k (code, ())) fun y => DDr y.1.1 ∧ y.1.2.1.length ≤ 4 ∧ ∀ q ∈ y.1.2.1, PAny q := by
  unfold spec_DrawRowText
  exact Tot.bd (t_drawParts k hk h1 h2) fun y hy => Tot.ret hy

theorem rowTexts_tot (k : Nat) (hk : 4194304 < k) (hk2 : k ≤ 4611686018427387903) {code : List Int} (h1 : code.length ≤ 140737488351232) (h2 : ∀ x ∈ code, 0 ≤ x ∧ x ≤ 255) : Tot (laws_FnRowTexts k (code, ())) fun y => y.1.1 = true := by
  unfold laws_FnRowTexts
  refine Tot.bd (t_big k code) fun y1 _ => Tot.br (fun _ => Tot.ret rfl) fun _ => Tot.bd (t_drawRow k hk h1 h2) fun y2 hy => ?_
  obtain ⟨hd, hn, hp⟩ := hy
  generalize y2.1.1 = d at hd
  generalize y2.1.2.1 = l at hn hp
  have hl : LSmall l := ⟨by omega, fun p h => (hp p h).t, fun p h => by have := (hp p h).n; omega, fun p h e he => ⟨by have := ((hp p h).e e he).n1; omega, by have := ((hp p h).e e he).n2; omega⟩⟩
  have hw : ∀ p ∈ l, ∀ e ∈ p.2.1, envKd.WF e := fun p h e he => ((hp p h).e e he).wf
  obtain ⟨t, t1, t2, ht⟩ := rowText_both k hk hk2 d hd.s l hl hw
  simp only [t1, t2, bd_some, BEq.rfl, Bool.not_true, br_false]
  cases hdo : declOk d with
  | false =>
    unfold spec_PartsOk
    simp only [specDeclOk_is k hk d hd.s, hdo, bd_some, Bool.not_false, br_true, Option.bind_some]
    exact Tot.ret rfl
  | true =>
    simp only [specPartsOk_is k hk d hd.s hdo l hl, bd_some]
    cases hP : partsOk d l with
    | false =>
      simp only [Bool.not_false, br_true, Option.bind_some]
      exact Tot.ret rfl
    | true =>
      simp only [Bool.not_true, br_false, Option.bind_some]
      refine Tot.dec (fun _ => Tot.ret rfl) fun hlen => ?_
      have hz : (!decide ((2 : Int) = 0)) = true := rfl
      have w : IntKind.wrap .i64 ((l.length : Int).tdiv 2) = ((l.length / 2 : Nat) : Int) := by
        rw [Int.tdiv_eq_ediv_of_nonneg (by omega), wrap_i64 (by omega) (by omega)]
        omega
      have e1 : subL l ((0 : Int).toNat) ((((l.length / 2 : Nat) : Int)).toNat - (0 : Int).toNat) = l.take (l.length / 2) := by
        simp only [subL, Int.toNat_natCast]
        rfl
      have e2 : subL l ((((l.length / 2 : Nat) : Int)).toNat) ((l.length : Int).toNat - (((l.length / 2 : Nat) : Int)).toNat) = l.drop (l.length / 2) := by
        simp only [subL, Int.toNat_natCast]
        rw [List.take_of_length_le (by simp)]
      rw [hz, br_true, w, e1, e2]
      have lt : LSmall (l.take (l.length / 2)) := hl.sub (by simp; omega) fun p h => List.mem_of_mem_take h
      have ld : LSmall (l.drop (l.length / 2)) := hl.sub (by simp) fun p h => List.mem_of_mem_drop h
      have wt : ∀ p ∈ l.take (l.length / 2), ∀ e ∈ p.2.1, envKd.WF e := fun p h => hw p (List.mem_of_mem_take h)
      have wd : ∀ p ∈ l.drop (l.length / 2), ∀ e ∈ p.2.1, envKd.WF e := fun p h => hw p (List.mem_of_mem_drop h)
      have pt := partsOk_take hP (l.length / 2)
      have pd := partsOk_drop hP (l.length / 2)
      obtain ⟨a, _, a2, ha⟩ := rowText_both k hk hk2 d hd.s _ lt wt
      obtain ⟨b, _, b2, hb⟩ := rowText_both k hk hk2 d hd.s _ ld wd
      rw [hdo, pt] at ha
      rw [hdo, pd] at hb
      rw [hdo, hP] at ht
      simp only [Bool.and_self, cond_true] at ha hb ht
      have la : a.length ≤ 16000020400 := ha ▸ rowT_len k hk hk2 d hd.s hdo _ lt wt pt
      have lb : b.length ≤ 16000020400 := hb ▸ rowT_len k hk hk2 d hd.s hdo _ ld wd pd
      rw [a2, bd_some, b2, bd_some]
      refine Tot.chk ⟨by omega, by omega⟩ (Tot.chk (by simp only [List.length_cons, List.length_nil, maxInt64]; omega) (Tot.chk ⟨by omega, by omega⟩ (Tot.chk (by simp only [List.length_append, List.length_cons, List.length_nil, maxInt64]; omega) (Tot.ret ?_))))
      have := rowT_parts d (l := l) (k := l.length / 2) (by omega) (by omega)
      simp only [ht, ha, hb, this, BEq.rfl]

theorem FnRowTexts_true (x : List Int × Unit) (hw : WFs [.sl false (.int .u8)] x) : ∃ k o, laws_FnRowTexts k x = some ((true, ()), o) := by
  obtain ⟨code, ⟨⟩⟩ := x
  obtain ⟨⟨hlen, hby⟩, _⟩ := hw
  obtain ⟨⟨⟨b, ⟨⟩⟩, o⟩, e, h⟩ := rowTexts_tot 8388608 (by omega) (by omega) hlen fun x hx => hby x hx
  simp only at h
  subst h
  exact ⟨8388608, o, e⟩
end Go.Pev.F
end
