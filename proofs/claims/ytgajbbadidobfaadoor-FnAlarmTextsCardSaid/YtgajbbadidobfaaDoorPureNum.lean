/-
  Numbers out of their texts: what the reference reads, and what the program reads.
-/
import Derived.Test.YtgajbbadidobfaaDoorPureDec
import Derived.Lib.ParseIntB
set_option linter.unusedVariables false
set_option linter.unusedSimpArgs false
namespace Go.Pev.F
open Go.Lib (decDigits itoa parseIntB parseUintB parseUintM)

def IsDig (c : UInt8) : Prop := 48 ≤ c.toNat ∧ c.toNat ≤ 57
instance (c : UInt8) : Decidable (IsDig c) := inferInstanceAs (Decidable (_ ∧ _))

def valD (a : Nat) (l : List UInt8) : Nat := l.foldl (fun a c => a * 10 + (c.toNat - 48)) a

theorem valD_nil (a : Nat) : valD a [] = a := List.foldl_nil
theorem valD_cons (a : Nat) (c : UInt8) (r : List UInt8) : valD a (c :: r) = valD (a * 10 + (c.toNat - 48)) r := List.foldl_cons ..

theorem valD_snoc (l : List UInt8) (a : Nat) (d : UInt8) : valD a (l ++ [d]) = valD a l * 10 + (d.toNat - 48) := by
  simp [valD, List.foldl_append]

theorem valD_ge : (l : List UInt8) → (a : Nat) → a ≤ valD a l
  | [], a => by rw [valD_nil]; exact Nat.le_refl _
  | c :: r, a => by
    rw [valD_cons]
    exact Nat.le_trans (by omega) (valD_ge r _)

theorem valD_lt : (l : List UInt8) → (a n : Nat) → (∀ c ∈ l, IsDig c) → a < 10 ^ n → valD a l < 10 ^ (n + l.length)
  | [], a, n, _, h => by rw [valD_nil]; exact h
  | c :: r, a, n, hd, h => by
    rw [valD_cons]
    have h1 := hd c (by simp)
    have := valD_lt r (a * 10 + (c.toNat - 48)) (n + 1) (fun x hx => hd x (by simp [hx])) (by rw [Nat.pow_succ]; unfold IsDig at h1; omega)
    rw [show n + (c :: r).length = n + 1 + r.length by simp; omega]
    exact this

theorem dig_of {u : Nat} (h : u < 10) : (UInt8.ofNat (48 + u)).toNat = 48 + u := by
  simp; omega

theorem decDigits_dig (u : Nat) : ∀ c ∈ decDigits u, IsDig c := by
  induction u using Nat.strongRecOn with
  | _ u ih =>
    by_cases h : u < 10
    · rw [dec_end h]
      intro c hc
      rw [List.mem_singleton] at hc
      subst hc
      unfold IsDig
      rw [dig_of h]; omega
    · rw [dec_step h]
      intro c hc
      rcases List.mem_append.1 hc with hc | hc
      · exact ih (u / 10) (by omega) c hc
      · rw [List.mem_singleton] at hc
        subst hc
        unfold IsDig
        rw [dig_of (u := u % 10) (by omega)]; omega

theorem decDigits_val (u : Nat) : valD 0 (decDigits u) = u := by
  induction u using Nat.strongRecOn with
  | _ u ih =>
    by_cases h : u < 10
    · rw [dec_end h]
      simp only [valD_cons, valD_nil]
      rw [dig_of h]; omega
    · rw [dec_step h, valD_snoc, ih (u / 10) (by omega), dig_of (u := u % 10) (by omega)]
      omega

theorem decDigits_ne (u : Nat) : decDigits u ≠ [] := by
  by_cases h : u < 10
  · rw [dec_end h]; simp
  · rw [dec_step h]; simp

theorem decDigits_head (u : Nat) : ∀ c r, decDigits u = c :: r → r = [] ∨ c.toNat ≠ 48 := by
  induction u using Nat.strongRecOn with
  | _ u ih =>
    intro c r e
    by_cases h : u < 10
    · rw [dec_end h] at e
      simp at e
      exact .inl e.2
    · right
      rw [dec_step h] at e
      cases hd : decDigits (u / 10) with
      | nil => exact absurd hd (decDigits_ne _)
      | cons c' r' =>
        rw [hd] at e
        simp only [List.cons_append, List.cons.injEq] at e
        obtain ⟨rfl, _⟩ := e
        rcases ih (u / 10) (by omega) c' r' hd with rfl | h1
        · have hv := decDigits_val (u / 10)
          rw [hd] at hv
          simp only [valD_cons, valD_nil] at hv
          intro h48
          rw [h48] at hv
          omega
        · exact h1

/-- A numeral without a leading zero. -/
def Canon (l : List UInt8) : Prop := l ≠ [] ∧ (∀ c ∈ l, IsDig c) ∧ ∀ c r, l = c :: r → r = [] ∨ c.toNat ≠ 48

theorem canon_dec (u : Nat) : Canon (decDigits u) := ⟨decDigits_ne u, decDigits_dig u, decDigits_head u⟩

theorem dec_of_canon : (n : Nat) → (l : List UInt8) → l.length = n → Canon l → decDigits (valD 0 l) = l := by
  intro n
  induction n with
  | zero => intro l h hc; exact absurd (List.eq_nil_of_length_eq_zero h) hc.1
  | succ n ih =>
    intro l h hc
    obtain ⟨hne, hd, hz⟩ := hc
    rcases List.eq_nil_or_concat l with rfl | ⟨r, d, rfl⟩
    · exact absurd rfl hne
    · simp only [List.concat_eq_append] at *
      have hdd := hd d (by simp)
      unfold IsDig at hdd
      cases r with
      | nil =>
        simp only [List.nil_append, valD_cons, valD_nil]
        rw [dec_end (by omega)]
        have : UInt8.ofNat (48 + (0 * 10 + (d.toNat - 48))) = d := by
          apply UInt8.toNat_inj.1
          rw [dig_of (u := 0 * 10 + (d.toNat - 48)) (by omega)]; omega
        rw [this]
      | cons c r =>
        have hc0 : c.toNat ≠ 48 := by
          rcases hz c (r ++ [d]) (by simp) with h | h
          · simp at h
          · exact h
        have hcd := hd c (by simp)
        unfold IsDig at hcd
        rw [valD_snoc]
        have hpos : 1 ≤ valD 0 (c :: r) := by
          simp only [valD_cons, valD_nil]
          have := valD_ge r (0 * 10 + (c.toNat - 48))
          omega
        have e1 : (valD 0 (c :: r) * 10 + (d.toNat - 48)) / 10 = valD 0 (c :: r) := by omega
        have e2 : (valD 0 (c :: r) * 10 + (d.toNat - 48)) % 10 = d.toNat - 48 := by omega
        rw [dec_step (by omega), e1, e2, ih (c :: r) (by simpa using h) ⟨by simp, fun x hx => hd x (by simp at hx ⊢; rcases hx with h | h <;> simp [h]), fun c' r' e => by cases e; exact .inr hc0⟩]
        have : UInt8.ofNat (48 + (d.toNat - 48)) = d := by
          apply UInt8.toNat_inj.1
          rw [dig_of (u := d.toNat - 48) (by omega)]; omega
        rw [this]

/-- The text is that of the number, of 16 digits at most. -/
def CanonInt (s : List UInt8) (n : Int) : Prop := s = itoa n ∧ (decDigits n.natAbs).length ≤ 16

theorem dec_lt {u : Nat} (h : (decDigits u).length ≤ 16) : u < 10000000000000000 := by
  have := valD_lt (decDigits u) 0 0 (decDigits_dig u) (by omega)
  rw [decDigits_val] at this
  have : u < 10 ^ 16 := Nat.lt_of_lt_of_le this (Nat.pow_le_pow_right (by decide) (by omega))
  omega

theorem parseM_is : (l : List UInt8) → (a n : Nat) → (∀ c ∈ l, IsDig c) → a < 10 ^ n → n + l.length ≤ 16 → parseUintM (2 ^ 64 - 1) a l = .ok (valD a l)
  | [], _, _, _, _, _ => by simp [parseUintM, valD_nil]
  | c :: r, a, n, hd, h, hn => by
    have h1 := hd c (by simp)
    unfold IsDig at h1
    simp only [List.length_cons] at hn
    have ha : a < 10 ^ 15 := Nat.lt_of_lt_of_le h (Nat.pow_le_pow_right (by decide) (by omega))
    simp only [parseUintM, valD_cons]
    rw [if_pos h1, if_neg (by omega), if_neg (by omega)]
    exact parseM_is r _ (n + 1) (fun x hx => hd x (by simp [hx])) (by rw [Nat.pow_succ]; omega) (by omega)

theorem parse_itoa {n : Int} (h : (decDigits n.natAbs).length ≤ 16) : parseIntB 64 (itoa n) = .ok n := by
  have hl := dec_lt h
  have hp := parseM_is (decDigits n.natAbs) 0 0 (decDigits_dig _) (by omega) (by omega)
  rw [decDigits_val] at hp
  have hu : parseUintB 64 (decDigits n.natAbs) = .ok n.natAbs := by unfold parseUintB; rw [if_neg (decDigits_ne _)]; exact hp
  unfold itoa
  by_cases hn : n < 0
  · rw [if_pos hn]
    simp only [parseIntB]
    rw [if_pos (by decide), hu]
    simp only
    rw [if_neg (by simp), if_neg (by omega), if_pos (by decide)]
    congr 1; omega
  · rw [if_neg hn]
    have e : n.toNat = n.natAbs := by omega
    rw [e]
    cases hd : decDigits n.natAbs with
    | nil => exact absurd hd (decDigits_ne _)
    | cons c r =>
      have h1 := decDigits_dig n.natAbs c (by rw [hd]; simp)
      unfold IsDig at h1
      simp only [parseIntB]
      rw [if_neg (by omega), ← hd, hu]
      simp only
      rw [if_neg (by omega), if_neg (by omega), if_neg (by omega)]
      congr 1; omega

theorem parse_range {s : List UInt8} {v : Int} (h : parseIntB 64 s = .ok v) : -9223372036854775808 ≤ v ∧ v ≤ 9223372036854775807 := by
  cases s with
  | nil => simp [parseIntB] at h
  | cons c r =>
    simp only [parseIntB] at h
    split at h
    · cases h
    · cases h
    · rename_i u _
      split at h
      · cases h
      · split at h
        · cases h
        · rename_i h1 h2
          cases h
          split <;> omega

theorem itoa_head {n : Int} : (n < 0 → itoa n = 45 :: decDigits n.natAbs) ∧ (¬ n < 0 → itoa n = decDigits n.natAbs ∧ ∃ c r, decDigits n.natAbs = c :: r ∧ c ≠ 45) := by
  unfold itoa
  refine ⟨fun h => by rw [if_pos h], fun h => ?_⟩
  rw [if_neg h]
  have e : n.toNat = n.natAbs := by omega
  rw [e]
  refine ⟨rfl, ?_⟩
  cases hd : decDigits n.natAbs with
  | nil => exact absurd hd (decDigits_ne _)
  | cons c r =>
    refine ⟨c, r, rfl, fun h45 => ?_⟩
    have h1 := decDigits_dig n.natAbs c (by rw [hd]; simp)
    unfold IsDig at h1
    rw [h45] at h1
    simp at h1

def trimM : List UInt8 → List UInt8
  | c :: r => if c = 45 then r else c :: r
  | [] => []

theorem trimMinus_is (k : Nat) (s : List UInt8) : strings_TrimPrefix k (s, [45], ()) = some ((trimM s, ()), ((), (), ())) := by
  unfold trimM strings_TrimPrefix stringslite_TrimPrefix stringslite_HasPrefix
  cases s with
  | nil => simp
  | cons c r =>
    have hl : (1 : Int) ≤ (r.length : Int) + 1 := by omega
    by_cases h : c = 45
    · subst h; simp [br_dec, hl]
    · have : ([c] == [(45 : UInt8)]) = false := by simpa using h
      simp [br_dec, h, this, hl]

/-- What the program reads. -/
theorem readDecimal_is (k : Nat) (s : List UInt8) (hs : s.length ≤ 281474976710656) : ∃ n ok, impl_readDecimal k (s, ()) = some ((n, ok, ()), ((), ())) ∧ (ok = true → CanonInt s n) ∧ (∀ m, CanonInt s m → ok = true ∧ n = m) := by
  unfold impl_readDecimal Lb.ParseInt
  simp only [hs, and_self, if_true]
  rcases hp : parseIntB 64 s with v | _ | _
  · have hr := parse_range hp
    simp only [bd_some, trimMinus_is, decimal_is k v hr.1 hr.2]
    have hone : ∀ m, CanonInt s m → v = m := fun m hm => by rw [hm.1, parse_itoa hm.2] at hp; cases hp; rfl
    have htrim : s = itoa v → trimM s = decDigits v.natAbs := by
      intro e
      by_cases hv : v < 0
      · rw [e, (itoa_head (n := v)).1 hv]; simp [trimM]
      · obtain ⟨h1, c, r, h2, h3⟩ := (itoa_head (n := v)).2 hv
        rw [e, h1, h2]; simp [trimM, h3]
    by_cases hl : (((trimM s).length : Nat) : Int) ≤ 16
    · refine ⟨v, itoa v == s, ?_, fun h => ?_, fun m hm => ?_⟩
      · simp only [br_dec]
        rw [if_pos hl]
        simp
      · have e : s = itoa v := by simpa using (beq_iff_eq.1 h).symm
        rw [htrim e] at hl
        exact ⟨e, by omega⟩
      · obtain rfl := hone m hm
        exact ⟨by rw [hm.1]; simp, rfl⟩
    · refine ⟨v, false, ?_, by simp, fun m hm => ?_⟩
      · simp only [br_dec]
        rw [if_neg hl]
        simp
      · obtain rfl := hone m hm
        rw [htrim hm.1] at hl
        exact absurd (by have := hm.2; omega) hl
  · refine ⟨0, false, by simp, by simp, fun m hm => ?_⟩
    rw [hm.1, parse_itoa hm.2] at hp; cases hp
  · refine ⟨_, false, by simp; rfl, by simp, fun m hm => ?_⟩
    rw [hm.1, parse_itoa hm.2] at hp; cases hp
end Go.Pev.F
