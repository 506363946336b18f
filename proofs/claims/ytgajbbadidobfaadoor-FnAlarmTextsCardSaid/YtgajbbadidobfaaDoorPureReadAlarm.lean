/-
  An alarm out of its text: the program's is the reference's.
-/
import Derived.Test.YtgajbbadidobfaaDoorPureAlarmText
import Derived.Test.YtgajbbadidobfaaDoorPureNum2
import Derived.Test.YtgajbbadidobfaaDoorPureCut
set_option linter.unusedVariables false
set_option linter.unusedSimpArgs false
namespace Go.Pev.F
open Go.Lib (decDigits itoa)

/-- The kind that fits. -/
def kindFor (p : Int → Bool) : Option Int := if p 1 then some 1 else if p 2 then some 2 else if p 4 then some 4 else if p 8 then some 8 else none

def alarmOf (line : Int) (q : Option Int) : (Int × Int × Unit) × Bool × Unit := match q with
  | some q => ((line, q, ()), true, ())
  | none => ((0, 0, ()), false, ())

theorem specRead_round (k f : Nat) (hk : 20 ≤ k) (s word : List UInt8) (line q : Int) (t : Int × Int × Unit) (hq : q ≤ 8) (h0 : 0 ≤ q) : iter (spec_ReadAlarm.l0 k) (f + 1) (s, t, word, line, q, ()) =
    if kindW q == word && alarmT (line, q, ()) == s then some (((line, q, ()), true, ()), ((), ())) else iter (spec_ReadAlarm.l0 k) f (s, t, word, line, 2 * q, ()) := by
  obtain ⟨t0, t1, ⟨⟩⟩ := t
  rw [iter_succ]
  simp only [spec_ReadAlarm.l0, br_dec, if_pos hq, l13Kind_is, bd_some, specAlarmText_is k hk]
  rw [wrap_i64 (by omega) (by omega)]
  by_cases h1 : kindW q == word
  · rw [h1, br_true]
    by_cases h2 : alarmT (line, q, ()) == s
    · simp [h2]
    · simp [h2]
  · have h1' : (kindW q == word) = false := by simpa using h1
    simp [h1']

theorem specRead_loop (k f : Nat) (hk : 20 ≤ k) (s word : List UInt8) (line : Int) (t : Int × Int × Unit) : iter (spec_ReadAlarm.l0 k) (f + 5) (s, t, word, line, 1, ()) =
    some (alarmOf line (kindFor fun q => kindW q == word && alarmT (line, q, ()) == s), ((), ())) := by
  unfold kindFor
  rw [specRead_round k (f + 4) hk _ _ _ _ _ (by omega) (by omega)]
  split
  · rfl
  rw [show (2 * 1 : Int) = 2 by rfl, specRead_round k (f + 3) hk _ _ _ _ _ (by omega) (by omega)]
  split
  · rfl
  rw [show (2 * 2 : Int) = 4 by rfl, specRead_round k (f + 2) hk _ _ _ _ _ (by omega) (by omega)]
  split
  · rfl
  rw [show (2 * 4 : Int) = 8 by rfl, specRead_round k (f + 1) hk _ _ _ _ _ (by omega) (by omega)]
  split
  · rfl
  obtain ⟨t0, t1, ⟨⟩⟩ := t
  rw [iter_succ]
  have h : ¬ ((2 * 8 : Int) ≤ 8) := by omega
  simp only [spec_ReadAlarm.l0, br_dec, if_neg h]
  rfl

theorem implRead_round (k f : Nat) (s word : List UInt8) (n : Int) (ok : Bool) (i : Nat) (q : Int) (t : Int × Int × Unit) (hi : i < 4) (hq : ([1, 2, 4, 8] : List Int)[i]? = some q) : iter (impl_ReadAlarm.l0 k) (f + 1) (s, t, word, n, ok, [1, 2, 4, 8], 4, (i : Int), ()) =
    if ok && (kindW q == word && alarmT (n, q, ()) == s) then some (((n, q, ()), true, ()), ((), ())) else iter (impl_ReadAlarm.l0 k) f (s, t, word, n, ok, [1, 2, 4, 8], 4, ((i + 1 : Nat) : Int), ()) := by
  obtain ⟨t0, t1, ⟨⟩⟩ := t
  rw [iter_succ]
  have h1 : (i : Int) < 4 := by omega
  have h2 : 0 ≤ (i : Int) ∧ (i : Int) < ((([1, 2, 4, 8] : List Int).length : Nat) : Int) := by simp; omega
  have hget : ([1, 2, 4, 8] : List Int)[((i : Nat) : Int).toNat]? = some q := by simpa using hq
  simp only [impl_ReadAlarm.l0, br_dec, if_pos h1, if_pos h2, hget, alarmName_is, bd_some, implAlarmText_is]
  rw [wrap_i64 (by omega) (by omega)]
  rw [show ((i : Int) + 1) = ((i + 1 : Nat) : Int) by omega]
  cases ok with
  | false => simp
  | true =>
    rw [br_true]
    by_cases h3 : kindW q == word
    · rw [h3, br_true]
      by_cases h4 : alarmT (n, q, ()) == s
      · simp [h4]
      · simp [h4]
    · have h3' : (kindW q == word) = false := by simpa using h3
      simp [h3']

theorem implRead_loop (k f : Nat) (s word : List UInt8) (n : Int) (ok : Bool) (t : Int × Int × Unit) : iter (impl_ReadAlarm.l0 k) (f + 5) (s, t, word, n, ok, [1, 2, 4, 8], 4, 0, ()) =
    some (alarmOf n (kindFor fun q => ok && (kindW q == word && alarmT (n, q, ()) == s)), ((), ())) := by
  unfold kindFor
  have h0 := implRead_round k (f + 4) s word n ok 0 1 t (by omega) rfl
  have h1 := implRead_round k (f + 3) s word n ok 1 2 t (by omega) rfl
  have h2 := implRead_round k (f + 2) s word n ok 2 4 t (by omega) rfl
  have h3 := implRead_round k (f + 1) s word n ok 3 8 t (by omega) rfl
  refine h0.trans ?_
  split
  · rfl
  refine h1.trans ?_
  split
  · rfl
  refine h2.trans ?_
  split
  · rfl
  refine h3.trans ?_
  split
  · rfl
  obtain ⟨t0, t1, ⟨⟩⟩ := t
  rw [iter_succ]
  have h : ¬ ((((3 + 1 : Nat) : Int)) < 4) := by omega
  simp only [impl_ReadAlarm.l0, br_dec, if_neg h]
  rfl

theorem itoa_no32 (n : Int) : ∀ b ∈ itoa n, b ≠ 32 := by
  intro b hb h
  subst h
  by_cases hn : n < 0
  · rw [(itoa_head (n := n)).1 hn] at hb
    rcases List.mem_cons.1 hb with h | h
    · simp at h
    · have := decDigits_dig _ _ h
      unfold IsDig at this
      simp at this
  · rw [((itoa_head (n := n)).2 hn).1] at hb
    have := decDigits_dig _ _ hb
    unfold IsDig at this
    simp at this

theorem kindW_ne {q : Int} (h : q = 1 ∨ q = 2 ∨ q = 4 ∨ q = 8) : kindW q ≠ [] := by
  unfold kindW
  rcases h with rfl | rfl | rfl | rfl <;> simp

/-- Where an alarm's text is the text, the head is that of its line. -/
theorem alarm_head {line q : Int} {s : List UInt8} (hq : q = 1 ∨ q = 2 ∨ q = 4 ∨ q = 8) (hw : kindW q = (cutF 32 s).2.1) (h : alarmT (line, q, ()) = s) : CanonInt (cutF 32 s).1 line := by
  unfold alarmT at h
  split at h
  · rename_i hc
    obtain ⟨⟨h0, h1⟩, _⟩ := hc
    simp only at h h0 h1
    have : cutF 32 s = (itoa line, kindW q, true) := by
      rw [← h, List.append_assoc]
      exact cutF_app 32 (itoa line) (kindW q) (itoa_no32 line)
    rw [this]
    refine ⟨rfl, ?_⟩
    have := decDigits_len 1 line.natAbs (by omega)
    omega
  · subst h
    exact absurd hw (kindW_ne hq)

theorem kindFor_congr {p p' : Int → Bool} (h : ∀ q, (q = 1 ∨ q = 2 ∨ q = 4 ∨ q = 8) → p q = p' q) : kindFor p = kindFor p' := by
  unfold kindFor
  rw [h 1 (by simp), h 2 (by simp), h 4 (by simp), h 8 (by simp)]

theorem kindFor_some {p : Int → Bool} {q : Int} (h : kindFor p = some q) : (q = 1 ∨ q = 2 ∨ q = 4 ∨ q = 8) ∧ p q = true := by
  unfold kindFor at h
  split at h
  · cases h; exact ⟨by simp, by assumption⟩
  split at h
  · cases h; exact ⟨by simp, by assumption⟩
  split at h
  · cases h; exact ⟨by simp, by assumption⟩
  split at h
  · cases h; exact ⟨by simp, by assumption⟩
  · cases h

theorem eqAlarm_is (k : Nat) (a b : Int × Int × Unit) : laws_eqAlarm k (a, b, ()) = some ((a.1 == b.1 && a.2.1 == b.2.1, ()), ((), (), ())) := by
  unfold laws_eqAlarm
  cases h1 : (a.1 == b.1) <;> cases h2 : (a.2.1 == b.2.1) <;> simp [bne, h1, h2]

/-- Both read the same. -/
theorem readAlarm_both (k : Nat) (s : List UInt8) (hs : s.length ≤ 1048576) (hk : 2097152 ≤ k) : ∃ r, spec_ReadAlarm k (s, ()) = some (r, ((), ())) ∧ impl_ReadAlarm k (s, ()) = some (r, ((), ())) := by
  have c1 := l1Cut_is k s 32 (by omega) (by omega)
  have c2 := stringsCut_is k s 32 (by omega)
  have hhead : (cutF 32 s).1.length ≤ 281474976710656 := by
    unfold cutF
    split
    · simp; omega
    · simp; omega
  obtain ⟨n, ok, e1, e2, e3⟩ := readDecimal_is k (cutF 32 s).1 hhead
  obtain ⟨m, ok', d1, d2, d3⟩ := l1Num_is k (by omega) (cutF 32 s).1
  obtain ⟨j, rfl⟩ : ∃ j, k = j + 5 := ⟨k - 5, by omega⟩
  have hspec : spec_ReadAlarm (j + 5) (s, ()) = some (alarmOf m (kindFor fun q => kindW q == (cutF 32 s).2.1 && alarmT (m, q, ()) == s), ((), ())) := by
    unfold spec_ReadAlarm
    have c1' : spec_l1Cut (j + 5) (s, 32, ()) = some (((cutF 32 s).1, (cutF 32 s).2.1, (cutF 32 s).2.2, ()), ((), (), ())) := c1
    simp only [c1', bd_some, d1]
    exact specRead_loop (j + 5) j (by omega) s _ m _
  have himpl : impl_ReadAlarm (j + 5) (s, ()) = some (alarmOf n (kindFor fun q => ok && (kindW q == (cutF 32 s).2.1 && alarmT (n, q, ()) == s)), ((), ())) := by
    unfold impl_ReadAlarm
    simp only [c2, bd_some, e1]
    exact implRead_loop (j + 5) j s _ n ok _
  refine ⟨_, hspec, ?_⟩
  rw [himpl]
  have key : ∀ q, (q = 1 ∨ q = 2 ∨ q = 4 ∨ q = 8) → ((ok && (kindW q == (cutF 32 s).2.1 && alarmT (n, q, ()) == s)) = (kindW q == (cutF 32 s).2.1 && alarmT (m, q, ()) == s)) ∧ ((kindW q == (cutF 32 s).2.1 && alarmT (m, q, ()) == s) = true → n = m) := by
    intro q hq
    by_cases hw : kindW q = (cutF 32 s).2.1
    · have hb : (kindW q == (cutF 32 s).2.1) = true := by simpa using hw
      simp only [hb, Bool.true_and]
      by_cases ha : alarmT (m, q, ()) = s
      · obtain ⟨h1, h2⟩ := e3 m (alarm_head hq hw ha)
        subst h2
        simp [h1, ha]
      · have ha' : (alarmT (m, q, ()) == s) = false := by simpa using ha
        rw [ha']
        refine ⟨?_, fun h => by cases h⟩
        cases hok : ok with
        | false => rfl
        | true =>
          simp only [Bool.true_and]
          by_cases hn : alarmT (n, q, ()) = s
          · obtain ⟨_, h2⟩ := d3 n (alarm_head hq hw hn)
            subst h2
            exact absurd hn ha
          · simpa using hn
    · have hb : (kindW q == (cutF 32 s).2.1) = false := by simpa using hw
      simp [hb]
  rw [kindFor_congr fun q hq => (key q hq).1]
  cases hf : kindFor (fun q => kindW q == (cutF 32 s).2.1 && alarmT (m, q, ()) == s) with
  | none => rfl
  | some q =>
    obtain ⟨hq, hp⟩ := kindFor_some hf
    rw [(key q hq).2 hp]

theorem FnExactReadAlarm_true (x : List UInt8 × Unit) : ∃ k o, laws_FnExactReadAlarm k x = some ((true, ()), o) := by
  obtain ⟨s, ⟨⟩⟩ := x
  refine ⟨2097152, ((), ()), ?_⟩
  unfold laws_FnExactReadAlarm
  by_cases h : (s.length : Int) > 1048576
  · simp [h]
  · obtain ⟨⟨a, ok, ⟨⟩⟩, h1, h2⟩ := readAlarm_both 2097152 s (by omega) (by omega)
    simp only [br_dec, if_neg h, h1, h2, bd_some, eqAlarm_is]
    simp
end Go.Pev.F
