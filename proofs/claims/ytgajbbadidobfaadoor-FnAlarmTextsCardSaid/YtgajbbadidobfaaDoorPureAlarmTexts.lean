/-
  An alarm comes back from its text; what is read, written again, is that text.
-/
import Derived.Test.YtgajbbadidobfaaDoorPureReadAlarm
import Derived.Test.YtgajbbadidobfaaDoorPureRd
set_option linter.unusedVariables false
set_option linter.unusedSimpArgs false
namespace Go.Pev.F
open Go.Lib (decDigits itoa)

theorem alarmOf_text {m : Int} {s : List UInt8} {w : List UInt8} : (alarmOf m (kindFor fun q => kindW q == w && alarmT (m, q, ()) == s)).2.1 = true → alarmT (alarmOf m (kindFor fun q => kindW q == w && alarmT (m, q, ()) == s)).1 = s := by
  intro h
  cases hf : kindFor (fun q => kindW q == w && alarmT (m, q, ()) == s) with
  | none => rw [hf] at h; cases h
  | some q =>
    obtain ⟨_, hp⟩ := kindFor_some hf
    simp only [Bool.and_eq_true, beq_iff_eq] at hp
    exact hp.2

theorem kindW_some {q : Int} (h : kindW q ≠ []) : q = 1 ∨ q = 2 ∨ q = 4 ∨ q = 8 := by
  unfold kindW at h
  by_cases h1 : q = 1
  · exact .inl h1
  by_cases h2 : q = 2
  · exact .inr (.inl h2)
  by_cases h3 : q = 4
  · exact .inr (.inr (.inl h3))
  by_cases h4 : q = 8
  · exact .inr (.inr (.inr h4))
  · simp [h1, h2, h3, h4] at h

theorem kindW_inj {q q' : Int} (h : q = 1 ∨ q = 2 ∨ q = 4 ∨ q = 8) (h' : q' = 1 ∨ q' = 2 ∨ q' = 4 ∨ q' = 8) (e : kindW q = kindW q') : q = q' := by
  rcases h with rfl | rfl | rfl | rfl <;> rcases h' with rfl | rfl | rfl | rfl <;> first | rfl | (simp [kindW] at e)

theorem kindFor_one {p : Int → Bool} {q : Int} (hq : q = 1 ∨ q = 2 ∨ q = 4 ∨ q = 8) (hp : ∀ q', (q' = 1 ∨ q' = 2 ∨ q' = 4 ∨ q' = 8) → (p q' = true ↔ q' = q)) : kindFor p = some q := by
  have t := fun q' h => (hp q' h).2
  have n : ∀ q', (q' = 1 ∨ q' = 2 ∨ q' = 4 ∨ q' = 8) → q' ≠ q → p q' = false := fun q' h hne => by
    cases hv : p q' with
    | false => rfl
    | true => exact absurd ((hp q' h).1 hv) hne
  unfold kindFor
  rcases hq with rfl | rfl | rfl | rfl
  · simp [t 1 (by simp) rfl]
  · simp [n 1 (by simp) (by omega), t 2 (by simp) rfl]
  · simp [n 1 (by simp) (by omega), n 2 (by simp) (by omega), t 4 (by simp) rfl]
  · simp [n 1 (by simp) (by omega), n 2 (by simp) (by omega), n 4 (by simp) (by omega), t 8 (by simp) rfl]

/-- What is read of a text, all told. -/
theorem readAlarm_all (k : Nat) (s : List UInt8) (hs : s.length ≤ 1048576) (hk : 2097152 ≤ k) : ∃ r : (Int × Int × Unit) × Bool × Unit, spec_ReadAlarm k (s, ()) = some (r, ((), ())) ∧ impl_ReadAlarm k (s, ()) = some (r, ((), ())) ∧ (r.2.1 = true → alarmT r.1 = s ∧ s ≠ []) ∧ (∀ a : Int × Int × Unit, alarmT a = s → s ≠ [] → r = (a, true, ())) := by
  obtain ⟨r, h1, h2⟩ := readAlarm_both k s hs hk
  refine ⟨r, h1, h2, ?_⟩
  have c1 := l1Cut_is k s 32 (by omega) (by omega)
  have c1' : spec_l1Cut k (s, 32, ()) = some (((cutF 32 s).1, (cutF 32 s).2.1, (cutF 32 s).2.2, ()), ((), (), ())) := c1
  obtain ⟨m, ok', d1, d2, d3⟩ := l1Num_is k (by omega) (cutF 32 s).1
  obtain ⟨j, hj⟩ : ∃ j, k = j + 5 := ⟨k - 5, by omega⟩
  have hr : r = alarmOf m (kindFor fun q => kindW q == (cutF 32 s).2.1 && alarmT (m, q, ()) == s) := by
    unfold spec_ReadAlarm at h1
    simp only [c1', bd_some, d1] at h1
    have hl := specRead_loop k j (by omega) s (cutF 32 s).2.1 m (0, 0, ())
    rw [← hj] at hl
    rw [hl] at h1
    exact (Prod.mk.inj (Option.some.inj h1)).1.symm
  refine ⟨fun hok => ?_, fun a ha hne => ?_⟩
  · rw [hr] at hok ⊢
    refine ⟨alarmOf_text hok, ?_⟩
    rintro rfl
    cases hf : kindFor (fun q => kindW q == (cutF 32 []).2.1 && alarmT (m, q, ()) == []) with
    | none => rw [hf] at hok; cases hok
    | some q =>
      obtain ⟨hq, hp⟩ := kindFor_some hf
      simp only [Bool.and_eq_true, beq_iff_eq] at hp
      exact kindW_ne hq hp.1
  · obtain ⟨line, q, ⟨⟩⟩ := a
    have ha' := ha
    unfold alarmT at ha
    split at ha
    · rename_i hc
      obtain ⟨⟨l0, l1⟩, hkw⟩ := hc
      simp only at ha l0 l1 hkw
      have hcut : cutF 32 s = (itoa line, kindW q, true) := by
        rw [← ha, List.append_assoc]
        exact cutF_app 32 (itoa line) (kindW q) (itoa_no32 line)
      have hq := kindW_some hkw
      rw [hcut] at d3
      obtain ⟨_, rfl⟩ := d3 line ⟨rfl, by have := decDigits_len 1 line.natAbs (by omega); omega⟩
      rw [hr, hcut]
      rw [kindFor_one hq fun q' hq' => ?_]
      · rfl
      · simp only [Bool.and_eq_true, beq_iff_eq]
        constructor
        · exact fun h => kindW_inj hq' hq h.1
        · rintro rfl; exact ⟨rfl, ha'⟩
    · exact absurd ha.symm hne

theorem alarmT_len (a : Int × Int × Unit) : (alarmT a).length ≤ 100 := by
  unfold alarmT
  split
  · rename_i h
    have l1 := itoa_len a.1 (by omega) (by omega)
    have l2 := kindW_len a.2.1
    simp; omega
  · simp

theorem drawAlarm (k : Nat) (hk : 9 ≤ k) (code : List Int) (h1 : code.length ≤ 140737488351232) (h2 : ∀ x ∈ code, 0 ≤ x ∧ x ≤ 255) : ∃ a, spec_DrawAlarmText k (code, ()) = some ((a, ()), ((), ())) := by
  have r0 := rd_open h1 h2
  obtain ⟨v, r1, e1, v0, _, v2, hr1, _⟩ := rd_below k r0 30
  obtain ⟨u, r2, e2, u0, _, u2, hr2, _⟩ := rd_below k hr1 4
  obtain ⟨q, r3, e3, q0, _, _, hr3, _⟩ := rd_below k hr2 12
  obtain ⟨x, r4, e4, _, _, _⟩ := rd_off k hk hr3 (lo := 0) (hi := 29) (by omega) (by omega) (by omega)
  obtain ⟨y, r5, e5, _, _, _⟩ := rd_off k hk hr3 (lo := 0) (hi := 8) (by omega) (by omega) (by omega)
  unfold spec_DrawAlarmText spec_l1Open
  have hu := u2 (by omega)
  have w : IntKind.wrap .u64 u = u := wrap_u64 (by omega) (by omega)
  obtain ⟨b1, p1, ⟨⟩⟩ := r1
  obtain ⟨b2, p2, ⟨⟩⟩ := r2
  obtain ⟨b3, p3, ⟨⟩⟩ := r3
  simp only [bd_some, e1, e2, w, br_dec, if_pos u0, e3, e4, e5]
  cases hq0 : (q == 0) with
  | true => exact ⟨_, br_true _ _ _⟩
  | false =>
    cases hq1 : (q == 1) with
    | true => exact ⟨_, by rw [br_false, br_true]⟩
    | false => exact ⟨_, by rw [br_false, br_false]⟩

theorem FnAlarmTexts_true (x : List Int × Unit) (hw : WFs [.sl false (.int .u8)] x) : ∃ k o, laws_FnAlarmTexts k x = some ((true, ()), o) := by
  obtain ⟨code, ⟨⟩⟩ := x
  obtain ⟨⟨hlen, hby⟩, _⟩ := hw
  have h2 : ∀ x ∈ code, 0 ≤ x ∧ x ≤ 255 := fun x hx => hby x hx
  have hlen' : code.length ≤ 140737488351232 := hlen
  refine ⟨2097152, ((), ()), ?_⟩
  unfold laws_FnAlarmTexts laws_big
  simp only [bd_some]
  cases hb : decide ((code.length : Int) > 1048576) with
  | true => simp_all
  | false =>
    obtain ⟨a, ea⟩ := drawAlarm 2097152 (by omega) code hlen' h2
    have r0 := rd_open hlen' h2
    have hal := alarmT_len a
    -- the text that is read
    obtain ⟨u, eu, hu⟩ : ∃ u, spec_DrawReadAlarm 2097152 (code, ()) = some ((u, ()), ((), ())) ∧ u.length ≤ 1048576 := by
      obtain ⟨c, r1, e1, hr1, _⟩ := rd_once 2097152 r0 3
      obtain ⟨b1, p1, ⟨⟩⟩ := r1
      obtain ⟨u, r2, e2, hu, _, _⟩ := rd_hurt 2097152 hr1 (alarmT a) (by omega)
      unfold spec_DrawReadAlarm spec_l1Open
      simp only [bd_some, ea, specAlarmText_is 2097152 (by omega), e1, e2]
      cases c with
      | true => exact ⟨u, br_true _ _ _, by omega⟩
      | false => exact ⟨alarmT a, br_false _ _ _, by omega⟩
    obtain ⟨r, d1, d2, d3, _⟩ := readAlarm_all 2097152 u hu (by omega)
    obtain ⟨z, f1, f2, f3, f4⟩ := readAlarm_all 2097152 (alarmT a) (by omega) (by omega)
    simp only [br_false, ea, bd_some, implAlarmText_is, eu, d1, d2, specAlarmText_is 2097152 (show 20 ≤ 2097152 by omega), f2]
    have hj : (br 2097152 (!(alarmT a == alarmT a)) (some (true, ())) (br 2097152 (!(r.2.1 == r.2.1)) (some (true, ())) (br 2097152 (!((r.1.1 == r.1.1) && ((r.1.2.1 == r.1.2.1) && true))) (some (true, ())) (br 2097152 r.2.1 (some (!(alarmT r.1 == u), ())) (some (false, ()))))) : Option (Bool × Unit)) = some (false, ()) := by
      simp only [beq_self_eq_true, Bool.not_true, Bool.and_self, br_false]
      cases hr : r.2.1 with
      | false => simp
      | true => simp [(d3 hr).1]
    rw [hj]
    simp only [Option.bind_some, br_false]
    by_cases hs : alarmT a = []
    · have hz : z.2.1 = false := by
        cases hz : z.2.1 with
        | false => rfl
        | true => exact absurd hs (f3 hz).2
      simp [hs, hz]
    · have hz := f4 a rfl hs
      have hb' : (alarmT a == []) = false := by simpa using hs
      rw [hz, hb']
      simp
end Go.Pev.F
