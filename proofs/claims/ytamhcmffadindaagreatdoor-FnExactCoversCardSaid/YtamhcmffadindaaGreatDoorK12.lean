/-
  Printed by copies.py: sizes, copies and comparisons of the statements' data.
-/
import Derived.Test.YtamhcmffadindaaGreatDoorK10
import Derived.Test.YtamhcmffadindaaGreatDoorK11
section
set_option linter.unusedVariables false
set_option linter.unusedSimpArgs false
namespace Go.Pev.F.Cp

theorem szStringS_is (k : Nat) (hk : 1048576 < k) (a : (List (List UInt8))) (hw : Kd.WF (.sl false .str) a) (left : Int) (h0 : 0 ≤ left) (h1 : left ≤ 1048576) :
    ∃ r : Int, laws_szStringS k (a, left, ()) = some ((r, ()), ((), (), ())) ∧ (0 ≤ r → r ≤ left ∧ Kd.Small (.sl false .str) a) := by
  obtain ⟨w0, w1⟩ := hw
  have w0 : a.length ≤ 140737488351232 := w0
  unfold laws_szStringS
  simp only [br_dec]
  rw [wrap_i64 (n := left - (a.length : Int)) (by omega) (by omega)]
  by_cases hc : left - (a.length : Int) < 0
  · rw [if_pos hc]; exact ⟨-1, rfl, fun h => by omega⟩
  rw [if_neg hc]
  obtain ⟨r, e, p⟩ := sz_loop (b := laws_szStringS.l0 k) (fun i left => (a, left, (i : Int), ())) a (Kd.Small .str) (o := ((), (), ())) (fun G i hi left h0 h1 => by
    have h2 : ((i : Int) < (a.length : Int)) := by omega
    have h3 : (0 : Int) ≤ (i : Int) := by omega
    have hl : a[i].length ≤ 140737488351232 := w1 _ (List.getElem_mem hi)
    refine ⟨left - (a[i].length : Int), ?_, fun h => ⟨by omega, by show a[i].length ≤ 1048576; omega⟩⟩
    simp only [laws_szStringS.l0, br_dec, if_pos h2, if_pos h3, Int.toNat_natCast, List.getElem?_eq_getElem hi, bd_some]
    rw [wrap_i64 (n := left - (a[i].length : Int)) (by omega) (by omega), wrap_succ (by omega)]) (fun G left => by
    have h2 : ¬ ((a.length : Int) < (a.length : Int)) := by omega
    simp only [laws_szStringS.l0, br_dec, if_neg h2]) (f := k) (by omega) (left - (a.length : Int)) (by omega) (by omega)
  refine ⟨r, e, fun hr => ?_⟩
  obtain ⟨q1, q2⟩ := p hr
  exact ⟨by omega, by show a.length ≤ 1048576; omega, q2⟩

theorem szArr_is (k : Nat) (hk : 1048576 < k) (a : ((List UInt8) × Int × Unit)) (hw : Kd.WF (.cons .str (.cons (.int .i64) .nil)) a) (left : Int) (h0 : 0 ≤ left) (h1 : left ≤ 1048576) :
    ∃ r : Int, laws_szArr k (a, left, ()) = some ((r, ()), ((), (), ())) ∧ (0 ≤ r → r ≤ left ∧ Kd.Small (.cons .str (.cons (.int .i64) .nil)) a) := by
  obtain ⟨w0, w1, _⟩ := hw
  unfold laws_szArr
  simp only [br_dec]
  have g1 : a.1.length ≤ 140737488351232 := w0
  obtain ⟨r1, d1⟩ : ∃ z : Int, z = left - (a.1.length : Int) := ⟨_, rfl⟩
  rw [← d1, wrap_i64 (n := r1) (by omega) (by omega)]
  by_cases c1 : r1 < 0
  · rw [if_pos c1]; exact ⟨-1, rfl, fun h => by omega⟩
  rw [if_neg c1]
  have s1 : a.1.length ≤ 1048576 := by omega
  exact ⟨r1, rfl, fun h => ⟨by omega, ⟨s1, trivial, trivial⟩⟩⟩

theorem szArrS_is (k : Nat) (hk : 1048576 < k) (a : (List ((List UInt8) × Int × Unit))) (hw : Kd.WF (.sl false (.cons .str (.cons (.int .i64) .nil))) a) (left : Int) (h0 : 0 ≤ left) (h1 : left ≤ 1048576) :
    ∃ r : Int, laws_szArrS k (a, left, ()) = some ((r, ()), ((), (), ())) ∧ (0 ≤ r → r ≤ left ∧ Kd.Small (.sl false (.cons .str (.cons (.int .i64) .nil))) a) := by
  obtain ⟨w0, w1⟩ := hw
  have w0 : a.length ≤ 140737488351232 := w0
  unfold laws_szArrS
  simp only [br_dec]
  rw [wrap_i64 (n := left - (a.length : Int)) (by omega) (by omega)]
  by_cases hc : left - (a.length : Int) < 0
  · rw [if_pos hc]; exact ⟨-1, rfl, fun h => by omega⟩
  rw [if_neg hc]
  obtain ⟨r, e, p⟩ := sz_loop (b := laws_szArrS.l0 k) (fun i left => (a, left, (i : Int), ())) a (Kd.Small (.cons .str (.cons (.int .i64) .nil))) (o := ((), (), ())) (fun G i hi left h0 h1 => by
    have h2 : ((i : Int) < (a.length : Int)) := by omega
    have h3 : (0 : Int) ≤ (i : Int) := by omega
    obtain ⟨r1, e1, p1⟩ := szArr_is k hk a[i] (w1 _ (List.getElem_mem hi)) left h0 h1
    refine ⟨r1, ?_, p1⟩
    simp only [laws_szArrS.l0, br_dec, if_pos h2, if_pos h3, Int.toNat_natCast, List.getElem?_eq_getElem hi, bd_some, e1]
    rw [wrap_succ (by omega)]) (fun G left => by
    have h2 : ¬ ((a.length : Int) < (a.length : Int)) := by omega
    simp only [laws_szArrS.l0, br_dec, if_neg h2]) (f := k) (by omega) (left - (a.length : Int)) (by omega) (by omega)
  refine ⟨r, e, fun hr => ?_⟩
  obtain ⟨q1, q2⟩ := p hr
  exact ⟨by omega, by show a.length ≤ 1048576; omega, q2⟩

theorem szDecl_is (k : Nat) (hk : 1048576 < k) (a : ((List (List UInt8)) × (List (List UInt8)) × (List ((List UInt8) × Int × Unit)) × Unit)) (hw : Kd.WF (.cons (.sl false .str) (.cons (.sl false .str) (.cons (.sl false (.cons .str (.cons (.int .i64) .nil))) .nil))) a) (left : Int) (h0 : 0 ≤ left) (h1 : left ≤ 1048576) :
    ∃ r : Int, laws_szDecl k (a, left, ()) = some ((r, ()), ((), (), ())) ∧ (0 ≤ r → r ≤ left ∧ Kd.Small (.cons (.sl false .str) (.cons (.sl false .str) (.cons (.sl false (.cons .str (.cons (.int .i64) .nil))) .nil))) a) := by
  obtain ⟨w0, w1, w2, _⟩ := hw
  unfold laws_szDecl
  simp only [br_dec]
  obtain ⟨r1, e1, p1⟩ := szStringS_is k hk a.1 w0 left (by omega) (by omega)
  simp only [e1, bd_some]
  by_cases c1 : r1 < 0
  · rw [if_pos c1]; exact ⟨-1, rfl, fun h => by omega⟩
  rw [if_neg c1]
  obtain ⟨q1, s1⟩ := p1 (by omega)
  obtain ⟨r2, e2, p2⟩ := szStringS_is k hk a.2.1 w1 r1 (by omega) (by omega)
  simp only [e2, bd_some]
  by_cases c2 : r2 < 0
  · rw [if_pos c2]; exact ⟨-1, rfl, fun h => by omega⟩
  rw [if_neg c2]
  obtain ⟨q2, s2⟩ := p2 (by omega)
  obtain ⟨r3, e3, p3⟩ := szArrS_is k hk a.2.2.1 w2 r2 (by omega) (by omega)
  simp only [e3, bd_some]
  by_cases c3 : r3 < 0
  · rw [if_pos c3]; exact ⟨-1, rfl, fun h => by omega⟩
  rw [if_neg c3]
  obtain ⟨q3, s3⟩ := p3 (by omega)
  exact ⟨r3, rfl, fun h => ⟨by omega, ⟨s1, s2, s3, trivial⟩⟩⟩

theorem szTokS_is (k : Nat) (hk : 1048576 < k) (a : (List (Int × Int × Unit))) (hw : Kd.WF (.sl false (.cons (.int .i64) (.cons (.int .i64) .nil))) a) (left : Int) (h0 : 0 ≤ left) (h1 : left ≤ 1048576) :
    ∃ r : Int, laws_szTokS k (a, left, ()) = some ((r, ()), ((), (), ())) ∧ (0 ≤ r → r ≤ left ∧ Kd.Small (.sl false (.cons (.int .i64) (.cons (.int .i64) .nil))) a) := by
  obtain ⟨w0, w1⟩ := hw
  have w0 : a.length ≤ 140737488351232 := w0
  unfold laws_szTokS
  simp only [br_dec]
  rw [wrap_i64 (n := left - (a.length : Int)) (by omega) (by omega)]
  by_cases hc : left - (a.length : Int) < 0
  · rw [if_pos hc]; exact ⟨-1, rfl, fun h => by omega⟩
  rw [if_neg hc]
  exact ⟨_, rfl, fun h => ⟨by omega, by show a.length ≤ 1048576; omega, fun x hx => ⟨trivial, trivial, trivial⟩⟩⟩

theorem szLine_is (k : Nat) (hk : 1048576 < k) (a : (Int × Int × (List (Int × Int × Unit)) × (List (Int × Int × Unit)) × Int × Int × Unit)) (hw : Kd.WF (.cons (.int .i64) (.cons (.int .i64) (.cons (.sl false (.cons (.int .i64) (.cons (.int .i64) .nil))) (.cons (.sl false (.cons (.int .i64) (.cons (.int .i64) .nil))) (.cons (.int .i64) (.cons (.int .i64) .nil)))))) a) (left : Int) (h0 : 0 ≤ left) (h1 : left ≤ 1048576) :
    ∃ r : Int, laws_szLine k (a, left, ()) = some ((r, ()), ((), (), ())) ∧ (0 ≤ r → r ≤ left ∧ Kd.Small (.cons (.int .i64) (.cons (.int .i64) (.cons (.sl false (.cons (.int .i64) (.cons (.int .i64) .nil))) (.cons (.sl false (.cons (.int .i64) (.cons (.int .i64) .nil))) (.cons (.int .i64) (.cons (.int .i64) .nil)))))) a) := by
  obtain ⟨w0, w1, w2, w3, w4, w5, _⟩ := hw
  unfold laws_szLine
  simp only [br_dec]
  obtain ⟨r1, e1, p1⟩ := szTokS_is k hk a.2.2.1 w2 left (by omega) (by omega)
  simp only [e1, bd_some]
  by_cases c1 : r1 < 0
  · rw [if_pos c1]; exact ⟨-1, rfl, fun h => by omega⟩
  rw [if_neg c1]
  obtain ⟨q1, s1⟩ := p1 (by omega)
  obtain ⟨r2, e2, p2⟩ := szTokS_is k hk a.2.2.2.1 w3 r1 (by omega) (by omega)
  simp only [e2, bd_some]
  by_cases c2 : r2 < 0
  · rw [if_pos c2]; exact ⟨-1, rfl, fun h => by omega⟩
  rw [if_neg c2]
  obtain ⟨q2, s2⟩ := p2 (by omega)
  exact ⟨r2, rfl, fun h => ⟨by omega, ⟨trivial, trivial, s1, s2, trivial, trivial, trivial⟩⟩⟩

theorem szLineS_is (k : Nat) (hk : 1048576 < k) (a : (List (Int × Int × (List (Int × Int × Unit)) × (List (Int × Int × Unit)) × Int × Int × Unit))) (hw : Kd.WF (.sl false (.cons (.int .i64) (.cons (.int .i64) (.cons (.sl false (.cons (.int .i64) (.cons (.int .i64) .nil))) (.cons (.sl false (.cons (.int .i64) (.cons (.int .i64) .nil))) (.cons (.int .i64) (.cons (.int .i64) .nil))))))) a) (left : Int) (h0 : 0 ≤ left) (h1 : left ≤ 1048576) :
    ∃ r : Int, laws_szLineS k (a, left, ()) = some ((r, ()), ((), (), ())) ∧ (0 ≤ r → r ≤ left ∧ Kd.Small (.sl false (.cons (.int .i64) (.cons (.int .i64) (.cons (.sl false (.cons (.int .i64) (.cons (.int .i64) .nil))) (.cons (.sl false (.cons (.int .i64) (.cons (.int .i64) .nil))) (.cons (.int .i64) (.cons (.int .i64) .nil))))))) a) := by
  obtain ⟨w0, w1⟩ := hw
  have w0 : a.length ≤ 140737488351232 := w0
  unfold laws_szLineS
  simp only [br_dec]
  rw [wrap_i64 (n := left - (a.length : Int)) (by omega) (by omega)]
  by_cases hc : left - (a.length : Int) < 0
  · rw [if_pos hc]; exact ⟨-1, rfl, fun h => by omega⟩
  rw [if_neg hc]
  obtain ⟨r, e, p⟩ := sz_loop (b := laws_szLineS.l0 k) (fun i left => (a, left, (i : Int), ())) a (Kd.Small (.cons (.int .i64) (.cons (.int .i64) (.cons (.sl false (.cons (.int .i64) (.cons (.int .i64) .nil))) (.cons (.sl false (.cons (.int .i64) (.cons (.int .i64) .nil))) (.cons (.int .i64) (.cons (.int .i64) .nil))))))) (o := ((), (), ())) (fun G i hi left h0 h1 => by
    have h2 : ((i : Int) < (a.length : Int)) := by omega
    have h3 : (0 : Int) ≤ (i : Int) := by omega
    obtain ⟨r1, e1, p1⟩ := szLine_is k hk a[i] (w1 _ (List.getElem_mem hi)) left h0 h1
    refine ⟨r1, ?_, p1⟩
    simp only [laws_szLineS.l0, br_dec, if_pos h2, if_pos h3, Int.toNat_natCast, List.getElem?_eq_getElem hi, bd_some, e1]
    rw [wrap_succ (by omega)]) (fun G left => by
    have h2 : ¬ ((a.length : Int) < (a.length : Int)) := by omega
    simp only [laws_szLineS.l0, br_dec, if_neg h2]) (f := k) (by omega) (left - (a.length : Int)) (by omega) (by omega)
  refine ⟨r, e, fun hr => ?_⟩
  obtain ⟨q1, q2⟩ := p hr
  exact ⟨by omega, by show a.length ≤ 1048576; omega, q2⟩

theorem szProg_is (k : Nat) (hk : 1048576 < k) (a : ((List (List UInt8)) × (List (List UInt8)) × (List ((List UInt8) × Int × Unit)) × (List (Int × Int × (List (Int × Int × Unit)) × (List (Int × Int × Unit)) × Int × Int × Unit)) × Unit)) (hw : Kd.WF (.cons (.sl false .str) (.cons (.sl false .str) (.cons (.sl false (.cons .str (.cons (.int .i64) .nil))) (.cons (.sl false (.cons (.int .i64) (.cons (.int .i64) (.cons (.sl false (.cons (.int .i64) (.cons (.int .i64) .nil))) (.cons (.sl false (.cons (.int .i64) (.cons (.int .i64) .nil))) (.cons (.int .i64) (.cons (.int .i64) .nil))))))) .nil)))) a) (left : Int) (h0 : 0 ≤ left) (h1 : left ≤ 1048576) :
    ∃ r : Int, laws_szProg k (a, left, ()) = some ((r, ()), ((), (), ())) ∧ (0 ≤ r → r ≤ left ∧ Kd.Small (.cons (.sl false .str) (.cons (.sl false .str) (.cons (.sl false (.cons .str (.cons (.int .i64) .nil))) (.cons (.sl false (.cons (.int .i64) (.cons (.int .i64) (.cons (.sl false (.cons (.int .i64) (.cons (.int .i64) .nil))) (.cons (.sl false (.cons (.int .i64) (.cons (.int .i64) .nil))) (.cons (.int .i64) (.cons (.int .i64) .nil))))))) .nil)))) a) := by
  obtain ⟨w0, w1, w2, w3, _⟩ := hw
  unfold laws_szProg
  simp only [br_dec]
  obtain ⟨r1, e1, p1⟩ := szDecl_is k hk (a.1, a.2.1, a.2.2.1, ()) ⟨w0, w1, w2, trivial⟩ left (by omega) (by omega)
  simp only [e1, bd_some]
  by_cases c1 : r1 < 0
  · rw [if_pos c1]; exact ⟨-1, rfl, fun h => by omega⟩
  rw [if_neg c1]
  obtain ⟨q1, s1⟩ := p1 (by omega)
  obtain ⟨S0, S1, S2, _⟩ := s1
  obtain ⟨r2, e2, p2⟩ := szLineS_is k hk a.2.2.2.1 w3 r1 (by omega) (by omega)
  simp only [e2, bd_some]
  by_cases c2 : r2 < 0
  · rw [if_pos c2]; exact ⟨-1, rfl, fun h => by omega⟩
  rw [if_neg c2]
  obtain ⟨q2, s2⟩ := p2 (by omega)
  exact ⟨r2, rfl, fun h => ⟨by omega, ⟨S0, S1, S2, s2, trivial⟩⟩⟩

theorem szEntryS_is (k : Nat) (hk : 1048576 < k) (a : (List (Int × Int × Unit))) (hw : Kd.WF (.sl false (.cons (.int .i64) (.cons (.int .i64) .nil))) a) (left : Int) (h0 : 0 ≤ left) (h1 : left ≤ 1048576) :
    ∃ r : Int, laws_szEntryS k (a, left, ()) = some ((r, ()), ((), (), ())) ∧ (0 ≤ r → r ≤ left ∧ Kd.Small (.sl false (.cons (.int .i64) (.cons (.int .i64) .nil))) a) := by
  obtain ⟨w0, w1⟩ := hw
  have w0 : a.length ≤ 140737488351232 := w0
  unfold laws_szEntryS
  simp only [br_dec]
  rw [wrap_i64 (n := left - (a.length : Int)) (by omega) (by omega)]
  by_cases hc : left - (a.length : Int) < 0
  · rw [if_pos hc]; exact ⟨-1, rfl, fun h => by omega⟩
  rw [if_neg hc]
  exact ⟨_, rfl, fun h => ⟨by omega, by show a.length ≤ 1048576; omega, fun x hx => ⟨trivial, trivial, trivial⟩⟩⟩

theorem szIntervalS_is (k : Nat) (hk : 1048576 < k) (a : (List (Int × Int × Unit))) (hw : Kd.WF (.sl false (.cons (.int .i64) (.cons (.int .i64) .nil))) a) (left : Int) (h0 : 0 ≤ left) (h1 : left ≤ 1048576) :
    ∃ r : Int, laws_szIntervalS k (a, left, ()) = some ((r, ()), ((), (), ())) ∧ (0 ≤ r → r ≤ left ∧ Kd.Small (.sl false (.cons (.int .i64) (.cons (.int .i64) .nil))) a) := by
  obtain ⟨w0, w1⟩ := hw
  have w0 : a.length ≤ 140737488351232 := w0
  unfold laws_szIntervalS
  simp only [br_dec]
  rw [wrap_i64 (n := left - (a.length : Int)) (by omega) (by omega)]
  by_cases hc : left - (a.length : Int) < 0
  · rw [if_pos hc]; exact ⟨-1, rfl, fun h => by omega⟩
  rw [if_neg hc]
  exact ⟨_, rfl, fun h => ⟨by omega, by show a.length ≤ 1048576; omega, fun x hx => ⟨trivial, trivial, trivial⟩⟩⟩

theorem szEnv_is (k : Nat) (hk : 1048576 < k) (a : (Bool × (List (Int × Int × Unit)) × (List (Int × Int × Unit)) × Unit)) (hw : Kd.WF (.cons .bool (.cons (.sl false (.cons (.int .i64) (.cons (.int .i64) .nil))) (.cons (.sl false (.cons (.int .i64) (.cons (.int .i64) .nil))) .nil))) a) (left : Int) (h0 : 0 ≤ left) (h1 : left ≤ 1048576) :
    ∃ r : Int, laws_szEnv k (a, left, ()) = some ((r, ()), ((), (), ())) ∧ (0 ≤ r → r ≤ left ∧ Kd.Small (.cons .bool (.cons (.sl false (.cons (.int .i64) (.cons (.int .i64) .nil))) (.cons (.sl false (.cons (.int .i64) (.cons (.int .i64) .nil))) .nil))) a) := by
  obtain ⟨w0, w1, w2, _⟩ := hw
  unfold laws_szEnv
  simp only [br_dec]
  obtain ⟨r1, e1, p1⟩ := szIntervalS_is k hk a.2.1 w1 left (by omega) (by omega)
  simp only [e1, bd_some]
  by_cases c1 : r1 < 0
  · rw [if_pos c1]; exact ⟨-1, rfl, fun h => by omega⟩
  rw [if_neg c1]
  obtain ⟨q1, s1⟩ := p1 (by omega)
  obtain ⟨r2, e2, p2⟩ := szIntervalS_is k hk a.2.2.1 w2 r1 (by omega) (by omega)
  simp only [e2, bd_some]
  by_cases c2 : r2 < 0
  · rw [if_pos c2]; exact ⟨-1, rfl, fun h => by omega⟩
  rw [if_neg c2]
  obtain ⟨q2, s2⟩ := p2 (by omega)
  exact ⟨r2, rfl, fun h => ⟨by omega, ⟨trivial, s1, s2, trivial⟩⟩⟩

theorem szEnvS_is (k : Nat) (hk : 1048576 < k) (a : (List (Bool × (List (Int × Int × Unit)) × (List (Int × Int × Unit)) × Unit))) (hw : Kd.WF (.sl false (.cons .bool (.cons (.sl false (.cons (.int .i64) (.cons (.int .i64) .nil))) (.cons (.sl false (.cons (.int .i64) (.cons (.int .i64) .nil))) .nil)))) a) (left : Int) (h0 : 0 ≤ left) (h1 : left ≤ 1048576) :
    ∃ r : Int, laws_szEnvS k (a, left, ()) = some ((r, ()), ((), (), ())) ∧ (0 ≤ r → r ≤ left ∧ Kd.Small (.sl false (.cons .bool (.cons (.sl false (.cons (.int .i64) (.cons (.int .i64) .nil))) (.cons (.sl false (.cons (.int .i64) (.cons (.int .i64) .nil))) .nil)))) a) := by
  obtain ⟨w0, w1⟩ := hw
  have w0 : a.length ≤ 140737488351232 := w0
  unfold laws_szEnvS
  simp only [br_dec]
  rw [wrap_i64 (n := left - (a.length : Int)) (by omega) (by omega)]
  by_cases hc : left - (a.length : Int) < 0
  · rw [if_pos hc]; exact ⟨-1, rfl, fun h => by omega⟩
  rw [if_neg hc]
  obtain ⟨r, e, p⟩ := sz_loop (b := laws_szEnvS.l0 k) (fun i left => (a, left, (i : Int), ())) a (Kd.Small (.cons .bool (.cons (.sl false (.cons (.int .i64) (.cons (.int .i64) .nil))) (.cons (.sl false (.cons (.int .i64) (.cons (.int .i64) .nil))) .nil)))) (o := ((), (), ())) (fun G i hi left h0 h1 => by
    have h2 : ((i : Int) < (a.length : Int)) := by omega
    have h3 : (0 : Int) ≤ (i : Int) := by omega
    obtain ⟨r1, e1, p1⟩ := szEnv_is k hk a[i] (w1 _ (List.getElem_mem hi)) left h0 h1
    refine ⟨r1, ?_, p1⟩
    simp only [laws_szEnvS.l0, br_dec, if_pos h2, if_pos h3, Int.toNat_natCast, List.getElem?_eq_getElem hi, bd_some, e1]
    rw [wrap_succ (by omega)]) (fun G left => by
    have h2 : ¬ ((a.length : Int) < (a.length : Int)) := by omega
    simp only [laws_szEnvS.l0, br_dec, if_neg h2]) (f := k) (by omega) (left - (a.length : Int)) (by omega) (by omega)
  refine ⟨r, e, fun hr => ?_⟩
  obtain ⟨q1, q2⟩ := p hr
  exact ⟨by omega, by show a.length ≤ 1048576; omega, q2⟩

theorem szPart_is (k : Nat) (hk : 1048576 < k) (a : ((List (Int × Int × Unit)) × (List (Bool × (List (Int × Int × Unit)) × (List (Int × Int × Unit)) × Unit)) × Unit)) (hw : Kd.WF (.cons (.sl false (.cons (.int .i64) (.cons (.int .i64) .nil))) (.cons (.sl false (.cons .bool (.cons (.sl false (.cons (.int .i64) (.cons (.int .i64) .nil))) (.cons (.sl false (.cons (.int .i64) (.cons (.int .i64) .nil))) .nil)))) .nil)) a) (left : Int) (h0 : 0 ≤ left) (h1 : left ≤ 1048576) :
    ∃ r : Int, laws_szPart k (a, left, ()) = some ((r, ()), ((), (), ())) ∧ (0 ≤ r → r ≤ left ∧ Kd.Small (.cons (.sl false (.cons (.int .i64) (.cons (.int .i64) .nil))) (.cons (.sl false (.cons .bool (.cons (.sl false (.cons (.int .i64) (.cons (.int .i64) .nil))) (.cons (.sl false (.cons (.int .i64) (.cons (.int .i64) .nil))) .nil)))) .nil)) a) := by
  obtain ⟨w0, w1, _⟩ := hw
  unfold laws_szPart
  simp only [br_dec]
  obtain ⟨r1, e1, p1⟩ := szEntryS_is k hk a.1 w0 left (by omega) (by omega)
  simp only [e1, bd_some]
  by_cases c1 : r1 < 0
  · rw [if_pos c1]; exact ⟨-1, rfl, fun h => by omega⟩
  rw [if_neg c1]
  obtain ⟨q1, s1⟩ := p1 (by omega)
  obtain ⟨r2, e2, p2⟩ := szEnvS_is k hk a.2.1 w1 r1 (by omega) (by omega)
  simp only [e2, bd_some]
  by_cases c2 : r2 < 0
  · rw [if_pos c2]; exact ⟨-1, rfl, fun h => by omega⟩
  rw [if_neg c2]
  obtain ⟨q2, s2⟩ := p2 (by omega)
  exact ⟨r2, rfl, fun h => ⟨by omega, ⟨s1, s2, trivial⟩⟩⟩

theorem szPartS_is (k : Nat) (hk : 1048576 < k) (a : (List ((List (Int × Int × Unit)) × (List (Bool × (List (Int × Int × Unit)) × (List (Int × Int × Unit)) × Unit)) × Unit))) (hw : Kd.WF (.sl false (.cons (.sl false (.cons (.int .i64) (.cons (.int .i64) .nil))) (.cons (.sl false (.cons .bool (.cons (.sl false (.cons (.int .i64) (.cons (.int .i64) .nil))) (.cons (.sl false (.cons (.int .i64) (.cons (.int .i64) .nil))) .nil)))) .nil))) a) (left : Int) (h0 : 0 ≤ left) (h1 : left ≤ 1048576) :
    ∃ r : Int, laws_szPartS k (a, left, ()) = some ((r, ()), ((), (), ())) ∧ (0 ≤ r → r ≤ left ∧ Kd.Small (.sl false (.cons (.sl false (.cons (.int .i64) (.cons (.int .i64) .nil))) (.cons (.sl false (.cons .bool (.cons (.sl false (.cons (.int .i64) (.cons (.int .i64) .nil))) (.cons (.sl false (.cons (.int .i64) (.cons (.int .i64) .nil))) .nil)))) .nil))) a) := by
  obtain ⟨w0, w1⟩ := hw
  have w0 : a.length ≤ 140737488351232 := w0
  unfold laws_szPartS
  simp only [br_dec]
  rw [wrap_i64 (n := left - (a.length : Int)) (by omega) (by omega)]
  by_cases hc : left - (a.length : Int) < 0
  · rw [if_pos hc]; exact ⟨-1, rfl, fun h => by omega⟩
  rw [if_neg hc]
  obtain ⟨r, e, p⟩ := sz_loop (b := laws_szPartS.l0 k) (fun i left => (a, left, (i : Int), ())) a (Kd.Small (.cons (.sl false (.cons (.int .i64) (.cons (.int .i64) .nil))) (.cons (.sl false (.cons .bool (.cons (.sl false (.cons (.int .i64) (.cons (.int .i64) .nil))) (.cons (.sl false (.cons (.int .i64) (.cons (.int .i64) .nil))) .nil)))) .nil))) (o := ((), (), ())) (fun G i hi left h0 h1 => by
    have h2 : ((i : Int) < (a.length : Int)) := by omega
    have h3 : (0 : Int) ≤ (i : Int) := by omega
    obtain ⟨r1, e1, p1⟩ := szPart_is k hk a[i] (w1 _ (List.getElem_mem hi)) left h0 h1
    refine ⟨r1, ?_, p1⟩
    simp only [laws_szPartS.l0, br_dec, if_pos h2, if_pos h3, Int.toNat_natCast, List.getElem?_eq_getElem hi, bd_some, e1]
    rw [wrap_succ (by omega)]) (fun G left => by
    have h2 : ¬ ((a.length : Int) < (a.length : Int)) := by omega
    simp only [laws_szPartS.l0, br_dec, if_neg h2]) (f := k) (by omega) (left - (a.length : Int)) (by omega) (by omega)
  refine ⟨r, e, fun hr => ?_⟩
  obtain ⟨q1, q2⟩ := p hr
  exact ⟨by omega, by show a.length ≤ 1048576; omega, q2⟩

theorem szRow_is (k : Nat) (hk : 1048576 < k) (a : ((List ((List (Int × Int × Unit)) × (List (Bool × (List (Int × Int × Unit)) × (List (Int × Int × Unit)) × Unit)) × Unit)) × Unit)) (hw : Kd.WF (.cons (.sl false (.cons (.sl false (.cons (.int .i64) (.cons (.int .i64) .nil))) (.cons (.sl false (.cons .bool (.cons (.sl false (.cons (.int .i64) (.cons (.int .i64) .nil))) (.cons (.sl false (.cons (.int .i64) (.cons (.int .i64) .nil))) .nil)))) .nil))) .nil) a) (left : Int) (h0 : 0 ≤ left) (h1 : left ≤ 1048576) :
    ∃ r : Int, laws_szRow k (a, left, ()) = some ((r, ()), ((), (), ())) ∧ (0 ≤ r → r ≤ left ∧ Kd.Small (.cons (.sl false (.cons (.sl false (.cons (.int .i64) (.cons (.int .i64) .nil))) (.cons (.sl false (.cons .bool (.cons (.sl false (.cons (.int .i64) (.cons (.int .i64) .nil))) (.cons (.sl false (.cons (.int .i64) (.cons (.int .i64) .nil))) .nil)))) .nil))) .nil) a) := by
  obtain ⟨w0, _⟩ := hw
  unfold laws_szRow
  simp only [br_dec]
  obtain ⟨r1, e1, p1⟩ := szPartS_is k hk a.1 w0 left (by omega) (by omega)
  simp only [e1, bd_some]
  by_cases c1 : r1 < 0
  · rw [if_pos c1]; exact ⟨-1, rfl, fun h => by omega⟩
  rw [if_neg c1]
  obtain ⟨q1, s1⟩ := p1 (by omega)
  exact ⟨r1, rfl, fun h => ⟨by omega, ⟨s1, trivial⟩⟩⟩

theorem szRowS_is (k : Nat) (hk : 1048576 < k) (a : (List ((List ((List (Int × Int × Unit)) × (List (Bool × (List (Int × Int × Unit)) × (List (Int × Int × Unit)) × Unit)) × Unit)) × Unit))) (hw : Kd.WF (.sl false (.cons (.sl false (.cons (.sl false (.cons (.int .i64) (.cons (.int .i64) .nil))) (.cons (.sl false (.cons .bool (.cons (.sl false (.cons (.int .i64) (.cons (.int .i64) .nil))) (.cons (.sl false (.cons (.int .i64) (.cons (.int .i64) .nil))) .nil)))) .nil))) .nil)) a) (left : Int) (h0 : 0 ≤ left) (h1 : left ≤ 1048576) :
    ∃ r : Int, laws_szRowS k (a, left, ()) = some ((r, ()), ((), (), ())) ∧ (0 ≤ r → r ≤ left ∧ Kd.Small (.sl false (.cons (.sl false (.cons (.sl false (.cons (.int .i64) (.cons (.int .i64) .nil))) (.cons (.sl false (.cons .bool (.cons (.sl false (.cons (.int .i64) (.cons (.int .i64) .nil))) (.cons (.sl false (.cons (.int .i64) (.cons (.int .i64) .nil))) .nil)))) .nil))) .nil)) a) := by
  obtain ⟨w0, w1⟩ := hw
  have w0 : a.length ≤ 140737488351232 := w0
  unfold laws_szRowS
  simp only [br_dec]
  rw [wrap_i64 (n := left - (a.length : Int)) (by omega) (by omega)]
  by_cases hc : left - (a.length : Int) < 0
  · rw [if_pos hc]; exact ⟨-1, rfl, fun h => by omega⟩
  rw [if_neg hc]
  obtain ⟨r, e, p⟩ := sz_loop (b := laws_szRowS.l0 k) (fun i left => (a, left, (i : Int), ())) a (Kd.Small (.cons (.sl false (.cons (.sl false (.cons (.int .i64) (.cons (.int .i64) .nil))) (.cons (.sl false (.cons .bool (.cons (.sl false (.cons (.int .i64) (.cons (.int .i64) .nil))) (.cons (.sl false (.cons (.int .i64) (.cons (.int .i64) .nil))) .nil)))) .nil))) .nil)) (o := ((), (), ())) (fun G i hi left h0 h1 => by
    have h2 : ((i : Int) < (a.length : Int)) := by omega
    have h3 : (0 : Int) ≤ (i : Int) := by omega
    obtain ⟨r1, e1, p1⟩ := szRow_is k hk a[i] (w1 _ (List.getElem_mem hi)) left h0 h1
    refine ⟨r1, ?_, p1⟩
    simp only [laws_szRowS.l0, br_dec, if_pos h2, if_pos h3, Int.toNat_natCast, List.getElem?_eq_getElem hi, bd_some, e1]
    rw [wrap_succ (by omega)]) (fun G left => by
    have h2 : ¬ ((a.length : Int) < (a.length : Int)) := by omega
    simp only [laws_szRowS.l0, br_dec, if_neg h2]) (f := k) (by omega) (left - (a.length : Int)) (by omega) (by omega)
  refine ⟨r, e, fun hr => ?_⟩
  obtain ⟨q1, q2⟩ := p hr
  exact ⟨by omega, by show a.length ≤ 1048576; omega, q2⟩

theorem szInt64S_is (k : Nat) (hk : 1048576 < k) (a : (List Int)) (hw : Kd.WF (.sl false (.int .i64)) a) (left : Int) (h0 : 0 ≤ left) (h1 : left ≤ 1048576) :
    ∃ r : Int, laws_szInt64S k (a, left, ()) = some ((r, ()), ((), (), ())) ∧ (0 ≤ r → r ≤ left ∧ Kd.Small (.sl false (.int .i64)) a) := by
  obtain ⟨w0, w1⟩ := hw
  have w0 : a.length ≤ 140737488351232 := w0
  unfold laws_szInt64S
  simp only [br_dec]
  rw [wrap_i64 (n := left - (a.length : Int)) (by omega) (by omega)]
  by_cases hc : left - (a.length : Int) < 0
  · rw [if_pos hc]; exact ⟨-1, rfl, fun h => by omega⟩
  rw [if_neg hc]
  exact ⟨_, rfl, fun h => ⟨by omega, by show a.length ≤ 1048576; omega, fun x hx => trivial⟩⟩

theorem szBoolS_is (k : Nat) (hk : 1048576 < k) (a : (List Bool)) (hw : Kd.WF (.sl false .bool) a) (left : Int) (h0 : 0 ≤ left) (h1 : left ≤ 1048576) :
    ∃ r : Int, laws_szBoolS k (a, left, ()) = some ((r, ()), ((), (), ())) ∧ (0 ≤ r → r ≤ left ∧ Kd.Small (.sl false .bool) a) := by
  obtain ⟨w0, w1⟩ := hw
  have w0 : a.length ≤ 140737488351232 := w0
  unfold laws_szBoolS
  simp only [br_dec]
  rw [wrap_i64 (n := left - (a.length : Int)) (by omega) (by omega)]
  by_cases hc : left - (a.length : Int) < 0
  · rw [if_pos hc]; exact ⟨-1, rfl, fun h => by omega⟩
  rw [if_neg hc]
  exact ⟨_, rfl, fun h => ⟨by omega, by show a.length ≤ 1048576; omega, fun x hx => trivial⟩⟩

theorem szInt64SS_is (k : Nat) (hk : 1048576 < k) (a : (List (List Int))) (hw : Kd.WF (.sl false (.sl false (.int .i64))) a) (left : Int) (h0 : 0 ≤ left) (h1 : left ≤ 1048576) :
    ∃ r : Int, laws_szInt64SS k (a, left, ()) = some ((r, ()), ((), (), ())) ∧ (0 ≤ r → r ≤ left ∧ Kd.Small (.sl false (.sl false (.int .i64))) a) := by
  obtain ⟨w0, w1⟩ := hw
  have w0 : a.length ≤ 140737488351232 := w0
  unfold laws_szInt64SS
  simp only [br_dec]
  rw [wrap_i64 (n := left - (a.length : Int)) (by omega) (by omega)]
  by_cases hc : left - (a.length : Int) < 0
  · rw [if_pos hc]; exact ⟨-1, rfl, fun h => by omega⟩
  rw [if_neg hc]
  obtain ⟨r, e, p⟩ := sz_loop (b := laws_szInt64SS.l0 k) (fun i left => (a, left, (i : Int), ())) a (Kd.Small (.sl false (.int .i64))) (o := ((), (), ())) (fun G i hi left h0 h1 => by
    have h2 : ((i : Int) < (a.length : Int)) := by omega
    have h3 : (0 : Int) ≤ (i : Int) := by omega
    obtain ⟨r1, e1, p1⟩ := szInt64S_is k hk a[i] (w1 _ (List.getElem_mem hi)) left h0 h1
    refine ⟨r1, ?_, p1⟩
    simp only [laws_szInt64SS.l0, br_dec, if_pos h2, if_pos h3, Int.toNat_natCast, List.getElem?_eq_getElem hi, bd_some, e1]
    rw [wrap_succ (by omega)]) (fun G left => by
    have h2 : ¬ ((a.length : Int) < (a.length : Int)) := by omega
    simp only [laws_szInt64SS.l0, br_dec, if_neg h2]) (f := k) (by omega) (left - (a.length : Int)) (by omega) (by omega)
  refine ⟨r, e, fun hr => ?_⟩
  obtain ⟨q1, q2⟩ := p hr
  exact ⟨by omega, by show a.length ≤ 1048576; omega, q2⟩

theorem szStore_is (k : Nat) (hk : 1048576 < k) (a : ((List Int) × (List Bool) × (List (List Int)) × Unit)) (hw : Kd.WF (.cons (.sl false (.int .i64)) (.cons (.sl false .bool) (.cons (.sl false (.sl false (.int .i64))) .nil))) a) (left : Int) (h0 : 0 ≤ left) (h1 : left ≤ 1048576) :
    ∃ r : Int, laws_szStore k (a, left, ()) = some ((r, ()), ((), (), ())) ∧ (0 ≤ r → r ≤ left ∧ Kd.Small (.cons (.sl false (.int .i64)) (.cons (.sl false .bool) (.cons (.sl false (.sl false (.int .i64))) .nil))) a) := by
  obtain ⟨w0, w1, w2, _⟩ := hw
  unfold laws_szStore
  simp only [br_dec]
  obtain ⟨r1, e1, p1⟩ := szInt64S_is k hk a.1 w0 left (by omega) (by omega)
  simp only [e1, bd_some]
  by_cases c1 : r1 < 0
  · rw [if_pos c1]; exact ⟨-1, rfl, fun h => by omega⟩
  rw [if_neg c1]
  obtain ⟨q1, s1⟩ := p1 (by omega)
  obtain ⟨r2, e2, p2⟩ := szBoolS_is k hk a.2.1 w1 r1 (by omega) (by omega)
  simp only [e2, bd_some]
  by_cases c2 : r2 < 0
  · rw [if_pos c2]; exact ⟨-1, rfl, fun h => by omega⟩
  rw [if_neg c2]
  obtain ⟨q2, s2⟩ := p2 (by omega)
  obtain ⟨r3, e3, p3⟩ := szInt64SS_is k hk a.2.2.1 w2 r2 (by omega) (by omega)
  simp only [e3, bd_some]
  by_cases c3 : r3 < 0
  · rw [if_pos c3]; exact ⟨-1, rfl, fun h => by omega⟩
  rw [if_neg c3]
  obtain ⟨q3, s3⟩ := p3 (by omega)
  exact ⟨r3, rfl, fun h => ⟨by omega, ⟨s1, s2, s3, trivial⟩⟩⟩

theorem szSnap_is (k : Nat) (hk : 1048576 < k) (a : (Int × (List (Int × Int × Unit)) × (List Int) × (List Bool) × (List (List Int)) × Unit)) (hw : Kd.WF (.cons (.int .i64) (.cons (.sl false (.cons (.int .i64) (.cons (.int .i64) .nil))) (.cons (.sl false (.int .i64)) (.cons (.sl false .bool) (.cons (.sl false (.sl false (.int .i64))) .nil))))) a) (left : Int) (h0 : 0 ≤ left) (h1 : left ≤ 1048576) :
    ∃ r : Int, laws_szSnap k (a, left, ()) = some ((r, ()), ((), (), ())) ∧ (0 ≤ r → r ≤ left ∧ Kd.Small (.cons (.int .i64) (.cons (.sl false (.cons (.int .i64) (.cons (.int .i64) .nil))) (.cons (.sl false (.int .i64)) (.cons (.sl false .bool) (.cons (.sl false (.sl false (.int .i64))) .nil))))) a) := by
  obtain ⟨w0, w1, w2, w3, w4, _⟩ := hw
  unfold laws_szSnap
  simp only [br_dec]
  obtain ⟨r1, e1, p1⟩ := szEntryS_is k hk a.2.1 w1 left (by omega) (by omega)
  simp only [e1, bd_some]
  by_cases c1 : r1 < 0
  · rw [if_pos c1]; exact ⟨-1, rfl, fun h => by omega⟩
  rw [if_neg c1]
  obtain ⟨q1, s1⟩ := p1 (by omega)
  obtain ⟨r2, e2, p2⟩ := szStore_is k hk (a.2.2.1, a.2.2.2.1, a.2.2.2.2.1, ()) ⟨w2, w3, w4, trivial⟩ r1 (by omega) (by omega)
  simp only [e2, bd_some]
  by_cases c2 : r2 < 0
  · rw [if_pos c2]; exact ⟨-1, rfl, fun h => by omega⟩
  rw [if_neg c2]
  obtain ⟨q2, s2⟩ := p2 (by omega)
  obtain ⟨S2, S3, S4, _⟩ := s2
  exact ⟨r2, rfl, fun h => ⟨by omega, ⟨trivial, s1, S2, S3, S4, trivial⟩⟩⟩

theorem toStringS_is (k : Nat) (hk : 1048576 < k) (a : (List (List UInt8))) (h : Kd.Small (.sl false .str) a) : laws_toStringS k (a, ()) = some ((a, ()), ((), ())) := by
  obtain ⟨h0, h1⟩ := h
  have h0 : a.length ≤ 1048576 := h0
  unfold laws_toStringS
  have hm : 0 ≤ (a.length : Int) ∧ (a.length : Int) ≤ (a.length : Int) ∧ (a.length : Int) * 16 ≤ maxBytes := by simp [maxBytes]; omega
  simp only [br_dec, if_pos hm, Int.toNat_natCast]
  generalize hz : (Kd.z .str : (List UInt8)) = z
  exact to_loop (b := laws_toStringS.l0 k) (fun i out => (a, out, (i : Int), ())) a z (fun G i hi out ho hg => by
    have h2 : ((i : Int) < (a.length : Int)) := by omega
    have h3 : (0 : Int) ≤ (i : Int) := by omega
    have h4 : 0 ≤ (i : Int) ∧ (i : Int) < (out.length : Int) := by omega
    simp only [laws_toStringS.l0, br_dec, if_pos h2, if_pos h3, if_pos h4, Int.toNat_natCast, List.getElem?_eq_getElem hi, hg, bd_some]
    rw [wrap_succ (by omega)]) (fun G out => by
    have h2 : ¬ ((a.length : Int) < (a.length : Int)) := by omega
    simp only [laws_toStringS.l0, br_dec, if_neg h2]) (by omega)

theorem toArr_is (k : Nat) (hk : 1048576 < k) (a : ((List UInt8) × Int × Unit)) (h : Kd.Small (.cons .str (.cons (.int .i64) .nil)) a) : laws_toArr k (a, ()) = some ((a, ()), ((), ())) := by
  rfl

theorem toArrS_is (k : Nat) (hk : 1048576 < k) (a : (List ((List UInt8) × Int × Unit))) (h : Kd.Small (.sl false (.cons .str (.cons (.int .i64) .nil))) a) : laws_toArrS k (a, ()) = some ((a, ()), ((), ())) := by
  obtain ⟨h0, h1⟩ := h
  have h0 : a.length ≤ 1048576 := h0
  unfold laws_toArrS
  have hm : 0 ≤ (a.length : Int) ∧ (a.length : Int) ≤ (a.length : Int) ∧ (a.length : Int) * 24 ≤ maxBytes := by simp [maxBytes]; omega
  simp only [br_dec, if_pos hm, Int.toNat_natCast]
  generalize hz : (Kd.z (.cons .str (.cons (.int .i64) .nil)) : ((List UInt8) × Int × Unit)) = z
  exact to_loop (b := laws_toArrS.l0 k) (fun i out => (a, out, (i : Int), ())) a z (fun G i hi out ho hg => by
    have h2 : ((i : Int) < (a.length : Int)) := by omega
    have h3 : (0 : Int) ≤ (i : Int) := by omega
    have h4 : 0 ≤ (i : Int) ∧ (i : Int) < (out.length : Int) := by omega
    simp only [laws_toArrS.l0, br_dec, if_pos h2, if_pos h3, if_pos h4, Int.toNat_natCast, List.getElem?_eq_getElem hi, hg, bd_some, toArr_is k hk a[i] (h1 _ (List.getElem_mem hi))]
    rw [wrap_succ (by omega)]) (fun G out => by
    have h2 : ¬ ((a.length : Int) < (a.length : Int)) := by omega
    simp only [laws_toArrS.l0, br_dec, if_neg h2]) (by omega)

theorem toDecl_is (k : Nat) (hk : 1048576 < k) (a : ((List (List UInt8)) × (List (List UInt8)) × (List ((List UInt8) × Int × Unit)) × Unit)) (h : Kd.Small (.cons (.sl false .str) (.cons (.sl false .str) (.cons (.sl false (.cons .str (.cons (.int .i64) .nil))) .nil))) a) : laws_toDecl k (a, ()) = some ((a, ()), ((), ())) := by
  obtain ⟨h0, h1, h2, _⟩ := h
  unfold laws_toDecl
  simp only [toStringS_is k hk a.1 h0, toStringS_is k hk a.2.1 h1, toArrS_is k hk a.2.2.1 h2, bd_some]

theorem toTok_is (k : Nat) (hk : 1048576 < k) (a : (Int × Int × Unit)) (h : Kd.Small (.cons (.int .i64) (.cons (.int .i64) .nil)) a) : laws_toTok k (a, ()) = some ((a, ()), ((), ())) := by
  rfl

theorem toTokS_is (k : Nat) (hk : 1048576 < k) (a : (List (Int × Int × Unit))) (h : Kd.Small (.sl false (.cons (.int .i64) (.cons (.int .i64) .nil))) a) : laws_toTokS k (a, ()) = some ((a, ()), ((), ())) := by
  obtain ⟨h0, h1⟩ := h
  have h0 : a.length ≤ 1048576 := h0
  unfold laws_toTokS
  have hm : 0 ≤ (a.length : Int) ∧ (a.length : Int) ≤ (a.length : Int) ∧ (a.length : Int) * 16 ≤ maxBytes := by simp [maxBytes]; omega
  simp only [br_dec, if_pos hm, Int.toNat_natCast]
  generalize hz : (Kd.z (.cons (.int .i64) (.cons (.int .i64) .nil)) : (Int × Int × Unit)) = z
  exact to_loop (b := laws_toTokS.l0 k) (fun i out => (a, out, (i : Int), ())) a z (fun G i hi out ho hg => by
    have h2 : ((i : Int) < (a.length : Int)) := by omega
    have h3 : (0 : Int) ≤ (i : Int) := by omega
    have h4 : 0 ≤ (i : Int) ∧ (i : Int) < (out.length : Int) := by omega
    simp only [laws_toTokS.l0, br_dec, if_pos h2, if_pos h3, if_pos h4, Int.toNat_natCast, List.getElem?_eq_getElem hi, hg, bd_some, toTok_is k hk a[i] (h1 _ (List.getElem_mem hi))]
    rw [wrap_succ (by omega)]) (fun G out => by
    have h2 : ¬ ((a.length : Int) < (a.length : Int)) := by omega
    simp only [laws_toTokS.l0, br_dec, if_neg h2]) (by omega)

theorem toLine_is (k : Nat) (hk : 1048576 < k) (a : (Int × Int × (List (Int × Int × Unit)) × (List (Int × Int × Unit)) × Int × Int × Unit)) (h : Kd.Small (.cons (.int .i64) (.cons (.int .i64) (.cons (.sl false (.cons (.int .i64) (.cons (.int .i64) .nil))) (.cons (.sl false (.cons (.int .i64) (.cons (.int .i64) .nil))) (.cons (.int .i64) (.cons (.int .i64) .nil)))))) a) : laws_toLine k (a, ()) = some ((a, ()), ((), ())) := by
  obtain ⟨h0, h1, h2, h3, h4, h5, _⟩ := h
  unfold laws_toLine
  simp only [toTokS_is k hk a.2.2.1 h2, toTokS_is k hk a.2.2.2.1 h3, bd_some]

theorem toLineS_is (k : Nat) (hk : 1048576 < k) (a : (List (Int × Int × (List (Int × Int × Unit)) × (List (Int × Int × Unit)) × Int × Int × Unit))) (h : Kd.Small (.sl false (.cons (.int .i64) (.cons (.int .i64) (.cons (.sl false (.cons (.int .i64) (.cons (.int .i64) .nil))) (.cons (.sl false (.cons (.int .i64) (.cons (.int .i64) .nil))) (.cons (.int .i64) (.cons (.int .i64) .nil))))))) a) : laws_toLineS k (a, ()) = some ((a, ()), ((), ())) := by
  obtain ⟨h0, h1⟩ := h
  have h0 : a.length ≤ 1048576 := h0
  unfold laws_toLineS
  have hm : 0 ≤ (a.length : Int) ∧ (a.length : Int) ≤ (a.length : Int) ∧ (a.length : Int) * 80 ≤ maxBytes := by simp [maxBytes]; omega
  simp only [br_dec, if_pos hm, Int.toNat_natCast]
  generalize hz : (Kd.z (.cons (.int .i64) (.cons (.int .i64) (.cons (.sl false (.cons (.int .i64) (.cons (.int .i64) .nil))) (.cons (.sl false (.cons (.int .i64) (.cons (.int .i64) .nil))) (.cons (.int .i64) (.cons (.int .i64) .nil)))))) : (Int × Int × (List (Int × Int × Unit)) × (List (Int × Int × Unit)) × Int × Int × Unit)) = z
  exact to_loop (b := laws_toLineS.l0 k) (fun i out => (a, out, (i : Int), ())) a z (fun G i hi out ho hg => by
    have h2 : ((i : Int) < (a.length : Int)) := by omega
    have h3 : (0 : Int) ≤ (i : Int) := by omega
    have h4 : 0 ≤ (i : Int) ∧ (i : Int) < (out.length : Int) := by omega
    simp only [laws_toLineS.l0, br_dec, if_pos h2, if_pos h3, if_pos h4, Int.toNat_natCast, List.getElem?_eq_getElem hi, hg, bd_some, toLine_is k hk a[i] (h1 _ (List.getElem_mem hi))]
    rw [wrap_succ (by omega)]) (fun G out => by
    have h2 : ¬ ((a.length : Int) < (a.length : Int)) := by omega
    simp only [laws_toLineS.l0, br_dec, if_neg h2]) (by omega)

theorem toProg_is (k : Nat) (hk : 1048576 < k) (a : ((List (List UInt8)) × (List (List UInt8)) × (List ((List UInt8) × Int × Unit)) × (List (Int × Int × (List (Int × Int × Unit)) × (List (Int × Int × Unit)) × Int × Int × Unit)) × Unit)) (h : Kd.Small (.cons (.sl false .str) (.cons (.sl false .str) (.cons (.sl false (.cons .str (.cons (.int .i64) .nil))) (.cons (.sl false (.cons (.int .i64) (.cons (.int .i64) (.cons (.sl false (.cons (.int .i64) (.cons (.int .i64) .nil))) (.cons (.sl false (.cons (.int .i64) (.cons (.int .i64) .nil))) (.cons (.int .i64) (.cons (.int .i64) .nil))))))) .nil)))) a) : laws_toProg k (a, ()) = some ((a, ()), ((), ())) := by
  obtain ⟨h0, h1, h2, h3, _⟩ := h
  unfold laws_toProg
  simp only [toDecl_is k hk (a.1, a.2.1, a.2.2.1, ()) ⟨h0, h1, h2, trivial⟩, toLineS_is k hk a.2.2.2.1 h3, bd_some]

theorem toEntry_is (k : Nat) (hk : 1048576 < k) (a : (Int × Int × Unit)) (h : Kd.Small (.cons (.int .i64) (.cons (.int .i64) .nil)) a) : laws_toEntry k (a, ()) = some ((a, ()), ((), ())) := by
  rfl

theorem toEntryS_is (k : Nat) (hk : 1048576 < k) (a : (List (Int × Int × Unit))) (h : Kd.Small (.sl false (.cons (.int .i64) (.cons (.int .i64) .nil))) a) : laws_toEntryS k (a, ()) = some ((a, ()), ((), ())) := by
  obtain ⟨h0, h1⟩ := h
  have h0 : a.length ≤ 1048576 := h0
  unfold laws_toEntryS
  have hm : 0 ≤ (a.length : Int) ∧ (a.length : Int) ≤ (a.length : Int) ∧ (a.length : Int) * 16 ≤ maxBytes := by simp [maxBytes]; omega
  simp only [br_dec, if_pos hm, Int.toNat_natCast]
  generalize hz : (Kd.z (.cons (.int .i64) (.cons (.int .i64) .nil)) : (Int × Int × Unit)) = z
  exact to_loop (b := laws_toEntryS.l0 k) (fun i out => (a, out, (i : Int), ())) a z (fun G i hi out ho hg => by
    have h2 : ((i : Int) < (a.length : Int)) := by omega
    have h3 : (0 : Int) ≤ (i : Int) := by omega
    have h4 : 0 ≤ (i : Int) ∧ (i : Int) < (out.length : Int) := by omega
    simp only [laws_toEntryS.l0, br_dec, if_pos h2, if_pos h3, if_pos h4, Int.toNat_natCast, List.getElem?_eq_getElem hi, hg, bd_some, toEntry_is k hk a[i] (h1 _ (List.getElem_mem hi))]
    rw [wrap_succ (by omega)]) (fun G out => by
    have h2 : ¬ ((a.length : Int) < (a.length : Int)) := by omega
    simp only [laws_toEntryS.l0, br_dec, if_neg h2]) (by omega)

theorem toInterval_is (k : Nat) (hk : 1048576 < k) (a : (Int × Int × Unit)) (h : Kd.Small (.cons (.int .i64) (.cons (.int .i64) .nil)) a) : laws_toInterval k (a, ()) = some ((a, ()), ((), ())) := by
  rfl

theorem toIntervalS_is (k : Nat) (hk : 1048576 < k) (a : (List (Int × Int × Unit))) (h : Kd.Small (.sl false (.cons (.int .i64) (.cons (.int .i64) .nil))) a) : laws_toIntervalS k (a, ()) = some ((a, ()), ((), ())) := by
  obtain ⟨h0, h1⟩ := h
  have h0 : a.length ≤ 1048576 := h0
  unfold laws_toIntervalS
  have hm : 0 ≤ (a.length : Int) ∧ (a.length : Int) ≤ (a.length : Int) ∧ (a.length : Int) * 16 ≤ maxBytes := by simp [maxBytes]; omega
  simp only [br_dec, if_pos hm, Int.toNat_natCast]
  generalize hz : (Kd.z (.cons (.int .i64) (.cons (.int .i64) .nil)) : (Int × Int × Unit)) = z
  exact to_loop (b := laws_toIntervalS.l0 k) (fun i out => (a, out, (i : Int), ())) a z (fun G i hi out ho hg => by
    have h2 : ((i : Int) < (a.length : Int)) := by omega
    have h3 : (0 : Int) ≤ (i : Int) := by omega
    have h4 : 0 ≤ (i : Int) ∧ (i : Int) < (out.length : Int) := by omega
    simp only [laws_toIntervalS.l0, br_dec, if_pos h2, if_pos h3, if_pos h4, Int.toNat_natCast, List.getElem?_eq_getElem hi, hg, bd_some, toInterval_is k hk a[i] (h1 _ (List.getElem_mem hi))]
    rw [wrap_succ (by omega)]) (fun G out => by
    have h2 : ¬ ((a.length : Int) < (a.length : Int)) := by omega
    simp only [laws_toIntervalS.l0, br_dec, if_neg h2]) (by omega)

theorem toEnv_is (k : Nat) (hk : 1048576 < k) (a : (Bool × (List (Int × Int × Unit)) × (List (Int × Int × Unit)) × Unit)) (h : Kd.Small (.cons .bool (.cons (.sl false (.cons (.int .i64) (.cons (.int .i64) .nil))) (.cons (.sl false (.cons (.int .i64) (.cons (.int .i64) .nil))) .nil))) a) : laws_toEnv k (a, ()) = some ((a, ()), ((), ())) := by
  obtain ⟨h0, h1, h2, _⟩ := h
  unfold laws_toEnv
  simp only [toIntervalS_is k hk a.2.1 h1, toIntervalS_is k hk a.2.2.1 h2, bd_some]

theorem toEnvS_is (k : Nat) (hk : 1048576 < k) (a : (List (Bool × (List (Int × Int × Unit)) × (List (Int × Int × Unit)) × Unit))) (h : Kd.Small (.sl false (.cons .bool (.cons (.sl false (.cons (.int .i64) (.cons (.int .i64) .nil))) (.cons (.sl false (.cons (.int .i64) (.cons (.int .i64) .nil))) .nil)))) a) : laws_toEnvS k (a, ()) = some ((a, ()), ((), ())) := by
  obtain ⟨h0, h1⟩ := h
  have h0 : a.length ≤ 1048576 := h0
  unfold laws_toEnvS
  have hm : 0 ≤ (a.length : Int) ∧ (a.length : Int) ≤ (a.length : Int) ∧ (a.length : Int) * 56 ≤ maxBytes := by simp [maxBytes]; omega
  simp only [br_dec, if_pos hm, Int.toNat_natCast]
  generalize hz : (Kd.z (.cons .bool (.cons (.sl false (.cons (.int .i64) (.cons (.int .i64) .nil))) (.cons (.sl false (.cons (.int .i64) (.cons (.int .i64) .nil))) .nil))) : (Bool × (List (Int × Int × Unit)) × (List (Int × Int × Unit)) × Unit)) = z
  exact to_loop (b := laws_toEnvS.l0 k) (fun i out => (a, out, (i : Int), ())) a z (fun G i hi out ho hg => by
    have h2 : ((i : Int) < (a.length : Int)) := by omega
    have h3 : (0 : Int) ≤ (i : Int) := by omega
    have h4 : 0 ≤ (i : Int) ∧ (i : Int) < (out.length : Int) := by omega
    simp only [laws_toEnvS.l0, br_dec, if_pos h2, if_pos h3, if_pos h4, Int.toNat_natCast, List.getElem?_eq_getElem hi, hg, bd_some, toEnv_is k hk a[i] (h1 _ (List.getElem_mem hi))]
    rw [wrap_succ (by omega)]) (fun G out => by
    have h2 : ¬ ((a.length : Int) < (a.length : Int)) := by omega
    simp only [laws_toEnvS.l0, br_dec, if_neg h2]) (by omega)

theorem toPart_is (k : Nat) (hk : 1048576 < k) (a : ((List (Int × Int × Unit)) × (List (Bool × (List (Int × Int × Unit)) × (List (Int × Int × Unit)) × Unit)) × Unit)) (h : Kd.Small (.cons (.sl false (.cons (.int .i64) (.cons (.int .i64) .nil))) (.cons (.sl false (.cons .bool (.cons (.sl false (.cons (.int .i64) (.cons (.int .i64) .nil))) (.cons (.sl false (.cons (.int .i64) (.cons (.int .i64) .nil))) .nil)))) .nil)) a) : laws_toPart k (a, ()) = some ((a, ()), ((), ())) := by
  obtain ⟨h0, h1, _⟩ := h
  unfold laws_toPart
  simp only [toEntryS_is k hk a.1 h0, toEnvS_is k hk a.2.1 h1, bd_some]

theorem toPartS_is (k : Nat) (hk : 1048576 < k) (a : (List ((List (Int × Int × Unit)) × (List (Bool × (List (Int × Int × Unit)) × (List (Int × Int × Unit)) × Unit)) × Unit))) (h : Kd.Small (.sl false (.cons (.sl false (.cons (.int .i64) (.cons (.int .i64) .nil))) (.cons (.sl false (.cons .bool (.cons (.sl false (.cons (.int .i64) (.cons (.int .i64) .nil))) (.cons (.sl false (.cons (.int .i64) (.cons (.int .i64) .nil))) .nil)))) .nil))) a) : laws_toPartS k (a, ()) = some ((a, ()), ((), ())) := by
  obtain ⟨h0, h1⟩ := h
  have h0 : a.length ≤ 1048576 := h0
  unfold laws_toPartS
  have hm : 0 ≤ (a.length : Int) ∧ (a.length : Int) ≤ (a.length : Int) ∧ (a.length : Int) * 48 ≤ maxBytes := by simp [maxBytes]; omega
  simp only [br_dec, if_pos hm, Int.toNat_natCast]
  generalize hz : (Kd.z (.cons (.sl false (.cons (.int .i64) (.cons (.int .i64) .nil))) (.cons (.sl false (.cons .bool (.cons (.sl false (.cons (.int .i64) (.cons (.int .i64) .nil))) (.cons (.sl false (.cons (.int .i64) (.cons (.int .i64) .nil))) .nil)))) .nil)) : ((List (Int × Int × Unit)) × (List (Bool × (List (Int × Int × Unit)) × (List (Int × Int × Unit)) × Unit)) × Unit)) = z
  exact to_loop (b := laws_toPartS.l0 k) (fun i out => (a, out, (i : Int), ())) a z (fun G i hi out ho hg => by
    have h2 : ((i : Int) < (a.length : Int)) := by omega
    have h3 : (0 : Int) ≤ (i : Int) := by omega
    have h4 : 0 ≤ (i : Int) ∧ (i : Int) < (out.length : Int) := by omega
    simp only [laws_toPartS.l0, br_dec, if_pos h2, if_pos h3, if_pos h4, Int.toNat_natCast, List.getElem?_eq_getElem hi, hg, bd_some, toPart_is k hk a[i] (h1 _ (List.getElem_mem hi))]
    rw [wrap_succ (by omega)]) (fun G out => by
    have h2 : ¬ ((a.length : Int) < (a.length : Int)) := by omega
    simp only [laws_toPartS.l0, br_dec, if_neg h2]) (by omega)

theorem toRow_is (k : Nat) (hk : 1048576 < k) (a : ((List ((List (Int × Int × Unit)) × (List (Bool × (List (Int × Int × Unit)) × (List (Int × Int × Unit)) × Unit)) × Unit)) × Unit)) (h : Kd.Small (.cons (.sl false (.cons (.sl false (.cons (.int .i64) (.cons (.int .i64) .nil))) (.cons (.sl false (.cons .bool (.cons (.sl false (.cons (.int .i64) (.cons (.int .i64) .nil))) (.cons (.sl false (.cons (.int .i64) (.cons (.int .i64) .nil))) .nil)))) .nil))) .nil) a) : laws_toRow k (a, ()) = some ((a, ()), ((), ())) := by
  obtain ⟨h0, _⟩ := h
  unfold laws_toRow
  simp only [toPartS_is k hk a.1 h0, bd_some]

theorem toRowS_is (k : Nat) (hk : 1048576 < k) (a : (List ((List ((List (Int × Int × Unit)) × (List (Bool × (List (Int × Int × Unit)) × (List (Int × Int × Unit)) × Unit)) × Unit)) × Unit))) (h : Kd.Small (.sl false (.cons (.sl false (.cons (.sl false (.cons (.int .i64) (.cons (.int .i64) .nil))) (.cons (.sl false (.cons .bool (.cons (.sl false (.cons (.int .i64) (.cons (.int .i64) .nil))) (.cons (.sl false (.cons (.int .i64) (.cons (.int .i64) .nil))) .nil)))) .nil))) .nil)) a) : laws_toRowS k (a, ()) = some ((a, ()), ((), ())) := by
  obtain ⟨h0, h1⟩ := h
  have h0 : a.length ≤ 1048576 := h0
  unfold laws_toRowS
  have hm : 0 ≤ (a.length : Int) ∧ (a.length : Int) ≤ (a.length : Int) ∧ (a.length : Int) * 24 ≤ maxBytes := by simp [maxBytes]; omega
  simp only [br_dec, if_pos hm, Int.toNat_natCast]
  generalize hz : (Kd.z (.cons (.sl false (.cons (.sl false (.cons (.int .i64) (.cons (.int .i64) .nil))) (.cons (.sl false (.cons .bool (.cons (.sl false (.cons (.int .i64) (.cons (.int .i64) .nil))) (.cons (.sl false (.cons (.int .i64) (.cons (.int .i64) .nil))) .nil)))) .nil))) .nil) : ((List ((List (Int × Int × Unit)) × (List (Bool × (List (Int × Int × Unit)) × (List (Int × Int × Unit)) × Unit)) × Unit)) × Unit)) = z
  exact to_loop (b := laws_toRowS.l0 k) (fun i out => (a, out, (i : Int), ())) a z (fun G i hi out ho hg => by
    have h2 : ((i : Int) < (a.length : Int)) := by omega
    have h3 : (0 : Int) ≤ (i : Int) := by omega
    have h4 : 0 ≤ (i : Int) ∧ (i : Int) < (out.length : Int) := by omega
    simp only [laws_toRowS.l0, br_dec, if_pos h2, if_pos h3, if_pos h4, Int.toNat_natCast, List.getElem?_eq_getElem hi, hg, bd_some, toRow_is k hk a[i] (h1 _ (List.getElem_mem hi))]
    rw [wrap_succ (by omega)]) (fun G out => by
    have h2 : ¬ ((a.length : Int) < (a.length : Int)) := by omega
    simp only [laws_toRowS.l0, br_dec, if_neg h2]) (by omega)

theorem toInt64S_is (k : Nat) (hk : 1048576 < k) (a : (List Int)) (h : Kd.Small (.sl false (.int .i64)) a) : laws_toInt64S k (a, ()) = some ((a, ()), ((), ())) := by
  obtain ⟨h0, h1⟩ := h
  have h0 : a.length ≤ 1048576 := h0
  unfold laws_toInt64S
  have hm : 0 ≤ (a.length : Int) ∧ (a.length : Int) ≤ (a.length : Int) ∧ (a.length : Int) * 8 ≤ maxBytes := by simp [maxBytes]; omega
  simp only [br_dec, if_pos hm, Int.toNat_natCast]
  generalize hz : (Kd.z (.int .i64) : Int) = z
  exact to_loop (b := laws_toInt64S.l0 k) (fun i out => (a, out, (i : Int), ())) a z (fun G i hi out ho hg => by
    have h2 : ((i : Int) < (a.length : Int)) := by omega
    have h3 : (0 : Int) ≤ (i : Int) := by omega
    have h4 : 0 ≤ (i : Int) ∧ (i : Int) < (out.length : Int) := by omega
    simp only [laws_toInt64S.l0, br_dec, if_pos h2, if_pos h3, if_pos h4, Int.toNat_natCast, List.getElem?_eq_getElem hi, hg, bd_some]
    rw [wrap_succ (by omega)]) (fun G out => by
    have h2 : ¬ ((a.length : Int) < (a.length : Int)) := by omega
    simp only [laws_toInt64S.l0, br_dec, if_neg h2]) (by omega)

theorem toBoolS_is (k : Nat) (hk : 1048576 < k) (a : (List Bool)) (h : Kd.Small (.sl false .bool) a) : laws_toBoolS k (a, ()) = some ((a, ()), ((), ())) := by
  obtain ⟨h0, h1⟩ := h
  have h0 : a.length ≤ 1048576 := h0
  unfold laws_toBoolS
  have hm : 0 ≤ (a.length : Int) ∧ (a.length : Int) ≤ (a.length : Int) ∧ (a.length : Int) * 1 ≤ maxBytes := by simp [maxBytes]; omega
  simp only [br_dec, if_pos hm, Int.toNat_natCast]
  generalize hz : (Kd.z .bool : Bool) = z
  exact to_loop (b := laws_toBoolS.l0 k) (fun i out => (a, out, (i : Int), ())) a z (fun G i hi out ho hg => by
    have h2 : ((i : Int) < (a.length : Int)) := by omega
    have h3 : (0 : Int) ≤ (i : Int) := by omega
    have h4 : 0 ≤ (i : Int) ∧ (i : Int) < (out.length : Int) := by omega
    simp only [laws_toBoolS.l0, br_dec, if_pos h2, if_pos h3, if_pos h4, Int.toNat_natCast, List.getElem?_eq_getElem hi, hg, bd_some]
    rw [wrap_succ (by omega)]) (fun G out => by
    have h2 : ¬ ((a.length : Int) < (a.length : Int)) := by omega
    simp only [laws_toBoolS.l0, br_dec, if_neg h2]) (by omega)

theorem toInt64SS_is (k : Nat) (hk : 1048576 < k) (a : (List (List Int))) (h : Kd.Small (.sl false (.sl false (.int .i64))) a) : laws_toInt64SS k (a, ()) = some ((a, ()), ((), ())) := by
  obtain ⟨h0, h1⟩ := h
  have h0 : a.length ≤ 1048576 := h0
  unfold laws_toInt64SS
  have hm : 0 ≤ (a.length : Int) ∧ (a.length : Int) ≤ (a.length : Int) ∧ (a.length : Int) * 24 ≤ maxBytes := by simp [maxBytes]; omega
  simp only [br_dec, if_pos hm, Int.toNat_natCast]
  generalize hz : (Kd.z (.sl false (.int .i64)) : (List Int)) = z
  exact to_loop (b := laws_toInt64SS.l0 k) (fun i out => (a, out, (i : Int), ())) a z (fun G i hi out ho hg => by
    have h2 : ((i : Int) < (a.length : Int)) := by omega
    have h3 : (0 : Int) ≤ (i : Int) := by omega
    have h4 : 0 ≤ (i : Int) ∧ (i : Int) < (out.length : Int) := by omega
    simp only [laws_toInt64SS.l0, br_dec, if_pos h2, if_pos h3, if_pos h4, Int.toNat_natCast, List.getElem?_eq_getElem hi, hg, bd_some, toInt64S_is k hk a[i] (h1 _ (List.getElem_mem hi))]
    rw [wrap_succ (by omega)]) (fun G out => by
    have h2 : ¬ ((a.length : Int) < (a.length : Int)) := by omega
    simp only [laws_toInt64SS.l0, br_dec, if_neg h2]) (by omega)

theorem toStore_is (k : Nat) (hk : 1048576 < k) (a : ((List Int) × (List Bool) × (List (List Int)) × Unit)) (h : Kd.Small (.cons (.sl false (.int .i64)) (.cons (.sl false .bool) (.cons (.sl false (.sl false (.int .i64))) .nil))) a) : laws_toStore k (a, ()) = some ((a, ()), ((), ())) := by
  obtain ⟨h0, h1, h2, _⟩ := h
  unfold laws_toStore
  simp only [toInt64S_is k hk a.1 h0, toBoolS_is k hk a.2.1 h1, toInt64SS_is k hk a.2.2.1 h2, bd_some]

theorem toSnap_is (k : Nat) (hk : 1048576 < k) (a : (Int × (List (Int × Int × Unit)) × (List Int) × (List Bool) × (List (List Int)) × Unit)) (h : Kd.Small (.cons (.int .i64) (.cons (.sl false (.cons (.int .i64) (.cons (.int .i64) .nil))) (.cons (.sl false (.int .i64)) (.cons (.sl false .bool) (.cons (.sl false (.sl false (.int .i64))) .nil))))) a) : laws_toSnap k (a, ()) = some ((a, ()), ((), ())) := by
  obtain ⟨h0, h1, h2, h3, h4, _⟩ := h
  unfold laws_toSnap
  simp only [toEntryS_is k hk a.2.1 h1, toStore_is k hk (a.2.2.1, a.2.2.2.1, a.2.2.2.2.1, ()) ⟨h2, h3, h4, trivial⟩, bd_some]

theorem eqStringS_is (k : Nat) (hk : 1048576 < k) (a : (List (List UInt8))) (h : Kd.Small (.sl false .str) a) : laws_eqStringS k (a, a, ()) = some ((true, ()), ((), (), ())) := by
  obtain ⟨h0, h1⟩ := h
  have h0 : a.length ≤ 1048576 := h0
  unfold laws_eqStringS
  have hb : ((a.length : Int) != (a.length : Int)) = false := by simp
  simp only [hb, br_false]
  exact iter_for (b := laws_eqStringS.l0 k) (fun i => (a, a, (i : Int), ())) a.length (fun G i hi => by
    have h2 : ((i : Int) < (a.length : Int)) := by omega
    have h3 : (0 : Int) ≤ (i : Int) := by omega
    simp only [laws_eqStringS.l0, br_dec, if_pos h2, if_pos h3, Int.toNat_natCast, List.getElem?_eq_getElem hi, bd_some, bne_self_eq_false, BEq.rfl, Bool.not_true, br_false]
    rw [wrap_succ (by omega)]) (fun G => by
    have h2 : ¬ ((a.length : Int) < (a.length : Int)) := by omega
    simp only [laws_eqStringS.l0, br_dec, if_neg h2]) (by omega)

theorem eqArr_is (k : Nat) (hk : 1048576 < k) (a : ((List UInt8) × Int × Unit)) (h : Kd.Small (.cons .str (.cons (.int .i64) .nil)) a) : laws_eqArr k (a, a, ()) = some ((true, ()), ((), (), ())) := by
  obtain ⟨h0, h1, _⟩ := h
  unfold laws_eqArr
  simp only [bd_some, bne_self_eq_false, BEq.rfl, Bool.not_true, br_false]

theorem eqArrS_is (k : Nat) (hk : 1048576 < k) (a : (List ((List UInt8) × Int × Unit))) (h : Kd.Small (.sl false (.cons .str (.cons (.int .i64) .nil))) a) : laws_eqArrS k (a, a, ()) = some ((true, ()), ((), (), ())) := by
  obtain ⟨h0, h1⟩ := h
  have h0 : a.length ≤ 1048576 := h0
  unfold laws_eqArrS
  have hb : ((a.length : Int) != (a.length : Int)) = false := by simp
  simp only [hb, br_false]
  exact iter_for (b := laws_eqArrS.l0 k) (fun i => (a, a, (i : Int), ())) a.length (fun G i hi => by
    have h2 : ((i : Int) < (a.length : Int)) := by omega
    have h3 : (0 : Int) ≤ (i : Int) := by omega
    simp only [laws_eqArrS.l0, br_dec, if_pos h2, if_pos h3, Int.toNat_natCast, List.getElem?_eq_getElem hi, bd_some, bne_self_eq_false, BEq.rfl, Bool.not_true, br_false, eqArr_is k hk a[i] (h1 _ (List.getElem_mem hi))]
    rw [wrap_succ (by omega)]) (fun G => by
    have h2 : ¬ ((a.length : Int) < (a.length : Int)) := by omega
    simp only [laws_eqArrS.l0, br_dec, if_neg h2]) (by omega)

theorem eqDecl_is (k : Nat) (hk : 1048576 < k) (a : ((List (List UInt8)) × (List (List UInt8)) × (List ((List UInt8) × Int × Unit)) × Unit)) (h : Kd.Small (.cons (.sl false .str) (.cons (.sl false .str) (.cons (.sl false (.cons .str (.cons (.int .i64) .nil))) .nil))) a) : laws_eqDecl k (a, a, ()) = some ((true, ()), ((), (), ())) := by
  obtain ⟨h0, h1, h2, _⟩ := h
  unfold laws_eqDecl
  simp only [eqStringS_is k hk a.1 h0, eqStringS_is k hk a.2.1 h1, eqArrS_is k hk a.2.2.1 h2, bd_some, bne_self_eq_false, BEq.rfl, Bool.not_true, br_false]

theorem eqTok_is (k : Nat) (hk : 1048576 < k) (a : (Int × Int × Unit)) (h : Kd.Small (.cons (.int .i64) (.cons (.int .i64) .nil)) a) : laws_eqTok k (a, a, ()) = some ((true, ()), ((), (), ())) := by
  obtain ⟨h0, h1, _⟩ := h
  unfold laws_eqTok
  simp only [bd_some, bne_self_eq_false, BEq.rfl, Bool.not_true, br_false]

theorem eqTokS_is (k : Nat) (hk : 1048576 < k) (a : (List (Int × Int × Unit))) (h : Kd.Small (.sl false (.cons (.int .i64) (.cons (.int .i64) .nil))) a) : laws_eqTokS k (a, a, ()) = some ((true, ()), ((), (), ())) := by
  obtain ⟨h0, h1⟩ := h
  have h0 : a.length ≤ 1048576 := h0
  unfold laws_eqTokS
  have hb : ((a.length : Int) != (a.length : Int)) = false := by simp
  simp only [hb, br_false]
  exact iter_for (b := laws_eqTokS.l0 k) (fun i => (a, a, (i : Int), ())) a.length (fun G i hi => by
    have h2 : ((i : Int) < (a.length : Int)) := by omega
    have h3 : (0 : Int) ≤ (i : Int) := by omega
    simp only [laws_eqTokS.l0, br_dec, if_pos h2, if_pos h3, Int.toNat_natCast, List.getElem?_eq_getElem hi, bd_some, bne_self_eq_false, BEq.rfl, Bool.not_true, br_false, eqTok_is k hk a[i] (h1 _ (List.getElem_mem hi))]
    rw [wrap_succ (by omega)]) (fun G => by
    have h2 : ¬ ((a.length : Int) < (a.length : Int)) := by omega
    simp only [laws_eqTokS.l0, br_dec, if_neg h2]) (by omega)

theorem eqLine_is (k : Nat) (hk : 1048576 < k) (a : (Int × Int × (List (Int × Int × Unit)) × (List (Int × Int × Unit)) × Int × Int × Unit)) (h : Kd.Small (.cons (.int .i64) (.cons (.int .i64) (.cons (.sl false (.cons (.int .i64) (.cons (.int .i64) .nil))) (.cons (.sl false (.cons (.int .i64) (.cons (.int .i64) .nil))) (.cons (.int .i64) (.cons (.int .i64) .nil)))))) a) : laws_eqLine k (a, a, ()) = some ((true, ()), ((), (), ())) := by
  obtain ⟨h0, h1, h2, h3, h4, h5, _⟩ := h
  unfold laws_eqLine
  simp only [eqTokS_is k hk a.2.2.1 h2, eqTokS_is k hk a.2.2.2.1 h3, bd_some, bne_self_eq_false, BEq.rfl, Bool.not_true, br_false]

theorem eqLineS_is (k : Nat) (hk : 1048576 < k) (a : (List (Int × Int × (List (Int × Int × Unit)) × (List (Int × Int × Unit)) × Int × Int × Unit))) (h : Kd.Small (.sl false (.cons (.int .i64) (.cons (.int .i64) (.cons (.sl false (.cons (.int .i64) (.cons (.int .i64) .nil))) (.cons (.sl false (.cons (.int .i64) (.cons (.int .i64) .nil))) (.cons (.int .i64) (.cons (.int .i64) .nil))))))) a) : laws_eqLineS k (a, a, ()) = some ((true, ()), ((), (), ())) := by
  obtain ⟨h0, h1⟩ := h
  have h0 : a.length ≤ 1048576 := h0
  unfold laws_eqLineS
  have hb : ((a.length : Int) != (a.length : Int)) = false := by simp
  simp only [hb, br_false]
  exact iter_for (b := laws_eqLineS.l0 k) (fun i => (a, a, (i : Int), ())) a.length (fun G i hi => by
    have h2 : ((i : Int) < (a.length : Int)) := by omega
    have h3 : (0 : Int) ≤ (i : Int) := by omega
    simp only [laws_eqLineS.l0, br_dec, if_pos h2, if_pos h3, Int.toNat_natCast, List.getElem?_eq_getElem hi, bd_some, bne_self_eq_false, BEq.rfl, Bool.not_true, br_false, eqLine_is k hk a[i] (h1 _ (List.getElem_mem hi))]
    rw [wrap_succ (by omega)]) (fun G => by
    have h2 : ¬ ((a.length : Int) < (a.length : Int)) := by omega
    simp only [laws_eqLineS.l0, br_dec, if_neg h2]) (by omega)

theorem eqProg_is (k : Nat) (hk : 1048576 < k) (a : ((List (List UInt8)) × (List (List UInt8)) × (List ((List UInt8) × Int × Unit)) × (List (Int × Int × (List (Int × Int × Unit)) × (List (Int × Int × Unit)) × Int × Int × Unit)) × Unit)) (h : Kd.Small (.cons (.sl false .str) (.cons (.sl false .str) (.cons (.sl false (.cons .str (.cons (.int .i64) .nil))) (.cons (.sl false (.cons (.int .i64) (.cons (.int .i64) (.cons (.sl false (.cons (.int .i64) (.cons (.int .i64) .nil))) (.cons (.sl false (.cons (.int .i64) (.cons (.int .i64) .nil))) (.cons (.int .i64) (.cons (.int .i64) .nil))))))) .nil)))) a) : laws_eqProg k (a, a, ()) = some ((true, ()), ((), (), ())) := by
  obtain ⟨h0, h1, h2, h3, _⟩ := h
  unfold laws_eqProg
  simp only [eqDecl_is k hk (a.1, a.2.1, a.2.2.1, ()) ⟨h0, h1, h2, trivial⟩, eqLineS_is k hk a.2.2.2.1 h3, bd_some, bne_self_eq_false, BEq.rfl, Bool.not_true, br_false]

theorem eqEntry_is (k : Nat) (hk : 1048576 < k) (a : (Int × Int × Unit)) (h : Kd.Small (.cons (.int .i64) (.cons (.int .i64) .nil)) a) : laws_eqEntry k (a, a, ()) = some ((true, ()), ((), (), ())) := by
  obtain ⟨h0, h1, _⟩ := h
  unfold laws_eqEntry
  simp only [bd_some, bne_self_eq_false, BEq.rfl, Bool.not_true, br_false]

theorem eqEntryS_is (k : Nat) (hk : 1048576 < k) (a : (List (Int × Int × Unit))) (h : Kd.Small (.sl false (.cons (.int .i64) (.cons (.int .i64) .nil))) a) : laws_eqEntryS k (a, a, ()) = some ((true, ()), ((), (), ())) := by
  obtain ⟨h0, h1⟩ := h
  have h0 : a.length ≤ 1048576 := h0
  unfold laws_eqEntryS
  have hb : ((a.length : Int) != (a.length : Int)) = false := by simp
  simp only [hb, br_false]
  exact iter_for (b := laws_eqEntryS.l0 k) (fun i => (a, a, (i : Int), ())) a.length (fun G i hi => by
    have h2 : ((i : Int) < (a.length : Int)) := by omega
    have h3 : (0 : Int) ≤ (i : Int) := by omega
    simp only [laws_eqEntryS.l0, br_dec, if_pos h2, if_pos h3, Int.toNat_natCast, List.getElem?_eq_getElem hi, bd_some, bne_self_eq_false, BEq.rfl, Bool.not_true, br_false, eqEntry_is k hk a[i] (h1 _ (List.getElem_mem hi))]
    rw [wrap_succ (by omega)]) (fun G => by
    have h2 : ¬ ((a.length : Int) < (a.length : Int)) := by omega
    simp only [laws_eqEntryS.l0, br_dec, if_neg h2]) (by omega)

theorem eqInterval_is (k : Nat) (hk : 1048576 < k) (a : (Int × Int × Unit)) (h : Kd.Small (.cons (.int .i64) (.cons (.int .i64) .nil)) a) : laws_eqInterval k (a, a, ()) = some ((true, ()), ((), (), ())) := by
  obtain ⟨h0, h1, _⟩ := h
  unfold laws_eqInterval
  simp only [bd_some, bne_self_eq_false, BEq.rfl, Bool.not_true, br_false]

theorem eqIntervalS_is (k : Nat) (hk : 1048576 < k) (a : (List (Int × Int × Unit))) (h : Kd.Small (.sl false (.cons (.int .i64) (.cons (.int .i64) .nil))) a) : laws_eqIntervalS k (a, a, ()) = some ((true, ()), ((), (), ())) := by
  obtain ⟨h0, h1⟩ := h
  have h0 : a.length ≤ 1048576 := h0
  unfold laws_eqIntervalS
  have hb : ((a.length : Int) != (a.length : Int)) = false := by simp
  simp only [hb, br_false]
  exact iter_for (b := laws_eqIntervalS.l0 k) (fun i => (a, a, (i : Int), ())) a.length (fun G i hi => by
    have h2 : ((i : Int) < (a.length : Int)) := by omega
    have h3 : (0 : Int) ≤ (i : Int) := by omega
    simp only [laws_eqIntervalS.l0, br_dec, if_pos h2, if_pos h3, Int.toNat_natCast, List.getElem?_eq_getElem hi, bd_some, bne_self_eq_false, BEq.rfl, Bool.not_true, br_false, eqInterval_is k hk a[i] (h1 _ (List.getElem_mem hi))]
    rw [wrap_succ (by omega)]) (fun G => by
    have h2 : ¬ ((a.length : Int) < (a.length : Int)) := by omega
    simp only [laws_eqIntervalS.l0, br_dec, if_neg h2]) (by omega)

theorem eqEnv_is (k : Nat) (hk : 1048576 < k) (a : (Bool × (List (Int × Int × Unit)) × (List (Int × Int × Unit)) × Unit)) (h : Kd.Small (.cons .bool (.cons (.sl false (.cons (.int .i64) (.cons (.int .i64) .nil))) (.cons (.sl false (.cons (.int .i64) (.cons (.int .i64) .nil))) .nil))) a) : laws_eqEnv k (a, a, ()) = some ((true, ()), ((), (), ())) := by
  obtain ⟨h0, h1, h2, _⟩ := h
  unfold laws_eqEnv
  simp only [eqIntervalS_is k hk a.2.1 h1, eqIntervalS_is k hk a.2.2.1 h2, bd_some, bne_self_eq_false, BEq.rfl, Bool.not_true, br_false]

theorem eqEnvS_is (k : Nat) (hk : 1048576 < k) (a : (List (Bool × (List (Int × Int × Unit)) × (List (Int × Int × Unit)) × Unit))) (h : Kd.Small (.sl false (.cons .bool (.cons (.sl false (.cons (.int .i64) (.cons (.int .i64) .nil))) (.cons (.sl false (.cons (.int .i64) (.cons (.int .i64) .nil))) .nil)))) a) : laws_eqEnvS k (a, a, ()) = some ((true, ()), ((), (), ())) := by
  obtain ⟨h0, h1⟩ := h
  have h0 : a.length ≤ 1048576 := h0
  unfold laws_eqEnvS
  have hb : ((a.length : Int) != (a.length : Int)) = false := by simp
  simp only [hb, br_false]
  exact iter_for (b := laws_eqEnvS.l0 k) (fun i => (a, a, (i : Int), ())) a.length (fun G i hi => by
    have h2 : ((i : Int) < (a.length : Int)) := by omega
    have h3 : (0 : Int) ≤ (i : Int) := by omega
    simp only [laws_eqEnvS.l0, br_dec, if_pos h2, if_pos h3, Int.toNat_natCast, List.getElem?_eq_getElem hi, bd_some, bne_self_eq_false, BEq.rfl, Bool.not_true, br_false, eqEnv_is k hk a[i] (h1 _ (List.getElem_mem hi))]
    rw [wrap_succ (by omega)]) (fun G => by
    have h2 : ¬ ((a.length : Int) < (a.length : Int)) := by omega
    simp only [laws_eqEnvS.l0, br_dec, if_neg h2]) (by omega)

theorem eqPart_is (k : Nat) (hk : 1048576 < k) (a : ((List (Int × Int × Unit)) × (List (Bool × (List (Int × Int × Unit)) × (List (Int × Int × Unit)) × Unit)) × Unit)) (h : Kd.Small (.cons (.sl false (.cons (.int .i64) (.cons (.int .i64) .nil))) (.cons (.sl false (.cons .bool (.cons (.sl false (.cons (.int .i64) (.cons (.int .i64) .nil))) (.cons (.sl false (.cons (.int .i64) (.cons (.int .i64) .nil))) .nil)))) .nil)) a) : laws_eqPart k (a, a, ()) = some ((true, ()), ((), (), ())) := by
  obtain ⟨h0, h1, _⟩ := h
  unfold laws_eqPart
  simp only [eqEntryS_is k hk a.1 h0, eqEnvS_is k hk a.2.1 h1, bd_some, bne_self_eq_false, BEq.rfl, Bool.not_true, br_false]

theorem eqPartS_is (k : Nat) (hk : 1048576 < k) (a : (List ((List (Int × Int × Unit)) × (List (Bool × (List (Int × Int × Unit)) × (List (Int × Int × Unit)) × Unit)) × Unit))) (h : Kd.Small (.sl false (.cons (.sl false (.cons (.int .i64) (.cons (.int .i64) .nil))) (.cons (.sl false (.cons .bool (.cons (.sl false (.cons (.int .i64) (.cons (.int .i64) .nil))) (.cons (.sl false (.cons (.int .i64) (.cons (.int .i64) .nil))) .nil)))) .nil))) a) : laws_eqPartS k (a, a, ()) = some ((true, ()), ((), (), ())) := by
  obtain ⟨h0, h1⟩ := h
  have h0 : a.length ≤ 1048576 := h0
  unfold laws_eqPartS
  have hb : ((a.length : Int) != (a.length : Int)) = false := by simp
  simp only [hb, br_false]
  exact iter_for (b := laws_eqPartS.l0 k) (fun i => (a, a, (i : Int), ())) a.length (fun G i hi => by
    have h2 : ((i : Int) < (a.length : Int)) := by omega
    have h3 : (0 : Int) ≤ (i : Int) := by omega
    simp only [laws_eqPartS.l0, br_dec, if_pos h2, if_pos h3, Int.toNat_natCast, List.getElem?_eq_getElem hi, bd_some, bne_self_eq_false, BEq.rfl, Bool.not_true, br_false, eqPart_is k hk a[i] (h1 _ (List.getElem_mem hi))]
    rw [wrap_succ (by omega)]) (fun G => by
    have h2 : ¬ ((a.length : Int) < (a.length : Int)) := by omega
    simp only [laws_eqPartS.l0, br_dec, if_neg h2]) (by omega)

theorem eqRow_is (k : Nat) (hk : 1048576 < k) (a : ((List ((List (Int × Int × Unit)) × (List (Bool × (List (Int × Int × Unit)) × (List (Int × Int × Unit)) × Unit)) × Unit)) × Unit)) (h : Kd.Small (.cons (.sl false (.cons (.sl false (.cons (.int .i64) (.cons (.int .i64) .nil))) (.cons (.sl false (.cons .bool (.cons (.sl false (.cons (.int .i64) (.cons (.int .i64) .nil))) (.cons (.sl false (.cons (.int .i64) (.cons (.int .i64) .nil))) .nil)))) .nil))) .nil) a) : laws_eqRow k (a, a, ()) = some ((true, ()), ((), (), ())) := by
  obtain ⟨h0, _⟩ := h
  unfold laws_eqRow
  simp only [eqPartS_is k hk a.1 h0, bd_some, bne_self_eq_false, BEq.rfl, Bool.not_true, br_false]

theorem eqRowS_is (k : Nat) (hk : 1048576 < k) (a : (List ((List ((List (Int × Int × Unit)) × (List (Bool × (List (Int × Int × Unit)) × (List (Int × Int × Unit)) × Unit)) × Unit)) × Unit))) (h : Kd.Small (.sl false (.cons (.sl false (.cons (.sl false (.cons (.int .i64) (.cons (.int .i64) .nil))) (.cons (.sl false (.cons .bool (.cons (.sl false (.cons (.int .i64) (.cons (.int .i64) .nil))) (.cons (.sl false (.cons (.int .i64) (.cons (.int .i64) .nil))) .nil)))) .nil))) .nil)) a) : laws_eqRowS k (a, a, ()) = some ((true, ()), ((), (), ())) := by
  obtain ⟨h0, h1⟩ := h
  have h0 : a.length ≤ 1048576 := h0
  unfold laws_eqRowS
  have hb : ((a.length : Int) != (a.length : Int)) = false := by simp
  simp only [hb, br_false]
  exact iter_for (b := laws_eqRowS.l0 k) (fun i => (a, a, (i : Int), ())) a.length (fun G i hi => by
    have h2 : ((i : Int) < (a.length : Int)) := by omega
    have h3 : (0 : Int) ≤ (i : Int) := by omega
    simp only [laws_eqRowS.l0, br_dec, if_pos h2, if_pos h3, Int.toNat_natCast, List.getElem?_eq_getElem hi, bd_some, bne_self_eq_false, BEq.rfl, Bool.not_true, br_false, eqRow_is k hk a[i] (h1 _ (List.getElem_mem hi))]
    rw [wrap_succ (by omega)]) (fun G => by
    have h2 : ¬ ((a.length : Int) < (a.length : Int)) := by omega
    simp only [laws_eqRowS.l0, br_dec, if_neg h2]) (by omega)

theorem eqInt64S_is (k : Nat) (hk : 1048576 < k) (a : (List Int)) (h : Kd.Small (.sl false (.int .i64)) a) : laws_eqInt64S k (a, a, ()) = some ((true, ()), ((), (), ())) := by
  obtain ⟨h0, h1⟩ := h
  have h0 : a.length ≤ 1048576 := h0
  unfold laws_eqInt64S
  have hb : ((a.length : Int) != (a.length : Int)) = false := by simp
  simp only [hb, br_false]
  exact iter_for (b := laws_eqInt64S.l0 k) (fun i => (a, a, (i : Int), ())) a.length (fun G i hi => by
    have h2 : ((i : Int) < (a.length : Int)) := by omega
    have h3 : (0 : Int) ≤ (i : Int) := by omega
    simp only [laws_eqInt64S.l0, br_dec, if_pos h2, if_pos h3, Int.toNat_natCast, List.getElem?_eq_getElem hi, bd_some, bne_self_eq_false, BEq.rfl, Bool.not_true, br_false]
    rw [wrap_succ (by omega)]) (fun G => by
    have h2 : ¬ ((a.length : Int) < (a.length : Int)) := by omega
    simp only [laws_eqInt64S.l0, br_dec, if_neg h2]) (by omega)

theorem eqBoolS_is (k : Nat) (hk : 1048576 < k) (a : (List Bool)) (h : Kd.Small (.sl false .bool) a) : laws_eqBoolS k (a, a, ()) = some ((true, ()), ((), (), ())) := by
  obtain ⟨h0, h1⟩ := h
  have h0 : a.length ≤ 1048576 := h0
  unfold laws_eqBoolS
  have hb : ((a.length : Int) != (a.length : Int)) = false := by simp
  simp only [hb, br_false]
  exact iter_for (b := laws_eqBoolS.l0 k) (fun i => (a, a, (i : Int), ())) a.length (fun G i hi => by
    have h2 : ((i : Int) < (a.length : Int)) := by omega
    have h3 : (0 : Int) ≤ (i : Int) := by omega
    simp only [laws_eqBoolS.l0, br_dec, if_pos h2, if_pos h3, Int.toNat_natCast, List.getElem?_eq_getElem hi, bd_some, bne_self_eq_false, BEq.rfl, Bool.not_true, br_false]
    rw [wrap_succ (by omega)]) (fun G => by
    have h2 : ¬ ((a.length : Int) < (a.length : Int)) := by omega
    simp only [laws_eqBoolS.l0, br_dec, if_neg h2]) (by omega)

theorem eqInt64SS_is (k : Nat) (hk : 1048576 < k) (a : (List (List Int))) (h : Kd.Small (.sl false (.sl false (.int .i64))) a) : laws_eqInt64SS k (a, a, ()) = some ((true, ()), ((), (), ())) := by
  obtain ⟨h0, h1⟩ := h
  have h0 : a.length ≤ 1048576 := h0
  unfold laws_eqInt64SS
  have hb : ((a.length : Int) != (a.length : Int)) = false := by simp
  simp only [hb, br_false]
  exact iter_for (b := laws_eqInt64SS.l0 k) (fun i => (a, a, (i : Int), ())) a.length (fun G i hi => by
    have h2 : ((i : Int) < (a.length : Int)) := by omega
    have h3 : (0 : Int) ≤ (i : Int) := by omega
    simp only [laws_eqInt64SS.l0, br_dec, if_pos h2, if_pos h3, Int.toNat_natCast, List.getElem?_eq_getElem hi, bd_some, bne_self_eq_false, BEq.rfl, Bool.not_true, br_false, eqInt64S_is k hk a[i] (h1 _ (List.getElem_mem hi))]
    rw [wrap_succ (by omega)]) (fun G => by
    have h2 : ¬ ((a.length : Int) < (a.length : Int)) := by omega
    simp only [laws_eqInt64SS.l0, br_dec, if_neg h2]) (by omega)

theorem eqStore_is (k : Nat) (hk : 1048576 < k) (a : ((List Int) × (List Bool) × (List (List Int)) × Unit)) (h : Kd.Small (.cons (.sl false (.int .i64)) (.cons (.sl false .bool) (.cons (.sl false (.sl false (.int .i64))) .nil))) a) : laws_eqStore k (a, a, ()) = some ((true, ()), ((), (), ())) := by
  obtain ⟨h0, h1, h2, _⟩ := h
  unfold laws_eqStore
  simp only [eqInt64S_is k hk a.1 h0, eqBoolS_is k hk a.2.1 h1, eqInt64SS_is k hk a.2.2.1 h2, bd_some, bne_self_eq_false, BEq.rfl, Bool.not_true, br_false]

theorem eqSnap_is (k : Nat) (hk : 1048576 < k) (a : (Int × (List (Int × Int × Unit)) × (List Int) × (List Bool) × (List (List Int)) × Unit)) (h : Kd.Small (.cons (.int .i64) (.cons (.sl false (.cons (.int .i64) (.cons (.int .i64) .nil))) (.cons (.sl false (.int .i64)) (.cons (.sl false .bool) (.cons (.sl false (.sl false (.int .i64))) .nil))))) a) : laws_eqSnap k (a, a, ()) = some ((true, ()), ((), (), ())) := by
  obtain ⟨h0, h1, h2, h3, h4, _⟩ := h
  unfold laws_eqSnap
  simp only [eqEntryS_is k hk a.2.1 h1, eqStore_is k hk (a.2.2.1, a.2.2.2.1, a.2.2.2.2.1, ()) ⟨h2, h3, h4, trivial⟩, bd_some, bne_self_eq_false, BEq.rfl, Bool.not_true, br_false]

end Go.Pev.F.Cp
end

section
/-
  Whether rows have where a run is: the program's answer is the reference's.
-/
set_option linter.unusedVariables false
set_option linter.unusedSimpArgs false
namespace Go.Pev.F

/-- The bounds of a leaf have a store. -/
def leafHas (t : List EnvT) (s : StoreT) : Bool := envHas (t.getD (leafN s.2.1).toNat (false, [], [], ())) s
def partsHas (d : DeclT) (l : List PartT) (t : List EntT) (s : StoreT) : Bool :=
  partsOk d l && ((lensOk d s && rowsOk d s) && (match findP l t with | some p => leafHas p.2.1 s | none => false))

theorem partsOk_of {d : DeclT} {l : List PartT} (h : partsOk d l = true) : l.length ≤ 100 ∧ (∀ p ∈ l, tokenOk p.1 = true ∧ tableOk d p.2.1 = true ∧ tableLive p.2.1 = true) ∧ l.Pairwise fun p q => cmpT p.1 q.1 < 0 := by
  unfold partsOk at h
  simp only [Bool.and_eq_true, decide_eq_true_eq] at h
  refine ⟨h.1, fun p hp => ?_, (rise_all l none h.2.2).2⟩
  have := List.all_eq_true.1 h.2.1 p hp
  simpa only [partOkB, Bool.and_eq_true] using this

theorem tableOk_of {d : DeclT} {t : List EnvT} (h : tableOk d t = true) : (t.length : Int) = 2 ^ d.2.1.length ∧ ∀ e ∈ t, envFits d e = true := by
  unfold tableOk at h
  simp only [Bool.and_eq_true, decide_eq_true_eq] at h
  exact ⟨h.1, List.all_eq_true.1 h.2⟩

theorem envFits_lens {d : DeclT} {e : EnvT} (h : envFits d e = true) (hl : e.1 = true) : e.2.1.length = d.1.length ∧ e.2.2.1.length = d.2.2.1.length := by
  unfold envFits at h
  rw [hl] at h
  simp only [cond_true, Bool.and_eq_true, beq_iff_eq] at h
  omega

/-- A leaf of a right table, and what stands there. -/
theorem leaf_in {d : DeclT} {t : List EnvT} (ht : tableOk d t = true) {s : StoreT} (hs : lensOk d s = true) : ∃ h : (leafN s.2.1).toNat < t.length, 0 ≤ leafN s.2.1 ∧ leafHas t s = envHas t[(leafN s.2.1).toNat] s ∧ (t[(leafN s.2.1).toNat].1 = true → t[(leafN s.2.1).toNat].2.1.length = s.1.length ∧ t[(leafN s.2.1).toNat].2.2.1.length = s.2.2.1.length) := by
  obtain ⟨t1, t2⟩ := tableOk_of ht
  obtain ⟨l0, l1, l2⟩ := lens_of hs
  have hn := leafN_lt s.2.1
  rw [l1] at hn
  have hlt : (leafN s.2.1).toNat < t.length := by omega
  refine ⟨hlt, hn.1, by unfold leafHas; simp [List.getD, List.getElem?_eq_getElem hlt], fun hl => ?_⟩
  have := envFits_lens (t2 _ (List.getElem_mem hlt)) hl
  omega

theorem implPartsHas_is (k : Nat) (hk : 4194304 < k) (hk2 : k ≤ 4611686018427387903) (d : DeclT) (hd : DSmall d) (hdo : declOk d = true) (l : List PartT) (hl : LSmall l) (t : List EntT) (s : StoreT) (hs : SSmall s) :
    impl_PartsHas k (d, l, t, s, ()) = some ((partsHas d l t s, ()), ((), (), (), (), ())) := by
  have hf := (decl_flags hdo).2.1
  unfold impl_PartsHas impl_PartsOk partsHas
  simp only [implDeclOk_is k hk hk2 d hd, areParts_is k hk d hf l hl, hdo, bd_some, br_true, Option.bind_some]
  cases hp : partsOk d l with
  | false => simp
  | true =>
    obtain ⟨p1, p2, p3⟩ := partsOk_of hp
    obtain ⟨m, b, m1, m2, m3⟩ := partAt_is k hk l hl p3 t
    simp only [Bool.not_true, br_false, m1, bd_some, Bool.true_and, br_dec]
    cases b with
    | false => simp [m3 rfl]
    | true =>
      obtain ⟨hm, hfind⟩ := m2 rfl
      have h0 : (0 : Int) ≤ (m : Int) := by omega
      have hmem := List.getElem_mem hm
      obtain ⟨_, ht, _⟩ := p2 _ hmem
      have hTm := hl.m _ hmem
      have hTe := hl.e _ hmem
      rw [hfind]
      simp only [br_true, if_pos h0, Int.toNat_natCast, List.getElem?_eq_getElem hm, bd_some]
      unfold impl_TableHas impl_TableOk
      simp only [implDeclOk_is k hk hk2 d hd, isTable_is k hk d hf _ hTm hTe, hdo, ht, bd_some, br_true, Option.bind_some, isStore_is k hk d s hs]
      cases hst : (lensOk d s && rowsOk d s) with
      | false => simp
      | true =>
        have hlens : lensOk d s = true := by simp only [Bool.and_eq_true] at hst; exact hst.1
        obtain ⟨q1, q2, q3, q4⟩ := leaf_in ht hlens
        have hl3 : s.2.1.length ≤ 3 := by have := lens_of hlens; omega
        simp only [br_true, leafOf_is k hk _ hl3, bd_some, br_dec, if_pos q2, List.getElem?_eq_getElem q1, hasStore_is k hk _ (hTe _ (List.getElem_mem q1)) s hs q4, Option.bind_some, Bool.true_and, q3]

theorem specPartsHas_is (k : Nat) (hk : 4194304 < k) (hk2 : k ≤ 4611686018427387903) (d : DeclT) (hd : DSmall d) (hdo : declOk d = true) (l : List PartT) (hl : LSmall l) (t : List EntT) (s : StoreT) (hs : SSmall s) :
    spec_PartsHas k (d, l, t, s, ()) = some ((partsHas d l t s, ()), ((), (), (), (), ())) := by
  have hf := (decl_flags hdo).2.1
  unfold spec_PartsHas partsHas
  simp only [specPartsOk_is k hk d hd hdo l hl, specStoreOk_is k hk d hd s hs, specTokenOk_is k hk t, storeOk, hdo, bd_some, Bool.true_and]
  cases hp : partsOk d l with
  | false => simp
  | true =>
    obtain ⟨p1, p2, p3⟩ := partsOk_of hp
    simp only [Bool.not_true, br_false, Bool.true_and]
    cases hst : (lensOk d s && rowsOk d s) with
    | false => simp
    | true =>
      simp only [Bool.not_true, br_false, Option.bind_some, Bool.true_and]
      cases htt : tokenOk t with
      | false =>
        have : findP l t = none := by
          cases hfd : findP l t with
          | none => rfl
          | some p =>
            obtain ⟨h1, h2⟩ := findP_mem hfd
            have := (p2 p h1).1
            rw [h2, htt] at this
            cases this
        simp [this]
      | true =>
        simp only [Bool.not_true, br_false]
        rcases l9Find_is k hk l hl (fun p hp => (p2 p hp).1) p3 t htt with ⟨m, hm, e1, e2⟩ | ⟨e1, e2⟩
        · have h0 : (0 : Int) ≤ (m : Int) := by omega
          have h0' : (m : Int) ≥ 0 := by omega
          have hmem := List.getElem_mem hm
          obtain ⟨_, ht, _⟩ := p2 _ hmem
          have hTe := hl.e _ hmem
          have hlens : lensOk d s = true := by simp only [Bool.and_eq_true] at hst; exact hst.1
          obtain ⟨q1, q2, q3, q4⟩ := leaf_in ht hlens
          have hl3 : s.2.1.length ≤ 3 := by have := lens_of hlens; omega
          simp only [e1, e2, bd_some, br_dec, if_pos h0, if_pos h0', Int.toNat_natCast, List.getElem?_eq_getElem hm, l8Leaf_is k hk s hl3, if_pos q2, List.getElem?_eq_getElem q1, l6Has_is k hk _ (hTe _ (List.getElem_mem q1)) s hs q4, Option.bind_some, q3]
        · have h0' : ¬ ((-1 : Int) ≥ 0) := by decide
          simp only [e1, e2, bd_some, br_dec, if_neg h0', Option.bind_some]

abbrev RowT := List PartT × Unit
abbrev SnapT := Int × List EntT × List Int × List Bool × List (List Int) × Unit
def storeOf (s : SnapT) : StoreT := (s.2.2.1, s.2.2.2.1, s.2.2.2.2.1, ())
def covers (p : ProgT) (rows : List RowT) (s : SnapT) : Bool :=
  progOk p && (decide (0 ≤ s.1 ∧ s.1 ≤ (rows.length : Int) - 1) && partsHas (declOf p) (rows.getD s.1.toNat ([], ())).1 s.2.1 (storeOf s))

theorem progOk_decl {p : ProgT} (h : progOk p = true) : declOk (declOf p) = true := by
  unfold progOk at h
  simp only [Bool.and_eq_true] at h
  exact h.1

theorem specCovers_is (k : Nat) (hk : 4194304 < k) (hk2 : k ≤ 4611686018427387903) (p : ProgT) (hp : PSmall p) (rows : List RowT) (hn : rows.length ≤ 1048576) (hr : ∀ r ∈ rows, LSmall r.1) (s : SnapT) (hs : SSmall (storeOf s)) :
    spec_Covers k (p, rows, s, ()) = some ((covers p rows s, ()), ((), (), (), ())) := by
  unfold spec_Covers covers
  simp only [specProgOk_is k hk hk2 p hp, bd_some]
  cases hpo : progOk p with
  | false => simp
  | true =>
    simp only [br_true, Bool.true_and]
    rw [wrap_i64 (n := (rows.length : Int) - 1) (by omega) (by omega)]
    simp only [l1In_is, bd_some, br_dec]
    by_cases hc : 0 ≤ s.1 ∧ s.1 ≤ (rows.length : Int) - 1
    · have hi : s.1.toNat < rows.length := by omega
      have g : rows.getD s.1.toNat ([], ()) = rows[s.1.toNat] := by simp [List.getD, List.getElem?_eq_getElem hi]
      have e : spec_PartsHas k ((p.1, p.2.1, p.2.2.1, ()), rows[s.1.toNat].1, s.2.1, (s.2.2.1, s.2.2.2.1, s.2.2.2.2.1, ()), ()) = some ((partsHas (declOf p) rows[s.1.toNat].1 s.2.1 (storeOf s), ()), ((), (), (), (), ())) :=
        specPartsHas_is k hk hk2 (declOf p) hp.d (progOk_decl hpo) _ (hr _ (List.getElem_mem hi)) s.2.1 (storeOf s) hs
      simp only [if_pos hc, if_pos hc.1, List.getElem?_eq_getElem hi, bd_some, e, Option.bind_some, decide_eq_true hc, Bool.true_and, g]
    · simp only [if_neg hc, decide_eq_false hc, Bool.false_and, Option.bind_some]

theorem implCovers_is (k : Nat) (hk : 4194304 < k) (hk2 : k ≤ 4611686018427387903) (p : ProgT) (hp : PSmall p) (rows : List RowT) (hn : rows.length ≤ 1048576) (hr : ∀ r ∈ rows, LSmall r.1) (s : SnapT) (hs : SSmall (storeOf s)) :
    impl_Covers k (p, rows, s, ()) = some ((covers p rows s, ()), ((), (), (), ())) := by
  unfold impl_Covers covers
  simp only [implProgOk_is k hk hk2 p hp, bd_some]
  cases hpo : progOk p with
  | false => simp
  | true =>
    simp only [br_true, Bool.true_and, impl_size_impl_Row, bd_some]
    rw [wrap_i64 (n := (rows.length : Int) - 1) (by omega) (by omega)]
    simp only [within_is, bd_some, br_dec]
    by_cases hc : 0 ≤ s.1 ∧ s.1 ≤ (rows.length : Int) - 1
    · have hi : s.1.toNat < rows.length := by omega
      have g : rows.getD s.1.toNat ([], ()) = rows[s.1.toNat] := by simp [List.getD, List.getElem?_eq_getElem hi]
      have e : impl_PartsHas k ((p.1, p.2.1, p.2.2.1, ()), rows[s.1.toNat].1, s.2.1, (s.2.2.1, s.2.2.2.1, s.2.2.2.2.1, ()), ()) = some ((partsHas (declOf p) rows[s.1.toNat].1 s.2.1 (storeOf s), ()), ((), (), (), (), ())) :=
        implPartsHas_is k hk hk2 (declOf p) hp.d (progOk_decl hpo) _ (hr _ (List.getElem_mem hi)) s.2.1 (storeOf s) hs
      simp only [if_pos hc, if_pos hc.1, List.getElem?_eq_getElem hi, bd_some, e, Option.bind_some, decide_eq_true hc, Bool.true_and, g]
    · simp only [if_neg hc, decide_eq_false hc, Bool.false_and, Option.bind_some]

abbrev rowKd : Kd := .cons (.sl false partKd) .nil
abbrev snapKd : Kd := .cons (.int .i64) (.cons (.sl false tokKd) storeKd)

theorem FnExactCovers_true (x : ProgT × List RowT × SnapT × Unit) (hw : WFs [progKd, .sl false rowKd, snapKd] x) : ∃ k o, laws_FnExactCovers k x = some ((true, ()), o) := by
  obtain ⟨p, rows, s, ⟨⟩⟩ := x
  obtain ⟨w1, w2, w3, _⟩ := hw
  refine ⟨8388608, ((), (), (), ()), ?_⟩
  unfold laws_FnExactCovers
  obtain ⟨r1, e1, p1⟩ := Cp.szProg_is 8388608 (by omega) p w1 1048576 (by omega) (by omega)
  simp only [e1, bd_some, br_dec]
  by_cases h1 : r1 < 0
  · rw [if_pos h1]
  rw [if_neg h1]
  obtain ⟨b1, s1⟩ := p1 (by omega)
  obtain ⟨r2, e2, p2⟩ := Cp.szRowS_is 8388608 (by omega) rows w2 r1 (by omega) (by omega)
  simp only [e2, bd_some]
  by_cases h2 : r2 < 0
  · rw [if_pos h2]
  rw [if_neg h2]
  obtain ⟨b2, s2⟩ := p2 (by omega)
  obtain ⟨r3, e3, p3⟩ := Cp.szSnap_is 8388608 (by omega) s w3 r2 (by omega) (by omega)
  simp only [e3, bd_some]
  by_cases h3 : r3 < 0
  · rw [if_pos h3]
  rw [if_neg h3]
  obtain ⟨b3, s3⟩ := p3 (by omega)
  have hr : ∀ r ∈ rows, LSmall r.1 := fun r hr => small_parts (s2.2 r hr).1
  have hs : SSmall (storeOf s) := small_store (s := storeOf s) s3.2.2
  simp only [Cp.toProg_is 8388608 (by omega) p s1, Cp.toRowS_is 8388608 (by omega) rows s2, Cp.toSnap_is 8388608 (by omega) s s3, bd_some]
  have t1 : spec_Covers 8388608 ((p.1, p.2.1, p.2.2.1, p.2.2.2.1, ()), rows, (s.1, s.2.1, s.2.2.1, s.2.2.2.1, s.2.2.2.2.1, ()), ()) = some ((covers p rows s, ()), ((), (), (), ())) := specCovers_is 8388608 (by omega) (by omega) p (small_prog s1) rows s2.1 hr s hs
  have t2 : impl_Covers 8388608 ((p.1, p.2.1, p.2.2.1, p.2.2.2.1, ()), rows, (s.1, s.2.1, s.2.2.1, s.2.2.2.1, s.2.2.2.2.1, ()), ()) = some ((covers p rows s, ()), ((), (), (), ())) := implCovers_is 8388608 (by omega) (by omega) p (small_prog s1) rows s2.1 hr s hs
  have q1 : laws_eqProg 8388608 ((p.1, p.2.1, p.2.2.1, p.2.2.2.1, ()), (p.1, p.2.1, p.2.2.1, p.2.2.2.1, ()), ()) = some ((true, ()), ((), (), ())) := Cp.eqProg_is 8388608 (by omega) p s1
  have q2 := Cp.eqRowS_is 8388608 (by omega) rows s2
  have q3 : laws_eqSnap 8388608 ((s.1, s.2.1, s.2.2.1, s.2.2.2.1, s.2.2.2.2.1, ()), (s.1, s.2.1, s.2.2.1, s.2.2.2.1, s.2.2.2.2.1, ()), ()) = some ((true, ()), ((), (), ())) := Cp.eqSnap_is 8388608 (by omega) s s3
  simp only [t1, t2, bd_some, BEq.rfl, Bool.not_true, br_false, q1, q2, q3]
end Go.Pev.F
end
