/-
  An environment's text: sizes, copies, comparisons; which are right.
-/
import Derived.Test.YtgajbbadidobfaaDoorPureJoined
set_option linter.unusedVariables false
set_option linter.unusedSimpArgs false
namespace Go.Pev.F
open Go.Lib (itoa join)

structure ESmall (e : EnvT) : Prop where
  n1 : e.2.1.length ≤ 1048576
  n2 : e.2.2.1.length ≤ 1048576

abbrev ivKd : Kd := .cons (.int .i64) (.cons (.int .i64) .nil)
abbrev envKd : Kd := .cons .bool (.cons (.sl false ivKd) (.cons (.sl false ivKd) .nil))

theorem szIntervalS_is (k : Nat) (a : List IvT) (ha : a.length ≤ 140737488351232) (left : Int) (h0 : 0 ≤ left) (h1 : left ≤ 1048576) :
    ∃ r : Int, laws_szIntervalS k (a, left, ()) = some ((r, ()), ((), (), ())) ∧ (0 ≤ r → r ≤ left ∧ a.length ≤ 1048576) := by
  unfold laws_szIntervalS
  simp only [br_dec]
  rw [wrap_i64 (by omega) (by omega)]
  by_cases hc : left - (a.length : Int) < 0
  · rw [if_pos hc]; exact ⟨-1, rfl, fun h => by omega⟩
  · rw [if_neg hc]; exact ⟨_, rfl, fun h => by omega⟩

theorem szEnv_is (k : Nat) (e : EnvT) (hw : envKd.WF e) (left : Int) (h0 : 0 ≤ left) (h1 : left ≤ 1048576) : ∃ r : Int, laws_szEnv k (e, left, ()) = some ((r, ()), ((), (), ())) ∧ (0 ≤ r → ESmall e) := by
  obtain ⟨_, ⟨b1, b2⟩, ⟨c1, c2⟩, _⟩ := hw
  obtain ⟨r1, e1, p1⟩ := szIntervalS_is k e.2.1 b1 left h0 h1
  unfold laws_szEnv
  simp only [e1, bd_some, br_dec]
  by_cases h1 : r1 < 0
  · rw [if_pos h1]; exact ⟨-1, rfl, fun h => by omega⟩
  rw [if_neg h1]
  obtain ⟨q1, q2⟩ := p1 (by omega)
  obtain ⟨r2, e2, p2⟩ := szIntervalS_is k e.2.2.1 c1 r1 (by omega) (by omega)
  simp only [e2, bd_some]
  by_cases h2 : r2 < 0
  · rw [if_pos h2]; exact ⟨-1, rfl, fun h => by omega⟩
  rw [if_neg h2]
  exact ⟨r2, rfl, fun h => ⟨q2, (p2 h).2⟩⟩

theorem toIntervalS_is (k : Nat) (a : List IvT) (ha : a.length ≤ 1048576) (hk : 1048576 < k) : laws_toIntervalS k (a, ()) = some ((a, ()), ((), ())) := by
  unfold laws_toIntervalS
  have h : 0 ≤ (a.length : Int) ∧ (a.length : Int) ≤ (a.length : Int) ∧ (a.length : Int) * 16 ≤ maxBytes := by simp [maxBytes]; omega
  simp only [br_dec, if_pos h, Int.toNat_natCast]
  generalize hz : (Kd.z (.cons (.int .i64) (.cons (.int .i64) .nil)) : IvT) = z
  have key := iter_for (b := laws_toIntervalS.l0 k) (fun i => (a, a.take i ++ List.replicate (a.length - i) z, (i : Int), ())) a.length (r := some ((a, ()), ((), ()))) (fun G i hi => by
    have h2 : ((i : Int) < (a.length : Int)) := by omega
    have h3 : (0 : Int) ≤ (i : Int) := by omega
    have h4 : 0 ≤ (i : Int) ∧ (i : Int) < ((a.take i ++ List.replicate (a.length - i) z).length : Int) := by simp; omega
    simp only [laws_toIntervalS.l0, laws_toInterval, br_dec, if_pos h2, if_pos h3, if_pos h4, Int.toNat_natCast, List.getElem?_eq_getElem hi, get_next a _ hi, bd_some]
    rw [set_next a _ hi, wrap_succ (by omega)]) (fun G => by
    have h2 : ¬ ((a.length : Int) < (a.length : Int)) := by omega
    simp only [laws_toIntervalS.l0, br_dec, if_neg h2]
    simp) (f := k) (by omega)
  simpa using key

theorem toEnv_is (k : Nat) (e : EnvT) (he : ESmall e) (hk : 1048576 < k) : laws_toEnv k (e, ()) = some ((e, ()), ((), ())) := by
  unfold laws_toEnv
  simp only [toIntervalS_is k _ he.n1 hk, toIntervalS_is k _ he.n2 hk, bd_some]

theorem eqIntervalS_is (k : Nat) (a : List IvT) (ha : a.length ≤ 1048576) (hk : 1048576 < k) : laws_eqIntervalS k (a, a, ()) = some ((true, ()), ((), (), ())) := by
  unfold laws_eqIntervalS
  have hb : ((a.length : Int) != (a.length : Int)) = false := by simp
  simp only [hb, br_false]
  exact iter_for (b := laws_eqIntervalS.l0 k) (fun i => (a, a, (i : Int), ())) a.length (fun G i hi => by
    have h2 : ((i : Int) < (a.length : Int)) := by omega
    have h3 : (0 : Int) ≤ (i : Int) := by omega
    simp only [laws_eqIntervalS.l0, laws_eqInterval, br_dec, if_pos h2, if_pos h3, Int.toNat_natCast, List.getElem?_eq_getElem hi, bd_some, bne_self_eq_false, Bool.not_true, br_false]
    rw [wrap_succ (by omega)]) (fun G => by
    have h2 : ¬ ((a.length : Int) < (a.length : Int)) := by omega
    simp only [laws_eqIntervalS.l0, br_dec, if_neg h2]) (by omega)

theorem eqEnv_is (k : Nat) (e : EnvT) (he : ESmall e) (hk : 1048576 < k) : laws_eqEnv k (e, e, ()) = some ((true, ()), ((), (), ())) := by
  unfold laws_eqEnv
  simp only [eqIntervalS_is k _ he.n1 hk, eqIntervalS_is k _ he.n2 hk, bd_some, BEq.rfl, Bool.not_true, br_false]

/-! ### Which are right -/

def ivOk (a : IvT) : Bool := decide (a.1 ≤ a.2.1)
def ivsOk (l : List IvT) : Bool := !l.any fun a => !ivOk a
def envFits (d : DeclT) (e : EnvT) : Bool :=
  cond e.1 (((e.2.1.length : Int) == (d.1.length : Int)) && (((e.2.2.1.length : Int) == (d.2.2.1.length : Int)) && (ivsOk e.2.1 && ivsOk e.2.2.1))) (((e.2.1.length : Int) == 0) && ((e.2.2.1.length : Int) == 0))
def envOk (d : DeclT) (e : EnvT) : Bool := declOk d && envFits d e

theorem specEnvOk_is (k : Nat) (hk : 4194304 < k) (d : DeclT) (hd : DSmall d) (e : EnvT) (he : ESmall e) : spec_EnvOk k (d, e, ()) = some ((envOk d e, ()), ((), (), ())) := by
  have n1 := he.n1
  have n2 := he.n2
  unfold spec_EnvOk envOk
  simp only [specDeclOk_is k hk d hd, bd_some]
  cases hdo : declOk d with
  | false => simp
  | true =>
    simp only [Bool.not_true, br_false, Bool.true_and]
    unfold envFits
    cases he1 : e.1 with
    | false =>
      simp only [Bool.not_false, br_true, cond_false]
      cases hz : ((e.2.1.length : Int) == 0) <;> simp
    | true =>
      simp only [Bool.not_true, br_false, cond_true]
      unfold bne
      cases h1 : ((e.2.1.length : Int) == (d.1.length : Int)) with
      | false => simp
      | true =>
        simp only [Bool.not_true, br_false, Bool.true_and]
        cases h2 : ((e.2.2.1.length : Int) == (d.2.2.1.length : Int)) with
        | false => simp
        | true =>
          have l1 : (([] : List (Int × Int × Unit)).length + e.2.1.length) * 16 ≤ maxBytes := by simp [maxBytes]; omega
          have l2 : ((([] : List (Int × Int × Unit)) ++ e.2.1).length + e.2.2.1.length) * 16 ≤ maxBytes := by simp [maxBytes]; omega
          simp only [Bool.not_true, Option.bind_some, br_false, Bool.true_and, spec_l6List, br_dec, if_pos l1, if_pos l2, bd_some]
          have h := iter_any (b := spec_EnvOk.l0 k) (fun i => (([] ++ e.2.1) ++ e.2.2.1, (i : Int), ())) (([] ++ e.2.1) ++ e.2.2.1) (fun a => !ivOk a) (rf := some ((false, ()), ((), (), ()))) (r := some ((true, ()), ((), (), ()))) (fun G i hi => by
            have hi' : i < e.2.1.length + e.2.2.1.length := by simpa using hi
            have h2 : ((i : Int) < ((([] ++ e.2.1) ++ e.2.2.1).length : Int)) := by omega
            have h3 : 0 ≤ (i : Int) ∧ ((i : Int) < ((([] ++ e.2.1) ++ e.2.2.1).length : Int)) := by omega
            simp only [spec_EnvOk.l0, spec_IvOk, br_dec, if_pos h2, if_pos h3, Int.toNat_natCast, List.getElem?_eq_getElem hi, bd_some]
            rw [wrap_succ (by omega), ivOk]
            cases decide ((([] ++ e.2.1) ++ e.2.2.1)[i].1 ≤ (([] ++ e.2.1) ++ e.2.2.1)[i].2.1) <;> simp) (fun G => by
            have h2 : ¬ ((((([] ++ e.2.1) ++ e.2.2.1).length : Nat) : Int) < ((([] ++ e.2.1) ++ e.2.2.1).length : Int)) := by omega
            simp only [spec_EnvOk.l0, br_dec, if_neg h2]) (f := k) (by simp; omega)
          refine Eq.trans h ?_
          unfold ivsOk
          rw [List.nil_append, List.any_append]
          cases e.2.1.any (fun a => !ivOk a) <;> cases e.2.2.1.any (fun a => !ivOk a) <;> rfl

theorem areAllIv_is (k : Nat) (l : List IvT) (hl : l.length ≤ 1048576) (hk : 4194304 < k) : impl_areAll_impl_Interval k (l, (()), ()) = some ((ivsOk l, ()), ((), (()), ())) := by
  obtain ⟨n, h1, h2⟩ := iter_find (b := slices_IndexFunc_impl_Interval_impl_Interval.l0 k) (fun i => (l, (((()), ()), ()), (l.length : Int), (i : Int), ())) l (fun a => !ivOk a) (o := ((), (((()), ()), ()), ())) (fun G i hi => by
    have h2 : ((i : Int) < (l.length : Int)) := by omega
    have h3 : (0 : Int) ≤ (i : Int) := by omega
    simp only [slices_IndexFunc_impl_Interval_impl_Interval.l0, impl_areAll_impl_Interval_1, impl_IvOk, br_dec, if_pos h2, if_pos h3, Int.toNat_natCast, List.getElem?_eq_getElem hi, bd_some]
    rw [wrap_succ (by omega), ivOk]
    cases decide (l[i].1 ≤ l[i].2.1) <;> simp) (fun G => by
    have h2 : ¬ ((l.length : Int) < (l.length : Int)) := by omega
    simp only [slices_IndexFunc_impl_Interval_impl_Interval.l0, br_dec, if_neg h2]) (f := k) (by omega)
  unfold impl_areAll_impl_Interval slices_ContainsFunc_impl_Interval_impl_Interval slices_IndexFunc_impl_Interval_impl_Interval
  have h1' : iter (slices_IndexFunc_impl_Interval_impl_Interval.l0 k) k (l, (((()), ()), ()), (l.length : Int), 0, ()) = some ((n, ()), ((), (((()), ()), ()), ())) := h1
  simp only [h1', bd_some, h2]
  rfl

theorem implEnvOk_is (k : Nat) (hk : 4194304 < k) (hk2 : k ≤ 4611686018427387903) (d : DeclT) (hd : DSmall d) (e : EnvT) (he : ESmall e) : impl_EnvOk k (d, e, ()) = some ((envOk d e, ()), ((), (), ())) := by
  unfold impl_EnvOk envOk
  simp only [implDeclOk_is k hk hk2 d hd, bd_some]
  cases hdo : declOk d with
  | false => simp
  | true =>
    simp only [br_true, Bool.true_and]
    unfold impl_Decl_isEnv envFits
    cases he1 : e.1 with
    | false =>
      simp only [he1, Bool.not_false, br_true, cond_false]
      cases hz : ((e.2.1.length : Int) == 0) <;> simp
    | true =>
      simp only [he1, Bool.not_true, br_false, cond_true]
      cases h1 : ((e.2.1.length : Int) == (d.1.length : Int)) with
      | false => simp
      | true =>
        cases h2 : ((e.2.2.1.length : Int) == (d.2.2.1.length : Int)) with
        | false => simp
        | true =>
          simp only [areAllIv_is k _ he.n1 hk, areAllIv_is k _ he.n2 hk, br_true, bd_some]
          cases ivsOk e.2.1 <;> simp
end Go.Pev.F
