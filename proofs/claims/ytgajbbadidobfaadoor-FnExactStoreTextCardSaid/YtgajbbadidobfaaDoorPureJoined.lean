/-
  Joined words.
-/
import Derived.Test.YtgajbbadidobfaaDoorPureDeclOk2
import Derived.Lib.Join
set_option linter.unusedVariables false
set_option linter.unusedSimpArgs false
namespace Go.Pev.F
open Go.Lib (join join_nil join_one join_cons joinTail joinTail_take_succ)

theorem join_step (l : Names) (sep : List UInt8) {i : Nat} (hi : i + 1 < l.length) : join (l.take (i + 1 + 1)) sep = (join (l.take (i + 1)) sep ++ sep) ++ l[i + 1] := by
  cases l with
  | nil => simp at hi
  | cons x r =>
    have hr : i < r.length := by simpa using hi
    rw [List.take_succ_cons, List.take_succ_cons, join_cons, join_cons, joinTail_take_succ sep r i r[i] (List.getElem?_eq_getElem hr)]
    simp

theorem join_first (l : Names) (sep : List UInt8) (hi : 0 < l.length) : join (l.take (0 + 1)) sep = l[0] := by
  cases l with
  | nil => simp at hi
  | cons x r => simp [join_one]

theorem join_len (sep : List UInt8) (M : Nat) : ∀ (l : Names), (∀ x ∈ l, x.length ≤ M) → (join l sep).length ≤ l.length * (M + sep.length)
  | [], _ => by simp [join_nil]
  | x :: r, h => by
    have key : ∀ (r : Names), (∀ x ∈ r, x.length ≤ M) → (joinTail sep r).length ≤ r.length * (M + sep.length) := by
      intro r
      induction r with
      | nil => intro _; simp [joinTail]
      | cons y r ih =>
        intro h
        have h1 := ih fun x hx => h x (List.mem_cons_of_mem _ hx)
        have h2 := h y List.mem_cons_self
        simp only [joinTail, List.map_cons, List.flatten_cons, List.length_append, List.length_cons, Nat.add_mul, Nat.one_mul] at h1 ⊢
        omega
    have h1 := key r fun x hx => h x (List.mem_cons_of_mem _ hx)
    have h2 := h x List.mem_cons_self
    rw [join_cons]
    simp only [List.length_append, List.length_cons, Nat.add_mul, Nat.one_mul] at h1 ⊢
    omega

/-- Pairs told one by one read as pairs told together. -/
theorem join_pairs (sep : List UInt8) (l : List (List UInt8 × List UInt8)) : join (l.flatMap fun p => [p.1, p.2]) sep = join (l.map fun p => (p.1 ++ sep) ++ p.2) sep := by
  have key : ∀ (l : List (List UInt8 × List UInt8)), joinTail sep (l.flatMap fun p => [p.1, p.2]) = joinTail sep (l.map fun p => (p.1 ++ sep) ++ p.2) := by
    intro l
    induction l with
    | nil => rfl
    | cons p r ih =>
      simp only [joinTail] at ih
      simp [joinTail, ih]
  cases l with
  | nil => rfl
  | cons p r =>
    have := key r
    simp only [joinTail] at this
    simp only [List.flatMap_cons, List.map_cons, List.cons_append, List.nil_append, join_cons]
    simp [joinTail, this]

theorem l13Joined_is (k : Nat) (l : Names) (sep : List UInt8) (hl : l.length < k) (hk : k ≤ 4611686018427387903) (M : Nat) (hM : ∀ x ∈ l, x.length ≤ M) (hb : l.length * (M + sep.length) ≤ 4611686018427387903) : spec_l13Joined k (l, sep, ()) = some ((join l sep, ()), ((), (), ())) := by
  have hlen : ∀ i, (join (l.take i) sep).length ≤ (l.take i).length * (M + sep.length) := fun i => join_len sep M _ fun x hx => hM x (List.mem_of_mem_take hx)
  have h := iter_for (b := spec_l13Joined.l0 k) (fun i => (l, sep, join (l.take i) sep, (i : Int), ())) l.length (r := some ((join l sep, ()), ((), (), ()))) (fun G i hi => by
    have h2 : ((i : Int) < (l.length : Int)) := by omega
    have h3 : (0 : Int) ≤ (i : Int) := by omega
    have h5 := hlen (i + 1)
    have h6 : (l.take (i + 1)).length * (M + sep.length) ≤ l.length * (M + sep.length) := Nat.mul_le_mul_right _ (by simp; omega)
    simp only [spec_l13Joined.l0, br_dec, if_pos h2, if_pos h3, Int.toNat_natCast, List.getElem?_eq_getElem hi, bd_some]
    rw [wrap_succ (by omega)]
    cases i with
    | zero =>
      have h4 : ¬ (((0 : Nat) : Int) > 0) := by omega
      rw [if_neg h4, join_first l sep hi] 
      rw [join_first l sep hi] at h5
      have h7 : (((join (l.take 0) sep).length + l[0].length : Nat) : Int) ≤ maxInt64 := by
        rw [List.take_zero, join_nil]; simp only [maxInt64, List.length_nil]; omega
      rw [if_pos h7, List.take_zero, join_nil]
      rfl
    | succ i =>
      have h4 : (((i + 1 : Nat) : Int) > 0) := by omega
      rw [join_step l sep hi] at h5 ⊢
      simp only [List.length_append] at h5
      have h7 : (((join (l.take (i + 1)) sep).length + sep.length : Nat) : Int) ≤ maxInt64 := by simp only [maxInt64]; omega
      have h8 : (((join (l.take (i + 1)) sep ++ sep).length + l[i + 1].length : Nat) : Int) ≤ maxInt64 := by simp only [maxInt64, List.length_append]; omega
      rw [if_pos h4, if_pos h7, if_pos h8]) (fun G => by
    have h2 : ¬ ((l.length : Int) < (l.length : Int)) := by omega
    simp only [spec_l13Joined.l0, br_dec, if_neg h2, List.take_length]) hl
  unfold spec_l13Joined
  simp only [List.take_zero, join_nil] at h
  exact h

theorem lbJoin_is (k : Nat) (l : Names) (sep : List UInt8) (M : Nat) (hM : ∀ x ∈ l, x.length ≤ M) (hl : l.length ≤ 140737488355328) (hb : l.length * (M + sep.length) ≤ 140737488355328) : Lb.Join k (l, sep, ()) = some ((join l sep, ()), ((), (), ())) := by
  unfold Lb.Join
  have := join_len sep M l hM
  rw [if_pos ⟨hl, by simp only; omega⟩]
end Go.Pev.F
