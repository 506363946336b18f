/-
  A store's text: the program's is the reference's.
-/
import Derived.Test.YtgajbbadidobfaaDoorPureStore
set_option linter.unusedVariables false
set_option linter.unusedSimpArgs false
namespace Go.Pev.F
open Go.Lib (itoa join)

def IFits (n : Int) : Prop := -9223372036854775808 ≤ n ∧ n ≤ 9223372036854775807
def boolW (b : Bool) : List UInt8 := cond b [116, 114, 117, 101] [102, 97, 108, 115, 101]
def tok0 (p : List UInt8 × Int) : Names := [p.1, itoa p.2]
def tok1 (p : List UInt8 × Bool) : Names := [p.1, boolW p.2]
def tok2 (p : ArrT × List Int) : Names := p.1.1 :: p.2.map itoa
def pr0 (d : DeclT) (s : StoreT) : List (List UInt8 × Int) := d.1.zip s.1
def pr1 (d : DeclT) (s : StoreT) : List (List UInt8 × Bool) := d.2.1.zip s.2.1
def pr2 (d : DeclT) (s : StoreT) : List (ArrT × List Int) := d.2.2.1.zip s.2.2.1
def toks (d : DeclT) (s : StoreT) : Names := ((pr0 d s).flatMap tok0 ++ (pr1 d s).flatMap tok1) ++ (pr2 d s).flatMap tok2

structure SFine (d : DeclT) (s : StoreT) : Prop where
  l0 : d.1.length ≤ 5
  l1 : d.2.1.length ≤ 3
  l2 : d.2.2.1.length ≤ 2
  e0 : s.1.length = d.1.length
  e1 : s.2.1.length = d.2.1.length
  e2 : s.2.2.1.length = d.2.2.1.length
  f0 : ∀ n ∈ s.1, IFits n
  f2 : ∀ r ∈ s.2.2.1, ∀ n ∈ r, IFits n

theorem sfine_of {d : DeclT} {s : StoreT} (h : storeOk d s = true) (hw : storeKd.WF s) : SFine d s := by
  simp only [storeOk, declOk, Bool.and_eq_true, decide_eq_true_eq] at h
  obtain ⟨⟨⟨h0, h1, h2⟩, _⟩, h3, _⟩ := h
  obtain ⟨e0, e1, e2⟩ := lens_of h3
  obtain ⟨⟨_, a2⟩, _, ⟨_, c2⟩, _⟩ := hw
  exact ⟨h0, h1, h2, e0, e1, e2, fun n hn => a2 n hn, fun r hr n hn => (c2 r hr).2 n hn⟩

theorem flat_step {α β : Type} (f : α → List β) {l : List α} {i : Nat} (hi : i < l.length) : (l.take (i + 1)).flatMap f = (l.take i).flatMap f ++ f l[i] := by
  rw [← List.take_append_getElem hi, List.flatMap_append]; simp

theorem flat_len {α β : Type} (f : α → List β) (M : Nat) : ∀ (l : List α), (∀ p ∈ l, (f p).length ≤ M) → (l.flatMap f).length ≤ l.length * M
  | [], _ => by simp
  | x :: r, h => by
    have h1 := flat_len f M r fun p hp => h p (List.mem_cons_of_mem _ hp)
    have h2 := h x List.mem_cons_self
    simp only [List.flatMap_cons, List.length_append, List.length_cons, Nat.add_mul, Nat.one_mul]
    omega

theorem len0 (l : List (List UInt8 × Int)) : (l.flatMap tok0).length ≤ l.length * 2 := flat_len tok0 2 l fun p _ => Nat.le_refl _
theorem len1 (l : List (List UInt8 × Bool)) : (l.flatMap tok1).length ≤ l.length * 2 := flat_len tok1 2 l fun p _ => Nat.le_refl _
theorem len2 {d : DeclT} {s : StoreT} (hs : SSmall s) (i : Nat) : (((pr2 d s).take i).flatMap tok2).length ≤ ((pr2 d s).take i).length * 1048577 := flat_len tok2 1048577 _ fun p hp => by
  have h := List.of_mem_zip (List.mem_of_mem_take hp)
  have := hs.m2 _ h.2
  simp [tok2]; omega

theorem toks_small {d : DeclT} {s : StoreT} (hd : DSmall d) (hs : SSmall s) (hf : SFine d s) : (toks d s).length ≤ 2097170 ∧ ∀ x ∈ toks d s, x.length ≤ 1048576 := by
  have l0 := hf.l0
  have l1 := hf.l1
  have l2 := hf.l2
  have z0 : (pr0 d s).length ≤ 5 := by simp [pr0]; omega
  have z1 : (pr1 d s).length ≤ 3 := by simp [pr1]; omega
  have z2 : (pr2 d s).length ≤ 2 := by simp [pr2]; omega
  have k0 := len0 (pr0 d s)
  have k1 := len1 (pr1 d s)
  have k2 := len2 (d := d) hs (pr2 d s).length
  rw [List.take_length] at k2
  refine ⟨by simp only [toks, List.length_append]; omega, fun x hx => ?_⟩
  simp only [toks, List.mem_append, List.mem_flatMap] at hx
  rcases hx with (⟨p, hp, hx⟩ | ⟨p, hp, hx⟩) | ⟨p, hp, hx⟩
  · have h := List.of_mem_zip hp
    have hi := hf.f0 _ h.2
    have := itoa_len p.2 hi.1 hi.2
    have := hd.s0 _ h.1
    simp only [tok0, List.mem_cons, List.not_mem_nil, or_false] at hx
    rcases hx with rfl | rfl <;> omega
  · have h := List.of_mem_zip hp
    have := hd.s1 _ h.1
    simp only [tok1, List.mem_cons, List.not_mem_nil, or_false] at hx
    rcases hx with rfl | rfl
    · omega
    · unfold boolW; cases p.2 <;> simp
  · have h := List.of_mem_zip hp
    have := hd.s2 _ h.1
    simp only [tok2, List.mem_cons, List.mem_map] at hx
    rcases hx with rfl | ⟨n, hn, rfl⟩
    · omega
    · have hi := hf.f2 _ h.2 n hn
      have := itoa_len n hi.1 hi.2
      omega

/-! ### The reference -/

theorem specRow (k : Nat) (hk : 4194304 < k) (d : DeclT) (s : StoreT) (G4) (l : Names) {i : Nat} (hi : i < s.2.2.1.length) (hn : s.2.2.1.length ≤ 1048576) (hl : l.length ≤ 4194304) (hr : s.2.2.1[i].length ≤ 1048576) (hf : ∀ n ∈ s.2.2.1[i], IFits n) :
    iter (spec_StoreText.l6 k G4) k ((d.1, d.2.1, d.2.2.1, ()), (s.1, s.2.1, s.2.2.1, ()), l, (i : Int), 0, ()) = G4 ((d.1, d.2.1, d.2.2.1, ()), (s.1, s.2.1, s.2.2.1, ()), l ++ s.2.2.1[i].map itoa, ((i + 1 : Nat) : Int), ()) := by
  have h3 : (0 : Int) ≤ (i : Int) := by omega
  have h := iter_for (b := spec_StoreText.l6 k G4) (fun j => ((d.1, d.2.1, d.2.2.1, ()), (s.1, s.2.1, s.2.2.1, ()), l ++ (s.2.2.1[i].take j).map itoa, (i : Int), (j : Int), ())) s.2.2.1[i].length (r := G4 ((d.1, d.2.1, d.2.2.1, ()), (s.1, s.2.1, s.2.2.1, ()), l ++ s.2.2.1[i].map itoa, ((i + 1 : Nat) : Int), ())) (fun G j hj => by
    have h2 : ((j : Int) < (s.2.2.1[i].length : Int)) := by omega
    have h4 : (0 : Int) ≤ (j : Int) := by omega
    have hfj := hf _ (List.getElem_mem hj)
    have h5 : ((l ++ (s.2.2.1[i].take j).map itoa).length + ([itoa s.2.2.1[i][j]] : List (List UInt8)).length) * 16 ≤ maxBytes := by simp [maxBytes]; omega
    simp only [spec_StoreText.l6, br_dec, if_pos h2, if_pos h3, if_pos h4, Int.toNat_natCast, List.getElem?_eq_getElem hi, List.getElem?_eq_getElem hj, bd_some, l1Dec_is k (by omega) s.2.2.1[i][j] hfj.1 hfj.2, if_pos h5]
    rw [wrap_succ (by omega), ← List.take_append_getElem hj, List.map_append, List.append_assoc]
    rfl) (fun G => by
    have h2 : ¬ ((s.2.2.1[i].length : Int) < (s.2.2.1[i].length : Int)) := by omega
    simp only [spec_StoreText.l6, br_dec, if_neg h2, if_pos h3, Int.toNat_natCast, List.getElem?_eq_getElem hi, bd_some, List.take_length]
    rw [wrap_succ (by omega)]) (f := k) (by omega)
  simp only [List.take_zero, List.map_nil, List.append_nil] at h
  exact h

theorem specStore_l4 (k : Nat) (hk : 4194304 < k) (hk2 : k ≤ 4611686018427387903) (d : DeclT) (hd : DSmall d) (s : StoreT) (hs : SSmall s) (hf : SFine d s) :
    iter (spec_StoreText.l4 k) k ((d.1, d.2.1, d.2.2.1, ()), (s.1, s.2.1, s.2.2.1, ()), (pr0 d s).flatMap tok0 ++ (pr1 d s).flatMap tok1, 0, ()) = some ((join (toks d s) [32], ()), ((), (), ())) := by
  have l0 := hf.l0
  have l1 := hf.l1
  have l2 := hf.l2
  have e2 := hf.e2
  have n2 := hs.n2
  have z0 : (pr0 d s).length ≤ 5 := by simp [pr0]; omega
  have z1 : (pr1 d s).length ≤ 3 := by simp [pr1]; omega
  have z2 : (pr2 d s).length = s.2.2.1.length := by simp [pr2]; omega
  have k0 := len0 (pr0 d s)
  have k1 := len1 (pr1 d s)
  obtain ⟨t1, t2⟩ := toks_small hd hs hf
  have h := iter_for (b := spec_StoreText.l4 k) (fun i => ((d.1, d.2.1, d.2.2.1, ()), (s.1, s.2.1, s.2.2.1, ()), ((pr0 d s).flatMap tok0 ++ (pr1 d s).flatMap tok1) ++ ((pr2 d s).take i).flatMap tok2, (i : Int), ())) s.2.2.1.length (r := some ((join (toks d s) [32], ()), ((), (), ()))) (fun G i hi => by
    have hi2 : i < d.2.2.1.length := by omega
    have hi3 : i < (pr2 d s).length := by omega
    have h2 : ((i : Int) < (s.2.2.1.length : Int)) := by omega
    have h3 : (0 : Int) ≤ (i : Int) := by omega
    have k2 := len2 (d := d) hs i
    have k3 : ((pr2 d s).take i).length ≤ 2 := by simp; omega
    have h5 : ((((pr0 d s).flatMap tok0 ++ (pr1 d s).flatMap tok1) ++ ((pr2 d s).take i).flatMap tok2).length + ([d.2.2.1[i].1] : List (List UInt8)).length) * 16 ≤ maxBytes := by
      simp only [List.length_append, List.length_cons, List.length_nil, maxBytes]; omega
    have eo : tok2 (pr2 d s)[i] = [d.2.2.1[i].1] ++ s.2.2.1[i].map itoa := by simp [pr2, tok2]
    simp only [spec_StoreText.l4, br_dec, if_pos h2, if_pos h3, Int.toNat_natCast, List.getElem?_eq_getElem hi2, bd_some, if_pos h5]
    rw [specRow k hk d s G _ hi n2 (by simp only [List.length_append, List.length_cons, List.length_nil]; omega) (hs.m2 _ (List.getElem_mem hi)) (hf.f2 _ (List.getElem_mem hi)), flat_step tok2 hi3, eo]
    simp only [List.append_assoc]) (fun G => by
    have h2 : ¬ ((s.2.2.1.length : Int) < (s.2.2.1.length : Int)) := by omega
    have ht : (pr2 d s).take s.2.2.1.length = pr2 d s := by rw [List.take_of_length_le (by omega)]
    have hj := l13Joined_is k (toks d s) [32] (by omega) hk2 1048576 t2 (Nat.le_trans (Nat.mul_le_mul_right _ t1) (by decide))
    have hj' : spec_l13Joined k (((pr0 d s).flatMap tok0 ++ (pr1 d s).flatMap tok1) ++ (pr2 d s).flatMap tok2, [32], ()) = some ((join (toks d s) [32], ()), ((), (), ())) := hj
    simp only [spec_StoreText.l4, br_dec, if_neg h2, ht, hj', bd_some]) (f := k) (by omega)
  simp only [List.take_zero, List.flatMap_nil, List.append_nil] at h
  exact h

theorem specStore_l2 (k : Nat) (hk : 4194304 < k) (hk2 : k ≤ 4611686018427387903) (d : DeclT) (hd : DSmall d) (s : StoreT) (hs : SSmall s) (hf : SFine d s) :
    iter (spec_StoreText.l2 k) k ((d.1, d.2.1, d.2.2.1, ()), (s.1, s.2.1, s.2.2.1, ()), (pr0 d s).flatMap tok0, 0, ()) = some ((join (toks d s) [32], ()), ((), (), ())) := by
  have l0 := hf.l0
  have l1 := hf.l1
  have e1 := hf.e1
  have z0 : (pr0 d s).length ≤ 5 := by simp [pr0]; omega
  have z1 : (pr1 d s).length = s.2.1.length := by simp [pr1]; omega
  have k0 := len0 (pr0 d s)
  have h := iter_for (b := spec_StoreText.l2 k) (fun i => ((d.1, d.2.1, d.2.2.1, ()), (s.1, s.2.1, s.2.2.1, ()), (pr0 d s).flatMap tok0 ++ ((pr1 d s).take i).flatMap tok1, (i : Int), ())) s.2.1.length (r := some ((join (toks d s) [32], ()), ((), (), ()))) (fun G i hi => by
    have hi2 : i < d.2.1.length := by omega
    have hi3 : i < (pr1 d s).length := by omega
    have h2 : ((i : Int) < (s.2.1.length : Int)) := by omega
    have h3 : (0 : Int) ≤ (i : Int) := by omega
    have k2 := len1 ((pr1 d s).take i)
    have k3 : ((pr1 d s).take i).length ≤ 3 := by simp; omega
    have h5 : ∀ w : List UInt8, (((pr0 d s).flatMap tok0 ++ ((pr1 d s).take i).flatMap tok1).length + ([d.2.1[i], w] : List (List UInt8)).length) * 16 ≤ maxBytes := fun w => by
      simp only [List.length_append, List.length_cons, List.length_nil, maxBytes]; omega
    have eo : tok1 (pr1 d s)[i] = [d.2.1[i], boolW s.2.1[i]] := by simp [pr1, tok1]
    simp only [spec_StoreText.l2, br_dec, if_pos h2, if_pos h3, Int.toNat_natCast, List.getElem?_eq_getElem hi, List.getElem?_eq_getElem hi2, bd_some, if_pos (h5 _)]
    rw [wrap_succ (by omega), flat_step tok1 hi3, eo, ← List.append_assoc]
    cases s.2.1[i] <;> simp [boolW]) (fun G => by
    have h2 : ¬ ((s.2.1.length : Int) < (s.2.1.length : Int)) := by omega
    have ht : (pr1 d s).take s.2.1.length = pr1 d s := by rw [List.take_of_length_le (by omega)]
    simp only [spec_StoreText.l2, br_dec, if_neg h2, ht]
    exact specStore_l4 k hk hk2 d hd s hs hf) (f := k) (by omega)
  simp only [List.take_zero, List.flatMap_nil, List.append_nil] at h
  exact h

theorem specStore_l0 (k : Nat) (hk : 4194304 < k) (hk2 : k ≤ 4611686018427387903) (d : DeclT) (hd : DSmall d) (s : StoreT) (hs : SSmall s) (hf : SFine d s) :
    iter (spec_StoreText.l0 k) k ((d.1, d.2.1, d.2.2.1, ()), (s.1, s.2.1, s.2.2.1, ()), ([] : List (List UInt8)), 0, ()) = some ((join (toks d s) [32], ()), ((), (), ())) := by
  have l0 := hf.l0
  have e0 := hf.e0
  have z0 : (pr0 d s).length = s.1.length := by simp [pr0]; omega
  have h := iter_for (b := spec_StoreText.l0 k) (fun i => ((d.1, d.2.1, d.2.2.1, ()), (s.1, s.2.1, s.2.2.1, ()), ((pr0 d s).take i).flatMap tok0, (i : Int), ())) s.1.length (r := some ((join (toks d s) [32], ()), ((), (), ()))) (fun G i hi => by
    have hi2 : i < d.1.length := by omega
    have hi3 : i < (pr0 d s).length := by omega
    have h2 : ((i : Int) < (s.1.length : Int)) := by omega
    have h3 : (0 : Int) ≤ (i : Int) := by omega
    have hfi := hf.f0 _ (List.getElem_mem hi)
    have k2 := len0 ((pr0 d s).take i)
    have k3 : ((pr0 d s).take i).length ≤ 5 := by simp; omega
    have h5 : ((((pr0 d s).take i).flatMap tok0).length + ([d.1[i], itoa s.1[i]] : List (List UInt8)).length) * 16 ≤ maxBytes := by
      simp only [List.length_cons, List.length_nil, maxBytes]; omega
    have eo : tok0 (pr0 d s)[i] = [d.1[i], itoa s.1[i]] := by simp [pr0, tok0]
    simp only [spec_StoreText.l0, br_dec, if_pos h2, if_pos h3, Int.toNat_natCast, List.getElem?_eq_getElem hi, List.getElem?_eq_getElem hi2, bd_some, l1Dec_is k (by omega) s.1[i] hfi.1 hfi.2, if_pos h5]
    rw [wrap_succ (by omega), flat_step tok0 hi3, eo]) (fun G => by
    have h2 : ¬ ((s.1.length : Int) < (s.1.length : Int)) := by omega
    have ht : (pr0 d s).take s.1.length = pr0 d s := by rw [List.take_of_length_le (by omega)]
    simp only [spec_StoreText.l0, br_dec, if_neg h2, ht]
    exact specStore_l2 k hk hk2 d hd s hs hf) (f := k) (by omega)
  simp only [List.take_zero, List.flatMap_nil] at h
  exact h

/-! ### The program -/

theorem formatBool_is (k : Nat) (b : Bool) : strconv_FormatBool k (b, ()) = some ((boolW b, ()), ((), ())) := by
  unfold strconv_FormatBool strconv_FormatBool_x boolW
  cases b <;> simp

theorem implRow (k : Nat) (hk : 4194304 < k) (d : DeclT) (s : StoreT) (G4) (l : Names) {i : Nat} (hi : i < s.2.2.1.length) (hn : s.2.2.1.length ≤ 1048576) (hl : l.length ≤ 4194304) (hr : s.2.2.1[i].length ≤ 1048576) (hf : ∀ n ∈ s.2.2.1[i], IFits n) :
    iter (impl_StoreText.l6 k G4) k ((d.1, d.2.1, d.2.2.1, ()), l, s.2.2.1, (s.2.2.1.length : Int), (i : Int), s.2.2.1[i], (s.2.2.1[i].length : Int), 0, ()) = G4 ((d.1, d.2.1, d.2.2.1, ()), l ++ s.2.2.1[i].map itoa, s.2.2.1, (s.2.2.1.length : Int), ((i + 1 : Nat) : Int), ()) := by
  have h := iter_for (b := impl_StoreText.l6 k G4) (fun j => ((d.1, d.2.1, d.2.2.1, ()), l ++ (s.2.2.1[i].take j).map itoa, s.2.2.1, (s.2.2.1.length : Int), (i : Int), s.2.2.1[i], (s.2.2.1[i].length : Int), (j : Int), ())) s.2.2.1[i].length (r := G4 ((d.1, d.2.1, d.2.2.1, ()), l ++ s.2.2.1[i].map itoa, s.2.2.1, (s.2.2.1.length : Int), ((i + 1 : Nat) : Int), ())) (fun G j hj => by
    have h2 : ((j : Int) < (s.2.2.1[i].length : Int)) := by omega
    have h4 : (0 : Int) ≤ (j : Int) := by omega
    have hfj := hf _ (List.getElem_mem hj)
    have h5 : ((l ++ (s.2.2.1[i].take j).map itoa).length + ([itoa s.2.2.1[i][j]] : List (List UInt8)).length) * 16 ≤ maxBytes := by simp [maxBytes]; omega
    simp only [impl_StoreText.l6, br_dec, if_pos h2, if_pos h4, Int.toNat_natCast, List.getElem?_eq_getElem hj, bd_some, decimal_is k s.2.2.1[i][j] hfj.1 hfj.2, if_pos h5]
    rw [wrap_succ (by omega), ← List.take_append_getElem hj, List.map_append, List.append_assoc]
    rfl) (fun G => by
    have h2 : ¬ ((s.2.2.1[i].length : Int) < (s.2.2.1[i].length : Int)) := by omega
    simp only [impl_StoreText.l6, br_dec, if_neg h2, List.take_length]
    rw [wrap_succ (by omega)]) (f := k) (by omega)
  simp only [List.take_zero, List.map_nil, List.append_nil] at h
  exact h

theorem implStore_l4 (k : Nat) (hk : 4194304 < k) (hk2 : k ≤ 4611686018427387903) (d : DeclT) (hd : DSmall d) (s : StoreT) (hs : SSmall s) (hf : SFine d s) :
    iter (impl_StoreText.l4 k) k ((d.1, d.2.1, d.2.2.1, ()), (pr0 d s).flatMap tok0 ++ (pr1 d s).flatMap tok1, s.2.2.1, (s.2.2.1.length : Int), 0, ()) = some ((join (toks d s) [32], ()), ((), (), ())) := by
  have l0 := hf.l0
  have l1 := hf.l1
  have l2 := hf.l2
  have e2 := hf.e2
  have n2 := hs.n2
  have z0 : (pr0 d s).length ≤ 5 := by simp [pr0]; omega
  have z1 : (pr1 d s).length ≤ 3 := by simp [pr1]; omega
  have z2 : (pr2 d s).length = s.2.2.1.length := by simp [pr2]; omega
  have k0 := len0 (pr0 d s)
  have k1 := len1 (pr1 d s)
  obtain ⟨t1, t2⟩ := toks_small hd hs hf
  have h := iter_for (b := impl_StoreText.l4 k) (fun i => ((d.1, d.2.1, d.2.2.1, ()), ((pr0 d s).flatMap tok0 ++ (pr1 d s).flatMap tok1) ++ ((pr2 d s).take i).flatMap tok2, s.2.2.1, (s.2.2.1.length : Int), (i : Int), ())) s.2.2.1.length (r := some ((join (toks d s) [32], ()), ((), (), ()))) (fun G i hi => by
    have hi2 : i < d.2.2.1.length := by omega
    have hi3 : i < (pr2 d s).length := by omega
    have h2 : ((i : Int) < (s.2.2.1.length : Int)) := by omega
    have h3 : (0 : Int) ≤ (i : Int) := by omega
    have k2 := len2 (d := d) hs i
    have k3 : ((pr2 d s).take i).length ≤ 2 := by simp; omega
    have h5 : ((((pr0 d s).flatMap tok0 ++ (pr1 d s).flatMap tok1) ++ ((pr2 d s).take i).flatMap tok2).length + ([d.2.2.1[i].1] : List (List UInt8)).length) * 16 ≤ maxBytes := by
      simp only [List.length_append, List.length_cons, List.length_nil, maxBytes]; omega
    have eo : tok2 (pr2 d s)[i] = [d.2.2.1[i].1] ++ s.2.2.1[i].map itoa := by simp [pr2, tok2]
    simp only [impl_StoreText.l4, br_dec, if_pos h2, if_pos h3, Int.toNat_natCast, List.getElem?_eq_getElem hi, List.getElem?_eq_getElem hi2, bd_some, if_pos h5]
    rw [implRow k hk d s G _ hi n2 (by simp only [List.length_append, List.length_cons, List.length_nil]; omega) (hs.m2 _ (List.getElem_mem hi)) (hf.f2 _ (List.getElem_mem hi)), flat_step tok2 hi3, eo]
    simp only [List.append_assoc]) (fun G => by
    have h2 : ¬ ((s.2.2.1.length : Int) < (s.2.2.1.length : Int)) := by omega
    have ht : (pr2 d s).take s.2.2.1.length = pr2 d s := by rw [List.take_of_length_le (by omega)]
    have hj := lbJoin_is k (toks d s) [32] 1048576 t2 (by omega) (Nat.le_trans (Nat.mul_le_mul_right _ t1) (by decide))
    have hj' : Lb.Join k (((pr0 d s).flatMap tok0 ++ (pr1 d s).flatMap tok1) ++ (pr2 d s).flatMap tok2, [32], ()) = some ((join (toks d s) [32], ()), ((), (), ())) := hj
    simp only [impl_StoreText.l4, br_dec, if_neg h2, ht, hj', bd_some]) (f := k) (by omega)
  simp only [List.take_zero, List.flatMap_nil, List.append_nil] at h
  exact h

theorem implStore_l2 (k : Nat) (hk : 4194304 < k) (hk2 : k ≤ 4611686018427387903) (d : DeclT) (hd : DSmall d) (s : StoreT) (hs : SSmall s) (hf : SFine d s) :
    iter (impl_StoreText.l2 k) k ((d.1, d.2.1, d.2.2.1, ()), (s.1, s.2.1, s.2.2.1, ()), (pr0 d s).flatMap tok0, s.2.1, (s.2.1.length : Int), 0, ()) = some ((join (toks d s) [32], ()), ((), (), ())) := by
  have l0 := hf.l0
  have l1 := hf.l1
  have e1 := hf.e1
  have z0 : (pr0 d s).length ≤ 5 := by simp [pr0]; omega
  have z1 : (pr1 d s).length = s.2.1.length := by simp [pr1]; omega
  have k0 := len0 (pr0 d s)
  have h := iter_for (b := impl_StoreText.l2 k) (fun i => ((d.1, d.2.1, d.2.2.1, ()), (s.1, s.2.1, s.2.2.1, ()), (pr0 d s).flatMap tok0 ++ ((pr1 d s).take i).flatMap tok1, s.2.1, (s.2.1.length : Int), (i : Int), ())) s.2.1.length (r := some ((join (toks d s) [32], ()), ((), (), ()))) (fun G i hi => by
    have hi2 : i < d.2.1.length := by omega
    have hi3 : i < (pr1 d s).length := by omega
    have h2 : ((i : Int) < (s.2.1.length : Int)) := by omega
    have h3 : (0 : Int) ≤ (i : Int) := by omega
    have k2 := len1 ((pr1 d s).take i)
    have k3 : ((pr1 d s).take i).length ≤ 3 := by simp; omega
    have h5 : (((pr0 d s).flatMap tok0 ++ ((pr1 d s).take i).flatMap tok1).length + ([d.2.1[i], boolW s.2.1[i]] : List (List UInt8)).length) * 16 ≤ maxBytes := by
      simp only [List.length_append, List.length_cons, List.length_nil, maxBytes]; omega
    have eo : tok1 (pr1 d s)[i] = [d.2.1[i], boolW s.2.1[i]] := by simp [pr1, tok1]
    simp only [impl_StoreText.l2, br_dec, if_pos h2, if_pos h3, Int.toNat_natCast, List.getElem?_eq_getElem hi, List.getElem?_eq_getElem hi2, bd_some, formatBool_is, if_pos h5]
    rw [wrap_succ (by omega), flat_step tok1 hi3, eo, ← List.append_assoc]) (fun G => by
    have h2 : ¬ ((s.2.1.length : Int) < (s.2.1.length : Int)) := by omega
    have ht : (pr1 d s).take s.2.1.length = pr1 d s := by rw [List.take_of_length_le (by omega)]
    simp only [impl_StoreText.l2, br_dec, if_neg h2, ht]
    exact implStore_l4 k hk hk2 d hd s hs hf) (f := k) (by omega)
  simp only [List.take_zero, List.flatMap_nil, List.append_nil] at h
  exact h

theorem implStore_l0 (k : Nat) (hk : 4194304 < k) (hk2 : k ≤ 4611686018427387903) (d : DeclT) (hd : DSmall d) (s : StoreT) (hs : SSmall s) (hf : SFine d s) :
    iter (impl_StoreText.l0 k) k ((d.1, d.2.1, d.2.2.1, ()), (s.1, s.2.1, s.2.2.1, ()), ([] : List (List UInt8)), s.1, (s.1.length : Int), 0, ()) = some ((join (toks d s) [32], ()), ((), (), ())) := by
  have l0 := hf.l0
  have e0 := hf.e0
  have z0 : (pr0 d s).length = s.1.length := by simp [pr0]; omega
  have h := iter_for (b := impl_StoreText.l0 k) (fun i => ((d.1, d.2.1, d.2.2.1, ()), (s.1, s.2.1, s.2.2.1, ()), ((pr0 d s).take i).flatMap tok0, s.1, (s.1.length : Int), (i : Int), ())) s.1.length (r := some ((join (toks d s) [32], ()), ((), (), ()))) (fun G i hi => by
    have hi2 : i < d.1.length := by omega
    have hi3 : i < (pr0 d s).length := by omega
    have h2 : ((i : Int) < (s.1.length : Int)) := by omega
    have h3 : (0 : Int) ≤ (i : Int) := by omega
    have hfi := hf.f0 _ (List.getElem_mem hi)
    have k2 := len0 ((pr0 d s).take i)
    have k3 : ((pr0 d s).take i).length ≤ 5 := by simp; omega
    have h5 : ((((pr0 d s).take i).flatMap tok0).length + ([d.1[i], itoa s.1[i]] : List (List UInt8)).length) * 16 ≤ maxBytes := by
      simp only [List.length_cons, List.length_nil, maxBytes]; omega
    have eo : tok0 (pr0 d s)[i] = [d.1[i], itoa s.1[i]] := by simp [pr0, tok0]
    simp only [impl_StoreText.l0, br_dec, if_pos h2, if_pos h3, Int.toNat_natCast, List.getElem?_eq_getElem hi, List.getElem?_eq_getElem hi2, bd_some, decimal_is k s.1[i] hfi.1 hfi.2, if_pos h5]
    rw [wrap_succ (by omega), flat_step tok0 hi3, eo]) (fun G => by
    have h2 : ¬ ((s.1.length : Int) < (s.1.length : Int)) := by omega
    have ht : (pr0 d s).take s.1.length = pr0 d s := by rw [List.take_of_length_le (by omega)]
    simp only [impl_StoreText.l0, br_dec, if_neg h2, ht]
    exact implStore_l2 k hk hk2 d hd s hs hf) (f := k) (by omega)
  simp only [List.take_zero, List.flatMap_nil] at h
  exact h

theorem storeText_both (k : Nat) (hk : 4194304 < k) (hk2 : k ≤ 4611686018427387903) (d : DeclT) (hd : DSmall d) (s : StoreT) (hs : SSmall s) (hw : storeKd.WF s) :
    ∃ t, spec_StoreText k (d, s, ()) = some ((t, ()), ((), (), ())) ∧ impl_StoreText k (d, s, ()) = some ((t, ()), ((), (), ())) := by
  unfold spec_StoreText impl_StoreText
  simp only [specStoreOk_is k hk d hd s hs, implStoreOk_is k hk hk2 d hd s hs, bd_some]
  cases ho : storeOk d s with
  | false => exact ⟨[], by simp, by simp⟩
  | true =>
    have hf := sfine_of ho hw
    refine ⟨join (toks d s) [32], ?_, ?_⟩
    · rw [Bool.not_true, br_false]; exact specStore_l0 k hk hk2 d hd s hs hf
    · rw [Bool.not_true, br_false]; exact implStore_l0 k hk hk2 d hd s hs hf

theorem FnExactStoreText_true (x : DeclT × StoreT × Unit) (hw : WFs [declKd, storeKd] x) : ∃ k o, laws_FnExactStoreText k x = some ((true, ()), o) := by
  obtain ⟨d, s, ⟨⟩⟩ := x
  obtain ⟨hwd, hws, _⟩ := hw
  refine ⟨8388608, ((), (), ()), ?_⟩
  unfold laws_FnExactStoreText
  obtain ⟨r1, e1, p0, p1⟩ := szDecl_is 8388608 (by omega) d hwd
  simp only [e1, bd_some, br_dec]
  by_cases h1 : r1 < 0
  · rw [if_pos h1]
  rw [if_neg h1]
  have hd := p1 (by omega)
  obtain ⟨r2, e2, p2⟩ := szStore_is 8388608 (by omega) s hws r1 (by omega) (by omega)
  simp only [e2, bd_some]
  by_cases h2 : r2 < 0
  · rw [if_pos h2]
  rw [if_neg h2]
  have hs := p2 (by omega)
  obtain ⟨t, t1, t2⟩ := storeText_both 8388608 (by omega) (by omega) d hd s hs hws
  simp only [toDecl_is 8388608 d hd (by omega), toStore_is 8388608 s hs (by omega), bd_some]
  have t1' : spec_StoreText 8388608 ((d.1, d.2.1, d.2.2.1, ()), (s.1, s.2.1, s.2.2.1, ()), ()) = some ((t, ()), ((), (), ())) := t1
  have t2' : impl_StoreText 8388608 ((d.1, d.2.1, d.2.2.1, ()), (s.1, s.2.1, s.2.2.1, ()), ()) = some ((t, ()), ((), (), ())) := t2
  have q1 : laws_eqDecl 8388608 ((d.1, d.2.1, d.2.2.1, ()), (d.1, d.2.1, d.2.2.1, ()), ()) = some ((true, ()), ((), (), ())) := eqDecl_is 8388608 d hd (by omega)
  have q2 : laws_eqStore 8388608 ((s.1, s.2.1, s.2.2.1, ()), (s.1, s.2.1, s.2.2.1, ()), ()) = some ((true, ()), ((), (), ())) := eqStore_is 8388608 s hs (by omega)
  simp only [t1', t2', bd_some, BEq.rfl, Bool.not_true, br_false, q1, q2]
end Go.Pev.F
