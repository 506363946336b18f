/-
  Which names are right: the reference's test and the program's agree.
-/
import Derived.Test.YtgajbbadidobfaaDoorPureDecl
set_option linter.unusedVariables false
set_option linter.unusedSimpArgs false
namespace Go.Pev.F

def keys : Names := [[118, 97, 114], [102, 108, 97, 103], [97, 114, 114, 97, 121], [105, 102], [102, 111, 114, 107], [101, 108, 115, 101], [101, 110, 100], [119, 104, 105, 108, 101], [117, 110, 114, 111, 108, 108], [97, 115, 115, 101, 114, 116], [97, 115, 115, 117, 109, 101], [105, 110, 112, 117, 116], [115, 112, 108, 105, 116], [109, 101, 114, 103, 101], [116, 114, 117, 101], [102, 97, 108, 115, 101]]
def letter (b : UInt8) : Bool := decide (97 ≤ b.toNat ∧ b.toNat ≤ 122)
def nameOk (s : List UInt8) : Bool := s.all letter && (decide (1 ≤ s.length ∧ s.length ≤ 8) && !keys.contains s)

theorem l3Key_is (k : Nat) (hk : 1048576 < k) (s : List UInt8) : spec_l3Key k (s, ()) = some ((keys.contains s, ()), ((), ())) := by
  have h := iter_any (b := spec_l3Key.l0 k) (fun i => (s, keys, (i : Int), ())) keys (fun x => x == s) (rf := some ((true, ()), ((), ()))) (r := some ((false, ()), ((), ()))) (fun G i hi => by
    have h2 : ((i : Int) < (keys.length : Int)) := by omega
    have h3 : (0 : Int) ≤ (i : Int) ∧ ((i : Int) < (keys.length : Int)) := by omega
    have h4 : keys.length = 16 := rfl
    simp only [spec_l3Key.l0, br_dec, if_pos h2, if_pos h3, Int.toNat_natCast, List.getElem?_eq_getElem hi, bd_some]
    rw [wrap_succ (by omega)]
    cases h : (keys[i] == s) <;> simp) (fun G => by
    have h2 : ¬ ((keys.length : Int) < (keys.length : Int)) := by omega
    simp only [spec_l3Key.l0, br_dec, if_neg h2]) (f := k) (by show 16 < k; omega)
  unfold spec_l3Key
  refine Eq.trans h ?_
  rw [List.any_beq']
  cases keys.contains s <;> rfl

theorem l3Name_is (k : Nat) (hk : 1048576 < k) (s : List UInt8) (hs : s.length ≤ 1048576) : spec_l3Name k (s, ()) = some ((nameOk s, ()), ((), ())) := by
  have h := iter_any (b := spec_l3Name.l0 k) (fun i => (s, (i : Int), ())) s (fun b => !letter b) (rf := some ((false, ()), ((), ()))) (r := some ((decide (1 ≤ s.length ∧ s.length ≤ 8) && !keys.contains s, ()), ((), ()))) (fun G i hi => by
    have h2 : ((i : Int) < (s.length : Int)) := by omega
    have h3 : (0 : Int) ≤ (i : Int) := by omega
    simp only [spec_l3Name.l0, br_dec, if_pos h2, if_pos h3, Int.toNat_natCast, List.getElem?_eq_getElem hi, bd_some]
    rw [wrap_succ (by omega)]
    by_cases c1 : ((s[i].toNat : Int) < 97)
    · have : letter s[i] = false := by simp [letter]; omega
      simp [if_pos c1, this]
    · rw [if_neg c1]
      by_cases c2 : ((s[i].toNat : Int) > 122)
      · have : letter s[i] = false := by simp [letter]; omega
        have c2' : decide ((s[i].toNat : Int) > 122) = true := decide_eq_true c2
        simp only [Option.bind_some, c2', br_true, this, Bool.not_false, if_true]
      · have : letter s[i] = true := by simp [letter]; omega
        have c2' : decide ((s[i].toNat : Int) > 122) = false := decide_eq_false c2
        simp only [Option.bind_some, c2', br_false, this, Bool.not_true, Bool.false_eq_true, if_false]) (fun G => by
    have h2 : ¬ ((s.length : Int) < (s.length : Int)) := by omega
    simp only [spec_l3Name.l0, br_dec, if_neg h2, l1In_is, l3Key_is k hk, bd_some]
    by_cases c : 1 ≤ s.length ∧ s.length ≤ 8
    · have c' : (1 : Int) ≤ (s.length : Int) ∧ (s.length : Int) ≤ 8 := by omega
      simp only [if_pos c', Option.bind_some, decide_eq_true c, Bool.true_and]
    · have c' : ¬ ((1 : Int) ≤ (s.length : Int) ∧ (s.length : Int) ≤ 8) := by omega
      simp only [if_neg c', Option.bind_some, decide_eq_false c, Bool.false_and]) (f := k) (by omega)
  unfold spec_l3Name
  refine Eq.trans h ?_
  unfold nameOk
  rw [show s.any (fun b => !letter b) = !s.all letter by rw [List.not_all_eq_any_not]]
  cases s.all letter <;> simp

theorem l3Place_is (k : Nat) (l : Names) (v : List UInt8) (hl : l.length ≤ 4194304) (hk : 4194304 < k) : ∃ n : Int, spec_l3Place k (l, v, ()) = some ((n, ()), ((), (), ())) ∧ decide (n ≥ 0) = l.contains v := by
  obtain ⟨n, h1, h2⟩ := iter_find (b := spec_l3Place.l0 k) (fun i => (l, v, (i : Int), ())) l (fun x => x == v) (o := ((), (), ())) (fun G i hi => by
    have h2 : ((i : Int) < (l.length : Int)) := by omega
    have h3 : (0 : Int) ≤ (i : Int) := by omega
    simp only [spec_l3Place.l0, br_dec, if_pos h2, if_pos h3, Int.toNat_natCast, List.getElem?_eq_getElem hi, bd_some]
    rw [wrap_succ (by omega)]
    cases h : (l[i] == v) <;> simp) (fun G => by
    have h2 : ¬ ((l.length : Int) < (l.length : Int)) := by omega
    simp only [spec_l3Place.l0, br_dec, if_neg h2]) (f := k) (by omega)
  refine ⟨n, h1, ?_⟩
  rw [h2, List.any_beq']

theorem slicesContains_is (k : Nat) (l : Names) (v : List UInt8) (hl : l.length ≤ 4194304) (hk : 4194304 < k) : slices_Contains_string_string k (l, v, ()) = some ((l.contains v, ()), ((), (), ())) := by
  obtain ⟨n, h1, h2⟩ := iter_find (b := slices_Index_string_string.l0 k) (fun i => (l, v, (l.length : Int), (i : Int), ())) l (fun x => x == v) (o := ((), (), ())) (fun G i hi => by
    have h2 : ((i : Int) < (l.length : Int)) := by omega
    have h3 : (0 : Int) ≤ (i : Int) := by omega
    simp only [slices_Index_string_string.l0, br_dec, if_pos h2, if_pos h3, Int.toNat_natCast, List.getElem?_eq_getElem hi, bd_some]
    rw [wrap_succ (by omega), show (v == l[i]) = (l[i] == v) from BEq.comm]
    cases h : (l[i] == v) <;> simp) (fun G => by
    have h2 : ¬ ((l.length : Int) < (l.length : Int)) := by omega
    simp only [slices_Index_string_string.l0, br_dec, if_neg h2]) (f := k) (by omega)
  unfold slices_Contains_string_string slices_Index_string_string
  have h1' : iter (slices_Index_string_string.l0 k) k (l, v, (l.length : Int), 0, ()) = some ((n, ()), ((), (), ())) := h1
  simp only [h1', bd_some]
  rw [h2, List.any_beq']

theorem isWord_is (k : Nat) (hk : 4194304 < k) (s : List UInt8) : impl_isWord k (s, ()) = some ((keys.contains s, ()), ((), ())) := by
  unfold impl_isWord
  have h : Lb.Fields k ([118, 97, 114, 32, 102, 108, 97, 103, 32, 97, 114, 114, 97, 121, 32, 105, 102, 32, 102, 111, 114, 107, 32, 101, 108, 115, 101, 32, 101, 110, 100, 32, 119, 104, 105, 108, 101, 32, 117, 110, 114, 111, 108, 108, 32, 97, 115, 115, 101, 114, 116, 32, 97, 115, 115, 117, 109, 101, 32, 105, 110, 112, 117, 116, 32, 115, 112, 108, 105, 116, 32, 109, 101, 114, 103, 101, 32, 116, 114, 117, 101, 32, 102, 97, 108, 115, 101], ()) = some ((keys, ()), ((), ())) := by
    unfold Lb.Fields
    rw [if_pos (by decide +kernel)]
    have : Go.Lib.fields [118, 97, 114, 32, 102, 108, 97, 103, 32, 97, 114, 114, 97, 121, 32, 105, 102, 32, 102, 111, 114, 107, 32, 101, 108, 115, 101, 32, 101, 110, 100, 32, 119, 104, 105, 108, 101, 32, 117, 110, 114, 111, 108, 108, 32, 97, 115, 115, 101, 114, 116, 32, 97, 115, 115, 117, 109, 101, 32, 105, 110, 112, 117, 116, 32, 115, 112, 108, 105, 116, 32, 109, 101, 114, 103, 101, 32, 116, 114, 117, 101, 32, 102, 97, 108, 115, 101] = keys := by decide +kernel
    rw [this]
  simp only [h, bd_some]
  rw [slicesContains_is k keys s (by decide) hk]
  simp

theorem isName_is (k : Nat) (hk : 4194304 < k) (s : List UInt8) (hs : s.length ≤ 1048576) : impl_isName k (s, ()) = some ((nameOk s, ()), ((), ())) := by
  have h := iter_any (b := impl_isName.l0 k) (fun i => (s, (s.length : Int), (i : Int), ())) s (fun b => !letter b) (rf := some ((false, ()), ((), ()))) (r := some ((decide (1 ≤ s.length ∧ s.length ≤ 8) && !keys.contains s, ()), ((), ()))) (fun G i hi => by
    have h2 : ((i : Int) < (s.length : Int)) := by omega
    have h3 : (0 : Int) ≤ (i : Int) := by omega
    simp only [impl_isName.l0, impl_isLetter, br_dec, if_pos h2, if_pos h3, Int.toNat_natCast, List.getElem?_eq_getElem hi, bd_some]
    rw [wrap_succ (by omega)]
    by_cases c1 : ((s[i].toNat : Int) ≥ 97)
    · rw [if_pos c1]
      by_cases c2 : ((s[i].toNat : Int) ≤ 122)
      · have : letter s[i] = true := by simp [letter]; omega
        have c2' : decide ((s[i].toNat : Int) ≤ 122) = true := decide_eq_true c2
        simp only [Option.bind_some, c2', bd_some, br_false, this, Bool.not_true, Bool.false_eq_true, if_false]
      · have : letter s[i] = false := by simp [letter]; omega
        have c2' : decide ((s[i].toNat : Int) ≤ 122) = false := decide_eq_false c2
        simp only [Option.bind_some, c2', bd_some, br_true, this, Bool.not_false, if_true]
    · rw [if_neg c1]
      have : letter s[i] = false := by simp [letter]; omega
      simp only [Option.bind_some, bd_some, br_true, this, Bool.not_false, if_true]) (fun G => by
    have h2 : ¬ ((s.length : Int) < (s.length : Int)) := by omega
    simp only [impl_isName.l0, br_dec, if_neg h2, within_is, isWord_is k hk, bd_some]
    by_cases c : 1 ≤ s.length ∧ s.length ≤ 8
    · have c' : (1 : Int) ≤ (s.length : Int) ∧ (s.length : Int) ≤ 8 := by omega
      simp only [if_pos c', Option.bind_some, decide_eq_true c, Bool.true_and]
    · have c' : ¬ ((1 : Int) ≤ (s.length : Int) ∧ (s.length : Int) ≤ 8) := by omega
      simp only [if_neg c', Option.bind_some, decide_eq_false c, Bool.false_and]) (f := k) (by omega)
  unfold impl_isName
  refine Eq.trans h ?_
  unfold nameOk
  rw [show s.any (fun b => !letter b) = !s.all letter by rw [List.not_all_eq_any_not]]
  cases s.all letter <;> simp

/-! ### Lists of names -/

def badAt (l : Names) (i : Nat) : Bool := !nameOk (l.getD i []) || (l.take i).contains (l.getD i [])
def namesOk (l : Names) : Bool := !(List.range l.length).any (badAt l)
def arrsOk (l : List ArrT) : Bool := !l.any fun a => !decide (1 ≤ a.2.1 ∧ a.2.1 ≤ 16)
def namesOf (d : DeclT) : Names := (d.1 ++ d.2.1) ++ d.2.2.1.map (·.1)
def declOk (d : DeclT) : Bool := decide (d.1.length ≤ 5 ∧ d.2.1.length ≤ 3 ∧ d.2.2.1.length ≤ 2) && (arrsOk d.2.2.1 && namesOk (namesOf d))

theorem namesOf_small {d : DeclT} (hd : DSmall d) : (namesOf d).length ≤ 3145728 ∧ ∀ x ∈ namesOf d, x.length ≤ 1048576 := by
  have h0 := hd.n0
  have h1 := hd.n1
  have h2 := hd.n2
  refine ⟨by simp [namesOf]; omega, fun x hx => ?_⟩
  simp only [namesOf, List.mem_append, List.mem_map] at hx
  rcases hx with (hx | hx) | ⟨y, hy, rfl⟩
  · exact hd.s0 x hx
  · exact hd.s1 x hx
  · exact hd.s2 y hy

theorem declOk_l2 (k : Nat) (hk : 4194304 < k) (l : Names) (hl : l.length ≤ 3145728) (hs : ∀ x ∈ l, x.length ≤ 1048576) : iter (spec_DeclOk.l2 k) k (l, 0, ()) = some ((namesOk l, ()), ((), ())) := by
  have h := iter_range (b := spec_DeclOk.l2 k) (fun i => (l, (i : Int), ())) l.length (badAt l) (rf := some ((false, ()), ((), ()))) (r := some ((true, ()), ((), ()))) (fun G i hi => by
    have h2 : ((i : Int) < (l.length : Int)) := by omega
    have h3 : (0 : Int) ≤ (i : Int) ∧ (i : Int) < (l.length : Int) := by omega
    have h4 : (0 : Int) ≤ (i : Int) ∧ (i : Int) ≤ (l.length : Int) := by omega
    have e : subL l ((0 : Int).toNat) (i - (0 : Int).toNat) = l.take i := by simp [subL]
    obtain ⟨n, e1, e2⟩ := l3Place_is k (l.take i) l[i] (by simp; omega) hk
    have hg : l.getD i [] = l[i] := by simp [List.getD, List.getElem?_eq_getElem hi]
    simp only [spec_DeclOk.l2, br_dec, if_pos h2, if_pos h3, if_pos h4, Int.toNat_natCast, List.getElem?_eq_getElem hi, bd_some, l3Name_is k (by omega) l[i] (hs _ (List.getElem_mem _)), e, e1, e2]
    rw [wrap_succ (by omega), badAt, hg]
    cases nameOk l[i] <;> cases (l.take i).contains l[i] <;> simp) (fun G => by
    have h2 : ¬ ((l.length : Int) < (l.length : Int)) := by omega
    simp only [spec_DeclOk.l2, br_dec, if_neg h2]) (f := k) (by omega)
  refine Eq.trans h ?_
  unfold namesOk
  cases (List.range l.length).any (badAt l) <;> rfl

theorem specDeclOk_is (k : Nat) (hk : 4194304 < k) (d : DeclT) (hd : DSmall d) : spec_DeclOk k (d, ()) = some ((declOk d, ()), ((), ())) := by
  unfold spec_DeclOk declOk
  simp only [br_dec]
  by_cases c0 : (d.1.length : Int) > 5
  · rw [if_pos c0]
    have : decide (d.1.length ≤ 5 ∧ d.2.1.length ≤ 3 ∧ d.2.2.1.length ≤ 2) = false := by simp; omega
    simp [this]
  rw [if_neg c0]
  by_cases c1 : (d.2.1.length : Int) > 3
  · rw [if_pos c1]
    have : decide (d.1.length ≤ 5 ∧ d.2.1.length ≤ 3 ∧ d.2.2.1.length ≤ 2) = false := by simp; omega
    simp [this]
  rw [if_neg c1]
  by_cases c2 : (d.2.2.1.length : Int) > 2
  · have : decide (d.1.length ≤ 5 ∧ d.2.1.length ≤ 3 ∧ d.2.2.1.length ≤ 2) = false := by simp; omega
    have c2' : decide ((d.2.2.1.length : Int) > 2) = true := decide_eq_true c2
    simp only [Option.bind_some, c2', br_true, this, Bool.false_and]
  have c2' : decide ((d.2.2.1.length : Int) > 2) = false := decide_eq_false c2
  have hc : decide (d.1.length ≤ 5 ∧ d.2.1.length ≤ 3 ∧ d.2.2.1.length ≤ 2) = true := by simp; omega
  simp only [Option.bind_some, c2', br_false, hc, Bool.true_and]
  have l1 : (([] : List (List UInt8)).length + d.1.length) * 16 ≤ maxBytes := by simp [maxBytes]; omega
  have l2 : ((([] : List (List UInt8)) ++ d.1).length + d.2.1.length) * 16 ≤ maxBytes := by simp [maxBytes]; omega
  rw [if_pos l1, if_pos l2]
  obtain ⟨hn, hs⟩ := namesOf_small hd
  have h := iter_any (b := spec_DeclOk.l0 k) (fun i => ((d.1, d.2.1, d.2.2.1, ()), ((([] : List (List UInt8)) ++ d.1) ++ d.2.1) ++ (d.2.2.1.take i).map (·.1), (i : Int), ())) d.2.2.1 (fun a => !decide (1 ≤ a.2.1 ∧ a.2.1 ≤ 16)) (rf := some ((false, ()), ((), ()))) (r := some ((namesOk (namesOf d), ()), ((), ()))) (fun G i hi => by
    have h2 : ((i : Int) < (d.2.2.1.length : Int)) := by omega
    have h3 : (0 : Int) ≤ (i : Int) := by omega
    have h4 : (((([] : List (List UInt8)) ++ d.1) ++ d.2.1 ++ (d.2.2.1.take i).map (·.1)).length + ([d.2.2.1[i].1] : List (List UInt8)).length) * 16 ≤ maxBytes := by simp [maxBytes]; omega
    simp only [spec_DeclOk.l0, br_dec, if_pos h2, if_pos h3, Int.toNat_natCast, List.getElem?_eq_getElem hi, bd_some, l1In_is, if_pos h4]
    rw [wrap_succ (by omega), ← List.take_append_getElem hi, List.map_append, List.append_assoc (bs := List.map _ _)]
    cases decide (1 ≤ d.2.2.1[i].2.1 ∧ d.2.2.1[i].2.1 ≤ 16) <;> simp) (fun G => by
    have h2 : ¬ ((d.2.2.1.length : Int) < (d.2.2.1.length : Int)) := by omega
    simp only [spec_DeclOk.l0, br_dec, if_neg h2, List.take_length]
    exact declOk_l2 k hk (namesOf d) hn hs) (f := k) (by omega)
  simp only [List.take_zero, List.map_nil, List.append_nil] at h
  refine Eq.trans h ?_
  unfold arrsOk
  cases d.2.2.1.any (fun a => !decide (1 ≤ a.2.1 ∧ a.2.1 ≤ 16)) <;> simp
end Go.Pev.F
