/-
  One step: the reference's.
-/
import Derived.Test.YtibhfjdhhdjjcaaGreatDoorK17
import Derived.Test.YtibhfjdhhdjjcaaGreatDoorK03
import Derived.Test.YtibhfjdhhdjjcaaGreatDoorK16
set_option linter.unusedSimpArgs false
set_option linter.unusedVariables false
section
namespace Go.Pev.F
theorem copy_is (k : Nat) (hk : 4194304 < k) {d : DeclT} {s : StoreT} (hs : SOk d s) (hd : d.1.length ≤ 1000 ∧ d.2.1.length ≤ 1000 ∧ d.2.2.1.length ≤ 1000) : z36 k (s, ()) = some ((s, ()), ((), ())) := by
 obtain ⟨s0, s1, s2, ⟨⟩⟩ := s
 have n0 := hs.n0
 have n1 := hs.n1
 have n2 := hs.n2
 have m2 := hs.m2
 simp only at n0 n1 n2 m2
 have c0 : (([] : List Int).length + s0.length) * 8 ≤ maxBytes := by simp only [List.length_nil, maxBytes]; omega
 have c1 : (([] : List Bool).length + s1.length) * 1 ≤ maxBytes := by simp only [List.length_nil, maxBytes]; omega
 have gen : ∀ (n i f : Nat), i + n = s2.length → n < f → iter (z36.l0 k) f ((s0, s1, s2, ()), ([], [], ([] : List (List Int)), ()), (s0, s1, s2.take i, ()), (i : Int), ()) = some (((s0, s1, s2, ()), ()), ((), ())) := by
  intro n
  induction n with
  | zero =>
   intro i f hi hf
   obtain ⟨f, rfl⟩ : ∃ g, f = g + 1 := ⟨f - 1, by omega⟩
   have h2 : ¬ ((i : Int) < (s2.length : Int)) := by omega
   rw [iter_succ]
   simp only [z36.l0, br_dec, if_neg h2]
   rw [List.take_of_length_le (by omega)]
  | succ n ih =>
   intro i f hi hf
   obtain ⟨f, rfl⟩ : ∃ g, f = g + 1 := ⟨f - 1, by omega⟩
   have hlt : i < s2.length := by omega
   have h2 : ((i : Int) < (s2.length : Int)) := by omega
   have h3 : (0 : Int) ≤ (i : Int) := by omega
   have hm := m2 _ (List.getElem_mem hlt)
   have c2 : (([] : List Int).length + s2[i].length) * 8 ≤ maxBytes := by simp only [List.length_nil, maxBytes]; omega
   have c3 : ((s2.take i).length + ([s2[i]] : List (List Int)).length) * 24 ≤ maxBytes := by simp only [List.length_take, List.length_cons, List.length_nil, maxBytes]; omega
   rw [iter_succ]
   simp only [z36.l0, br_dec, if_pos h2, if_pos h3, Int.toNat_natCast, List.getElem?_eq_getElem hlt, bd_some, if_pos c2, if_pos c3, List.nil_append]
   rw [wrap_succ (by omega), List.take_append_getElem hlt]
   exact ih (i + 1) f (by omega) (by omega)
 unfold z36
 simp only [br_dec, if_pos c0, if_pos c1, List.nil_append]
 exact gen s2.length 0 k (by omega) (by omega)
theorem specInput_is (k : Nat) (n : LineT) (he : endsB n.2.2.2.2.1 n.2.2.2.2.2.1 = true) (inp : List Int) (hinp : inp.length ≤ 1000) {used : Int} (h0 : 0 ≤ used) : z155 k (n, inp, used, ()) = some (((inV n.2.2.2.2.1 n.2.2.2.2.2.1 inp used).1, (inV n.2.2.2.2.1 n.2.2.2.2.2.1 inp used).2, ()), ((), (), (), ())) := by
 obtain ⟨kd, v, I, E, lo, hi, ⟨⟩⟩ := n
 have h := ends_fits he
 simp only at h
 have w1 : IntKind.wrap .i64 (IntKind.wrap .i64 (hi - lo) + 1) = hi - lo + 1 := by rw [wrap_i64 (n := hi - lo) (by omega) (by omega), wrap_i64 (by omega) (by omega)]
 unfold z155 inV
 simp only [br_dec, w1]
 by_cases hu : used ≥ (inp.length : Int)
 ·simp only [if_pos hu]
 ·have ul : used.toNat < inp.length := by omega
  have hz : decide (hi - lo + 1 = 0) = false := decide_eq_false (by omega)
  obtain ⟨t1, t2⟩ := tmod_abs (inp[used.toNat]) (show 1 ≤ hi - lo + 1 by omega)
  have w2 : IntKind.wrap .i64 (inp[used.toNat].tmod (hi - lo + 1) + (hi - lo + 1)) = inp[used.toNat].tmod (hi - lo + 1) + (hi - lo + 1) := wrap_i64 (by omega) (by omega)
  have wu : IntKind.wrap .i64 (used + 1) = used + 1 := wrap_i64 (by omega) (by omega)
  have et : (inp[used.toNat].tmod (hi - lo + 1) + (hi - lo + 1)).tmod (hi - lo + 1) = if inp[used.toNat].tmod (hi - lo + 1) < 0 then inp[used.toNat].tmod (hi - lo + 1) + (hi - lo + 1) else inp[used.toNat].tmod (hi - lo + 1) := by
   rw [Int.tmod_eq_emod_of_nonneg (by omega)]
   split
   ·exact Int.emod_eq_of_lt (by omega) (by omega)
   ·have : (inp[used.toNat].tmod (hi - lo + 1) + (hi - lo + 1)) % (hi - lo + 1) = inp[used.toNat].tmod (hi - lo + 1) % (hi - lo + 1) := by simp
    rw [this]
    exact Int.emod_eq_of_lt (by omega) (by omega)
  have ex : IntKind.wrap .i64 (lo + (inp[used.toNat].tmod (hi - lo + 1) + (hi - lo + 1)).tmod (hi - lo + 1)) = inX lo hi inp[used.toNat] := by
   rw [et]
   unfold inX
   split
   ·exact wrap_i64 (by omega) (by omega)
   ·exact wrap_i64 (by omega) (by omega)
  simp only [if_neg hu, if_pos h0, List.getElem?_eq_getElem ul, bd_some, hz, Bool.not_false, br_true, w2, ex, wu, getD_get ul]
def SpecR (q : Int × StoreT × Int × Int) (r : Option ((Int × StoreT × Int × Int × Unit) × (Unit × Unit × Unit × Unit × Unit × Unit × Unit × Unit))) : Prop := r = some ((q.1, q.2.1, q.2.2.1, q.2.2.2, ()), ((), (), (), (), (), (), (), ()))
theorem SpecR.to {q q' : Int × StoreT × Int × Int} {r : Option ((Int × StoreT × Int × Int × Unit) × (Unit × Unit × Unit × Unit × Unit × Unit × Unit × Unit))} (h : SpecR q r) (e : q = q') : SpecR q' r := e ▸ h
theorem h8_bad (k : Nat) (nx cur : Int) (inp : List Int) (used : Int) (n : LineT) (s t : StoreT) (i e code : Int) (hc : code ≠ 0) :
  SpecR (cur, s, used, code) (z15.h8 k (nx, cur, inp, used, (n.1, n.2.1, n.2.2.1, n.2.2.2.1, n.2.2.2.2.1, n.2.2.2.2.2.1, ()), (s.1, s.2.1, s.2.2.1, ()), (t.1, t.2.1, t.2.2.1, ()), i, e, code, ())) := by
 have b : (code != 0) = true := by simpa using hc
 unfold SpecR
 simp only [z15.h8, b, br_true]
theorem h8_good (k : Nat) (hk : 4194304 < k) {d : DeclT} (hd : d.1.length ≤ 1000 ∧ d.2.1.length ≤ 1000 ∧ d.2.2.1.length ≤ 1000) {n : LineT} (hn : LineV d n) (inp : List Int) (hinp : inp.length ≤ 1000) (nx : Int) (cur : Nat) (hcur : cur < 1000) {used : Int} (h0 : 0 ≤ used) {s : StoreT} (hs : SOk d s) (t : StoreT) (i e : Int)
  (h3 : n.1 = 3 → evalV s [] n.2.2.1 = (i, 0)) (hE : wantE n.1 > 0 → evalV s [] n.2.2.2.1 = (e, 0)) :
  SpecR (stepV n inp nx cur used s) (z15.h8 k (nx, (cur : Int), inp, used, (n.1, n.2.1, n.2.2.1, n.2.2.2.1, n.2.2.2.2.1, n.2.2.2.2.2.1, ()), (s.1, s.2.1, s.2.2.1, ()), (t.1, t.2.1, t.2.2.1, ()), i, e, 0, ())) := by
 have hcp : z36 k ((s.1, s.2.1, s.2.2.1, ()), ()) = some ((s, ()), ((), ())) := copy_is k hk hs hd
 have ew := wrap_succ (i := cur) (by omega)
 have hvar := hn.var
 have hflag := hn.flag
 have harr := hn.arr
 have hends := hn.ends
 have n0 := hs.n0
 have n1 := hs.n1
 have n2 := hs.n2
 obtain ⟨kd, v, I, E, lo, hi, ⟨⟩⟩ := n
 have hk14 := hn.kind
 simp only at hk14 hvar hflag harr hends h3 hE
 rcases kind_cases kd with rfl | rfl | rfl | rfl | rfl | rfl | rfl | rfl | rfl | rfl | rfl | rfl | rfl | rfl | hkk
 case inr.inr.inr.inr.inr.inr.inr.inr.inr.inr.inr.inr.inr.inr => omega
 all_goals (simp only [z15.h8, z15.h28, z15.h30, jn_eq, hcp, bd_some, br_beq, br_dec, Int.reduceEq, ↓reduceIte, Int.reduceBNe, Int.reduceBEq, br_true, br_false, Option.bind_some, bne_self_eq_false, ew])
 ·obtain ⟨v0, v1⟩ := hvar (by omega)
  have vl : v.toNat < s.1.length := by omega
  have c2 : 0 ≤ v ∧ v < (s.1.length : Int) := by omega
  have hE := hE (by decide)
  simp only [if_pos c2, List.getElem?_eq_getElem vl, bd_some, SpecR, stepV, wantE, hE]
  simp
 ·obtain ⟨v0, v1⟩ := hflag rfl
  have vl : v.toNat < s.2.1.length := by omega
  have c2 : 0 ≤ v ∧ v < (s.2.1.length : Int) := by omega
  have hE := hE (by decide)
  simp only [if_pos c2, List.getElem?_eq_getElem vl, bd_some, SpecR, stepV, wantE, hE]
  simp
 ·obtain ⟨⟨v0, v1⟩, _⟩ := harr rfl
  have vl : v.toNat < s.2.2.1.length := by omega
  have c2 : 0 ≤ v ∧ v < (s.2.2.1.length : Int) := by omega
  have hE := hE (by decide)
  have h3 := h3 rfl
  have hm := hs.m2 _ (List.getElem_mem vl)
  have er : rowV s v = s.2.2.1[v.toNat] := by unfold rowV; exact getD_get vl _
  simp only [if_pos v0, if_pos c2, List.getElem?_eq_getElem vl, bd_some, l1In_is]
  rw [wrap_i64 (n := ((s.2.2.1[v.toNat]).length : Int) - 1) (by omega) (by omega)]
  by_cases hr : 0 ≤ i ∧ i ≤ ((s.2.2.1[v.toNat]).length : Int) - 1
  ·have q : 0 ≤ i ∧ i < ((s.2.2.1[v.toNat]).length : Int) := by omega
   have q2 : i.toNat < (s.2.2.1[v.toNat]).length := by omega
   simp only [decide_eq_true hr, Bool.not_true, br_false, if_pos q, List.getElem?_eq_getElem q2, bd_some, SpecR, stepV, h3, hE, er]
   simp [hr]
  ·simp only [decide_eq_false hr, Bool.not_false, br_true, SpecR, stepV, h3, hE, er]
   simp [hr]
 ·obtain ⟨v0, v1⟩ := hvar (by omega)
  have vl : v.toNat < s.1.length := by omega
  have c2 : 0 ≤ v ∧ v < (s.1.length : Int) := by omega
  have hi' := specInput_is k (4, v, I, E, lo, hi, ()) (hends rfl) inp hinp h0
  simp only [hi', if_pos c2, List.getElem?_eq_getElem vl, bd_some, SpecR, stepV, wantE]
  simp
 ·have hE := hE (by decide)
  by_cases hz : e = 1 <;> simp [SpecR, stepV, wantE, hE, hz]
 ·have hE := hE (by decide)
  by_cases hz : e = 1 <;> simp [SpecR, stepV, wantE, hE, hz]
 ·simp [SpecR, stepV, wantE]
 ·simp [SpecR, stepV, wantE]
 ·have hE := hE (by decide)
  by_cases hz : e = 1 <;> simp [SpecR, stepV, wantE, hE, hz]
 ·have hE := hE (by decide)
  by_cases hz : e = 1 <;> simp [SpecR, stepV, wantE, hE, hz]
 ·have hE := hE (by decide)
  by_cases hz : e = 0 <;> simp [SpecR, stepV, wantE, hE, hz]
 ·have hE := hE (by decide)
  by_cases hz : e = 0 <;> simp [SpecR, stepV, wantE, hE, hz]
 ·simp [SpecR, stepV, wantE]
 ·simp [SpecR, stepV, wantE]
theorem h6_is (k : Nat) (hk : 4194304 < k) {d : DeclT} (hd : d.1.length ≤ 1000 ∧ d.2.1.length ≤ 1000 ∧ d.2.2.1.length ≤ 1000) {n : LineT} (hn : LineV d n) (inp : List Int) (hinp : inp.length ≤ 1000) (nx : Int) (cur : Nat) (hcur : cur < 1000) {used : Int} (h0 : 0 ≤ used) {s : StoreT} (hs : SOk d s) (t : StoreT) (i : Int)
  (h3 : n.1 = 3 → evalV s [] n.2.2.1 = (i, 0)) :
  SpecR (stepV n inp nx cur used s) (z15.h6 k (nx, (cur : Int), inp, used, (n.1, n.2.1, n.2.2.1, n.2.2.2.1, n.2.2.2.2.1, n.2.2.2.2.2.1, ()), (s.1, s.2.1, s.2.2.1, ()), (t.1, t.2.1, t.2.2.1, ()), i, 0, 0, ())) := by
 have hs' : ((s.1, s.2.1, s.2.2.1, ()) : StoreT) = s := rfl
 simp only [z15.h6, jn_eq, nil_gt, beq_self_eq_true]
 by_cases hw : wantE n.1 > 0
 ·have hx := hn.ex hw
  have eE : z16 k (n.2.2.2.1, (s.1, s.2.1, s.2.2.1, ()), ()) = _ := (eval_both k hk hs n.2.2.2.1 hx).1
  simp only [expr_some hx, Bool.not_false, br_true, Option.bind_some, eE, bd_some]
  by_cases hc : (evalV s [] n.2.2.2.1).2 = 0
  ·rw [hc]
   exact h8_good k hk hd hn inp hinp nx cur hcur h0 hs t i _ h3 (fun _ => Prod.ext rfl hc)
  ·refine SpecR.to (h8_bad k nx cur inp used n s t i _ _ hc) ?_
   unfold stepV
   by_cases h3' : n.1 = 3
   ·rw [if_pos h3', h3 h3', if_neg (by simp), if_pos hc]
   ·rw [if_neg h3', if_pos ⟨hw, hc⟩]
 ·simp only [hn.noE hw, Bool.not_true, br_false, Option.bind_some]
  exact h8_good k hk hd hn inp hinp nx cur hcur h0 hs t i _ h3 (fun h => absurd h hw)
theorem specStep_is (k : Nat) (hk : 4194304 < k) {d : DeclT} (hd : d.1.length ≤ 1000 ∧ d.2.1.length ≤ 1000 ∧ d.2.2.1.length ≤ 1000) {n : LineT} (hn : LineV d n) (p : ProgT) (inp : List Int) (hinp : inp.length ≤ 1000) (nx : Int) (cur : Nat) (hcur : cur < 1000) {used : Int} (h0 : 0 ≤ used) {s : StoreT} (hs : SOk d s) :
  SpecR (stepV n inp nx cur used s) (z15 k (p, nx, n, (cur : Int), s, inp, used, ())) := by
 have hs' : ((s.1, s.2.1, s.2.2.1, ()) : StoreT) = s := rfl
 unfold z15
 simp only [nil_gt, jn_eq]
 by_cases h3 : n.1 = 3
 ·obtain ⟨_, hx⟩ := hn.arr h3
  have eI : z16 k (n.2.2.1, s, ()) = _ := (eval_both k hk hs n.2.2.1 hx).1
  simp only [expr_some hx, Bool.not_false, br_true, eI, bd_some]
  by_cases hc : (evalV s [] n.2.2.1).2 = 0
  ·rw [hc]
   exact h6_is k hk hd hn inp hinp nx cur hcur h0 hs ([], [], [], ()) _ (fun _ => Prod.ext rfl hc)
  ·have b : ((evalV s [] n.2.2.1).2 == 0) = false := by simpa using hc
   have hxE := hn.ex (by rw [h3]; decide)
   simp only [z15.h6, jn_eq, nil_gt, expr_some hxE, Bool.not_false, br_true, Option.bind_some, b, br_false]
   refine SpecR.to (h8_bad k nx cur inp used n s ([], [], [], ()) _ 0 _ hc) ?_
   unfold stepV
   rw [if_pos h3, if_pos hc]
 ·simp only [hn.noI h3, Bool.not_true, br_false]
  exact h6_is k hk hd hn inp hinp nx cur hcur h0 hs ([], [], [], ()) _ (fun h => absurd h h3)
end Go.Pev.F
end

section
/-
 Runs, in plain words; what they keep.
-/
namespace Go.Pev.F
abbrev OutT : Type := Int × Int × List Int × List Bool × List (List Int) × Int × Int × Unit
def outS (o : OutT) : StoreT := (o.2.2.1, o.2.2.2.1, o.2.2.2.2.1, ())
def outV (code ln : Int) (s : StoreT) (steps used : Int) : OutT := (code, ln, s.1, s.2.1, s.2.2.1, steps, used, ())
def runV (L : List LineT) (T inp : List Int) : Nat → Int → StoreT → Int → Int → OutT
 | 0, ln, s, steps, used => if ln < (L.length : Int) then outV 2 ln s steps used else outV 0 ln s steps used
 | r + 1, ln, s, steps, used =>
  if ln < (L.length : Int) then
   (if (stepV (L.getD ln.toNat lineD) inp (T.getD ln.toNat 0) ln used s).2.2.2 ≠ 0 then outV (stepV (L.getD ln.toNat lineD) inp (T.getD ln.toNat 0) ln used s).2.2.2 (stepV (L.getD ln.toNat lineD) inp (T.getD ln.toNat 0) ln used s).1 (stepV (L.getD ln.toNat lineD) inp (T.getD ln.toNat 0) ln used s).2.1 (steps + 1) (stepV (L.getD ln.toNat lineD) inp (T.getD ln.toNat 0) ln used s).2.2.1
   else runV L T inp r (stepV (L.getD ln.toNat lineD) inp (T.getD ln.toNat 0) ln used s).1 (stepV (L.getD ln.toNat lineD) inp (T.getD ln.toNat 0) ln used s).2.1 (steps + 1) (stepV (L.getD ln.toNat lineD) inp (T.getD ln.toNat 0) ln used s).2.2.1)
  else outV 0 ln s steps used
structure RunAt (d : DeclT) (L : List LineT) (T inp : List Int) (ln used : Int) (s : StoreT) : Prop where
 l30 : L.length ≤ 30
 lines : ∀ n ∈ L, LineV d n
 tlen : T.length = L.length
 tb : ∀ x ∈ T, 0 ≤ x ∧ x ≤ (L.length : Int)
 i1000 : inp.length ≤ 1000
 lnb : 0 ≤ ln ∧ ln ≤ (L.length : Int)
 use : 0 ≤ used ∧ used ≤ inp.length
 st : SOk d s
theorem RunAt.line {d : DeclT} {L : List LineT} {T inp : List Int} {ln used : Int} {s : StoreT} (h : RunAt d L T inp ln used s) (hl : ln < (L.length : Int)) : L[ln.toNat]? = some (L.getD ln.toNat lineD) ∧ T[ln.toNat]? = some (T.getD ln.toNat 0) ∧ L.getD ln.toNat lineD ∈ L ∧ T.getD ln.toNat 0 ∈ T := by
 have h0 := h.lnb
 have ht := h.tlen
 have a : ln.toNat < L.length := by omega
 have b : ln.toNat < T.length := by omega
 rw [getD_get a, getD_get b]
 exact ⟨List.getElem?_eq_getElem a, List.getElem?_eq_getElem b, List.getElem_mem a, List.getElem_mem b⟩
theorem RunAt.step {d : DeclT} {L : List LineT} {T inp : List Int} {ln used : Int} {s : StoreT} (h : RunAt d L T inp ln used s) (hl : ln < (L.length : Int)) : StepOk d (L.getD ln.toNat lineD) inp (T.getD ln.toNat 0) ln used s (stepV (L.getD ln.toNat lineD) inp (T.getD ln.toNat 0) ln used s) := by
 obtain ⟨_, _, h1, h2⟩ := h.line hl
 exact step_ok (h.lines _ h1) inp _ ln h.use.1 h.use.2 h.st
theorem RunAt.next {d : DeclT} {L : List LineT} {T inp : List Int} {ln used : Int} {s : StoreT} (h : RunAt d L T inp ln used s) (hl : ln < (L.length : Int)) : RunAt d L T inp (stepV (L.getD ln.toNat lineD) inp (T.getD ln.toNat 0) ln used s).1 (stepV (L.getD ln.toNat lineD) inp (T.getD ln.toNat 0) ln used s).2.2.1 (stepV (L.getD ln.toNat lineD) inp (T.getD ln.toNat 0) ln used s).2.1 := by
 have hq := h.step hl
 have h0 := h.lnb
 have hu := h.use
 have q1 := hq.use
 refine ⟨h.l30, h.lines, h.tlen, h.tb, h.i1000, ?_, by omega, hq.st⟩
 by_cases hc : (stepV (L.getD ln.toNat lineD) inp (T.getD ln.toNat 0) ln used s).2.2.2 = 0
 ·rcases hq.go hc with e | e
  ·rw [e]; exact h.tb _ (h.line hl).2.2.2
  ·rw [e]; omega
 ·rw [hq.stay hc]; exact h0
structure RunOk (d : DeclT) (L : List LineT) (inp : List Int) (r : Nat) (steps used : Int) (s : StoreT) (o : OutT) : Prop where
 ln : 0 ≤ o.2.1 ∧ o.2.1 ≤ (L.length : Int)
 done : o.1 = 0 ↔ o.2.1 = (L.length : Int)
 code : o.1 ≠ 1 ∧ (o.1 = 7 → (L.getD o.2.1.toNat lineD).1 = 11) ∧ (o.1 = 3 → (L.getD o.2.1.toNat lineD).1 = 12)
 stb : steps ≤ o.2.2.2.2.2.1 ∧ o.2.2.2.2.2.1 ≤ steps + r
 out : o.1 = 2 → o.2.2.2.2.2.1 = steps + r
 use : used ≤ o.2.2.2.2.2.2.1 ∧ o.2.2.2.2.2.2.1 ≤ inp.length
 st : SOk d (outS o)
 lens : (outS o).2.2.1.map List.length = s.2.2.1.map List.length
theorem run_ok {d : DeclT} {L : List LineT} {T inp : List Int} : ∀ (r : Nat) (ln : Int) (s : StoreT) (steps used : Int), RunAt d L T inp ln used s → RunOk d L inp r steps used s (runV L T inp r ln s steps used)
 | 0, ln, s, steps, used, h => by
  have h0 := h.lnb
  unfold runV
  split
  ·exact ⟨h0, by simp only [outV]; omega, by simp only [outV]; omega, by simp only [outV]; omega, fun _ => by simp only [outV]; omega, ⟨Int.le_refl _, h.use.2⟩, h.st, rfl⟩
  ·exact ⟨h0, ⟨fun _ => by simp only [outV]; omega, fun _ => rfl⟩, by simp only [outV]; omega, by simp only [outV]; omega, fun e => by simp only [outV] at e; omega, ⟨Int.le_refl _, h.use.2⟩, h.st, rfl⟩
 | r + 1, ln, s, steps, used, h => by
  have h0 := h.lnb
  unfold runV
  split
  ·rename_i hl
   have hq := h.step hl
   have hn := h.next hl
   split
   ·rename_i hc
    have hst := hq.stay hc
    have hcd := hq.code
    refine ⟨hn.lnb, ?_, ⟨hcd.1, fun e => ?_, fun e => ?_⟩, by simp only [outV]; omega, fun e => absurd e hcd.2.1, hq.use, hq.st, hq.lens⟩
    ·simp only [outV]; rw [hst]; constructor
     ·intro e; exact absurd e hc
     ·intro e; omega
    ·simp only [outV] at e ⊢; rw [hst]; exact hcd.2.2.1 e
    ·simp only [outV] at e ⊢; rw [hst]; exact hcd.2.2.2 e
   ·have ih := run_ok r (stepV (L.getD ln.toNat lineD) inp (T.getD ln.toNat 0) ln used s).1 (stepV (L.getD ln.toNat lineD) inp (T.getD ln.toNat 0) ln used s).2.1 (steps + 1) (stepV (L.getD ln.toNat lineD) inp (T.getD ln.toNat 0) ln used s).2.2.1 hn
    have i1 := ih.stb
    have i2 := ih.out
    have i3 := ih.use
    have i4 := hq.use
    exact ⟨ih.ln, ih.done, ih.code, by omega, fun e => by have := i2 e; omega, ⟨by omega, i3.2⟩, ih.st, ih.lens.trans hq.lens⟩
  ·exact ⟨h0, ⟨fun _ => by simp only [outV]; omega, fun _ => rfl⟩, by simp only [outV]; omega, by simp only [outV]; omega, fun e => by simp only [outV] at e; omega, ⟨Int.le_refl _, h.use.2⟩, h.st, rfl⟩
end Go.Pev.F
end

section
/-
 Runs: both programs come to the same.
-/
namespace Go.Pev.F
theorem newS_ok {d : DeclT} (h : declOk d = true) : SOk d (newS d) := by
 have ha := newS_any h
 exact ⟨by simp [newS], by simp [newS], by simp [newS], fun x hx => ha.f0 x hx, fun r hr x hx => ha.f2 r hr x hx, fun r hr => by have := ha.m2 r hr; omega⟩
theorem specNew_is (k : Nat) (hk : 4194304 < k) {d : DeclT} (hd : DSmall d) (hdo : declOk d = true) : z41 k (d, ()) = some ((newS d, ()), ((), ())) := by
 obtain ⟨⟨y, ⟨⟨⟩, ⟨⟩⟩⟩, e, h⟩ := t_storeNew k hk hd
 rw [e]
 rw [hdo, cond_true] at h
 obtain ⟨y, ⟨⟩⟩ := y
 simp only at h
 rw [h]
def NewJI (d : DeclT) (x : StoreT × StoreT × List ArrT × Int × Int × Unit) : Prop := x.2.2.1 = d.2.2.1 ∧ x.2.2.2.1 = d.2.2.1.length ∧ 0 ≤ x.2.2.2.2.1 ∧ x.2.2.2.2.1 ≤ d.2.2.1.length ∧ x.2.1 = (List.replicate d.1.length (0 : Int), List.replicate d.2.1.length false, (d.2.2.1.take x.2.2.2.2.1.toNat).map fun a => List.replicate a.2.1.toNat (0 : Int), ())
theorem implNew_tot (k : Nat) (hk : 4194304 < k) {d : DeclT} (hdo : declOk d = true) : Tot (z58 k (d, ())) fun y => y.1.1 = newS d := by
 unfold z58
 obtain ⟨⟨h0, h1, h2⟩, h3⟩ := decl_arrs hdo
 refine Tot.chk (by simp only [maxBytes]; omega) (Tot.chk (by simp only [maxBytes]; omega) ?_)
 refine Tot.loop (NewJI d) (fun x => ((d.2.2.1.length : Int) - x.2.2.2.2.1).toNat) ?_ k (([], [], [], ()), (List.replicate (d.1.length : Int).toNat (Kd.z (.int .i64)), List.replicate (d.2.1.length : Int).toNat (Kd.z .bool), [], ()), d.2.2.1, (d.2.2.1.length : Int), 0, ()) ⟨rfl, rfl, Int.le_refl _, Int.natCast_nonneg _, rfl⟩ (by simp only; omega)
 rintro G ⟨⟨t0, t1, t2, ⟨⟩⟩, ⟨s0, s1, s2, ⟨⟩⟩, l, m, i, ⟨⟩⟩ ⟨rfl, rfl, h4, h5, h6⟩ hG
 simp only at h0 h1 h2 h3 h4 h5 h6
 simp only [Prod.mk.injEq] at h6
 obtain ⟨rfl, rfl, rfl, _⟩ := h6
 simp only [z58.l0]
 refine Tot.dec (fun hlt => Tot.chk h4 (Tot.get (by omega) fun x2 hx2 e2 => ?_)) fun hlt => Tot.ret ?_
 ·have hb := h3 x2 hx2
  refine Tot.chk (by simp only [maxBytes]; omega) (Tot.chk (by simp only [List.length_map, List.length_take, List.length_cons, List.length_nil, maxBytes]; omega) ?_)
  rw [wrap_i64 (n := i + 1) (by omega) (by omega)]
  refine hG _ ⟨rfl, rfl, ?_, ?_, ?_⟩ (by simp only; omega)
  ·simp only; omega
  ·simp only; omega
  ·have e1 : (i + 1).toNat = i.toNat + 1 := by omega
   obtain ⟨q, r⟩ := List.getElem?_eq_some_iff.1 e2
   simp only [e1]
   rw [← List.take_append_getElem q, List.map_append, r]
   rfl
 ·simp only [newS]
  rw [List.take_of_length_le (by omega)]
theorem implNew_is (k : Nat) (hk : 4194304 < k) {d : DeclT} (hdo : declOk d = true) : z58 k (d, ()) = some ((newS d, ()), ((), ())) := by
 obtain ⟨⟨y, ⟨⟨⟩, ⟨⟩⟩⟩, e, h⟩ := implNew_tot k hk hdo
 rw [e]
 obtain ⟨y, ⟨⟩⟩ := y
 simp only at h
 rw [h]
def formOk (p : ProgT) (inp : List Int) (fuel : Int) : Bool := progOk p && (decide (0 ≤ fuel ∧ fuel ≤ 2000) && decide (inp.length ≤ 1000))
theorem formI_is (k : Nat) (hk : 4194304 < k) (hk2 : k ≤ 4611686018427387903) (p : ProgT) (hp : PSmall p) (inp : List Int) (fuel : Int) : z104 k (p, inp, fuel, ()) = some ((formOk p inp fuel, ()), ((), (), (), ())) := by
 unfold z104 formOk
 simp only [implProgOk_is k hk hk2 p hp, within_is, bd_some]
 cases progOk p with
 | false => simp
 | true =>
  have e : decide ((inp.length : Int) ≤ 1000) = decide (inp.length ≤ 1000) := decide_eq_decide.2 (by omega)
  cases decide (0 ≤ fuel ∧ fuel ≤ 2000) <;> simp [e]
theorem formS_is (k : Nat) (hk : 4194304 < k) (hk2 : k ≤ 4611686018427387903) (p : ProgT) (hp : PSmall p) (inp : List Int) (fuel : Int) : z98 k (p, inp, fuel, ()) = some ((formOk p inp fuel, ()), ((), (), (), ())) := by
 unfold z98 formOk
 simp only [specProgOk_is k hk hk2 p hp, l1In_is, bd_some]
 cases progOk p with
 | false => simp
 | true =>
  have e : decide ((inp.length : Int) ≤ 1000) = decide (inp.length ≤ 1000) := decide_eq_decide.2 (by omega)
  cases decide (0 ≤ fuel ∧ fuel ≤ 2000) <;> simp [e]
def runOf (p : ProgT) (inp : List Int) (fuel : Int) : OutT := runV p.2.2.2.1 (targetsOf p.2.2.2.1) inp fuel.toNat 0 (newS (declOf p)) 0 0
def outOf (p : ProgT) (inp : List Int) (fuel : Int) : OutT := if formOk p inp fuel = true then runOf p inp fuel else (1, 0, [], [], [], 0, 0, ())
theorem runAt_new {p : ProgT} {inp : List Int} {fuel : Int} (h : formOk p inp fuel = true) : RunAt (declOf p) p.2.2.2.1 (targetsOf p.2.2.2.1) inp 0 0 (newS (declOf p)) := by
 simp only [formOk, Bool.and_eq_true, decide_eq_true_eq] at h
 obtain ⟨h1, h2, h3⟩ := h
 obtain ⟨a1, a2, a3, a4⟩ := progOk_parts h1
 obtain ⟨t1, t2⟩ := targetsOf_ok p.2.2.2.1 a2
 exact ⟨a2, fun n hn => line_ok (a3 n hn), t1, t2, h3, by omega, by omega, newS_ok a1⟩
theorem specRun_loop (k : Nat) (hk : 4194304 < k) (p : ProgT) (hd : (declOf p).1.length ≤ 1000 ∧ (declOf p).2.1.length ≤ 1000 ∧ (declOf p).2.2.1.length ≤ 1000) (T inp : List Int) (fuel : Int) (hf : fuel ≤ 2000) (t6 : OutT) : ∀ (r f : Nat) (ln : Int) (s : StoreT) (steps used : Int), RunAt (declOf p) p.2.2.2.1 T inp ln used s → r < f → steps + r = fuel → 0 ≤ steps →
  iter (z42.l0 k) f (inp, fuel, (p.1, p.2.1, p.2.2.1, p.2.2.2.1, ()), (t6.1, t6.2.1, t6.2.2.1, t6.2.2.2.1, t6.2.2.2.2.1, t6.2.2.2.2.2.1, t6.2.2.2.2.2.2.1, ()), T, (0, ln, s.1, s.2.1, s.2.2.1, steps, used, ()), ()) = some ((runV p.2.2.2.1 T inp r ln s steps used, ()), ((), (), (), ())) := by
 intro r
 induction r with
 | zero =>
  intro f ln s steps used h hf' hs h0
  obtain ⟨f, rfl⟩ : ∃ g, f = g + 1 := ⟨f - 1, by omega⟩
  have he : (steps == fuel) = true := by simp; omega
  rw [iter_succ]
  simp only [z42.l0, br_dec, runV]
  split
  ·rw [he, br_true]; rfl
  ·rfl
 | succ r ih =>
  intro f ln s steps used h hf' hs h0
  obtain ⟨f, rfl⟩ : ∃ g, f = g + 1 := ⟨f - 1, by omega⟩
  have he : (steps == fuel) = false := by simp; omega
  rw [iter_succ]
  simp only [z42.l0, br_dec, runV]
  split
  ·rename_i hl
   have hb := h.lnb
   have htl := h.tlen
   obtain ⟨l1, l2, l3, l4⟩ := h.line hl
   have c1 : 0 ≤ ln ∧ ln < (T.length : Int) := by omega
   obtain ⟨i, rfl⟩ : ∃ i : Nat, ln = (i : Int) := ⟨ln.toNat, by omega⟩
   have h30 := h.l30
   have hst := specStep_is k hk hd (h.lines _ l3) p inp h.i1000 (T.getD (i : Int).toNat 0) i (by omega) h.use.1 h.st
   have hst' : z15 k ((p.1, p.2.1, p.2.2.1, p.2.2.2.1, ()), T.getD (i : Int).toNat 0, p.2.2.2.1.getD (i : Int).toNat lineD, (i : Int), (s.1, s.2.1, s.2.2.1, ()), inp, used, ()) = _ := hst
   rw [he, br_false, if_pos c1, l2, bd_some, if_pos hb.1, l1, bd_some, hst', bd_some]
   have hn := h.next hl
   have ih' := ih f _ _ (steps + 1) _ hn (by omega) (by omega) (by omega)
   generalize stepV (p.2.2.2.1.getD (i : Int).toNat lineD) inp (T.getD (i : Int).toNat 0) (i : Int) used s = q at ih' ⊢
   have ws : IntKind.wrap .i64 (steps + 1) = steps + 1 := wrap_i64 (by omega) (by omega)
   by_cases hc : q.2.2.2 ≠ 0
   ·have b : (q.2.2.2 != 0) = true := by simpa using hc
    simp only [b, br_true, ws, if_pos hc]
    rfl
   ·have b : (q.2.2.2 != 0) = false := by simpa using hc
    have c0 : q.2.2.2 = 0 := by omega
    simp only [b, br_false, ws, if_neg hc]
    rw [c0]
    exact ih'
  ·rfl
theorem specRun_is (k : Nat) (hk : 4194304 < k) (hk2 : k ≤ 4611686018427387903) (p : ProgT) (hp : PSmall p) (inp : List Int) (fuel : Int) : z42 k (p, inp, fuel, ()) = some ((outOf p inp fuel, ()), ((), (), (), ())) := by
 unfold z42 outOf
 simp only [formS_is k hk hk2 p hp, bd_some]
 cases hf : formOk p inp fuel with
 | false => simp
 | true =>
  have hA := runAt_new hf
  simp only [formOk, Bool.and_eq_true, decide_eq_true_eq] at hf
  obtain ⟨h1, h2, h3⟩ := hf
  have hdo := (progOk_parts h1).1
  obtain ⟨⟨q0, q1, q2⟩, _⟩ := decl_arrs hdo
  have eN : z41 k ((p.1, p.2.1, p.2.2.1, ()), ()) = some ((newS (declOf p), ()), ((), ())) := specNew_is k hk hp.d hdo
  have hl := specRun_loop k hk p ⟨by omega, by omega, by omega⟩ (targetsOf p.2.2.2.1) inp fuel h2.2 (0, 0, [], [], [], 0, 0, ()) fuel.toNat k 0 (newS (declOf p)) 0 0 hA (by omega) (by omega) (by omega)
  simp only [Bool.not_true, br_false, specTargets_is k hk hk2 p hp h1, eN, bd_some, if_true]
  exact hl
theorem implRun_loop (k : Nat) (hk : 4194304 < k) {d : DeclT} (m0 m1 : Names) (m2 : List ArrT) (L : List LineT) (T inp : List Int) (fuel : Int) (hf : fuel ≤ 2000) : ∀ (r f : Nat) (ln : Int) (s : StoreT) (steps used : Int) (tok : List EntT), RunAt d L T inp ln used s → TokP tok → r < f → steps + r = fuel → 0 ≤ steps →
  ∃ tok', iter (z59.l0 k) f ((m0, m1, m2, L, T, inp, 0, ln, s.1, s.2.1, s.2.2.1, steps, used, tok, ()), fuel, (()), ()) = some ((()), ((m0, m1, m2, L, T, inp, (runV L T inp r ln s steps used).1, (runV L T inp r ln s steps used).2.1, (runV L T inp r ln s steps used).2.2.1, (runV L T inp r ln s steps used).2.2.2.1, (runV L T inp r ln s steps used).2.2.2.2.1, (runV L T inp r ln s steps used).2.2.2.2.2.1, (runV L T inp r ln s steps used).2.2.2.2.2.2.1, tok', ()), (), (()), ())) := by
 have tail : ∀ (G : _ → _) (ln : Int) (s : StoreT) (steps used : Int) (tok : List EntT), ¬ ln < (L.length : Int) → z59.l0 k G ((m0, m1, m2, L, T, inp, 0, ln, s.1, s.2.1, s.2.2.1, steps, used, tok, ()), fuel, (()), ()) = some ((()), ((m0, m1, m2, L, T, inp, 0, ln, s.1, s.2.1, s.2.2.1, steps, used, tok, ()), (), (()), ())) := by
  intro G ln s steps used tok hl
  simp only [z59.l0, z48, z117, bd_some, br_dec, if_neg hl]
 intro r
 induction r with
 | zero =>
  intro f ln s steps used tok h ht hf' hs h0
  obtain ⟨f, rfl⟩ : ∃ g, f = g + 1 := ⟨f - 1, by omega⟩
  have he : (steps == fuel) = true := by simp; omega
  rw [iter_succ]
  by_cases hl : ln < (L.length : Int)
  ·refine ⟨tok, ?_⟩
   simp only [z59.l0, z48, z117, bd_some, br_dec, if_pos hl, he, br_true, runV, outV]
  ·refine ⟨tok, ?_⟩
   rw [tail _ _ _ _ _ _ hl]
   simp only [runV, if_neg hl, outV]
 | succ r ih =>
  intro f ln s steps used tok h ht hf' hs h0
  obtain ⟨f, rfl⟩ : ∃ g, f = g + 1 := ⟨f - 1, by omega⟩
  have he : (steps == fuel) = false := by simp; omega
  rw [iter_succ]
  by_cases hl : ln < (L.length : Int)
  ·have hb := h.lnb
   have htl := h.tlen
   obtain ⟨l1, l2, l3, l4⟩ := h.line hl
   obtain ⟨i, rfl⟩ : ∃ i : Nat, ln = (i : Int) := ⟨ln.toNat, by omega⟩
   have h30 := h.l30
   have ws : IntKind.wrap .i64 (steps + 1) = steps + 1 := wrap_i64 (by omega) (by omega)
   have hst := implStep_is k hk (d := d) ⟨m0, m1, m2, L, T, inp, 0, steps + 1⟩ i l1 (h.lines _ l3) (T.getD (i : Int).toNat 0) l2 (by omega) h.st h.use.1 h.use.2 h.i1000 ht
   unfold Comes Fix.m at hst
   simp only at hst
   have hn := h.next hl
   simp only [z59.l0, z48, z117, bd_some, br_dec, if_pos hl, he, br_false, ws, hst, runV]
   have htk : TokP (tokV tok (i : Int) (L.getD (i : Int).toNat lineD) s (stepV (L.getD (i : Int).toNat lineD) inp (T.getD (i : Int).toNat 0) (i : Int) used s).2.2.2) := by
    unfold tokV
    split
    ·exact markV_ok ht _ _ _
    ·exact ht
   generalize tokV tok (i : Int) (L.getD (i : Int).toNat lineD) s (stepV (L.getD (i : Int).toNat lineD) inp (T.getD (i : Int).toNat 0) (i : Int) used s).2.2.2 = tok2 at htk
   have ih' := ih f _ _ (steps + 1) _ tok2 hn htk (by omega) (by omega) (by omega)
   generalize stepV (L.getD (i : Int).toNat lineD) inp (T.getD (i : Int).toNat 0) (i : Int) used s = q at ih' ⊢
   by_cases hc : q.2.2.2 ≠ 0
   ·have b : (q.2.2.2 != 0) = true := by simpa using hc
    simp only [b, br_true, if_pos hc, outV]
    exact ⟨tok2, rfl⟩
   ·have b : (q.2.2.2 != 0) = false := by simpa using hc
    have c0 : q.2.2.2 = 0 := by omega
    simp only [b, br_false, if_neg hc]
    rw [c0]
    exact ih'
  ·refine ⟨tok, ?_⟩
   rw [tail _ _ _ _ _ _ hl]
   simp only [runV, if_neg hl, outV]
theorem implRun_is (k : Nat) (hk : 4194304 < k) (hk2 : k ≤ 4611686018427387903) (p : ProgT) (hp : PSmall p) (inp : List Int) (fuel : Int) : z139 k (p, inp, fuel, ()) = some ((outOf p inp fuel, ()), ((), (), (), ())) := by
 unfold z139 outOf
 simp only [formI_is k hk hk2 p hp, bd_some]
 cases hf : formOk p inp fuel with
 | false => simp
 | true =>
  have hA := runAt_new hf
  simp only [formOk, Bool.and_eq_true, decide_eq_true_eq] at hf
  obtain ⟨h1, h2, h3⟩ := hf
  have hdo := (progOk_parts h1).1
  have eN : z58 k ((p.1, p.2.1, p.2.2.1, ()), ()) = some ((newS (declOf p), ()), ((), ())) := implNew_is k hk hdo
  obtain ⟨tok', hl⟩ := implRun_loop k hk p.1 p.2.1 p.2.2.1 p.2.2.2.1 (targetsOf p.2.2.2.1) inp fuel h2.2 fuel.toNat k 0 (newS (declOf p)) 0 0 [] hA rfl (by omega) (by omega) (by omega)
  have hl' : z59 k ((p.1, p.2.1, p.2.2.1, p.2.2.2.1, targetsOf p.2.2.2.1, inp, 0, 0, (newS (declOf p)).1, (newS (declOf p)).2.1, (newS (declOf p)).2.2.1, 0, 0, [], ()), fuel, (()), ()) = _ := hl
  simp only [z105, Bool.not_true, br_false, implTargets_is k hk p h1, eN, bd_some, if_true, hl']
  rfl
end Go.Pev.F
end

section
/-
 Traces, in plain words; what they tell of runs.
-/
namespace Go.Pev.F
abbrev SnpT : Type := Int × List EntT × List Int × List Bool × List (List Int) × Unit
def snapV (ln : Int) (tok : List EntT) (s : StoreT) : SnpT := (ln, tok, s.1, s.2.1, s.2.2.1, ())
def snapS (x : SnpT) : StoreT := (x.2.2.1, x.2.2.2.1, x.2.2.2.2.1, ())
def traceV (L : List LineT) (T inp : List Int) : Nat → Int → StoreT → Int → List EntT → List SnpT
 | 0, ln, s, used, tok => [snapV ln tok s]
 | r + 1, ln, s, used, tok =>
  if ln < (L.length : Int) then
   snapV ln tok s :: (if (stepV (L.getD ln.toNat lineD) inp (T.getD ln.toNat 0) ln used s).2.2.2 ≠ 0 then []
    else traceV L T inp r (stepV (L.getD ln.toNat lineD) inp (T.getD ln.toNat 0) ln used s).1 (stepV (L.getD ln.toNat lineD) inp (T.getD ln.toNat 0) ln used s).2.1 (stepV (L.getD ln.toNat lineD) inp (T.getD ln.toNat 0) ln used s).2.2.1 (tokV tok ln (L.getD ln.toNat lineD) s 0))
  else [snapV ln tok s]
theorem trace_len (L : List LineT) (T inp : List Int) : ∀ (r : Nat) (ln : Int) (s : StoreT) (used : Int) (tok : List EntT), (traceV L T inp r ln s used tok).length ≤ r + 1
 | 0, ln, s, used, tok => by simp [traceV]
 | r + 1, ln, s, used, tok => by
  unfold traceV
  split
  ·split
   ·simp
   ·have := trace_len L T inp r (stepV (L.getD ln.toNat lineD) inp (T.getD ln.toNat 0) ln used s).1 (stepV (L.getD ln.toNat lineD) inp (T.getD ln.toNat 0) ln used s).2.1 (stepV (L.getD ln.toNat lineD) inp (T.getD ln.toNat 0) ln used s).2.2.1 (tokV tok ln (L.getD ln.toNat lineD) s 0)
    simp only [List.length_cons]
    omega
  ·simp
theorem tokV_ok {tok : List EntT} (ht : TokP tok) (ln : Int) (n : LineT) (s : StoreT) (c : Int) : TokP (tokV tok ln n s c) := by
 unfold tokV
 split
 ·exact markV_ok ht _ _ _
 ·exact ht
def SnapOk (d : DeclT) (S : List Nat) (x : SnpT) : Prop := x.2.1.length ≤ 3 ∧ SOk d (snapS x) ∧ (snapS x).2.2.1.map List.length = S
theorem trace_ok {d : DeclT} {L : List LineT} {T inp : List Int} (S : List Nat) : ∀ (r : Nat) (ln : Int) (s : StoreT) (used : Int) (tok : List EntT), RunAt d L T inp ln used s → TokP tok → s.2.2.1.map List.length = S → ∀ x ∈ traceV L T inp r ln s used tok, SnapOk d S x
 | 0, ln, s, used, tok, h, ht, hS, x, hx => by
  simp only [traceV, List.mem_singleton] at hx
  subst hx
  exact ⟨tokP_len ht, h.st, hS⟩
 | r + 1, ln, s, used, tok, h, ht, hS, x, hx => by
  unfold traceV at hx
  have one : SnapOk d S (snapV ln tok s) := ⟨tokP_len ht, h.st, hS⟩
  split at hx
  ·rename_i hl
   rcases List.mem_cons.1 hx with rfl | hx
   ·exact one
   ·split at hx
    ·cases hx
    ·exact trace_ok S r _ _ _ _ (h.next hl) (tokV_ok ht _ _ _ _) ((h.step hl).lens.trans hS) x hx
  ·rw [List.mem_singleton.1 hx]; exact one
theorem trace_run {d : DeclT} {L : List LineT} {T inp : List Int} : ∀ (r : Nat) (ln : Int) (s : StoreT) (steps used : Int) (tok : List EntT), RunAt d L T inp ln used s →
  ((traceV L T inp r ln s used tok).length : Int) = (runV L T inp r ln s steps used).2.2.2.2.2.1 - steps + (if (runV L T inp r ln s steps used).1 = 0 ∨ (runV L T inp r ln s steps used).1 = 2 then 1 else 0) ∧
  (∃ r', traceV L T inp r ln s used tok = snapV ln tok s :: r') ∧
  ∃ i x, traceV L T inp r ln s used tok = i ++ [x] ∧ x.1 = (runV L T inp r ln s steps used).2.1 ∧ snapS x = outS (runV L T inp r ln s steps used)
 | 0, ln, s, steps, used, tok, h => by
  simp only [traceV, runV]
  split
  ·exact ⟨by simp [outV], ⟨[], rfl⟩, [], _, rfl, rfl, rfl⟩
  ·exact ⟨by simp [outV], ⟨[], rfl⟩, [], _, rfl, rfl, rfl⟩
 | r + 1, ln, s, steps, used, tok, h => by
  unfold traceV runV
  by_cases hl : ln < (L.length : Int)
  ·rw [if_pos hl, if_pos hl]
   have hq := h.step hl
   by_cases hc : (stepV (L.getD ln.toNat lineD) inp (T.getD ln.toNat 0) ln used s).2.2.2 ≠ 0
   ·rw [if_pos hc, if_pos hc]
    have hcd := hq.code
    refine ⟨?_, ⟨[], rfl⟩, [], _, rfl, ?_, ?_⟩
    ·have : ¬ ((stepV (L.getD ln.toNat lineD) inp (T.getD ln.toNat 0) ln used s).2.2.2 = 0 ∨ (stepV (L.getD ln.toNat lineD) inp (T.getD ln.toNat 0) ln used s).2.2.2 = 2) := by
      rintro (e | e)
      ·exact hc e
      ·exact hcd.2.1 e
     simp only [outV, if_neg this, List.length_cons, List.length_nil]
     omega
    ·exact (hq.stay hc).symm
    ·simp only [outV, outS, snapS, snapV]
     rw [hq.keep hc]
   ·rw [if_neg hc, if_neg hc]
    obtain ⟨i1, ⟨r1, i2⟩, i, x, i3, i4, i5⟩ := trace_run r (stepV (L.getD ln.toNat lineD) inp (T.getD ln.toNat 0) ln used s).1 (stepV (L.getD ln.toNat lineD) inp (T.getD ln.toNat 0) ln used s).2.1 (steps + 1) (stepV (L.getD ln.toNat lineD) inp (T.getD ln.toNat 0) ln used s).2.2.1 (tokV tok ln (L.getD ln.toNat lineD) s 0) (h.next hl)
    refine ⟨?_, ⟨_, rfl⟩, snapV ln tok s :: i, x, by rw [i3]; rfl, i4, i5⟩
    simp only [List.length_cons]
    omega
  ·rw [if_neg hl, if_neg hl]
   exact ⟨by simp [outV], ⟨[], rfl⟩, [], _, rfl, rfl, rfl⟩
def traceOf (p : ProgT) (inp : List Int) (fuel : Int) : List SnpT := if formOk p inp fuel = true then traceV p.2.2.2.1 (targetsOf p.2.2.2.1) inp fuel.toNat 0 (newS (declOf p)) 0 [] else []
end Go.Pev.F
end

section
/-
 Traces: the program's.
-/
namespace Go.Pev.F
theorem cloneI_is (k : Nat) (l : List Int) (h : l.length ≤ 1048576) : z140 k (l, ()) = some ((l, ()), ((), ())) := by
 unfold z140
 have hm : (([] : List Int).length + l.length) * 8 ≤ maxBytes := by simp only [List.length_nil, maxBytes]; omega
 cases l with
 | nil => simp [maxBytes]
 | cons x r => simp only [List.isEmpty_cons, br_false, br_dec, if_pos hm, List.nil_append]
theorem cloneB_is (k : Nat) (l : List Bool) (h : l.length ≤ 1048576) : z176 k (l, ()) = some ((l, ()), ((), ())) := by
 unfold z176
 have hm : (([] : List Bool).length + l.length) * 1 ≤ maxBytes := by simp only [List.length_nil, maxBytes]; omega
 cases l with
 | nil => simp [maxBytes]
 | cons x r => simp only [List.isEmpty_cons, br_false, br_dec, if_pos hm, List.nil_append]
theorem own_is (k : Nat) (hk : 4194304 < k) {d : DeclT} {s : StoreT} (hs : SOk d s) (hd : d.1.length ≤ 1000 ∧ d.2.1.length ≤ 1000 ∧ d.2.2.1.length ≤ 1000) : z56 k (s, ()) = some ((s, ()), ((), ())) := by
 obtain ⟨s0, s1, s2, ⟨⟩⟩ := s
 have n0 := hs.n0
 have n1 := hs.n1
 have n2 := hs.n2
 have m2 := hs.m2
 simp only at n0 n1 n2 m2
 have gen : ∀ (n i f : Nat), i + n = s2.length → n < f → iter (z56.l0 k) f (([], [], ([] : List (List Int)), ()), (s0, s1, s2.take i, ()), s2, (s2.length : Int), (i : Int), ()) = some (((s0, s1, s2, ()), ()), ((), ())) := by
  intro n
  induction n with
  | zero =>
   intro i f hi hf
   obtain ⟨f, rfl⟩ : ∃ g, f = g + 1 := ⟨f - 1, by omega⟩
   have h2 : ¬ ((i : Int) < (s2.length : Int)) := by omega
   rw [iter_succ]
   simp only [z56.l0, br_dec, if_neg h2]
   rw [List.take_of_length_le (by omega)]
  | succ n ih =>
   intro i f hi hf
   obtain ⟨f, rfl⟩ : ∃ g, f = g + 1 := ⟨f - 1, by omega⟩
   have hlt : i < s2.length := by omega
   have h2 : ((i : Int) < (s2.length : Int)) := by omega
   have h3 : (0 : Int) ≤ (i : Int) := by omega
   have hm := m2 _ (List.getElem_mem hlt)
   have c3 : ((s2.take i).length + ([s2[i]] : List (List Int)).length) * 24 ≤ maxBytes := by simp only [List.length_take, List.length_cons, List.length_nil, maxBytes]; omega
   rw [iter_succ]
   simp only [z56.l0, br_dec, if_pos h2, if_pos h3, Int.toNat_natCast, List.getElem?_eq_getElem hlt, bd_some, cloneI_is k _ hm, if_pos c3]
   rw [wrap_succ (by omega), List.take_append_getElem hlt]
   exact ih (i + 1) f (by omega) (by omega)
 unfold z56
 simp only [cloneI_is k s0 (by omega), cloneB_is k s1 (by omega), bd_some]
 exact gen s2.length 0 k (by omega) (by omega)
theorem implTrace_loop (k : Nat) (hk : 4194304 < k) {d : DeclT} (hd : d.1.length ≤ 1000 ∧ d.2.1.length ≤ 1000 ∧ d.2.2.1.length ≤ 1000) (m0 m1 : Names) (m2 : List ArrT) (L : List LineT) (T inp : List Int) (fuel : Int) (hf : fuel ≤ 2000) : ∀ (r f : Nat) (ln : Int) (s : StoreT) (steps used : Int) (tok : List EntT) (out : List SnpT), RunAt d L T inp ln used s → TokP tok → r < f → steps + r = fuel → 0 ≤ steps → out.length + r ≤ 2000 →
  ∃ m', iter (z60.l0 k) f ((), fuel, ((out, ()), ((m0, m1, m2, L, T, inp, 0, ln, s.1, s.2.1, s.2.2.1, steps, used, tok, ()), ()), ()), ()) = some ((()), ((), (), ((out ++ traceV L T inp r ln s used tok, ()), (m', ()), ()), ())) := by
 have snap : ∀ (s : StoreT) (tok : List EntT), SOk d s → TokP tok → z75 k (tok, ()) = some ((tok, ()), ((), ())) ∧ z56 k ((s.1, s.2.1, s.2.2.1, ()), ()) = some ((s, ()), ((), ())) := fun s tok hs ht => ⟨cloneE_is k tok (tokP_len ht), own_is k hk hs hd⟩
 have mb : ∀ (out : List SnpT) (x : SnpT), out.length ≤ 2000 → (out.length + ([x] : List SnpT).length) * 104 ≤ maxBytes := fun out x h => by simp only [List.length_cons, List.length_nil, maxBytes]; omega
 intro r
 induction r with
 | zero =>
  intro f ln s steps used tok out h ht hf' hs h0 hn
  obtain ⟨f, rfl⟩ : ∃ g, f = g + 1 := ⟨f - 1, by omega⟩
  have he : (steps == fuel) = true := by simp; omega
  obtain ⟨q1, q2⟩ := snap s tok h.st ht
  rw [iter_succ]
  by_cases hl : ln < (L.length : Int)
  ·simp only [z60.l0, z48, bd_some, br_dec, if_pos hl, he, br_true, q1, q2, if_pos (mb out _ (by omega)), traceV, snapV]
   exact ⟨_, rfl⟩
  ·simp only [z60.l0, z48, bd_some, br_dec, if_neg hl, q1, q2, if_pos (mb out _ (by omega)), traceV, snapV]
   exact ⟨_, rfl⟩
 | succ r ih =>
  intro f ln s steps used tok out h ht hf' hs h0 hn
  obtain ⟨f, rfl⟩ : ∃ g, f = g + 1 := ⟨f - 1, by omega⟩
  have he : (steps == fuel) = false := by simp; omega
  obtain ⟨q1, q2⟩ := snap s tok h.st ht
  rw [iter_succ]
  by_cases hl : ln < (L.length : Int)
  ·have hb := h.lnb
   have htl := h.tlen
   obtain ⟨l1, l2, l3, l4⟩ := h.line hl
   obtain ⟨i, rfl⟩ : ∃ i : Nat, ln = (i : Int) := ⟨ln.toNat, by omega⟩
   have h30 := h.l30
   have ws : IntKind.wrap .i64 (steps + 1) = steps + 1 := wrap_i64 (by omega) (by omega)
   have hst := implStep_is k hk (d := d) ⟨m0, m1, m2, L, T, inp, 0, steps + 1⟩ i l1 (h.lines _ l3) (T.getD (i : Int).toNat 0) l2 (by omega) h.st h.use.1 h.use.2 h.i1000 ht
   unfold Comes Fix.m at hst
   simp only at hst
   have hnx := h.next hl
   simp only [z60.l0, z48, bd_some, br_dec, if_pos hl, he, br_false, ws, hst, q1, q2, if_pos (mb out _ (by omega)), traceV, snapV]
   by_cases hc : (stepV (L.getD (i : Int).toNat lineD) inp (T.getD (i : Int).toNat 0) (i : Int) used s).2.2.2 ≠ 0
   ·have b : ((stepV (L.getD (i : Int).toNat lineD) inp (T.getD (i : Int).toNat 0) (i : Int) used s).2.2.2 != 0) = true := by simpa using hc
    simp only [b, br_true, if_pos hc]
    exact ⟨_, rfl⟩
   ·have b : ((stepV (L.getD (i : Int).toNat lineD) inp (T.getD (i : Int).toNat 0) (i : Int) used s).2.2.2 != 0) = false := by simpa using hc
    have c0 : (stepV (L.getD (i : Int).toNat lineD) inp (T.getD (i : Int).toNat 0) (i : Int) used s).2.2.2 = 0 := by omega
    simp only [b, br_false, if_neg hc]
    rw [c0]
    have ih' := ih f _ _ (steps + 1) _ (tokV tok (i : Int) (L.getD (i : Int).toNat lineD) s 0) (out ++ [((i : Int), tok, s.1, s.2.1, s.2.2.1, ())]) hnx (tokV_ok ht _ _ _ _) (by omega) (by omega) (by omega) (by simp; omega)
    rw [List.append_assoc] at ih'
    exact ih'
  ·simp only [z60.l0, z48, bd_some, br_dec, if_neg hl, q1, q2, if_pos (mb out _ (by omega)), traceV, snapV]
   exact ⟨_, rfl⟩
theorem implTrace_is (k : Nat) (hk : 4194304 < k) (hk2 : k ≤ 4611686018427387903) (p : ProgT) (hp : PSmall p) (inp : List Int) (fuel : Int) : z142 k (p, inp, fuel, ()) = some ((traceOf p inp fuel, ()), ((), (), (), ())) := by
 unfold z142 traceOf
 simp only [formI_is k hk hk2 p hp, bd_some]
 cases hf : formOk p inp fuel with
 | false => simp
 | true =>
  have hA := runAt_new hf
  simp only [formOk, Bool.and_eq_true, decide_eq_true_eq] at hf
  obtain ⟨h1, h2, h3⟩ := hf
  have hdo := (progOk_parts h1).1
  obtain ⟨⟨d0, d1, d2⟩, _⟩ := decl_arrs hdo
  have eN : z58 k ((p.1, p.2.1, p.2.2.1, ()), ()) = some ((newS (declOf p), ()), ((), ())) := implNew_is k hk hdo
  obtain ⟨m', hl⟩ := implTrace_loop k hk (d := declOf p) ⟨by omega, by omega, by omega⟩ p.1 p.2.1 p.2.2.1 p.2.2.2.1 (targetsOf p.2.2.2.1) inp fuel h2.2 fuel.toNat k 0 (newS (declOf p)) 0 0 [] [] hA rfl (by omega) (by omega) (by omega) (by simp; omega)
  have hl' : z60 k ((), fuel, (([], ()), ((p.1, p.2.1, p.2.2.1, p.2.2.2.1, targetsOf p.2.2.2.1, inp, 0, 0, (newS (declOf p)).1, (newS (declOf p)).2.1, (newS (declOf p)).2.2.1, 0, 0, [], ()), ()), ()), ()) = _ := hl
  simp only [z105, Bool.not_true, br_false, implTargets_is k hk p h1, eN, bd_some, if_true, hl']
  rfl
end Go.Pev.F
end

section
/-
 Tokens: which are right, and their order: the reference's and the program's agree.
-/
namespace Go.Pev.F
theorem specTokenOk_is (k : Nat) (hk : 4194304 < k) (t : List EntT) : z61 k (t, ()) = some ((tokenOk t, ()), ((), ())) := by
 unfold z61 tokenOk
 simp only [br_dec]
 by_cases hc : (t.length : Int) > 3
 ·have : decide (t.length ≤ 3) = false := by simp; omega
  rw [if_pos hc, this]; rfl
 ·have hc' : t.length ≤ 3 := by omega
  rw [if_neg hc, decide_eq_true hc', Bool.true_and]
  have h := iter_any (b := z61.l0 k) (fun i => (t, (i : Int), ())) t (fun e => !entOk e) (rf := some ((false, ()), ((), ()))) (r := some ((true, ()), ((), ()))) (fun G i hi => by
   have h2 : ((i : Int) < (t.length : Int)) := by omega
   have h3 : (0 : Int) ≤ (i : Int) := by omega
   simp only [z61.l0, br_dec, if_pos h2, if_pos h3, Int.toNat_natCast, List.getElem?_eq_getElem hi, bd_some, l1In_is]
   rw [wrap_succ (by omega), entOk]
   cases decide (0 ≤ t[i].1 ∧ t[i].1 ≤ 29) <;> cases decide (0 ≤ t[i].2.1 ∧ t[i].2.1 ≤ 4) <;> simp) (fun G => by
   have h2 : ¬ ((t.length : Int) < (t.length : Int)) := by omega
   simp only [z61.l0, br_dec, if_neg h2]) (f := k) (by omega)
  refine Eq.trans h ?_
  rw [all_any]
  cases t.all entOk <;> rfl
def cmpE (x y : EntT) : Int := if x.1 < y.1 then -1 else if x.1 > y.1 then 1 else if x.2.1 < y.2.1 then -1 else if x.2.1 > y.2.1 then 1 else 0
def cmpX : List EntT → List EntT → Int
 | x :: a, y :: b => if cmpE x y = 0 then cmpX a b else cmpE x y
 | _, _ => 0
def cmpT (a b : List EntT) : Int := if a.length < b.length then -1 else if a.length > b.length then 1 else cmpX a b
theorem compare_is (k : Nat) (x y : Int) : z178 k (x, y, ()) = some ((if x < y then -1 else if x > y then 1 else 0, ()), ((), (), ())) := by
 unfold z178 z177
 simp only [bd_some, bne_self_eq_false, br_false, br_dec]
 by_cases h1 : x < y
 ·simp only [if_pos h1]
 ·by_cases h2 : x > y
  ·simp only [if_neg h1, if_pos h2]
  ·simp only [if_neg h1, if_neg h2]
theorem compare64_is (k : Nat) (x y : Int) : z146 k (x, y, ()) = some ((if x < y then -1 else if x > y then 1 else 0, ()), ((), (), ())) := by
 unfold z146 z179
 simp only [bd_some, bne_self_eq_false, br_false, br_dec]
 by_cases h1 : x < y
 ·simp only [if_pos h1]
 ·by_cases h2 : x > y
  ·simp only [if_neg h1, if_pos h2]
  ·simp only [if_neg h1, if_neg h2]
theorem or_is (k : Nat) (hk : 4194304 < k) (x y : Int) : z52 k (([x, y] : List Int), ()) = some ((if x = 0 then y else x, ()), ((), ())) := by
 obtain ⟨j, rfl⟩ : ∃ j, k = j + 3 := ⟨k - 3, by omega⟩
 unfold z52
 simp only [List.length_cons, List.length_nil]
 rw [iter_succ]
 simp only [z52.l0, br_dec]
 rw [if_pos (by decide), if_pos (by decide)]
 by_cases h1 : x = 0
 ·subst h1
  simp only [Int.toNat_zero, List.getElem?_cons_zero, bd_some, bne_self_eq_false, br_false, if_pos]
  rw [wrap_i64 (by decide) (by decide), iter_succ]
  simp only [z52.l0, br_dec]
  rw [if_pos (by decide), if_pos (by decide)]
  by_cases h2 : y = 0
  ·subst h2
   have e : ([0, 0] : List Int)[((0 : Int) + 1).toNat]? = some 0 := rfl
   simp only [e, bd_some, bne_self_eq_false, br_false]
   rw [wrap_i64 (by decide) (by decide), iter_succ]
   simp only [z52.l0, br_dec]
   rw [if_neg (by decide)]
  ·have e : ([0, y] : List Int)[((0 : Int) + 1).toNat]? = some y := rfl
   have b : (y != 0) = true := by simpa using h2
   simp only [e, bd_some, b, br_true]
 ·have b : (x != 0) = true := by simpa using h1
  simp only [Int.toNat_zero, List.getElem?_cons_zero, bd_some, b, br_true, if_neg h1]
theorem cmpE_is (k : Nat) (hk : 4194304 < k) (x y : EntT) : z180 k (x, y, ()) = some ((cmpE x y, ()), ((), (), ())) := by
 unfold z180
 simp only [compare64_is, or_is k hk, bd_some]
 unfold cmpE
 by_cases h1 : x.1 < y.1
 ·simp [h1]
 ·by_cases h2 : x.1 > y.1
  ·simp [h1, h2]
  ·simp [h1, h2]
theorem cmpX_drop {a b : List EntT} {i : Nat} (ha : i < a.length) (hb : i < b.length) : cmpX (a.drop i) (b.drop i) = if cmpE a[i] b[i] = 0 then cmpX (a.drop (i + 1)) (b.drop (i + 1)) else cmpE a[i] b[i] := by
 rw [List.drop_eq_getElem_cons ha, List.drop_eq_getElem_cons hb]; rfl
theorem cmpX_nil (a b : List EntT) {i : Nat} (ha : a.length ≤ i) : cmpX (a.drop i) (b.drop i) = 0 := by
 rw [List.drop_of_length_le ha]; cases b.drop i <;> rfl
theorem compareFunc_is (k : Nat) (hk : 4194304 < k) (a b : List EntT) (ha : a.length ≤ 1048576) : ∃ n : Int, z96 k (a, b, (()), ()) = some ((n, ()), ((), (), (()), ())) ∧ (a.length = b.length → n = cmpX a b) := by
 have key : ∀ (n i f : Nat), i + n = a.length → n < f → ∃ m : Int, iter (z96.l0 k) f (a, b, (()), a, (a.length : Int), (i : Int), ()) = some ((m, ()), ((), (), (()), ())) ∧ (a.length = b.length → m = cmpX (a.drop i) (b.drop i)) := by
  intro n
  induction n with
  | zero =>
   intro i f hi hf
   obtain ⟨f, rfl⟩ : ∃ g, f = g + 1 := ⟨f - 1, by omega⟩
   have h2 : ¬ ((i : Int) < (a.length : Int)) := by omega
   rw [iter_succ]
   simp only [z96.l0, br_dec, if_neg h2]
   by_cases hl : (a.length : Int) < (b.length : Int)
   ·exact ⟨-1, by rw [if_pos hl], fun h => by omega⟩
   ·exact ⟨0, by rw [if_neg hl], fun h => by rw [cmpX_nil a b (by omega)]⟩
  | succ n ih =>
   intro i f hi hf
   obtain ⟨f, rfl⟩ : ∃ g, f = g + 1 := ⟨f - 1, by omega⟩
   have hi' : i < a.length := by omega
   have h2 : ((i : Int) < (a.length : Int)) := by omega
   have h3 : (0 : Int) ≤ (i : Int) := by omega
   rw [iter_succ]
   simp only [z96.l0, br_dec, if_pos h2, if_pos h3, Int.toNat_natCast, List.getElem?_eq_getElem hi', bd_some]
   by_cases hb : (i : Int) ≥ (b.length : Int)
   ·exact ⟨1, by rw [if_pos hb], fun h => by omega⟩
   ·have hb' : i < b.length := by omega
    rw [if_neg hb]
    simp only [List.getElem?_eq_getElem hb', bd_some, cmpE_is k hk]
    rw [wrap_succ (by omega)]
    by_cases hc : cmpE a[i] b[i] = 0
    ·have e : (cmpE a[i] b[i] != 0) = false := by simpa using hc
     obtain ⟨m, e1, e2⟩ := ih (i + 1) f (by omega) (by omega)
     refine ⟨m, by rw [e, br_false]; exact e1, fun h => ?_⟩
     rw [cmpX_drop hi' hb', if_pos hc]; exact e2 h
    ·have e : (cmpE a[i] b[i] != 0) = true := by simpa using hc
     exact ⟨cmpE a[i] b[i], by rw [e, br_true], fun h => by rw [cmpX_drop hi' hb', if_neg hc]⟩
 obtain ⟨m, e1, e2⟩ := key a.length 0 k (by omega) (by omega)
 exact ⟨m, e1, fun h => e2 h⟩
theorem implCmp_is (k : Nat) (hk : 4194304 < k) (a b : List EntT) (ha : a.length ≤ 1048576) : z113 k (a, b, ()) = some ((cmpT a b, ()), ((), (), ())) := by
 unfold z113 cmpT
 obtain ⟨n, e1, e2⟩ := compareFunc_is k hk a b ha
 simp only [compare_is, e1, or_is k hk, bd_some]
 by_cases h1 : a.length < b.length
 ·have h1' : (a.length : Int) < (b.length : Int) := by omega
  rw [if_pos h1', if_pos h1]; rfl
 ·by_cases h2 : a.length > b.length
  ·have h1' : ¬ (a.length : Int) < (b.length : Int) := by omega
   have h2' : (a.length : Int) > (b.length : Int) := by omega
   rw [if_neg h1', if_pos h2', if_neg h1, if_pos h2]; rfl
  ·have h1' : ¬ (a.length : Int) < (b.length : Int) := by omega
   have h2' : ¬ (a.length : Int) > (b.length : Int) := by omega
   rw [if_neg h1', if_neg h2', if_neg h1, if_neg h2, if_pos rfl, e2 (by omega)]
end Go.Pev.F
end

section
/-
 Traces: the reference's.
-/
namespace Go.Pev.F
theorem specWith_is (k : Nat) (hk : 4194304 < k) (t : List EntT) (line pick : Int) : z110 k (t, line, pick, ()) = some ((withV t line pick, ()), ((), (), (), ())) := by
 unfold z110 withV
 simp only [specTokenOk_is k hk, bd_some]
 cases h1 : tokenOk t with
 | false => simp
 | true =>
  have hl := tokP_len (t := t) h1
  cases h2 : tokenOk [(line, pick, ())] with
  | false => simp
  | true =>
   have hm0 : (([] : List EntT).length + t.length) * 16 ≤ maxBytes := by simp only [List.length_nil, maxBytes]; omega
   have hm : (t.length + ([(line, pick, ())] : List EntT).length) * 16 ≤ maxBytes := by simp only [List.length_cons, List.length_nil, maxBytes]; omega
   simp only [Bool.not_true, br_false, br_dec, and_self, if_true, if_pos hm0, List.nil_append, if_pos hm]
   by_cases h3 : t.length < 3
   ·rw [if_pos (show (t.length : Int) < 3 by omega), if_pos h3]
   ·rw [if_neg (show ¬ (t.length : Int) < 3 by omega), if_neg h3]
theorem specCount_is (k : Nat) (hk : 4194304 < k) (t : List EntT) (ht : t.length ≤ 3) (line : Int) : z93 k (t, line, ()) = some (((countV line t : Int), ()), ((), (), ())) := by
 have gen : ∀ (n i f c : Nat), i + n = t.length → n < f → c ≤ i → iter (z93.l0 k) f (t, line, (c : Int), (i : Int), ()) = some ((((c + countV line (t.drop i) : Nat) : Int), ()), ((), (), ())) := by
  intro n
  induction n with
  | zero =>
   intro i f c hi hf hc
   obtain ⟨f, rfl⟩ : ∃ g, f = g + 1 := ⟨f - 1, by omega⟩
   have h2 : ¬ ((i : Int) < (t.length : Int)) := by omega
   rw [iter_succ, List.drop_of_length_le (by omega)]
   simp only [z93.l0, br_dec, if_neg h2, countV, List.filter_nil, List.length_nil, Nat.add_zero]
  | succ n ih =>
   intro i f c hi hf hc
   obtain ⟨f, rfl⟩ : ∃ g, f = g + 1 := ⟨f - 1, by omega⟩
   have hlt : i < t.length := by omega
   have h2 : ((i : Int) < (t.length : Int)) := by omega
   have h3 : (0 : Int) ≤ (i : Int) := by omega
   rw [iter_succ, List.drop_eq_getElem_cons hlt]
   simp only [z93.l0, br_dec, if_pos h2, if_pos h3, Int.toNat_natCast, List.getElem?_eq_getElem hlt, bd_some, one_is]
   rw [wrap_succ (by omega)]
   cases he : (t[i].1 == line) with
   | true =>
    have ew : IntKind.wrap .i64 ((c : Int) + b2i true) = ((c + 1 : Nat) : Int) := by simp only [b2i, cond_true]; exact wrap_succ (by omega)
    rw [ew, ih (i + 1) f (c + 1) (by omega) (by omega) (by omega)]
    simp only [countV, List.filter_cons, he, if_true, List.length_cons]
    rw [Nat.add_assoc, Nat.add_comm 1]
   | false =>
    have ew : IntKind.wrap .i64 ((c : Int) + b2i false) = ((c : Nat) : Int) := by simp only [b2i, cond_false]; rw [wrap_i64 (by omega) (by omega)]; omega
    rw [ew, ih (i + 1) f c (by omega) (by omega) (by omega)]
    simp only [countV, List.filter_cons, he, Bool.false_eq_true, if_false]
 have h := gen t.length 0 k 0 (by omega) (by omega) (Nat.le_refl _)
 simp only [List.drop_zero, Nat.zero_add] at h
 exact h
theorem specToken_is (k : Nat) (hk : 4194304 < k) (n : LineT) (ln : Int) {t : List EntT} (ht : TokP t) (yes : Bool) (nn v : Int) (h6 : n.1 = 6 → v = b2i yes) (h10 : n.1 = 10 → (yes = true ↔ v = 1)) (h13 : n.1 = 13 → nn = v) :
  z111 k (n, ln, t, yes, nn, ()) = some ((markV t ln n v, ()), ((), (), (), (), (), ())) := by
 unfold z111 markV
 simp only [br_beq, one_is, specWith_is k hk, bd_some, l1In_is]
 by_cases c6 : n.1 = 6
 ·simp only [if_pos c6, h6 c6]
 by_cases c10 : n.1 = 10
 ·have c13 : ¬ n.1 = 13 := by omega
  have c14 : ¬ n.1 = 14 := by omega
  simp only [if_neg c6, if_pos c10, specCount_is k hk t (tokP_len ht), bd_some]
  cases yes with
  | true =>
   have hv : v = 1 := (h10 c10).1 rfl
   subst hv
   simp only [br_true, Option.bind_some, br_dec, true_and]
   by_cases hlt : (countV ln t : Int) < n.2.2.2.2.1
   ·simp only [if_pos hlt]
   ·simp only [if_neg hlt, if_neg c13, Option.bind_some, br_false, if_neg c14]
  | false =>
   have hv : ¬ v = 1 := fun h => by have := (h10 c10).2 h; cases this
   have hv' : ¬ (v = 1 ∧ (countV ln t : Int) < n.2.2.2.2.1) := fun h => hv h.1
   simp only [br_false, Option.bind_some, if_neg hv', if_neg c13, if_neg c14]
 by_cases c13 : n.1 = 13
 ·rw [h13 c13]
  simp only [if_neg c6, if_neg c10, if_pos c13, Option.bind_some, br_false, pickV]
  by_cases hr : n.2.2.2.2.1 ≤ v ∧ v ≤ n.2.2.2.2.2.1
  ·simp only [decide_eq_true hr, br_true, if_pos hr]
  ·simp only [decide_eq_false hr, br_false, if_neg hr]
 simp only [if_neg c6, if_neg c10, if_neg c13, Option.bind_some, br_false]
 by_cases c14 : n.1 = 14
 ·simp only [if_pos c14]
 ·simp only [if_neg c14]
theorem bit_b2i {v : Int} (h : Bit v) : v = b2i (v == 1) := by rcases h with rfl | rfl <;> rfl
theorem specTrace_loop (k : Nat) (hk : 4194304 < k) (p : ProgT) (hd : (declOf p).1.length ≤ 1000 ∧ (declOf p).2.1.length ≤ 1000 ∧ (declOf p).2.2.1.length ≤ 1000) (T inp : List Int) (fuel : Int) (hf : fuel ≤ 2000) : ∀ (r f : Nat) (ln : Int) (s : StoreT) (steps used : Int) (tok : List EntT) (out : List SnpT), RunAt (declOf p) p.2.2.2.1 T inp ln used s → TokP tok → r < f → steps + r = fuel → 0 ≤ steps → out.length + r ≤ 2000 →
  iter (z38.l0 k) f (inp, fuel, (p.1, p.2.1, p.2.2.1, p.2.2.2.1, ()), out, T, ln, used, (s.1, s.2.1, s.2.2.1, ()), tok, steps, ()) = some ((out ++ traceV p.2.2.2.1 T inp r ln s used tok, ()), ((), (), (), ())) := by
 have snap : ∀ (ln : Int) (s : StoreT) (tok : List EntT), SOk (declOf p) s → TokP tok → z143 k (ln, tok, (s.1, s.2.1, s.2.2.1, ()), ()) = some ((snapV ln tok s, ()), ((), (), (), ())) := fun ln s tok hs ht => by
  have hl := tokP_len ht
  have hm : (([] : List EntT).length + tok.length) * 16 ≤ maxBytes := by simp only [List.length_nil, maxBytes]; omega
  have hcp : z36 k ((s.1, s.2.1, s.2.2.1, ()), ()) = some ((s, ()), ((), ())) := copy_is k hk hs hd
  unfold z143
  simp only [br_dec, if_pos hm, hcp, bd_some, List.nil_append, snapV]
 have mb : ∀ (out : List SnpT) (x : SnpT), out.length ≤ 2000 → (out.length + ([x] : List SnpT).length) * 104 ≤ maxBytes := fun out x h => by simp only [List.length_cons, List.length_nil, maxBytes]; omega
 intro r
 induction r with
 | zero =>
  intro f ln s steps used tok out h ht hf' hs h0 hn
  obtain ⟨f, rfl⟩ : ∃ g, f = g + 1 := ⟨f - 1, by omega⟩
  have he : ¬ steps < fuel := by omega
  rw [iter_succ]
  have hj : (br k (decide (ln < (p.2.2.2.1.length : Int))) (some (decide (steps < fuel), ())) (some (false, ())) : Option (Bool × Unit)) = some (false, ()) := by
   rw [decide_eq_false he, br_dec]; split <;> rfl
  simp only [z38.l0, hj, Option.bind_some, br_false, snap ln s tok h.st ht, bd_some, br_dec, if_pos (mb out _ (by omega)), traceV]
 | succ r ih =>
  intro f ln s steps used tok out h ht hf' hs h0 hn
  obtain ⟨f, rfl⟩ : ∃ g, f = g + 1 := ⟨f - 1, by omega⟩
  have he : steps < fuel := by omega
  rw [iter_succ]
  by_cases hl : ln < (p.2.2.2.1.length : Int)
  ·have hj : (br k (decide (ln < (p.2.2.2.1.length : Int))) (some (decide (steps < fuel), ())) (some (false, ())) : Option (Bool × Unit)) = some (true, ()) := by
    rw [decide_eq_true he, br_dec, if_pos hl]
   have hb := h.lnb
   have htl := h.tlen
   obtain ⟨l1, l2, l3, l4⟩ := h.line hl
   have c1 : 0 ≤ ln ∧ ln < (T.length : Int) := by omega
   obtain ⟨i, rfl⟩ : ∃ i : Nat, ln = (i : Int) := ⟨ln.toNat, by omega⟩
   have h30 := h.l30
   have hst := specStep_is k hk hd (h.lines _ l3) p inp h.i1000 (T.getD (i : Int).toNat 0) i (by omega) h.use.1 h.st
   have hst' : z15 k ((p.1, p.2.1, p.2.2.1, p.2.2.2.1, ()), T.getD (i : Int).toNat 0, p.2.2.2.1.getD (i : Int).toNat lineD, (i : Int), (s.1, s.2.1, s.2.2.1, ()), inp, used, ()) = _ := hst
   have hnx := h.next hl
   have ws : IntKind.wrap .i64 (steps + 1) = steps + 1 := wrap_i64 (by omega) (by omega)
   simp only [z38.l0, hj, Option.bind_some, br_true, snap (i : Int) s tok h.st ht, bd_some, br_dec, if_pos (mb out _ (by omega)), if_pos hb.1, l1, if_pos c1, l2, hst', traceV, if_pos hl, ws]
   by_cases hc : (stepV (p.2.2.2.1.getD (i : Int).toNat lineD) inp (T.getD (i : Int).toNat 0) (i : Int) used s).2.2.2 ≠ 0
   ·have b : ((stepV (p.2.2.2.1.getD (i : Int).toNat lineD) inp (T.getD (i : Int).toNat 0) (i : Int) used s).2.2.2 != 0) = true := by simpa using hc
    simp only [b, br_true, if_pos hc]
   ·have b : ((stepV (p.2.2.2.1.getD (i : Int).toNat lineD) inp (T.getD (i : Int).toNat 0) (i : Int) used s).2.2.2 != 0) = false := by simpa using hc
    simp only [b, br_false, if_neg hc, br_beq]
    have hn' := h.lines _ l3
    have hs0 := h.st
    have hc0 : (p.2.2.2.1.getD (i : Int).toNat lineD).1 = 6 ∨ (p.2.2.2.1.getD (i : Int).toNat lineD).1 = 10 → (evalV s [] (p.2.2.2.1.getD (i : Int).toNat lineD).2.2.2.1).2 = 0 := fun hk' => by
     apply Decidable.byContradiction
     intro hne
     apply hc
     unfold stepV
     rw [if_neg (by omega), if_pos ⟨by rcases hk' with e | e <;> rw [e] <;> decide, hne⟩]
     exact hne
    have ih' := ih f _ _ (steps + 1) _ (tokV tok (i : Int) (p.2.2.2.1.getD (i : Int).toNat lineD) s 0) (out ++ [snapV (i : Int) tok s]) hnx (tokV_ok ht _ _ _ _) (by omega) (by omega) (by omega) (by simp; omega)
    rw [List.append_assoc] at ih'
    generalize p.2.2.2.1.getD (i : Int).toNat lineD = n at hn' hc0 ih' ⊢
    have tk : tokV tok (i : Int) n s 0 = markV tok (i : Int) n (seenV n s) := by unfold tokV; rw [if_pos rfl]
    by_cases c13 : n.1 = 13
    ·obtain ⟨v0, v1⟩ := hn'.var (by omega)
     have vl : n.2.1.toNat < s.1.length := by rw [hs0.n0]; exact v1
     have n6 : ¬ n.1 = 6 := by omega
     have n10 : (n.1 == 10) = false := by simp; omega
     have sv : seenV n s = s.1[n.2.1.toNat] := by unfold seenV; rw [if_pos c13, getD_get vl]
     simp only [if_pos c13, if_pos v0, List.getElem?_eq_getElem vl, bd_some, if_neg n6, n10, Option.bind_some, br_false]
     rw [specToken_is k hk n (i : Int) ht _ _ (seenV n s) (fun e => by omega) (fun e => by omega) (fun _ => sv.symm), bd_some]
     simp only
     rw [← tk]
     exact ih'
    ·simp only [if_neg c13]
     by_cases c610 : n.1 = 6 ∨ n.1 = 10
     ·have hj2 : ((if n.1 = 6 then some (true, ()) else some (n.1 == 10, ())) : Option (Bool × Unit)) = some (true, ()) := by
       rcases c610 with e | e
       ·rw [if_pos e]
       ·rw [if_neg (by omega), e]; rfl
      have hx := hn'.bool c610
      have eE : z16 k (n.2.2.2.1, (s.1, s.2.1, s.2.2.1, ()), ()) = _ := (eval_both k hk hs0 n.2.2.2.1 (by rw [hx]; omega)).1
      have hbit := expr_bit hs0 hx (hc0 c610)
      have sv : seenV n s = (evalV s [] n.2.2.2.1).1 := by unfold seenV; rw [if_neg c13]
      simp only [hj2, Option.bind_some, br_true, eE, bd_some]
      rw [specToken_is k hk n (i : Int) ht _ _ (seenV n s) (fun e => by rw [sv]; exact bit_b2i hbit) (fun e => by rw [sv]; simp) (fun e => absurd e c13), bd_some]
      simp only
      rw [← tk]
      exact ih'
     ·have hj2 : ((if n.1 = 6 then some (true, ()) else some (n.1 == 10, ())) : Option (Bool × Unit)) = some (false, ()) := by
       have e10 : (n.1 == 10) = false := by simp; omega
       rw [if_neg (by omega), e10]
      simp only [hj2, Option.bind_some, br_false]
      rw [specToken_is k hk n (i : Int) ht _ _ (seenV n s) (fun e => absurd (.inl e) c610) (fun e => absurd (.inr e) c610) (fun e => absurd e c13), bd_some]
      simp only
      rw [← tk]
      exact ih'
  ·have hj : (br k (decide (ln < (p.2.2.2.1.length : Int))) (some (decide (steps < fuel), ())) (some (false, ())) : Option (Bool × Unit)) = some (false, ()) := by
    rw [br_dec, if_neg hl]
   simp only [z38.l0, hj, Option.bind_some, br_false, snap ln s tok h.st ht, bd_some, br_dec, if_pos (mb out _ (by omega)), traceV, if_neg hl]
theorem specTrace_is (k : Nat) (hk : 4194304 < k) (hk2 : k ≤ 4611686018427387903) (p : ProgT) (hp : PSmall p) (inp : List Int) (fuel : Int) : z38 k (p, inp, fuel, ()) = some ((traceOf p inp fuel, ()), ((), (), (), ())) := by
 unfold z38 traceOf
 simp only [formS_is k hk hk2 p hp, bd_some]
 cases hf : formOk p inp fuel with
 | false => simp
 | true =>
  have hA := runAt_new hf
  simp only [formOk, Bool.and_eq_true, decide_eq_true_eq] at hf
  obtain ⟨h1, h2, h3⟩ := hf
  have hdo := (progOk_parts h1).1
  obtain ⟨⟨q0, q1, q2⟩, _⟩ := decl_arrs hdo
  have eN : z41 k ((p.1, p.2.1, p.2.2.1, ()), ()) = some ((newS (declOf p), ()), ((), ())) := specNew_is k hk hp.d hdo
  have hl := specTrace_loop k hk p ⟨by omega, by omega, by omega⟩ (targetsOf p.2.2.2.1) inp fuel h2.2 fuel.toNat k 0 (newS (declOf p)) 0 0 [] [] hA rfl (by omega) (by omega) (by omega) (by simp; omega)
  simp only [Bool.not_true, br_false, specTargets_is k hk hk2 p hp h1, eN, bd_some, if_true]
  exact hl
end Go.Pev.F
end

section
/-
 An environment's text: sizes, copies, comparisons; which are right.
-/
namespace Go.Pev.F
structure ESmall (e : EnvT) : Prop where
 n1 : e.2.1.length ≤ 1048576
 n2 : e.2.2.1.length ≤ 1048576
def ivOk (a : IvT) : Bool := decide (a.1 ≤ a.2.1)
def ivsOk (l : List IvT) : Bool := !l.any fun a => !ivOk a
def envFits (d : DeclT) (e : EnvT) : Bool :=
 cond e.1 (((e.2.1.length : Int) == (d.1.length : Int)) && (((e.2.2.1.length : Int) == (d.2.2.1.length : Int)) && (ivsOk e.2.1 && ivsOk e.2.2.1))) (((e.2.1.length : Int) == 0) && ((e.2.2.1.length : Int) == 0))
theorem areAllIv_is (k : Nat) (l : List IvT) (hl : l.length ≤ 1048576) (hk : 4194304 < k) : z147 k (l, (()), ()) = some ((ivsOk l, ()), ((), (()), ())) := by
 obtain ⟨n, h1, h2⟩ := iter_find (b := z78.l0 k) (fun i => (l, (((()), ()), ()), (l.length : Int), (i : Int), ())) l (fun a => !ivOk a) (o := ((), (((()), ()), ()), ())) (fun G i hi => by
  have h2 : ((i : Int) < (l.length : Int)) := by omega
  have h3 : (0 : Int) ≤ (i : Int) := by omega
  simp only [z78.l0, z207, z206, br_dec, if_pos h2, if_pos h3, Int.toNat_natCast, List.getElem?_eq_getElem hi, bd_some]
  rw [wrap_succ (by omega), ivOk]
  cases decide (l[i].1 ≤ l[i].2.1) <;> simp) (fun G => by
  have h2 : ¬ ((l.length : Int) < (l.length : Int)) := by omega
  simp only [z78.l0, br_dec, if_neg h2]) (f := k) (by omega)
 unfold z147 z208 z78
 have h1' : iter (z78.l0 k) k (l, (((()), ()), ()), (l.length : Int), 0, ()) = some ((n, ()), ((), (((()), ()), ()), ())) := h1
 simp only [h1', bd_some, h2]
 rfl
theorem isEnv_is (k : Nat) (hk : 4194304 < k) (d : DeclT) (e : EnvT) (he : ESmall e) : z181 k (d, e, ()) = some ((envFits d e, ()), ((), (), ())) := by
 unfold z181 envFits
 cases he1 : e.1 with
 | false =>
  simp only [he1, Bool.not_false, br_true, cond_false]
  cases hz : ((e.2.1.length : Int) == 0) <;> simp
 | true =>
  simp only [he1, Bool.not_true, br_false, cond_true]
  cases h1 : ((e.2.1.length : Int) == (d.1.length : Int)) with
  | false => simp
  | true =>
   cases h2 : ((e.2.2.1.length : Int) == (d.2.2.1.length : Int)) with
   | false => simp
   | true =>
    simp only [areAllIv_is k _ he.n1 hk, areAllIv_is k _ he.n2 hk, br_true, bd_some]
    cases ivsOk e.2.1 <;> simp
end Go.Pev.F
end

section
/-
 Tables: which are right, and which live: the reference's test and the program's agree.
-/
namespace Go.Pev.F
def tableOk (d : DeclT) (t : List EnvT) : Bool := decide ((t.length : Int) = 2 ^ d.2.1.length) && t.all (envFits d)
def tableLive (t : List EnvT) : Bool := t.any fun e => e.1
theorem wrap_pow {n : Nat} (h : n ≤ 3) : IntKind.wrap .i64 (1 * 2 ^ (min n 64)) = 2 ^ n := by
 have : n = 0 ∨ n = 1 ∨ n = 2 ∨ n = 3 := by omega
 rcases this with rfl | rfl | rfl | rfl <;> decide
theorem leaves_of (k : Nat) (d : DeclT) (h : d.2.1.length ≤ 3) : z95 k (d, ()) = some (((2 : Int) ^ d.2.1.length, ()), ((), ())) := by
 unfold z95
 have h0 : (0 : Int) ≤ (d.2.1.length : Int) := by omega
 simp only [br_dec, if_pos h0, Int.toNat_natCast, wrap_pow h]
theorem decl_flags {d : DeclT} (h : declOk d = true) : d.1.length ≤ 5 ∧ d.2.1.length ≤ 3 ∧ d.2.2.1.length ≤ 2 := by
 unfold declOk at h
 rw [Bool.and_eq_true] at h
 exact of_decide_eq_true h.1
theorem areAllEnv_is (k : Nat) (hk : 4194304 < k) (d : DeclT) (t : List EnvT) (ht : t.length ≤ 1048576) (hs : ∀ e ∈ t, ESmall e) : z182 k (t, (d, ()), ()) = some ((t.all (envFits d), ()), ((), ((), ()), ())) := by
 obtain ⟨n, h1, h2⟩ := iter_find (b := z79.l0 k) (fun i => (t, (((d, ()), ()), ()), (t.length : Int), (i : Int), ())) t (fun e => !envFits d e) (o := ((), (((d, ()), ()), ()), ())) (fun G i hi => by
  have h2 : ((i : Int) < (t.length : Int)) := by omega
  have h3 : (0 : Int) ≤ (i : Int) := by omega
  simp only [z79.l0, z209, isEnv_is k hk d t[i] (hs _ (List.getElem_mem hi)), br_dec, if_pos h2, if_pos h3, Int.toNat_natCast, List.getElem?_eq_getElem hi, bd_some]
  rw [wrap_succ (by omega)]
  cases envFits d t[i] <;> simp) (fun G => by
  have h2 : ¬ ((t.length : Int) < (t.length : Int)) := by omega
  simp only [z79.l0, br_dec, if_neg h2]) (f := k) (by omega)
 unfold z182 z210 z79
 have h1' : iter (z79.l0 k) k (t, (((d, ()), ()), ()), (t.length : Int), 0, ()) = some ((n, ()), ((), (((d, ()), ()), ()), ())) := h1
 simp only [h1', bd_some, h2, all_any, Bool.not_not]
theorem isTable_is (k : Nat) (hk : 4194304 < k) (d : DeclT) (hf : d.2.1.length ≤ 3) (t : List EnvT) (ht : t.length ≤ 1048576) (hs : ∀ e ∈ t, ESmall e) : z114 k (d, t, ()) = some ((tableOk d t, ()), ((), (), ())) := by
 unfold z114 tableOk z205
 simp only [bd_some, leaves_of k d hf, areAllEnv_is k hk d t ht hs]
 by_cases hl : (t.length : Int) = 2 ^ d.2.1.length
 ·have b : ((t.length : Int) == 2 ^ d.2.1.length) = true := by simpa using hl
  rw [b, br_true, decide_eq_true hl, Bool.true_and]
 ·have b : ((t.length : Int) == 2 ^ d.2.1.length) = false := by simpa using hl
  rw [b, br_false, decide_eq_false hl]; rfl
end Go.Pev.F
end

section
/-
 Parts: which are right: the reference's test and the program's agree.
-/
namespace Go.Pev.F
abbrev PartT := List EntT × List EnvT × Unit
def partOkB (d : DeclT) (p : PartT) : Bool := tokenOk p.1 && (tableOk d p.2.1 && tableLive p.2.1)
def above (prev : Option (List EntT)) (t : List EntT) : Bool :=
 match prev with
 | none => true
 | some s => !decide (cmpT s t ≥ 0)
def riseP : Option (List EntT) → List PartT → Bool
 | _, [] => true
 | prev, p :: r => above prev p.1 && riseP (some p.1) r
def partsOk (d : DeclT) (l : List PartT) : Bool := decide (l.length ≤ 100) && (l.all (partOkB d) && riseP none l)
structure LSmall (l : List PartT) : Prop where
 n : l.length ≤ 1048576
 t : ∀ p ∈ l, p.1.length ≤ 1048576
 m : ∀ p ∈ l, p.2.1.length ≤ 1048576
 e : ∀ p ∈ l, ∀ e ∈ p.2.1, ESmall e
end Go.Pev.F
end

section
/-
 Parts: the program's test.
-/
namespace Go.Pev.F
theorem live_is (k : Nat) (hk : 4194304 < k) (t : List EnvT) (ht : t.length ≤ 1048576) : z183 k (t, (()), ()) = some ((tableLive t, ()), ((), (()), ())) := by
 obtain ⟨n, h1, h2⟩ := iter_find (b := z80.l0 k) (fun i => (t, (()), (t.length : Int), (i : Int), ())) t (fun e => e.1) (o := ((), (()), ())) (fun G i hi => by
  have h2 : ((i : Int) < (t.length : Int)) := by omega
  have h3 : (0 : Int) ≤ (i : Int) := by omega
  simp only [z80.l0, z211, br_dec, if_pos h2, if_pos h3, Int.toNat_natCast, List.getElem?_eq_getElem hi, bd_some]
  rw [wrap_succ (by omega)]
  cases t[i].1 <;> simp) (fun G => by
  have h2 : ¬ ((t.length : Int) < (t.length : Int)) := by omega
  simp only [z80.l0, br_dec, if_neg h2]) (f := k) (by omega)
 unfold z183 z80
 have h1' : iter (z80.l0 k) k (t, (()), (t.length : Int), 0, ()) = some ((n, ()), ((), (()), ())) := h1
 simp only [h1', bd_some, h2]
 rfl
theorem partOk_is (k : Nat) (hk : 4194304 < k) (d : DeclT) (hf : d.2.1.length ≤ 3) (p : PartT) (hm : p.2.1.length ≤ 1048576) (hs : ∀ e ∈ p.2.1, ESmall e) : z184 k (d, p, ()) = some ((partOkB d p, ()), ((), (), ())) := by
 unfold z184 partOkB
 simp only [implTokenOk_is k hk, isTable_is k hk d hf p.2.1 hm hs, live_is k hk p.2.1 hm, bd_some]
 cases tokenOk p.1 <;> cases tableOk d p.2.1 <;> simp
theorem areAllPart_is (k : Nat) (hk : 4194304 < k) (d : DeclT) (hf : d.2.1.length ≤ 3) (l : List PartT) (hl : LSmall l) : z120 k (l, (d, ()), ()) = some ((l.all (partOkB d), ()), ((), ((), ()), ())) := by
 have hn := hl.n
 obtain ⟨n, h1, h2⟩ := iter_find (b := z81.l0 k) (fun i => (l, (((d, ()), ()), ()), (l.length : Int), (i : Int), ())) l (fun p => !partOkB d p) (o := ((), (((d, ()), ()), ()), ())) (fun G i hi => by
  have h2 : ((i : Int) < (l.length : Int)) := by omega
  have h3 : (0 : Int) ≤ (i : Int) := by omega
  have hm := List.getElem_mem hi
  simp only [z81.l0, z212, partOk_is k hk d hf l[i] (hl.m _ hm) (hl.e _ hm), br_dec, if_pos h2, if_pos h3, Int.toNat_natCast, List.getElem?_eq_getElem hi, bd_some]
  rw [wrap_succ (by omega)]
  cases partOkB d l[i] <;> simp) (fun G => by
  have h2 : ¬ ((l.length : Int) < (l.length : Int)) := by omega
  simp only [z81.l0, br_dec, if_neg h2]) (f := k) (by omega)
 unfold z120 z213 z81
 have h1' : iter (z81.l0 k) k (l, (((d, ()), ()), ()), (l.length : Int), 0, ()) = some ((n, ()), ((), (((d, ()), ()), ()), ())) := h1
 simp only [h1', bd_some, h2, all_any, Bool.not_not]
theorem implParts_loop (k : Nat) (hk : 4194304 < k) (d : DeclT) (hf : d.2.1.length ≤ 3) (l : List PartT) (hl : LSmall l) : ∀ (n i f : Nat) (h1 : 1 ≤ i), (i ≤ l.length → ∀ (h' : i - 1 < l.length), i + n = l.length → n < f →
  iter (z62.l0 k) f (l, (d.1, d.2.1, d.2.2.1, ()), (i : Int), ()) = some ((riseP (some l[i - 1].1) (l.drop i) && (decide (l.length ≤ 100) && l.all (partOkB d)), ()), ((), (), ()))) := by
 have hn := hl.n
 intro n
 induction n with
 | zero =>
  intro i f h1 hle h' hi hf'
  obtain ⟨f, rfl⟩ : ∃ g, f = g + 1 := ⟨f - 1, by omega⟩
  have h2 : ¬ ((i : Int) < (l.length : Int)) := by omega
  have ha : z120 k (l, ((d.1, d.2.1, d.2.2.1, ()), ()), ()) = some ((l.all (partOkB d), ()), ((), ((), ()), ())) := areAllPart_is k hk d hf l hl
  rw [iter_succ, List.drop_of_length_le (by omega)]
  simp only [z62.l0, br_dec, if_neg h2, riseP, Bool.true_and, ha, bd_some]
  by_cases hc : l.length ≤ 100
  ·rw [if_pos (by omega), decide_eq_true hc, Bool.true_and]
  ·rw [if_neg (by omega), decide_eq_false hc]; rfl
 | succ n ih =>
  intro i f h1 hle h' hi hf'
  obtain ⟨f, rfl⟩ : ∃ g, f = g + 1 := ⟨f - 1, by omega⟩
  have hi' : i < l.length := by omega
  have h2 : ((i : Int) < (l.length : Int)) := by omega
  have h3 : (0 : Int) ≤ (i : Int) := by omega
  have ew : IntKind.wrap .i64 ((i : Int) - 1) = ((i - 1 : Nat) : Int) := by rw [wrap_i64 (by omega) (by omega)]; omega
  have h4 : (0 : Int) ≤ ((i - 1 : Nat) : Int) := by omega
  rw [iter_succ, List.drop_eq_getElem_cons hi']
  simp only [z62.l0, br_dec (p := (i : Int) < (l.length : Int)), br_dec (p := (0 : Int) ≤ (i : Int)), if_pos h2, if_pos h3, ew, br_dec (p := (0 : Int) ≤ ((i - 1 : Nat) : Int)), if_pos h4, Int.toNat_natCast, List.getElem?_eq_getElem hi', List.getElem?_eq_getElem h', bd_some, implCmp_is k hk l[i - 1].1 l[i].1 (hl.t _ (List.getElem_mem h')), riseP, above]
  rw [wrap_succ (by omega)]
  cases decide (cmpT l[i - 1].1 l[i].1 ≥ 0) with
  | true => simp
  | false =>
   have := ih (i + 1) f (by omega) (by omega) (by omega) (by omega) (by omega)
   simp only [Nat.add_sub_cancel] at this
   simpa using this
theorem areParts_is (k : Nat) (hk : 4194304 < k) (d : DeclT) (hf : d.2.1.length ≤ 3) (l : List PartT) (hl : LSmall l) : z62 k (d, l, ()) = some ((partsOk d l, ()), ((), (), ())) := by
 have hn := hl.n
 unfold z62 partsOk
 cases l with
 | nil =>
  obtain ⟨j, rfl⟩ : ∃ j, k = j + 1 := ⟨k - 1, by omega⟩
  have ha : z120 (j + 1) (([] : List PartT), ((d.1, d.2.1, d.2.2.1, ()), ()), ()) = some ((([] : List PartT).all (partOkB d), ()), ((), ((), ()), ())) := areAllPart_is (j + 1) hk d hf [] hl
  simp only
  rw [iter_succ]
  simp only [z62.l0, br_dec, List.length_nil]
  rw [if_neg (by decide), if_pos (by decide), ha]
  simp [riseP]
 | cons p r =>
  have h := implParts_loop k hk d hf (p :: r) hl r.length 1 k (Nat.le_refl _) (by simp) (by simp) (by simp; omega) (by simp at hn; omega)
  refine Eq.trans h ?_
  simp only [riseP, above, Bool.true_and]
  have e : (p :: r)[1 - 1].1 = p.1 := rfl
  have e2 : (p :: r).drop 1 = r := rfl
  rw [e, e2]
  cases riseP (some p.1) r <;> simp
end Go.Pev.F
end

section
/-
 The order of tokens is transitive; rising parts rise everywhere.
-/
namespace Go.Pev.F
theorem cmpE_cases (x y : EntT) : (cmpE x y = -1 ∧ (x.1 < y.1 ∨ (x.1 = y.1 ∧ x.2.1 < y.2.1))) ∨ (cmpE x y = 1 ∧ (y.1 < x.1 ∨ (x.1 = y.1 ∧ y.2.1 < x.2.1))) ∨ (cmpE x y = 0 ∧ x.1 = y.1 ∧ x.2.1 = y.2.1) := by
 unfold cmpE
 by_cases h1 : x.1 < y.1
 ·rw [if_pos h1]; exact .inl ⟨rfl, .inl h1⟩
 ·by_cases h2 : x.1 > y.1
  ·rw [if_neg h1, if_pos h2]; exact .inr (.inl ⟨rfl, .inl h2⟩)
  ·by_cases h3 : x.2.1 < y.2.1
   ·rw [if_neg h1, if_neg h2, if_pos h3]; exact .inl ⟨rfl, .inr ⟨by omega, h3⟩⟩
   ·by_cases h4 : x.2.1 > y.2.1
    ·rw [if_neg h1, if_neg h2, if_neg h3, if_pos h4]; exact .inr (.inl ⟨rfl, .inr ⟨by omega, h4⟩⟩)
    ·rw [if_neg h1, if_neg h2, if_neg h3, if_neg h4]; exact .inr (.inr ⟨rfl, by omega, by omega⟩)
theorem cmpX_lt : ∀ (a b c : List EntT), a.length = b.length → b.length = c.length → cmpX a b < 0 → cmpX b c ≤ 0 → cmpX a c < 0
 | [], [], _, _, _, h, _ => by simp [cmpX] at h
 | x :: a, y :: b, z :: c, h1, h2, h, h' => by
  have ih := cmpX_lt a b c (by simpa using h1) (by simpa using h2)
  simp only [cmpX] at h h' ⊢
  rcases cmpE_cases x y with ⟨e1, f1⟩ | ⟨e1, f1⟩ | ⟨e1, f1⟩ <;> rcases cmpE_cases y z with ⟨e2, f2⟩ | ⟨e2, f2⟩ | ⟨e2, f2⟩ <;> rcases cmpE_cases x z with ⟨e3, f3⟩ | ⟨e3, f3⟩ | ⟨e3, f3⟩ <;> simp only [e1, e2, e3] at h h' ⊢ <;> simp at h h' ⊢ <;> first | omega | exact ih h h'
theorem cmpT_lt {a b c : List EntT} (h : cmpT a b < 0) (h' : cmpT b c ≤ 0) : cmpT a c < 0 := by
 unfold cmpT at h h' ⊢
 by_cases h1 : a.length < b.length
 ·by_cases h2 : c.length < b.length
  ·rw [if_neg (by omega), if_pos (by omega)] at h'; omega
  ·rw [if_pos (by omega)]; decide
 ·by_cases h2 : a.length > b.length
  ·rw [if_neg h1, if_pos h2] at h; omega
  ·rw [if_neg h1, if_neg h2] at h
   by_cases h3 : b.length < c.length
   ·rw [if_pos (by omega)]; decide
   ·by_cases h4 : b.length > c.length
    ·rw [if_neg h3, if_pos h4] at h'; omega
    ·rw [if_neg h3, if_neg h4] at h'
     rw [if_neg (by omega), if_neg (by omega)]
     exact cmpX_lt a b c (by omega) (by omega) h h'
theorem rise_all : ∀ (l : List PartT) (prev : Option (List EntT)), riseP prev l = true → (∀ s, prev = some s → ∀ p ∈ l, cmpT s p.1 < 0) ∧ l.Pairwise fun p q => cmpT p.1 q.1 < 0
 | [], _, _ => ⟨fun _ _ p hp => by simp at hp, .nil⟩
 | p :: r, prev, h => by
  simp only [riseP, Bool.and_eq_true] at h
  obtain ⟨h1, h2⟩ := rise_all r (some p.1) h.2
  refine ⟨fun s hs q hq => ?_, List.pairwise_cons.2 ⟨fun q hq => h1 p.1 rfl q hq, h2⟩⟩
  subst hs
  have hsp : cmpT s p.1 < 0 := by
   have := h.1
   simp only [above, Bool.not_eq_true', decide_eq_false_iff_not] at this
   omega
  rcases List.mem_cons.1 hq with rfl | hq
  ·exact hsp
  ·exact cmpT_lt hsp (by have := h1 p.1 rfl q hq; omega)
end Go.Pev.F
end

section
/-
 The binary search of rising parts finds what there is.
-/
namespace Go.Pev.F
theorem search_loop (k : Nat) (hk : 4194304 < k) (l : List PartT) (hl : LSmall l) (hP : l.Pairwise fun p q => cmpT p.1 q.1 < 0) (t : List EntT) : ∀ (n i j f : Nat), j - i ≤ n → n < f → i ≤ j → j ≤ l.length → (∀ x (hx : x < l.length), x < i → cmpT l[x].1 t < 0) → (∀ x (hx : x < l.length), j ≤ x → cmpT l[x].1 t ≥ 0) →
  ∃ (m : Nat) (b : Bool), iter (z82.l0 k) f (l, t, (()), (l.length : Int), (i : Int), (j : Int), ()) = some (((m : Int), b, ()), ((), (), (()), ())) ∧ (b = true → ∃ h : m < l.length, cmpT l[m].1 t = 0) ∧ (b = false → ∀ x (hx : x < l.length), cmpT l[x].1 t ≠ 0) := by
 have hn := hl.n
 have hlt := List.pairwise_iff_getElem.1 hP
 intro n
 induction n with
 | zero =>
  intro i j f hij hf h1 h2 lo hi
  obtain ⟨f, rfl⟩ : ∃ g, f = g + 1 := ⟨f - 1, by omega⟩
  obtain rfl : i = j := by omega
  have c0 : ¬ ((i : Int) < (i : Int)) := by omega
  have c3 : (0 : Int) ≤ (i : Int) := by omega
  rw [iter_succ]
  simp only [z82.l0, z148, br_dec, if_neg c0, if_pos c3, Int.toNat_natCast]
  by_cases hil : i < l.length
  ·have hil' : (i : Int) < (l.length : Int) := by omega
   have hc := implCmp_is k hk l[i].1 t (hl.t _ (List.getElem_mem hil))
   simp only [if_pos hil', List.getElem?_eq_getElem hil, bd_some, hc, Option.bind_some]
   refine ⟨i, _, rfl, fun h => ⟨hil, by simpa using h⟩, fun h x hx => ?_⟩
   by_cases hxi : x < i
   ·have := lo x hx hxi; omega
   ·by_cases he : x = i
    ·subst he; simpa using h
    ·have h3 := hi i hil (Nat.le_refl _)
     have h4 := hlt i x hil hx (by omega)
     intro h5
     have := cmpT_lt h4 (Int.le_of_eq h5)
     omega
  ·have hil' : ¬ (i : Int) < (l.length : Int) := by omega
   simp only [if_neg hil', Option.bind_some]
   exact ⟨i, false, rfl, fun h => (by cases h), fun _ x hx => by have := lo x hx (by omega); omega⟩
 | succ n ih =>
  intro i j f hij hf h1 h2 lo hi
  by_cases hlt' : i < j
  ·obtain ⟨f, rfl⟩ : ∃ g, f = g + 1 := ⟨f - 1, by omega⟩
   obtain ⟨h, hh⟩ : ∃ h, h = (i + j) / 2 := ⟨_, rfl⟩
   have hil : h < l.length := by omega
   have c0 : ((i : Int) < (j : Int)) := by omega
   have c1 : (0 : Int) ≤ 1 := by decide
   have c3 : (0 : Int) ≤ (h : Int) := by omega
   have e2 : ((2 : Int) ^ (min (1 : Int).toNat 64)) = 2 := by decide
   have eh : IntKind.wrap .i64 ((IntKind.wrap .u64 (IntKind.wrap .i64 ((i : Int) + (j : Int)))).fdiv (2 ^ (min (1 : Int).toNat 64))) = (h : Int) := by
    rw [e2, wrap_i64 (n := (i : Int) + (j : Int)) (by omega) (by omega), wrap_u64 (by omega) (by omega), Int.fdiv_eq_ediv_of_nonneg _ (by decide), wrap_i64 (by omega) (by omega)]
    omega
   have hc := implCmp_is k hk l[h].1 t (hl.t _ (List.getElem_mem hil))
   rw [iter_succ]
   simp only [z82.l0, z148, br_dec, if_pos c0, if_pos c1, eh, if_pos c3, Int.toNat_natCast, List.getElem?_eq_getElem hil, bd_some, hc]
   by_cases hneg : cmpT l[h].1 t < 0
   ·rw [if_pos hneg, wrap_succ (by omega)]
    refine ih (h + 1) j f (by omega) (by omega) (by omega) h2 (fun x hx hxh => ?_) hi
    by_cases he : x = h
    ·subst he; exact hneg
    ·exact cmpT_lt (hlt x h hx hil (by omega)) (by omega)
   ·rw [if_neg hneg]
    refine ih i h f (by omega) (by omega) (by omega) (by omega) lo (fun x hx hxh => ?_)
    by_cases he : x = h
    ·subst he; omega
    ·by_cases h7 : cmpT l[x].1 t < 0
     ·exact absurd (cmpT_lt (hlt h x hil hx (by omega)) (by omega)) hneg
     ·omega
  ·exact ih i j f (by omega) (by omega) h1 h2 lo hi
end Go.Pev.F
end

section
/-
 Stores of a declaration's form: the program's answer.
-/
namespace Go.Pev.F
theorem implRows (k : Nat) (hk : 4194304 < k) (d : DeclT) (s : StoreT) (hs : SSmall s) (hl : s.2.2.1.length = d.2.2.1.length) : iter (z63.l0 k) k ((s.1, s.2.1, s.2.2.1, ()), d.2.2.1, (d.2.2.1.length : Int), 0, ()) = some ((rowsOk d s, ()), ((), (), ())) := by
 have n2 := hs.n2
 have h := iter_range (b := z63.l0 k) (fun i => ((s.1, s.2.1, s.2.2.1, ()), d.2.2.1, (d.2.2.1.length : Int), (i : Int), ())) s.2.2.1.length (fun i => ((s.2.2.1.getD i []).length : Int) != (d.2.2.1.getD i ([], 0, ())).2.1) (rf := some ((false, ()), ((), (), ()))) (r := some ((true, ()), ((), (), ()))) (fun G i hi => by
  have hi2 : i < d.2.2.1.length := by omega
  have h2 : ((i : Int) < (d.2.2.1.length : Int)) := by omega
  have h3 : (0 : Int) ≤ (i : Int) := by omega
  have g1 : s.2.2.1.getD i [] = s.2.2.1[i] := by simp [List.getD, List.getElem?_eq_getElem hi]
  have g2 : d.2.2.1.getD i ([], 0, ()) = d.2.2.1[i] := by simp [List.getD, List.getElem?_eq_getElem hi2]
  simp only [z63.l0, z32, br_dec, if_pos h2, if_pos h3, Int.toNat_natCast, List.getElem?_eq_getElem hi, List.getElem?_eq_getElem hi2, bd_some, g1, g2]
  rw [wrap_succ (by omega)]
  cases ((s.2.2.1[i].length : Int) != d.2.2.1[i].2.1) <;> simp) (fun G => by
  have h2 : ¬ ((s.2.2.1.length : Int) < (d.2.2.1.length : Int)) := by omega
  simp only [z63.l0, br_dec, if_neg h2]) (f := k) (by omega)
 refine Eq.trans h ?_
 unfold rowsOk
 cases (List.range s.2.2.1.length).any fun i => ((s.2.2.1.getD i []).length : Int) != (d.2.2.1.getD i ([], 0, ())).2.1 <;> rfl
theorem isStore_is (k : Nat) (hk : 4194304 < k) (d : DeclT) (s : StoreT) (hs : SSmall s) : z63 k (d, s, ()) = some ((lensOk d s && rowsOk d s, ()), ((), (), ())) := by
 unfold z63
 cases hl : lensOk d s with
 | true =>
  obtain ⟨l0, l1, l2⟩ := lens_of hl
  have hr := implRows k hk d s hs l2
  simp only [l0, l1, l2, bne_self_eq_false, br_false, Option.bind_some, Bool.true_and]
  exact hr
 | false =>
  unfold lensOk at hl
  simp only [bne]
  revert hl
  cases ((s.1.length : Int) == (d.1.length : Int)) <;> cases ((s.2.1.length : Int) == (d.2.1.length : Int)) <;> cases ((s.2.2.1.length : Int) == (d.2.2.1.length : Int)) <;> simp
end Go.Pev.F
end

section
/-
 Right stores: the reference's answer.
-/
namespace Go.Pev.F
end Go.Pev.F
end

section
/-
 The leaf of flags: the reference's sum of powers is the program's bits.
-/
namespace Go.Pev.F
def oneB (b : Bool) : Int := cond b 1 0
def leafN : List Bool → Int
 | [] => 0
 | b :: r => oneB b + 2 * leafN r
theorem truth_is (k : Nat) (b : Bool) : z29 k (b, ()) = some ((oneB b, ()), ((), ())) := by
 unfold z29 oneB; cases b <;> simp
theorem leafN_take (l : List Bool) : ∀ {i : Nat} (hi : i < l.length), leafN (l.take (i + 1)) = leafN (l.take i) + oneB l[i] * 2 ^ i := by
 induction l with
 | nil => intro i hi; simp at hi
 | cons b r ih =>
  intro i hi
  cases i with
  | zero => simp [leafN]
  | succ i =>
   have hr : i < r.length := by simpa using hi
   have := ih (i := i) hr
   simp only [List.take_succ_cons, leafN, this, List.getElem_cons_succ, Int.pow_succ]
   generalize leafN (r.take i) = A
   generalize oneB r[i] = B
   generalize (2 : Int) ^ i = C
   rw [Int.mul_add, ← Int.add_assoc, Int.mul_comm 2 (B * C), Int.mul_assoc]
theorem leafN_lt : ∀ (l : List Bool), 0 ≤ leafN l ∧ leafN l < 2 ^ l.length
 | [] => by simp [leafN]
 | b :: r => by
  have := leafN_lt r
  have h : (2 : Int) ^ (b :: r).length = 2 * 2 ^ r.length := by rw [List.length_cons, Int.pow_succ, Int.mul_comm]
  rw [h]
  have hb : 0 ≤ oneB b ∧ oneB b ≤ 1 := by cases b <;> decide
  simp only [leafN]
  omega
theorem leafOf_is (k : Nat) (hk : 4194304 < k) (l : List Bool) (h : l.length ≤ 3) : z83 k (l, ()) = some ((leafN l, ()), ((), ())) := by
 have key := iter_for (b := z83.l0 k) (fun i => (leafN (l.take i), l, (l.length : Int), (i : Int), ())) l.length (r := some ((leafN l, ()), ((), ()))) (fun G i hi => by
  have h2 : ((i : Int) < (l.length : Int)) := by omega
  have h3 : (0 : Int) ≤ (i : Int) := by omega
  have hb : oneB l[i] = 0 ∨ oneB l[i] = 1 := by cases l[i] <;> decide
  have hl := leafN_lt (l.take i)
  have e : IntKind.wrap .i64 (((BitVec.ofInt 64 (leafN (l.take i)) ||| BitVec.ofInt 64 (IntKind.wrap .i64 (oneB l[i] * 2 ^ (min i 64)))).toNat : Int)) = leafN (l.take (i + 1)) := by
   rw [leafN_take l hi]
   have hi3 : i = 0 ∨ i = 1 ∨ i = 2 := by omega
   have hlen : (l.take i).length = i := by simp; omega
   rw [hlen] at hl
   obtain ⟨h5, h6⟩ := hl
   generalize leafN (l.take i) = A at h5 h6 ⊢
   rcases hi3 with rfl | rfl | rfl
   ·have : A = 0 := by have : (2 : Int) ^ 0 = 1 := rfl; omega
    subst this
    rcases hb with e | e <;> rw [e] <;> decide
   ·have : A = 0 ∨ A = 1 := by have : (2 : Int) ^ 1 = 2 := rfl; omega
    rcases this with rfl | rfl <;> rcases hb with e | e <;> rw [e] <;> decide
   ·have : A = 0 ∨ A = 1 ∨ A = 2 ∨ A = 3 := by have : (2 : Int) ^ 2 = 4 := rfl; omega
    rcases this with rfl | rfl | rfl | rfl <;> rcases hb with e | e <;> rw [e] <;> decide
  simp only [z83.l0, br_dec, if_pos h2, if_pos h3, Int.toNat_natCast, List.getElem?_eq_getElem hi, bd_some, truth_is, e]
  rw [wrap_succ (by omega)]) (fun G => by
  have h2 : ¬ ((l.length : Int) < (l.length : Int)) := by omega
  simp only [z83.l0, br_dec, if_neg h2, List.take_length]) (f := k) (by omega)
 unfold z83
 exact key
end Go.Pev.F
end

section
/-
 Whether bounds have a store: the reference's test and the program's agree.
-/
namespace Go.Pev.F
def hasI (a : IvT) (n : Int) : Bool := decide (a.1 ≤ n ∧ n ≤ a.2.1)
def hasInts (e : EnvT) (s : StoreT) : Bool := !(List.range e.2.1.length).any fun i => !hasI (e.2.1.getD i (0, 0, ())) (s.1.getD i 0)
def hasRow (a : IvT) (l : List Int) : Bool := l.all (hasI a)
def hasArrs (e : EnvT) (s : StoreT) : Bool := !(List.range e.2.2.1.length).any fun i => !hasRow (e.2.2.1.getD i (0, 0, ())) (s.2.2.1.getD i [])
def envHas (e : EnvT) (s : StoreT) : Bool := e.1 && (hasInts e s && hasArrs e s)
theorem has_is (k : Nat) (a : IvT) (n : Int) : z115 k (a, n, ()) = some ((hasI a n, ()), ((), (), ())) := by
 unfold z115 hasI
 simp only [within_is, bd_some]
theorem areAllInt_is (k : Nat) (hk : 4194304 < k) (a : IvT) (l : List Int) (hl : l.length ≤ 1048576) : z186 k (l, (a, ()), ()) = some ((hasRow a l, ()), ((), ((), ()), ())) := by
 obtain ⟨n, h1, h2⟩ := iter_find (b := z84.l0 k) (fun i => (l, (((a, ()), ()), ()), (l.length : Int), (i : Int), ())) l (fun n => !hasI a n) (o := ((), (((a, ()), ()), ()), ())) (fun G i hi => by
  have h2 : ((i : Int) < (l.length : Int)) := by omega
  have h3 : (0 : Int) ≤ (i : Int) := by omega
  simp only [z84.l0, z216, has_is, br_dec, if_pos h2, if_pos h3, Int.toNat_natCast, List.getElem?_eq_getElem hi, bd_some]
  rw [wrap_succ (by omega)]
  cases hasI a l[i] <;> simp) (fun G => by
  have h2 : ¬ ((l.length : Int) < (l.length : Int)) := by omega
  simp only [z84.l0, br_dec, if_neg h2]) (f := k) (by omega)
 unfold z186 z217 z84
 have h1' : iter (z84.l0 k) k (l, (((a, ()), ()), ()), (l.length : Int), 0, ()) = some ((n, ()), ((), (((a, ()), ()), ()), ())) := h1
 simp only [h1', bd_some, h2, all_any, Bool.not_not, hasRow]
theorem hasStore_is (k : Nat) (hk : 4194304 < k) (e : EnvT) (he : ESmall e) (s : StoreT) (hs : SSmall s) (hl : e.1 = true → e.2.1.length = s.1.length ∧ e.2.2.1.length = s.2.2.1.length) : z39 k (e, s, ()) = some ((envHas e s, ()), ((), (), ())) := by
 have n1 := he.n1
 have n2 := he.n2
 unfold z39 envHas
 cases he1 : e.1 with
 | false => simp [he1]
 | true =>
  obtain ⟨l1, l2⟩ := hl he1
  simp only [he1, Bool.not_true, br_false, Bool.true_and]
  have h2 := iter_range (b := z39.l2 k) (fun i => ((true, e.2.1, e.2.2.1, ()), s.2.2.1, (s.2.2.1.length : Int), (i : Int), ())) e.2.2.1.length (fun i => !hasRow (e.2.2.1.getD i (0, 0, ())) (s.2.2.1.getD i [])) (rf := some ((false, ()), ((), (), ()))) (r := some ((true, ()), ((), (), ()))) (fun G i hi => by
   have hi2 : i < s.2.2.1.length := by omega
   have h2 : ((i : Int) < (s.2.2.1.length : Int)) := by omega
   have h3 : (0 : Int) ≤ (i : Int) := by omega
   have g1 : e.2.2.1.getD i (0, 0, ()) = e.2.2.1[i] := by simp [List.getD, List.getElem?_eq_getElem hi]
   have g2 : s.2.2.1.getD i [] = s.2.2.1[i] := by simp [List.getD, List.getElem?_eq_getElem hi2]
   simp only [z39.l2, br_dec, if_pos h2, if_pos h3, Int.toNat_natCast, List.getElem?_eq_getElem hi, List.getElem?_eq_getElem hi2, bd_some, areAllInt_is k hk e.2.2.1[i] s.2.2.1[i] (hs.m2 _ (List.getElem_mem hi2)), g1, g2]
   rw [wrap_succ (by omega)]
   cases hasRow e.2.2.1[i] s.2.2.1[i] <;> simp) (fun G => by
   have h2 : ¬ ((e.2.2.1.length : Int) < (s.2.2.1.length : Int)) := by omega
   simp only [z39.l2, br_dec, if_neg h2]) (f := k) (by omega)
  have h0 := iter_range (b := z39.l0 k) (fun i => ((true, e.2.1, e.2.2.1, ()), (s.1, s.2.1, s.2.2.1, ()), s.1, (s.1.length : Int), (i : Int), ())) e.2.1.length (fun i => !hasI (e.2.1.getD i (0, 0, ())) (s.1.getD i 0)) (rf := some ((false, ()), ((), (), ()))) (r := some ((hasArrs e s, ()), ((), (), ()))) (fun G i hi => by
   have hi2 : i < s.1.length := by omega
   have h2 : ((i : Int) < (s.1.length : Int)) := by omega
   have h3 : (0 : Int) ≤ (i : Int) := by omega
   have g1 : e.2.1.getD i (0, 0, ()) = e.2.1[i] := by simp [List.getD, List.getElem?_eq_getElem hi]
   have g2 : s.1.getD i 0 = s.1[i] := by simp [List.getD, List.getElem?_eq_getElem hi2]
   simp only [z39.l0, br_dec, if_pos h2, if_pos h3, Int.toNat_natCast, List.getElem?_eq_getElem hi, List.getElem?_eq_getElem hi2, bd_some, has_is, g1, g2]
   rw [wrap_succ (by omega)]
   cases hasI e.2.1[i] s.1[i] <;> simp) (fun G => by
   have h3 : ¬ ((e.2.1.length : Int) < (s.1.length : Int)) := by omega
   simp only [z39.l0, br_dec, if_neg h3]
   refine Eq.trans h2 ?_
   unfold hasArrs
   cases (List.range e.2.2.1.length).any fun i => !hasRow (e.2.2.1.getD i (0, 0, ())) (s.2.2.1.getD i []) <;> rfl) (f := k) (by omega)
  refine Eq.trans h0 ?_
  unfold hasInts
  cases (List.range e.2.1.length).any fun i => !hasI (e.2.1.getD i (0, 0, ())) (s.1.getD i 0) <;> simp
end Go.Pev.F
end

section
/-
 Whether bounds have a store: the reference's test.
-/
namespace Go.Pev.F
end Go.Pev.F
end

section
/-
 Sizes, copies and comparisons of plain data, in general.
-/
namespace Go.Pev
def Kd.Small : (k : Kd) → k.T → Prop
 | .str, s => s.length ≤ 1048576
 | .sl _ e, l => l.length ≤ 1048576 ∧ ∀ x ∈ l, e.Small x
 | .cons a b, x => a.Small x.1 ∧ b.Small x.2
 | _, _ => True
end Go.Pev
end

section
/-
 What a guard grants, part by part.
-/
namespace Go.Pev.F
end Go.Pev.F
end

section
/-
 The part of a token: the reference looks at each one, the program halves.
-/
namespace Go.Pev.F
theorem cmpX_zero : ∀ {a b : List EntT}, a.length = b.length → cmpX a b = 0 → a = b
 | [], [], _, _ => rfl
 | x :: a, y :: b, h, e => by
  simp only [cmpX] at e
  rcases cmpE_cases x y with ⟨e1, f1⟩ | ⟨e1, f1⟩ | ⟨e1, f1, f2⟩
  ·rw [if_neg (by omega)] at e; omega
  ·rw [if_neg (by omega)] at e; omega
  ·rw [if_pos e1] at e
   obtain ⟨x1, x2, ⟨⟩⟩ := x
   obtain ⟨y1, y2, ⟨⟩⟩ := y
   rw [cmpX_zero (by simpa using h) e]
   simp only at f1 f2
   rw [f1, f2]
 | [], _ :: _, h, _ => by simp at h
 | _ :: _, [], h, _ => by simp at h
theorem cmpT_zero {a b : List EntT} (h : cmpT a b = 0) : a = b := by
 unfold cmpT at h
 by_cases h1 : a.length < b.length
 ·rw [if_pos h1] at h; omega
 ·by_cases h2 : a.length > b.length
  ·rw [if_neg h1, if_pos h2] at h; omega
  ·rw [if_neg h1, if_neg h2] at h
   exact cmpX_zero (by omega) h
def findP (l : List PartT) (t : List EntT) : Option PartT := l.find? fun p => cmpT p.1 t == 0
theorem findP_at {l : List PartT} (hP : l.Pairwise fun p q => cmpT p.1 q.1 < 0) {t : List EntT} {m : Nat} (hm : m < l.length) (h : cmpT l[m].1 t = 0) : findP l t = some l[m] := by
 unfold findP
 rw [List.find?_eq_some_iff_getElem]
 refine ⟨by simpa using h, m, hm, rfl, fun j hj => ?_⟩
 have h1 := List.pairwise_iff_getElem.1 hP j m (by omega) hm hj
 have e := cmpT_zero h
 rw [e] at h1
 simp only [Bool.not_eq_true', beq_eq_false_iff_ne, ne_eq]
 omega
theorem findP_none {l : List PartT} {t : List EntT} (h : ∀ x (hx : x < l.length), cmpT l[x].1 t ≠ 0) : findP l t = none := by
 unfold findP
 rw [List.find?_eq_none]
 intro p hp
 obtain ⟨i, hi, rfl⟩ := List.mem_iff_getElem.1 hp
 simpa using h i hi
theorem partAt_is (k : Nat) (hk : 4194304 < k) (l : List PartT) (hl : LSmall l) (hP : l.Pairwise fun p q => cmpT p.1 q.1 < 0) (t : List EntT) :
  ∃ (m : Nat) (b : Bool), z185 k (l, t, ()) = some (((m : Int), b, ()), ((), (), ())) ∧ (b = true → ∃ h : m < l.length, findP l t = some l[m]) ∧ (b = false → findP l t = none) := by
 obtain ⟨m, b, h1, h2, h3⟩ := search_loop k hk l hl hP t l.length 0 l.length k (by omega) (by have := hl.n; omega) (by omega) (Nat.le_refl _) (fun x _ h => by omega) (fun x hx h => by omega)
 refine ⟨m, b, ?_, fun hb => ?_, fun hb => findP_none (h3 hb)⟩
 ·unfold z185 z82
  have h1' : iter (z82.l0 k) k (l, t, (()), (l.length : Int), 0, (l.length : Int), ()) = some (((m : Int), b, ()), ((), (), (()), ())) := h1
  simp only [h1', bd_some]
 ·obtain ⟨hm, hc⟩ := h2 hb
  exact ⟨hm, findP_at hP hm hc⟩
end Go.Pev.F
end

section
/-
 Whether parts have a store: the program's answer, and the reference's.
-/
namespace Go.Pev.F
def leafHas (t : List EnvT) (s : StoreT) : Bool := envHas (t.getD (leafN s.2.1).toNat (false, [], [], ())) s
def partsHas (d : DeclT) (l : List PartT) (t : List EntT) (s : StoreT) : Bool :=
 partsOk d l && ((lensOk d s && rowsOk d s) && (match findP l t with | some p => leafHas p.2.1 s | none => false))
theorem partsOk_of {d : DeclT} {l : List PartT} (h : partsOk d l = true) : l.length ≤ 100 ∧ (∀ p ∈ l, tokenOk p.1 = true ∧ tableOk d p.2.1 = true ∧ tableLive p.2.1 = true) ∧ l.Pairwise fun p q => cmpT p.1 q.1 < 0 := by
 unfold partsOk at h
 simp only [Bool.and_eq_true, decide_eq_true_eq] at h
 refine ⟨h.1, fun p hp => ?_, (rise_all l none h.2.2).2⟩
 have := List.all_eq_true.1 h.2.1 p hp
 simpa only [partOkB, Bool.and_eq_true] using this
theorem tableOk_of {d : DeclT} {t : List EnvT} (h : tableOk d t = true) : (t.length : Int) = 2 ^ d.2.1.length ∧ ∀ e ∈ t, envFits d e = true := by
 unfold tableOk at h
 simp only [Bool.and_eq_true, decide_eq_true_eq] at h
 exact ⟨h.1, List.all_eq_true.1 h.2⟩
theorem envFits_lens {d : DeclT} {e : EnvT} (h : envFits d e = true) (hl : e.1 = true) : e.2.1.length = d.1.length ∧ e.2.2.1.length = d.2.2.1.length := by
 unfold envFits at h
 rw [hl] at h
 simp only [cond_true, Bool.and_eq_true, beq_iff_eq] at h
 omega
theorem leaf_in {d : DeclT} {t : List EnvT} (ht : tableOk d t = true) {s : StoreT} (hs : lensOk d s = true) : ∃ h : (leafN s.2.1).toNat < t.length, 0 ≤ leafN s.2.1 ∧ leafHas t s = envHas t[(leafN s.2.1).toNat] s ∧ (t[(leafN s.2.1).toNat].1 = true → t[(leafN s.2.1).toNat].2.1.length = s.1.length ∧ t[(leafN s.2.1).toNat].2.2.1.length = s.2.2.1.length) := by
 obtain ⟨t1, t2⟩ := tableOk_of ht
 obtain ⟨l0, l1, l2⟩ := lens_of hs
 have hn := leafN_lt s.2.1
 rw [l1] at hn
 have hlt : (leafN s.2.1).toNat < t.length := by omega
 refine ⟨hlt, hn.1, by unfold leafHas; simp [List.getD, List.getElem?_eq_getElem hlt], fun hl => ?_⟩
 have := envFits_lens (t2 _ (List.getElem_mem hlt)) hl
 omega
theorem implPartsHas_is (k : Nat) (hk : 4194304 < k) (hk2 : k ≤ 4611686018427387903) (d : DeclT) (hd : DSmall d) (hdo : declOk d = true) (l : List PartT) (hl : LSmall l) (t : List EntT) (s : StoreT) (hs : SSmall s) :
  z116 k (d, l, t, s, ()) = some ((partsHas d l t s, ()), ((), (), (), (), ())) := by
 have hf := (decl_flags hdo).2.1
 unfold z116 z214 partsHas
 simp only [implDeclOk_is k hk hk2 d hd, areParts_is k hk d hf l hl, hdo, bd_some, br_true, Option.bind_some]
 cases hp : partsOk d l with
 | false => simp
 | true =>
  obtain ⟨p1, p2, p3⟩ := partsOk_of hp
  obtain ⟨m, b, m1, m2, m3⟩ := partAt_is k hk l hl p3 t
  simp only [Bool.not_true, br_false, m1, bd_some, Bool.true_and, br_dec]
  cases b with
  | false => simp [m3 rfl]
  | true =>
   obtain ⟨hm, hfind⟩ := m2 rfl
   have h0 : (0 : Int) ≤ (m : Int) := by omega
   have hmem := List.getElem_mem hm
   obtain ⟨_, ht, _⟩ := p2 _ hmem
   have hTm := hl.m _ hmem
   have hTe := hl.e _ hmem
   rw [hfind]
   simp only [br_true, if_pos h0, Int.toNat_natCast, List.getElem?_eq_getElem hm, bd_some]
   unfold z218 z215
   simp only [implDeclOk_is k hk hk2 d hd, isTable_is k hk d hf _ hTm hTe, hdo, ht, bd_some, br_true, Option.bind_some, isStore_is k hk d s hs]
   cases hst : (lensOk d s && rowsOk d s) with
   | false => simp
   | true =>
    have hlens : lensOk d s = true := by simp only [Bool.and_eq_true] at hst; exact hst.1
    obtain ⟨q1, q2, q3, q4⟩ := leaf_in ht hlens
    have hl3 : s.2.1.length ≤ 3 := by have := lens_of hlens; omega
    simp only [br_true, leafOf_is k hk _ hl3, bd_some, br_dec, if_pos q2, List.getElem?_eq_getElem q1, hasStore_is k hk _ (hTe _ (List.getElem_mem q1)) s hs q4, Option.bind_some, Bool.true_and, q3]
end Go.Pev.F
end

section
/-
 What may be at a program's beginning.
-/
namespace Go.Pev.F
def startE (d : DeclT) : EnvT := (true, List.replicate d.1.length (0, 0, ()), List.replicate d.2.2.1.length (0, 0, ()), ())
def startTab (d : DeclT) : List EnvT := (List.replicate (2 ^ d.2.1.length) ((false, [], [], ()) : EnvT)).set 0 (startE d)
def startP (d : DeclT) : List PartT := [([], startTab d, ())]
theorem startTab_len (d : DeclT) : (startTab d).length = 2 ^ d.2.1.length := by simp [startTab]
theorem startTab_cons (d : DeclT) : startTab d = startE d :: List.replicate (2 ^ d.2.1.length - 1) ((false, [], [], ()) : EnvT) := by
 unfold startTab
 obtain ⟨n, hn⟩ : ∃ n, 2 ^ d.2.1.length = n + 1 := ⟨2 ^ d.2.1.length - 1, by have := Nat.two_pow_pos d.2.1.length; omega⟩
 rw [hn, List.replicate_succ]
 rfl
theorem implStart_is (k : Nat) (hk : 4194304 < k) {d : DeclT} (hdo : declOk d = true) : z144 k (d, ()) = some ((startP d, ()), ((), ())) := by
 obtain ⟨⟨h0, h1, h2⟩, _⟩ := decl_arrs hdo
 have hl : d.2.1.length = 0 ∨ d.2.1.length = 1 ∨ d.2.1.length = 2 ∨ d.2.1.length = 3 := by omega
 have c0 : 0 ≤ (d.1.length : Int) ∧ (d.1.length : Int) ≤ (d.1.length : Int) ∧ (d.1.length : Int) * 16 ≤ maxBytes := by simp only [maxBytes]; omega
 have c1 : 0 ≤ (d.2.2.1.length : Int) ∧ (d.2.2.1.length : Int) ≤ (d.2.2.1.length : Int) ∧ (d.2.2.1.length : Int) * 16 ≤ maxBytes := by simp only [maxBytes]; omega
 have c2 : 0 ≤ (d.2.1.length : Int) := by omega
 obtain ⟨m, hm, hm1, hm2⟩ : ∃ m : Nat, IntKind.wrap .i64 (1 * 2 ^ (min d.2.1.length 64)) = (m : Int) ∧ m = 2 ^ d.2.1.length ∧ m ≤ 8 := by
  rcases hl with e | e | e | e <;> rw [e] <;> exact ⟨_, rfl, rfl, by decide⟩
 have hp := Nat.two_pow_pos d.2.1.length
 have c3 : 0 ≤ (m : Int) ∧ (m : Int) ≤ (m : Int) ∧ (m : Int) * 56 ≤ maxBytes := by simp only [maxBytes]; omega
 unfold z144 z95
 simp only [br_dec, if_pos c0, if_pos c1, if_pos c2, bd_some, hm, if_pos c3, Int.toNat_natCast]
 have c4 : (0 : Int) ≤ (0 : Int) ∧ (0 : Int) < ((List.replicate m (Kd.z (.cons .bool (.cons (.sl false (.cons (.int .i64) (.cons (.int .i64) .nil))) (.cons (.sl false (.cons (.int .i64) (.cons (.int .i64) .nil))) .nil))))).length : Int) := by
  rw [List.length_replicate]; omega
 rw [if_pos c4]
 have g : (List.replicate m (Kd.z (.cons .bool (.cons (.sl false (.cons (.int .i64) (.cons (.int .i64) .nil))) (.cons (.sl false (.cons (.int .i64) (.cons (.int .i64) .nil))) .nil)))))[(0 : Int).toNat]? = some (false, [], [], ()) := by
  rw [List.getElem?_replicate, if_pos (by simp; omega)]; rfl
 rw [g, bd_some]
 subst hm1
 rfl
theorem startP_ok {d : DeclT} (hdo : declOk d = true) : partsOk d (startP d) = true := by
 have hiv : ∀ n, ivsOk (List.replicate n ((0, 0, ()) : IvT)) = true := fun n => by
  simp only [ivsOk, Bool.not_eq_true', List.any_eq_false]
  intro x hx
  rw [(List.mem_replicate.1 hx).2]
  decide
 have hE : envFits d (startE d) = true := by simp [envFits, startE, hiv]
 have hT : tableOk d (startTab d) = true := by
  simp only [tableOk, Bool.and_eq_true, decide_eq_true_eq, List.all_eq_true]
  refine ⟨by rw [startTab_len]; exact Int.natCast_pow 2 _, fun e he => ?_⟩
  rw [startTab_cons] at he
  rcases List.mem_cons.1 he with rfl | he
  ·exact hE
  ·rw [(List.mem_replicate.1 he).2]; rfl
 have hL : tableLive (startTab d) = true := by rw [startTab_cons]; rfl
 simp only [partsOk, startP, List.all_cons, List.all_nil, partOkB, hT, hL, riseP, above]
 rfl
theorem leafN_new (n : Nat) : leafN (List.replicate n false) = 0 := by
 induction n with
 | zero => rfl
 | succ n ih => rw [List.replicate_succ]; simp only [leafN, ih]; rfl
theorem start_has {d : DeclT} (hdo : declOk d = true) : partsHas d (startP d) [] (newS d) = true := by
 have hlen : lensOk d (newS d) = true := by simp [lensOk, newS]
 have hrow : rowsOk d (newS d) = true := by
  obtain ⟨_, ha⟩ := decl_arrs hdo
  simp only [rowsOk, Bool.not_eq_true', List.any_eq_false, List.mem_range]
  intro i hi
  have hi2 : i < d.2.2.1.length := by simpa [newS] using hi
  have := ha _ (List.getElem_mem hi2)
  simp only [newS, List.getD, List.getElem?_map, List.getElem?_eq_getElem hi2, Option.map_some, Option.getD_some, List.length_replicate]
  simp
  omega
 have hf : findP (startP d) [] = some ([], startTab d, ()) := by
  unfold findP startP
  rw [List.find?_cons_of_pos]
  rfl
 have h0 : ∀ (l : List IvT) (i : Nat), (∀ a ∈ l, a = (0, 0, ())) → l.getD i (0, 0, ()) = (0, 0, ()) := fun l i hl => by
  by_cases hi : i < l.length
  ·have : l.getD i (0, 0, ()) = l[i] := by simp [List.getD, List.getElem?_eq_getElem hi]
   rw [this]; exact hl _ (List.getElem_mem hi)
  ·simp [List.getD, List.getElem?_eq_none (Nat.le_of_not_lt hi)]
 have hz : leafHas (startTab d) (newS d) = true := by
  unfold leafHas
  have e : leafN (newS d).2.1 = 0 := leafN_new _
  rw [e, startTab_cons]
  show envHas (startE d) (newS d) = true
  simp only [envHas, Bool.and_eq_true]
  refine ⟨rfl, ?_, ?_⟩
  ·simp only [hasInts, Bool.not_eq_true', List.any_eq_false, List.mem_range]
   intro i hi
   rw [h0 (startE d).2.1 i (fun a ha => (List.mem_replicate.1 ha).2)]
   have hi2 : i < d.1.length := by simpa [startE] using hi
   have : (newS d).1.getD i 0 = 0 := by simp [newS, List.getD, List.getElem?_replicate, hi2]
   rw [this]; decide
  ·simp only [hasArrs, Bool.not_eq_true', List.any_eq_false, List.mem_range]
   intro i hi
   rw [h0 (startE d).2.2.1 i (fun a ha => (List.mem_replicate.1 ha).2)]
   have hi2 : i < d.2.2.1.length := by simpa [startE] using hi
   have : (newS d).2.2.1.getD i [] = List.replicate (d.2.2.1[i]).2.1.toNat 0 := by simp [newS, List.getD, List.getElem?_map, List.getElem?_eq_getElem hi2]
   rw [this]
   have : hasRow (0, 0, ()) (List.replicate (d.2.2.1[i]).2.1.toNat 0) = true := by
    simp only [hasRow, List.all_eq_true]
    intro x hx
    rw [(List.mem_replicate.1 hx).2]; decide
   rw [this]; decide
 simp only [partsHas, startP_ok hdo, hlen, hrow, hf, hz, Bool.and_self]
end Go.Pev.F
end

section
/-
 The reader of draws: it always gives something.
-/
namespace Go.Pev.F
structure RdOk (r : List Int × Int × Unit) : Prop where
 lo : 0 ≤ r.2.1
 hi : r.2.1 ≤ r.1.length
 len : r.1.length ≤ 140737488351232
 byte : ∀ x ∈ r.1, 0 ≤ x ∧ x ≤ 255
theorem rd_open {code : List Int} (h1 : code.length ≤ 140737488351232) (h2 : ∀ x ∈ code, 0 ≤ x ∧ x ≤ 255) : RdOk (code, 0, ()) := ⟨by simp, by simp, h1, h2⟩
theorem rd_next (k : Nat) {r : List Int × Int × Unit} (h : RdOk r) : ∃ v r', z76 k (r, ()) = some ((v, ()), (r', ())) ∧ (0 ≤ v ∧ v ≤ 255) ∧ RdOk r' ∧ r'.1 = r.1 := by
 obtain ⟨b, p, ⟨⟩⟩ := r
 obtain ⟨h1, h2, h3, h4⟩ := h
 simp only at h1 h2 h3 h4
 unfold z76
 by_cases hp : p ≥ (b.length : Int)
 ·refine ⟨0, (b, p, ()), ?_, by omega, ⟨h1, h2, h3, h4⟩, rfl⟩
  simp only [br_dec, if_pos hp]
 ·have w1 : IntKind.wrap .i64 (p + 1) = p + 1 := wrap_i64 (by omega) (by omega)
  have w2 : IntKind.wrap .i64 (p + 1 - 1) = p := by rw [wrap_i64 (by omega) (by omega)]; omega
  have hlt : p.toNat < b.length := by omega
  obtain ⟨b1, b2⟩ := h4 b[p.toNat] (List.getElem_mem _)
  refine ⟨b[p.toNat], (b, p + 1, ()), ?_, ⟨b1, b2⟩, ⟨by simp; omega, by simp; omega, h3, h4⟩, rfl⟩
  have w3 : IntKind.wrap .i64 b[p.toNat] = b[p.toNat] := wrap_i64 (by omega) (by omega)
  simp only [br_dec, if_neg hp, w1, w2, if_pos h1, List.getElem?_eq_getElem hlt, bd_some, w3]
theorem tmod_lt {a n : Int} (h0 : 0 ≤ a) (hn : 1 ≤ n) : 0 ≤ a.tmod n ∧ a.tmod n < n := by
 rw [Int.tmod_eq_emod_of_nonneg h0]
 exact ⟨Int.emod_nonneg _ (by omega), Int.emod_lt_of_pos _ (by omega)⟩
theorem rd_below (k : Nat) {r : List Int × Int × Unit} (h : RdOk r) (n : Int) : ∃ v r', z6 k (r, n, ()) = some ((v, ()), (r', (), ())) ∧ 0 ≤ v ∧ v ≤ 65535 ∧ (1 ≤ n → v < n) ∧ RdOk r' ∧ r'.1 = r.1 := by
 obtain ⟨b, p, ⟨⟩⟩ := r
 unfold z6
 by_cases h1 : n ≤ 1
 ·exact ⟨0, (b, p, ()), by simp only [br_dec, if_pos h1], by omega, by omega, by omega, h, rfl⟩
 ·by_cases h2 : n ≤ 256
  ·obtain ⟨v, r', e1, hv, hr, hb⟩ := rd_next k h
   obtain ⟨t1, t2⟩ := tmod_lt (a := v) (n := n) hv.1 (by omega)
   refine ⟨v.tmod n, r', ?_, t1, by omega, fun _ => t2, hr, hb⟩
   have hn : ¬ n = 0 := by omega
   simp only [br_dec, if_neg h1, if_pos h2, e1, bd_some, hn, decide_false, Bool.not_false, br_true]
  ·obtain ⟨v, r', e1, hv, hr, hb⟩ := rd_next k h
   obtain ⟨v2, r2, e2, hv2, hr2, hb2⟩ := rd_next k hr
   have w1 : IntKind.wrap .i64 (v * 256) = v * 256 := wrap_i64 (by omega) (by omega)
   have w2 : IntKind.wrap .i64 (v * 256 + v2) = v * 256 + v2 := wrap_i64 (by omega) (by omega)
   obtain ⟨t1, t2⟩ := tmod_lt (a := v * 256 + v2) (n := n) (by omega) (by omega)
   have t3 : (v * 256 + v2).tmod n ≤ v * 256 + v2 := by
    by_cases hlt : v * 256 + v2 < n
    ·rw [Int.tmod_eq_emod_of_nonneg (by omega), Int.emod_eq_of_lt (by omega) hlt]; omega
    ·omega
   refine ⟨(v * 256 + v2).tmod n, r2, ?_, t1, by omega, fun _ => t2, hr2, by rw [hb2, hb]⟩
   have hn : ¬ n = 0 := by omega
   obtain ⟨rb, rp, ⟨⟩⟩ := r'
   simp only [br_dec, if_neg h1, if_neg h2, e1, bd_some, e2, hn, decide_false, Bool.not_false, br_true, w1, w2]
theorem rd_once (k : Nat) {r : List Int × Int × Unit} (h : RdOk r) (n : Int) : ∃ v r', z14 k (r, n, ()) = some ((v, ()), (r', (), ())) ∧ RdOk r' ∧ r'.1 = r.1 := by
 obtain ⟨b, p, ⟨⟩⟩ := r
 obtain ⟨v, r', e, _, _, _, hr, hb⟩ := rd_below k h n
 refine ⟨v == IntKind.wrap .i64 (n - 1), r', ?_, hr, hb⟩
 unfold z14
 simp only [e, bd_some]
theorem rd_word_loop (k : Nat) : (d : Nat) → (f : Nat) → {r : List Int × Int × Unit} → RdOk r → (x i : Int) → 0 ≤ x → x < 18446744073709551616 → i + d = 8 → 0 ≤ i → ∃ v r', iter (z45.l0 k) (d + 1 + f) (r, x, i, ()) = some ((v, ()), (r', ())) ∧ (0 ≤ v ∧ v < 18446744073709551616) ∧ RdOk r' ∧ r'.1 = r.1
 | 0, f, r, h, x, i, h0, h1, hi, _ => by
  obtain ⟨b, p, ⟨⟩⟩ := r
  refine ⟨x, (b, p, ()), ?_, ⟨h0, h1⟩, h, rfl⟩
  have : ¬ (i < 8) := by omega
  rw [show 0 + 1 + f = f + 1 by omega, iter_succ]
  simp only [z45.l0, br_dec, if_neg this]
 | d + 1, f, r, h, x, i, h0, h1, hi, hi0 => by
  obtain ⟨b, p, ⟨⟩⟩ := r
  obtain ⟨v, r', e, hv, hr, hb⟩ := rd_next k h
  have hlt : i < 8 := by omega
  have h8 : (0 : Int) ≤ 8 := by omega
  have hw : ∀ z : Int, 0 ≤ IntKind.wrap .u64 z ∧ IntKind.wrap .u64 z < 18446744073709551616 := by
   intro z
   simp [IntKind.wrap, IntKind.bits, IntKind.signed]
   omega
  obtain ⟨w1, w2⟩ := hw (((BitVec.ofInt 64 (IntKind.wrap .u64 (x * 2 ^ (min (8 : Int).toNat 64))) ||| BitVec.ofInt 64 (IntKind.wrap .u64 v)).toNat : Int))
  obtain ⟨u, r2, e2, hu, hr2, hb2⟩ := rd_word_loop k d f hr _ (i + 1) w1 w2 (by omega) (by omega)
  refine ⟨u, r2, ?_, hu, hr2, by rw [hb2, hb]⟩
  rw [show d + 1 + 1 + f = (d + 1 + f) + 1 by omega, iter_succ]
  obtain ⟨rb, rp, ⟨⟩⟩ := r'
  have w3 : IntKind.wrap .i64 (i + 1) = i + 1 := wrap_i64 (by omega) (by omega)
  simp only [z45.l0, br_dec, if_pos hlt, if_pos h8, e, bd_some, w3]
  exact e2
theorem rd_word (k : Nat) (hk : 9 ≤ k) {r : List Int × Int × Unit} (h : RdOk r) : ∃ v r', z45 k (r, ()) = some ((v, ()), (r', ())) ∧ (0 ≤ v ∧ v < 18446744073709551616) ∧ RdOk r' ∧ r'.1 = r.1 := by
 obtain ⟨b, p, ⟨⟩⟩ := r
 obtain ⟨v, r', e, hv, hr, hb⟩ := rd_word_loop k 8 (k - 9) h 0 0 (by omega) (by omega) (by omega) (by omega)
 refine ⟨v, r', ?_, hv, hr, hb⟩
 rw [show 8 + 1 + (k - 9) = k by omega] at e
 exact e
theorem rd_near (k : Nat) (hk : 9 ≤ k) {r : List Int × Int × Unit} (h : RdOk r) {lo hi : Int} (h1 : -4611686018427387903 ≤ lo) (h2 : lo ≤ hi) (h3 : hi ≤ 4611686018427387903) :
  ∃ v r', z171 k (r, lo, hi, ()) = some ((v, ()), (r', (), (), ())) ∧ (lo ≤ v ∧ v ≤ hi) ∧ RdOk r' ∧ r'.1 = r.1 := by
 obtain ⟨b, p, ⟨⟩⟩ := r
 obtain ⟨v, r1, e1, v0, v1, v2, hr1, hb1⟩ := rd_below k h 8
 unfold z171
 simp only [e1, bd_some]
 by_cases c0 : v = 0
 ·exact ⟨lo, r1, by simp [c0], ⟨by omega, h2⟩, hr1, hb1⟩
 by_cases c1 : v = 1
 ·exact ⟨hi, r1, by simp [c1], ⟨h2, by omega⟩, hr1, hb1⟩
 obtain ⟨u, r2, e2, hu, hr2, hb2⟩ := rd_word k hk hr1
 have w1 : IntKind.wrap .i64 (hi - lo) = hi - lo := wrap_i64 (by omega) (by omega)
 have w2 : IntKind.wrap .i64 (hi - lo + 1) = hi - lo + 1 := wrap_i64 (by omega) (by omega)
 have w3 : IntKind.wrap .u64 (hi - lo + 1) = hi - lo + 1 := wrap_u64 (by omega) (by omega)
 have hf : 0 ≤ u.fdiv (2 ^ (min (1 : Int).toNat 64)) := Int.fdiv_nonneg (by omega) (by decide)
 obtain ⟨t1, t2⟩ := tmod_lt (a := u.fdiv (2 ^ (min (1 : Int).toNat 64))) (n := hi - lo + 1) hf (by omega)
 have w4 : IntKind.wrap .i64 ((u.fdiv (2 ^ (min (1 : Int).toNat 64))).tmod (hi - lo + 1)) = (u.fdiv (2 ^ (min (1 : Int).toNat 64))).tmod (hi - lo + 1) := wrap_i64 (by omega) (by omega)
 have w5 : IntKind.wrap .i64 (lo + (u.fdiv (2 ^ (min (1 : Int).toNat 64))).tmod (hi - lo + 1)) = lo + (u.fdiv (2 ^ (min (1 : Int).toNat 64))).tmod (hi - lo + 1) := wrap_i64 (by omega) (by omega)
 refine ⟨lo + (u.fdiv (2 ^ (min (1 : Int).toNat 64))).tmod (hi - lo + 1), r2, ?_, by omega, hr2, by rw [hb2, hb1]⟩
 have n0 : (v == 0) = false := by simpa using c0
 have n1 : (v == 1) = false := by simpa using c1
 have n2 : ¬ hi < lo := by omega
 have n3 : (0 : Int) ≤ 1 := by omega
 have n4 : ¬ (hi - lo + 1 = 0) := by omega
 obtain ⟨rb, rp, ⟨⟩⟩ := r1
 simp only [n0, n1, br_false, br_dec, if_neg n2, e2, bd_some, if_pos n3, w1, w2, w3, w4, w5, n4, decide_false, Bool.not_false, br_true]
theorem rd_off (k : Nat) (hk : 9 ≤ k) {r : List Int × Int × Unit} (h : RdOk r) {lo hi : Int} (h1 : -4611686018427387903 ≤ lo) (h2 : lo ≤ hi) (h3 : hi ≤ 4611686018427387903) :
  ∃ v r', z23 k (r, lo, hi, ()) = some ((v, ()), (r', (), (), ())) ∧ (-9223372036854775808 ≤ v ∧ v ≤ 9223372036854775807) ∧ RdOk r' ∧ r'.1 = r.1 := by
 obtain ⟨b, p, ⟨⟩⟩ := r
 obtain ⟨c, r1, e1, hr1, hb1⟩ := rd_once k h 24
 unfold z23
 simp only [e1, bd_some]
 cases c with
 | true =>
  obtain ⟨v, r2, e2, v0, v1, v2, hr2, hb2⟩ := rd_below k hr1 4
  have v4 := v2 (by omega)
  obtain ⟨rb, rp, ⟨⟩⟩ := r1
  have w1 : IntKind.wrap .i64 (lo - 1) = lo - 1 := wrap_i64 (by omega) (by omega)
  have w2 : IntKind.wrap .i64 (hi + 1) = hi + 1 := wrap_i64 (by omega) (by omega)
  have hc : v = 0 ∨ v = 1 ∨ v = 2 ∨ v = 3 := by omega
  rw [w1, w2]
  rcases hc with rfl | rfl | rfl | rfl
  ·exact ⟨lo - 1, r2, by simp [e2], by omega, hr2, by rw [hb2]; exact hb1⟩
  ·exact ⟨hi + 1, r2, by simp [e2], by omega, hr2, by rw [hb2]; exact hb1⟩
  ·exact ⟨-9223372036854775808, r2, by simp [e2], by omega, hr2, by rw [hb2]; exact hb1⟩
  ·exact ⟨9223372036854775807, r2, by simp [e2], by omega, hr2, by rw [hb2]; exact hb1⟩
 | false =>
  obtain ⟨v, r2, e2, hv, hr2, hb2⟩ := rd_near k hk hr1 h1 h2 h3
  obtain ⟨rb, rp, ⟨⟩⟩ := r1
  exact ⟨v, r2, by simp [e2], by omega, hr2, by rw [hb2]; exact hb1⟩
end Go.Pev.F
end

section
/-
 Draws of numbers and declarations: they always give something, and it fits.
-/
namespace Go.Pev.F
abbrev RdT : Type := List Int × Int × Unit
theorem t_open {code : List Int} (k : Nat) (h1 : code.length ≤ 140737488351232) (h2 : ∀ x ∈ code, 0 ≤ x ∧ x ≤ 255) : Tot (z168 k (code, ())) fun y => RdOk y.1.1 := by
 unfold z168
 exact Tot.ret (rd_open h1 h2)
theorem t_below (k : Nat) {r : RdT} (h : RdOk r) (n : Int) : Tot (z6 k (r, n, ())) fun y => (0 ≤ y.1.1 ∧ y.1.1 ≤ 65535 ∧ (1 ≤ n → y.1.1 < n)) ∧ RdOk y.2.1 := by
 obtain ⟨v, r', e, h0, h1, h2, hr, _⟩ := rd_below k h n
 exact ⟨_, e, ⟨h0, h1, h2⟩, hr⟩
theorem t_once (k : Nat) {r : RdT} (h : RdOk r) (n : Int) : Tot (z14 k (r, n, ())) fun y => RdOk y.2.1 := by
 obtain ⟨v, r', e, hr, _⟩ := rd_once k h n
 exact ⟨_, e, hr⟩
theorem t_word (k : Nat) (hk : 9 ≤ k) {r : RdT} (h : RdOk r) : Tot (z45 k (r, ())) fun y => (0 ≤ y.1.1 ∧ y.1.1 < 18446744073709551616) ∧ RdOk y.2.1 := by
 obtain ⟨v, r', e, hv, hr, _⟩ := rd_word k hk h
 exact ⟨_, e, hv, hr⟩
theorem t_off (k : Nat) (hk : 9 ≤ k) {r : RdT} (h : RdOk r) {lo hi : Int} (h1 : -4611686018427387903 ≤ lo) (h2 : lo ≤ hi) (h3 : hi ≤ 4611686018427387903) : Tot (z23 k (r, lo, hi, ())) fun y => Fits y.1.1 ∧ RdOk y.2.1 := by
 obtain ⟨v, r', e, hv, hr, _⟩ := rd_off k hk h h1 h2 h3
 exact ⟨_, e, hv, hr⟩
theorem t_num (k : Nat) (hk : 9 ≤ k) {r : RdT} (h : RdOk r) : Tot (z173 k (r, ())) fun y => Fits y.1.1 ∧ RdOk y.2.1 := by
 obtain ⟨b, p, ⟨⟩⟩ := r
 unfold z173
 refine Tot.bd (t_below k h 6) fun y1 h1 => Tot.br (fun _ => ?_) fun _ => Tot.br (fun _ => ?_) fun _ => Tot.br (fun _ => ?_) fun _ => ?_
 ·refine Tot.bd (t_below k h1.2 10) fun y2 h2 => ?_
  have b2 := h2.1.2.2 (by omega)
  have b0 := h2.1.1
  refine Tot.chk (by simp only [List.length_cons, List.length_nil]; omega) (Tot.get (by simp only [List.length_cons, List.length_nil]; omega) fun x hx _ => Tot.ret ⟨?_, h2.2⟩)
  simp only [List.mem_cons, List.not_mem_nil, or_false] at hx
  simp only [Fits]
  omega
 ·refine Tot.bd (t_word k hk h1.2) fun y4 h4 => Tot.ret ⟨wrap_i64_fits _, h4.2⟩
 ·refine Tot.bd (t_word k hk h1.2) fun y5 h5 => Tot.bd (t_below k h5.2 60) fun y6 h6 => ?_
  have b2 := h6.1.2.2 (by omega)
  have b0 := h6.1.1
  have w : IntKind.wrap .u64 y6.1.1 = y6.1.1 := wrap_u64 b0 (by omega)
  rw [w]
  refine Tot.chk b0 (Tot.ret ⟨?_, h6.2⟩)
  obtain ⟨f0, f1⟩ := wrap_i64_fits y5.1.1
  generalize IntKind.wrap .i64 y5.1.1 = z at f0 f1
  have hp : (1 : Int) ≤ 2 ^ (min y6.1.1.toNat 64) := by
   have := Nat.one_le_two_pow (n := min y6.1.1.toNat 64)
   exact_mod_cast this
  generalize (2 : Int) ^ (min y6.1.1.toNat 64) = q at hp
  simp only [Fits]
  rw [Int.fdiv_eq_ediv_of_nonneg _ (by omega)]
  have h3 := Int.natAbs_ediv_le_natAbs z q
  by_cases hz : 0 ≤ z
  ·have h4 := Int.ediv_nonneg hz (show 0 ≤ q by omega)
   generalize z / q = y at h3 h4
   omega
  ·have h4 := Int.ediv_neg_of_neg_of_pos (show z < 0 by omega) (show 0 < q by omega)
   generalize z / q = y at h3 h4
   omega
 ·refine Tot.bd (t_below k h1.2 41) fun y7 h7 => Tot.ret ⟨wrap_i64_fits _, h7.2⟩
structure DDr (d : DeclT) : Prop where
 s : DSmall d
 n0 : d.1.length ≤ 5
 n1 : d.2.1.length ≤ 3
 n2 : d.2.2.1.length ≤ 1
theorem ddr_of (a b : Names) (hb : b = [[98], [99], [102]]) (ha : a = [[120], [121], [105], [110], [107]]) (i j : Nat) (c : List ArrT) (hc : c.length ≤ 1) (hs : ∀ x ∈ c, x.1.length ≤ 1048576) : DDr (subL a 0 i, subL b 0 j, c, ()) := by
 have la := (subL_lens a 0 i).2
 have lb := (subL_lens b 0 j).2
 have sa : ∀ x ∈ subL a 0 i, x.length ≤ 1048576 := fun x hx => by
  have := subL_memb hx
  rw [ha] at this
  simp only [List.mem_cons, List.not_mem_nil, or_false] at this
  rcases this with rfl | rfl | rfl | rfl | rfl <;> decide
 have sb : ∀ x ∈ subL b 0 j, x.length ≤ 1048576 := fun x hx => by
  have := subL_memb hx
  rw [hb] at this
  simp only [List.mem_cons, List.not_mem_nil, or_false] at this
  rcases this with rfl | rfl | rfl <;> decide
 rw [ha] at la sa
 rw [hb] at lb sb
 rw [ha, hb]
 simp only [List.length_cons, List.length_nil] at la lb
 exact ⟨⟨by simp only; omega, sa, by simp only; omega, sb, by simp only; omega, hs⟩, by simp only; omega, by simp only; omega, hc⟩
theorem t_decl (k : Nat) (hk : 9 ≤ k) {r : RdT} (h : RdOk r) : Tot (z169 k (r, ())) fun y => DDr y.1.1 ∧ RdOk y.2.1 := by
 obtain ⟨b, p, ⟨⟩⟩ := r
 unfold z169
 refine Tot.bd (t_below k h 4) fun y1 h1 => ?_
 obtain ⟨⟨a0, _, a1⟩, r1⟩ := h1
 have a2 := a1 (by omega)
 have w1 : IntKind.wrap .i64 (1 + y1.1.1) = 1 + y1.1.1 := wrap_i64 (by omega) (by omega)
 rw [w1]
 refine Tot.chk (by simp only [List.length_cons, List.length_nil]; omega) (Tot.bd (t_below k r1 2) fun y2 h2 => ?_)
 obtain ⟨⟨b0, _, b1⟩, r2⟩ := h2
 have b2 := b1 (by omega)
 have w2 : IntKind.wrap .i64 (1 + y2.1.1) = 1 + y2.1.1 := wrap_i64 (by omega) (by omega)
 rw [w2]
 refine Tot.chk (by simp only [List.length_cons, List.length_nil]; omega) (Tot.bd (t_once k r2 3) fun y3 r3 => Tot.br (fun _ => ?_) fun _ => ?_)
 ·refine Tot.bd (t_below k r3 4) fun y4 h4 => ?_
  obtain ⟨⟨c0, _, c1⟩, r4⟩ := h4
  have c2 := c1 (by omega)
  refine Tot.chk (by simp only [List.length_cons, List.length_nil]; omega) (Tot.bd (t_once k r4 2) fun y5 r5 => Tot.br (fun _ => ?_) fun _ => ?_)
  ·refine Tot.bd (t_below k r5 6) fun y6 h6 => Tot.ret ⟨ddr_of _ _ rfl rfl _ _ _ (by simp) (by simp), h6.2⟩
  ·exact Tot.ret ⟨ddr_of _ _ rfl rfl _ _ _ (by simp) (by simp), r5⟩
 ·refine Tot.bd (t_once k r3 2) fun y7 r7 => Tot.br (fun _ => ?_) fun _ => ?_
  ·refine Tot.bd (t_below k r7 6) fun y8 h8 => Tot.ret ⟨ddr_of _ _ rfl rfl _ _ _ (by simp) (by simp), h8.2⟩
  ·exact Tot.ret ⟨ddr_of _ _ rfl rfl _ _ _ (by simp) (by simp), r7⟩
end Go.Pev.F
end

section
/-
 Draws of expressions, lines and programs: they always give something, and it is small.
-/
namespace Go.Pev.F
abbrev SumT : Type := RdT × DeclT × Int × Unit
abbrev SumR : Type := (List TokT × Unit) × (RdT × Unit × Unit × Unit)
def ExQ (B : Nat) (y : SumR) : Prop := y.1.1.length ≤ B ∧ RdOk y.2.1
theorem mb16 {n m : Nat} (h : n + m ≤ 100000) : (n + m) * 16 ≤ maxBytes := by simp only [maxBytes]; omega
theorem t_sum_step (k : Nat) (R : SumT → Option SumR) {r : RdT} (h : RdOk r) (d : DeclT) {deep : Int} (hd : -100 ≤ deep ∧ deep ≤ 100) (B : Nat) (hB : B ≤ 1000) (hR : 0 < deep → ∀ r', RdOk r' → Tot (R (r', d, deep - 1, ())) (ExQ B)) :
  Tot (z12.f k R (r, d, deep, ())) (ExQ (2 * B + 1)) := by
 obtain ⟨b, p, ⟨⟩⟩ := r
 have ew : IntKind.wrap .i64 (deep - 1) = deep - 1 := wrap_i64 (by omega) (by omega)
 unfold z12.f
 simp only [ew]
 refine Tot.bd (t_below k h 8) fun y1 h1 => Tot.bind (P := fun _ => True) (Tot.dec (fun _ => Tot.ret trivial) fun _ => Tot.ret trivial) fun j2 _ => Tot.br (fun _ => ?_) fun _ => ?_
 ·exact Tot.bd (t_below k h1.2 _) fun y3 h3 => Tot.ret ⟨by simp, h3.2⟩
 refine Tot.bind (P := fun j => j.1 = false → 0 < deep) (Tot.dec (fun _ => Tot.ret (fun h => by simp at h)) fun _ => Tot.ret (fun h => by have := of_decide_eq_false h; omega)) fun j4 h4 => Tot.br (fun _ => ?_) fun hj => ?_
 ·refine Tot.bd (t_below k h1.2 12) fun y5 h5 => Tot.bd (t_once k h5.2 20) fun y6 h6 => Tot.br (fun _ => ?_) fun _ => ?_
  ·refine Tot.bd (t_below k h6 4) fun y7 h7 => ?_
   obtain ⟨⟨a0, _, a1⟩, r7⟩ := h7
   have a2 := a1 (by omega)
   exact Tot.chk (by simp only [List.length_cons, List.length_nil]; omega) (Tot.get (by simp only [List.length_cons, List.length_nil]; omega) fun x8 _ _ => Tot.ret ⟨by simp, r7⟩)
  ·exact Tot.ret ⟨by simp, h6⟩
 have hR' := hR (h4 hj)
 refine Tot.bind (P := fun _ => True) (Tot.br (fun _ => Tot.ret trivial) fun _ => Tot.ret trivial) fun j9 _ => Tot.br (fun _ => ?_) fun _ => ?_
 ·refine Tot.bd (hR' _ h1.2) fun y10 h10 => Tot.bd (t_below k h10.2 _) fun y11 h11 => ?_
  have := h10.1
  exact Tot.chk (mb16 (by simp only [List.length_cons, List.length_nil]; omega)) (Tot.ret ⟨by simp <;> omega, h11.2⟩)
 refine Tot.br (fun _ => ?_) fun _ => ?_
 ·refine Tot.bd (hR' _ h1.2) fun y12 h12 => ?_
  have := h12.1
  exact Tot.chk (mb16 (by simp only [List.length_cons, List.length_nil]; omega)) (Tot.ret ⟨by simp <;> omega, h12.2⟩)
 refine Tot.bd (t_below k h1.2 3) fun y13 h13 => Tot.bd (t_once k h13.2 4) fun y14 h14 => Tot.br (fun _ => ?_) fun _ => ?_
 ·refine Tot.bd (t_below k h14 2) fun y15 h15 => Tot.bd (hR' _ h15.2) fun y16 h16 => Tot.bd (hR' _ h16.2) fun y17 h17 => ?_
  have := h16.1
  have := h17.1
  exact Tot.chk (mb16 (by omega)) (Tot.chk (mb16 (by simp only [List.length_append, List.length_cons, List.length_nil]; omega)) (Tot.ret ⟨by simp <;> omega, h17.2⟩))
 ·refine Tot.bd (hR' _ h14) fun y16 h16 => Tot.bd (hR' _ h16.2) fun y17 h17 => ?_
  have := h16.1
  have := h17.1
  exact Tot.chk (mb16 (by omega)) (Tot.chk (mb16 (by simp only [List.length_append, List.length_cons, List.length_nil]; omega)) (Tot.ret ⟨by simp <;> omega, h17.2⟩))
theorem t_sum_n (k : Nat) (d : DeclT) : ∀ (D n : Nat), D ≤ 5 → D < n → ∀ (r : RdT), RdOk r → ∀ deep : Int, -100 ≤ deep → deep ≤ D → Tot (iter (z12.f k) n (r, d, deep, ())) (ExQ (2 ^ (D + 1) - 1))
 | 0, n, _, hn, r, h, deep, h0, h1 => by
  obtain ⟨n, rfl⟩ : ∃ g, n = g + 1 := ⟨n - 1, by omega⟩
  rw [iter_succ]
  exact t_sum_step k _ h d ⟨h0, by omega⟩ 0 (by omega) fun h => by omega
 | D + 1, n, hD, hn, r, h, deep, h0, h1 => by
  obtain ⟨n, rfl⟩ : ∃ g, n = g + 1 := ⟨n - 1, by omega⟩
  rw [iter_succ]
  have hp : 2 ^ (D + 1 + 1) = 2 * 2 ^ (D + 1) := by rw [Nat.pow_succ]; omega
  have hq : 1 ≤ 2 ^ (D + 1) := Nat.one_le_two_pow
  have hr : 2 ^ (D + 1) ≤ 2 ^ 6 := Nat.pow_le_pow_right (by omega) (by omega)
  have := t_sum_step k (iter (z12.f k) n) h d (deep := deep) ⟨h0, by omega⟩ (2 ^ (D + 1) - 1) (by omega) fun hp r' hr' => t_sum_n k d D n (by omega) (by omega) r' hr' (deep - 1) (by omega) (by omega)
  refine Tot.mono this fun y hy => ⟨?_, hy.2⟩
  have := hy.1
  omega
theorem t_sum (k : Nat) (hk : 64 ≤ k) (d : DeclT) {r : RdT} (h : RdOk r) {deep : Int} (h0 : -100 ≤ deep) (h1 : deep ≤ 4) : Tot (z12 k (r, d, deep, ())) (ExQ 31) :=
 t_sum_n k d 4 k (by omega) (by omega) r h deep h0 h1
abbrev ExpT : Type := RdT × DeclT × Int × Int × Unit
abbrev ExpR : Type := (List TokT × Unit) × (RdT × Unit × Unit × Unit × Unit)
def ExP (B : Nat) (y : ExpR) : Prop := y.1.1.length ≤ B ∧ RdOk y.2.1
theorem t_expr_step (k : Nat) (hk : 64 ≤ k) (R : ExpT → Option ExpR) {r : RdT} (h : RdOk r) (d : DeclT) (kind : Int) {deep : Int} (hd : -50 ≤ deep ∧ deep ≤ 4) (B : Nat) (hB : B ≤ 1000) (hR : 0 < deep → ∀ r' deep', RdOk r' → 0 ≤ deep' → deep' ≤ deep - 1 → Tot (R (r', d, kind, deep', ())) (ExP B)) :
  Tot (z13.f k R (r, d, kind, deep, ())) (ExP (2 * B + 100)) := by
 obtain ⟨b, p, ⟨⟩⟩ := r
 have ew : IntKind.wrap .i64 (deep - 1) = deep - 1 := wrap_i64 (by omega) (by omega)
 unfold z13.f
 simp only [ew]
 refine Tot.br (fun _ => ?_) fun _ => ?_
 ·exact Tot.bd (t_sum k hk d h (by omega) (by omega)) fun y1 h1 => Tot.ret ⟨by have := h1.1; simp only; omega, h1.2⟩
 refine Tot.bd (t_below k h 8) fun y2 h2 => Tot.bind (P := fun _ => True) (Tot.dec (fun _ => Tot.dec (fun _ => Tot.ret trivial) fun _ => Tot.ret trivial) fun _ => Tot.ret trivial) fun j3 _ => Tot.br (fun _ => ?_) fun _ => ?_
 ·exact Tot.bd (t_below k h2.2 _) fun y4 h4 => Tot.ret ⟨by simp <;> omega, h4.2⟩
 refine Tot.bind (P := fun _ => True) (Tot.dec (fun _ => Tot.ret trivial) fun _ => Tot.ret trivial) fun j5 _ => Tot.br (fun _ => ?_) fun _ => ?_
 ·refine Tot.bd (t_below k h2.2 2) fun y6 h6 => ?_
  obtain ⟨⟨a0, _, a1⟩, r6⟩ := h6
  have a2 := a1 (by omega)
  exact Tot.chk (by simp only [List.length_cons, List.length_nil]; omega) (Tot.get (by simp only [List.length_cons, List.length_nil]; omega) fun x7 _ _ => Tot.ret ⟨by simp <;> omega, r6⟩)
 refine Tot.bind (P := fun j => j.1 = false → 0 < deep) (Tot.dec (fun _ => Tot.ret (fun h => by simp at h)) fun _ => Tot.ret (fun h => by have := of_decide_eq_false h; omega)) fun j8 h8 => Tot.br (fun _ => ?_) fun hj => ?_
 ·refine Tot.bd (t_sum k hk d h2.2 (by omega) (by omega)) fun y9 h9 => Tot.bd (t_sum k hk d h9.2 (by omega) (by omega)) fun y10 h10 => ?_
  have := h9.1
  have := h10.1
  exact Tot.chk (mb16 (by omega)) (Tot.bd (t_below k h10.2 6) fun y11 h11 => Tot.chk (mb16 (by simp only [List.length_append, List.length_cons, List.length_nil]; omega)) (Tot.ret ⟨by simp <;> omega, h11.2⟩))
 have hp := h8 hj
 have hR' := hR hp
 refine Tot.br (fun _ => ?_) fun _ => ?_
 ·refine Tot.bd (hR' _ _ h2.2 (by omega) (by omega)) fun y12 h12 => ?_
  have := h12.1
  exact Tot.chk (mb16 (by simp only [List.length_cons, List.length_nil]; omega)) (Tot.ret ⟨by simp <;> omega, h12.2⟩)
 refine Tot.dec (fun _ => ?_) fun _ => ?_
 ·refine Tot.bd (hR' _ _ h2.2 (by omega) (by omega)) fun y13 h13 => Tot.bd (hR' _ _ h13.2 (by omega) (by omega)) fun y14 h14 => ?_
  have := h13.1
  have := h14.1
  exact Tot.chk (mb16 (by omega)) (Tot.bd (t_below k h14.2 2) fun y15 h15 => Tot.chk (mb16 (by simp only [List.length_append, List.length_cons, List.length_nil]; omega)) (Tot.ret ⟨by simp <;> omega, h15.2⟩))
 ·exact Tot.bd (hR' _ _ h2.2 (by omega) (by omega)) fun y16 h16 => Tot.ret ⟨by have := h16.1; simp only; omega, h16.2⟩
theorem t_expr (k : Nat) (hk : 64 ≤ k) (d : DeclT) (kind : Int) {r : RdT} (h : RdOk r) {deep : Int} (h0 : -50 ≤ deep) (h1 : deep ≤ 2) : Tot (z13 k (r, d, kind, deep, ())) (ExP 700) := by
 have e0 : ∀ n : Nat, 0 < n → ∀ (r : RdT), RdOk r → ∀ deep : Int, -50 ≤ deep → deep ≤ 0 → Tot (iter (z13.f k) n (r, d, kind, deep, ())) (ExP 100) := by
  intro n hn r h deep h0 h1
  obtain ⟨n, rfl⟩ : ∃ g, n = g + 1 := ⟨n - 1, by omega⟩
  rw [iter_succ]
  exact t_expr_step k hk _ h d kind ⟨h0, by omega⟩ 0 (by omega) fun h => by omega
 have e1 : ∀ n : Nat, 1 < n → ∀ (r : RdT), RdOk r → ∀ deep : Int, -50 ≤ deep → deep ≤ 1 → Tot (iter (z13.f k) n (r, d, kind, deep, ())) (ExP 300) := by
  intro n hn r h deep h0 h1
  obtain ⟨n, rfl⟩ : ∃ g, n = g + 1 := ⟨n - 1, by omega⟩
  rw [iter_succ]
  exact t_expr_step k hk _ h d kind ⟨h0, by omega⟩ 100 (by omega) fun _ r' dp hr' h2 h3 => e0 n (by omega) r' hr' dp (by omega) (by omega)
 have e2 : ∀ n : Nat, 2 < n → ∀ (r : RdT), RdOk r → ∀ deep : Int, -50 ≤ deep → deep ≤ 2 → Tot (iter (z13.f k) n (r, d, kind, deep, ())) (ExP 700) := by
  intro n hn r h deep h0 h1
  obtain ⟨n, rfl⟩ : ∃ g, n = g + 1 := ⟨n - 1, by omega⟩
  rw [iter_succ]
  exact t_expr_step k hk _ h d kind ⟨h0, by omega⟩ 300 (by omega) fun _ r' dp hr' h2 h3 => e1 n (by omega) r' hr' dp (by omega) (by omega)
 exact e2 k (by omega) r h deep h0 h1
theorem t_few (k : Nat) (hk : 64 ≤ k) (d : DeclT) (kind : Int) {r : RdT} (h : RdOk r) : Tot (z44 k (r, d, kind, ())) fun y => y.1.1.length ≤ 700 ∧ RdOk y.2.1 := by
 obtain ⟨b, p, ⟨⟩⟩ := r
 unfold z44
 refine Tot.bd (t_below k h 2) fun y1 h1 => ?_
 obtain ⟨⟨a0, _, a1⟩, r1⟩ := h1
 have a2 := a1 (by omega)
 have ew : IntKind.wrap .i64 (1 + y1.1.1) = 1 + y1.1.1 := wrap_i64 (by omega) (by omega)
 simp only [ew]
 exact Tot.bd (t_expr k hk d kind r1 (by omega) (by omega)) fun y2 h2 => Tot.ret ⟨h2.1, h2.2⟩
def LineS (n : LineT) : Prop := n.2.2.1.length ≤ 900 ∧ n.2.2.2.1.length ≤ 900
abbrev BlT : Type := RdT × DeclT × Int × Int × Unit
abbrev BlR : Type := (List LineT × Unit) × (RdT × Unit × Unit × Unit × Unit)
def BlQ (B : Nat) (y : BlR) : Prop := y.1.1.length ≤ B ∧ (∀ n ∈ y.1.1, LineS n) ∧ RdOk y.2.1
def LnQ (B : Nat) (y : BlR) : Prop := (1 ≤ y.1.1.length ∧ y.1.1.length ≤ B) ∧ (∀ n ∈ y.1.1, LineS n) ∧ RdOk y.2.1
theorem mb80 {n m : Nat} (h : n + m ≤ 100000) : (n + m) * 80 ≤ maxBytes := by simp only [maxBytes]; omega
theorem lnS_cat {a b : List LineT} (ha : ∀ n ∈ a, LineS n) (hb : ∀ n ∈ b, LineS n) : ∀ n ∈ a ++ b, LineS n := fun n hn => by
 rcases List.mem_append.1 hn with h | h
 ·exact ha n h
 ·exact hb n h
theorem lnS_one {n : LineT} (h : LineS n) : ∀ m ∈ [n], LineS m := fun m hm => by rw [List.mem_singleton.1 hm]; exact h
theorem lnS_two {a b : LineT} (h : LineS a) (h2 : LineS b) : ∀ m ∈ [a, b], LineS m := fun m hm => by
 simp only [List.mem_cons, List.not_mem_nil, or_false] at hm
 rcases hm with rfl | rfl
 ·exact h
 ·exact h2
theorem lnS_nil (a b lo hi : Int) : LineS (a, b, [], [], lo, hi, ()) := ⟨by simp, by simp⟩
theorem lnS_ex (a b lo hi : Int) {e : List TokT} (h : e.length ≤ 900) : LineS (a, b, [], e, lo, hi, ()) := ⟨by simp, h⟩
theorem t_counts (k : Nat) (d : DeclT) (v : Int) {r : RdT} (h : RdOk r) : Tot (z170 k (r, d, v, ())) fun y => y.1.1.length ≤ 700 ∧ RdOk y.2.1 := by
 obtain ⟨b, p, ⟨⟩⟩ := r
 unfold z170
 exact Tot.bd (t_below k h 9) fun y1 h1 => Tot.bd (t_below k h1.2 2) fun y2 h2 => Tot.ret ⟨by simp, h2.2⟩
theorem t_more (k : Nat) (v : Int) {r : RdT} (h : RdOk r) : Tot (z92 k (r, v, ())) fun y => LineS y.1.1 ∧ RdOk y.2.1 := by
 obtain ⟨b, p, ⟨⟩⟩ := r
 unfold z92
 exact Tot.bd (t_below k h 2) fun y1 h1 => Tot.ret ⟨⟨by simp, by simp⟩, h1.2⟩
theorem t_line_step (k : Nat) (hk : 64 ≤ k) (R : BlT → Option BlR) {r : RdT} (h : RdOk r) (d : DeclT) (most : Int) {deep : Int} (hd : -50 ≤ deep ∧ deep ≤ 4) (B : Nat) (hB : B ≤ 10000) (hR : 0 < deep → ∀ r' m, RdOk r' → Tot (R (r', d, m, deep - 1, ())) (BlQ B)) :
  Tot (z19 k R (r, d, most, deep, ())) (LnQ (2 * B + 3)) := by
 obtain ⟨b, p, ⟨⟩⟩ := r
 have ew : IntKind.wrap .i64 (deep - 1) = deep - 1 := wrap_i64 (by omega) (by omega)
 have one : ∀ (n : LineT) (r' : RdT), LineS n → RdOk r' → LnQ (2 * B + 3) (([n], ()), (r', (), (), (), ())) := fun n r' h1 h2 => ⟨⟨by simp, by simp⟩, lnS_one h1, h2⟩
 unfold z19
 simp only [ew]
 refine Tot.bd (t_below k h _) fun y1 h1 => Tot.bd (t_below k h1.2 16) fun y2 h2 => ?_
 refine Tot.bind (P := fun j => j.1 = true → 0 < deep) (Tot.dec (fun _ => Tot.dec (fun hp => Tot.ret fun _ => by omega) fun _ => Tot.ret fun h => by simp at h) fun _ => Tot.ret fun h => by simp at h) fun j3 h3 => Tot.br (fun hj => ?_) fun _ => ?_
 ·have hR' := hR (h3 hj)
  refine Tot.bd (t_below k h2.2 2) fun y4 h4 => Tot.bd (t_few k hk d 2 h4.2) fun y5 h5 => Tot.bd (hR' _ 3 h5.2) fun y6 h6 => ?_
  have l5 := h5.1
  have l6 := h6.1
  refine Tot.chk (mb80 (by simp only [List.length_cons, List.length_nil]; omega)) (Tot.bd (t_once k h6.2.2 2) fun y7 h7 => Tot.br (fun _ => Tot.dec (fun _ => ?_) fun _ => ?_) fun _ => ?_)
  ·refine Tot.chk (mb80 (by simp only [List.length_append, List.length_cons, List.length_nil]; omega)) (Tot.bd (hR' _ 2 h7) fun y8 h8 => ?_)
   have l8 := h8.1
   refine Tot.chk (mb80 (by simp only [List.length_append, List.length_cons, List.length_nil]; omega)) (Tot.chk (mb80 (by simp only [List.length_append, List.length_cons, List.length_nil]; omega)) (Tot.ret ⟨⟨by simp <;> omega, by simp <;> omega⟩, ?_, h8.2.2⟩))
   exact lnS_cat (lnS_cat (lnS_cat (lnS_cat (lnS_one (lnS_ex _ _ _ _ (by omega))) h6.2.1) (lnS_one (lnS_nil _ _ _ _))) h8.2.1) (lnS_one (lnS_nil _ _ _ _))
  ·exact Tot.chk (mb80 (by simp only [List.length_append, List.length_cons, List.length_nil]; omega)) (Tot.ret ⟨⟨by simp <;> omega, by simp <;> omega⟩, lnS_cat (lnS_cat (lnS_one (lnS_ex _ _ _ _ (by omega))) h6.2.1) (lnS_one (lnS_nil _ _ _ _)), h7⟩)
  ·exact Tot.chk (mb80 (by simp only [List.length_append, List.length_cons, List.length_nil]; omega)) (Tot.ret ⟨⟨by simp <;> omega, by simp <;> omega⟩, lnS_cat (lnS_cat (lnS_one (lnS_ex _ _ _ _ (by omega))) h6.2.1) (lnS_one (lnS_nil _ _ _ _)), h7⟩)
 refine Tot.bind (P := fun j => j.1 = true → 0 < deep) (Tot.dec (fun _ => Tot.dec (fun hp => Tot.ret fun _ => by omega) fun _ => Tot.ret fun h => by simp at h) fun _ => Tot.ret fun h => by simp at h) fun j9 h9 => Tot.br (fun hj => ?_) fun _ => ?_
 ·have hR' := hR (h9 hj)
  have body : ∀ (q : Int) (e : List TokT) (lo : Int) (r' : RdT), e.length ≤ 700 → RdOk r' → Tot (bd k (R (r', d, 3, deep - 1, ())) fun y15 =>
    br k (decide ((([(q, 0, [], e, lo, 0, ())] : List LineT).length + y15.1.1.length) * 80 ≤ maxBytes))
    (bd k (z92 k ((y15.2.1.1, y15.2.1.2.1, ()), y1.1.1, ())) fun y16 =>
    br k (decide (((([(q, 0, [], e, lo, 0, ())] : List LineT) ++ y15.1.1).length + ([(y16.1.1.1, y16.1.1.2.1, y16.1.1.2.2.1, y16.1.1.2.2.2.1, y16.1.1.2.2.2.2.1, y16.1.1.2.2.2.2.2.1, ()), (8, 0, [], [], 0, 0, ())] : List LineT).length) * 80 ≤ maxBytes))
    (some (((([(q, 0, [], e, lo, 0, ())] : List LineT) ++ y15.1.1) ++ ([(y16.1.1.1, y16.1.1.2.1, y16.1.1.2.2.1, y16.1.1.2.2.2.1, y16.1.1.2.2.2.2.1, y16.1.1.2.2.2.2.2.1, ()), (8, 0, [], [], 0, 0, ())] : List LineT), ()), ((y16.2.1.1, y16.2.1.2.1, ()), (), (), (), ())))
    none)
    none) (LnQ (2 * B + 3)) := fun q e lo r' he hr => by
   refine Tot.bd (hR' _ 3 hr) fun y15 h15 => ?_
   have l15 := h15.1
   refine Tot.chk (mb80 (by simp only [List.length_cons, List.length_nil]; omega)) (Tot.bd (t_more k _ h15.2.2) fun y16 h16 => Tot.chk (mb80 (by simp only [List.length_append, List.length_cons, List.length_nil]; omega)) (Tot.ret ⟨⟨by simp <;> omega, by simp <;> omega⟩, lnS_cat (lnS_cat (lnS_one (lnS_ex _ _ _ _ (by omega))) h15.2.1) (lnS_two h16.1 (lnS_nil _ _ _ _)), h16.2⟩))
  refine Tot.bd (t_counts k d _ h2.2) fun y10 h10 => Tot.bd (t_once k h10.2 3) fun y11 h11 => Tot.br (fun _ => ?_) fun _ => ?_
  ·refine Tot.bd (t_below k h11 3) fun y12 h12 => Tot.bd (t_once k h12.2 6) fun y13 h13 => Tot.br (fun _ => ?_) fun _ => ?_
   ·exact Tot.bd (t_few k hk d 2 h13) fun y14 h14 => body _ _ _ _ h14.1 h14.2
   ·exact body _ _ _ _ h10.1 h13
  ·refine Tot.bd (t_once k h11 6) fun y19 h19 => Tot.br (fun _ => ?_) fun _ => ?_
   ·exact Tot.bd (t_few k hk d 2 h19) fun y20 h20 => body _ _ _ _ h20.1 h20.2
   ·exact body _ _ _ _ h10.1 h19
 refine Tot.bind (P := fun _ => True) (Tot.br (fun _ => Tot.ret trivial) fun _ => Tot.ret trivial) fun j25 _ => Tot.br (fun _ => ?_) fun _ => ?_
 ·exact Tot.bd (t_below k h2.2 _) fun y26 h26 => Tot.bd (t_few k hk d 2 h26.2) fun y27 h27 => Tot.ret (one _ _ (lnS_ex _ _ _ _ (by have := h27.1; omega)) h27.2)
 refine Tot.bind (P := fun _ => True) (Tot.br (fun _ => Tot.ret trivial) fun _ => Tot.ret trivial) fun j28 _ => Tot.br (fun _ => ?_) fun _ => ?_
 ·exact Tot.bd (t_below k h2.2 _) fun y29 h29 => Tot.bd (t_few k hk d 1 h29.2) fun y30 h30 => Tot.bd (t_few k hk d 1 h30.2) fun y31 h31 => Tot.ret (one _ _ ⟨by have := h30.1; simp only; omega, by have := h31.1; simp only; omega⟩ h31.2)
 refine Tot.dec (fun _ => ?_) fun _ => ?_
 ·exact Tot.bd (t_below k h2.2 20) fun y32 h32 => Tot.bd (t_below k h32.2 12) fun y33 h33 => Tot.ret (one _ _ (lnS_nil _ _ _ _) h33.2)
 refine Tot.br (fun _ => ?_) fun _ => ?_
 ·exact Tot.bd (t_few k hk d 2 h2.2) fun y34 h34 => Tot.ret (one _ _ (lnS_ex _ _ _ _ (by have := h34.1; omega)) h34.2)
 refine Tot.br (fun _ => ?_) fun _ => ?_
 ·exact Tot.bd (t_few k hk d 2 h2.2) fun y34 h34 => Tot.ret (one _ _ (lnS_ex _ _ _ _ (by have := h34.1; omega)) h34.2)
 refine Tot.br (fun _ => ?_) fun _ => ?_
 ·exact Tot.bd (t_below k h2.2 10) fun y32 h32 => Tot.bd (t_below k h32.2 4) fun y33 h33 => Tot.ret (one _ _ (lnS_nil _ _ _ _) h33.2)
 refine Tot.br (fun _ => ?_) fun _ => ?_
 ·refine Tot.bd (t_once k h2.2 3) fun y38 h38 => Tot.br (fun _ => ?_) fun _ => ?_
  ·exact Tot.ret (one _ _ (lnS_nil _ _ _ _) h38)
  ·exact Tot.bd (t_few k hk d 1 h38) fun y34 h34 => Tot.ret (one _ _ (lnS_ex _ _ _ _ (by have := h34.1; omega)) h34.2)
 ·exact Tot.bd (t_few k hk d 1 h2.2) fun y34 h34 => Tot.ret (one _ _ (lnS_ex _ _ _ _ (by have := h34.1; omega)) h34.2)
abbrev BlSt : Type := RdT × Int × Int × DeclT × List LineT × Int × Unit
def BlJ (d : DeclT) (most deep : Int) (C : Nat) (x : BlSt) : Prop := RdOk x.1 ∧ x.2.1 = most ∧ x.2.2.1 = deep ∧ x.2.2.2.1 = d ∧ (∀ n ∈ x.2.2.2.2.1, LineS n) ∧ (0 ≤ x.2.2.2.2.2.1 ∧ x.2.2.2.2.2.1 ≤ 4) ∧ (x.2.2.2.2.1.length ≤ (4 - x.2.2.2.2.2.1.toNat) * C) ∧ (1 ≤ x.2.2.2.2.2.1 ∨ 1 ≤ x.2.2.2.2.1.length)
theorem t_block_step (k : Nat) (hk : 64 ≤ k) (R : BlT → Option BlR) {r : RdT} (h : RdOk r) (d : DeclT) (most : Int) {deep : Int} (hd : -50 ≤ deep ∧ deep ≤ 4) (B : Nat) (hB : B ≤ 2000) (hR : 0 < deep → ∀ r' m, RdOk r' → Tot (R (r', d, m, deep - 1, ())) (BlQ B)) :
  Tot (z10.f k R (r, d, most, deep, ())) fun y => BlQ (4 * (2 * B + 3)) y ∧ (1 ≤ most → 1 ≤ y.1.1.length) := by
 obtain ⟨b, p, ⟨⟩⟩ := r
 unfold z10.f
 refine Tot.bd (t_below k h 4) fun y1 h1 => ?_
 obtain ⟨⟨a0, _, a1⟩, r1⟩ := h1
 have a2 := a1 (by omega)
 have ew : IntKind.wrap .i64 (1 + y1.1.1) = 1 + y1.1.1 := wrap_i64 (by omega) (by omega)
 simp only [ew]
 refine Tot.loop (BlJ d most deep (2 * B + 3)) (fun x => x.2.2.2.2.2.1.toNat) ?_ k _ ⟨r1, rfl, rfl, rfl, by simp, by simp only; omega, by simp, .inl (by simp only; omega)⟩ (by simp only; omega)
 rintro G ⟨⟨rb, rp, ⟨⟩⟩, m, dp, ⟨d0, d1, d2, ⟨⟩⟩, out, i, ⟨⟩⟩ ⟨hr, rfl, rfl, rfl, hs, hi, hl, hne⟩ hG
 simp only at hr hs hi hl hne
 simp only [z10.l0]
 refine Tot.bind (P := fun j => (j.1 = true → 0 < i) ∧ (j.1 = false → 1 ≤ m → 1 ≤ out.length)) (Tot.dec (fun hp => Tot.ret ⟨fun _ => by omega, fun hf hm => ?_⟩) fun hp => Tot.ret ⟨fun h => by simp at h, fun _ _ => by omega⟩) fun j2 h2 => Tot.br (fun hj => ?_) fun hj => ?_
 ·have := of_decide_eq_false hf; omega
 ·have hi0 := h2.1 hj
  refine Tot.bd (t_line_step k hk R hr (d0, d1, d2, ()) _ hd B (by omega) hR) fun y3 h3 => ?_
  obtain ⟨⟨q1, q2⟩, q3, q4⟩ := h3
  have hm : (4 - i.toNat) * (2 * B + 3) ≤ 4 * (2 * B + 3) := Nat.mul_le_mul_right _ (by omega)
  refine Tot.chk (mb80 (by omega)) ?_
  have ew2 : IntKind.wrap .i64 (i - 1) = i - 1 := wrap_i64 (by omega) (by omega)
  rw [ew2]
  refine hG _ ⟨q4, rfl, rfl, rfl, lnS_cat hs q3, by simp only; omega, ?_, .inr (by simp <;> omega)⟩ (by simp only; omega)
  have e : 4 - (i - 1).toNat = (4 - i.toNat) + 1 := by omega
  simp only [List.length_append]
  rw [e, Nat.add_mul, Nat.one_mul]
  omega
 ·have hm : (4 - i.toNat) * (2 * B + 3) ≤ 4 * (2 * B + 3) := Nat.mul_le_mul_right _ (by omega)
  exact Tot.ret ⟨⟨by simp only; omega, hs, hr⟩, h2.2 hj⟩
theorem t_block (k : Nat) (hk : 64 ≤ k) (d : DeclT) {r : RdT} (h : RdOk r) (most : Int) : Tot (z10 k (r, d, most, 2, ())) fun y => BlQ 900 y ∧ (1 ≤ most → 1 ≤ y.1.1.length) := by
 have e0 : ∀ n : Nat, 0 < n → ∀ (r : RdT) (m : Int), RdOk r → Tot (iter (z10.f k) n (r, d, m, 0, ())) (BlQ 12) := by
  intro n hn r m h
  obtain ⟨n, rfl⟩ : ∃ g, n = g + 1 := ⟨n - 1, by omega⟩
  rw [iter_succ]
  exact Tot.mono (t_block_step k hk _ h d m (deep := 0) (by omega) 0 (by omega) fun h => by omega) fun y hy => hy.1
 have e1 : ∀ n : Nat, 1 < n → ∀ (r : RdT) (m : Int), RdOk r → Tot (iter (z10.f k) n (r, d, m, 1, ())) (BlQ 108) := by
  intro n hn r m h
  obtain ⟨n, rfl⟩ : ∃ g, n = g + 1 := ⟨n - 1, by omega⟩
  rw [iter_succ]
  exact Tot.mono (t_block_step k hk _ h d m (deep := 1) (by omega) 12 (by omega) fun _ r' m' hr' => e0 n (by omega) r' m' hr') fun y hy => hy.1
 obtain ⟨n, hn⟩ : ∃ g, k = g + 1 := ⟨k - 1, by omega⟩
 have key : Tot (iter (z10.f k) (n + 1) (r, d, most, 2, ())) fun y => BlQ 900 y ∧ (1 ≤ most → 1 ≤ y.1.1.length) := by
  rw [iter_succ]
  refine Tot.mono (t_block_step k hk _ h d most (deep := 2) (by omega) 108 (by omega) fun _ r' m' hr' => e1 n (by omega) r' m' hr') fun y hy => ⟨⟨by have := hy.1.1; omega, hy.1.2⟩, hy.2⟩
 unfold z10
 rw [hn] at key ⊢
 exact key
structure ProgDr (p : ProgT) : Prop where
 d : DSmall (declOf p)
 n : p.2.2.2.1.length ≤ 1000
 s : ∀ n ∈ p.2.2.2.1, LineS n
theorem ProgDr.small {p : ProgT} (h : ProgDr p) : PSmall p := ⟨h.d, by have := h.n; omega, fun n hn => by have := (h.s n hn).1; omega, fun n hn => by have := (h.s n hn).2; omega⟩
abbrev PrSt : Type := RdT × ProgT × DeclT × ProgT × Int × Unit
def PrJ (d : DeclT) (x : PrSt) : Prop := RdOk x.1 ∧ x.2.2.1 = d ∧ declOf x.2.2.2.1 = d ∧ (∀ n ∈ x.2.2.2.1.2.2.2.1, LineS n) ∧ (0 ≤ x.2.2.2.2.1 ∧ x.2.2.2.2.1 ≤ 3) ∧ x.2.2.2.1.2.2.2.1.length ≤ (3 - x.2.2.2.2.1.toNat) * 900 ∧ (1 ≤ x.2.2.2.1.2.2.2.1.length ∨ (x.2.2.2.1.2.2.2.1.length = 0 ∧ 1 ≤ x.2.2.2.2.1))
theorem t_prog (k : Nat) (hk : 64 ≤ k) {r : RdT} (h : RdOk r) : Tot (z107 k (r, ())) fun y => (DDr (declOf y.1.1) ∧ ProgDr y.1.1 ∧ 1 ≤ y.1.1.2.2.2.1.length ∧ y.1.1.2.2.2.1.length ≤ 30) ∧ RdOk y.2.1 := by
 obtain ⟨b, p, ⟨⟩⟩ := r
 unfold z107
 refine Tot.bd (t_decl k (by omega) h) fun y1 h1 => Tot.bd (t_below k h1.2 3) fun y2 h2 => ?_
 obtain ⟨⟨a0, _, a1⟩, r2⟩ := h2
 have a2 := a1 (by omega)
 have ew : IntKind.wrap .i64 (1 + y2.1.1) = 1 + y2.1.1 := wrap_i64 (by omega) (by omega)
 simp only [ew]
 refine Tot.loop (PrJ y1.1.1) (fun x => x.2.2.2.2.1.toNat) ?_ k _ ⟨r2, rfl, rfl, by simp, by simp only; omega, by simp, .inr ⟨by simp, by simp only; omega⟩⟩ (by simp only; omega)
 rintro G ⟨⟨rb, rp, ⟨⟩⟩, ⟨t0, t1, t2, t3, ⟨⟩⟩, ⟨d0, d1, d2, ⟨⟩⟩, ⟨p0, p1, p2, p3, ⟨⟩⟩, i, ⟨⟩⟩ ⟨hr, hd1, hd2, hs, hi, hl, hne⟩ hG
 simp only [declOf] at hr hd1 hd2 hs hi hl hne
 have hm : (3 - i.toNat) * 900 ≤ 3 * 900 := Nat.mul_le_mul_right _ (by omega)
 simp only [z107.l0]
 refine Tot.dec (fun hp => ?_) fun hp => Tot.dec (fun hlt => Tot.ret ?_) fun hlt => Tot.ret ?_
 ·refine Tot.bd (t_block k hk _ hr _) fun y3 h3 => ?_
  obtain ⟨⟨q1, q2, q3⟩, q4⟩ := h3
  refine Tot.chk (mb80 (by omega)) ?_
  have ew2 : IntKind.wrap .i64 (i - 1) = i - 1 := wrap_i64 (by omega) (by omega)
  rw [ew2]
  refine hG _ ⟨q3, hd1, hd2, lnS_cat hs q2, by simp only; omega, ?_, .inl ?_⟩ (by simp only; omega)
  ·have e : 3 - (i - 1).toNat = (3 - i.toNat) + 1 := by omega
   simp only [List.length_append]
   rw [e, Nat.add_mul, Nat.one_mul]
   omega
  ·simp only [List.length_append]
   rcases hne with hne | ⟨hne, _⟩
   ·omega
   ·have := q4 (by rw [hne]; decide)
    omega
 ·exact ⟨⟨by show DDr (p0, p1, p2, ()); rw [hd2]; exact h1.1, ⟨by show DSmall (p0, p1, p2, ()); rw [hd2]; exact h1.1.s, by simp, lnS_one (lnS_nil _ _ _ _)⟩, by simp, by simp⟩, hr⟩
 ·exact ⟨⟨by show DDr (p0, p1, p2, ()); rw [hd2]; exact h1.1, ⟨by show DSmall (p0, p1, p2, ()); rw [hd2]; exact h1.1.s, by simp only; omega, hs⟩, by simp only; omega, by simp only; omega⟩, hr⟩
end Go.Pev.F
end

section
/-
 Draws of runs: hurt programs, inputs.
-/
namespace Go.Pev.F
theorem t_hurtDeclP (k : Nat) (hk : 64 ≤ k) {r : RdT} (h : RdOk r) {d : DeclT} (hd : DDr d) : Tot (z172 k (r, d, ())) fun y => DSmall y.1.1 ∧ RdOk y.2.1 := by
 obtain ⟨b, p, ⟨⟩⟩ := r
 have n0 := hd.n0
 have n1 := hd.n1
 have n2 := hd.n2
 have s0 := hd.s.s0
 have s1 := hd.s.s1
 have s2 := hd.s.s2
 unfold z172
 refine Tot.bd (t_below k h 24) fun y1 h1 => Tot.br (fun _ => ?_) fun _ => Tot.br (fun _ => ?_) fun _ => Tot.br (fun _ => ?_) fun _ => ?_
 ·refine Tot.chk (by simp only [List.length_nil, maxBytes]; omega) (Tot.bd (t_below k h1.2 6) fun y2 h2 => ?_)
  obtain ⟨⟨a0, _, a1⟩, r2⟩ := h2
  have a2 := a1 (by omega)
  refine Tot.chk (by simp only [List.length_cons, List.length_nil]; omega) (Tot.get (by simp only [List.length_cons, List.length_nil]; omega) fun x3 hx _ => ?_)
  have lx : x3.length ≤ 100 := by
   simp only [List.mem_cons, List.not_mem_nil, or_false] at hx
   rcases hx with rfl | rfl | rfl | rfl | rfl | rfl <;> decide
  refine Tot.chk (by simp only [List.length_append, List.length_cons, List.length_nil, maxBytes]; omega) (Tot.ret ⟨⟨by simp <;> omega, ?_, by simp only; omega, s1, by simp only; omega, s2⟩, r2⟩)
  intro x hx
  simp only [List.nil_append] at hx
  rcases List.mem_append.1 hx with hx | hx
  ·exact s0 x hx
  ·rw [List.mem_singleton.1 hx]; omega
 ·refine Tot.chk (by simp only [List.length_nil, maxBytes]; omega) (Tot.bd (t_off k (by omega) h1.2 (by omega) (by omega) (by omega)) fun y4 h4 => ?_)
  refine Tot.chk (by simp only [List.length_append, List.length_cons, List.length_nil, maxBytes]; omega) (Tot.ret ⟨⟨by simp only; omega, s0, by simp only; omega, s1, by simp <;> omega, ?_⟩, h4.2⟩)
  intro x hx
  simp only [List.nil_append] at hx
  rcases List.mem_append.1 hx with hx | hx
  ·exact s2 x hx
  ·rw [List.mem_singleton.1 hx]; simp
 ·refine Tot.bd (t_below k h1.2 2) fun y5 h5 => ?_
  obtain ⟨⟨a0, _, a1⟩, r5⟩ := h5
  have a2 := a1 (by omega)
  have ew : IntKind.wrap .i64 (5 + y5.1.1) = 5 + y5.1.1 := wrap_i64 (by omega) (by omega)
  simp only [ew]
  refine Tot.chk (by simp only [List.length_cons, List.length_nil]; omega) (Tot.ret ⟨⟨?_, ?_, by simp only; omega, s1, by simp only; omega, s2⟩, r5⟩)
  ·have := (subL_lens ([[112], [113], [114], [115], [116], [117]] : List (List UInt8)) ((0 : Int).toNat) ((5 + y5.1.1).toNat - (0 : Int).toNat)).2
   simp only [List.length_cons, List.length_nil] at this
   simp only; omega
  ·intro x hx
   have := subL_memb hx
   simp only [List.mem_cons, List.not_mem_nil, or_false] at this
   rcases this with rfl | rfl | rfl | rfl | rfl | rfl <;> decide
 ·exact Tot.ret ⟨hd.s, h1.2⟩
abbrev HxSt : Type := RdT × List TokT × Int × Unit
def HxJ (x : HxSt) : Prop := RdOk x.1 ∧ (0 ≤ x.2.2.1 ∧ x.2.2.1 ≤ 42) ∧ x.2.1.length ≤ 900 + x.2.2.1.toNat
theorem t_hurtExpr (k : Nat) (hk : 64 ≤ k) {r : RdT} (h : RdOk r) {l : List TokT} (hl : l.length ≤ 900) (hl0 : 1 ≤ l.length) : Tot (z108 k (r, l, ())) fun y => y.1.1.length ≤ 1000 ∧ RdOk y.2.1 := by
 obtain ⟨b, p, ⟨⟩⟩ := r
 unfold z108
 refine Tot.bd (t_below k h 20) fun y1 h1 => Tot.br (fun _ => ?_) fun _ => Tot.br (fun _ => ?_) fun _ => Tot.br (fun _ => ?_) fun _ => Tot.br (fun _ => ?_) fun _ => ?_
 ·have ew : IntKind.wrap .i64 ((l.length : Int) + 1) = (l.length : Int) + 1 := wrap_i64 (by omega) (by omega)
  rw [ew]
  refine Tot.bd (t_below k h1.2 _) fun y2 h2 => ?_
  obtain ⟨⟨a0, _, a1⟩, r2⟩ := h2
  have a2 := a1 (by omega)
  refine Tot.chk (by omega) (Tot.ret ⟨?_, r2⟩)
  have := (subL_lens l ((0 : Int).toNat) (y2.1.1.toNat - (0 : Int).toNat)).2
  simp only; omega
 ·refine Tot.bd (t_below k h1.2 _) fun y3 h3 => Tot.bd (t_off k (by omega) h3.2 (by omega) (by omega) (by omega)) fun y4 h4 => ?_
  obtain ⟨⟨a0, _, a1⟩, r3⟩ := h3
  have a2 := a1 (by omega)
  exact Tot.chk (by omega) (Tot.get (by omega) fun x5 _ _ => Tot.ret ⟨by simp <;> omega, h4.2⟩)
 ·refine Tot.bd (t_below k h1.2 _) fun y3 h3 => Tot.bd (t_off k (by omega) h3.2 (by omega) (by omega) (by omega)) fun y4 h4 => ?_
  obtain ⟨⟨a0, _, a1⟩, r3⟩ := h3
  have a2 := a1 (by omega)
  exact Tot.chk (by omega) (Tot.get (by omega) fun x5 _ _ => Tot.ret ⟨by simp <;> omega, h4.2⟩)
 ·refine Tot.loop HxJ (fun x => (42 - x.2.2.1).toNat) ?_ k _ ⟨h1.2, by simp only; omega, by simp only; omega⟩ (by simp only; omega)
  rintro G ⟨⟨rb, rp, ⟨⟩⟩, l', i, ⟨⟩⟩ ⟨hr, hi, hl'⟩ hG
  simp only at hr hi hl'
  simp only [z108.l1]
  refine Tot.bind (P := fun j => j.1 = true → i < 42) (Tot.dec (fun hp => Tot.br (fun _ => Tot.ret fun _ => hp) fun hz => by simp at hz) fun _ => Tot.ret fun h => by simp at h) fun j9 h9 => Tot.br (fun hj => ?_) fun _ => Tot.ret ⟨by simp only; omega, hr⟩
  have hi' := h9 hj
  refine Tot.chk (mb16 (by simp only [List.length_cons, List.length_nil]; omega)) ?_
  rw [wrap_i64 (n := i + 1) (by omega) (by omega)]
  refine hG _ ⟨hr, by simp only; omega, by simp only [List.length_append, List.length_cons, List.length_nil]; omega⟩ (by simp only; omega)
 ·exact Tot.ret ⟨by simp only; omega, h1.2⟩
theorem lnS_set {l : List LineT} (hl : ∀ n ∈ l, LineS n) (i : Nat) {n : LineT} (hn : LineS n) : ∀ m ∈ l.set i n, LineS m := fun m hm => by
 rcases List.mem_or_eq_of_mem_set hm with h | h
 ·exact hl m h
 ·rw [h]; exact hn
abbrev HpSt : Type := RdT × ProgT × ProgT × Int × Int × Unit
def HpJ (p : ProgT) (x : HpSt) : Prop := RdOk x.1 ∧ declOf x.2.1 = declOf p ∧ (∀ n ∈ x.2.1.2.2.2.1, LineS n) ∧ (0 ≤ x.2.2.2.2.1 ∧ x.2.2.2.2.1 ≤ 32) ∧ x.2.1.2.2.2.1.length ≤ 30 + x.2.2.2.2.1.toNat
theorem t_hurtProg (k : Nat) (hk : 64 ≤ k) {r : RdT} (h : RdOk r) {p : ProgT} (hd : DDr (declOf p)) (hp : ProgDr p) (hn : 1 ≤ p.2.2.2.1.length) (hn2 : p.2.2.2.1.length ≤ 30) : Tot (z109 k (r, p, ())) fun y => PSmall y.1.1 ∧ RdOk y.2.1 := by
 obtain ⟨b, q, ⟨⟩⟩ := r
 obtain ⟨p0, p1, p2, p3, ⟨⟩⟩ := p
 have hs := hp.s
 have hds := hp.d
 simp only at hs hn hn2
 have set1 : ∀ (i : Nat) (n : LineT), LineS n → ProgDr (p0, p1, p2, p3.set i n, ()) := fun i n hn => ⟨hds, by simp <;> omega, lnS_set hs i hn⟩
 have set2 : ∀ (i : Nat) (a v lo hi : Int) (x : LineT), LineS x → PSmall (p0, p1, p2, p3.set i (a, v, x.2.2.1, x.2.2.2.1, lo, hi, ()), ()) := fun i a v lo hi x hx => (set1 i (a, v, x.2.2.1, x.2.2.2.1, lo, hi, ()) hx).small
 unfold z109
 refine Tot.bd (t_below k h _) fun y1 h1 => ?_
 obtain ⟨⟨a0, _, a1⟩, r1⟩ := h1
 have a2 := a1 (by omega)
 have lt : y1.1.1.toNat < p3.length := by omega
 refine Tot.bd (t_below k r1 24) fun y2 h2 => Tot.br (fun _ => ?_) fun _ => Tot.br (fun _ => ?_) fun _ => Tot.br (fun _ => ?_) fun _ => Tot.br (fun _ => ?_) fun _ => Tot.br (fun _ => ?_) fun _ => Tot.br (fun _ => ?_) fun _ => Tot.br (fun _ => ?_) fun _ => ?_
 ·exact Tot.bd (t_hurtDeclP k hk h2.2 hd) fun y3 h3 => Tot.ret ⟨ProgDr.small ⟨h3.1, by simp only; omega, hs⟩, h3.2⟩
 ·exact Tot.bd (t_off k (by omega) h2.2 (by omega) (by omega) (by omega)) fun y4 h4 => Tot.chk (by omega) (Tot.get lt fun x5 hx _ => Tot.ret ⟨set2 _ _ _ _ _ x5 (hs x5 hx), h4.2⟩)
 ·have ew : IntKind.wrap .i64 (y1.1.1 + 1) = y1.1.1 + 1 := wrap_i64 (by omega) (by omega)
  simp only [ew]
  refine Tot.chk (by omega) (Tot.chk (by omega) (Tot.chk (by omega) (Tot.chk (by simp only [maxBytes]; omega) (Tot.ret ⟨ProgDr.small ⟨hds, ?_, ?_⟩, h2.2⟩))))
  ·have l1 := (subL_lens p3 ((0 : Int).toNat) (y1.1.1.toNat - (0 : Int).toNat)).2
   have l2 := (subL_lens p3 ((y1.1.1 + 1).toNat) ((p3.length : Int).toNat - (y1.1.1 + 1).toNat)).2
   simp only [List.length_append]; omega
  ·exact lnS_cat (fun n hn => hs n (subL_memb hn)) (fun n hn => hs n (subL_memb hn))
 ·exact Tot.bd (t_off k (by omega) h2.2 (by omega) (by omega) (by omega)) fun y4 h4 => Tot.chk (by omega) (Tot.get lt fun x5 hx _ => Tot.ret ⟨set2 _ _ _ _ _ x5 (hs x5 hx), h4.2⟩)
 ·exact Tot.bd (t_off k (by omega) h2.2 (by omega) (by omega) (by omega)) fun y4 h4 => Tot.chk (by omega) (Tot.get lt fun x5 hx _ => Tot.ret ⟨set2 _ _ _ _ _ x5 (hs x5 hx), h4.2⟩)
 ·refine Tot.loop (HpJ (p0, p1, p2, p3, ())) (fun x => (32 - x.2.2.2.2.1).toNat) ?_ k _ ⟨h2.2, rfl, hs, by simp only; omega, by simp only; omega⟩ (by simp only; omega)
  rintro G ⟨⟨rb, rp, ⟨⟩⟩, ⟨q0, q1, q2, q3, ⟨⟩⟩, ⟨t0, t1, t2, t3, ⟨⟩⟩, at_, i, ⟨⟩⟩ ⟨hr, hdd, hs', hi, hl'⟩ hG
  simp only at hr hi hl' hs'
  simp only [z109.l1]
  refine Tot.bind (P := fun j => j.1 = true → i < 32) (Tot.dec (fun hp => Tot.br (fun _ => Tot.ret fun _ => hp) fun hz => by simp at hz) fun _ => Tot.ret fun h => by simp at h) fun j9 h9 => Tot.br (fun hj => ?_) fun _ => Tot.ret ⟨ProgDr.small ⟨by rw [show declOf (q0, q1, q2, q3, ()) = _ from hdd]; exact hds, by simp only; omega, hs'⟩, hr⟩
  have hi' := h9 hj
  refine Tot.chk (mb80 (by simp only [List.length_cons, List.length_nil]; omega)) ?_
  rw [wrap_i64 (n := i + 1) (by omega) (by omega)]
  exact hG _ ⟨hr, hdd, lnS_cat hs' (lnS_one (lnS_nil _ _ _ _)), by simp only; omega, by simp only [List.length_append, List.length_cons, List.length_nil]; omega⟩ (by simp only; omega)
 ·refine Tot.chk (by omega) (Tot.get lt fun x11 hx e11 => Tot.dec (fun hgt => ?_) fun _ => Tot.ret ⟨(set1 _ _ (hs x11 hx)).small, h2.2⟩)
  obtain ⟨x0, xv, xI, xE, xl, xh, ⟨⟩⟩ := x11
  have es : p3.set y1.1.1.toNat (x0, xv, xI, xE, xl, xh, ()) = p3 := by
   obtain ⟨q1, q2⟩ := List.getElem?_eq_some_iff.1 e11
   rw [← q2]; exact List.set_getElem_self q1
  simp only [es] at hgt ⊢
  have hE := hs _ hx
  have hE1 : xI.length ≤ 900 := hE.1
  have hE2 : xE.length ≤ 900 := hE.2
  refine Tot.chk (by omega) ?_
  rw [e11, bd_some]
  refine Tot.bd (t_hurtExpr k hk h2.2 (l := xE) hE2 (by omega)) fun y13 h13 => ?_
  refine Tot.chk (by omega) ?_
  have h1000 := h13.1
  refine Tot.chk trivial (Tot.ret ⟨⟨hds, by simp <;> omega, fun n hn => ?_, fun n hn => ?_⟩, h13.2⟩)
  ·rcases List.mem_or_eq_of_mem_set hn with hn | rfl
   ·have := (hs n hn).1; omega
   ·simp only; omega
  ·rcases List.mem_or_eq_of_mem_set hn with hn | rfl
   ·have := (hs n hn).2; omega
   ·simp only; omega
 ·exact Tot.ret ⟨hp.small, h2.2⟩
abbrev InpSt : Type := RdT × List Int × Int × Unit
def InpJ (x : InpSt) : Prop := RdOk x.1 ∧ (0 ≤ x.2.2.1 ∧ x.2.2.1 ≤ 11) ∧ x.2.1.length ≤ 11 - x.2.2.1.toNat
theorem t_inputs (k : Nat) (hk : 64 ≤ k) {r : RdT} (h : RdOk r) : Tot (z28 k (r, ())) fun y => RdOk y.2.1 := by
 obtain ⟨b, q, ⟨⟩⟩ := r
 unfold z28
 refine Tot.bd (t_below k h 12) fun y1 h1 => ?_
 obtain ⟨⟨a0, _, a1⟩, r1⟩ := h1
 have a2 := a1 (by omega)
 refine Tot.loop InpJ (fun x => x.2.2.1.toNat) ?_ k _ ⟨r1, by simp only; omega, by simp⟩ (by simp only; omega)
 rintro G ⟨⟨rb, rp, ⟨⟩⟩, out, i, ⟨⟩⟩ ⟨hr, hi, hl⟩ hG
 simp only at hr hi hl
 simp only [z28.l0]
 refine Tot.dec (fun hp => ?_) fun _ => ?_
 ·refine Tot.bd (t_num k (by omega) hr) fun y2 h2 => Tot.chk (by simp only [List.length_cons, List.length_nil, maxBytes]; omega) ?_
  rw [wrap_i64 (n := i - 1) (by omega) (by omega)]
  exact hG _ ⟨h2.2, by simp only; omega, by simp only [List.length_append, List.length_cons, List.length_nil]; omega⟩ (by simp only; omega)
 ·refine Tot.bd (t_once k hr 40) fun y3 h3 => Tot.br (fun _ => ?_) fun _ => Tot.ret h3
  refine Tot.bd (t_below k h3 2) fun y4 h4 => ?_
  obtain ⟨⟨a0, _, a1⟩, r4⟩ := h4
  have a2 := a1 (by omega)
  have ew : IntKind.wrap .i64 (1000 + y4.1.1) = 1000 + y4.1.1 := wrap_i64 (by omega) (by omega)
  simp only [ew]
  exact Tot.chk (by simp only [maxBytes]; omega) (Tot.ret r4)
theorem t_drawRun (k : Nat) (hk : 64 ≤ k) {code : List Int} (h1 : code.length ≤ 140737488351232) (h2 : ∀ x ∈ code, 0 ≤ x ∧ x ≤ 255) : Tot (z174 k (code, ())) fun y => PSmall y.1.1 := by
 have tail : ∀ (r : RdT) (p : ProgT), RdOk r → PSmall p → Tot (bd k (z6 k (r, 180, ())) fun y16 =>
   bd k (z14 k ((y16.2.1.1, y16.2.1.2.1, ()), 8, ())) fun y17 =>
   br k (y17.1.1)
   (bd k (z6 k ((y17.2.1.1, y17.2.1.2.1, ()), 20, ())) fun y18 =>
   bd k (z14 k ((y18.2.1.1, y18.2.1.2.1, ()), 30, ())) fun y19 =>
   br k (y19.1.1)
   (bd k (z23 k ((y19.2.1.1, y19.2.1.2.1, ()), 0, 2000, ())) fun y20 =>
   bd k (z28 k ((y20.2.1.1, y20.2.1.2.1, ()), ())) fun y21 =>
   some (((p.1, p.2.1, p.2.2.1, p.2.2.2.1, ()), y21.1.1, y20.1.1, ()), ((), ())))
   (bd k (z28 k ((y19.2.1.1, y19.2.1.2.1, ()), ())) fun y22 =>
   some (((p.1, p.2.1, p.2.2.1, p.2.2.2.1, ()), y22.1.1, y18.1.1, ()), ((), ()))))
   (bd k (z14 k ((y17.2.1.1, y17.2.1.2.1, ()), 30, ())) fun y23 =>
   br k (y23.1.1)
   (bd k (z23 k ((y23.2.1.1, y23.2.1.2.1, ()), 0, 2000, ())) fun y24 =>
   bd k (z28 k ((y24.2.1.1, y24.2.1.2.1, ()), ())) fun y25 =>
   some (((p.1, p.2.1, p.2.2.1, p.2.2.2.1, ()), y25.1.1, y24.1.1, ()), ((), ())))
   (bd k (z28 k ((y23.2.1.1, y23.2.1.2.1, ()), ())) fun y26 =>
   some (((p.1, p.2.1, p.2.2.1, p.2.2.2.1, ()), y26.1.1, IntKind.wrap .i64 (20 + y16.1.1), ()), ((), ()))))) fun y : (ProgT × List Int × Int × Unit) × (Unit × Unit) => PSmall y.1.1 := fun r p hr hp => by
  refine Tot.bd (t_below k hr 180) fun y16 h16 => Tot.bd (t_once k h16.2 8) fun y17 h17 => Tot.br (fun _ => ?_) fun _ => ?_
  ·refine Tot.bd (t_below k h17 20) fun y18 h18 => Tot.bd (t_once k h18.2 30) fun y19 h19 => Tot.br (fun _ => ?_) fun _ => ?_
   ·exact Tot.bd (t_off k (by omega) h19 (by omega) (by omega) (by omega)) fun y20 h20 => Tot.bd (t_inputs k hk h20.2) fun y21 _ => Tot.ret hp
   ·exact Tot.bd (t_inputs k hk h19) fun y21 _ => Tot.ret hp
  ·refine Tot.bd (t_once k h17 30) fun y19 h19 => Tot.br (fun _ => ?_) fun _ => ?_
   ·exact Tot.bd (t_off k (by omega) h19 (by omega) (by omega) (by omega)) fun y20 h20 => Tot.bd (t_inputs k hk h20.2) fun y21 _ => Tot.ret hp
   ·exact Tot.bd (t_inputs k hk h19) fun y21 _ => Tot.ret hp
 unfold z174
 refine Tot.bd (t_open k h1 h2) fun y1 r1 => Tot.bd (t_prog k hk r1) fun y2 hy2 => ?_
 obtain ⟨⟨q1, q2, q3, q4⟩, r2⟩ := hy2
 refine Tot.bd (t_once k r2 12) fun y3 h3 => Tot.br (fun _ => ?_) fun _ => ?_
 ·exact Tot.bd (t_hurtProg k hk h3 q1 q2 q3 q4) fun y4 h4 => tail _ _ h4.2 h4.1
 ·exact tail _ _ h3 q2.small
end Go.Pev.F
end

section
/-
 Stores compared.
-/
namespace Go.Pev.F
def SoFar {α : Type} (a b : List α) (i : Int) : Prop := 0 ≤ i ∧ i ≤ a.length ∧ a.take i.toNat = b.take i.toNat
theorem soFar_0 {α : Type} (a b : List α) : SoFar a b 0 := ⟨by omega, by omega, rfl⟩
theorem soFar_end {α : Type} {a b : List α} (h : a.length = b.length) {i : Int} (hi : SoFar a b i) (hn : ¬ i < (a.length : Int)) : a = b := by
 obtain ⟨h0, h1, h2⟩ := hi
 rw [List.take_of_length_le (by omega), List.take_of_length_le (by omega)] at h2
 exact h2
theorem soFar_step {α : Type} {a b : List α} {i : Int} (hi : SoFar a b i) (hlt : i < (a.length : Int)) {x y : α} (hx : a[i.toNat]? = some x) (hy : b[i.toNat]? = some y) (e : x = y) : SoFar a b (i + 1) := by
 obtain ⟨h0, h1, h2⟩ := hi
 refine ⟨by omega, by omega, ?_⟩
 have e1 : (i + 1).toNat = i.toNat + 1 := by omega
 obtain ⟨q1, r1⟩ := List.getElem?_eq_some_iff.1 hx
 obtain ⟨q2, r2⟩ := List.getElem?_eq_some_iff.1 hy
 rw [e1, ← List.take_append_getElem q1, ← List.take_append_getElem q2, h2, r1, r2, e]
theorem soFar_ne {α : Type} {a b : List α} {i : Nat} {x y : α} (hx : a[i]? = some x) (hy : b[i]? = some y) (e : x ≠ y) : a ≠ b := by
 rintro rfl
 rw [hx] at hy
 exact e (Option.some.inj hy)
abbrev EqSt (α : Type) : Type := List α × List α × Int × Unit
def EqJ {α : Type} (a b : List α) (x : EqSt α) : Prop := x.1 = a ∧ x.2.1 = b ∧ SoFar a b x.2.2.1
theorem t_sameInts (k : Nat) (hk : 2000 ≤ k) {a b : List Int} (ha : a.length ≤ 1000) : Tot (z94 k (a, b, ())) fun y => y.1.1 = decide (a = b) := by
 unfold z94
 refine Tot.br (fun h => Tot.ret ?_) fun h => ?_
 ·have : a ≠ b := by rintro rfl; simp at h
  simp [this]
 ·have hl : a.length = b.length := by
   simp only [bne_eq_false_iff_eq] at h
   omega
  refine Tot.loop (EqJ a b) (fun x => ((a.length : Int) - x.2.2.1).toNat) ?_ k _ ⟨rfl, rfl, soFar_0 a b⟩ (by simp only; omega)
  rintro G ⟨a', b', i, ⟨⟩⟩ ⟨rfl, rfl, hi⟩ hG
  simp only at hi ha hl
  have h0 := hi.1
  simp only [z94.l0]
  refine Tot.dec (fun hlt => ?_) fun hlt => Tot.ret ?_
  ·refine Tot.chk h0 (Tot.get (by omega) fun x1 _ e1 => Tot.chk h0 (Tot.get (by omega) fun x2 _ e2 => ?_))
   rw [wrap_i64 (n := i + 1) (by omega) (by omega)]
   refine Tot.br (fun hne => Tot.ret ?_) fun heq => hG _ ⟨rfl, rfl, soFar_step hi hlt e1 e2 (by simpa using heq)⟩ (by simp only; omega)
   have := soFar_ne e1 e2 (by simpa using hne)
   simp [this]
  ·simp [soFar_end hl hi hlt]
abbrev SameSt : Type := StoreT × StoreT × Int × Unit
theorem t_sameStore (k : Nat) (hk : 2000 ≤ k) {a b : StoreT} (ha : SAny a) : Tot (z24 k (a, b, ())) fun y => y.1.1 = decide (a = b) := by
 have N0 := ha.n0
 have N1 := ha.n1
 have N2 := ha.n2
 unfold z24
 refine Tot.bind (P := fun y => (y.1 = true → a ≠ b) ∧ (y.1 = false → a.1 = b.1 ∧ a.2.1.length = b.2.1.length ∧ a.2.2.1.length = b.2.2.1.length)) (Tot.bd (t_sameInts k hk N0) fun y1 h1 => Tot.br (fun h => Tot.ret ⟨fun _ e => ?_, fun h => by cases h⟩) fun h => Tot.br (fun h' => Tot.ret ⟨fun _ e => ?_, fun h => by cases h⟩) fun h' => Tot.ret ⟨fun h'' e => ?_, fun h'' => ⟨?_, ?_, ?_⟩⟩) fun j hj => Tot.br (fun h => Tot.ret ?_) fun h => ?_
 ·rw [e] at h1; rw [h1] at h; simp at h
 ·rw [e] at h'; simp at h'
 ·rw [e] at h''; simp at h''
 ·rw [h1] at h; simpa using h
 ·simp only [bne_eq_false_iff_eq] at h'; omega
 ·simp only [bne_eq_false_iff_eq] at h''; omega
 ·simp [hj.1 h]
 ·obtain ⟨e0, l1, l2⟩ := hj.2 h
  have rows : a.2.1 = b.2.1 → ∀ (f : Nat) (x : SameSt), (x.1 = a ∧ x.2.1 = b ∧ SoFar a.2.2.1 b.2.2.1 x.2.2.1) → ((a.2.2.1.length : Int) - x.2.2.1).toNat < f → Tot (iter (z24.l2 k) f x) fun y => y.1.1 = decide (a = b) := by
   intro e1
   refine Tot.loop (fun x : SameSt => x.1 = a ∧ x.2.1 = b ∧ SoFar a.2.2.1 b.2.2.1 x.2.2.1) (fun x : SameSt => ((a.2.2.1.length : Int) - x.2.2.1).toNat) ?_
   rintro G ⟨⟨a0, a1, a2, ⟨⟩⟩, ⟨b0, b1, b2, ⟨⟩⟩, i, ⟨⟩⟩ ⟨rfl, rfl, hi⟩ hG
   simp only at hi e0 e1 l1 l2 N2
   have m2 := ha.m2
   simp only at m2
   have h0 := hi.1
   simp only [z24.l2]
   refine Tot.dec (fun hlt => ?_) fun hlt => Tot.ret ?_
   ·refine Tot.chk h0 (Tot.get (by omega) fun x1 hx1 e1' => Tot.chk h0 (Tot.get (by omega) fun x2 _ e2 => Tot.bd (t_sameInts k hk (m2 _ hx1)) fun y7 h7 => ?_))
    rw [wrap_i64 (n := i + 1) (by omega) (by omega), h7]
    refine Tot.br (fun hne => Tot.ret ?_) fun heq => hG _ ⟨rfl, rfl, soFar_step hi hlt e1' e2 (by simpa using heq)⟩ (by simp only; omega)
    have := soFar_ne e1' e2 (by simpa using hne)
    simp [this]
   ·have := soFar_end l2 hi hlt
    simp [e0, e1, this]
  refine Tot.loop (fun x : SameSt => x.1 = a ∧ x.2.1 = b ∧ SoFar a.2.1 b.2.1 x.2.2.1) (fun x : SameSt => ((a.2.1.length : Int) - x.2.2.1).toNat) ?_ k _ ⟨rfl, rfl, soFar_0 _ _⟩ (by simp only; omega)
  rintro G ⟨⟨a0, a1, a2, ⟨⟩⟩, ⟨b0, b1, b2, ⟨⟩⟩, i, ⟨⟩⟩ ⟨rfl, rfl, hi⟩ hG
  simp only at hi e0 l1 l2 N1 N2
  have h0 := hi.1
  simp only [z24.l0]
  refine Tot.dec (fun hlt => ?_) fun hlt => ?_
  ·refine Tot.chk h0 (Tot.get (by omega) fun x1 hx1 e1 => Tot.chk h0 (Tot.get (by omega) fun x2 _ e2 => ?_))
   rw [wrap_i64 (n := i + 1) (by omega) (by omega)]
   refine Tot.br (fun hne => Tot.ret ?_) fun heq => hG _ ⟨rfl, rfl, soFar_step hi hlt e1 e2 (by simpa using heq)⟩ (by simp only; omega)
   have := soFar_ne e1 e2 (by simpa using hne)
   simp [this]
  ·exact rows (soFar_end l1 hi hlt) k _ ⟨rfl, rfl, soFar_0 _ _⟩ (by simp only; omega)
end Go.Pev.F
end

section
/-
 Laws of runs: both come to the same.
-/
namespace Go.Pev.F
theorem t_bigR (k : Nat) (code : List Int) : Tot (z167 k (code, ())) fun _ => True := by
 unfold z167
 exact Tot.ret trivial
theorem outS_any {p : ProgT} {inp : List Int} {fuel : Int} : SAny (outS (outOf p inp fuel)) := by
 unfold outOf
 split
 ·rename_i h
  have hok := run_ok fuel.toNat 0 (newS (declOf p)) 0 0 (runAt_new h)
  simp only [formOk, Bool.and_eq_true] at h
  have hdo := (progOk_parts h.1).1
  have ha := newS_any hdo
  obtain ⟨⟨q0, q1, q2⟩, _⟩ := decl_arrs hdo
  have hs := hok.st
  have hl := hok.lens
  have n0 := hs.n0
  have n1 := hs.n1
  have n2 := hs.n2
  refine ⟨by unfold runOf; omega, by unfold runOf; omega, by unfold runOf; omega, fun r hr => ?_, fun x hx => hs.f0 x hx, fun r hr x hx => hs.f2 r hr x hx⟩
  have hm : r.length ∈ (outS (runOf p inp fuel)).2.2.1.map List.length := List.mem_map_of_mem hr
  unfold runOf at hm
  rw [hl] at hm
  obtain ⟨r', hr', e⟩ := List.mem_map.1 hm
  rw [← e]
  exact ha.m2 r' hr'
 ·exact ⟨by simp [outS], by simp [outS], by simp [outS], by simp [outS], by simp [outS], by simp [outS]⟩
theorem sameOut_refl (k : Nat) (hk : 4194304 < k) {o : OutT} (h : SAny (outS o)) : z112 k ((o.1, o.2.1, o.2.2.1, o.2.2.2.1, o.2.2.2.2.1, o.2.2.2.2.2.1, o.2.2.2.2.2.2.1, ()), o, ()) = some ((true, ()), ((), (), ())) := by
 obtain ⟨y, e, hy⟩ := t_sameStore k (by omega) (a := outS o) (b := outS o) h
 obtain ⟨⟨b, ⟨⟩⟩, ⟨⟨⟩, ⟨⟩, ⟨⟩⟩⟩ := y
 simp only [decide_true] at hy
 subst hy
 unfold outS at e
 unfold z112
 simp only [beq_self_eq_true, br_true, e, bd_some, Option.bind_some]
theorem runs (k : Nat) (hk : 4194304 < k) (hk2 : k ≤ 4611686018427387903) {p : ProgT} (hp : PSmall p) (inp : List Int) (fuel : Int) : z139 k ((p.1, p.2.1, p.2.2.1, p.2.2.2.1, ()), inp, fuel, ()) = some ((outOf p inp fuel, ()), ((), (), (), ())) ∧ z42 k ((p.1, p.2.1, p.2.2.1, p.2.2.2.1, ()), inp, fuel, ()) = some ((outOf p inp fuel, ()), ((), (), (), ())) :=
 ⟨implRun_is k hk hk2 p hp inp fuel, specRun_is k hk hk2 p hp inp fuel⟩
theorem bad_code {p : ProgT} {inp : List Int} {fuel : Int} : (outOf p inp fuel).1 = 1 ↔ formOk p inp fuel = false := by
 unfold outOf
 cases h : formOk p inp fuel with
 | false => simp
 | true =>
  simp only [if_true]
  exact ⟨fun e => absurd e (run_ok fuel.toNat 0 (newS (declOf p)) 0 0 (runAt_new h)).code.1, fun e => by cases e⟩
theorem law_of {β : Type} {m : Option ((Bool × Unit) × β)} (h : Tot m fun y => y.1.1 = true) : ∃ o, m = some ((true, ()), o) := by
 obtain ⟨⟨⟨b, ⟨⟩⟩, o⟩, e, hb⟩ := h
 exact ⟨o, by rw [e]; simp only at hb; rw [hb]⟩
end Go.Pev.F
end

section
/-
 Traces: the law.
-/
namespace Go.Pev.F
theorem snap_any {p : ProgT} {inp : List Int} {fuel : Int} : ∀ x ∈ traceOf p inp fuel, x.2.1.length ≤ 1000 ∧ SAny (snapS x) := by
 intro x hx
 unfold traceOf at hx
 split at hx
 ·rename_i h
  obtain ⟨h1, h2, h3⟩ := trace_ok _ fuel.toNat 0 (newS (declOf p)) 0 [] (runAt_new h) rfl rfl x hx
  simp only [formOk, Bool.and_eq_true] at h
  have hdo := (progOk_parts h.1).1
  have ha := newS_any hdo
  obtain ⟨⟨q0, q1, q2⟩, _⟩ := decl_arrs hdo
  have n0 := h2.n0
  have n1 := h2.n1
  have n2 := h2.n2
  refine ⟨by omega, by omega, by omega, by omega, fun r hr => ?_, fun y hy => h2.f0 y hy, fun r hr y hy => h2.f2 r hr y hy⟩
  have hm : r.length ∈ (snapS x).2.2.1.map List.length := List.mem_map_of_mem hr
  rw [h3] at hm
  obtain ⟨r', hr', e⟩ := List.mem_map.1 hm
  rw [← e]
  exact ha.m2 r' hr'
 ·cases hx
theorem trace_le {p : ProgT} {inp : List Int} {fuel : Int} : (traceOf p inp fuel).length ≤ 2001 := by
 unfold traceOf
 split
 ·rename_i h
  simp only [formOk, Bool.and_eq_true, decide_eq_true_eq] at h
  have := trace_len p.2.2.2.1 (targetsOf p.2.2.2.1) inp fuel.toNat 0 (newS (declOf p)) 0 []
  omega
 ·simp
theorem sameToken_refl (k : Nat) (hk : 4194304 < k) {t : List EntT} (h : t.length ≤ 1000) : z77 k (t, t, ()) = some ((true, ()), ((), (), ())) := by
 unfold z77
 have hb : ((t.length : Int) != (t.length : Int)) = false := by simp
 simp only [hb, br_false]
 exact iter_for (b := z77.l0 k) (fun i => (t, t, (i : Int), ())) t.length (fun G i hi => by
  have h2 : ((i : Int) < (t.length : Int)) := by omega
  have h3 : (0 : Int) ≤ (i : Int) := by omega
  simp only [z77.l0, br_dec, if_pos h2, if_pos h3, Int.toNat_natCast, List.getElem?_eq_getElem hi, bd_some, BEq.rfl, Bool.and_self, Bool.not_true, br_false, bne_self_eq_false]
  rw [wrap_succ (by omega)]) (fun G => by
  have h2 : ¬ ((t.length : Int) < (t.length : Int)) := by omega
  simp only [z77.l0, br_dec, if_neg h2]) (by omega)
theorem sameStore_refl (k : Nat) (hk : 4194304 < k) {s : StoreT} (h : SAny s) : z24 k (s, s, ()) = some ((true, ()), ((), (), ())) := by
 obtain ⟨y, e, hy⟩ := t_sameStore k (by omega) (a := s) (b := s) h
 obtain ⟨⟨b, ⟨⟩⟩, ⟨⟨⟩, ⟨⟩, ⟨⟩⟩⟩ := y
 simp only [decide_true] at hy
 subst hy
 exact e
theorem sameSnaps_refl (k : Nat) (hk : 4194304 < k) {l : List SnpT} (hl : l.length ≤ 2001) (h : ∀ x ∈ l, x.2.1.length ≤ 1000 ∧ SAny (snapS x)) : z50 k (l, l, ()) = some ((true, ()), ((), (), ())) := by
 unfold z50
 have hb : ((l.length : Int) != (l.length : Int)) = false := by simp
 simp only [hb, br_false]
 exact iter_for (b := z50.l0 k) (fun i => (l, l, (i : Int), ())) l.length (fun G i hi => by
  have h2 : ((i : Int) < (l.length : Int)) := by omega
  have h3 : (0 : Int) ≤ (i : Int) := by omega
  obtain ⟨t1, t2⟩ := h _ (List.getElem_mem hi)
  have e1 := sameToken_refl k hk t1
  have e2 : z24 k ((l[i].2.2.1, l[i].2.2.2.1, l[i].2.2.2.2.1, ()), (l[i].2.2.1, l[i].2.2.2.1, l[i].2.2.2.2.1, ()), ()) = some ((true, ()), ((), (), ())) := sameStore_refl k hk t2
  simp only [z50.l0, br_dec, if_pos h2, if_pos h3, Int.toNat_natCast, List.getElem?_eq_getElem hi, bd_some, bne_self_eq_false, e1, e2, Bool.not_true, br_false, Option.bind_some]
  rw [wrap_succ (by omega)]) (fun G => by
  have h2 : ¬ ((l.length : Int) < (l.length : Int)) := by omega
  simp only [z50.l0, br_dec, if_neg h2]) (by omega)
theorem trace_tot (k : Nat) (hk : 4194304 < k) (hk2 : k ≤ 4611686018427387903) {code : List Int} (h1 : code.length ≤ 140737488351232) (h2 : ∀ x ∈ code, 0 ≤ x ∧ x ≤ 255) : Tot (z187 k (code, ())) fun y => y.1.1 = true := by
 unfold z187
 refine Tot.bd (t_bigR k code) fun _ _ => Tot.br (fun _ => Tot.ret rfl) fun _ => ?_
 have hD : Tot (z175 k (code, ())) fun y => PSmall y.1.1 := by
  unfold z175
  exact Tot.bd (t_drawRun k (by omega) h1 h2) fun y hp => Tot.ret hp
 refine Tot.bd hD fun y2 hp => ?_
 generalize y2.1.1 = p at hp
 generalize y2.1.2.1 = inp
 generalize y2.1.2.2.1 = fuel
 obtain ⟨r1, r2⟩ := runs k hk hk2 hp inp fuel
 have hs := sameOut_refl k hk (outS_any (p := p) (inp := inp) (fuel := fuel))
 have t1 : z142 k ((p.1, p.2.1, p.2.2.1, p.2.2.2.1, ()), inp, fuel, ()) = some ((traceOf p inp fuel, ()), ((), (), (), ())) := implTrace_is k hk hk2 p hp inp fuel
 have t2 : z38 k ((p.1, p.2.1, p.2.2.1, p.2.2.2.1, ()), inp, fuel, ()) = some ((traceOf p inp fuel, ()), ((), (), (), ())) := specTrace_is k hk hk2 p hp inp fuel
 have t3 := sameSnaps_refl k hk (trace_le (p := p) (inp := inp) (fuel := fuel)) snap_any
 simp only [r1, r2, t1, t2, t3, bd_some, hs, Bool.not_true, br_false]
 refine Tot.br (fun hc => ?_) fun hc => ?_
 ·simp only [br_true]
  exact Tot.ret rfl
 have hf : formOk p inp fuel = true := by
  cases h : formOk p inp fuel with
  | true => rfl
  | false => rw [bad_code.2 h] at hc; cases hc
 have hA := runAt_new hf
 have hfo := hf
 simp only [formOk, Bool.and_eq_true, decide_eq_true_eq] at hfo
 obtain ⟨hpo, ⟨f0, f1⟩, _⟩ := hfo
 obtain ⟨hdo, _, _, _⟩ := progOk_parts hpo
 have ho : outOf p inp fuel = runV p.2.2.2.1 (targetsOf p.2.2.2.1) inp fuel.toNat 0 (newS (declOf p)) 0 0 := by unfold outOf; rw [if_pos hf]; rfl
 have ht : traceOf p inp fuel = traceV p.2.2.2.1 (targetsOf p.2.2.2.1) inp fuel.toNat 0 (newS (declOf p)) 0 [] := by unfold traceOf; rw [if_pos hf]
 have hok := run_ok fuel.toNat 0 (newS (declOf p)) 0 0 hA
 obtain ⟨q1, ⟨r', q2⟩, i, x, q3, q4, q5⟩ := trace_run fuel.toNat 0 (newS (declOf p)) 0 0 [] hA
 rw [← ho] at q1 q4 q5 hok
 rw [← ht] at q1 q2 q3
 have hany := outS_any (p := p) (inp := inp) (fuel := fuel)
 have hle := trace_le (p := p) (inp := inp) (fuel := fuel)
 generalize outOf p inp fuel = o at q1 q4 q5 hok hany
 generalize traceOf p inp fuel = l at q1 q2 q3 hle
 have hst := hok.stb
 have jn : ∃ c : Bool, (br k (o.1 == 0) (some (true, ())) (some (o.1 == 2, ())) : Option (Bool × Unit)) = some (c, ()) ∧ (c = true ↔ o.1 = 0 ∨ o.1 = 2) := by
  refine ⟨o.1 == 0 || o.1 == 2, ?_, by simp⟩
  cases h : o.1 == 0 <;> simp
 obtain ⟨c, e1, e2⟩ := jn
 rw [e1, Option.bind_some]
 simp only
 have hl0 : 1 ≤ l.length := by rw [q2]; simp
 have lastI : IntKind.wrap .i64 ((l.length : Int) - 1) = ((l.length - 1 : Nat) : Int) := by rw [wrap_i64 (by omega) (by omega)]; omega
 have hlast : l[l.length - 1]? = some x := by rw [q3]; simp
 have hfirst : l[0]? = some (snapV 0 [] (newS (declOf p))) := by rw [q2]; rfl
 have xs : (x.1, x.2.1, x.2.2.1, x.2.2.2.1, x.2.2.2.2.1, ()) = x := rfl
 have hset : (l.set (l.length - 1) x)[0]? = some (snapV 0 [] (newS (declOf p))) := by
  by_cases h : l.length - 1 = 0
  ·rw [h, List.getElem?_set_self (by omega)]
   rw [h, hfirst] at hlast
   exact hlast.symm
  ·rw [List.getElem?_set_ne h]; exact hfirst
 have hset2 : ((l.set (l.length - 1) x).set 0 (snapV 0 [] (newS (declOf p))))[0]? = some (snapV 0 [] (newS (declOf p))) := List.getElem?_set_self (by simp; omega)
 have d1 : (0 : Int) ≤ ((l.length - 1 : Nat) : Int) ∧ ((l.length - 1 : Nat) : Int) < (l.length : Int) := by omega
 have d0 : (0 : Int) ≤ (0 : Int) ∧ (0 : Int) < (l.length : Int) := by omega
 have d2 : ((l.length - 1 : Nat) : Int) ≥ 0 := by omega
 have dl : ∀ y, (l.set (l.length - 1) y).length = l.length := fun y => by simp
 have hsame : z24 k ((x.2.2.1, x.2.2.2.1, x.2.2.2.2.1, ()), (o.2.2.1, o.2.2.2.1, o.2.2.2.2.1, ()), ()) = some ((true, ()), ((), (), ())) := by
  have e : z24 k (snapS x, outS o, ()) = some ((true, ()), ((), (), ())) := by rw [q5]; exact sameStore_refl k hk hany
  exact e
 have hstart : z145 k ((p.1, p.2.1, p.2.2.1, p.2.2.2.1, ()), ()) = some ((startP (declOf p), ()), ((), ())) := by
  unfold z145
  have e : z89 k ((p.1, p.2.1, p.2.2.1, p.2.2.2.1, ()), ()) = _ := implProgOk_is k hk hk2 p hp
  have e2 : z144 k ((p.1, p.2.1, p.2.2.1, ()), ()) = _ := implStart_is k hk hdo
  simp only [e, hpo, bd_some, Bool.not_true, br_false, e2]
  rfl
 have hlsm : LSmall (startP (declOf p)) := by
  obtain ⟨⟨z0, z1, z2⟩, _⟩ := decl_arrs hdo
  have hz : (declOf p).2.1.length = 0 ∨ (declOf p).2.1.length = 1 ∨ (declOf p).2.1.length = 2 ∨ (declOf p).2.1.length = 3 := by omega
  have hlen := startTab_len (declOf p)
  refine ⟨by simp [startP], fun q hq => ?_, fun q hq => ?_, fun q hq e he => ?_⟩
  ·rw [List.mem_singleton.1 hq]; simp
  ·rw [List.mem_singleton.1 hq]; show (startTab (declOf p)).length ≤ 1048576; rw [hlen]; rcases hz with e | e | e | e <;> rw [e] <;> decide
  ·rw [List.mem_singleton.1 hq] at he
   have he : e ∈ startTab (declOf p) := he
   rw [startTab_cons] at he
   rcases List.mem_cons.1 he with rfl | he
   ·exact ⟨by simp [startE]; omega, by simp [startE]; omega⟩
   ·rw [(List.mem_replicate.1 he).2]; exact ⟨by simp, by simp⟩
 have hhas : z116 k ((p.1, p.2.1, p.2.2.1, ()), startP (declOf p), [], newS (declOf p), ()) = some ((true, ()), ((), (), (), (), ())) := by
  have e := implPartsHas_is k hk hk2 (declOf p) hp.d hdo (startP (declOf p)) hlsm [] (newS (declOf p)) (newS_any hdo).small
  rw [start_has hdo] at e
  exact e
 have hset2' : ((l.set (l.length - 1) x).set 0 (0, [], (newS (declOf p)).1, (newS (declOf p)).2.1, (newS (declOf p)).2.2.1, ()))[0]? = some (0, [], (newS (declOf p)).1, (newS (declOf p)).2.1, (newS (declOf p)).2.2.1, ()) := hset2
 have hhas' : z116 k ((p.1, p.2.1, p.2.2.1, ()), startP (declOf p), [], ((newS (declOf p)).1, (newS (declOf p)).2.1, (newS (declOf p)).2.2.1, ()), ()) = some ((true, ()), ((), (), (), (), ())) := hhas
 have main : ∀ m : Int, (l.length : Int) = m → ((l.length : Int) == m) = true := fun m hm => by simp [hm]
 have hx4 : (x.1 == o.2.1) = true := by simp [q4]
 have emp : ((([] : List EntT).length : Int) == 0) = true := by decide
 cases c with
 | true =>
  have hm : (l.length : Int) = o.2.2.2.2.2.1 + 1 := by rw [q1, if_pos (e2.1 rfl)]; omega
  have wm : IntKind.wrap .i64 (o.2.2.2.2.2.1 + 1) = o.2.2.2.2.2.1 + 1 := wrap_i64 (by omega) (by omega)
  simp only [br_true, wm, main _ hm, lastI, br_dec, if_pos d2, if_pos d1, Int.toNat_natCast, hlast, bd_some, hx4, hsame, if_pos d0, xs, dl, Int.toNat_zero, hset, snapV, emp, hstart]
  simp only [hset2', bd_some, hhas']
  exact Tot.ret rfl
 | false =>
  have hno : ¬ (o.1 = 0 ∨ o.1 = 2) := fun h => by have := e2.2 h; cases this
  have hm : (l.length : Int) = o.2.2.2.2.2.1 := by rw [q1, if_neg hno]; omega
  simp only [br_false, main _ hm, br_true, lastI, br_dec, if_pos d2, if_pos d1, Int.toNat_natCast, hlast, bd_some, hx4, hsame, if_pos d0, xs, dl, Int.toNat_zero, hset, snapV, emp, hstart]
  simp only [hset2', bd_some, hhas']
  exact Tot.ret rfl
theorem FnTrace_true (x : List Int × Unit) (hw : WFs [.sl false (.int .u8)] x) : ∃ k o, z187 k x = some ((true, ()), o) := by
 obtain ⟨code, ⟨⟩⟩ := x
 obtain ⟨⟨hlen, hby⟩, _⟩ := hw
 obtain ⟨o, e⟩ := law_of (trace_tot 8388608 (by omega) (by omega) hlen fun x hx => hby x hx)
 exact ⟨8388608, o, e⟩
end Go.Pev.F
end
