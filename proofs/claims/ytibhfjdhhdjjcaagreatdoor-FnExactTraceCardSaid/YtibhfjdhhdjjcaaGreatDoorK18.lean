/-
  One step: the reference's.
-/
import Derived.Test.YtibhfjdhhdjjcaaGreatDoorK17
import Derived.Test.YtibhfjdhhdjjcaaGreatDoorK03
import Derived.Test.YtibhfjdhhdjjcaaGreatDoorK16
set_option linter.unusedSimpArgs false
set_option linter.unusedVariables false
section
namespace Go.Pev.F
theorem copy_is (k : Nat) (hk : 4194304 < k) {d : DeclT} {s : StoreT} (hs : SOk d s) (hd : d.1.length ≤ 1000 ∧ d.2.1.length ≤ 1000 ∧ d.2.2.1.length ≤ 1000) : z25 k (s, ()) = some ((s, ()), ((), ())) := by
  obtain ⟨s0, s1, s2, ⟨⟩⟩ := s
  have n0 := hs.n0
  have n1 := hs.n1
  have n2 := hs.n2
  have m2 := hs.m2
  simp only at n0 n1 n2 m2
  have c0 : (([] : List Int).length + s0.length) * 8 ≤ maxBytes := by simp only [List.length_nil, maxBytes]; omega
  have c1 : (([] : List Bool).length + s1.length) * 1 ≤ maxBytes := by simp only [List.length_nil, maxBytes]; omega
  have gen : ∀ (n i f : Nat), i + n = s2.length → n < f → iter (z25.l0 k) f ((s0, s1, s2, ()), ([], [], ([] : List (List Int)), ()), (s0, s1, s2.take i, ()), (i : Int), ()) = some (((s0, s1, s2, ()), ()), ((), ())) := by
    intro n
    induction n with
    | zero =>
      intro i f hi hf
      obtain ⟨f, rfl⟩ : ∃ g, f = g + 1 := ⟨f - 1, by omega⟩
      have h2 : ¬ ((i : Int) < (s2.length : Int)) := by omega
      rw [iter_succ]
      simp only [z25.l0, br_dec, if_neg h2]
      rw [List.take_of_length_le (by omega)]
    | succ n ih =>
      intro i f hi hf
      obtain ⟨f, rfl⟩ : ∃ g, f = g + 1 := ⟨f - 1, by omega⟩
      have hlt : i < s2.length := by omega
      have h2 : ((i : Int) < (s2.length : Int)) := by omega
      have h3 : (0 : Int) ≤ (i : Int) := by omega
      have hm := m2 _ (List.getElem_mem hlt)
      have c2 : (([] : List Int).length + s2[i].length) * 8 ≤ maxBytes := by simp only [List.length_nil, maxBytes]; omega
      have c3 : ((s2.take i).length + ([s2[i]] : List (List Int)).length) * 24 ≤ maxBytes := by simp only [List.length_take, List.length_cons, List.length_nil, maxBytes]; omega
      rw [iter_succ]
      simp only [z25.l0, br_dec, if_pos h2, if_pos h3, Int.toNat_natCast, List.getElem?_eq_getElem hlt, bd_some, if_pos c2, if_pos c3, List.nil_append]
      rw [wrap_succ (by omega), List.take_append_getElem hlt]
      exact ih (i + 1) f (by omega) (by omega)
  unfold z25
  simp only [br_dec, if_pos c0, if_pos c1, List.nil_append]
  exact gen s2.length 0 k (by omega) (by omega)
theorem specInput_is (k : Nat) (n : LineT) (he : endsB n.2.2.2.2.1 n.2.2.2.2.2.1 = true) (inp : List Int) (hinp : inp.length ≤ 1000) {used : Int} (h0 : 0 ≤ used) : z145 k (n, inp, used, ()) = some (((inV n.2.2.2.2.1 n.2.2.2.2.2.1 inp used).1, (inV n.2.2.2.2.1 n.2.2.2.2.2.1 inp used).2, ()), ((), (), (), ())) := by
  obtain ⟨kd, v, I, E, lo, hi, ⟨⟩⟩ := n
  have h := ends_fits he
  simp only at h
  have w1 : IntKind.wrap .i64 (IntKind.wrap .i64 (hi - lo) + 1) = hi - lo + 1 := by rw [wrap_i64 (n := hi - lo) (by omega) (by omega), wrap_i64 (by omega) (by omega)]
  unfold z145 inV
  simp only [br_dec, w1]
  by_cases hu : used ≥ (inp.length : Int)
  · simp only [if_pos hu]
  · have ul : used.toNat < inp.length := by omega
    have hz : decide (hi - lo + 1 = 0) = false := decide_eq_false (by omega)
    obtain ⟨t1, t2⟩ := tmod_abs (inp[used.toNat]) (show 1 ≤ hi - lo + 1 by omega)
    have w2 : IntKind.wrap .i64 (inp[used.toNat].tmod (hi - lo + 1) + (hi - lo + 1)) = inp[used.toNat].tmod (hi - lo + 1) + (hi - lo + 1) := wrap_i64 (by omega) (by omega)
    have wu : IntKind.wrap .i64 (used + 1) = used + 1 := wrap_i64 (by omega) (by omega)
    have et : (inp[used.toNat].tmod (hi - lo + 1) + (hi - lo + 1)).tmod (hi - lo + 1) = if inp[used.toNat].tmod (hi - lo + 1) < 0 then inp[used.toNat].tmod (hi - lo + 1) + (hi - lo + 1) else inp[used.toNat].tmod (hi - lo + 1) := by
      rw [Int.tmod_eq_emod_of_nonneg (by omega)]
      split
      · exact Int.emod_eq_of_lt (by omega) (by omega)
      · have : (inp[used.toNat].tmod (hi - lo + 1) + (hi - lo + 1)) % (hi - lo + 1) = inp[used.toNat].tmod (hi - lo + 1) % (hi - lo + 1) := by simp
        rw [this]
        exact Int.emod_eq_of_lt (by omega) (by omega)
    have ex : IntKind.wrap .i64 (lo + (inp[used.toNat].tmod (hi - lo + 1) + (hi - lo + 1)).tmod (hi - lo + 1)) = inX lo hi inp[used.toNat] := by
      rw [et]
      unfold inX
      split
      · exact wrap_i64 (by omega) (by omega)
      · exact wrap_i64 (by omega) (by omega)
    simp only [if_neg hu, if_pos h0, List.getElem?_eq_getElem ul, bd_some, hz, Bool.not_false, br_true, w2, ex, wu, getD_get ul]
def SpecR (q : Int × StoreT × Int × Int) (r : Option ((Int × StoreT × Int × Int × Unit) × (Unit × Unit × Unit × Unit × Unit × Unit × Unit × Unit))) : Prop := r = some ((q.1, q.2.1, q.2.2.1, q.2.2.2, ()), ((), (), (), (), (), (), (), ()))
theorem SpecR.to {q q' : Int × StoreT × Int × Int} {r : Option ((Int × StoreT × Int × Int × Unit) × (Unit × Unit × Unit × Unit × Unit × Unit × Unit × Unit))} (h : SpecR q r) (e : q = q') : SpecR q' r := e ▸ h
theorem h8_bad (k : Nat) (nx cur : Int) (inp : List Int) (used : Int) (n : LineT) (s t : StoreT) (i e code : Int) (hc : code ≠ 0) :
    SpecR (cur, s, used, code) (z11.h8 k (nx, cur, inp, used, (n.1, n.2.1, n.2.2.1, n.2.2.2.1, n.2.2.2.2.1, n.2.2.2.2.2.1, ()), (s.1, s.2.1, s.2.2.1, ()), (t.1, t.2.1, t.2.2.1, ()), i, e, code, ())) := by
  have b : (code != 0) = true := by simpa using hc
  unfold SpecR
  simp only [z11.h8, b, br_true]
theorem h8_good (k : Nat) (hk : 4194304 < k) {d : DeclT} (hd : d.1.length ≤ 1000 ∧ d.2.1.length ≤ 1000 ∧ d.2.2.1.length ≤ 1000) {n : LineT} (hn : LineV d n) (inp : List Int) (hinp : inp.length ≤ 1000) (nx : Int) (cur : Nat) (hcur : cur < 1000) {used : Int} (h0 : 0 ≤ used) {s : StoreT} (hs : SOk d s) (t : StoreT) (i e : Int)
    (h3 : n.1 = 3 → evalV s [] n.2.2.1 = (i, 0)) (hE : wantE n.1 > 0 → evalV s [] n.2.2.2.1 = (e, 0)) :
    SpecR (stepV n inp nx cur used s) (z11.h8 k (nx, (cur : Int), inp, used, (n.1, n.2.1, n.2.2.1, n.2.2.2.1, n.2.2.2.2.1, n.2.2.2.2.2.1, ()), (s.1, s.2.1, s.2.2.1, ()), (t.1, t.2.1, t.2.2.1, ()), i, e, 0, ())) := by
  have hcp : z25 k ((s.1, s.2.1, s.2.2.1, ()), ()) = some ((s, ()), ((), ())) := copy_is k hk hs hd
  have ew := wrap_succ (i := cur) (by omega)
  have hvar := hn.var
  have hflag := hn.flag
  have harr := hn.arr
  have hends := hn.ends
  have n0 := hs.n0
  have n1 := hs.n1
  have n2 := hs.n2
  obtain ⟨kd, v, I, E, lo, hi, ⟨⟩⟩ := n
  have hk14 := hn.kind
  simp only at hk14 hvar hflag harr hends h3 hE
  rcases kind_cases kd with rfl | rfl | rfl | rfl | rfl | rfl | rfl | rfl | rfl | rfl | rfl | rfl | rfl | rfl | hkk
  case inr.inr.inr.inr.inr.inr.inr.inr.inr.inr.inr.inr.inr.inr => omega
  all_goals (simp only [z11.h8, z11.h28, z11.h30, jn_eq, hcp, bd_some, br_beq, br_dec, Int.reduceEq, ↓reduceIte, Int.reduceBNe, Int.reduceBEq, br_true, br_false, Option.bind_some, bne_self_eq_false, ew])
  · obtain ⟨v0, v1⟩ := hvar (by omega)
    have vl : v.toNat < s.1.length := by omega
    have c2 : 0 ≤ v ∧ v < (s.1.length : Int) := by omega
    have hE := hE (by decide)
    simp only [if_pos c2, List.getElem?_eq_getElem vl, bd_some, SpecR, stepV, wantE, hE]
    simp
  · obtain ⟨v0, v1⟩ := hflag rfl
    have vl : v.toNat < s.2.1.length := by omega
    have c2 : 0 ≤ v ∧ v < (s.2.1.length : Int) := by omega
    have hE := hE (by decide)
    simp only [if_pos c2, List.getElem?_eq_getElem vl, bd_some, SpecR, stepV, wantE, hE]
    simp
  · obtain ⟨⟨v0, v1⟩, _⟩ := harr rfl
    have vl : v.toNat < s.2.2.1.length := by omega
    have c2 : 0 ≤ v ∧ v < (s.2.2.1.length : Int) := by omega
    have hE := hE (by decide)
    have h3 := h3 rfl
    have hm := hs.m2 _ (List.getElem_mem vl)
    have er : rowV s v = s.2.2.1[v.toNat] := by unfold rowV; exact getD_get vl _
    simp only [if_pos v0, if_pos c2, List.getElem?_eq_getElem vl, bd_some, l1In_is]
    rw [wrap_i64 (n := ((s.2.2.1[v.toNat]).length : Int) - 1) (by omega) (by omega)]
    by_cases hr : 0 ≤ i ∧ i ≤ ((s.2.2.1[v.toNat]).length : Int) - 1
    · have q : 0 ≤ i ∧ i < ((s.2.2.1[v.toNat]).length : Int) := by omega
      have q2 : i.toNat < (s.2.2.1[v.toNat]).length := by omega
      simp only [decide_eq_true hr, Bool.not_true, br_false, if_pos q, List.getElem?_eq_getElem q2, bd_some, SpecR, stepV, h3, hE, er]
      simp [hr]
    · simp only [decide_eq_false hr, Bool.not_false, br_true, SpecR, stepV, h3, hE, er]
      simp [hr]
  · obtain ⟨v0, v1⟩ := hvar (by omega)
    have vl : v.toNat < s.1.length := by omega
    have c2 : 0 ≤ v ∧ v < (s.1.length : Int) := by omega
    have hi' := specInput_is k (4, v, I, E, lo, hi, ()) (hends rfl) inp hinp h0
    simp only [hi', if_pos c2, List.getElem?_eq_getElem vl, bd_some, SpecR, stepV, wantE]
    simp
  · have hE := hE (by decide)
    by_cases hz : e = 1 <;> simp [SpecR, stepV, wantE, hE, hz]
  · have hE := hE (by decide)
    by_cases hz : e = 1 <;> simp [SpecR, stepV, wantE, hE, hz]
  · simp [SpecR, stepV, wantE]
  · simp [SpecR, stepV, wantE]
  · have hE := hE (by decide)
    by_cases hz : e = 1 <;> simp [SpecR, stepV, wantE, hE, hz]
  · have hE := hE (by decide)
    by_cases hz : e = 1 <;> simp [SpecR, stepV, wantE, hE, hz]
  · have hE := hE (by decide)
    by_cases hz : e = 0 <;> simp [SpecR, stepV, wantE, hE, hz]
  · have hE := hE (by decide)
    by_cases hz : e = 0 <;> simp [SpecR, stepV, wantE, hE, hz]
  · simp [SpecR, stepV, wantE]
  · simp [SpecR, stepV, wantE]
theorem h6_is (k : Nat) (hk : 4194304 < k) {d : DeclT} (hd : d.1.length ≤ 1000 ∧ d.2.1.length ≤ 1000 ∧ d.2.2.1.length ≤ 1000) {n : LineT} (hn : LineV d n) (inp : List Int) (hinp : inp.length ≤ 1000) (nx : Int) (cur : Nat) (hcur : cur < 1000) {used : Int} (h0 : 0 ≤ used) {s : StoreT} (hs : SOk d s) (t : StoreT) (i : Int)
    (h3 : n.1 = 3 → evalV s [] n.2.2.1 = (i, 0)) :
    SpecR (stepV n inp nx cur used s) (z11.h6 k (nx, (cur : Int), inp, used, (n.1, n.2.1, n.2.2.1, n.2.2.2.1, n.2.2.2.2.1, n.2.2.2.2.2.1, ()), (s.1, s.2.1, s.2.2.1, ()), (t.1, t.2.1, t.2.2.1, ()), i, 0, 0, ())) := by
  have hs' : ((s.1, s.2.1, s.2.2.1, ()) : StoreT) = s := rfl
  simp only [z11.h6, jn_eq, nil_gt, beq_self_eq_true]
  by_cases hw : wantE n.1 > 0
  · have hx := hn.ex hw
    have eE : z10 k (n.2.2.2.1, (s.1, s.2.1, s.2.2.1, ()), ()) = _ := (eval_both k hk hs n.2.2.2.1 hx).1
    simp only [expr_some hx, Bool.not_false, br_true, Option.bind_some, eE, bd_some]
    by_cases hc : (evalV s [] n.2.2.2.1).2 = 0
    · rw [hc]
      exact h8_good k hk hd hn inp hinp nx cur hcur h0 hs t i _ h3 (fun _ => Prod.ext rfl hc)
    · refine SpecR.to (h8_bad k nx cur inp used n s t i _ _ hc) ?_
      unfold stepV
      by_cases h3' : n.1 = 3
      · rw [if_pos h3', h3 h3', if_neg (by simp), if_pos hc]
      · rw [if_neg h3', if_pos ⟨hw, hc⟩]
  · simp only [hn.noE hw, Bool.not_true, br_false, Option.bind_some]
    exact h8_good k hk hd hn inp hinp nx cur hcur h0 hs t i _ h3 (fun h => absurd h hw)
theorem specStep_is (k : Nat) (hk : 4194304 < k) {d : DeclT} (hd : d.1.length ≤ 1000 ∧ d.2.1.length ≤ 1000 ∧ d.2.2.1.length ≤ 1000) {n : LineT} (hn : LineV d n) (p : ProgT) (inp : List Int) (hinp : inp.length ≤ 1000) (nx : Int) (cur : Nat) (hcur : cur < 1000) {used : Int} (h0 : 0 ≤ used) {s : StoreT} (hs : SOk d s) :
    SpecR (stepV n inp nx cur used s) (z11 k (p, nx, n, (cur : Int), s, inp, used, ())) := by
  have hs' : ((s.1, s.2.1, s.2.2.1, ()) : StoreT) = s := rfl
  unfold z11
  simp only [nil_gt, jn_eq]
  by_cases h3 : n.1 = 3
  · obtain ⟨_, hx⟩ := hn.arr h3
    have eI : z10 k (n.2.2.1, s, ()) = _ := (eval_both k hk hs n.2.2.1 hx).1
    simp only [expr_some hx, Bool.not_false, br_true, eI, bd_some]
    by_cases hc : (evalV s [] n.2.2.1).2 = 0
    · rw [hc]
      exact h6_is k hk hd hn inp hinp nx cur hcur h0 hs ([], [], [], ()) _ (fun _ => Prod.ext rfl hc)
    · have b : ((evalV s [] n.2.2.1).2 == 0) = false := by simpa using hc
      have hxE := hn.ex (by rw [h3]; decide)
      simp only [z11.h6, jn_eq, nil_gt, expr_some hxE, Bool.not_false, br_true, Option.bind_some, b, br_false]
      refine SpecR.to (h8_bad k nx cur inp used n s ([], [], [], ()) _ 0 _ hc) ?_
      unfold stepV
      rw [if_pos h3, if_pos hc]
  · simp only [hn.noI h3, Bool.not_true, br_false]
    exact h6_is k hk hd hn inp hinp nx cur hcur h0 hs ([], [], [], ()) _ (fun h => absurd h h3)
end Go.Pev.F
end

section
/-
  Runs, in plain words; what they keep.
-/
namespace Go.Pev.F
abbrev OutT : Type := Int × Int × List Int × List Bool × List (List Int) × Int × Int × Unit
def outS (o : OutT) : StoreT := (o.2.2.1, o.2.2.2.1, o.2.2.2.2.1, ())
structure RunAt (d : DeclT) (L : List LineT) (T inp : List Int) (ln used : Int) (s : StoreT) : Prop where
  l30 : L.length ≤ 30
  lines : ∀ n ∈ L, LineV d n
  tlen : T.length = L.length
  tb : ∀ x ∈ T, 0 ≤ x ∧ x ≤ (L.length : Int)
  i1000 : inp.length ≤ 1000
  lnb : 0 ≤ ln ∧ ln ≤ (L.length : Int)
  use : 0 ≤ used ∧ used ≤ inp.length
  st : SOk d s
theorem RunAt.line {d : DeclT} {L : List LineT} {T inp : List Int} {ln used : Int} {s : StoreT} (h : RunAt d L T inp ln used s) (hl : ln < (L.length : Int)) : L[ln.toNat]? = some (L.getD ln.toNat lineD) ∧ T[ln.toNat]? = some (T.getD ln.toNat 0) ∧ L.getD ln.toNat lineD ∈ L ∧ T.getD ln.toNat 0 ∈ T := by
  have h0 := h.lnb
  have ht := h.tlen
  have a : ln.toNat < L.length := by omega
  have b : ln.toNat < T.length := by omega
  rw [getD_get a, getD_get b]
  exact ⟨List.getElem?_eq_getElem a, List.getElem?_eq_getElem b, List.getElem_mem a, List.getElem_mem b⟩
theorem RunAt.step {d : DeclT} {L : List LineT} {T inp : List Int} {ln used : Int} {s : StoreT} (h : RunAt d L T inp ln used s) (hl : ln < (L.length : Int)) : StepOk d (L.getD ln.toNat lineD) inp (T.getD ln.toNat 0) ln used s (stepV (L.getD ln.toNat lineD) inp (T.getD ln.toNat 0) ln used s) := by
  obtain ⟨_, _, h1, h2⟩ := h.line hl
  exact step_ok (h.lines _ h1) inp _ ln h.use.1 h.use.2 h.st
theorem RunAt.next {d : DeclT} {L : List LineT} {T inp : List Int} {ln used : Int} {s : StoreT} (h : RunAt d L T inp ln used s) (hl : ln < (L.length : Int)) : RunAt d L T inp (stepV (L.getD ln.toNat lineD) inp (T.getD ln.toNat 0) ln used s).1 (stepV (L.getD ln.toNat lineD) inp (T.getD ln.toNat 0) ln used s).2.2.1 (stepV (L.getD ln.toNat lineD) inp (T.getD ln.toNat 0) ln used s).2.1 := by
  have hq := h.step hl
  have h0 := h.lnb
  have hu := h.use
  have q1 := hq.use
  refine ⟨h.l30, h.lines, h.tlen, h.tb, h.i1000, ?_, by omega, hq.st⟩
  by_cases hc : (stepV (L.getD ln.toNat lineD) inp (T.getD ln.toNat 0) ln used s).2.2.2 = 0
  · rcases hq.go hc with e | e
    · rw [e]; exact h.tb _ (h.line hl).2.2.2
    · rw [e]; omega
  · rw [hq.stay hc]; exact h0
structure RunOk (d : DeclT) (L : List LineT) (inp : List Int) (r : Nat) (steps used : Int) (s : StoreT) (o : OutT) : Prop where
  ln : 0 ≤ o.2.1 ∧ o.2.1 ≤ (L.length : Int)
  done : o.1 = 0 ↔ o.2.1 = (L.length : Int)
  code : o.1 ≠ 1 ∧ (o.1 = 7 → (L.getD o.2.1.toNat lineD).1 = 11) ∧ (o.1 = 3 → (L.getD o.2.1.toNat lineD).1 = 12)
  stb : steps ≤ o.2.2.2.2.2.1 ∧ o.2.2.2.2.2.1 ≤ steps + r
  out : o.1 = 2 → o.2.2.2.2.2.1 = steps + r
  use : used ≤ o.2.2.2.2.2.2.1 ∧ o.2.2.2.2.2.2.1 ≤ inp.length
  st : SOk d (outS o)
  lens : (outS o).2.2.1.map List.length = s.2.2.1.map List.length
end Go.Pev.F
end

section
/-
  Runs: both programs come to the same.
-/
namespace Go.Pev.F
theorem newS_ok {d : DeclT} (h : declOk d = true) : SOk d (newS d) := by
  have ha := newS_any h
  exact ⟨by simp [newS], by simp [newS], by simp [newS], fun x hx => ha.f0 x hx, fun r hr x hx => ha.f2 r hr x hx, fun r hr => by have := ha.m2 r hr; omega⟩
theorem specNew_is (k : Nat) (hk : 4194304 < k) {d : DeclT} (hd : DSmall d) (hdo : declOk d = true) : z60 k (d, ()) = some ((newS d, ()), ((), ())) := by
  obtain ⟨⟨y, ⟨⟨⟩, ⟨⟩⟩⟩, e, h⟩ := t_storeNew k hk hd
  rw [e]
  rw [hdo, cond_true] at h
  obtain ⟨y, ⟨⟩⟩ := y
  simp only at h
  rw [h]
def NewJI (d : DeclT) (x : StoreT × StoreT × List ArrT × Int × Int × Unit) : Prop := x.2.2.1 = d.2.2.1 ∧ x.2.2.2.1 = d.2.2.1.length ∧ 0 ≤ x.2.2.2.2.1 ∧ x.2.2.2.2.1 ≤ d.2.2.1.length ∧ x.2.1 = (List.replicate d.1.length (0 : Int), List.replicate d.2.1.length false, (d.2.2.1.take x.2.2.2.2.1.toNat).map fun a => List.replicate a.2.1.toNat (0 : Int), ())
theorem implNew_tot (k : Nat) (hk : 4194304 < k) {d : DeclT} (hdo : declOk d = true) : Tot (z69 k (d, ())) fun y => y.1.1 = newS d := by
  unfold z69
  obtain ⟨⟨h0, h1, h2⟩, h3⟩ := decl_arrs hdo
  refine Tot.chk (by simp only [maxBytes]; omega) (Tot.chk (by simp only [maxBytes]; omega) ?_)
  refine Tot.loop (NewJI d) (fun x => ((d.2.2.1.length : Int) - x.2.2.2.2.1).toNat) ?_ k (([], [], [], ()), (List.replicate (d.1.length : Int).toNat (Kd.z (.int .i64)), List.replicate (d.2.1.length : Int).toNat (Kd.z .bool), [], ()), d.2.2.1, (d.2.2.1.length : Int), 0, ()) ⟨rfl, rfl, Int.le_refl _, Int.natCast_nonneg _, rfl⟩ (by simp only; omega)
  rintro G ⟨⟨t0, t1, t2, ⟨⟩⟩, ⟨s0, s1, s2, ⟨⟩⟩, l, m, i, ⟨⟩⟩ ⟨rfl, rfl, h4, h5, h6⟩ hG
  simp only at h0 h1 h2 h3 h4 h5 h6
  simp only [Prod.mk.injEq] at h6
  obtain ⟨rfl, rfl, rfl, _⟩ := h6
  simp only [z69.l0]
  refine Tot.dec (fun hlt => Tot.chk h4 (Tot.get (by omega) fun x2 hx2 e2 => ?_)) fun hlt => Tot.ret ?_
  · have hb := h3 x2 hx2
    refine Tot.chk (by simp only [maxBytes]; omega) (Tot.chk (by simp only [List.length_map, List.length_take, List.length_cons, List.length_nil, maxBytes]; omega) ?_)
    rw [wrap_i64 (n := i + 1) (by omega) (by omega)]
    refine hG _ ⟨rfl, rfl, ?_, ?_, ?_⟩ (by simp only; omega)
    · simp only; omega
    · simp only; omega
    · have e1 : (i + 1).toNat = i.toNat + 1 := by omega
      obtain ⟨q, r⟩ := List.getElem?_eq_some_iff.1 e2
      simp only [e1]
      rw [← List.take_append_getElem q, List.map_append, r]
      rfl
  · simp only [newS]
    rw [List.take_of_length_le (by omega)]
theorem implNew_is (k : Nat) (hk : 4194304 < k) {d : DeclT} (hdo : declOk d = true) : z69 k (d, ()) = some ((newS d, ()), ((), ())) := by
  obtain ⟨⟨y, ⟨⟨⟩, ⟨⟩⟩⟩, e, h⟩ := implNew_tot k hk hdo
  rw [e]
  obtain ⟨y, ⟨⟩⟩ := y
  simp only at h
  rw [h]
def formOk (p : ProgT) (inp : List Int) (fuel : Int) : Bool := progOk p && (decide (0 ≤ fuel ∧ fuel ≤ 2000) && decide (inp.length ≤ 1000))
theorem formI_is (k : Nat) (hk : 4194304 < k) (hk2 : k ≤ 4611686018427387903) (p : ProgT) (hp : PSmall p) (inp : List Int) (fuel : Int) : z155 k (p, inp, fuel, ()) = some ((formOk p inp fuel, ()), ((), (), (), ())) := by
  unfold z155 formOk
  simp only [implProgOk_is k hk hk2 p hp, within_is, bd_some]
  cases progOk p with
  | false => simp
  | true =>
    have e : decide ((inp.length : Int) ≤ 1000) = decide (inp.length ≤ 1000) := decide_eq_decide.2 (by omega)
    cases decide (0 ≤ fuel ∧ fuel ≤ 2000) <;> simp [e]
theorem formS_is (k : Nat) (hk : 4194304 < k) (hk2 : k ≤ 4611686018427387903) (p : ProgT) (hp : PSmall p) (inp : List Int) (fuel : Int) : z140 k (p, inp, fuel, ()) = some ((formOk p inp fuel, ()), ((), (), (), ())) := by
  unfold z140 formOk
  simp only [specProgOk_is k hk hk2 p hp, l1In_is, bd_some]
  cases progOk p with
  | false => simp
  | true =>
    have e : decide ((inp.length : Int) ≤ 1000) = decide (inp.length ≤ 1000) := decide_eq_decide.2 (by omega)
    cases decide (0 ≤ fuel ∧ fuel ≤ 2000) <;> simp [e]
theorem runAt_new {p : ProgT} {inp : List Int} {fuel : Int} (h : formOk p inp fuel = true) : RunAt (declOf p) p.2.2.2.1 (targetsOf p.2.2.2.1) inp 0 0 (newS (declOf p)) := by
  simp only [formOk, Bool.and_eq_true, decide_eq_true_eq] at h
  obtain ⟨h1, h2, h3⟩ := h
  obtain ⟨a1, a2, a3, a4⟩ := progOk_parts h1
  obtain ⟨t1, t2⟩ := targetsOf_ok p.2.2.2.1 a2
  exact ⟨a2, fun n hn => line_ok (a3 n hn), t1, t2, h3, by omega, by omega, newS_ok a1⟩
end Go.Pev.F
end

section
/-
  Traces, in plain words; what they tell of runs.
-/
namespace Go.Pev.F
abbrev SnpT : Type := Int × List EntT × List Int × List Bool × List (List Int) × Unit
def snapV (ln : Int) (tok : List EntT) (s : StoreT) : SnpT := (ln, tok, s.1, s.2.1, s.2.2.1, ())
def snapS (x : SnpT) : StoreT := (x.2.2.1, x.2.2.2.1, x.2.2.2.2.1, ())
def traceV (L : List LineT) (T inp : List Int) : Nat → Int → StoreT → Int → List EntT → List SnpT
  | 0, ln, s, used, tok => [snapV ln tok s]
  | r + 1, ln, s, used, tok =>
    if ln < (L.length : Int) then
      snapV ln tok s :: (if (stepV (L.getD ln.toNat lineD) inp (T.getD ln.toNat 0) ln used s).2.2.2 ≠ 0 then []
        else traceV L T inp r (stepV (L.getD ln.toNat lineD) inp (T.getD ln.toNat 0) ln used s).1 (stepV (L.getD ln.toNat lineD) inp (T.getD ln.toNat 0) ln used s).2.1 (stepV (L.getD ln.toNat lineD) inp (T.getD ln.toNat 0) ln used s).2.2.1 (tokV tok ln (L.getD ln.toNat lineD) s 0))
    else [snapV ln tok s]
theorem trace_len (L : List LineT) (T inp : List Int) : ∀ (r : Nat) (ln : Int) (s : StoreT) (used : Int) (tok : List EntT), (traceV L T inp r ln s used tok).length ≤ r + 1
  | 0, ln, s, used, tok => by simp [traceV]
  | r + 1, ln, s, used, tok => by
    unfold traceV
    split
    · split
      · simp
      · have := trace_len L T inp r (stepV (L.getD ln.toNat lineD) inp (T.getD ln.toNat 0) ln used s).1 (stepV (L.getD ln.toNat lineD) inp (T.getD ln.toNat 0) ln used s).2.1 (stepV (L.getD ln.toNat lineD) inp (T.getD ln.toNat 0) ln used s).2.2.1 (tokV tok ln (L.getD ln.toNat lineD) s 0)
        simp only [List.length_cons]
        omega
    · simp
theorem tokV_ok {tok : List EntT} (ht : TokP tok) (ln : Int) (n : LineT) (s : StoreT) (c : Int) : TokP (tokV tok ln n s c) := by
  unfold tokV
  split
  · exact markV_ok ht _ _ _
  · exact ht
def SnapOk (d : DeclT) (S : List Nat) (x : SnpT) : Prop := x.2.1.length ≤ 3 ∧ SOk d (snapS x) ∧ (snapS x).2.2.1.map List.length = S
theorem trace_ok {d : DeclT} {L : List LineT} {T inp : List Int} (S : List Nat) : ∀ (r : Nat) (ln : Int) (s : StoreT) (used : Int) (tok : List EntT), RunAt d L T inp ln used s → TokP tok → s.2.2.1.map List.length = S → ∀ x ∈ traceV L T inp r ln s used tok, SnapOk d S x
  | 0, ln, s, used, tok, h, ht, hS, x, hx => by
    simp only [traceV, List.mem_singleton] at hx
    subst hx
    exact ⟨tokP_len ht, h.st, hS⟩
  | r + 1, ln, s, used, tok, h, ht, hS, x, hx => by
    unfold traceV at hx
    have one : SnapOk d S (snapV ln tok s) := ⟨tokP_len ht, h.st, hS⟩
    split at hx
    · rename_i hl
      rcases List.mem_cons.1 hx with rfl | hx
      · exact one
      · split at hx
        · cases hx
        · exact trace_ok S r _ _ _ _ (h.next hl) (tokV_ok ht _ _ _ _) ((h.step hl).lens.trans hS) x hx
    · rw [List.mem_singleton.1 hx]; exact one
def traceOf (p : ProgT) (inp : List Int) (fuel : Int) : List SnpT := if formOk p inp fuel = true then traceV p.2.2.2.1 (targetsOf p.2.2.2.1) inp fuel.toNat 0 (newS (declOf p)) 0 [] else []
end Go.Pev.F
end

section
/-
  Traces: the program's.
-/
namespace Go.Pev.F
theorem cloneI_is (k : Nat) (l : List Int) (h : l.length ≤ 1048576) : z130 k (l, ()) = some ((l, ()), ((), ())) := by
  unfold z130
  have hm : (([] : List Int).length + l.length) * 8 ≤ maxBytes := by simp only [List.length_nil, maxBytes]; omega
  cases l with
  | nil => simp [maxBytes]
  | cons x r => simp only [List.isEmpty_cons, br_false, br_dec, if_pos hm, List.nil_append]
theorem cloneB_is (k : Nat) (l : List Bool) (h : l.length ≤ 1048576) : z167 k (l, ()) = some ((l, ()), ((), ())) := by
  unfold z167
  have hm : (([] : List Bool).length + l.length) * 1 ≤ maxBytes := by simp only [List.length_nil, maxBytes]; omega
  cases l with
  | nil => simp [maxBytes]
  | cons x r => simp only [List.isEmpty_cons, br_false, br_dec, if_pos hm, List.nil_append]
theorem own_is (k : Nat) (hk : 4194304 < k) {d : DeclT} {s : StoreT} (hs : SOk d s) (hd : d.1.length ≤ 1000 ∧ d.2.1.length ≤ 1000 ∧ d.2.2.1.length ≤ 1000) : z37 k (s, ()) = some ((s, ()), ((), ())) := by
  obtain ⟨s0, s1, s2, ⟨⟩⟩ := s
  have n0 := hs.n0
  have n1 := hs.n1
  have n2 := hs.n2
  have m2 := hs.m2
  simp only at n0 n1 n2 m2
  have gen : ∀ (n i f : Nat), i + n = s2.length → n < f → iter (z37.l0 k) f (([], [], ([] : List (List Int)), ()), (s0, s1, s2.take i, ()), s2, (s2.length : Int), (i : Int), ()) = some (((s0, s1, s2, ()), ()), ((), ())) := by
    intro n
    induction n with
    | zero =>
      intro i f hi hf
      obtain ⟨f, rfl⟩ : ∃ g, f = g + 1 := ⟨f - 1, by omega⟩
      have h2 : ¬ ((i : Int) < (s2.length : Int)) := by omega
      rw [iter_succ]
      simp only [z37.l0, br_dec, if_neg h2]
      rw [List.take_of_length_le (by omega)]
    | succ n ih =>
      intro i f hi hf
      obtain ⟨f, rfl⟩ : ∃ g, f = g + 1 := ⟨f - 1, by omega⟩
      have hlt : i < s2.length := by omega
      have h2 : ((i : Int) < (s2.length : Int)) := by omega
      have h3 : (0 : Int) ≤ (i : Int) := by omega
      have hm := m2 _ (List.getElem_mem hlt)
      have c3 : ((s2.take i).length + ([s2[i]] : List (List Int)).length) * 24 ≤ maxBytes := by simp only [List.length_take, List.length_cons, List.length_nil, maxBytes]; omega
      rw [iter_succ]
      simp only [z37.l0, br_dec, if_pos h2, if_pos h3, Int.toNat_natCast, List.getElem?_eq_getElem hlt, bd_some, cloneI_is k _ hm, if_pos c3]
      rw [wrap_succ (by omega), List.take_append_getElem hlt]
      exact ih (i + 1) f (by omega) (by omega)
  unfold z37
  simp only [cloneI_is k s0 (by omega), cloneB_is k s1 (by omega), bd_some]
  exact gen s2.length 0 k (by omega) (by omega)
theorem implTrace_loop (k : Nat) (hk : 4194304 < k) {d : DeclT} (hd : d.1.length ≤ 1000 ∧ d.2.1.length ≤ 1000 ∧ d.2.2.1.length ≤ 1000) (m0 m1 : Names) (m2 : List ArrT) (L : List LineT) (T inp : List Int) (fuel : Int) (hf : fuel ≤ 2000) : ∀ (r f : Nat) (ln : Int) (s : StoreT) (steps used : Int) (tok : List EntT) (out : List SnpT), RunAt d L T inp ln used s → TokP tok → r < f → steps + r = fuel → 0 ≤ steps → out.length + r ≤ 2000 →
    ∃ m', iter (z50.l0 k) f ((), fuel, ((out, ()), ((m0, m1, m2, L, T, inp, 0, ln, s.1, s.2.1, s.2.2.1, steps, used, tok, ()), ()), ()), ()) = some ((()), ((), (), ((out ++ traceV L T inp r ln s used tok, ()), (m', ()), ()), ())) := by
  have snap : ∀ (s : StoreT) (tok : List EntT), SOk d s → TokP tok → z71 k (tok, ()) = some ((tok, ()), ((), ())) ∧ z37 k ((s.1, s.2.1, s.2.2.1, ()), ()) = some ((s, ()), ((), ())) := fun s tok hs ht => ⟨cloneE_is k tok (tokP_len ht), own_is k hk hs hd⟩
  have mb : ∀ (out : List SnpT) (x : SnpT), out.length ≤ 2000 → (out.length + ([x] : List SnpT).length) * 104 ≤ maxBytes := fun out x h => by simp only [List.length_cons, List.length_nil, maxBytes]; omega
  intro r
  induction r with
  | zero =>
    intro f ln s steps used tok out h ht hf' hs h0 hn
    obtain ⟨f, rfl⟩ : ∃ g, f = g + 1 := ⟨f - 1, by omega⟩
    have he : (steps == fuel) = true := by simp; omega
    obtain ⟨q1, q2⟩ := snap s tok h.st ht
    rw [iter_succ]
    by_cases hl : ln < (L.length : Int)
    · simp only [z50.l0, z104, bd_some, br_dec, if_pos hl, he, br_true, q1, q2, if_pos (mb out _ (by omega)), traceV, snapV]
      exact ⟨_, rfl⟩
    · simp only [z50.l0, z104, bd_some, br_dec, if_neg hl, q1, q2, if_pos (mb out _ (by omega)), traceV, snapV]
      exact ⟨_, rfl⟩
  | succ r ih =>
    intro f ln s steps used tok out h ht hf' hs h0 hn
    obtain ⟨f, rfl⟩ : ∃ g, f = g + 1 := ⟨f - 1, by omega⟩
    have he : (steps == fuel) = false := by simp; omega
    obtain ⟨q1, q2⟩ := snap s tok h.st ht
    rw [iter_succ]
    by_cases hl : ln < (L.length : Int)
    · have hb := h.lnb
      have htl := h.tlen
      obtain ⟨l1, l2, l3, l4⟩ := h.line hl
      obtain ⟨i, rfl⟩ : ∃ i : Nat, ln = (i : Int) := ⟨ln.toNat, by omega⟩
      have h30 := h.l30
      have ws : IntKind.wrap .i64 (steps + 1) = steps + 1 := wrap_i64 (by omega) (by omega)
      have hst := implStep_is k hk (d := d) ⟨m0, m1, m2, L, T, inp, 0, steps + 1⟩ i l1 (h.lines _ l3) (T.getD (i : Int).toNat 0) l2 (by omega) h.st h.use.1 h.use.2 h.i1000 ht
      unfold Comes Fix.m at hst
      simp only at hst
      have hnx := h.next hl
      simp only [z50.l0, z104, bd_some, br_dec, if_pos hl, he, br_false, ws, hst, q1, q2, if_pos (mb out _ (by omega)), traceV, snapV]
      by_cases hc : (stepV (L.getD (i : Int).toNat lineD) inp (T.getD (i : Int).toNat 0) (i : Int) used s).2.2.2 ≠ 0
      · have b : ((stepV (L.getD (i : Int).toNat lineD) inp (T.getD (i : Int).toNat 0) (i : Int) used s).2.2.2 != 0) = true := by simpa using hc
        simp only [b, br_true, if_pos hc]
        exact ⟨_, rfl⟩
      · have b : ((stepV (L.getD (i : Int).toNat lineD) inp (T.getD (i : Int).toNat 0) (i : Int) used s).2.2.2 != 0) = false := by simpa using hc
        have c0 : (stepV (L.getD (i : Int).toNat lineD) inp (T.getD (i : Int).toNat 0) (i : Int) used s).2.2.2 = 0 := by omega
        simp only [b, br_false, if_neg hc]
        rw [c0]
        have ih' := ih f _ _ (steps + 1) _ (tokV tok (i : Int) (L.getD (i : Int).toNat lineD) s 0) (out ++ [((i : Int), tok, s.1, s.2.1, s.2.2.1, ())]) hnx (tokV_ok ht _ _ _ _) (by omega) (by omega) (by omega) (by simp; omega)
        rw [List.append_assoc] at ih'
        exact ih'
    · simp only [z50.l0, z104, bd_some, br_dec, if_neg hl, q1, q2, if_pos (mb out _ (by omega)), traceV, snapV]
      exact ⟨_, rfl⟩
theorem implTrace_is (k : Nat) (hk : 4194304 < k) (hk2 : k ≤ 4611686018427387903) (p : ProgT) (hp : PSmall p) (inp : List Int) (fuel : Int) : z106 k (p, inp, fuel, ()) = some ((traceOf p inp fuel, ()), ((), (), (), ())) := by
  unfold z106 traceOf
  simp only [formI_is k hk hk2 p hp, bd_some]
  cases hf : formOk p inp fuel with
  | false => simp
  | true =>
    have hA := runAt_new hf
    simp only [formOk, Bool.and_eq_true, decide_eq_true_eq] at hf
    obtain ⟨h1, h2, h3⟩ := hf
    have hdo := (progOk_parts h1).1
    obtain ⟨⟨d0, d1, d2⟩, _⟩ := decl_arrs hdo
    have eN : z69 k ((p.1, p.2.1, p.2.2.1, ()), ()) = some ((newS (declOf p), ()), ((), ())) := implNew_is k hk hdo
    obtain ⟨m', hl⟩ := implTrace_loop k hk (d := declOf p) ⟨by omega, by omega, by omega⟩ p.1 p.2.1 p.2.2.1 p.2.2.2.1 (targetsOf p.2.2.2.1) inp fuel h2.2 fuel.toNat k 0 (newS (declOf p)) 0 0 [] [] hA rfl (by omega) (by omega) (by omega) (by simp; omega)
    have hl' : z50 k ((), fuel, (([], ()), ((p.1, p.2.1, p.2.2.1, p.2.2.2.1, targetsOf p.2.2.2.1, inp, 0, 0, (newS (declOf p)).1, (newS (declOf p)).2.1, (newS (declOf p)).2.2.1, 0, 0, [], ()), ()), ()), ()) = _ := hl
    simp only [z180, Bool.not_true, br_false, implTargets_is k hk p h1, eN, bd_some, if_true, hl']
    rfl
end Go.Pev.F
end

section
/-
  Tokens: which are right, and their order: the reference's and the program's agree.
-/
namespace Go.Pev.F
theorem specTokenOk_is (k : Nat) (hk : 4194304 < k) (t : List EntT) : z52 k (t, ()) = some ((tokenOk t, ()), ((), ())) := by
  unfold z52 tokenOk
  simp only [br_dec]
  by_cases hc : (t.length : Int) > 3
  · have : decide (t.length ≤ 3) = false := by simp; omega
    rw [if_pos hc, this]; rfl
  · have hc' : t.length ≤ 3 := by omega
    rw [if_neg hc, decide_eq_true hc', Bool.true_and]
    have h := iter_any (b := z52.l0 k) (fun i => (t, (i : Int), ())) t (fun e => !entOk e) (rf := some ((false, ()), ((), ()))) (r := some ((true, ()), ((), ()))) (fun G i hi => by
      have h2 : ((i : Int) < (t.length : Int)) := by omega
      have h3 : (0 : Int) ≤ (i : Int) := by omega
      simp only [z52.l0, br_dec, if_pos h2, if_pos h3, Int.toNat_natCast, List.getElem?_eq_getElem hi, bd_some, l1In_is]
      rw [wrap_succ (by omega), entOk]
      cases decide (0 ≤ t[i].1 ∧ t[i].1 ≤ 29) <;> cases decide (0 ≤ t[i].2.1 ∧ t[i].2.1 ≤ 4) <;> simp) (fun G => by
      have h2 : ¬ ((t.length : Int) < (t.length : Int)) := by omega
      simp only [z52.l0, br_dec, if_neg h2]) (f := k) (by omega)
    refine Eq.trans h ?_
    rw [all_any]
    cases t.all entOk <;> rfl
end Go.Pev.F
end

section
/-
  Traces: the reference's.
-/
namespace Go.Pev.F
theorem specWith_is (k : Nat) (hk : 4194304 < k) (t : List EntT) (line pick : Int) : z102 k (t, line, pick, ()) = some ((withV t line pick, ()), ((), (), (), ())) := by
  unfold z102 withV
  simp only [specTokenOk_is k hk, bd_some]
  cases h1 : tokenOk t with
  | false => simp
  | true =>
    have hl := tokP_len (t := t) h1
    cases h2 : tokenOk [(line, pick, ())] with
    | false => simp
    | true =>
      have hm0 : (([] : List EntT).length + t.length) * 16 ≤ maxBytes := by simp only [List.length_nil, maxBytes]; omega
      have hm : (t.length + ([(line, pick, ())] : List EntT).length) * 16 ≤ maxBytes := by simp only [List.length_cons, List.length_nil, maxBytes]; omega
      simp only [Bool.not_true, br_false, br_dec, and_self, if_true, if_pos hm0, List.nil_append, if_pos hm]
      by_cases h3 : t.length < 3
      · rw [if_pos (show (t.length : Int) < 3 by omega), if_pos h3]
      · rw [if_neg (show ¬ (t.length : Int) < 3 by omega), if_neg h3]
theorem specCount_is (k : Nat) (hk : 4194304 < k) (t : List EntT) (ht : t.length ≤ 3) (line : Int) : z91 k (t, line, ()) = some (((countV line t : Int), ()), ((), (), ())) := by
  have gen : ∀ (n i f c : Nat), i + n = t.length → n < f → c ≤ i → iter (z91.l0 k) f (t, line, (c : Int), (i : Int), ()) = some ((((c + countV line (t.drop i) : Nat) : Int), ()), ((), (), ())) := by
    intro n
    induction n with
    | zero =>
      intro i f c hi hf hc
      obtain ⟨f, rfl⟩ : ∃ g, f = g + 1 := ⟨f - 1, by omega⟩
      have h2 : ¬ ((i : Int) < (t.length : Int)) := by omega
      rw [iter_succ, List.drop_of_length_le (by omega)]
      simp only [z91.l0, br_dec, if_neg h2, countV, List.filter_nil, List.length_nil, Nat.add_zero]
    | succ n ih =>
      intro i f c hi hf hc
      obtain ⟨f, rfl⟩ : ∃ g, f = g + 1 := ⟨f - 1, by omega⟩
      have hlt : i < t.length := by omega
      have h2 : ((i : Int) < (t.length : Int)) := by omega
      have h3 : (0 : Int) ≤ (i : Int) := by omega
      rw [iter_succ, List.drop_eq_getElem_cons hlt]
      simp only [z91.l0, br_dec, if_pos h2, if_pos h3, Int.toNat_natCast, List.getElem?_eq_getElem hlt, bd_some, one_is]
      rw [wrap_succ (by omega)]
      cases he : (t[i].1 == line) with
      | true =>
        have ew : IntKind.wrap .i64 ((c : Int) + b2i true) = ((c + 1 : Nat) : Int) := by simp only [b2i, cond_true]; exact wrap_succ (by omega)
        rw [ew, ih (i + 1) f (c + 1) (by omega) (by omega) (by omega)]
        simp only [countV, List.filter_cons, he, if_true, List.length_cons]
        rw [Nat.add_assoc, Nat.add_comm 1]
      | false =>
        have ew : IntKind.wrap .i64 ((c : Int) + b2i false) = ((c : Nat) : Int) := by simp only [b2i, cond_false]; rw [wrap_i64 (by omega) (by omega)]; omega
        rw [ew, ih (i + 1) f c (by omega) (by omega) (by omega)]
        simp only [countV, List.filter_cons, he, Bool.false_eq_true, if_false]
  have h := gen t.length 0 k 0 (by omega) (by omega) (Nat.le_refl _)
  simp only [List.drop_zero, Nat.zero_add] at h
  exact h
theorem specToken_is (k : Nat) (hk : 4194304 < k) (n : LineT) (ln : Int) {t : List EntT} (ht : TokP t) (yes : Bool) (nn v : Int) (h6 : n.1 = 6 → v = b2i yes) (h10 : n.1 = 10 → (yes = true ↔ v = 1)) (h13 : n.1 = 13 → nn = v) :
    z103 k (n, ln, t, yes, nn, ()) = some ((markV t ln n v, ()), ((), (), (), (), (), ())) := by
  unfold z103 markV
  simp only [br_beq, one_is, specWith_is k hk, bd_some, l1In_is]
  by_cases c6 : n.1 = 6
  · simp only [if_pos c6, h6 c6]
  by_cases c10 : n.1 = 10
  · have c13 : ¬ n.1 = 13 := by omega
    have c14 : ¬ n.1 = 14 := by omega
    simp only [if_neg c6, if_pos c10, specCount_is k hk t (tokP_len ht), bd_some]
    cases yes with
    | true =>
      have hv : v = 1 := (h10 c10).1 rfl
      subst hv
      simp only [br_true, Option.bind_some, br_dec, true_and]
      by_cases hlt : (countV ln t : Int) < n.2.2.2.2.1
      · simp only [if_pos hlt]
      · simp only [if_neg hlt, if_neg c13, Option.bind_some, br_false, if_neg c14]
    | false =>
      have hv : ¬ v = 1 := fun h => by have := (h10 c10).2 h; cases this
      have hv' : ¬ (v = 1 ∧ (countV ln t : Int) < n.2.2.2.2.1) := fun h => hv h.1
      simp only [br_false, Option.bind_some, if_neg hv', if_neg c13, if_neg c14]
  by_cases c13 : n.1 = 13
  · rw [h13 c13]
    simp only [if_neg c6, if_neg c10, if_pos c13, Option.bind_some, br_false, pickV]
    by_cases hr : n.2.2.2.2.1 ≤ v ∧ v ≤ n.2.2.2.2.2.1
    · simp only [decide_eq_true hr, br_true, if_pos hr]
    · simp only [decide_eq_false hr, br_false, if_neg hr]
  simp only [if_neg c6, if_neg c10, if_neg c13, Option.bind_some, br_false]
  by_cases c14 : n.1 = 14
  · simp only [if_pos c14]
  · simp only [if_neg c14]
theorem bit_b2i {v : Int} (h : Bit v) : v = b2i (v == 1) := by rcases h with rfl | rfl <;> rfl
theorem specTrace_loop (k : Nat) (hk : 4194304 < k) (p : ProgT) (hd : (declOf p).1.length ≤ 1000 ∧ (declOf p).2.1.length ≤ 1000 ∧ (declOf p).2.2.1.length ≤ 1000) (T inp : List Int) (fuel : Int) (hf : fuel ≤ 2000) : ∀ (r f : Nat) (ln : Int) (s : StoreT) (steps used : Int) (tok : List EntT) (out : List SnpT), RunAt (declOf p) p.2.2.2.1 T inp ln used s → TokP tok → r < f → steps + r = fuel → 0 ≤ steps → out.length + r ≤ 2000 →
    iter (z38.l0 k) f (inp, fuel, (p.1, p.2.1, p.2.2.1, p.2.2.2.1, ()), out, T, ln, used, (s.1, s.2.1, s.2.2.1, ()), tok, steps, ()) = some ((out ++ traceV p.2.2.2.1 T inp r ln s used tok, ()), ((), (), (), ())) := by
  have snap : ∀ (ln : Int) (s : StoreT) (tok : List EntT), SOk (declOf p) s → TokP tok → z131 k (ln, tok, (s.1, s.2.1, s.2.2.1, ()), ()) = some ((snapV ln tok s, ()), ((), (), (), ())) := fun ln s tok hs ht => by
    have hl := tokP_len ht
    have hm : (([] : List EntT).length + tok.length) * 16 ≤ maxBytes := by simp only [List.length_nil, maxBytes]; omega
    have hcp : z25 k ((s.1, s.2.1, s.2.2.1, ()), ()) = some ((s, ()), ((), ())) := copy_is k hk hs hd
    unfold z131
    simp only [br_dec, if_pos hm, hcp, bd_some, List.nil_append, snapV]
  have mb : ∀ (out : List SnpT) (x : SnpT), out.length ≤ 2000 → (out.length + ([x] : List SnpT).length) * 104 ≤ maxBytes := fun out x h => by simp only [List.length_cons, List.length_nil, maxBytes]; omega
  intro r
  induction r with
  | zero =>
    intro f ln s steps used tok out h ht hf' hs h0 hn
    obtain ⟨f, rfl⟩ : ∃ g, f = g + 1 := ⟨f - 1, by omega⟩
    have he : ¬ steps < fuel := by omega
    rw [iter_succ]
    have hj : (br k (decide (ln < (p.2.2.2.1.length : Int))) (some (decide (steps < fuel), ())) (some (false, ())) : Option (Bool × Unit)) = some (false, ()) := by
      rw [decide_eq_false he, br_dec]; split <;> rfl
    simp only [z38.l0, hj, Option.bind_some, br_false, snap ln s tok h.st ht, bd_some, br_dec, if_pos (mb out _ (by omega)), traceV]
  | succ r ih =>
    intro f ln s steps used tok out h ht hf' hs h0 hn
    obtain ⟨f, rfl⟩ : ∃ g, f = g + 1 := ⟨f - 1, by omega⟩
    have he : steps < fuel := by omega
    rw [iter_succ]
    by_cases hl : ln < (p.2.2.2.1.length : Int)
    · have hj : (br k (decide (ln < (p.2.2.2.1.length : Int))) (some (decide (steps < fuel), ())) (some (false, ())) : Option (Bool × Unit)) = some (true, ()) := by
        rw [decide_eq_true he, br_dec, if_pos hl]
      have hb := h.lnb
      have htl := h.tlen
      obtain ⟨l1, l2, l3, l4⟩ := h.line hl
      have c1 : 0 ≤ ln ∧ ln < (T.length : Int) := by omega
      obtain ⟨i, rfl⟩ : ∃ i : Nat, ln = (i : Int) := ⟨ln.toNat, by omega⟩
      have h30 := h.l30
      have hst := specStep_is k hk hd (h.lines _ l3) p inp h.i1000 (T.getD (i : Int).toNat 0) i (by omega) h.use.1 h.st
      have hst' : z11 k ((p.1, p.2.1, p.2.2.1, p.2.2.2.1, ()), T.getD (i : Int).toNat 0, p.2.2.2.1.getD (i : Int).toNat lineD, (i : Int), (s.1, s.2.1, s.2.2.1, ()), inp, used, ()) = _ := hst
      have hnx := h.next hl
      have ws : IntKind.wrap .i64 (steps + 1) = steps + 1 := wrap_i64 (by omega) (by omega)
      simp only [z38.l0, hj, Option.bind_some, br_true, snap (i : Int) s tok h.st ht, bd_some, br_dec, if_pos (mb out _ (by omega)), if_pos hb.1, l1, if_pos c1, l2, hst', traceV, if_pos hl, ws]
      by_cases hc : (stepV (p.2.2.2.1.getD (i : Int).toNat lineD) inp (T.getD (i : Int).toNat 0) (i : Int) used s).2.2.2 ≠ 0
      · have b : ((stepV (p.2.2.2.1.getD (i : Int).toNat lineD) inp (T.getD (i : Int).toNat 0) (i : Int) used s).2.2.2 != 0) = true := by simpa using hc
        simp only [b, br_true, if_pos hc]
      · have b : ((stepV (p.2.2.2.1.getD (i : Int).toNat lineD) inp (T.getD (i : Int).toNat 0) (i : Int) used s).2.2.2 != 0) = false := by simpa using hc
        simp only [b, br_false, if_neg hc, br_beq]
        have hn' := h.lines _ l3
        have hs0 := h.st
        have hc0 : (p.2.2.2.1.getD (i : Int).toNat lineD).1 = 6 ∨ (p.2.2.2.1.getD (i : Int).toNat lineD).1 = 10 → (evalV s [] (p.2.2.2.1.getD (i : Int).toNat lineD).2.2.2.1).2 = 0 := fun hk' => by
          apply Decidable.byContradiction
          intro hne
          apply hc
          unfold stepV
          rw [if_neg (by omega), if_pos ⟨by rcases hk' with e | e <;> rw [e] <;> decide, hne⟩]
          exact hne
        have ih' := ih f _ _ (steps + 1) _ (tokV tok (i : Int) (p.2.2.2.1.getD (i : Int).toNat lineD) s 0) (out ++ [snapV (i : Int) tok s]) hnx (tokV_ok ht _ _ _ _) (by omega) (by omega) (by omega) (by simp; omega)
        rw [List.append_assoc] at ih'
        generalize p.2.2.2.1.getD (i : Int).toNat lineD = n at hn' hc0 ih' ⊢
        have tk : tokV tok (i : Int) n s 0 = markV tok (i : Int) n (seenV n s) := by unfold tokV; rw [if_pos rfl]
        by_cases c13 : n.1 = 13
        · obtain ⟨v0, v1⟩ := hn'.var (by omega)
          have vl : n.2.1.toNat < s.1.length := by rw [hs0.n0]; exact v1
          have n6 : ¬ n.1 = 6 := by omega
          have n10 : (n.1 == 10) = false := by simp; omega
          have sv : seenV n s = s.1[n.2.1.toNat] := by unfold seenV; rw [if_pos c13, getD_get vl]
          simp only [if_pos c13, if_pos v0, List.getElem?_eq_getElem vl, bd_some, if_neg n6, n10, Option.bind_some, br_false]
          rw [specToken_is k hk n (i : Int) ht _ _ (seenV n s) (fun e => by omega) (fun e => by omega) (fun _ => sv.symm), bd_some]
          simp only
          rw [← tk]
          exact ih'
        · simp only [if_neg c13]
          by_cases c610 : n.1 = 6 ∨ n.1 = 10
          · have hj2 : ((if n.1 = 6 then some (true, ()) else some (n.1 == 10, ())) : Option (Bool × Unit)) = some (true, ()) := by
              rcases c610 with e | e
              · rw [if_pos e]
              · rw [if_neg (by omega), e]; rfl
            have hx := hn'.bool c610
            have eE : z10 k (n.2.2.2.1, (s.1, s.2.1, s.2.2.1, ()), ()) = _ := (eval_both k hk hs0 n.2.2.2.1 (by rw [hx]; omega)).1
            have hbit := expr_bit hs0 hx (hc0 c610)
            have sv : seenV n s = (evalV s [] n.2.2.2.1).1 := by unfold seenV; rw [if_neg c13]
            simp only [hj2, Option.bind_some, br_true, eE, bd_some]
            rw [specToken_is k hk n (i : Int) ht _ _ (seenV n s) (fun e => by rw [sv]; exact bit_b2i hbit) (fun e => by rw [sv]; simp) (fun e => absurd e c13), bd_some]
            simp only
            rw [← tk]
            exact ih'
          · have hj2 : ((if n.1 = 6 then some (true, ()) else some (n.1 == 10, ())) : Option (Bool × Unit)) = some (false, ()) := by
              have e10 : (n.1 == 10) = false := by simp; omega
              rw [if_neg (by omega), e10]
            simp only [hj2, Option.bind_some, br_false]
            rw [specToken_is k hk n (i : Int) ht _ _ (seenV n s) (fun e => absurd (.inl e) c610) (fun e => absurd (.inr e) c610) (fun e => absurd e c13), bd_some]
            simp only
            rw [← tk]
            exact ih'
    · have hj : (br k (decide (ln < (p.2.2.2.1.length : Int))) (some (decide (steps < fuel), ())) (some (false, ())) : Option (Bool × Unit)) = some (false, ()) := by
        rw [br_dec, if_neg hl]
      simp only [z38.l0, hj, Option.bind_some, br_false, snap ln s tok h.st ht, bd_some, br_dec, if_pos (mb out _ (by omega)), traceV, if_neg hl]
theorem specTrace_is (k : Nat) (hk : 4194304 < k) (hk2 : k ≤ 4611686018427387903) (p : ProgT) (hp : PSmall p) (inp : List Int) (fuel : Int) : z38 k (p, inp, fuel, ()) = some ((traceOf p inp fuel, ()), ((), (), (), ())) := by
  unfold z38 traceOf
  simp only [formS_is k hk hk2 p hp, bd_some]
  cases hf : formOk p inp fuel with
  | false => simp
  | true =>
    have hA := runAt_new hf
    simp only [formOk, Bool.and_eq_true, decide_eq_true_eq] at hf
    obtain ⟨h1, h2, h3⟩ := hf
    have hdo := (progOk_parts h1).1
    obtain ⟨⟨q0, q1, q2⟩, _⟩ := decl_arrs hdo
    have eN : z60 k ((p.1, p.2.1, p.2.2.1, ()), ()) = some ((newS (declOf p), ()), ((), ())) := specNew_is k hk hp.d hdo
    have hl := specTrace_loop k hk p ⟨by omega, by omega, by omega⟩ (targetsOf p.2.2.2.1) inp fuel h2.2 fuel.toNat k 0 (newS (declOf p)) 0 0 [] [] hA rfl (by omega) (by omega) (by omega) (by simp; omega)
    simp only [Bool.not_true, br_false, specTargets_is k hk hk2 p hp h1, eN, bd_some, if_true]
    exact hl
end Go.Pev.F
end

section
/-
  An environment's text: sizes, copies, comparisons; which are right.
-/
namespace Go.Pev.F
structure ESmall (e : EnvT) : Prop where
  n1 : e.2.1.length ≤ 1048576
  n2 : e.2.2.1.length ≤ 1048576
end Go.Pev.F
end

section
/-
  Tables: which are right, and which live: the reference's test and the program's agree.
-/
namespace Go.Pev.F
end Go.Pev.F
end

section
/-
  Parts: which are right: the reference's test and the program's agree.
-/
namespace Go.Pev.F
abbrev PartT := List EntT × List EnvT × Unit
structure LSmall (l : List PartT) : Prop where
  n : l.length ≤ 1048576
  t : ∀ p ∈ l, p.1.length ≤ 1048576
  m : ∀ p ∈ l, p.2.1.length ≤ 1048576
  e : ∀ p ∈ l, ∀ e ∈ p.2.1, ESmall e
end Go.Pev.F
end

section
/-
  Stores of a declaration's form: the program's answer.
-/
namespace Go.Pev.F
end Go.Pev.F
end

section
/-
  Right stores: the reference's answer.
-/
namespace Go.Pev.F
end Go.Pev.F
end

section
/-
  Sizes, copies and comparisons of plain data, in general.
-/
namespace Go.Pev
def Kd.Small : (k : Kd) → k.T → Prop
  | .str, s => s.length ≤ 1048576
  | .sl _ e, l => l.length ≤ 1048576 ∧ ∀ x ∈ l, e.Small x
  | .cons a b, x => a.Small x.1 ∧ b.Small x.2
  | _, _ => True
theorem sz_loop {A α β : Type} {b : (A → Option ((Int × Unit) × β)) → A → Option ((Int × Unit) × β)} (st : Nat → Int → A) (l : List α) (P : α → Prop) {o : β}
    (h : ∀ G i (hi : i < l.length) (left : Int), 0 ≤ left → left ≤ 1048576 → ∃ r : Int, b G (st i left) = (if r < 0 then some ((-1, ()), o) else G (st (i + 1) r)) ∧ (0 ≤ r → r ≤ left ∧ P l[i]))
    (he : ∀ G left, b G (st l.length left) = some ((left, ()), o)) {f : Nat} (hf : l.length < f) (left : Int) (h0 : 0 ≤ left) (h1 : left ≤ 1048576) :
    ∃ r : Int, iter b f (st 0 left) = some ((r, ()), o) ∧ (0 ≤ r → r ≤ left ∧ ∀ x ∈ l, P x) := by
  have key : ∀ (n i f : Nat) (left : Int), i + n = l.length → n < f → 0 ≤ left → left ≤ 1048576 → ∃ r : Int, iter b f (st i left) = some ((r, ()), o) ∧ (0 ≤ r → r ≤ left ∧ ∀ j (hj : j < l.length), i ≤ j → P l[j]) := by
    intro n
    induction n with
    | zero =>
      intro i f left hi hf h0 h1
      obtain ⟨f, rfl⟩ : ∃ g, f = g + 1 := ⟨f - 1, by omega⟩
      obtain rfl : i = l.length := by omega
      exact ⟨left, by rw [iter_succ, he], fun _ => ⟨Int.le_refl _, fun j hj h => by omega⟩⟩
    | succ n ih =>
      intro i f left hi hf h0 h1
      obtain ⟨f, rfl⟩ : ∃ g, f = g + 1 := ⟨f - 1, by omega⟩
      have hi' : i < l.length := by omega
      obtain ⟨r1, e1, p1⟩ := h (iter b f) i hi' left h0 h1
      by_cases hr : r1 < 0
      · exact ⟨-1, by rw [iter_succ, e1, if_pos hr], fun h => by omega⟩
      · obtain ⟨q1, q2⟩ := p1 (by omega)
        obtain ⟨r, h4, h5⟩ := ih (i + 1) f r1 (by omega) (by omega) (by omega) (by omega)
        refine ⟨r, by rw [iter_succ, e1, if_neg hr, h4], fun h => ?_⟩
        obtain ⟨h6, h7⟩ := h5 h
        refine ⟨by omega, fun j hj hij => ?_⟩
        by_cases e : j = i
        · subst e; exact q2
        · exact h7 j hj (by omega)
  obtain ⟨r, h2, h3⟩ := key l.length 0 f left (by omega) hf h0 h1
  refine ⟨r, h2, fun hr => ?_⟩
  obtain ⟨h4, h5⟩ := h3 hr
  refine ⟨h4, fun x hx => ?_⟩
  obtain ⟨j, hj, rfl⟩ := List.mem_iff_getElem.1 hx
  exact h5 j hj (by omega)
theorem to_loop {A α β : Type} {b : (A → Option ((List α × Unit) × β)) → A → Option ((List α × Unit) × β)} (st : Nat → List α → A) (a : List α) (z : α) {o : β}
    (h : ∀ G i (hi : i < a.length) (out : List α), out.length = a.length → out[i]? = some z → b G (st i out) = G (st (i + 1) (out.set i a[i])))
    (he : ∀ G out, b G (st a.length out) = some ((out, ()), o)) {f : Nat} (hf : a.length < f) : iter b f (st 0 (List.replicate a.length z)) = some ((a, ()), o) := by
  have key := iter_for (b := b) (fun i => st i (a.take i ++ List.replicate (a.length - i) z)) a.length (r := some ((a, ()), o)) (fun G i hi => by
    rw [h G i hi _ (by simp; omega) (get_next a z hi), set_next a z hi]) (fun G => by
    rw [he]; simp) hf
  simpa using key
end Go.Pev
end

section
/-
  What a guard grants, part by part.
-/
namespace Go.Pev.F
abbrev tokKd : Kd := .cons (.int .i64) (.cons (.int .i64) .nil)
abbrev lineKd : Kd := .cons (.int .i64) (.cons (.int .i64) (.cons (.sl false tokKd) (.cons (.sl false tokKd) (.cons (.int .i64) (.cons (.int .i64) .nil)))))
abbrev progKd : Kd := .cons (.sl false .str) (.cons (.sl false .str) (.cons (.sl false (.cons .str (.cons (.int .i64) .nil))) (.cons (.sl false lineKd) .nil)))
theorem small_decl {d : DeclT} (h : Kd.Small declKd d) : DSmall d := by
  obtain ⟨⟨a0, a1⟩, ⟨b0, b1⟩, ⟨c0, c1⟩, _⟩ := h
  exact ⟨a0, a1, b0, b1, c0, fun x hx => (c1 x hx).1⟩
theorem small_prog {p : ProgT} (h : Kd.Small progKd p) : PSmall p := by
  obtain ⟨h0, h1, h2, ⟨h3, h4⟩, _⟩ := h
  exact ⟨small_decl ⟨h0, h1, h2, trivial⟩, h3, fun n hn => (h4 n hn).2.2.1.1, fun n hn => (h4 n hn).2.2.2.1.1⟩
end Go.Pev.F
end

section
/-
  Marks: what is written into memory, and whether it is still there, in general.
-/
namespace Go.Pev
abbrev markMax : Int := 4611686018427387904
inductive Held {α : Type} (P : Int → α → Int → Prop) : Int → List α → Int → Prop
  | nil {n : Int} : Held P n [] n
  | cons {n m r : Int} {x : α} {l : List α} : P n x m → Held P m l r → Held P n (x :: l) r
theorem Held.snoc {α : Type} {P : Int → α → Int → Prop} {x : α} : {l : List α} → {n m r : Int} → Held P n l m → P m x r → Held P n (l ++ [x]) r
  | [], _, _, _, .nil, h => .cons h .nil
  | _ :: _, _, _, _, .cons h1 h2, h => .cons h1 (h2.snoc h)
theorem Held.le {α : Type} {P : Int → α → Int → Prop} (hP : ∀ n x m, P n x m → n ≤ m) : {l : List α} → {n m : Int} → Held P n l m → n ≤ m
  | [], _, _, .nil => Int.le_refl _
  | _ :: _, _, _, .cons h1 h2 => Int.le_trans (hP _ _ _ h1) (h2.le hP)
theorem mark_loop {A α R : Type} {b : (A → Option R) → A → Option R} (st : Nat → List α → Int → A) (a : List α) (c : α → Nat) (P : Int → α → Int → Prop) (fin : Int → List α → Option R)
    (h : ∀ G i (hi : i < a.length) (l : List α) (n : Int), l.length = a.length → l[i]? = some a[i] → 1 ≤ n → n + (c a[i] : Nat) ≤ markMax → ∃ x' n', b G (st i l n) = G (st (i + 1) (l.set i x') n') ∧ n ≤ n' ∧ n' ≤ n + (c a[i] : Nat) ∧ P n x' n')
    (he : ∀ G l n, l.length = a.length → b G (st a.length l n) = fin n l) {f : Nat} (hf : a.length < f) (n : Int) (h1 : 1 ≤ n) (h2 : n + ((a.map c).sum : Nat) ≤ markMax) :
    ∃ a' n', iter b f (st 0 a n) = fin n' a' ∧ n ≤ n' ∧ n' ≤ n + ((a.map c).sum : Nat) ∧ a'.length = a.length ∧ Held P n a' n' := by
  have key : ∀ (r i f : Nat) (n0 n : Int) (p : List α), i + r = a.length → r < f → p.length = i → 1 ≤ n → n + (((a.drop i).map c).sum : Nat) ≤ markMax → Held P n0 p n →
      ∃ a' n', iter b f (st i (p ++ a.drop i) n) = fin n' a' ∧ n ≤ n' ∧ n' ≤ n + (((a.drop i).map c).sum : Nat) ∧ a'.length = a.length ∧ Held P n0 a' n' := by
    intro r
    induction r with
    | zero =>
      intro i f n0 n p hi hf hp h1 h2 hH
      obtain ⟨f, rfl⟩ : ∃ g, f = g + 1 := ⟨f - 1, by omega⟩
      have hz : a.drop i = [] := List.drop_of_length_le (by omega)
      rw [hz, List.append_nil]
      obtain rfl : i = a.length := by omega
      exact ⟨p, n, by rw [iter_succ, he _ _ _ hp], Int.le_refl _, by simp, hp, hH⟩
    | succ r ih =>
      intro i f n0 n p hi hf hp h1 h2 hH
      obtain ⟨f, rfl⟩ : ∃ g, f = g + 1 := ⟨f - 1, by omega⟩
      have hlt : i < a.length := by omega
      have hd : a.drop i = a[i] :: a.drop (i + 1) := List.drop_eq_getElem_cons hlt
      have hs : ((a.drop i).map c).sum = c a[i] + ((a.drop (i + 1)).map c).sum := by rw [hd, List.map_cons, List.sum_cons]
      rw [hs] at h2 ⊢
      obtain ⟨x', n', e1, e2, e3, e4⟩ := h (iter b f) i hlt (p ++ a.drop i) n (by simp; omega) (by rw [hd, List.getElem?_append_right (by omega), show i - p.length = 0 by omega]; rfl) h1 (by omega)
      have hset : (p ++ a.drop i).set i x' = (p ++ [x']) ++ a.drop (i + 1) := by
        rw [hd, List.set_append_right _ _ (by omega), show i - p.length = 0 by omega, List.set_cons_zero, List.append_assoc]
        rfl
      obtain ⟨a', m, q1, q2, q3, q4, q5⟩ := ih (i + 1) f n0 n' (p ++ [x']) (by omega) (by omega) (by simp [hp]) (by omega) (by omega) (hH.snoc e4)
      exact ⟨a', m, by rw [iter_succ, e1, hset, q1], by omega, by omega, q4, q5⟩
  have := key a.length 0 f n n [] (by omega) hf rfl h1 (by simpa using h2) .nil
  simpa using this
theorem held_loop {A α R : Type} {b : (A → Option R) → A → Option R} (st : Nat → Int → A) (a : List α) (P : Int → α → Int → Prop) (fin : Int → Option R)
    (h : ∀ G i (hi : i < a.length) (n m : Int), P n a[i] m → b G (st i n) = G (st (i + 1) m)) (he : ∀ G n, b G (st a.length n) = fin n) {f : Nat} (hf : a.length < f) {n n' : Int} (hH : Held P n a n') : iter b f (st 0 n) = fin n' := by
  have key : ∀ (r i f : Nat) (n : Int), i + r = a.length → r < f → Held P n (a.drop i) n' → iter b f (st i n) = fin n' := by
    intro r
    induction r with
    | zero =>
      intro i f n hi hf hH
      obtain ⟨f, rfl⟩ : ∃ g, f = g + 1 := ⟨f - 1, by omega⟩
      obtain rfl : i = a.length := by omega
      rw [List.drop_length] at hH
      cases hH
      rw [iter_succ, he]
    | succ r ih =>
      intro i f n hi hf hH
      obtain ⟨f, rfl⟩ : ∃ g, f = g + 1 := ⟨f - 1, by omega⟩
      have hlt : i < a.length := by omega
      rw [List.drop_eq_getElem_cons hlt] at hH
      cases hH with
      | cons e1 e2 => rw [iter_succ, h _ i hlt _ _ e1]; exact ih (i + 1) f _ (by omega) (by omega) e2
  exact key a.length 0 f n (by omega) hf (by simpa using hH)
def Kd.cnt : (k : Kd) → k.T → Nat
  | .sl _ e, l => (l.map fun x => e.cnt x).sum
  | .cons a b, x => a.cnt x.1 + b.cnt x.2
  | .nil, _ => 0
  | _, _ => 1
def Kd.most : Kd → Nat
  | .sl _ e => 1048576 * e.most
  | .cons a b => a.most + b.most
  | .nil => 0
  | _ => 1
theorem sum_le {α : Type} {c : α → Nat} {m : Nat} : (l : List α) → (∀ x ∈ l, c x ≤ m) → (l.map c).sum ≤ l.length * m
  | [], _ => by simp
  | x :: r, h => by
    have h1 := h x (by simp)
    have h2 := sum_le r (fun y hy => h y (by simp [hy]))
    simp only [List.map_cons, List.sum_cons, List.length_cons, Nat.succ_mul]
    omega
theorem cnt_le : (k : Kd) → {x : k.T} → k.Small x → k.cnt x ≤ k.most
  | .int _, _, _ => Nat.le_refl _
  | .bool, _, _ => Nat.le_refl _
  | .str, _, _ => Nat.le_refl _
  | .err, _, _ => Nat.le_refl _
  | .any, _, _ => Nat.le_refl _
  | .sl _ e, l, h => Nat.le_trans (sum_le (m := e.most) l fun x hx => cnt_le e (h.2 x hx)) (Nat.mul_le_mul_right _ h.1)
  | .nil, _, _ => Nat.le_refl _
  | .cons a b, _, h => Nat.add_le_add (cnt_le a h.1) (cnt_le b h.2)
  | .tree _, _, _ => Nat.le_refl _
end Go.Pev
end

section
/-
  Printed by copies.py: sizes, copies and comparisons of the statements' data.
-/
namespace Go.Pev.F.Cp
theorem szStringS_is (k : Nat) (hk : 1048576 < k) (a : (List (List UInt8))) (hw : Kd.WF (.sl false .str) a) (left : Int) (h0 : 0 ≤ left) (h1 : left ≤ 1048576) :
    ∃ r : Int, z41 k (a, left, ()) = some ((r, ()), ((), (), ())) ∧ (0 ≤ r → r ≤ left ∧ Kd.Small (.sl false .str) a) := by
  obtain ⟨w0, w1⟩ := hw
  have w0 : a.length ≤ 140737488351232 := w0
  unfold z41
  simp only [br_dec]
  rw [wrap_i64 (n := left - (a.length : Int)) (by omega) (by omega)]
  by_cases hc : left - (a.length : Int) < 0
  · rw [if_pos hc]; exact ⟨-1, rfl, fun h => by omega⟩
  rw [if_neg hc]
  obtain ⟨r, e, p⟩ := sz_loop (b := z41.l0 k) (fun i left => (a, left, (i : Int), ())) a (Kd.Small .str) (o := ((), (), ())) (fun G i hi left h0 h1 => by
    have h2 : ((i : Int) < (a.length : Int)) := by omega
    have h3 : (0 : Int) ≤ (i : Int) := by omega
    have hl : a[i].length ≤ 140737488351232 := w1 _ (List.getElem_mem hi)
    refine ⟨left - (a[i].length : Int), ?_, fun h => ⟨by omega, by show a[i].length ≤ 1048576; omega⟩⟩
    simp only [z41.l0, br_dec, if_pos h2, if_pos h3, Int.toNat_natCast, List.getElem?_eq_getElem hi, bd_some]
    rw [wrap_i64 (n := left - (a[i].length : Int)) (by omega) (by omega), wrap_succ (by omega)]) (fun G left => by
    have h2 : ¬ ((a.length : Int) < (a.length : Int)) := by omega
    simp only [z41.l0, br_dec, if_neg h2]) (f := k) (by omega) (left - (a.length : Int)) (by omega) (by omega)
  refine ⟨r, e, fun hr => ?_⟩
  obtain ⟨q1, q2⟩ := p hr
  exact ⟨by omega, by show a.length ≤ 1048576; omega, q2⟩
theorem szArr_is (k : Nat) (hk : 1048576 < k) (a : ((List UInt8) × Int × Unit)) (hw : Kd.WF (.cons .str (.cons (.int .i64) .nil)) a) (left : Int) (h0 : 0 ≤ left) (h1 : left ≤ 1048576) :
    ∃ r : Int, z132 k (a, left, ()) = some ((r, ()), ((), (), ())) ∧ (0 ≤ r → r ≤ left ∧ Kd.Small (.cons .str (.cons (.int .i64) .nil)) a) := by
  obtain ⟨w0, w1, _⟩ := hw
  unfold z132
  simp only [br_dec]
  have g1 : a.1.length ≤ 140737488351232 := w0
  obtain ⟨r1, d1⟩ : ∃ z : Int, z = left - (a.1.length : Int) := ⟨_, rfl⟩
  rw [← d1, wrap_i64 (n := r1) (by omega) (by omega)]
  by_cases c1 : r1 < 0
  · rw [if_pos c1]; exact ⟨-1, rfl, fun h => by omega⟩
  rw [if_neg c1]
  have s1 : a.1.length ≤ 1048576 := by omega
  exact ⟨r1, rfl, fun h => ⟨by omega, ⟨s1, trivial, trivial⟩⟩⟩
theorem szArrS_is (k : Nat) (hk : 1048576 < k) (a : (List ((List UInt8) × Int × Unit))) (hw : Kd.WF (.sl false (.cons .str (.cons (.int .i64) .nil))) a) (left : Int) (h0 : 0 ≤ left) (h1 : left ≤ 1048576) :
    ∃ r : Int, z54 k (a, left, ()) = some ((r, ()), ((), (), ())) ∧ (0 ≤ r → r ≤ left ∧ Kd.Small (.sl false (.cons .str (.cons (.int .i64) .nil))) a) := by
  obtain ⟨w0, w1⟩ := hw
  have w0 : a.length ≤ 140737488351232 := w0
  unfold z54
  simp only [br_dec]
  rw [wrap_i64 (n := left - (a.length : Int)) (by omega) (by omega)]
  by_cases hc : left - (a.length : Int) < 0
  · rw [if_pos hc]; exact ⟨-1, rfl, fun h => by omega⟩
  rw [if_neg hc]
  obtain ⟨r, e, p⟩ := sz_loop (b := z54.l0 k) (fun i left => (a, left, (i : Int), ())) a (Kd.Small (.cons .str (.cons (.int .i64) .nil))) (o := ((), (), ())) (fun G i hi left h0 h1 => by
    have h2 : ((i : Int) < (a.length : Int)) := by omega
    have h3 : (0 : Int) ≤ (i : Int) := by omega
    obtain ⟨r1, e1, p1⟩ := szArr_is k hk a[i] (w1 _ (List.getElem_mem hi)) left h0 h1
    refine ⟨r1, ?_, p1⟩
    simp only [z54.l0, br_dec, if_pos h2, if_pos h3, Int.toNat_natCast, List.getElem?_eq_getElem hi, bd_some, e1]
    rw [wrap_succ (by omega)]) (fun G left => by
    have h2 : ¬ ((a.length : Int) < (a.length : Int)) := by omega
    simp only [z54.l0, br_dec, if_neg h2]) (f := k) (by omega) (left - (a.length : Int)) (by omega) (by omega)
  refine ⟨r, e, fun hr => ?_⟩
  obtain ⟨q1, q2⟩ := p hr
  exact ⟨by omega, by show a.length ≤ 1048576; omega, q2⟩
theorem szDecl_is (k : Nat) (hk : 1048576 < k) (a : ((List (List UInt8)) × (List (List UInt8)) × (List ((List UInt8) × Int × Unit)) × Unit)) (hw : Kd.WF (.cons (.sl false .str) (.cons (.sl false .str) (.cons (.sl false (.cons .str (.cons (.int .i64) .nil))) .nil))) a) (left : Int) (h0 : 0 ≤ left) (h1 : left ≤ 1048576) :
    ∃ r : Int, z133 k (a, left, ()) = some ((r, ()), ((), (), ())) ∧ (0 ≤ r → r ≤ left ∧ Kd.Small (.cons (.sl false .str) (.cons (.sl false .str) (.cons (.sl false (.cons .str (.cons (.int .i64) .nil))) .nil))) a) := by
  obtain ⟨w0, w1, w2, _⟩ := hw
  unfold z133
  simp only [br_dec]
  obtain ⟨r1, e1, p1⟩ := szStringS_is k hk a.1 w0 left (by omega) (by omega)
  simp only [e1, bd_some]
  by_cases c1 : r1 < 0
  · rw [if_pos c1]; exact ⟨-1, rfl, fun h => by omega⟩
  rw [if_neg c1]
  obtain ⟨q1, s1⟩ := p1 (by omega)
  obtain ⟨r2, e2, p2⟩ := szStringS_is k hk a.2.1 w1 r1 (by omega) (by omega)
  simp only [e2, bd_some]
  by_cases c2 : r2 < 0
  · rw [if_pos c2]; exact ⟨-1, rfl, fun h => by omega⟩
  rw [if_neg c2]
  obtain ⟨q2, s2⟩ := p2 (by omega)
  obtain ⟨r3, e3, p3⟩ := szArrS_is k hk a.2.2.1 w2 r2 (by omega) (by omega)
  simp only [e3, bd_some]
  by_cases c3 : r3 < 0
  · rw [if_pos c3]; exact ⟨-1, rfl, fun h => by omega⟩
  rw [if_neg c3]
  obtain ⟨q3, s3⟩ := p3 (by omega)
  exact ⟨r3, rfl, fun h => ⟨by omega, ⟨s1, s2, s3, trivial⟩⟩⟩
theorem szTokS_is (k : Nat) (hk : 1048576 < k) (a : (List (Int × Int × Unit))) (hw : Kd.WF (.sl false (.cons (.int .i64) (.cons (.int .i64) .nil))) a) (left : Int) (h0 : 0 ≤ left) (h1 : left ≤ 1048576) :
    ∃ r : Int, z107 k (a, left, ()) = some ((r, ()), ((), (), ())) ∧ (0 ≤ r → r ≤ left ∧ Kd.Small (.sl false (.cons (.int .i64) (.cons (.int .i64) .nil))) a) := by
  obtain ⟨w0, w1⟩ := hw
  have w0 : a.length ≤ 140737488351232 := w0
  unfold z107
  simp only [br_dec]
  rw [wrap_i64 (n := left - (a.length : Int)) (by omega) (by omega)]
  by_cases hc : left - (a.length : Int) < 0
  · rw [if_pos hc]; exact ⟨-1, rfl, fun h => by omega⟩
  rw [if_neg hc]
  exact ⟨_, rfl, fun h => ⟨by omega, by show a.length ≤ 1048576; omega, fun x hx => ⟨trivial, trivial, trivial⟩⟩⟩
theorem szLine_is (k : Nat) (hk : 1048576 < k) (a : (Int × Int × (List (Int × Int × Unit)) × (List (Int × Int × Unit)) × Int × Int × Unit)) (hw : Kd.WF (.cons (.int .i64) (.cons (.int .i64) (.cons (.sl false (.cons (.int .i64) (.cons (.int .i64) .nil))) (.cons (.sl false (.cons (.int .i64) (.cons (.int .i64) .nil))) (.cons (.int .i64) (.cons (.int .i64) .nil)))))) a) (left : Int) (h0 : 0 ≤ left) (h1 : left ≤ 1048576) :
    ∃ r : Int, z134 k (a, left, ()) = some ((r, ()), ((), (), ())) ∧ (0 ≤ r → r ≤ left ∧ Kd.Small (.cons (.int .i64) (.cons (.int .i64) (.cons (.sl false (.cons (.int .i64) (.cons (.int .i64) .nil))) (.cons (.sl false (.cons (.int .i64) (.cons (.int .i64) .nil))) (.cons (.int .i64) (.cons (.int .i64) .nil)))))) a) := by
  obtain ⟨w0, w1, w2, w3, w4, w5, _⟩ := hw
  unfold z134
  simp only [br_dec]
  obtain ⟨r1, e1, p1⟩ := szTokS_is k hk a.2.2.1 w2 left (by omega) (by omega)
  simp only [e1, bd_some]
  by_cases c1 : r1 < 0
  · rw [if_pos c1]; exact ⟨-1, rfl, fun h => by omega⟩
  rw [if_neg c1]
  obtain ⟨q1, s1⟩ := p1 (by omega)
  obtain ⟨r2, e2, p2⟩ := szTokS_is k hk a.2.2.2.1 w3 r1 (by omega) (by omega)
  simp only [e2, bd_some]
  by_cases c2 : r2 < 0
  · rw [if_pos c2]; exact ⟨-1, rfl, fun h => by omega⟩
  rw [if_neg c2]
  obtain ⟨q2, s2⟩ := p2 (by omega)
  exact ⟨r2, rfl, fun h => ⟨by omega, ⟨trivial, trivial, s1, s2, trivial, trivial, trivial⟩⟩⟩
theorem szLineS_is (k : Nat) (hk : 1048576 < k) (a : (List (Int × Int × (List (Int × Int × Unit)) × (List (Int × Int × Unit)) × Int × Int × Unit))) (hw : Kd.WF (.sl false (.cons (.int .i64) (.cons (.int .i64) (.cons (.sl false (.cons (.int .i64) (.cons (.int .i64) .nil))) (.cons (.sl false (.cons (.int .i64) (.cons (.int .i64) .nil))) (.cons (.int .i64) (.cons (.int .i64) .nil))))))) a) (left : Int) (h0 : 0 ≤ left) (h1 : left ≤ 1048576) :
    ∃ r : Int, z55 k (a, left, ()) = some ((r, ()), ((), (), ())) ∧ (0 ≤ r → r ≤ left ∧ Kd.Small (.sl false (.cons (.int .i64) (.cons (.int .i64) (.cons (.sl false (.cons (.int .i64) (.cons (.int .i64) .nil))) (.cons (.sl false (.cons (.int .i64) (.cons (.int .i64) .nil))) (.cons (.int .i64) (.cons (.int .i64) .nil))))))) a) := by
  obtain ⟨w0, w1⟩ := hw
  have w0 : a.length ≤ 140737488351232 := w0
  unfold z55
  simp only [br_dec]
  rw [wrap_i64 (n := left - (a.length : Int)) (by omega) (by omega)]
  by_cases hc : left - (a.length : Int) < 0
  · rw [if_pos hc]; exact ⟨-1, rfl, fun h => by omega⟩
  rw [if_neg hc]
  obtain ⟨r, e, p⟩ := sz_loop (b := z55.l0 k) (fun i left => (a, left, (i : Int), ())) a (Kd.Small (.cons (.int .i64) (.cons (.int .i64) (.cons (.sl false (.cons (.int .i64) (.cons (.int .i64) .nil))) (.cons (.sl false (.cons (.int .i64) (.cons (.int .i64) .nil))) (.cons (.int .i64) (.cons (.int .i64) .nil))))))) (o := ((), (), ())) (fun G i hi left h0 h1 => by
    have h2 : ((i : Int) < (a.length : Int)) := by omega
    have h3 : (0 : Int) ≤ (i : Int) := by omega
    obtain ⟨r1, e1, p1⟩ := szLine_is k hk a[i] (w1 _ (List.getElem_mem hi)) left h0 h1
    refine ⟨r1, ?_, p1⟩
    simp only [z55.l0, br_dec, if_pos h2, if_pos h3, Int.toNat_natCast, List.getElem?_eq_getElem hi, bd_some, e1]
    rw [wrap_succ (by omega)]) (fun G left => by
    have h2 : ¬ ((a.length : Int) < (a.length : Int)) := by omega
    simp only [z55.l0, br_dec, if_neg h2]) (f := k) (by omega) (left - (a.length : Int)) (by omega) (by omega)
  refine ⟨r, e, fun hr => ?_⟩
  obtain ⟨q1, q2⟩ := p hr
  exact ⟨by omega, by show a.length ≤ 1048576; omega, q2⟩
theorem szProg_is (k : Nat) (hk : 1048576 < k) (a : ((List (List UInt8)) × (List (List UInt8)) × (List ((List UInt8) × Int × Unit)) × (List (Int × Int × (List (Int × Int × Unit)) × (List (Int × Int × Unit)) × Int × Int × Unit)) × Unit)) (hw : Kd.WF (.cons (.sl false .str) (.cons (.sl false .str) (.cons (.sl false (.cons .str (.cons (.int .i64) .nil))) (.cons (.sl false (.cons (.int .i64) (.cons (.int .i64) (.cons (.sl false (.cons (.int .i64) (.cons (.int .i64) .nil))) (.cons (.sl false (.cons (.int .i64) (.cons (.int .i64) .nil))) (.cons (.int .i64) (.cons (.int .i64) .nil))))))) .nil)))) a) (left : Int) (h0 : 0 ≤ left) (h1 : left ≤ 1048576) :
    ∃ r : Int, z135 k (a, left, ()) = some ((r, ()), ((), (), ())) ∧ (0 ≤ r → r ≤ left ∧ Kd.Small (.cons (.sl false .str) (.cons (.sl false .str) (.cons (.sl false (.cons .str (.cons (.int .i64) .nil))) (.cons (.sl false (.cons (.int .i64) (.cons (.int .i64) (.cons (.sl false (.cons (.int .i64) (.cons (.int .i64) .nil))) (.cons (.sl false (.cons (.int .i64) (.cons (.int .i64) .nil))) (.cons (.int .i64) (.cons (.int .i64) .nil))))))) .nil)))) a) := by
  obtain ⟨w0, w1, w2, w3, _⟩ := hw
  unfold z135
  simp only [br_dec]
  obtain ⟨r1, e1, p1⟩ := szDecl_is k hk (a.1, a.2.1, a.2.2.1, ()) ⟨w0, w1, w2, trivial⟩ left (by omega) (by omega)
  simp only [e1, bd_some]
  by_cases c1 : r1 < 0
  · rw [if_pos c1]; exact ⟨-1, rfl, fun h => by omega⟩
  rw [if_neg c1]
  obtain ⟨q1, s1⟩ := p1 (by omega)
  obtain ⟨S0, S1, S2, _⟩ := s1
  obtain ⟨r2, e2, p2⟩ := szLineS_is k hk a.2.2.2.1 w3 r1 (by omega) (by omega)
  simp only [e2, bd_some]
  by_cases c2 : r2 < 0
  · rw [if_pos c2]; exact ⟨-1, rfl, fun h => by omega⟩
  rw [if_neg c2]
  obtain ⟨q2, s2⟩ := p2 (by omega)
  exact ⟨r2, rfl, fun h => ⟨by omega, ⟨S0, S1, S2, s2, trivial⟩⟩⟩
theorem toStringS_is (k : Nat) (hk : 1048576 < k) (a : (List (List UInt8))) (h : Kd.Small (.sl false .str) a) : z42 k (a, ()) = some ((a, ()), ((), ())) := by
  obtain ⟨h0, h1⟩ := h
  have h0 : a.length ≤ 1048576 := h0
  unfold z42
  have hm : 0 ≤ (a.length : Int) ∧ (a.length : Int) ≤ (a.length : Int) ∧ (a.length : Int) * 16 ≤ maxBytes := by simp [maxBytes]; omega
  simp only [br_dec, if_pos hm, Int.toNat_natCast]
  generalize hz : (Kd.z .str : (List UInt8)) = z
  exact to_loop (b := z42.l0 k) (fun i out => (a, out, (i : Int), ())) a z (fun G i hi out ho hg => by
    have h2 : ((i : Int) < (a.length : Int)) := by omega
    have h3 : (0 : Int) ≤ (i : Int) := by omega
    have h4 : 0 ≤ (i : Int) ∧ (i : Int) < (out.length : Int) := by omega
    simp only [z42.l0, br_dec, if_pos h2, if_pos h3, if_pos h4, Int.toNat_natCast, List.getElem?_eq_getElem hi, hg, bd_some]
    rw [wrap_succ (by omega)]
    try rfl) (fun G out => by
    have h2 : ¬ ((a.length : Int) < (a.length : Int)) := by omega
    simp only [z42.l0, br_dec, if_neg h2]) (by omega)
theorem toArr_is (k : Nat) (hk : 1048576 < k) (a : ((List UInt8) × Int × Unit)) (h : Kd.Small (.cons .str (.cons (.int .i64) .nil)) a) : z170 k (a, ()) = some ((a, ()), ((), ())) := by
  rfl
theorem toArrS_is (k : Nat) (hk : 1048576 < k) (a : (List ((List UInt8) × Int × Unit))) (h : Kd.Small (.sl false (.cons .str (.cons (.int .i64) .nil))) a) : z56 k (a, ()) = some ((a, ()), ((), ())) := by
  obtain ⟨h0, h1⟩ := h
  have h0 : a.length ≤ 1048576 := h0
  unfold z56
  have hm : 0 ≤ (a.length : Int) ∧ (a.length : Int) ≤ (a.length : Int) ∧ (a.length : Int) * 24 ≤ maxBytes := by simp [maxBytes]; omega
  simp only [br_dec, if_pos hm, Int.toNat_natCast]
  generalize hz : (Kd.z (.cons .str (.cons (.int .i64) .nil)) : ((List UInt8) × Int × Unit)) = z
  exact to_loop (b := z56.l0 k) (fun i out => (a, out, (i : Int), ())) a z (fun G i hi out ho hg => by
    have h2 : ((i : Int) < (a.length : Int)) := by omega
    have h3 : (0 : Int) ≤ (i : Int) := by omega
    have h4 : 0 ≤ (i : Int) ∧ (i : Int) < (out.length : Int) := by omega
    simp only [z56.l0, br_dec, if_pos h2, if_pos h3, if_pos h4, Int.toNat_natCast, List.getElem?_eq_getElem hi, hg, bd_some, toArr_is k hk a[i] (h1 _ (List.getElem_mem hi))]
    rw [wrap_succ (by omega)]
    try rfl) (fun G out => by
    have h2 : ¬ ((a.length : Int) < (a.length : Int)) := by omega
    simp only [z56.l0, br_dec, if_neg h2]) (by omega)
theorem toDecl_is (k : Nat) (hk : 1048576 < k) (a : ((List (List UInt8)) × (List (List UInt8)) × (List ((List UInt8) × Int × Unit)) × Unit)) (h : Kd.Small (.cons (.sl false .str) (.cons (.sl false .str) (.cons (.sl false (.cons .str (.cons (.int .i64) .nil))) .nil))) a) : z136 k (a, ()) = some ((a, ()), ((), ())) := by
  obtain ⟨h0, h1, h2, _⟩ := h
  unfold z136
  simp only [toStringS_is k hk a.1 h0, toStringS_is k hk a.2.1 h1, toArrS_is k hk a.2.2.1 h2, bd_some]
theorem toTok_is (k : Nat) (hk : 1048576 < k) (a : (Int × Int × Unit)) (h : Kd.Small (.cons (.int .i64) (.cons (.int .i64) .nil)) a) : z171 k (a, ()) = some ((a, ()), ((), ())) := by
  rfl
theorem toTokS_is (k : Nat) (hk : 1048576 < k) (a : (List (Int × Int × Unit))) (h : Kd.Small (.sl false (.cons (.int .i64) (.cons (.int .i64) .nil))) a) : z43 k (a, ()) = some ((a, ()), ((), ())) := by
  obtain ⟨h0, h1⟩ := h
  have h0 : a.length ≤ 1048576 := h0
  unfold z43
  have hm : 0 ≤ (a.length : Int) ∧ (a.length : Int) ≤ (a.length : Int) ∧ (a.length : Int) * 16 ≤ maxBytes := by simp [maxBytes]; omega
  simp only [br_dec, if_pos hm, Int.toNat_natCast]
  generalize hz : (Kd.z (.cons (.int .i64) (.cons (.int .i64) .nil)) : (Int × Int × Unit)) = z
  exact to_loop (b := z43.l0 k) (fun i out => (a, out, (i : Int), ())) a z (fun G i hi out ho hg => by
    have h2 : ((i : Int) < (a.length : Int)) := by omega
    have h3 : (0 : Int) ≤ (i : Int) := by omega
    have h4 : 0 ≤ (i : Int) ∧ (i : Int) < (out.length : Int) := by omega
    simp only [z43.l0, br_dec, if_pos h2, if_pos h3, if_pos h4, Int.toNat_natCast, List.getElem?_eq_getElem hi, hg, bd_some, toTok_is k hk a[i] (h1 _ (List.getElem_mem hi))]
    rw [wrap_succ (by omega)]
    try rfl) (fun G out => by
    have h2 : ¬ ((a.length : Int) < (a.length : Int)) := by omega
    simp only [z43.l0, br_dec, if_neg h2]) (by omega)
theorem toLine_is (k : Nat) (hk : 1048576 < k) (a : (Int × Int × (List (Int × Int × Unit)) × (List (Int × Int × Unit)) × Int × Int × Unit)) (h : Kd.Small (.cons (.int .i64) (.cons (.int .i64) (.cons (.sl false (.cons (.int .i64) (.cons (.int .i64) .nil))) (.cons (.sl false (.cons (.int .i64) (.cons (.int .i64) .nil))) (.cons (.int .i64) (.cons (.int .i64) .nil)))))) a) : z137 k (a, ()) = some ((a, ()), ((), ())) := by
  obtain ⟨h0, h1, h2, h3, h4, h5, _⟩ := h
  unfold z137
  simp only [toTokS_is k hk a.2.2.1 h2, toTokS_is k hk a.2.2.2.1 h3, bd_some]
theorem toLineS_is (k : Nat) (hk : 1048576 < k) (a : (List (Int × Int × (List (Int × Int × Unit)) × (List (Int × Int × Unit)) × Int × Int × Unit))) (h : Kd.Small (.sl false (.cons (.int .i64) (.cons (.int .i64) (.cons (.sl false (.cons (.int .i64) (.cons (.int .i64) .nil))) (.cons (.sl false (.cons (.int .i64) (.cons (.int .i64) .nil))) (.cons (.int .i64) (.cons (.int .i64) .nil))))))) a) : z57 k (a, ()) = some ((a, ()), ((), ())) := by
  obtain ⟨h0, h1⟩ := h
  have h0 : a.length ≤ 1048576 := h0
  unfold z57
  have hm : 0 ≤ (a.length : Int) ∧ (a.length : Int) ≤ (a.length : Int) ∧ (a.length : Int) * 80 ≤ maxBytes := by simp [maxBytes]; omega
  simp only [br_dec, if_pos hm, Int.toNat_natCast]
  generalize hz : (Sh.z (.cons (.pur (.int .i64)) (.cons (.pur (.int .i64)) (.cons (.own (.cons (.int .i64) (.cons (.int .i64) .nil))) (.cons (.own (.cons (.int .i64) (.cons (.int .i64) .nil))) (.cons (.pur (.int .i64)) (.cons (.pur (.int .i64)) .nil)))))) : (Int × Int × (List (Int × Int × Unit)) × (List (Int × Int × Unit)) × Int × Int × Unit)) = z
  exact to_loop (b := z57.l0 k) (fun i out => (a, out, (i : Int), ())) a z (fun G i hi out ho hg => by
    have h2 : ((i : Int) < (a.length : Int)) := by omega
    have h3 : (0 : Int) ≤ (i : Int) := by omega
    have h4 : 0 ≤ (i : Int) ∧ (i : Int) < (out.length : Int) := by omega
    simp only [z57.l0, br_dec, if_pos h2, if_pos h3, if_pos h4, Int.toNat_natCast, List.getElem?_eq_getElem hi, hg, bd_some, toLine_is k hk a[i] (h1 _ (List.getElem_mem hi))]
    rw [wrap_succ (by omega)]
    try rfl) (fun G out => by
    have h2 : ¬ ((a.length : Int) < (a.length : Int)) := by omega
    simp only [z57.l0, br_dec, if_neg h2]) (by omega)
theorem toProg_is (k : Nat) (hk : 1048576 < k) (a : ((List (List UInt8)) × (List (List UInt8)) × (List ((List UInt8) × Int × Unit)) × (List (Int × Int × (List (Int × Int × Unit)) × (List (Int × Int × Unit)) × Int × Int × Unit)) × Unit)) (h : Kd.Small (.cons (.sl false .str) (.cons (.sl false .str) (.cons (.sl false (.cons .str (.cons (.int .i64) .nil))) (.cons (.sl false (.cons (.int .i64) (.cons (.int .i64) (.cons (.sl false (.cons (.int .i64) (.cons (.int .i64) .nil))) (.cons (.sl false (.cons (.int .i64) (.cons (.int .i64) .nil))) (.cons (.int .i64) (.cons (.int .i64) .nil))))))) .nil)))) a) : z95 k (a, ()) = some ((a, ()), ((), ())) := by
  obtain ⟨h0, h1, h2, h3, _⟩ := h
  unfold z95
  simp only [toDecl_is k hk (a.1, a.2.1, a.2.2.1, ()) ⟨h0, h1, h2, trivial⟩, toLineS_is k hk a.2.2.2.1 h3, bd_some]
theorem toInt64S_is (k : Nat) (hk : 1048576 < k) (a : (List Int)) (h : Kd.Small (.sl false (.int .i64)) a) : z29 k (a, ()) = some ((a, ()), ((), ())) := by
  obtain ⟨h0, h1⟩ := h
  have h0 : a.length ≤ 1048576 := h0
  unfold z29
  have hm : 0 ≤ (a.length : Int) ∧ (a.length : Int) ≤ (a.length : Int) ∧ (a.length : Int) * 8 ≤ maxBytes := by simp [maxBytes]; omega
  simp only [br_dec, if_pos hm, Int.toNat_natCast]
  generalize hz : (Kd.z (.int .i64) : Int) = z
  exact to_loop (b := z29.l0 k) (fun i out => (a, out, (i : Int), ())) a z (fun G i hi out ho hg => by
    have h2 : ((i : Int) < (a.length : Int)) := by omega
    have h3 : (0 : Int) ≤ (i : Int) := by omega
    have h4 : 0 ≤ (i : Int) ∧ (i : Int) < (out.length : Int) := by omega
    simp only [z29.l0, br_dec, if_pos h2, if_pos h3, if_pos h4, Int.toNat_natCast, List.getElem?_eq_getElem hi, hg, bd_some]
    rw [wrap_succ (by omega)]
    try rfl) (fun G out => by
    have h2 : ¬ ((a.length : Int) < (a.length : Int)) := by omega
    simp only [z29.l0, br_dec, if_neg h2]) (by omega)
theorem eqInt64S_is (k : Nat) (hk : 1048576 < k) (a : (List Int)) (h : Kd.Small (.sl false (.int .i64)) a) : z19 k (a, a, ()) = some ((true, ()), ((), (), ())) := by
  obtain ⟨h0, h1⟩ := h
  have h0 : a.length ≤ 1048576 := h0
  unfold z19
  have hb : ((a.length : Int) != (a.length : Int)) = false := by simp
  simp only [hb, br_false]
  exact iter_for (b := z19.l0 k) (fun i => (a, a, (i : Int), ())) a.length (fun G i hi => by
    have h2 : ((i : Int) < (a.length : Int)) := by omega
    have h3 : (0 : Int) ≤ (i : Int) := by omega
    simp only [z19.l0, br_dec, if_pos h2, if_pos h3, Int.toNat_natCast, List.getElem?_eq_getElem hi, bd_some, bne_self_eq_false, BEq.rfl, Bool.not_true, br_false]
    rw [wrap_succ (by omega)]) (fun G => by
    have h2 : ¬ ((a.length : Int) < (a.length : Int)) := by omega
    simp only [z19.l0, br_dec, if_neg h2]) (by omega)
theorem eqBoolS_is (k : Nat) (hk : 1048576 < k) (a : (List Bool)) (h : Kd.Small (.sl false .bool) a) : z72 k (a, a, ()) = some ((true, ()), ((), (), ())) := by
  obtain ⟨h0, h1⟩ := h
  have h0 : a.length ≤ 1048576 := h0
  unfold z72
  have hb : ((a.length : Int) != (a.length : Int)) = false := by simp
  simp only [hb, br_false]
  exact iter_for (b := z72.l0 k) (fun i => (a, a, (i : Int), ())) a.length (fun G i hi => by
    have h2 : ((i : Int) < (a.length : Int)) := by omega
    have h3 : (0 : Int) ≤ (i : Int) := by omega
    simp only [z72.l0, br_dec, if_pos h2, if_pos h3, Int.toNat_natCast, List.getElem?_eq_getElem hi, bd_some, bne_self_eq_false, BEq.rfl, Bool.not_true, br_false]
    rw [wrap_succ (by omega)]) (fun G => by
    have h2 : ¬ ((a.length : Int) < (a.length : Int)) := by omega
    simp only [z72.l0, br_dec, if_neg h2]) (by omega)
theorem eqInt64SS_is (k : Nat) (hk : 1048576 < k) (a : (List (List Int))) (h : Kd.Small (.sl false (.sl false (.int .i64))) a) : z73 k (a, a, ()) = some ((true, ()), ((), (), ())) := by
  obtain ⟨h0, h1⟩ := h
  have h0 : a.length ≤ 1048576 := h0
  unfold z73
  have hb : ((a.length : Int) != (a.length : Int)) = false := by simp
  simp only [hb, br_false]
  exact iter_for (b := z73.l0 k) (fun i => (a, a, (i : Int), ())) a.length (fun G i hi => by
    have h2 : ((i : Int) < (a.length : Int)) := by omega
    have h3 : (0 : Int) ≤ (i : Int) := by omega
    simp only [z73.l0, br_dec, if_pos h2, if_pos h3, Int.toNat_natCast, List.getElem?_eq_getElem hi, bd_some, bne_self_eq_false, BEq.rfl, Bool.not_true, br_false, eqInt64S_is k hk a[i] (h1 _ (List.getElem_mem hi))]
    rw [wrap_succ (by omega)]) (fun G => by
    have h2 : ¬ ((a.length : Int) < (a.length : Int)) := by omega
    simp only [z73.l0, br_dec, if_neg h2]) (by omega)
theorem eqStore_is (k : Nat) (hk : 1048576 < k) (a : ((List Int) × (List Bool) × (List (List Int)) × Unit)) (h : Kd.Small (.cons (.sl false (.int .i64)) (.cons (.sl false .bool) (.cons (.sl false (.sl false (.int .i64))) .nil))) a) : z161 k (a, a, ()) = some ((true, ()), ((), (), ())) := by
  obtain ⟨h0, h1, h2, _⟩ := h
  unfold z161
  simp only [eqInt64S_is k hk a.1 h0, eqBoolS_is k hk a.2.1 h1, eqInt64SS_is k hk a.2.2.1 h2, bd_some, bne_self_eq_false, BEq.rfl, Bool.not_true, br_false]
theorem eqStringS_is (k : Nat) (hk : 1048576 < k) (a : (List (List UInt8))) (h : Kd.Small (.sl false .str) a) : z47 k (a, a, ()) = some ((true, ()), ((), (), ())) := by
  obtain ⟨h0, h1⟩ := h
  have h0 : a.length ≤ 1048576 := h0
  unfold z47
  have hb : ((a.length : Int) != (a.length : Int)) = false := by simp
  simp only [hb, br_false]
  exact iter_for (b := z47.l0 k) (fun i => (a, a, (i : Int), ())) a.length (fun G i hi => by
    have h2 : ((i : Int) < (a.length : Int)) := by omega
    have h3 : (0 : Int) ≤ (i : Int) := by omega
    simp only [z47.l0, br_dec, if_pos h2, if_pos h3, Int.toNat_natCast, List.getElem?_eq_getElem hi, bd_some, bne_self_eq_false, BEq.rfl, Bool.not_true, br_false]
    rw [wrap_succ (by omega)]) (fun G => by
    have h2 : ¬ ((a.length : Int) < (a.length : Int)) := by omega
    simp only [z47.l0, br_dec, if_neg h2]) (by omega)
theorem eqArr_is (k : Nat) (hk : 1048576 < k) (a : ((List UInt8) × Int × Unit)) (h : Kd.Small (.cons .str (.cons (.int .i64) .nil)) a) : z162 k (a, a, ()) = some ((true, ()), ((), (), ())) := by
  obtain ⟨h0, h1, _⟩ := h
  unfold z162
  simp only [bd_some, bne_self_eq_false, BEq.rfl, Bool.not_true, br_false]
theorem eqArrS_is (k : Nat) (hk : 1048576 < k) (a : (List ((List UInt8) × Int × Unit))) (h : Kd.Small (.sl false (.cons .str (.cons (.int .i64) .nil))) a) : z74 k (a, a, ()) = some ((true, ()), ((), (), ())) := by
  obtain ⟨h0, h1⟩ := h
  have h0 : a.length ≤ 1048576 := h0
  unfold z74
  have hb : ((a.length : Int) != (a.length : Int)) = false := by simp
  simp only [hb, br_false]
  exact iter_for (b := z74.l0 k) (fun i => (a, a, (i : Int), ())) a.length (fun G i hi => by
    have h2 : ((i : Int) < (a.length : Int)) := by omega
    have h3 : (0 : Int) ≤ (i : Int) := by omega
    simp only [z74.l0, br_dec, if_pos h2, if_pos h3, Int.toNat_natCast, List.getElem?_eq_getElem hi, bd_some, bne_self_eq_false, BEq.rfl, Bool.not_true, br_false, eqArr_is k hk a[i] (h1 _ (List.getElem_mem hi))]
    rw [wrap_succ (by omega)]) (fun G => by
    have h2 : ¬ ((a.length : Int) < (a.length : Int)) := by omega
    simp only [z74.l0, br_dec, if_neg h2]) (by omega)
theorem eqDecl_is (k : Nat) (hk : 1048576 < k) (a : ((List (List UInt8)) × (List (List UInt8)) × (List ((List UInt8) × Int × Unit)) × Unit)) (h : Kd.Small (.cons (.sl false .str) (.cons (.sl false .str) (.cons (.sl false (.cons .str (.cons (.int .i64) .nil))) .nil))) a) : z163 k (a, a, ()) = some ((true, ()), ((), (), ())) := by
  obtain ⟨h0, h1, h2, _⟩ := h
  unfold z163
  simp only [eqStringS_is k hk a.1 h0, eqStringS_is k hk a.2.1 h1, eqArrS_is k hk a.2.2.1 h2, bd_some, bne_self_eq_false, BEq.rfl, Bool.not_true, br_false]
theorem eqTok_is (k : Nat) (hk : 1048576 < k) (a : (Int × Int × Unit)) (h : Kd.Small (.cons (.int .i64) (.cons (.int .i64) .nil)) a) : z164 k (a, a, ()) = some ((true, ()), ((), (), ())) := by
  obtain ⟨h0, h1, _⟩ := h
  unfold z164
  simp only [bd_some, bne_self_eq_false, BEq.rfl, Bool.not_true, br_false]
theorem eqTokS_is (k : Nat) (hk : 1048576 < k) (a : (List (Int × Int × Unit))) (h : Kd.Small (.sl false (.cons (.int .i64) (.cons (.int .i64) .nil))) a) : z48 k (a, a, ()) = some ((true, ()), ((), (), ())) := by
  obtain ⟨h0, h1⟩ := h
  have h0 : a.length ≤ 1048576 := h0
  unfold z48
  have hb : ((a.length : Int) != (a.length : Int)) = false := by simp
  simp only [hb, br_false]
  exact iter_for (b := z48.l0 k) (fun i => (a, a, (i : Int), ())) a.length (fun G i hi => by
    have h2 : ((i : Int) < (a.length : Int)) := by omega
    have h3 : (0 : Int) ≤ (i : Int) := by omega
    simp only [z48.l0, br_dec, if_pos h2, if_pos h3, Int.toNat_natCast, List.getElem?_eq_getElem hi, bd_some, bne_self_eq_false, BEq.rfl, Bool.not_true, br_false, eqTok_is k hk a[i] (h1 _ (List.getElem_mem hi))]
    rw [wrap_succ (by omega)]) (fun G => by
    have h2 : ¬ ((a.length : Int) < (a.length : Int)) := by omega
    simp only [z48.l0, br_dec, if_neg h2]) (by omega)
theorem eqLine_is (k : Nat) (hk : 1048576 < k) (a : (Int × Int × (List (Int × Int × Unit)) × (List (Int × Int × Unit)) × Int × Int × Unit)) (h : Kd.Small (.cons (.int .i64) (.cons (.int .i64) (.cons (.sl false (.cons (.int .i64) (.cons (.int .i64) .nil))) (.cons (.sl false (.cons (.int .i64) (.cons (.int .i64) .nil))) (.cons (.int .i64) (.cons (.int .i64) .nil)))))) a) : z165 k (a, a, ()) = some ((true, ()), ((), (), ())) := by
  obtain ⟨h0, h1, h2, h3, h4, h5, _⟩ := h
  unfold z165
  simp only [eqTokS_is k hk a.2.2.1 h2, eqTokS_is k hk a.2.2.2.1 h3, bd_some, bne_self_eq_false, BEq.rfl, Bool.not_true, br_false]
theorem eqLineS_is (k : Nat) (hk : 1048576 < k) (a : (List (Int × Int × (List (Int × Int × Unit)) × (List (Int × Int × Unit)) × Int × Int × Unit))) (h : Kd.Small (.sl false (.cons (.int .i64) (.cons (.int .i64) (.cons (.sl false (.cons (.int .i64) (.cons (.int .i64) .nil))) (.cons (.sl false (.cons (.int .i64) (.cons (.int .i64) .nil))) (.cons (.int .i64) (.cons (.int .i64) .nil))))))) a) : z75 k (a, a, ()) = some ((true, ()), ((), (), ())) := by
  obtain ⟨h0, h1⟩ := h
  have h0 : a.length ≤ 1048576 := h0
  unfold z75
  have hb : ((a.length : Int) != (a.length : Int)) = false := by simp
  simp only [hb, br_false]
  exact iter_for (b := z75.l0 k) (fun i => (a, a, (i : Int), ())) a.length (fun G i hi => by
    have h2 : ((i : Int) < (a.length : Int)) := by omega
    have h3 : (0 : Int) ≤ (i : Int) := by omega
    simp only [z75.l0, br_dec, if_pos h2, if_pos h3, Int.toNat_natCast, List.getElem?_eq_getElem hi, bd_some, bne_self_eq_false, BEq.rfl, Bool.not_true, br_false, eqLine_is k hk a[i] (h1 _ (List.getElem_mem hi))]
    rw [wrap_succ (by omega)]) (fun G => by
    have h2 : ¬ ((a.length : Int) < (a.length : Int)) := by omega
    simp only [z75.l0, br_dec, if_neg h2]) (by omega)
theorem eqProg_is (k : Nat) (hk : 1048576 < k) (a : ((List (List UInt8)) × (List (List UInt8)) × (List ((List UInt8) × Int × Unit)) × (List (Int × Int × (List (Int × Int × Unit)) × (List (Int × Int × Unit)) × Int × Int × Unit)) × Unit)) (h : Kd.Small (.cons (.sl false .str) (.cons (.sl false .str) (.cons (.sl false (.cons .str (.cons (.int .i64) .nil))) (.cons (.sl false (.cons (.int .i64) (.cons (.int .i64) (.cons (.sl false (.cons (.int .i64) (.cons (.int .i64) .nil))) (.cons (.sl false (.cons (.int .i64) (.cons (.int .i64) .nil))) (.cons (.int .i64) (.cons (.int .i64) .nil))))))) .nil)))) a) : z128 k (a, a, ()) = some ((true, ()), ((), (), ())) := by
  obtain ⟨h0, h1, h2, h3, _⟩ := h
  unfold z128
  simp only [eqDecl_is k hk (a.1, a.2.1, a.2.2.1, ()) ⟨h0, h1, h2, trivial⟩, eqLineS_is k hk a.2.2.2.1 h3, bd_some, bne_self_eq_false, BEq.rfl, Bool.not_true, br_false]
theorem eqEntry_is (k : Nat) (hk : 1048576 < k) (a : (Int × Int × Unit)) (h : Kd.Small (.cons (.int .i64) (.cons (.int .i64) .nil)) a) : z168 k (a, a, ()) = some ((true, ()), ((), (), ())) := by
  obtain ⟨h0, h1, _⟩ := h
  unfold z168
  simp only [bd_some, bne_self_eq_false, BEq.rfl, Bool.not_true, br_false]
theorem eqEntryS_is (k : Nat) (hk : 1048576 < k) (a : (List (Int × Int × Unit))) (h : Kd.Small (.sl false (.cons (.int .i64) (.cons (.int .i64) .nil))) a) : z78 k (a, a, ()) = some ((true, ()), ((), (), ())) := by
  obtain ⟨h0, h1⟩ := h
  have h0 : a.length ≤ 1048576 := h0
  unfold z78
  have hb : ((a.length : Int) != (a.length : Int)) = false := by simp
  simp only [hb, br_false]
  exact iter_for (b := z78.l0 k) (fun i => (a, a, (i : Int), ())) a.length (fun G i hi => by
    have h2 : ((i : Int) < (a.length : Int)) := by omega
    have h3 : (0 : Int) ≤ (i : Int) := by omega
    simp only [z78.l0, br_dec, if_pos h2, if_pos h3, Int.toNat_natCast, List.getElem?_eq_getElem hi, bd_some, bne_self_eq_false, BEq.rfl, Bool.not_true, br_false, eqEntry_is k hk a[i] (h1 _ (List.getElem_mem hi))]
    rw [wrap_succ (by omega)]) (fun G => by
    have h2 : ¬ ((a.length : Int) < (a.length : Int)) := by omega
    simp only [z78.l0, br_dec, if_neg h2]) (by omega)
theorem eqSnap_is (k : Nat) (hk : 1048576 < k) (a : (Int × (List (Int × Int × Unit)) × (List Int) × (List Bool) × (List (List Int)) × Unit)) (h : Kd.Small (.cons (.int .i64) (.cons (.sl false (.cons (.int .i64) (.cons (.int .i64) .nil))) (.cons (.sl false (.int .i64)) (.cons (.sl false .bool) (.cons (.sl false (.sl false (.int .i64))) .nil))))) a) : z169 k (a, a, ()) = some ((true, ()), ((), (), ())) := by
  obtain ⟨h0, h1, h2, h3, h4, _⟩ := h
  unfold z169
  simp only [eqEntryS_is k hk a.2.1 h1, eqStore_is k hk (a.2.2.1, a.2.2.2.1, a.2.2.2.2.1, ()) ⟨h2, h3, h4, trivial⟩, bd_some, bne_self_eq_false, BEq.rfl, Bool.not_true, br_false]
theorem eqSnapS_is (k : Nat) (hk : 1048576 < k) (a : (List (Int × (List (Int × Int × Unit)) × (List Int) × (List Bool) × (List (List Int)) × Unit))) (h : Kd.Small (.sl false (.cons (.int .i64) (.cons (.sl false (.cons (.int .i64) (.cons (.int .i64) .nil))) (.cons (.sl false (.int .i64)) (.cons (.sl false .bool) (.cons (.sl false (.sl false (.int .i64))) .nil)))))) a) : z39 k (a, a, ()) = some ((true, ()), ((), (), ())) := by
  obtain ⟨h0, h1⟩ := h
  have h0 : a.length ≤ 1048576 := h0
  unfold z39
  have hb : ((a.length : Int) != (a.length : Int)) = false := by simp
  simp only [hb, br_false]
  exact iter_for (b := z39.l0 k) (fun i => (a, a, (i : Int), ())) a.length (fun G i hi => by
    have h2 : ((i : Int) < (a.length : Int)) := by omega
    have h3 : (0 : Int) ≤ (i : Int) := by omega
    simp only [z39.l0, br_dec, if_pos h2, if_pos h3, Int.toNat_natCast, List.getElem?_eq_getElem hi, bd_some, bne_self_eq_false, BEq.rfl, Bool.not_true, br_false, eqSnap_is k hk a[i] (h1 _ (List.getElem_mem hi))]
    rw [wrap_succ (by omega)]) (fun G => by
    have h2 : ¬ ((a.length : Int) < (a.length : Int)) := by omega
    simp only [z39.l0, br_dec, if_neg h2]) (by omega)
end Go.Pev.F.Cp
end

section
/-
  Printed by marks.py: marks of the statements' data.
-/
namespace Go.Pev.F.Cp
theorem markText_loop (k : Nat) : ∀ (f : Nat) (n : Int) (o : List UInt8), 0 ≤ n → n < 10 ^ f → n ≤ 4611686018427387904 → o.length + f ≤ 1048576 → ∀ g, f < g → ∃ s, iter (z23.l0 k) g (n, o, ()) = some ((s, ()), ((), ())) := by
  intro f
  induction f with
  | zero =>
    intro n o h0 h1 hb ho g hg
    obtain ⟨g, rfl⟩ : ∃ z, g = z + 1 := ⟨g - 1, by omega⟩
    have hn : ¬ (n > 0) := by simp at h1; omega
    have hm : (((([109] : List UInt8).length + o.length : Nat) : Int) ≤ maxInt64) := by simp only [List.length_cons, List.length_nil, maxInt64]; omega
    exact ⟨[109] ++ o, by rw [iter_succ]; simp only [z23.l0, br_dec, if_neg hn, if_pos hm]⟩
  | succ f ih =>
    intro n o h0 h1 hb ho g hg
    obtain ⟨g, rfl⟩ : ∃ z, g = z + 1 := ⟨g - 1, by omega⟩
    rw [iter_succ]
    by_cases hn : n > 0
    · have h10 : (!decide ((10 : Int) = 0)) = true := by decide
      have hm : ((((([IntKind.wrap .u8 (IntKind.wrap .i64 (48 + (n.tmod 10)))] : List Int).map (fun n : Int => UInt8.ofNat n.toNat)).length + o.length : Nat) : Int) ≤ maxInt64) := by simp only [List.length_map, List.length_cons, List.length_nil, maxInt64]; omega
      have ht : n.tdiv 10 = n / 10 := tdiv10 h0
      have hw : IntKind.wrap .i64 (n / 10) = n / 10 := wrap_i64 (by omega) (by omega)
      have hlt : n / 10 < 10 ^ f := by
        rw [Int.pow_succ] at h1
        exact Int.ediv_lt_of_lt_mul (by omega) h1
      obtain ⟨s, e⟩ := ih (n / 10) ((([IntKind.wrap .u8 (IntKind.wrap .i64 (48 + (n.tmod 10)))] : List Int).map (fun n : Int => UInt8.ofNat n.toNat)) ++ o) (by omega) hlt (by omega) (by simp only [List.length_append, List.length_map, List.length_cons, List.length_nil]; omega) g (by omega)
      refine ⟨s, ?_⟩
      simp only [z23.l0, br_dec, if_pos hn, h10, br_true, if_pos hm, ht, hw]
      exact e
    · have hm : (((([109] : List UInt8).length + o.length : Nat) : Int) ≤ maxInt64) := by simp only [List.length_cons, List.length_nil, maxInt64]; omega
      exact ⟨[109] ++ o, by simp only [z23.l0, br_dec, if_neg hn, if_pos hm]⟩
theorem markText_is (k : Nat) (hk : 1048576 < k) (n : Int) (h1 : 1 ≤ n) (h2 : n ≤ 4611686018427387904) : ∃ s, z23 k (n, ()) = some ((s, ()), ((), ())) := by
  unfold z23
  have hn : ¬ (n ≤ 0) := by omega
  simp only [br_dec, if_neg hn]
  exact markText_loop k 64 n [] (by omega) (by have : (4611686018427387904 : Int) < 10 ^ 64 := by decide
                                               omega) h2 (by simp) k (by omega)
def PStringS (k : Nat) (n : Int) (x : (List UInt8)) (m : Int) : Prop := (1 ≤ n ∧ n ≤ m ∧ m ≤ 4611686018427387904) ∧ z23 k (n, ()) = some ((x, ()), ((), ())) ∧ m = (n + 1)
theorem markStringS_is (k : Nat) (hk : 1048576 < k) (a : (List (List UInt8))) (h : Kd.Small (.sl false .str) a) (n : Int) (h1 : 1 ≤ n) (h2 : n + (Kd.cnt (.sl false .str) a : Nat) ≤ 4611686018427387904) :
    ∃ a' n', z76 k (a, n, ()) = some ((n', ()), (a', (), ())) ∧ n ≤ n' ∧ n' ≤ n + (Kd.cnt (.sl false .str) a : Nat) ∧ a'.length = a.length ∧ Held (PStringS k) n a' n' := by
  obtain ⟨h0, hs⟩ := h
  have h0 : a.length ≤ 1048576 := h0
  refine mark_loop (b := z76.l0 k) (fun i l n => (l, n, (i : Int), ())) a (Kd.cnt .str) (PStringS k) (fun n l => some ((n, ()), (l, (), ()))) (fun G i hi l n hl hg h1 h2 => ?_) (fun G l n hl => ?_) (by omega) n h1 h2
  · have h2 : ((i : Int) < (l.length : Int)) := by omega
    have h4 : (0 : Int) ≤ (i : Int) ∧ (i : Int) < (l.length : Int) := by omega
    have hl2 : i < l.length := by omega
    have hlt : n + ((1 : Nat) : Int) ≤ 4611686018427387904 := by assumption
    have hsm := hs _ (List.getElem_mem hi)
    obtain ⟨z0, e0⟩ := markText_is k hk n (by omega) (by omega)
    have w3 : (!decide ((3 : Int) = 0)) = true := by decide
    refine ⟨z0, (n + 1), ?_, by omega, by show (n + 1) ≤ n + ((1 : Nat) : Int); omega, ⟨by omega, by omega, by omega⟩, e0, rfl⟩
    simp (disch := omega) only [z76.l0, br_dec, List.length_set, if_pos h2, if_pos h4, Int.toNat_natCast, hg, bd_some, br_true, w3, List.getElem?_set_self hl2, List.set_set, wrap_i64, e0]
    rfl
  · have h2 : ¬ ((a.length : Int) < (l.length : Int)) := by omega
    simp only [z76.l0, br_dec, if_neg h2]
def PArrS (k : Nat) (n : Int) (x : ((List UInt8) × Int × Unit)) (m : Int) : Prop := (1 ≤ n ∧ n ≤ m ∧ m ≤ 4611686018427387904) ∧ z23 k (n, ()) = some ((x.1, ()), ((), ())) ∧ x.2.1 = (n + 1) ∧ m = ((n + 1) + 1)
theorem markArrS_is (k : Nat) (hk : 1048576 < k) (a : (List ((List UInt8) × Int × Unit))) (h : Kd.Small (.sl false (.cons .str (.cons (.int .i64) .nil))) a) (n : Int) (h1 : 1 ≤ n) (h2 : n + (Kd.cnt (.sl false (.cons .str (.cons (.int .i64) .nil))) a : Nat) ≤ 4611686018427387904) :
    ∃ a' n', z85 k (a, n, ()) = some ((n', ()), (a', (), ())) ∧ n ≤ n' ∧ n' ≤ n + (Kd.cnt (.sl false (.cons .str (.cons (.int .i64) .nil))) a : Nat) ∧ a'.length = a.length ∧ Held (PArrS k) n a' n' := by
  obtain ⟨h0, hs⟩ := h
  have h0 : a.length ≤ 1048576 := h0
  refine mark_loop (b := z85.l0 k) (fun i l n => (l, n, (i : Int), ())) a (Kd.cnt (.cons .str (.cons (.int .i64) .nil))) (PArrS k) (fun n l => some ((n, ()), (l, (), ()))) (fun G i hi l n hl hg h1 h2 => ?_) (fun G l n hl => ?_) (by omega) n h1 h2
  · have h2 : ((i : Int) < (l.length : Int)) := by omega
    have h4 : (0 : Int) ≤ (i : Int) ∧ (i : Int) < (l.length : Int) := by omega
    have hl2 : i < l.length := by omega
    have hlt : n + (((1 + (1 + 0)) : Nat) : Int) ≤ 4611686018427387904 := by assumption
    have hsm := hs _ (List.getElem_mem hi)
    obtain ⟨s0, s1, _⟩ := hsm
    obtain ⟨z0, e0⟩ := markText_is k hk n (by omega) (by omega)
    have w3 : (!decide ((3 : Int) = 0)) = true := by decide
    refine ⟨(z0, (n + 1), ()), ((n + 1) + 1), ?_, by omega, by show ((n + 1) + 1) ≤ n + (((1 + (1 + 0)) : Nat) : Int); omega, ⟨by omega, by omega, by omega⟩, e0, rfl, rfl⟩
    simp (disch := omega) only [z85.l0, br_dec, List.length_set, if_pos h2, if_pos h4, Int.toNat_natCast, hg, bd_some, br_true, w3, List.getElem?_set_self hl2, List.set_set, wrap_i64, e0]
    rfl
  · have h2 : ¬ ((a.length : Int) < (l.length : Int)) := by omega
    simp only [z85.l0, br_dec, if_neg h2]
theorem markDecl_is (k : Nat) (hk : 1048576 < k) (a : ((List (List UInt8)) × (List (List UInt8)) × (List ((List UInt8) × Int × Unit)) × Unit)) (h : Kd.Small (.cons (.sl false .str) (.cons (.sl false .str) (.cons (.sl false (.cons .str (.cons (.int .i64) .nil))) .nil))) a) (n : Int) (h1 : 1 ≤ n) (h2 : n + (Kd.cnt (.cons (.sl false .str) (.cons (.sl false .str) (.cons (.sl false (.cons .str (.cons (.int .i64) .nil))) .nil))) a : Nat) ≤ 4611686018427387904) :
    ∃ (z0 : (List (List UInt8))) (z1 : (List (List UInt8))) (z2 : (List ((List UInt8) × Int × Unit))) (n' : Int), z166 k (a, n, ()) = some ((n', ()), ((z0, z1, z2, ()), (), ())) ∧ n ≤ n' ∧ n' ≤ n + (Kd.cnt (.cons (.sl false .str) (.cons (.sl false .str) (.cons (.sl false (.cons .str (.cons (.int .i64) .nil))) .nil))) a : Nat) := by
  obtain ⟨a0, a1, a2, ⟨⟩⟩ := a
  obtain ⟨s0, s1, s2, _⟩ := h
  have hlt : n + (((Kd.cnt (.sl false .str) a0 + (Kd.cnt (.sl false .str) a1 + (Kd.cnt (.sl false (.cons .str (.cons (.int .i64) .nil))) a2 + 0))) : Nat) : Int) ≤ 4611686018427387904 := h2
  obtain ⟨z0, n1, e1, l1, u1, g1, H1⟩ := markStringS_is k hk a0 s0 n (by omega) (by omega)
  obtain ⟨z1, n2, e2, l2, u2, g2, H2⟩ := markStringS_is k hk a1 s1 n1 (by omega) (by omega)
  obtain ⟨z2, n3, e3, l3, u3, g3, H3⟩ := markArrS_is k hk a2 s2 n2 (by omega) (by omega)
  refine ⟨z0, z1, z2, n3, ?_, by omega, by show n3 ≤ n + (((Kd.cnt (.sl false .str) a0 + (Kd.cnt (.sl false .str) a1 + (Kd.cnt (.sl false (.cons .str (.cons (.int .i64) .nil))) a2 + 0))) : Nat) : Int); omega⟩
  · unfold z166
    simp only [e1, e2, e3, bd_some]
def PTokS (k : Nat) (n : Int) (x : (Int × Int × Unit)) (m : Int) : Prop := (1 ≤ n ∧ n ≤ m ∧ m ≤ 4611686018427387904) ∧ x.1 = n ∧ x.2.1 = (n + 1) ∧ m = ((n + 1) + 1)
theorem markTokS_is (k : Nat) (hk : 1048576 < k) (a : (List (Int × Int × Unit))) (h : Kd.Small (.sl false (.cons (.int .i64) (.cons (.int .i64) .nil))) a) (n : Int) (h1 : 1 ≤ n) (h2 : n + (Kd.cnt (.sl false (.cons (.int .i64) (.cons (.int .i64) .nil))) a : Nat) ≤ 4611686018427387904) :
    ∃ a' n', z77 k (a, n, ()) = some ((n', ()), (a', (), ())) ∧ n ≤ n' ∧ n' ≤ n + (Kd.cnt (.sl false (.cons (.int .i64) (.cons (.int .i64) .nil))) a : Nat) ∧ a'.length = a.length ∧ Held (PTokS k) n a' n' := by
  obtain ⟨h0, hs⟩ := h
  have h0 : a.length ≤ 1048576 := h0
  refine mark_loop (b := z77.l0 k) (fun i l n => (l, n, (i : Int), ())) a (Kd.cnt (.cons (.int .i64) (.cons (.int .i64) .nil))) (PTokS k) (fun n l => some ((n, ()), (l, (), ()))) (fun G i hi l n hl hg h1 h2 => ?_) (fun G l n hl => ?_) (by omega) n h1 h2
  · have h2 : ((i : Int) < (l.length : Int)) := by omega
    have h4 : (0 : Int) ≤ (i : Int) ∧ (i : Int) < (l.length : Int) := by omega
    have hl2 : i < l.length := by omega
    have hlt : n + (((1 + (1 + 0)) : Nat) : Int) ≤ 4611686018427387904 := by assumption
    have hsm := hs _ (List.getElem_mem hi)
    obtain ⟨s0, s1, _⟩ := hsm
    have w3 : (!decide ((3 : Int) = 0)) = true := by decide
    refine ⟨(n, (n + 1), ()), ((n + 1) + 1), ?_, by omega, by show ((n + 1) + 1) ≤ n + (((1 + (1 + 0)) : Nat) : Int); omega, ⟨by omega, by omega, by omega⟩, rfl, rfl, rfl⟩
    simp (disch := omega) only [z77.l0, br_dec, List.length_set, if_pos h2, if_pos h4, Int.toNat_natCast, hg, bd_some, br_true, w3, List.getElem?_set_self hl2, List.set_set, wrap_i64]
    rfl
  · have h2 : ¬ ((a.length : Int) < (l.length : Int)) := by omega
    simp only [z77.l0, br_dec, if_neg h2]
def PLineS (k : Nat) (n : Int) (x : (Int × Int × (List (Int × Int × Unit)) × (List (Int × Int × Unit)) × Int × Int × Unit)) (m : Int) : Prop := (1 ≤ n ∧ n ≤ m ∧ m ≤ 4611686018427387904) ∧ ∃ n3 : Int, ∃ n4 : Int, x.1 = n ∧ x.2.1 = (n + 1) ∧ Held (PTokS k) ((n + 1) + 1) x.2.2.1 n3 ∧ x.2.2.1.length ≤ 1048576 ∧ Held (PTokS k) n3 x.2.2.2.1 n4 ∧ x.2.2.2.1.length ≤ 1048576 ∧ x.2.2.2.2.1 = n4 ∧ x.2.2.2.2.2.1 = (n4 + 1) ∧ m = ((n4 + 1) + 1)
theorem markLineS_is (k : Nat) (hk : 1048576 < k) (a : (List (Int × Int × (List (Int × Int × Unit)) × (List (Int × Int × Unit)) × Int × Int × Unit))) (h : Kd.Small (.sl false (.cons (.int .i64) (.cons (.int .i64) (.cons (.sl false (.cons (.int .i64) (.cons (.int .i64) .nil))) (.cons (.sl false (.cons (.int .i64) (.cons (.int .i64) .nil))) (.cons (.int .i64) (.cons (.int .i64) .nil))))))) a) (n : Int) (h1 : 1 ≤ n) (h2 : n + (Kd.cnt (.sl false (.cons (.int .i64) (.cons (.int .i64) (.cons (.sl false (.cons (.int .i64) (.cons (.int .i64) .nil))) (.cons (.sl false (.cons (.int .i64) (.cons (.int .i64) .nil))) (.cons (.int .i64) (.cons (.int .i64) .nil))))))) a : Nat) ≤ 4611686018427387904) :
    ∃ a' n', z86 k (a, n, ()) = some ((n', ()), (a', (), ())) ∧ n ≤ n' ∧ n' ≤ n + (Kd.cnt (.sl false (.cons (.int .i64) (.cons (.int .i64) (.cons (.sl false (.cons (.int .i64) (.cons (.int .i64) .nil))) (.cons (.sl false (.cons (.int .i64) (.cons (.int .i64) .nil))) (.cons (.int .i64) (.cons (.int .i64) .nil))))))) a : Nat) ∧ a'.length = a.length ∧ Held (PLineS k) n a' n' := by
  obtain ⟨h0, hs⟩ := h
  have h0 : a.length ≤ 1048576 := h0
  refine mark_loop (b := z86.l0 k) (fun i l n => (l, n, (i : Int), ())) a (Kd.cnt (.cons (.int .i64) (.cons (.int .i64) (.cons (.sl false (.cons (.int .i64) (.cons (.int .i64) .nil))) (.cons (.sl false (.cons (.int .i64) (.cons (.int .i64) .nil))) (.cons (.int .i64) (.cons (.int .i64) .nil))))))) (PLineS k) (fun n l => some ((n, ()), (l, (), ()))) (fun G i hi l n hl hg h1 h2 => ?_) (fun G l n hl => ?_) (by omega) n h1 h2
  · have h2 : ((i : Int) < (l.length : Int)) := by omega
    have h4 : (0 : Int) ≤ (i : Int) ∧ (i : Int) < (l.length : Int) := by omega
    have hl2 : i < l.length := by omega
    have hlt : n + (((1 + (1 + (Kd.cnt (.sl false (.cons (.int .i64) (.cons (.int .i64) .nil))) a[i].2.2.1 + (Kd.cnt (.sl false (.cons (.int .i64) (.cons (.int .i64) .nil))) a[i].2.2.2.1 + (1 + (1 + 0)))))) : Nat) : Int) ≤ 4611686018427387904 := by assumption
    have hsm := hs _ (List.getElem_mem hi)
    obtain ⟨s0, s1, s2, s3, s4, s5, _⟩ := hsm
    obtain ⟨z2, n3, e2, l2, u2, g2, H2⟩ := markTokS_is k hk a[i].2.2.1 s2 ((n + 1) + 1) (by omega) (by omega)
    obtain ⟨z3, n4, e3, l3, u3, g3, H3⟩ := markTokS_is k hk a[i].2.2.2.1 s3 n3 (by omega) (by omega)
    have w3 : (!decide ((3 : Int) = 0)) = true := by decide
    refine ⟨(n, (n + 1), z2, z3, n4, (n4 + 1), ()), ((n4 + 1) + 1), ?_, by omega, by show ((n4 + 1) + 1) ≤ n + (((1 + (1 + (Kd.cnt (.sl false (.cons (.int .i64) (.cons (.int .i64) .nil))) a[i].2.2.1 + (Kd.cnt (.sl false (.cons (.int .i64) (.cons (.int .i64) .nil))) a[i].2.2.2.1 + (1 + (1 + 0)))))) : Nat) : Int); omega, ⟨by omega, by omega, by omega⟩, n3, n4, rfl, rfl, H2, by rw [g2]; exact s2.1, H3, by rw [g3]; exact s3.1, rfl, rfl, rfl⟩
    simp (disch := omega) only [z86.l0, br_dec, List.length_set, if_pos h2, if_pos h4, Int.toNat_natCast, hg, bd_some, br_true, w3, List.getElem?_set_self hl2, List.set_set, wrap_i64, e2, e3]
    rfl
  · have h2 : ¬ ((a.length : Int) < (l.length : Int)) := by omega
    simp only [z86.l0, br_dec, if_neg h2]
theorem markProg_is (k : Nat) (hk : 1048576 < k) (a : ((List (List UInt8)) × (List (List UInt8)) × (List ((List UInt8) × Int × Unit)) × (List (Int × Int × (List (Int × Int × Unit)) × (List (Int × Int × Unit)) × Int × Int × Unit)) × Unit)) (h : Kd.Small (.cons (.sl false .str) (.cons (.sl false .str) (.cons (.sl false (.cons .str (.cons (.int .i64) .nil))) (.cons (.sl false (.cons (.int .i64) (.cons (.int .i64) (.cons (.sl false (.cons (.int .i64) (.cons (.int .i64) .nil))) (.cons (.sl false (.cons (.int .i64) (.cons (.int .i64) .nil))) (.cons (.int .i64) (.cons (.int .i64) .nil))))))) .nil)))) a) (n : Int) (h1 : 1 ≤ n) (h2 : n + (Kd.cnt (.cons (.sl false .str) (.cons (.sl false .str) (.cons (.sl false (.cons .str (.cons (.int .i64) .nil))) (.cons (.sl false (.cons (.int .i64) (.cons (.int .i64) (.cons (.sl false (.cons (.int .i64) (.cons (.int .i64) .nil))) (.cons (.sl false (.cons (.int .i64) (.cons (.int .i64) .nil))) (.cons (.int .i64) (.cons (.int .i64) .nil))))))) .nil)))) a : Nat) ≤ 4611686018427387904) :
    ∃ (z0 : (List (List UInt8))) (z1 : (List (List UInt8))) (z2 : (List ((List UInt8) × Int × Unit))) (z3 : (List (Int × Int × (List (Int × Int × Unit)) × (List (Int × Int × Unit)) × Int × Int × Unit))) (n' : Int), z129 k (a, n, ()) = some ((n', ()), ((z0, z1, z2, z3, ()), (), ())) ∧ n ≤ n' ∧ n' ≤ n + (Kd.cnt (.cons (.sl false .str) (.cons (.sl false .str) (.cons (.sl false (.cons .str (.cons (.int .i64) .nil))) (.cons (.sl false (.cons (.int .i64) (.cons (.int .i64) (.cons (.sl false (.cons (.int .i64) (.cons (.int .i64) .nil))) (.cons (.sl false (.cons (.int .i64) (.cons (.int .i64) .nil))) (.cons (.int .i64) (.cons (.int .i64) .nil))))))) .nil)))) a : Nat) := by
  obtain ⟨a0, a1, a2, a3, ⟨⟩⟩ := a
  obtain ⟨s0, s1, s2, s3, _⟩ := h
  have hlt : n + (((Kd.cnt (.sl false .str) a0 + (Kd.cnt (.sl false .str) a1 + (Kd.cnt (.sl false (.cons .str (.cons (.int .i64) .nil))) a2 + (Kd.cnt (.sl false (.cons (.int .i64) (.cons (.int .i64) (.cons (.sl false (.cons (.int .i64) (.cons (.int .i64) .nil))) (.cons (.sl false (.cons (.int .i64) (.cons (.int .i64) .nil))) (.cons (.int .i64) (.cons (.int .i64) .nil))))))) a3 + 0)))) : Nat) : Int) ≤ 4611686018427387904 := h2
  obtain ⟨z0, z1, z2, n1, e1, l1, u1⟩ := markDecl_is k hk (a0, a1, a2, ()) ⟨s0, s1, s2, trivial⟩ n (by omega) (by show n + (((Kd.cnt (.sl false .str) a0 + (Kd.cnt (.sl false .str) a1 + (Kd.cnt (.sl false (.cons .str (.cons (.int .i64) .nil))) a2 + 0))) : Nat) : Int) ≤ 4611686018427387904; omega)
  have u1 : n1 ≤ n + (((Kd.cnt (.sl false .str) a0 + (Kd.cnt (.sl false .str) a1 + (Kd.cnt (.sl false (.cons .str (.cons (.int .i64) .nil))) a2 + 0))) : Nat) : Int) := u1
  obtain ⟨z3, n2, e2, l2, u2, g2, H2⟩ := markLineS_is k hk a3 s3 n1 (by omega) (by omega)
  refine ⟨z0, z1, z2, z3, n2, ?_, by omega, by show n2 ≤ n + (((Kd.cnt (.sl false .str) a0 + (Kd.cnt (.sl false .str) a1 + (Kd.cnt (.sl false (.cons .str (.cons (.int .i64) .nil))) a2 + (Kd.cnt (.sl false (.cons (.int .i64) (.cons (.int .i64) (.cons (.sl false (.cons (.int .i64) (.cons (.int .i64) .nil))) (.cons (.sl false (.cons (.int .i64) (.cons (.int .i64) .nil))) (.cons (.int .i64) (.cons (.int .i64) .nil))))))) a3 + 0)))) : Nat) : Int); omega⟩
  · unfold z129
    simp only [e1, e2, bd_some]
def PInt64S (k : Nat) (n : Int) (x : Int) (m : Int) : Prop := (1 ≤ n ∧ n ≤ m ∧ m ≤ 4611686018427387904) ∧ x = n ∧ m = (n + 1)
theorem markInt64S_is (k : Nat) (hk : 1048576 < k) (a : (List Int)) (h : Kd.Small (.sl false (.int .i64)) a) (n : Int) (h1 : 1 ≤ n) (h2 : n + (Kd.cnt (.sl false (.int .i64)) a : Nat) ≤ 4611686018427387904) :
    ∃ a' n', z27 k (a, n, ()) = some ((n', ()), (a', (), ())) ∧ n ≤ n' ∧ n' ≤ n + (Kd.cnt (.sl false (.int .i64)) a : Nat) ∧ a'.length = a.length ∧ Held (PInt64S k) n a' n' := by
  obtain ⟨h0, hs⟩ := h
  have h0 : a.length ≤ 1048576 := h0
  refine mark_loop (b := z27.l0 k) (fun i l n => (l, n, (i : Int), ())) a (Kd.cnt (.int .i64)) (PInt64S k) (fun n l => some ((n, ()), (l, (), ()))) (fun G i hi l n hl hg h1 h2 => ?_) (fun G l n hl => ?_) (by omega) n h1 h2
  · have h2 : ((i : Int) < (l.length : Int)) := by omega
    have h4 : (0 : Int) ≤ (i : Int) ∧ (i : Int) < (l.length : Int) := by omega
    have hl2 : i < l.length := by omega
    have hlt : n + ((1 : Nat) : Int) ≤ 4611686018427387904 := by assumption
    have hsm := hs _ (List.getElem_mem hi)
    have w3 : (!decide ((3 : Int) = 0)) = true := by decide
    refine ⟨n, (n + 1), ?_, by omega, by show (n + 1) ≤ n + ((1 : Nat) : Int); omega, ⟨by omega, by omega, by omega⟩, rfl, rfl⟩
    simp (disch := omega) only [z27.l0, br_dec, List.length_set, if_pos h2, if_pos h4, Int.toNat_natCast, hg, bd_some, br_true, w3, List.getElem?_set_self hl2, List.set_set, wrap_i64]
    rfl
  · have h2 : ¬ ((a.length : Int) < (l.length : Int)) := by omega
    simp only [z27.l0, br_dec, if_neg h2]
theorem heldInt64S_is (k : Nat) (hk : 1048576 < k) (a : (List Int)) (h0 : a.length ≤ 1048576) (n n' : Int) (H : Held (PInt64S k) n a n') : z36 k (a, n, ()) = some ((n', ()), ((), (), ())) := by
  refine held_loop (b := z36.l0 k) (fun i n => (a, n, (i : Int), ())) a (PInt64S k) (fun n => some ((n, ()), ((), (), ()))) (fun G i hi n m hP => ?_) (fun G n => ?_) (by omega) H
  · have h2 : ((i : Int) < (a.length : Int)) := by omega
    have h4 : (0 : Int) ≤ (i : Int) := by omega
    have w3 : (!decide ((3 : Int) = 0)) = true := by decide
    generalize hx : a[i] = x at hP
    have hg : a[i]? = some x := by rw [List.getElem?_eq_getElem hi, hx]
    obtain ⟨⟨p1, p2, p3⟩, e0, rfl⟩ := hP
    simp (disch := omega) only [z36.l0, br_dec, if_pos h2, if_pos h4, Int.toNat_natCast, hg, bd_some, w3, br_true, bne_self_eq_false, BEq.rfl, Bool.not_true, br_false, wrap_i64, e0]
    rfl
  · have h2 : ¬ ((a.length : Int) < (a.length : Int)) := by omega
    simp only [z36.l0, br_dec, if_neg h2]
def PBoolS (k : Nat) (n : Int) (x : Bool) (m : Int) : Prop := (1 ≤ n ∧ n ≤ m ∧ m ≤ 4611686018427387904) ∧ x = (n.tmod 3 == 0) ∧ m = (n + 1)
theorem markBoolS_is (k : Nat) (hk : 1048576 < k) (a : (List Bool)) (h : Kd.Small (.sl false .bool) a) (n : Int) (h1 : 1 ≤ n) (h2 : n + (Kd.cnt (.sl false .bool) a : Nat) ≤ 4611686018427387904) :
    ∃ a' n', z87 k (a, n, ()) = some ((n', ()), (a', (), ())) ∧ n ≤ n' ∧ n' ≤ n + (Kd.cnt (.sl false .bool) a : Nat) ∧ a'.length = a.length ∧ Held (PBoolS k) n a' n' := by
  obtain ⟨h0, hs⟩ := h
  have h0 : a.length ≤ 1048576 := h0
  refine mark_loop (b := z87.l0 k) (fun i l n => (l, n, (i : Int), ())) a (Kd.cnt .bool) (PBoolS k) (fun n l => some ((n, ()), (l, (), ()))) (fun G i hi l n hl hg h1 h2 => ?_) (fun G l n hl => ?_) (by omega) n h1 h2
  · have h2 : ((i : Int) < (l.length : Int)) := by omega
    have h4 : (0 : Int) ≤ (i : Int) ∧ (i : Int) < (l.length : Int) := by omega
    have hl2 : i < l.length := by omega
    have hlt : n + ((1 : Nat) : Int) ≤ 4611686018427387904 := by assumption
    have hsm := hs _ (List.getElem_mem hi)
    have w3 : (!decide ((3 : Int) = 0)) = true := by decide
    refine ⟨n.tmod 3 == 0, (n + 1), ?_, by omega, by show (n + 1) ≤ n + ((1 : Nat) : Int); omega, ⟨by omega, by omega, by omega⟩, rfl, rfl⟩
    simp (disch := omega) only [z87.l0, br_dec, List.length_set, if_pos h2, if_pos h4, Int.toNat_natCast, hg, bd_some, br_true, w3, List.getElem?_set_self hl2, List.set_set, wrap_i64]
    rfl
  · have h2 : ¬ ((a.length : Int) < (l.length : Int)) := by omega
    simp only [z87.l0, br_dec, if_neg h2]
theorem heldBoolS_is (k : Nat) (hk : 1048576 < k) (a : (List Bool)) (h0 : a.length ≤ 1048576) (n n' : Int) (H : Held (PBoolS k) n a n') : z89 k (a, n, ()) = some ((n', ()), ((), (), ())) := by
  refine held_loop (b := z89.l0 k) (fun i n => (a, n, (i : Int), ())) a (PBoolS k) (fun n => some ((n, ()), ((), (), ()))) (fun G i hi n m hP => ?_) (fun G n => ?_) (by omega) H
  · have h2 : ((i : Int) < (a.length : Int)) := by omega
    have h4 : (0 : Int) ≤ (i : Int) := by omega
    have w3 : (!decide ((3 : Int) = 0)) = true := by decide
    generalize hx : a[i] = x at hP
    have hg : a[i]? = some x := by rw [List.getElem?_eq_getElem hi, hx]
    obtain ⟨⟨p1, p2, p3⟩, e0, rfl⟩ := hP
    simp (disch := omega) only [z89.l0, br_dec, if_pos h2, if_pos h4, Int.toNat_natCast, hg, bd_some, w3, br_true, bne_self_eq_false, BEq.rfl, Bool.not_true, br_false, wrap_i64, e0]
    rfl
  · have h2 : ¬ ((a.length : Int) < (a.length : Int)) := by omega
    simp only [z89.l0, br_dec, if_neg h2]
def PInt64SS (k : Nat) (n : Int) (x : (List Int)) (m : Int) : Prop := (1 ≤ n ∧ n ≤ m ∧ m ≤ 4611686018427387904) ∧ ∃ n1 : Int, Held (PInt64S k) n x n1 ∧ x.length ≤ 1048576 ∧ m = n1
theorem markInt64SS_is (k : Nat) (hk : 1048576 < k) (a : (List (List Int))) (h : Kd.Small (.sl false (.sl false (.int .i64))) a) (n : Int) (h1 : 1 ≤ n) (h2 : n + (Kd.cnt (.sl false (.sl false (.int .i64))) a : Nat) ≤ 4611686018427387904) :
    ∃ a' n', z88 k (a, n, ()) = some ((n', ()), (a', (), ())) ∧ n ≤ n' ∧ n' ≤ n + (Kd.cnt (.sl false (.sl false (.int .i64))) a : Nat) ∧ a'.length = a.length ∧ Held (PInt64SS k) n a' n' := by
  obtain ⟨h0, hs⟩ := h
  have h0 : a.length ≤ 1048576 := h0
  refine mark_loop (b := z88.l0 k) (fun i l n => (l, n, (i : Int), ())) a (Kd.cnt (.sl false (.int .i64))) (PInt64SS k) (fun n l => some ((n, ()), (l, (), ()))) (fun G i hi l n hl hg h1 h2 => ?_) (fun G l n hl => ?_) (by omega) n h1 h2
  · have h2 : ((i : Int) < (l.length : Int)) := by omega
    have h4 : (0 : Int) ≤ (i : Int) ∧ (i : Int) < (l.length : Int) := by omega
    have hl2 : i < l.length := by omega
    have hlt : n + ((Kd.cnt (.sl false (.int .i64)) a[i] : Nat) : Int) ≤ 4611686018427387904 := by assumption
    have hsm := hs _ (List.getElem_mem hi)
    obtain ⟨z0, n1, e0, l0, u0, g0, H0⟩ := markInt64S_is k hk a[i] hsm n (by omega) (by omega)
    have w3 : (!decide ((3 : Int) = 0)) = true := by decide
    refine ⟨z0, n1, ?_, by omega, by show n1 ≤ n + ((Kd.cnt (.sl false (.int .i64)) a[i] : Nat) : Int); omega, ⟨by omega, by omega, by omega⟩, n1, H0, by rw [g0]; exact hsm.1, rfl⟩
    simp (disch := omega) only [z88.l0, br_dec, List.length_set, if_pos h2, if_pos h4, Int.toNat_natCast, hg, bd_some, br_true, w3, List.getElem?_set_self hl2, List.set_set, wrap_i64, e0]
    rfl
  · have h2 : ¬ ((a.length : Int) < (l.length : Int)) := by omega
    simp only [z88.l0, br_dec, if_neg h2]
theorem heldInt64SS_is (k : Nat) (hk : 1048576 < k) (a : (List (List Int))) (h0 : a.length ≤ 1048576) (n n' : Int) (H : Held (PInt64SS k) n a n') : z90 k (a, n, ()) = some ((n', ()), ((), (), ())) := by
  refine held_loop (b := z90.l0 k) (fun i n => (a, n, (i : Int), ())) a (PInt64SS k) (fun n => some ((n, ()), ((), (), ()))) (fun G i hi n m hP => ?_) (fun G n => ?_) (by omega) H
  · have h2 : ((i : Int) < (a.length : Int)) := by omega
    have h4 : (0 : Int) ≤ (i : Int) := by omega
    have w3 : (!decide ((3 : Int) = 0)) = true := by decide
    generalize hx : a[i] = x at hP
    have hg : a[i]? = some x := by rw [List.getElem?_eq_getElem hi, hx]
    obtain ⟨⟨p1, p2, p3⟩, n1, H0, g0, rfl⟩ := hP
    have t0 := H0.le (fun _ _ _ h => h.1.2.1)
    have b0 : ¬ (m < 0) := by have := H0.le (fun _ _ _ h => h.1.2.1); omega
    simp (disch := omega) only [z90.l0, br_dec, if_pos h2, if_pos h4, Int.toNat_natCast, hg, bd_some, w3, br_true, bne_self_eq_false, BEq.rfl, Bool.not_true, br_false, wrap_i64, heldInt64S_is k hk _ g0 _ _ H0, if_neg b0]
    rfl
  · have h2 : ¬ ((a.length : Int) < (a.length : Int)) := by omega
    simp only [z90.l0, br_dec, if_neg h2]
def PEntryS (k : Nat) (n : Int) (x : (Int × Int × Unit)) (m : Int) : Prop := (1 ≤ n ∧ n ≤ m ∧ m ≤ 4611686018427387904) ∧ x.1 = n ∧ x.2.1 = (n + 1) ∧ m = ((n + 1) + 1)
theorem markEntryS_is (k : Nat) (hk : 1048576 < k) (a : (List (Int × Int × Unit))) (h : Kd.Small (.sl false (.cons (.int .i64) (.cons (.int .i64) .nil))) a) (n : Int) (h1 : 1 ≤ n) (h2 : n + (Kd.cnt (.sl false (.cons (.int .i64) (.cons (.int .i64) .nil))) a : Nat) ≤ 4611686018427387904) :
    ∃ a' n', z92 k (a, n, ()) = some ((n', ()), (a', (), ())) ∧ n ≤ n' ∧ n' ≤ n + (Kd.cnt (.sl false (.cons (.int .i64) (.cons (.int .i64) .nil))) a : Nat) ∧ a'.length = a.length ∧ Held (PEntryS k) n a' n' := by
  obtain ⟨h0, hs⟩ := h
  have h0 : a.length ≤ 1048576 := h0
  refine mark_loop (b := z92.l0 k) (fun i l n => (l, n, (i : Int), ())) a (Kd.cnt (.cons (.int .i64) (.cons (.int .i64) .nil))) (PEntryS k) (fun n l => some ((n, ()), (l, (), ()))) (fun G i hi l n hl hg h1 h2 => ?_) (fun G l n hl => ?_) (by omega) n h1 h2
  · have h2 : ((i : Int) < (l.length : Int)) := by omega
    have h4 : (0 : Int) ≤ (i : Int) ∧ (i : Int) < (l.length : Int) := by omega
    have hl2 : i < l.length := by omega
    have hlt : n + (((1 + (1 + 0)) : Nat) : Int) ≤ 4611686018427387904 := by assumption
    have hsm := hs _ (List.getElem_mem hi)
    obtain ⟨s0, s1, _⟩ := hsm
    have w3 : (!decide ((3 : Int) = 0)) = true := by decide
    refine ⟨(n, (n + 1), ()), ((n + 1) + 1), ?_, by omega, by show ((n + 1) + 1) ≤ n + (((1 + (1 + 0)) : Nat) : Int); omega, ⟨by omega, by omega, by omega⟩, rfl, rfl, rfl⟩
    simp (disch := omega) only [z92.l0, br_dec, List.length_set, if_pos h2, if_pos h4, Int.toNat_natCast, hg, bd_some, br_true, w3, List.getElem?_set_self hl2, List.set_set, wrap_i64]
    rfl
  · have h2 : ¬ ((a.length : Int) < (l.length : Int)) := by omega
    simp only [z92.l0, br_dec, if_neg h2]
theorem heldEntryS_is (k : Nat) (hk : 1048576 < k) (a : (List (Int × Int × Unit))) (h0 : a.length ≤ 1048576) (n n' : Int) (H : Held (PEntryS k) n a n') : z94 k (a, n, ()) = some ((n', ()), ((), (), ())) := by
  refine held_loop (b := z94.l0 k) (fun i n => (a, n, (i : Int), ())) a (PEntryS k) (fun n => some ((n, ()), ((), (), ()))) (fun G i hi n m hP => ?_) (fun G n => ?_) (by omega) H
  · have h2 : ((i : Int) < (a.length : Int)) := by omega
    have h4 : (0 : Int) ≤ (i : Int) := by omega
    have w3 : (!decide ((3 : Int) = 0)) = true := by decide
    generalize hx : a[i] = x at hP
    have hg : a[i]? = some x := by rw [List.getElem?_eq_getElem hi, hx]
    obtain ⟨⟨p1, p2, p3⟩, e0, e1, rfl⟩ := hP
    simp (disch := omega) only [z94.l0, br_dec, if_pos h2, if_pos h4, Int.toNat_natCast, hg, bd_some, w3, br_true, bne_self_eq_false, BEq.rfl, Bool.not_true, br_false, wrap_i64, e0, e1]
    rfl
  · have h2 : ¬ ((a.length : Int) < (a.length : Int)) := by omega
    simp only [z94.l0, br_dec, if_neg h2]
def PSnapS (k : Nat) (n : Int) (x : (Int × (List (Int × Int × Unit)) × (List Int) × (List Bool) × (List (List Int)) × Unit)) (m : Int) : Prop := (1 ≤ n ∧ n ≤ m ∧ m ≤ 4611686018427387904) ∧ ∃ n2 : Int, ∃ n3 : Int, ∃ n4 : Int, ∃ n5 : Int, x.1 = n ∧ Held (PEntryS k) (n + 1) x.2.1 n2 ∧ x.2.1.length ≤ 1048576 ∧ Held (PInt64S k) n2 x.2.2.1 n3 ∧ x.2.2.1.length ≤ 1048576 ∧ Held (PBoolS k) n3 x.2.2.2.1 n4 ∧ x.2.2.2.1.length ≤ 1048576 ∧ Held (PInt64SS k) n4 x.2.2.2.2.1 n5 ∧ x.2.2.2.2.1.length ≤ 1048576 ∧ m = n5
theorem markSnapS_is (k : Nat) (hk : 1048576 < k) (a : (List (Int × (List (Int × Int × Unit)) × (List Int) × (List Bool) × (List (List Int)) × Unit))) (h : Kd.Small (.sl false (.cons (.int .i64) (.cons (.sl false (.cons (.int .i64) (.cons (.int .i64) .nil))) (.cons (.sl false (.int .i64)) (.cons (.sl false .bool) (.cons (.sl false (.sl false (.int .i64))) .nil)))))) a) (n : Int) (h1 : 1 ≤ n) (h2 : n + (Kd.cnt (.sl false (.cons (.int .i64) (.cons (.sl false (.cons (.int .i64) (.cons (.int .i64) .nil))) (.cons (.sl false (.int .i64)) (.cons (.sl false .bool) (.cons (.sl false (.sl false (.int .i64))) .nil)))))) a : Nat) ≤ 4611686018427387904) :
    ∃ a' n', z93 k (a, n, ()) = some ((n', ()), (a', (), ())) ∧ n ≤ n' ∧ n' ≤ n + (Kd.cnt (.sl false (.cons (.int .i64) (.cons (.sl false (.cons (.int .i64) (.cons (.int .i64) .nil))) (.cons (.sl false (.int .i64)) (.cons (.sl false .bool) (.cons (.sl false (.sl false (.int .i64))) .nil)))))) a : Nat) ∧ a'.length = a.length ∧ Held (PSnapS k) n a' n' := by
  obtain ⟨h0, hs⟩ := h
  have h0 : a.length ≤ 1048576 := h0
  refine mark_loop (b := z93.l0 k) (fun i l n => (l, n, (i : Int), ())) a (Kd.cnt (.cons (.int .i64) (.cons (.sl false (.cons (.int .i64) (.cons (.int .i64) .nil))) (.cons (.sl false (.int .i64)) (.cons (.sl false .bool) (.cons (.sl false (.sl false (.int .i64))) .nil)))))) (PSnapS k) (fun n l => some ((n, ()), (l, (), ()))) (fun G i hi l n hl hg h1 h2 => ?_) (fun G l n hl => ?_) (by omega) n h1 h2
  · have h2 : ((i : Int) < (l.length : Int)) := by omega
    have h4 : (0 : Int) ≤ (i : Int) ∧ (i : Int) < (l.length : Int) := by omega
    have hl2 : i < l.length := by omega
    have hlt : n + (((1 + (Kd.cnt (.sl false (.cons (.int .i64) (.cons (.int .i64) .nil))) a[i].2.1 + (Kd.cnt (.sl false (.int .i64)) a[i].2.2.1 + (Kd.cnt (.sl false .bool) a[i].2.2.2.1 + (Kd.cnt (.sl false (.sl false (.int .i64))) a[i].2.2.2.2.1 + 0))))) : Nat) : Int) ≤ 4611686018427387904 := by assumption
    have hsm := hs _ (List.getElem_mem hi)
    obtain ⟨s0, s1, s2, s3, s4, _⟩ := hsm
    obtain ⟨z1, n2, e1, l1, u1, g1, H1⟩ := markEntryS_is k hk a[i].2.1 s1 (n + 1) (by omega) (by omega)
    obtain ⟨z2, n3, e2, l2, u2, g2, H2⟩ := markInt64S_is k hk a[i].2.2.1 s2 n2 (by omega) (by omega)
    obtain ⟨z3, n4, e3, l3, u3, g3, H3⟩ := markBoolS_is k hk a[i].2.2.2.1 s3 n3 (by omega) (by omega)
    obtain ⟨z4, n5, e4, l4, u4, g4, H4⟩ := markInt64SS_is k hk a[i].2.2.2.2.1 s4 n4 (by omega) (by omega)
    have w3 : (!decide ((3 : Int) = 0)) = true := by decide
    refine ⟨(n, z1, z2, z3, z4, ()), n5, ?_, by omega, by show n5 ≤ n + (((1 + (Kd.cnt (.sl false (.cons (.int .i64) (.cons (.int .i64) .nil))) a[i].2.1 + (Kd.cnt (.sl false (.int .i64)) a[i].2.2.1 + (Kd.cnt (.sl false .bool) a[i].2.2.2.1 + (Kd.cnt (.sl false (.sl false (.int .i64))) a[i].2.2.2.2.1 + 0))))) : Nat) : Int); omega, ⟨by omega, by omega, by omega⟩, n2, n3, n4, n5, rfl, H1, by rw [g1]; exact s1.1, H2, by rw [g2]; exact s2.1, H3, by rw [g3]; exact s3.1, H4, by rw [g4]; exact s4.1, rfl⟩
    simp (disch := omega) only [z93.l0, br_dec, List.length_set, if_pos h2, if_pos h4, Int.toNat_natCast, hg, bd_some, br_true, w3, List.getElem?_set_self hl2, List.set_set, wrap_i64, e1, e2, e3, e4]
    rfl
  · have h2 : ¬ ((a.length : Int) < (l.length : Int)) := by omega
    simp only [z93.l0, br_dec, if_neg h2]
theorem heldSnapS_is (k : Nat) (hk : 1048576 < k) (a : (List (Int × (List (Int × Int × Unit)) × (List Int) × (List Bool) × (List (List Int)) × Unit))) (h0 : a.length ≤ 1048576) (n n' : Int) (H : Held (PSnapS k) n a n') : z79 k (a, n, ()) = some ((n', ()), ((), (), ())) := by
  refine held_loop (b := z79.l0 k) (fun i n => (a, n, (i : Int), ())) a (PSnapS k) (fun n => some ((n, ()), ((), (), ()))) (fun G i hi n m hP => ?_) (fun G n => ?_) (by omega) H
  · have h2 : ((i : Int) < (a.length : Int)) := by omega
    have h4 : (0 : Int) ≤ (i : Int) := by omega
    have w3 : (!decide ((3 : Int) = 0)) = true := by decide
    generalize hx : a[i] = x at hP
    have hg : a[i]? = some x := by rw [List.getElem?_eq_getElem hi, hx]
    obtain ⟨⟨p1, p2, p3⟩, n2, n3, n4, n5, e0, H1, g1, H2, g2, H3, g3, H4, g4, rfl⟩ := hP
    have t1 := H1.le (fun _ _ _ h => h.1.2.1)
    have t2 := H2.le (fun _ _ _ h => h.1.2.1)
    have t3 := H3.le (fun _ _ _ h => h.1.2.1)
    have t4 := H4.le (fun _ _ _ h => h.1.2.1)
    have b1 : ¬ (n2 < 0) := by have := H1.le (fun _ _ _ h => h.1.2.1); omega
    have b2 : ¬ (n3 < 0) := by have := H2.le (fun _ _ _ h => h.1.2.1); omega
    have b3 : ¬ (n4 < 0) := by have := H3.le (fun _ _ _ h => h.1.2.1); omega
    have b4 : ¬ (m < 0) := by have := H4.le (fun _ _ _ h => h.1.2.1); omega
    simp (disch := omega) only [z79.l0, br_dec, if_pos h2, if_pos h4, Int.toNat_natCast, hg, bd_some, w3, br_true, bne_self_eq_false, BEq.rfl, Bool.not_true, br_false, wrap_i64, e0, heldEntryS_is k hk _ g1 _ _ H1, if_neg b1, heldInt64S_is k hk _ g2 _ _ H2, if_neg b2, heldBoolS_is k hk _ g3 _ _ H3, if_neg b3, heldInt64SS_is k hk _ g4 _ _ H4, if_neg b4]
    rfl
  · have h2 : ¬ ((a.length : Int) < (a.length : Int)) := by omega
    simp only [z79.l0, br_dec, if_neg h2]
end Go.Pev.F.Cp
end

section
/-
  FnExactTrace, in plain words.
-/
namespace Go.Pev.F
abbrev snapKdT : Kd := .cons (.int .i64) (.cons (.sl false tokKd) (.cons (.sl false (.int .i64)) (.cons (.sl false .bool) (.cons (.sl false (.sl false (.int .i64))) .nil))))
theorem trace_small {p : ProgT} {inp : List Int} {fuel : Int} : Kd.Small (.sl false snapKdT) (traceOf p inp fuel) := by
  unfold traceOf
  split
  · rename_i h
    have hA := runAt_new h
    simp only [formOk, Bool.and_eq_true, decide_eq_true_eq] at h
    have hdo := (progOk_parts h.1).1
    obtain ⟨⟨q0, q1, q2⟩, _⟩ := decl_arrs hdo
    have hl := trace_len p.2.2.2.1 (targetsOf p.2.2.2.1) inp fuel.toNat 0 (newS (declOf p)) 0 []
    refine ⟨by omega, fun x hx => ?_⟩
    obtain ⟨h1, h2, _⟩ := trace_ok _ fuel.toNat 0 (newS (declOf p)) 0 [] hA rfl rfl x hx
    have n0 := h2.n0
    have n1 := h2.n1
    have n2 := h2.n2
    have m2 := h2.m2
    unfold snapS at n0 n1 n2 m2
    simp only at n0 n1 n2 m2
    exact ⟨trivial, ⟨by omega, fun _ _ => ⟨trivial, trivial, trivial⟩⟩, ⟨by omega, fun _ _ => trivial⟩, ⟨by omega, fun _ _ => trivial⟩, ⟨by omega, fun r hr => ⟨m2 r hr, fun _ _ => trivial⟩⟩, trivial⟩
  · exact ⟨by simp, fun x hx => by cases hx⟩
theorem most_ofT {k : Kd} {x : k.T} (h : k.Small x) {m : Nat} (hm : k.most.ble m = true) : k.cnt x ≤ m := Nat.le_trans (cnt_le k h) (Nat.le_of_ble_eq_true hm)
theorem FnExactTrace_true (x : ProgT × List Int × Int × Unit) (hw : WFs [progKd, .sl false (.int .i64), .int .i64] x) : ∃ k o, z185 k x = some ((true, ()), o) := by
  obtain ⟨p, inp, fuel, ⟨⟩⟩ := x
  obtain ⟨w1, w2, w3, _⟩ := hw
  refine ⟨8388608, ((), (), (), ()), ?_⟩
  unfold z185
  simp only [br_dec]
  by_cases h0 : (inp.length : Int) > 1048576
  · rw [if_pos h0]
  rw [if_neg h0]
  obtain ⟨r1, e1, p1⟩ := Cp.szProg_is 8388608 (by omega) p w1 1048576 (by omega) (by omega)
  simp only [e1, bd_some]
  by_cases h1 : r1 < 0
  · rw [if_pos h1]
  rw [if_neg h1]
  obtain ⟨b1, s1⟩ := p1 (by omega)
  have s2 : Kd.Small (.sl false (.int .i64)) inp := ⟨by omega, fun _ _ => trivial⟩
  have hp := small_prog s1
  have a1 := Cp.toProg_is 8388608 (by omega) p s1
  have a2 := Cp.toInt64S_is 8388608 (by omega) inp s2
  have i1 : z106 8388608 ((p.1, p.2.1, p.2.2.1, p.2.2.2.1, ()), inp, fuel, ()) = _ := implTrace_is 8388608 (by omega) (by omega) p hp inp fuel
  have i2 : z38 8388608 ((p.1, p.2.1, p.2.2.1, p.2.2.2.1, ()), inp, fuel, ()) = _ := specTrace_is 8388608 (by omega) (by omega) p hp inp fuel
  have so := trace_small (p := p) (inp := inp) (fuel := fuel)
  generalize traceOf p inp fuel = l at i1 i2 so
  have q0 := Cp.eqSnapS_is 8388608 (by omega) l so
  have q1 : z128 8388608 ((p.1, p.2.1, p.2.2.1, p.2.2.2.1, ()), (p.1, p.2.1, p.2.2.1, p.2.2.2.1, ()), ()) = some ((true, ()), ((), (), ())) := Cp.eqProg_is 8388608 (by omega) p s1
  have q2 := Cp.eqInt64S_is 8388608 (by omega) inp s2
  have c1 : Kd.cnt progKd p ≤ 8796124151808 := most_ofT s1 rfl
  have c2 : Kd.cnt (.sl false (.int .i64)) inp ≤ 1048576 := most_ofT s2 rfl
  have c3 : Kd.cnt (.sl false snapKdT) l ≤ 1152925902654701568 := most_ofT so rfl
  obtain ⟨z0, z1, z2, z3, n1, m1, l1, u1⟩ := Cp.markProg_is 8388608 (by omega) p s1 1 (by omega) (show (1 : Int) + (Kd.cnt progKd p : Nat) ≤ 4611686018427387904 by omega)
  have u1 : n1 ≤ 1 + ((Kd.cnt progKd p : Nat) : Int) := u1
  have m1 : z129 8388608 ((p.1, p.2.1, p.2.2.1, p.2.2.2.1, ()), 1, ()) = _ := m1
  obtain ⟨z4, n2, m2, l2, u2, _, _⟩ := Cp.markInt64S_is 8388608 (by omega) inp s2 n1 (by omega) (by omega)
  obtain ⟨y, n3, m3, l3, u3, g3, G3⟩ := Cp.markSnapS_is 8388608 (by omega) l so 1 (by omega) (show (1 : Int) + (Kd.cnt (.sl false snapKdT) l : Nat) ≤ 4611686018427387904 by omega)
  have H3 := Cp.heldSnapS_is 8388608 (by omega) y (by rw [g3]; exact so.1) _ _ G3
  have d1 : ¬ n2 < 0 := by omega
  have d2 : ¬ n3 < 0 := by omega
  simp only [a1, a2, i1, i2, bd_some, q0, q1, q2, Bool.not_true, br_false, m1, m2, if_neg d1, Option.bind_some, m3, H3, if_neg d2, bne_self_eq_false]
end Go.Pev.F
end
