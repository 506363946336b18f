/-
  PEV, part 12: append; stores.
-/
import Derived.Test.YtgajbbadidobfaaDoorPevW2
namespace Go.Pev

section
variable {F : Nat → Prop} {G : Gh} {ow ow' : OW} {w : World} {P : Program}

/-- A row that is one's own, behind a handle. -/
theorem rowOwn_sound (hh : HRep F G ow w.heap) {x : SV} {xv : Value} (hx : Sv F G ow w.heap x xv) {d j : Nat} (hk : keyOf x = some (d, j)) {r : Sigma fun k : Kd => List k.T} (hr : rowOf ow x = some r) (hi : isRow ow d j = true) :
    r.1.good = true ∧ (∃ ver l0, nameOf ow d j = some (some (.row r.1 ver l0))) ∧ ∃ a c, xv = .slice a r.2.length c ∧ r.2.length ≤ c ∧
      ((G d j = none ∧ a = none ∧ r.2 = [] ∧ c = 0) ∨ ∃ b o o' rw_ et, G d j = some (b, o') ∧ a = some ⟨b, o, none⟩ ∧ w.heap[b]? = some (.cells rw_ et (0, 0)) ∧ ElemsR (fun x cs => Rep w.heap (okF F G ow) r.1 x cs) r.1.n r.2 rw_ o ∧ o + c * r.1.n ≤ rw_.size) := by
  obtain ⟨k, ver, l0, hg⟩ : ∃ k ver l0, getOb ow d j = some (.row k ver l0) := by
    unfold isRow at hi
    split at hi
    · exact ⟨_, _, _, by assumption⟩
    · cases hi
  have hn := nameOf_of_getOb hg
  obtain ⟨hgood, ho⟩ := hh.obs d j _ hn
  have core : ∀ {off : Nat} {len : Option Nat}, HandR w.heap G ow d j off len xv → off + len.getD l0.length ≤ l0.length ∧ ∃ a c, xv = .slice a (len.getD l0.length) c ∧ len.getD l0.length ≤ c ∧
      ((G d j = none ∧ a = none ∧ len.getD l0.length = 0 ∧ c = 0) ∨ ∃ b o o' rw_ et, G d j = some (b, o') ∧ a = some ⟨b, o, none⟩ ∧ w.heap[b]? = some (.cells rw_ et (0, 0)) ∧ ElemsR (fun x cs => Rep w.heap (okF F G ow) k x cs) k.n (subL l0 off (len.getD l0.length)) rw_ o ∧ o + c * k.n ≤ rw_.size) := by
    intro off len h
    simp only [HandR, hn] at h
    obtain ⟨hle, a, c, rfl, hlc, h⟩ := h
    refine ⟨hle, a, c, rfl, hlc, ?_⟩
    rcases h with ⟨h1, h2, h3⟩ | ⟨b, o, o', rw_, hG, ha, hrow, ho', hs⟩
    · exact .inl ⟨h1, h2, by omega, h3⟩
    · simp only [hG] at ho
      obtain ⟨r2, et, hb, hel⟩ := ho
      have e := rowCells_of hb
      rw [hrow] at e; cases e
      refine .inr ⟨b, o', o, rw_, et, hG, ha, hb, ?_, hs⟩
      by_cases hc0 : 0 < c
      · rw [ho' hc0]; exact hel.part hle
      · have h0 : len.getD l0.length = 0 := by omega
        have h1 : subL l0 off (len.getD l0.length) = [] := by simp [subL, h0]
        rw [h1]
        exact ⟨by simp; omega, fun i hi => by simp at hi⟩
  unfold keyOf at hk
  split at hk
  · rename_i d' j' ver' path
    cases hk
    have hp : path = [] ∧ r = ⟨k, l0⟩ := by
      unfold rowOf rowAt at hr
      cases path with
      | nil => simp [hg] at hr; exact ⟨rfl, hr.symm⟩
      | cons _ _ => simp at hr
    obtain ⟨rfl, rfl⟩ := hp
    cases hx with
    | wh hx =>
    obtain ⟨_, a, c, hv, hlc, h⟩ := core hx
    refine ⟨hgood, ⟨ver, l0, hn⟩, a, c, hv, hlc, ?_⟩
    have e : subL l0 0 l0.length = l0 := by simp [subL]
    simp only [Option.getD_none, e] at h
    rcases h with ⟨h0, h0', h1, h2⟩ | h
    · exact .inl ⟨h0, h0', List.eq_nil_of_length_eq_zero h1, h2⟩
    · exact .inr h
  · rename_i d' j' ver' path off len
    cases hk
    have hp : path = [] ∧ r = ⟨k, subL l0 off len⟩ := by
      unfold rowOf rowAt at hr
      cases path with
      | nil => simp [hg] at hr; exact ⟨rfl, hr.symm⟩
      | cons _ _ => simp at hr
    obtain ⟨rfl, rfl⟩ := hp
    cases hx with
    | os hx =>
    obtain ⟨hle, a, c, hv, hlc, h⟩ := core hx
    simp only [Option.getD_some] at hle hv hlc h
    have e : (subL l0 off len).length = len := by simp [subL]; omega
    refine ⟨hgood, ⟨ver, l0, hn⟩, a, c, by rw [e]; exact hv, by rw [e]; exact hlc, ?_⟩
    rcases h with ⟨h0, h0', h1, h2⟩ | h
    · exact .inl ⟨h0, h0', List.eq_nil_of_length_eq_zero (by rw [e, h1]), h2⟩
    · exact .inr h
  · cases hk

/-- A name is given up. -/
theorem dead_tr (hh : HRep F G ow w.heap) (hF : ∀ b, F b → b < w.heap.size) {d j : Nat} (hn : nameOf ow d j ≠ none) : Tr F G ow w G (putOb ow d j none) w := by
  have hnm := fun d' j' => nameOf_putOb (o := none) (d' := d') (j' := j') hn
  have hown : ∀ {d' j'}, isOwn (nameOf (putOb ow d j none) d' j') → isOwn (nameOf ow d' j') := by
    intro d' j' hi
    rw [hnm] at hi
    split at hi
    · exact hi.elim
    · exact hi
  refine tr_of hh hF (fun _ _ _ => rfl) (fun d' j' => ?_) (.refl _ _) (fun b hb => ?_) (fun b r _ hr => ⟨r, hr, rfl⟩) (fun d' j' o hx => ?_) (fun d1 j1 d2 j2 b o1 o2 h1 h2 => hh.apart d1 j1 d2 j2 b o1 o2 (hown h1) (hown h2)) length_putOb
  · rw [hnm]
    split
    · exact .dead
    · exact .refl _
  · obtain ⟨d', j', o', hi, hg⟩ := own_iff.1 hb
    exact .inl (own_iff.2 ⟨d', j', o', hown hi, hg⟩)
  · rw [hnm] at hx
    split at hx
    · cases hx
    · exact .inl ⟨hx, fun _ _ _ _ => rfl⟩

/-- A row of nothing. -/
theorem res_row0 (hh : HRep F G ow w.heap) (hF : ∀ b, F b → b < w.heap.size) {d : Nat} {k : Kd} (hk : k.good = true) (hn : newObs ow d [.row k 0 []] = some ow') :
    Tr F G ow w (G.new d fun _ => none) ow' w ∧ Sv F (G.new d fun _ => none) ow' w.heap (.wh d 0 0 []) (.slice none 0 0) := by
  obtain ⟨hl, he, hnm⟩ := newObs_some hn
  have he : ow[d]? = some [] := by rcases he with h | h; cases h; exact h
  have hnm' : ∀ d' j, nameOf ow' d' j = if d' = d then [OB.row k 0 []][j]?.map some else nameOf ow d' j := fun d' j => by rw [hnm]; simp
  have key0 : ∀ d' j, d' ≠ d → (G.new d fun _ => none) d' j = G d' j := fun d' j hd => by simp [Gh.new, hd]
  have keyd : ∀ j, (G.new d fun _ => none) d j = none := fun j => by simp [Gh.new]
  have hown : ∀ {d' j' b o}, isOwn (nameOf ow' d' j') → (G.new d fun _ => none) d' j' = some (b, o) → isOwn (nameOf ow d' j') ∧ G d' j' = some (b, o) := by
    intro d' j' b o hi hg
    by_cases hd : d' = d
    · subst hd; rw [keyd] at hg; cases hg
    · rw [key0 _ _ hd] at hg; rw [hnm', if_neg hd] at hi; exact ⟨hi, hg⟩
  refine ⟨tr_of hh hF (fun d' j hx => ?_) (fun d' j => ?_) (.refl _ _) (fun b hb => ?_) (fun b r _ hr => ⟨r, hr, rfl⟩) (fun d' j o hx => ?_) (fun d1 j1 d2 j2 b o1 o2 h1 h2 g1 g2 => ?_) hl, .wh ?_⟩
  · refine key0 _ _ fun e => ?_
    rw [e, nameOf_empty he] at hx
    exact hx rfl
  · by_cases hd : d' = d
    · subst hd; rw [nameOf_empty he]; trivial
    · rw [hnm', if_neg hd]; exact .refl _
  · obtain ⟨d', j', o', hi, hg⟩ := own_iff.1 hb
    obtain ⟨hi, hg⟩ := hown hi hg
    exact .inl (own_iff.2 ⟨d', j', o', hi, hg⟩)
  · by_cases hd : d' = d
    · subst hd
      right
      intro _ _
      rw [hnm', if_pos rfl] at hx
      cases j with
      | zero =>
        simp at hx
        subst hx
        refine ⟨hk, ?_⟩
        rw [keyd]
      | succ j => simp at hx
    · left
      rw [hnm', if_neg hd] at hx
      exact ⟨hx, fun _ _ _ _ => rfl⟩
  · obtain ⟨i1, g1⟩ := hown h1 g1
    obtain ⟨i2, g2⟩ := hown h2 g2
    exact hh.apart d1 j1 d2 j2 b o1 o2 i1 i2 g1 g2
  · simp only [HandR, nameOf_new hn, Option.getD_none]
    exact ⟨by simp, _, _, rfl, Nat.le_refl _, .inl ⟨keyd 0, rfl, rfl⟩⟩

/-! ### Cells set -/

/-- A row with other cells from one on. -/
def setA (r : Array Value) (o : Nat) (vs : List Value) : Array Value := (r.toList.take o ++ vs ++ r.toList.drop (o + vs.length)).toArray

theorem setA_size {r : Array Value} {o : Nat} {vs : List Value} (h : o + vs.length ≤ r.size) : (setA r o vs).size = r.size := by
  simp [setA]; omega

theorem setA_get {r : Array Value} {o : Nat} {vs : List Value} (h : o + vs.length ≤ r.size) (i : Nat) : (setA r o vs)[i]? = if o ≤ i ∧ i < o + vs.length then vs[i - o]? else r[i]? := by
  simp only [setA, List.getElem?_toArray]
  by_cases h1 : i < o
  · rw [if_neg (by omega), List.append_assoc, List.getElem?_append_left (by simp; omega), List.getElem?_take_of_lt h1]
    simp
  · by_cases h2 : i < o + vs.length
    · rw [if_pos (by omega), List.getElem?_append_left (by simp; omega), List.getElem?_append_right (by simp; omega)]
      simp [Nat.min_eq_left (show o ≤ r.size by omega)]
    · rw [if_neg (by omega), List.getElem?_append_right (by simp; omega)]
      simp only [List.length_append, List.length_take, List.getElem?_drop, Array.length_toList, Array.getElem?_toList]
      congr 1
      omega

theorem heap_setCells {b : Nat} {et : TypeId} {f : Nat × Nat} : (vs : List Value) → (o : Nat) → (w : World) → {r : Array Value} → w.heap[b]? = some (.cells r et f) → o + vs.length ≤ r.size → (w.setCells b o vs).heap[b]? = some (.cells (setA r o vs) et f)
  | [], o, w, r, h, _ => by
    have : setA r o [] = r := by apply Array.ext'; simp [setA]
    rw [this]; exact h
  | v :: vs, o, w, r, h, hs => by
    simp only [List.length_cons] at hs
    have h1 : (w.setCell ⟨b, o, none⟩ v).heap[b]? = some (.cells (r.setIfInBounds o v) et f) := by
      simp [World.setCell, Array.getElem?_modify, h]
    have := heap_setCells vs (o + 1) (w.setCell ⟨b, o, none⟩ v) h1 (by simp; omega)
    show ((w.setCell ⟨b, o, none⟩ v).setCells b (o + 1) vs).heap[b]? = _
    rw [this]
    congr 2
    apply Array.ext_getElem?
    intro i
    rw [setA_get (by simp; omega), setA_get (by simp; omega)]
    by_cases h1 : o = i
    · subst h1
      rw [if_neg (by omega), if_pos (by simp)]
      simp [show o < r.size by omega]
    · by_cases h2 : o + 1 ≤ i ∧ i < o + 1 + vs.length
      · rw [if_pos h2, if_pos (by simp; omega)]
        have : i - o = (i - (o + 1)) + 1 := by omega
        rw [this, List.getElem?_cons_succ]
      · rw [if_neg h2, if_neg (by simp; omega)]
        simp [h1]

theorem size_setCells (b : Nat) : (vs : List Value) → (o : Nat) → (w : World) → (w.setCells b o vs).heap.size = w.heap.size
  | [], _, _ => rfl
  | v :: vs, o, w => by
    show ((w.setCell ⟨b, o, none⟩ v).setCells b (o + 1) vs).heap.size = _
    rw [size_setCells b vs]; simp

theorem tape_setCells (b : Nat) : (vs : List Value) → (o : Nat) → (w : World) → (w.setCells b o vs).tape = w.tape
  | [], _, _ => rfl
  | v :: vs, o, w => by
    show ((w.setCell ⟨b, o, none⟩ v).setCells b (o + 1) vs).tape = _
    rw [tape_setCells b vs]; rfl

theorem cells_setCell {w : World} {a : Addr} {v : Value} {b : Nat} {r : Array Value} {et : TypeId} {f : Nat × Nat} (h : w.heap[b]? = some (.cells r et f)) : ∃ r', (w.setCell a v).heap[b]? = some (.cells r' et f) ∧ r'.size = r.size := by
  by_cases hb : a.block = b
  · exact ⟨_, by simp [World.setCell, Array.getElem?_modify, hb, h]; rfl, by split <;> simp⟩
  · exact ⟨r, by simp [World.setCell, Array.getElem?_modify, hb, h], rfl⟩

theorem cells_setCells (b0 : Nat) {b : Nat} {et : TypeId} {f : Nat × Nat} : (vs : List Value) → (o : Nat) → (w : World) → {r : Array Value} → w.heap[b]? = some (.cells r et f) → ∃ r', (w.setCells b0 o vs).heap[b]? = some (.cells r' et f) ∧ r'.size = r.size
  | [], _, _, r, h => ⟨r, h, rfl⟩
  | v :: vs, o, w, r, h => by
    obtain ⟨r1, h1, e1⟩ := cells_setCell (a := ⟨b0, o, none⟩) (v := v) h
    obtain ⟨r2, h2, e2⟩ := cells_setCells b0 vs (o + 1) _ h1
    exact ⟨r2, h2, by omega⟩

theorem kept_setCells {I : Nat → Prop} {b : Nat} (hb : I b) (w : World) (o : Nat) (vs : List Value) : Kept I w (w.setCells b o vs) :=
  ⟨by rw [size_setCells]; exact Nat.le_refl _, fun b' hb' hI => World.heap_setCells_other w b o vs hb' (fun e => hI (e ▸ hb)), fun _ _ _ _ h => cells_setCells b vs o w h, World.os_setCells w b o vs, World.output_setCells w b o vs, tape_setCells b vs o w⟩

theorem sub_ge {r : Array Value} {p m i : Nat} (h : m ≤ i) : (sub r p m)[i]? = none := List.getElem?_eq_none (by simp [sub]; omega)

theorem sub_setA_before {r : Array Value} {o p m : Nat} {vs : List Value} (h : o + vs.length ≤ r.size) (hp : p + m ≤ o) : sub (setA r o vs) p m = sub r p m := by
  apply List.ext_getElem?
  intro i
  by_cases hi : i < m
  · rw [sub_getElem hi, sub_getElem hi, setA_get h, if_neg (by omega)]
  · rw [sub_ge (by omega), sub_ge (by omega)]

theorem sub_setA_same {r : Array Value} {o : Nat} {vs : List Value} (h : o + vs.length ≤ r.size) : sub (setA r o vs) o vs.length = vs := by
  apply List.ext_getElem?
  intro i
  by_cases hi : i < vs.length
  · rw [sub_getElem hi, setA_get h, if_pos (by omega)]
    congr 1
    omega
  · rw [List.getElem?_eq_none (by rw [sub_length (by rw [setA_size h]; omega)]; omega), List.getElem?_eq_none (by omega)]

theorem sub_setA_after {r : Array Value} {o p m : Nat} {vs : List Value} (h : o + vs.length ≤ r.size) (hp : o + vs.length ≤ p) : sub (setA r o vs) p m = sub r p m := by
  apply List.ext_getElem?
  intro i
  by_cases hi : i < m
  · rw [sub_getElem hi, sub_getElem hi, setA_get h, if_neg (by omega)]
  · rw [sub_ge (by omega), sub_ge (by omega)]

/-! ### Append -/

theorem run_append_zero {t tx ty e : TypeId} {i : TypeInfo} (ht : P.underlying t = some (.slice e)) (hi : P.info? e = some i) (base : Option Addr) {x : Value} (hs : Src P i.size tx x 0 [] w) :
    (Builtin.append_ #[t, tx] ty #[.slice base 0 0, x]).run P w = .ok (.slice base 0 0) w := by
  rcases hs.kind with ⟨e', hk⟩ | hk <;> cases base <;> simp [Builtin.append_, run_underlying ht, run_underlying hk, sizeOf, typeInfo, hi, hs.len, hs.cells, storeCells]

theorem zeroCells_size (z : Array Value) (n : Nat) : (Builtin.zeroCells z n).size = n * z.size := by simp [Builtin.zeroCells]

/-- It grows: a new row. -/
theorem append_grow (hh : HRep F G ow w.heap) (hF : ∀ b, F b → b < w.heap.size) {t tx ty e : TypeId} {k : Kd} (he : elemT P t = some e) (hok : elemOk P e k = true) {a : Option Addr} {l0 y : List k.T} {c : Nat} {xv : Value} {news : List Value} (hx : Src P k.n tx xv y.length news w)
    (hy : ElemsR (fun x cs => Rep w.heap (okF F G ow) k x cs) k.n y news.toArray 0) (holds : l0 = [] ∨ ∃ b o r, a = some ⟨b, o, none⟩ ∧ rowCells w.heap b = some r ∧ ElemsR (fun x cs => Rep w.heap (okF F G ow) k x cs) k.n l0 r o)
    (hgrow : c < l0.length + y.length) (hby : (l0.length + y.length) * bytesT P e ≤ maxBytes) {d : Nat} (hn : newObs ow d [.row k 0 (l0 ++ y)] = some ow') {Q : SV × OW → Prop} (hq : Q (.wh d 0 0 [], ow')) :
    Res P F G ow w Q (Builtin.append_ #[t, tx] ty #[.slice a l0.length c, xv]) := by
  obtain ⟨hgood, hpos, _, hbpos, i, z, hi, hz, hsz, hbe, hzs⟩ := elemOk_some hok
  have hu := elemT_some he
  obtain ⟨olds, hold, holdE⟩ : ∃ olds : List Value, (Builtin.firstCells i.size l0.length (.slice a l0.length c)).run P w.drew = .ok olds.toArray w.drew ∧ olds.length = l0.length * k.n ∧ ElemsR (fun x cs => Rep w.heap (okF F G ow) k x cs) k.n l0 olds.toArray 0 := by
    rcases holds with rfl | ⟨b, o, r, rfl, hr, hel⟩
    · refine ⟨[], ?_, by simp, ⟨by simp, fun i hi => by simp at hi⟩⟩
      cases a with
      | none => exact run_firstCells_none w.drew i.size 0 0 c
      | some a => exact run_firstCells_some w.drew i.size 0 a 0 c [] (by simp) (fun j u hu => by simp at hu)
    · have hlen := sub_length hel.1
      refine ⟨sub r o (l0.length * k.n), run_firstCells_some w.drew i.size l0.length _ _ _ _ (by rw [hsz]; exact hlen) (fun j u hu => ?_), hlen, hel.congr (by simp [hlen]) ?_⟩
      · rw [Addr.add_mid]
        show w.cell? _ = _
        rw [rowCells_cell hr, ← hu, sub_getElem]
        rcases Nat.lt_or_ge j (l0.length * k.n) with h | h
        · exact h
        · rw [List.getElem?_eq_none (by omega)] at hu; cases hu
      · show ((sub r o (l0.length * k.n)).toArray.toList.drop 0).take (l0.length * k.n) = _
        rw [List.drop_zero, List.take_of_length_le]
        simp [hlen]
  obtain ⟨holdL, holdE⟩ := holdE
  rw [hbe] at hby hbpos
  unfold maxBytes at hby
  have h3 : l0.length + y.length ≤ (l0.length + y.length) * i.bytes := Nat.le_mul_of_pos_right _ hbpos
  have hcap := nextslicecap_le (l0.length + y.length) c hgrow
  have hfit : Builtin.nextslicecap (l0.length + y.length) c * i.bytes ≤ 281474976710656 := by
    have := Nat.mul_le_mul_right i.bytes hcap
    rw [Nat.mul_assoc] at this
    omega
  have hrun := run_append_grow_src (P := P) w t tx ty e i z hu hi hz a l0.length c olds hold xv y.length news (by rw [hsz]; exact hx) hgrow (by omega) hfit
  have hg1 := grownCap_ge w (l0.length + y.length) c e
  generalize hcc : grownCap w (l0.length + y.length) c e = cc at hrun hg1
  have hnl : news.length = y.length * k.n := by have := hx.newsLen; exact this
  have hE : ElemsR (fun x cs => Rep w.heap (okF F G ow) k x cs) k.n (l0 ++ y) ((olds ++ news).toArray ++ Builtin.zeroCells z.cells (cc - (l0.length + y.length))) 0 := by
    have hsub1 : ∀ A B : List Value, ∀ Z : Array Value, sub ((A ++ B).toArray ++ Z) 0 A.length = sub A.toArray 0 A.length := by
      intro A B Z
      simp [sub]
    have hsub2 : ∀ A B : List Value, ∀ Z : Array Value, sub ((A ++ B).toArray ++ Z) A.length B.length = sub B.toArray 0 B.length := by
      intro A B Z
      simp [sub]
    refine ElemsR.append (holdE.congr ?_ ?_) (hy.congr ?_ ?_)
    · simp only [Array.size_append, List.size_toArray, List.length_append, holdL]; omega
    · rw [← holdL]; exact hsub1 _ _ _
    · simp only [Array.size_append, List.size_toArray, List.length_append, holdL, hnl]; omega
    · rw [← hnl, Nat.zero_add, ← holdL]; exact hsub2 _ _ _
  obtain ⟨t1, s1⟩ := res_row hh hF hgood hE hn e (c := cc) (by simpa using hg1) (by
    simp only [Array.size_append, List.size_toArray, List.length_append, zeroCells_size, hzs, holdL, hnl]
    rw [← Nat.add_mul, ← Nat.add_mul]
    exact Nat.mul_le_mul_right _ (by omega)) (w1 := w.drew) rfl rfl rfl rfl
  rw [List.length_append] at s1
  exact ⟨_, _, _, _, _, hq, hrun, t1, s1⟩

/-- There is room: the block is written on. -/
theorem append_room (hh : HRep F G ow w.heap) (hF : ∀ b, F b → b < w.heap.size) {t tx ty e : TypeId} {k : Kd} (he : elemT P t = some e) (hok : elemOk P e k = true) {l0 y : List k.T} {b o o' c dd jj : Nat} {r : Array Value} {et : TypeId} {ver : Nat} {l1 : List k.T} {xv : Value} {news : List Value} (hx : Src P k.n tx xv y.length news w)
    (hy : ElemsR (fun x cs => Rep w.heap (okF F G ow) k x cs) k.n y news.toArray 0) (hnm : nameOf ow dd jj = some (some (.row k ver l1))) (hG : G dd jj = some (b, o')) (hb : w.heap[b]? = some (.cells r et (0, 0))) (hel : ElemsR (fun x cs => Rep w.heap (okF F G ow) k x cs) k.n l0 r o)
    (hroom : l0.length + y.length ≤ c) (hcap : o + c * k.n ≤ r.size) {d : Nat} (hn : newObs (putOb ow dd jj none) d [.row k 0 (l0 ++ y)] = some ow') {Q : SV × OW → Prop} (hq : Q (.wh d 0 0 [], ow')) :
    Res P F G ow w Q (Builtin.append_ #[t, tx] ty #[.slice (some ⟨b, o, none⟩) l0.length c, xv]) := by
  obtain ⟨hgood, hpos, _, hbpos, i, z, hi, hz, hsz, hbe, hzs⟩ := elemOk_some hok
  have hu := elemT_some he
  have hnl : news.length = y.length * k.n := hx.newsLen
  have hown : Own G ow b := own_iff.2 ⟨dd, jj, o', by rw [hnm]; trivial, hG⟩
  have hmul : (l0.length + y.length) * k.n ≤ c * k.n := Nat.mul_le_mul_right _ hroom
  rw [Nat.add_mul] at hmul
  have hsz' : o + l0.length * k.n + news.length ≤ r.size := by omega
  have hrun := run_append_room_src (P := P) w t tx ty e i hu hi b o l0.length c xv y.length news (by rw [hsz]; exact hx) hroom
    (fun j hj => by rw [hsz, rowCells_cell (rowCells_of hb)]; simp; omega)
    (fun j hj => by unfold World.frozen?; rw [hb]; simp)
  rw [hsz] at hrun
  have hb' := heap_setCells news (o + l0.length * k.n) w hb hsz'
  have hk : Kept (Own G ow) w (w.setCells b (o + l0.length * k.n) news) := kept_setCells hown w _ _
  obtain ⟨hl, hem, hnew⟩ := newObs_some hn
  have hem : (putOb ow dd jj none)[d]? = some [] := by rcases hem with h | h; cases h; exact h
  have hdd : nameOf ow dd jj ≠ none := by rw [hnm]; simp
  have hput := fun d' j' => nameOf_putOb (o := none) (d' := d') (j' := j') hdd
  have hempty : ∀ j, nameOf ow d j = none := by
    intro j
    have h1 := nameOf_empty hem j
    rw [hput] at h1
    split at h1
    · cases h1
    · exact h1
  have hnm' : ∀ d' j, nameOf ow' d' j = if d' = d then [OB.row k 0 (l0 ++ y)][j]?.map some else if d' = dd ∧ j = jj then some none else nameOf ow d' j := fun d' j => by rw [hnew, hput]; simp
  have key0 : ∀ d' j, d' ≠ d → (G.new d fun _ => some (b, o)) d' j = G d' j := fun d' j hd => by simp [Gh.new, hd]
  have keyd : ∀ j, (G.new d fun _ => some (b, o)) d j = some (b, o) := fun j => by simp [Gh.new]
  have hinv : ∀ {d' j' b' o1}, isOwn (nameOf ow' d' j') → (G.new d fun _ => some (b, o)) d' j' = some (b', o1) →
      (d' = d ∧ j' = 0 ∧ b' = b) ∨ (d' ≠ d ∧ ¬ (d' = dd ∧ j' = jj) ∧ nameOf ow' d' j' = nameOf ow d' j' ∧ isOwn (nameOf ow d' j') ∧ G d' j' = some (b', o1) ∧ b' ≠ b) := by
    intro d' j' b' o1 hi hg
    by_cases hd : d' = d
    · subst hd
      rw [keyd] at hg; cases hg
      refine .inl ⟨rfl, ?_, rfl⟩
      rw [hnm', if_pos rfl] at hi
      cases j' with
      | zero => rfl
      | succ j => simp [isOwn] at hi
    · right
      rw [key0 _ _ hd] at hg
      have e1 := hnm' d' j'
      rw [if_neg hd] at e1
      by_cases h2 : d' = dd ∧ j' = jj
      · rw [if_pos h2] at e1; rw [e1] at hi; exact hi.elim
      · rw [if_neg h2] at e1
        rw [e1] at hi
        refine ⟨hd, h2, e1, hi, hg, fun hbb => ?_⟩
        subst hbb
        exact h2 (hh.apart d' j' dd jj b' o1 o' hi (by rw [hnm]; trivial) hg hG)
  have hg0 : (G.new d fun _ => some (b, o)) d 0 = some (b, o) := keyd 0
  refine ⟨_, _, _, _, G.new d fun _ => some (b, o), hq, hrun, tr_of hh hF (fun d' j hx => ?_) (fun d' j => ?_) hk (fun b' hb1 => ?_) (fun b' r' ho hr => ?_) (fun d' j ob hx => ?_) (fun d1 j1 d2 j2 b1 o1 o2 h1 h2 g1 g2 => ?_) (by rw [hl, length_putOb]), .wh ?_⟩
  · refine key0 _ _ fun e => ?_
    rw [e, hempty] at hx
    exact hx rfl
  · by_cases hd : d' = d
    · subst hd; rw [hempty]; trivial
    · rw [hnm', if_neg hd]
      split
      · exact .dead
      · exact .refl _
  · obtain ⟨d', j', o1, hi, hg⟩ := own_iff.1 hb1
    rcases hinv hi hg with ⟨_, _, rfl⟩ | ⟨_, _, _, hi', hg', _⟩
    · exact .inl hown
    · exact .inl (own_iff.2 ⟨d', j', o1, hi', hg'⟩)
  · by_cases hbb : b' = b
    · subst hbb
      rw [rowCells_of hb] at hr
      cases hr
      exact ⟨_, rowCells_of hb', setA_size hsz'⟩
    · refine ⟨r', ?_, rfl⟩
      unfold rowCells
      rw [World.heap_setCells_other w b _ _ (rowCells_lt hr) hbb]
      exact hr
  · by_cases hd : d' = d
    · subst hd
      right
      intro _ hok
      rw [hnm', if_pos rfl] at hx
      cases j with
      | zero =>
        simp only [List.getElem?_cons_zero, Option.map_some, Option.some.injEq] at hx
        subst hx
        refine ⟨hgood, ?_⟩
        simp only [hg0]
        refine ⟨_, et, hb', ?_⟩
        refine ElemsR.mono (fun x cs hx => Rep.mono hok _ hx) (ElemsR.append (hel.congr ?_ (sub_setA_before hsz' (Nat.le_refl _))) (hy.congr ?_ ?_))
        · rw [setA_size hsz']; exact hel.1
        · rw [setA_size hsz']; omega
        · rw [← hnl, sub_setA_same hsz']
          simp [sub]
      | succ j => simp at hx
    · left
      rw [hnm', if_neg hd] at hx
      split at hx
      · cases hx
      · rename_i h2
        refine ⟨hx, fun hi b1 cc hg => ?_⟩
        have hob : Own G ow b1 := own_iff.2 ⟨d', j, cc, by rw [hx]; exact hi, hg⟩
        refine World.heap_setCells_other w b _ _ (Own.lt hh hob) fun hbb => ?_
        subst hbb
        exact h2 (hh.apart d' j dd jj b1 cc o' (by rw [hx]; exact hi) (by rw [hnm]; trivial) hg hG)
  · rcases hinv h1 g1 with ⟨e1, e2, e3⟩ | ⟨_, _, _, i1, g1', n1⟩ <;> rcases hinv h2 g2 with ⟨e4, e5, e6⟩ | ⟨_, _, _, i2, g2', n2⟩
    · exact ⟨by rw [e1, e4], by rw [e2, e5]⟩
    · exact absurd e3 n2
    · exact absurd e6 n1
    · exact hh.apart d1 j1 d2 j2 b1 o1 o2 i1 i2 g1' g2'
  · have hn0 : nameOf ow' d 0 = some (some (.row k 0 (l0 ++ y))) := by rw [hnm', if_pos rfl]; rfl
    simp only [HandR, hn0, Option.getD_none, List.length_append]
    exact ⟨by omega, _, _, rfl, hroom, .inr ⟨b, o, o, _, hg0, rfl, rowCells_of hb', fun _ => by simp, by rw [setA_size hsz']; exact hcap⟩⟩

theorem evAppend_sound {t tx ty : TypeId} {s x : SV} {sv xv : Value} {d : Nat} (hh : HRep F G ow w.heap) (hF : ∀ b, F b → b < w.heap.size) (hs : Sv F G ow w.heap s sv) (hx : Sv F G ow w.heap x xv) (htx : isSliceT P tx = true) {Q : SV × OW → Prop} (h : (evAppend P t s x ow d).can Q) :
    Res P F G ow w Q (Builtin.append_ #[t, tx] ty #[sv, xv]) := by
  obtain ⟨e', hte⟩ := isSliceT_some htx
  unfold evAppend at h
  split at h
  · exact h.elim
  rename_i e he
  have hu := elemT_some he
  split at h
  · cases hs
    split at h
    · cases hx
      split at h
      · rename_i hi
        obtain ⟨i, hi⟩ := Option.isSome_iff_exists.1 hi
        exact ⟨_, _, _, _, G, h, run_append_zero hu hi none (Src.ofNil w hte 0), .refl hh, .nils⟩
      · exact h.elim
    · split at h
      · rename_i k hk
        split at h
        · rename_i y hy
          split at h
          · rename_i hok
            obtain ⟨hby, h⟩ := h
            have hby := of_decide_eq_true hby
            split at h
            · rename_i ow' hn
              obtain ⟨hgood, hpos, _, hbpos, i, z, hi, hz, hsz, hbe, hzs⟩ := elemOk_some hok
              obtain ⟨news, hsrc, hel⟩ := appElems_sound (P := P) hh hpos hx hy hte
              cases y with
              | nil =>
                obtain ⟨t1, s1⟩ := res_row0 hh hF hgood hn
                have hnil : news = [] := List.eq_nil_of_length_eq_zero (by have := hsrc.newsLen; simpa using this)
                subst hnil
                exact ⟨_, _, _, _, _, h, run_append_zero hu hi none (by rw [hsz]; exact hsrc), t1, s1⟩
              | cons a y' =>
                exact append_grow (l0 := []) hh hF he hok hsrc hel (.inl rfl) (by simp) (by simpa using hby) hn h
            · exact h.elim
          · exact h.elim
        · exact h.elim
      · exact h.elim
  · split at h
    · rename_i dd j b hkey hrow
      split at h
      · rename_i hown
        split at h
        · rename_i y hy
          split at h
          · rename_i hok
            obtain ⟨hby, h⟩ := h
            have hby := of_decide_eq_true hby
            split at h
            · rename_i ow' hn
              obtain ⟨hgood, hpos, _, hbpos, i, z, hi, hz, hsz, hbe, hzs⟩ := elemOk_some hok
              obtain ⟨news, hsrc, hel⟩ := appElems_sound (P := P) hh hpos hx hy hte
              obtain ⟨_, ⟨ver, l1, hnm⟩, a, c, rfl, hlc, hcase⟩ := rowOwn_sound hh hs hkey hrow hown
              have hdt := dead_tr hh hF (d := dd) (j := j) (by rw [hnm]; simp)
              by_cases hroom : b.2.length + y.length ≤ c
              · rcases hcase with ⟨_, rfl, hb0, hc0⟩ | ⟨bb, o, o', rw_, et, hG, rfl, hbb, hel0, hcap⟩
                · have hy0 : y = [] := List.eq_nil_of_length_eq_zero (by omega)
                  obtain ⟨bk, bl⟩ := b
                  dsimp only at *
                  subst hb0 hy0 hc0
                  obtain ⟨t1, s1⟩ := res_row0 hdt.hrep hF hgood hn
                  have hnil : news = [] := List.eq_nil_of_length_eq_zero (by have := hsrc.newsLen; simpa using this)
                  subst hnil
                  exact ⟨_, _, _, _, _, h, run_append_zero hu hi none (by rw [hsz]; exact hsrc), hdt.trans t1, s1⟩
                · exact append_room hh hF he hok hsrc hel hnm hG hbb hel0 hroom hcap hn h
              · obtain ⟨s', ow2, v', w2, G2, q1, q2, q3, q4⟩ := append_grow (P := P) (tx := tx) (ty := ty) (a := a) (c := c) (l0 := b.2) hdt.hrep hF he hok hsrc (hel.mono fun x cs hx => Rep.mono (ok_tr hdt) _ hx) (by
                  rcases hcase with ⟨_, _, hb0, _⟩ | ⟨bb, o, o', rw_, et, hG, ha, hbb, hel0, _⟩
                  · exact .inl hb0
                  · exact .inr ⟨bb, o, rw_, ha, rowCells_of hbb, hel0.mono fun x cs hx => Rep.mono (ok_tr hdt) _ hx⟩) (by omega) hby hn h
                exact ⟨s', ow2, v', w2, G2, q1, q2, hdt.trans q3, q4⟩
            · exact h.elim
          · exact h.elim
        · exact h.elim
      · exact h.elim
    · exact h.elim

end
end Go.Pev
