/-
  PEV, part 12: append; stores.
-/
import Derived.Test.YtimiagnkcjfdhaaGreatDoorK00
import Derived.LoopN
import Derived.Orders
set_option linter.unusedSimpArgs false
set_option linter.unusedVariables false
section
namespace Go.Pev

section
variable {F : Nat → Prop} {G : Gh} {ow ow' : OW} {w : World} {P : Program}

/-- A row that is one's own, behind a handle. -/
theorem rowOwn_sound (hh : HRep F G ow w.heap) {x : SV} {xv : Value} (hx : Sv F G ow w.heap x xv) {d j : Nat} (hk : keyOf x = some (d, j)) {r : Sigma fun k : Kd => List k.T} (hr : rowOf ow x = some r) (hi : isRow ow d j = true) :
    r.1.good = true ∧ (∃ ver l0, nameOf ow d j = some (some (.row r.1 ver l0))) ∧ ∃ a c, xv = .slice a r.2.length c ∧ r.2.length ≤ c ∧
      ((G d j 0 = none ∧ a = none ∧ r.2 = [] ∧ c = 0) ∨ ∃ b o o' rw_ et, G d j 0 = some (b, o') ∧ a = some ⟨b, o, none⟩ ∧ w.heap[b]? = some (.cells rw_ et (0, 0)) ∧ ElemsR (fun x cs => Rep w.heap (okF F G ow) r.1 x cs) r.1.n r.2 rw_ o ∧ o + c * r.1.n ≤ rw_.size) := by
  obtain ⟨k, ver, l0, hg⟩ : ∃ k ver l0, getOb ow d j = some (.row k ver l0) := by
    unfold isRow at hi
    split at hi
    · exact ⟨_, _, _, by assumption⟩
    · cases hi
  have hn := nameOf_of_getOb hg
  obtain ⟨_, hgood, ho⟩ := hh.obs d j _ hn
  have core : ∀ {off : Nat} {len : Option Nat}, HandR w.heap G ow d j off len xv → off + len.getD l0.length ≤ l0.length ∧ ∃ a c, xv = .slice a (len.getD l0.length) c ∧ len.getD l0.length ≤ c ∧
      ((G d j 0 = none ∧ a = none ∧ len.getD l0.length = 0 ∧ c = 0) ∨ ∃ b o o' rw_ et, G d j 0 = some (b, o') ∧ a = some ⟨b, o, none⟩ ∧ w.heap[b]? = some (.cells rw_ et (0, 0)) ∧ ElemsR (fun x cs => Rep w.heap (okF F G ow) k x cs) k.n (subL l0 off (len.getD l0.length)) rw_ o ∧ o + c * k.n ≤ rw_.size) := by
    intro off len h
    simp only [HandR, hn] at h
    obtain ⟨hle, a, c, rfl, hlc, h⟩ := h
    refine ⟨hle, a, c, rfl, hlc, ?_⟩
    rcases h with ⟨h1, h2, h3⟩ | ⟨b, o, o', rw_, hG, ha, hrow, ho', hs⟩
    · exact .inl ⟨h1, h2, by omega, h3⟩
    · simp only [hG] at ho
      obtain ⟨r2, et, hb, hel⟩ := ho
      have e := rowCells_of hb
      rw [hrow] at e; cases e
      refine .inr ⟨b, o', o, rw_, et, hG, ha, hb, ?_, hs⟩
      by_cases hc0 : 0 < c
      · rw [ho' hc0]; exact hel.part hle
      · have h0 : len.getD l0.length = 0 := by omega
        have h1 : subL l0 off (len.getD l0.length) = [] := by simp [subL, h0]
        rw [h1]
        exact ⟨by simp; omega, fun i hi => by simp at hi⟩
  unfold keyOf at hk
  split at hk
  · rename_i d' j' ver' path
    cases hk
    have hp : path = [] ∧ r = ⟨k, l0⟩ := by
      unfold rowOf rowAt at hr
      cases path with
      | nil => simp [hg] at hr; exact ⟨rfl, hr.symm⟩
      | cons _ _ => simp at hr
    obtain ⟨rfl, rfl⟩ := hp
    cases hx with
    | wh hx =>
    obtain ⟨_, a, c, hv, hlc, h⟩ := core hx
    refine ⟨hgood, ⟨ver, l0, hn⟩, a, c, hv, hlc, ?_⟩
    have e : subL l0 0 l0.length = l0 := by simp [subL]
    simp only [Option.getD_none, e] at h
    rcases h with ⟨h0, h0', h1, h2⟩ | h
    · exact .inl ⟨h0, h0', List.eq_nil_of_length_eq_zero h1, h2⟩
    · exact .inr h
  · rename_i d' j' ver' path off len
    cases hk
    have hp : path = [] ∧ r = ⟨k, subL l0 off len⟩ := by
      unfold rowOf rowAt at hr
      cases path with
      | nil => simp [hg] at hr; exact ⟨rfl, hr.symm⟩
      | cons _ _ => simp at hr
    obtain ⟨rfl, rfl⟩ := hp
    cases hx with
    | os hx =>
    obtain ⟨hle, a, c, hv, hlc, h⟩ := core hx
    simp only [Option.getD_some] at hle hv hlc h
    have e : (subL l0 off len).length = len := by simp [subL]; omega
    refine ⟨hgood, ⟨ver, l0, hn⟩, a, c, by rw [e]; exact hv, by rw [e]; exact hlc, ?_⟩
    rcases h with ⟨h0, h0', h1, h2⟩ | h
    · exact .inl ⟨h0, h0', List.eq_nil_of_length_eq_zero (by rw [e, h1]), h2⟩
    · exact .inr h
  · cases hk

/-- A name is given up. -/
theorem dead_tr (hh : HRep F G ow w.heap) (hF : ∀ b, F b → b < w.heap.size) {d j : Nat} (hn : nameOf ow d j ≠ none) {o : Option OB} (ho : o = none ∨ ∃ n, o = some (.lrow n)) (hE : EC (nameOf ow d j) (some o)) : Tr F G ow w G (putOb ow d j o) w := by
  have hnm := fun d' j' => nameOf_putOb (o := o) (d' := d') (j' := j') hn
  have hno : ¬ isOwn (some o) := by rcases ho with rfl | ⟨n, rfl⟩ <;> exact fun h => h
  have hown : ∀ {d' j'}, isOwn (nameOf (putOb ow d j o) d' j') → isOwn (nameOf ow d' j') := by
    intro d' j' hi
    rw [hnm] at hi
    split at hi
    · exact absurd hi hno
    · exact hi
  refine tr_of hh hF (fun _ _ _ => rfl) (fun d' j' => ?_) (.refl _ _) (fun b hb => ?_) (fun b r _ hr => ⟨r, hr, rfl⟩) (fun d' j' o' hx => ?_) (fun d1 j1 i1 d2 j2 i2 b o1 o2 h1 h2 => hh.apart d1 j1 i1 d2 j2 i2 b o1 o2 (hown h1) (hown h2)) length_putOb
  · rw [hnm]
    split
    · rename_i e; rw [e.1, e.2]; exact hE
    · exact .refl _
  · obtain ⟨d', j', i', o', hi, hg⟩ := own_iff.1 hb
    exact .inl (own_iff.2 ⟨d', j', i', o', hown hi, hg⟩)
  · rw [hnm] at hx
    split at hx
    · rcases ho with rfl | ⟨n, rfl⟩
      · cases hx
      · cases hx
        exact .inr fun _ _ => trivial
    · exact .inl ⟨hx, rfl, fun _ _ _ _ _ => rfl⟩

/-- A row of nothing. -/
theorem res_row0 (hh : HRep F G ow w.heap) (hF : ∀ b, F b → b < w.heap.size) {d : Nat} {k : Kd} (hk : k.good = true) (hn : newObs ow d [.row k 0 []] = some ow') :
    Tr F G ow w (G.new d (loc1 none)) ow' w ∧ Sv F (G.new d (loc1 none)) ow' w.heap (.wh d 0 0 []) (.slice none 0 0) := by
  obtain ⟨hl, he, hnm⟩ := newObs_some hn
  have he : ow[d]? = some [] := by rcases he with h | h; cases h; exact h
  have hnm' : ∀ d' j, nameOf ow' d' j = if d' = d then [OB.row k 0 []][j]?.map some else nameOf ow d' j := fun d' j => by rw [hnm]; simp
  have key0 : ∀ d' j, d' ≠ d → (G.new d (loc1 none)) d' j = G d' j := fun d' j hd => by simp [Gh.new, hd]
  have keyd : ∀ j i, (G.new d (loc1 none)) d j i = none := fun j i => by simp [Gh.new, loc1]
  have hown : ∀ {d' j' i b o}, isOwn (nameOf ow' d' j') → (G.new d (loc1 none)) d' j' i = some (b, o) → isOwn (nameOf ow d' j') ∧ G d' j' i = some (b, o) := by
    intro d' j' i b o hi hg
    by_cases hd : d' = d
    · subst hd; rw [keyd] at hg; cases hg
    · rw [key0 _ _ hd] at hg; rw [hnm', if_neg hd] at hi; exact ⟨hi, hg⟩
  refine ⟨tr_of hh hF (fun d' j hx => ?_) (fun d' j => ?_) (.refl _ _) (fun b hb => ?_) (fun b r _ hr => ⟨r, hr, rfl⟩) (fun d' j o hx => ?_) (fun d1 j1 i1 d2 j2 i2 b o1 o2 h1 h2 g1 g2 => ?_) hl, .wh ?_⟩
  · refine congrFun (key0 _ _ fun e => ?_) 0
    rw [e, nameOf_empty he] at hx
    exact hx rfl
  · by_cases hd : d' = d
    · subst hd; rw [nameOf_empty he]; trivial
    · rw [hnm', if_neg hd]; exact .refl _
  · obtain ⟨d', j', i', o', hi, hg⟩ := own_iff.1 hb
    obtain ⟨hi, hg⟩ := hown hi hg
    exact .inl (own_iff.2 ⟨d', j', i', o', hi, hg⟩)
  · by_cases hd : d' = d
    · subst hd
      right
      intro _ _
      rw [hnm', if_pos rfl] at hx
      cases j with
      | zero =>
        simp at hx
        subst hx
        refine ⟨fun i => keyd 0 (i + 1), hk, ?_⟩
        rw [keyd]
      | succ j => simp at hx
    · left
      rw [hnm', if_neg hd] at hx
      exact ⟨hx, key0 _ _ hd, fun _ _ _ _ _ => rfl⟩
  · obtain ⟨h1, g1⟩ := hown h1 g1
    obtain ⟨h2, g2⟩ := hown h2 g2
    exact hh.apart d1 j1 i1 d2 j2 i2 b o1 o2 h1 h2 g1 g2
  · simp only [HandR, nameOf_new hn, Option.getD_none]
    exact ⟨by simp, _, _, rfl, Nat.le_refl _, .inl ⟨keyd 0 0, rfl, rfl⟩⟩

/-! ### Cells set -/

/-- A row with other cells from one on. -/
def setA (r : Array Value) (o : Nat) (vs : List Value) : Array Value := (r.toList.take o ++ vs ++ r.toList.drop (o + vs.length)).toArray

theorem setA_size {r : Array Value} {o : Nat} {vs : List Value} (h : o + vs.length ≤ r.size) : (setA r o vs).size = r.size := by
  simp [setA]; omega

theorem setA_get {r : Array Value} {o : Nat} {vs : List Value} (h : o + vs.length ≤ r.size) (i : Nat) : (setA r o vs)[i]? = if o ≤ i ∧ i < o + vs.length then vs[i - o]? else r[i]? := by
  simp only [setA, List.getElem?_toArray]
  by_cases h1 : i < o
  · rw [if_neg (by omega), List.append_assoc, List.getElem?_append_left (by simp; omega), List.getElem?_take_of_lt h1]
    simp
  · by_cases h2 : i < o + vs.length
    · rw [if_pos (by omega), List.getElem?_append_left (by simp; omega), List.getElem?_append_right (by simp; omega)]
      simp [Nat.min_eq_left (show o ≤ r.size by omega)]
    · rw [if_neg (by omega), List.getElem?_append_right (by simp; omega)]
      simp only [List.length_append, List.length_take, List.getElem?_drop, Array.length_toList, Array.getElem?_toList]
      congr 1
      omega

theorem heap_setCells {b : Nat} {et : TypeId} {f : Nat × Nat} : (vs : List Value) → (o : Nat) → (w : World) → {r : Array Value} → w.heap[b]? = some (.cells r et f) → o + vs.length ≤ r.size → (w.setCells b o vs).heap[b]? = some (.cells (setA r o vs) et f)
  | [], o, w, r, h, _ => by
    have : setA r o [] = r := by apply Array.ext'; simp [setA]
    rw [this]; exact h
  | v :: vs, o, w, r, h, hs => by
    simp only [List.length_cons] at hs
    have h1 : (w.setCell ⟨b, o, none⟩ v).heap[b]? = some (.cells (r.setIfInBounds o v) et f) := by
      simp [World.setCell, Array.getElem?_modify, h]
    have := heap_setCells vs (o + 1) (w.setCell ⟨b, o, none⟩ v) h1 (by simp; omega)
    show ((w.setCell ⟨b, o, none⟩ v).setCells b (o + 1) vs).heap[b]? = _
    rw [this]
    congr 2
    apply Array.ext_getElem?
    intro i
    rw [setA_get (by simp; omega), setA_get (by simp; omega)]
    by_cases h1 : o = i
    · subst h1
      rw [if_neg (by omega), if_pos (by simp)]
      simp [show o < r.size by omega]
    · by_cases h2 : o + 1 ≤ i ∧ i < o + 1 + vs.length
      · rw [if_pos h2, if_pos (by simp; omega)]
        have : i - o = (i - (o + 1)) + 1 := by omega
        rw [this, List.getElem?_cons_succ]
      · rw [if_neg h2, if_neg (by simp; omega)]
        simp [h1]

theorem size_setCells (b : Nat) : (vs : List Value) → (o : Nat) → (w : World) → (w.setCells b o vs).heap.size = w.heap.size
  | [], _, _ => rfl
  | v :: vs, o, w => by
    show ((w.setCell ⟨b, o, none⟩ v).setCells b (o + 1) vs).heap.size = _
    rw [size_setCells b vs]; simp

theorem tape_setCells (b : Nat) : (vs : List Value) → (o : Nat) → (w : World) → (w.setCells b o vs).tape = w.tape
  | [], _, _ => rfl
  | v :: vs, o, w => by
    show ((w.setCell ⟨b, o, none⟩ v).setCells b (o + 1) vs).tape = _
    rw [tape_setCells b vs]; rfl

theorem cells_setCell {w : World} {a : Addr} {v : Value} {b : Nat} {r : Array Value} {et : TypeId} {f : Nat × Nat} (h : w.heap[b]? = some (.cells r et f)) : ∃ r', (w.setCell a v).heap[b]? = some (.cells r' et f) ∧ r'.size = r.size := by
  by_cases hb : a.block = b
  · exact ⟨_, by simp [World.setCell, Array.getElem?_modify, hb, h]; rfl, by split <;> simp⟩
  · exact ⟨r, by simp [World.setCell, Array.getElem?_modify, hb, h], rfl⟩

theorem cells_setCells (b0 : Nat) {b : Nat} {et : TypeId} {f : Nat × Nat} : (vs : List Value) → (o : Nat) → (w : World) → {r : Array Value} → w.heap[b]? = some (.cells r et f) → ∃ r', (w.setCells b0 o vs).heap[b]? = some (.cells r' et f) ∧ r'.size = r.size
  | [], _, _, r, h => ⟨r, h, rfl⟩
  | v :: vs, o, w, r, h => by
    obtain ⟨r1, h1, e1⟩ := cells_setCell (a := ⟨b0, o, none⟩) (v := v) h
    obtain ⟨r2, h2, e2⟩ := cells_setCells b0 vs (o + 1) _ h1
    exact ⟨r2, h2, by omega⟩

theorem kept_setCells {I : Nat → Prop} {b : Nat} (hb : I b) (w : World) (o : Nat) (vs : List Value) : Kept I w (w.setCells b o vs) :=
  ⟨by rw [size_setCells]; exact Nat.le_refl _, fun b' hb' hI => World.heap_setCells_other w b o vs hb' (fun e => hI (e ▸ hb)), fun _ _ _ _ h => cells_setCells b vs o w h, World.os_setCells w b o vs, World.output_setCells w b o vs, tape_setCells b vs o w⟩

theorem sub_ge {r : Array Value} {p m i : Nat} (h : m ≤ i) : (sub r p m)[i]? = none := List.getElem?_eq_none (by simp [sub]; omega)

theorem sub_setA_before {r : Array Value} {o p m : Nat} {vs : List Value} (h : o + vs.length ≤ r.size) (hp : p + m ≤ o) : sub (setA r o vs) p m = sub r p m := by
  apply List.ext_getElem?
  intro i
  by_cases hi : i < m
  · rw [sub_getElem hi, sub_getElem hi, setA_get h, if_neg (by omega)]
  · rw [sub_ge (by omega), sub_ge (by omega)]

theorem sub_setA_same {r : Array Value} {o : Nat} {vs : List Value} (h : o + vs.length ≤ r.size) : sub (setA r o vs) o vs.length = vs := by
  apply List.ext_getElem?
  intro i
  by_cases hi : i < vs.length
  · rw [sub_getElem hi, setA_get h, if_pos (by omega)]
    congr 1
    omega
  · rw [List.getElem?_eq_none (by rw [sub_length (by rw [setA_size h]; omega)]; omega), List.getElem?_eq_none (by omega)]

theorem sub_setA_after {r : Array Value} {o p m : Nat} {vs : List Value} (h : o + vs.length ≤ r.size) (hp : o + vs.length ≤ p) : sub (setA r o vs) p m = sub r p m := by
  apply List.ext_getElem?
  intro i
  by_cases hi : i < m
  · rw [sub_getElem hi, sub_getElem hi, setA_get h, if_neg (by omega)]
  · rw [sub_ge (by omega), sub_ge (by omega)]

/-! ### Append -/

theorem run_append_zero {t tx ty e : TypeId} {i : TypeInfo} (ht : P.underlying t = some (.slice e)) (hi : P.info? e = some i) (base : Option Addr) {x : Value} (hs : Src P i.size tx x 0 [] w) :
    (Builtin.append_ #[t, tx] ty #[.slice base 0 0, x]).run P w = .ok (.slice base 0 0) w := by
  rcases hs.kind with ⟨e', hk⟩ | hk <;> cases base <;> simp [Builtin.append_, run_underlying ht, run_underlying hk, sizeOf, typeInfo, hi, hs.len, hs.cells, storeCells]

theorem zeroCells_size (z : Array Value) (n : Nat) : (Builtin.zeroCells z n).size = n * z.size := by simp [Builtin.zeroCells]

/-- It grows: a new row. -/
theorem append_grow (hh : HRep F G ow w.heap) (hF : ∀ b, F b → b < w.heap.size) {t tx ty e : TypeId} {k : Kd} (he : elemT P t = some e) (hok : elemOk P e k = true) {a : Option Addr} {l0 y : List k.T} {c : Nat} {xv : Value} {news : List Value} (hx : Src P k.n tx xv y.length news w)
    (hy : ElemsR (fun x cs => Rep w.heap (okF F G ow) k x cs) k.n y news.toArray 0) (holds : l0 = [] ∨ ∃ b o r, a = some ⟨b, o, none⟩ ∧ rowCells w.heap b = some r ∧ ElemsR (fun x cs => Rep w.heap (okF F G ow) k x cs) k.n l0 r o)
    (hgrow : c < l0.length + y.length) (hby : (l0.length + y.length) * bytesT P e ≤ maxBytes) {d : Nat} (hn : newObs ow d [.row k 0 (l0 ++ y)] = some ow') {Q : SV × OW → Prop} (hq : Q (.wh d 0 0 [], ow')) :
    Res P F G ow w Q (Builtin.append_ #[t, tx] ty #[.slice a l0.length c, xv]) := by
  obtain ⟨hgood, hpos, _, hbpos, i, z, hi, hz, hsz, hbe, hzs⟩ := elemOk_some hok
  have hu := elemT_some he
  obtain ⟨olds, hold, holdE⟩ : ∃ olds : List Value, (Builtin.firstCells i.size l0.length (.slice a l0.length c)).run P w.drew = .ok olds.toArray w.drew ∧ olds.length = l0.length * k.n ∧ ElemsR (fun x cs => Rep w.heap (okF F G ow) k x cs) k.n l0 olds.toArray 0 := by
    rcases holds with rfl | ⟨b, o, r, rfl, hr, hel⟩
    · refine ⟨[], ?_, by simp, ⟨by simp, fun i hi => by simp at hi⟩⟩
      cases a with
      | none => exact run_firstCells_none w.drew i.size 0 0 c
      | some a => exact run_firstCells_some w.drew i.size 0 a 0 c [] (by simp) (fun j u hu => by simp at hu)
    · have hlen := sub_length hel.1
      refine ⟨sub r o (l0.length * k.n), run_firstCells_some w.drew i.size l0.length _ _ _ _ (by rw [hsz]; exact hlen) (fun j u hu => ?_), hlen, hel.congr (by simp [hlen]) ?_⟩
      · rw [Addr.add_mid]
        show w.cell? _ = _
        rw [rowCells_cell hr, ← hu, sub_getElem]
        rcases Nat.lt_or_ge j (l0.length * k.n) with h | h
        · exact h
        · rw [List.getElem?_eq_none (by omega)] at hu; cases hu
      · show ((sub r o (l0.length * k.n)).toArray.toList.drop 0).take (l0.length * k.n) = _
        rw [List.drop_zero, List.take_of_length_le]
        simp [hlen]
  obtain ⟨holdL, holdE⟩ := holdE
  rw [hbe] at hby hbpos
  unfold maxBytes at hby
  have h3 : l0.length + y.length ≤ (l0.length + y.length) * i.bytes := Nat.le_mul_of_pos_right _ hbpos
  have hcap := nextslicecap_le (l0.length + y.length) c hgrow
  have hfit : Builtin.nextslicecap (l0.length + y.length) c * i.bytes ≤ 281474976710656 := by
    have := Nat.mul_le_mul_right i.bytes hcap
    rw [Nat.mul_assoc] at this
    omega
  have hrun := run_append_grow_src (P := P) w t tx ty e i z hu hi hz a l0.length c olds hold xv y.length news (by rw [hsz]; exact hx) hgrow (by omega) hfit
  have hg1 := grownCap_ge w (l0.length + y.length) c e
  generalize hcc : grownCap w (l0.length + y.length) c e = cc at hrun hg1
  have hnl : news.length = y.length * k.n := by have := hx.newsLen; exact this
  have hE : ElemsR (fun x cs => Rep w.heap (okF F G ow) k x cs) k.n (l0 ++ y) ((olds ++ news).toArray ++ Builtin.zeroCells z.cells (cc - (l0.length + y.length))) 0 := by
    have hsub1 : ∀ A B : List Value, ∀ Z : Array Value, sub ((A ++ B).toArray ++ Z) 0 A.length = sub A.toArray 0 A.length := by
      intro A B Z
      simp [sub]
    have hsub2 : ∀ A B : List Value, ∀ Z : Array Value, sub ((A ++ B).toArray ++ Z) A.length B.length = sub B.toArray 0 B.length := by
      intro A B Z
      simp [sub]
    refine ElemsR.append (holdE.congr ?_ ?_) (hy.congr ?_ ?_)
    · simp only [Array.size_append, List.size_toArray, List.length_append, holdL]; omega
    · rw [← holdL]; exact hsub1 _ _ _
    · simp only [Array.size_append, List.size_toArray, List.length_append, holdL, hnl]; omega
    · rw [← hnl, Nat.zero_add, ← holdL]; exact hsub2 _ _ _
  obtain ⟨t1, s1⟩ := res_row hh hF hgood hE hn e (c := cc) (by simpa using hg1) (by
    simp only [Array.size_append, List.size_toArray, List.length_append, zeroCells_size, hzs, holdL, hnl]
    rw [← Nat.add_mul, ← Nat.add_mul]
    exact Nat.mul_le_mul_right _ (by omega)) (w1 := w.drew) rfl rfl rfl rfl
  rw [List.length_append] at s1
  exact ⟨_, _, _, _, _, hq, hrun, t1, s1⟩

/-- There is room: the block is written on. -/
theorem append_room (hh : HRep F G ow w.heap) (hF : ∀ b, F b → b < w.heap.size) {t tx ty e : TypeId} {k : Kd} (he : elemT P t = some e) (hok : elemOk P e k = true) {l0 y : List k.T} {b o o' c dd jj : Nat} {r : Array Value} {et : TypeId} {ver : Nat} {l1 : List k.T} {xv : Value} {news : List Value} (hx : Src P k.n tx xv y.length news w)
    (hy : ElemsR (fun x cs => Rep w.heap (okF F G ow) k x cs) k.n y news.toArray 0) (hnm : nameOf ow dd jj = some (some (.row k ver l1))) (hG : G dd jj 0 = some (b, o')) (hb : w.heap[b]? = some (.cells r et (0, 0))) (hel : ElemsR (fun x cs => Rep w.heap (okF F G ow) k x cs) k.n l0 r o)
    (hroom : l0.length + y.length ≤ c) (hcap : o + c * k.n ≤ r.size) {d : Nat} (hn : newObs (putOb ow dd jj (some (.lrow l1.length))) d [.row k 0 (l0 ++ y)] = some ow') {Q : SV × OW → Prop} (hq : Q (.wh d 0 0 [], ow')) :
    Res P F G ow w Q (Builtin.append_ #[t, tx] ty #[.slice (some ⟨b, o, none⟩) l0.length c, xv]) := by
  obtain ⟨hgood, hpos, _, hbpos, i, z, hi, hz, hsz, hbe, hzs⟩ := elemOk_some hok
  have hu := elemT_some he
  have hnl : news.length = y.length * k.n := hx.newsLen
  have hown : Own G ow b := own_iff.2 ⟨dd, jj, 0, o', by rw [hnm]; trivial, hG⟩
  have hmul : (l0.length + y.length) * k.n ≤ c * k.n := Nat.mul_le_mul_right _ hroom
  rw [Nat.add_mul] at hmul
  have hsz' : o + l0.length * k.n + news.length ≤ r.size := by omega
  have hrun := run_append_room_src (P := P) w t tx ty e i hu hi b o l0.length c xv y.length news (by rw [hsz]; exact hx) hroom
    (fun j hj => by rw [hsz, rowCells_cell (rowCells_of hb)]; simp; omega)
    (fun j hj => by unfold World.frozen?; rw [hb]; simp)
  rw [hsz] at hrun
  have hb' := heap_setCells news (o + l0.length * k.n) w hb hsz'
  have hk : Kept (Own G ow) w (w.setCells b (o + l0.length * k.n) news) := kept_setCells hown w _ _
  obtain ⟨hl, hem, hnew⟩ := newObs_some hn
  have hem : (putOb ow dd jj (some (.lrow l1.length)))[d]? = some [] := by rcases hem with h | h; cases h; exact h
  have hdd : nameOf ow dd jj ≠ none := by rw [hnm]; simp
  have hput := fun d' j' => nameOf_putOb (o := some (.lrow l1.length)) (d' := d') (j' := j') hdd
  have hempty : ∀ j, nameOf ow d j = none := by
    intro j
    have h1 := nameOf_empty hem j
    rw [hput] at h1
    split at h1
    · cases h1
    · exact h1
  have hnm' : ∀ d' j, nameOf ow' d' j = if d' = d then [OB.row k 0 (l0 ++ y)][j]?.map some else if d' = dd ∧ j = jj then some (some (.lrow l1.length)) else nameOf ow d' j := fun d' j => by rw [hnew, hput]; simp
  have key0 : ∀ d' j, d' ≠ d → (G.new d (loc1 (some (b, o)))) d' j = G d' j := fun d' j hd => by simp [Gh.new, hd]
  have keyd : ∀ {j i b' o1}, (G.new d (loc1 (some (b, o)))) d j i = some (b', o1) → i = 0 ∧ b' = b := fun {j i b' o1} h => by
    simp only [Gh.new, if_true, loc1] at h
    split at h
    · rename_i e; cases h; exact ⟨e, rfl⟩
    · cases h
  have hinv : ∀ {d' j' i' b' o1}, isOwn (nameOf ow' d' j') → (G.new d (loc1 (some (b, o)))) d' j' i' = some (b', o1) →
      (d' = d ∧ j' = 0 ∧ i' = 0 ∧ b' = b) ∨ (d' ≠ d ∧ ¬ (d' = dd ∧ j' = jj) ∧ nameOf ow' d' j' = nameOf ow d' j' ∧ isOwn (nameOf ow d' j') ∧ G d' j' i' = some (b', o1) ∧ b' ≠ b) := by
    intro d' j' i' b' o1 hi hg
    by_cases hd : d' = d
    · subst hd
      obtain ⟨rfl, rfl⟩ := keyd hg
      refine .inl ⟨rfl, ?_, rfl, rfl⟩
      rw [hnm', if_pos rfl] at hi
      cases j' with
      | zero => rfl
      | succ j => simp [isOwn] at hi
    · right
      rw [key0 _ _ hd] at hg
      have e1 := hnm' d' j'
      rw [if_neg hd] at e1
      by_cases h2 : d' = dd ∧ j' = jj
      · rw [if_pos h2] at e1; rw [e1] at hi; exact hi.elim
      · rw [if_neg h2] at e1
        rw [e1] at hi
        refine ⟨hd, h2, e1, hi, hg, fun hbb => ?_⟩
        subst hbb
        have := hh.apart d' j' i' dd jj 0 b' o1 o' hi (by rw [hnm]; trivial) hg hG
        exact h2 ⟨this.1, this.2.1⟩
  have hg0 : (G.new d (loc1 (some (b, o)))) d 0 0 = some (b, o) := by simp [Gh.new, loc1]
  have hg1 : ∀ i, (G.new d (loc1 (some (b, o)))) d 0 (i + 1) = none := by simp [Gh.new, loc1]
  refine ⟨_, _, _, _, G.new d (loc1 (some (b, o))), hq, hrun, tr_of hh hF (fun d' j hx => ?_) (fun d' j => ?_) hk (fun b' hb1 => ?_) (fun b' r' ho hr => ?_) (fun d' j ob hx => ?_) (fun d1 j1 i1 d2 j2 i2 b1 o1 o2 h1 h2 g1 g2 => ?_) (by rw [hl, length_putOb]), .wh ?_⟩
  · refine congrFun (key0 _ _ fun e => ?_) 0
    rw [e, hempty] at hx
    exact hx rfl
  · by_cases hd : d' = d
    · subst hd; rw [hempty]; trivial
    · rw [hnm', if_neg hd]
      split
      · rename_i e; rw [e.1, e.2, hnm]; exact rfl
      · exact .refl _
  · obtain ⟨d', j', i', o1, hi, hg⟩ := own_iff.1 hb1
    rcases hinv hi hg with ⟨_, _, _, rfl⟩ | ⟨_, _, _, hi', hg', _⟩
    · exact .inl hown
    · exact .inl (own_iff.2 ⟨d', j', i', o1, hi', hg'⟩)
  · by_cases hbb : b' = b
    · subst hbb
      rw [rowCells_of hb] at hr
      cases hr
      exact ⟨_, rowCells_of hb', setA_size hsz'⟩
    · refine ⟨r', ?_, rfl⟩
      unfold rowCells
      rw [World.heap_setCells_other w b _ _ (rowCells_lt hr) hbb]
      exact hr
  · by_cases hd : d' = d
    · subst hd
      right
      intro _ hok
      rw [hnm', if_pos rfl] at hx
      cases j with
      | zero =>
        simp only [List.getElem?_cons_zero, Option.map_some, Option.some.injEq] at hx
        subst hx
        refine ⟨hg1, hgood, ?_⟩
        simp only [hg0]
        refine ⟨_, et, hb', ?_⟩
        refine ElemsR.mono (fun x cs hx => Rep.mono hok _ hx) (ElemsR.append (hel.congr ?_ (sub_setA_before hsz' (Nat.le_refl _))) (hy.congr ?_ ?_))
        · rw [setA_size hsz']; exact hel.1
        · rw [setA_size hsz']; omega
        · rw [← hnl, sub_setA_same hsz']
          simp [sub]
      | succ j => simp at hx
    · rw [hnm', if_neg hd] at hx
      split at hx
      · cases hx
        rename_i h2
        right
        intro _ _
        trivial
      · rename_i h2
        left
        refine ⟨hx, key0 _ _ hd, fun hi i b1 cc hg => ?_⟩
        have hob : Own G ow b1 := own_iff.2 ⟨d', j, i, cc, by rw [hx]; exact hi, hg⟩
        refine World.heap_setCells_other w b _ _ (Own.lt hh hob) fun hbb => ?_
        subst hbb
        have := hh.apart d' j i dd jj 0 b1 cc o' (by rw [hx]; exact hi) (by rw [hnm]; trivial) hg hG
        exact h2 ⟨this.1, this.2.1⟩
  · rcases hinv h1 g1 with ⟨e1, e2, e2', e3⟩ | ⟨_, _, _, k1, g1', n1⟩ <;> rcases hinv h2 g2 with ⟨e4, e5, e5', e6⟩ | ⟨_, _, _, k2, g2', n2⟩
    · exact ⟨by rw [e1, e4], by rw [e2, e5], by rw [e2', e5']⟩
    · exact absurd e3 n2
    · exact absurd e6 n1
    · exact hh.apart d1 j1 i1 d2 j2 i2 b1 o1 o2 k1 k2 g1' g2'
  · have hn0 : nameOf ow' d 0 = some (some (.row k 0 (l0 ++ y))) := by rw [hnm', if_pos rfl]; rfl
    simp only [HandR, hn0, Option.getD_none, List.length_append]
    exact ⟨by omega, _, _, rfl, hroom, .inr ⟨b, o, o, _, hg0, rfl, rowCells_of hb', fun _ => by simp, by rw [setA_size hsz']; exact hcap⟩⟩

theorem evAppend_sound {t tx ty : TypeId} {s x : SV} {sv xv : Value} {d : Nat} (hh : HRep F G ow w.heap) (hF : ∀ b, F b → b < w.heap.size) (hs : Sv F G ow w.heap s sv) (hx : Sv F G ow w.heap x xv) (htx : isSliceT P tx = true) {Q : SV × OW → Prop} (h : (evAppend P t s x ow d).can Q) :
    Res P F G ow w Q (Builtin.append_ #[t, tx] ty #[sv, xv]) := by
  obtain ⟨e', hte⟩ := isSliceT_some htx
  unfold evAppend at h
  split at h
  · exact h.elim
  rename_i e he
  have hu := elemT_some he
  split at h
  · cases hs
    split at h
    · cases hx
      split at h
      · rename_i hi
        obtain ⟨i, hi⟩ := Option.isSome_iff_exists.1 hi
        exact ⟨_, _, _, _, G, h, run_append_zero hu hi none (Src.ofNil w hte 0), .refl hh, .nils⟩
      · exact h.elim
    · split at h
      · rename_i k hk
        split at h
        · rename_i y hy
          split at h
          · rename_i hok
            obtain ⟨hby, h⟩ := h
            have hby := of_decide_eq_true hby
            split at h
            · rename_i ow' hn
              obtain ⟨hgood, hpos, _, hbpos, i, z, hi, hz, hsz, hbe, hzs⟩ := elemOk_some hok
              obtain ⟨news, hsrc, hel⟩ := appElems_sound (P := P) hh hpos hx hy hte
              cases y with
              | nil =>
                obtain ⟨t1, s1⟩ := res_row0 hh hF hgood hn
                have hnil : news = [] := List.eq_nil_of_length_eq_zero (by have := hsrc.newsLen; simpa using this)
                subst hnil
                exact ⟨_, _, _, _, _, h, run_append_zero hu hi none (by rw [hsz]; exact hsrc), t1, s1⟩
              | cons a y' =>
                exact append_grow (l0 := []) hh hF he hok hsrc hel (.inl rfl) (by simp) (by simpa using hby) hn h
            · exact h.elim
          · exact h.elim
        · exact h.elim
      · exact h.elim
  · split at h
    · rename_i dd j b hkey hrow
      split at h
      · rename_i hown
        split at h
        · rename_i y hy
          split at h
          · rename_i hok
            obtain ⟨hby, h⟩ := h
            have hby := of_decide_eq_true hby
            split at h
            · rename_i ow' hn
              obtain ⟨hgood, hpos, _, hbpos, i, z, hi, hz, hsz, hbe, hzs⟩ := elemOk_some hok
              obtain ⟨news, hsrc, hel⟩ := appElems_sound (P := P) hh hpos hx hy hte
              obtain ⟨_, ⟨ver, l1, hnm⟩, a, c, rfl, hlc, hcase⟩ := rowOwn_sound hh hs hkey hrow hown
              have hgo : goneOb ow dd j = putOb ow dd j (some (.lrow l1.length)) := by
                have : getOb ow dd j = some (.row b.1 ver l1) := by rw [getOb_eq, hnm]; rfl
                unfold goneOb; rw [this]
              rw [hgo] at hn
              have hdt := dead_tr hh hF (d := dd) (j := j) (by rw [hnm]; simp) (o := some (.lrow l1.length)) (.inr ⟨_, rfl⟩) (by rw [hnm]; exact rfl)
              by_cases hroom : b.2.length + y.length ≤ c
              · rcases hcase with ⟨_, rfl, hb0, hc0⟩ | ⟨bb, o, o', rw_, et, hG, rfl, hbb, hel0, hcap⟩
                · have hy0 : y = [] := List.eq_nil_of_length_eq_zero (by omega)
                  obtain ⟨bk, bl⟩ := b
                  dsimp only at *
                  subst hb0 hy0 hc0
                  obtain ⟨t1, s1⟩ := res_row0 hdt.hrep hF hgood hn
                  have hnil : news = [] := List.eq_nil_of_length_eq_zero (by have := hsrc.newsLen; simpa using this)
                  subst hnil
                  exact ⟨_, _, _, _, _, h, run_append_zero hu hi none (by rw [hsz]; exact hsrc), hdt.trans t1, s1⟩
                · exact append_room hh hF he hok hsrc hel hnm hG hbb hel0 hroom hcap hn h
              · obtain ⟨s', ow2, v', w2, G2, q1, q2, q3, q4⟩ := append_grow (P := P) (tx := tx) (ty := ty) (a := a) (c := c) (l0 := b.2) hdt.hrep hF he hok hsrc (hel.mono fun x cs hx => Rep.mono (ok_tr hdt) _ hx) (by
                  rcases hcase with ⟨_, _, hb0, _⟩ | ⟨bb, o, o', rw_, et, hG, ha, hbb, hel0, _⟩
                  · exact .inl hb0
                  · exact .inr ⟨bb, o, rw_, ha, rowCells_of hbb, hel0.mono fun x cs hx => Rep.mono (ok_tr hdt) _ hx⟩) (by omega) hby hn h
                exact ⟨s', ow2, v', w2, G2, q1, q2, hdt.trans q3, q4⟩
            · exact h.elim
          · exact h.elim
        · exact h.elim
      · exact h.elim
    · exact h.elim

end
end Go.Pev
end

section
/-
  PEV, part 13: stores.
-/
set_option linter.unusedVariables false
set_option linter.unusedSimpArgs false
namespace Go.Pev

section
variable {F : Nat → Prop} {G : Gh} {ow ow' : OW} {w : World} {P : Program}

/-- Cells of one's own block written. -/
theorem write_tr (hh : HRep F G ow w.heap) (hF : ∀ b, F b → b < w.heap.size) {d j : Nat} {ob ob' : OB} (hn : nameOf ow d j = some (some ob)) (hi : isOwn (some (some ob))) (hE : EC (some (some ob)) (some (some ob'))) (hi' : isOwn (some (some ob')))
    {b o0 : Nat} (hG : G d j 0 = some (b, o0)) {r : Array Value} {et : TypeId} (hb : w.heap[b]? = some (.cells r et (0, 0))) {p : Nat} {vs : List Value} (hp : p + vs.length ≤ r.size)
    (hob : (w.setCells b p vs).heap[b]? = some (.cells (setA r p vs) et (0, 0)) → (∀ s v, Sv F G ow w.heap s v → Sv F G (putOb ow d j (some ob')) (w.setCells b p vs).heap s v) →
      (∀ b' r', okF F G ow b' → rowCells w.heap b' = some r' → okF F G (putOb ow d j (some ob')) b' ∧ rowCells (w.setCells b p vs).heap b' = some r') →
      ObRep (w.setCells b p vs).heap (okF F G (putOb ow d j (some ob'))) G (putOb ow d j (some ob')) d j ob') :
    Tr F G ow w G (putOb ow d j (some ob')) (w.setCells b p vs) := by
  have hdd : nameOf ow d j ≠ none := by rw [hn]; simp
  have hnm := fun d' j' => nameOf_putOb (o := some ob') (d' := d') (j' := j') hdd
  have hown : Own G ow b := own_iff.2 ⟨d, j, 0, o0, by rw [hn]; exact hi, hG⟩
  have hb' := heap_setCells vs p w hb hp
  have back : ∀ {d' j'}, isOwn (nameOf (putOb ow d j (some ob')) d' j') → isOwn (nameOf ow d' j') := by
    intro d' j' h
    rw [hnm] at h
    split at h
    · rename_i e; rw [e.1, e.2, hn]; exact hi
    · exact h
  refine tr_of hh hF (fun _ _ _ => rfl) (fun d' j' => ?_) (kept_setCells hown w _ _) (fun b' hb1 => ?_) (fun b' r' ho hr => ?_) (fun d' j' o hx => ?_) (fun d1 j1 i1 d2 j2 i2 b1 o1 o2 h1 h2 g1 g2 => hh.apart d1 j1 i1 d2 j2 i2 b1 o1 o2 (back h1) (back h2) g1 g2) length_putOb
  · rw [hnm]
    split
    · rename_i e; rw [e.1, e.2, hn]; exact hE
    · exact .refl _
  · obtain ⟨d', j', i', o1, h1, hg⟩ := own_iff.1 hb1
    exact .inl (own_iff.2 ⟨d', j', i', o1, back h1, hg⟩)
  · by_cases hbb : b' = b
    · subst hbb
      rw [rowCells_of hb] at hr
      cases hr
      exact ⟨_, rowCells_of hb', setA_size hp⟩
    · refine ⟨r', ?_, rfl⟩
      unfold rowCells
      rw [World.heap_setCells_other w b _ _ (rowCells_lt hr) hbb]
      exact hr
  · rw [hnm] at hx
    split at hx
    · rename_i e
      obtain ⟨rfl, rfl⟩ := e
      have hx : ob' = o := by simpa using hx
      subst hx
      exact .inr (hob hb')
    · rename_i e
      refine .inl ⟨hx, rfl, fun ho i1 b1 cc hg => ?_⟩
      have hob1 : Own G ow b1 := own_iff.2 ⟨d', j', i1, cc, by rw [hx]; exact ho, hg⟩
      refine World.heap_setCells_other w b _ _ (Own.lt hh hob1) fun hbb => ?_
      subst hbb
      have := hh.apart d' j' i1 d j 0 b1 cc o0 (by rw [hx]; exact ho) (by rw [hn]; exact hi) hg hG
      exact e ⟨this.1, this.2.1⟩

theorem cellsOfSV_info {t : TypeId} {s : SV} {new : List SV} (h : cellsOfSV P t s = some new) : ∃ i, P.info? t = some i := by
  unfold cellsOfSV at h
  split at h
  · rename_i ha
    unfold isAggT undl at ha
    cases hu : P.underlying t with
    | none => rw [hu] at ha; cases ha
    | some d => exact info_of_underlying hu
  · split at h
    · rename_i hc
      simp only [Bool.and_eq_true, decide_eq_true_eq] at hc
      cases hi : P.info? t with
      | none => simp [sizeT, Program.cellsOf, hi] at hc
      | some i => exact ⟨i, rfl⟩
    · cases h

theorem run_storeAt_cells {t : TypeId} {i : TypeInfo} (hi : P.info? t = some i) {b o : Nat} {r : Array Value} {et : TypeId} (hb : w.heap[b]? = some (.cells r et (0, 0))) {v : Value} {vs : List Value} (hv : v.cells = vs.toArray) (h1 : ∀ u ∈ vs, u.oneCell' = true) (hl : vs.length = sizeT P t) (hs : o + vs.length ≤ r.size) :
    (Instr.storeAt t (.pointer (some ⟨b, o, none⟩)) v).run P w = .ok () (w.setCells b o vs) := by
  have hst := run_storeCells_cells (P := P) b o vs 0 w (fun j hj => by rw [rowCells_cell (rowCells_of hb)]; simp; omega) (fun j hj => by unfold World.frozen?; simp only; rw [hb]; simp) h1
  have hsz : vs.length = i.size := by rw [hl]; simp [sizeT, Program.cellsOf, hi]
  simp only [Nat.add_zero] at hst
  simp [Instr.storeAt, Instr.sureAddr, storeVar, sizeOf, typeInfo, hi, hv, hsz, hst]

/-! ### Parts of data set -/

theorem leaf_n {a : Kd} (h : a.isSt = false) : a.n = 1 := by cases a <;> simp_all [Kd.n, Kd.isSt]

theorem rep_leaf {h : Array Obj} {ok : Nat → Prop} {a b : Kd} (hk : a.isSt = false) {x : (Kd.cons a b).T} {cs : List Value} (e : Rep h ok (.cons a b) x cs) : ∃ v r, cs = v :: r ∧ Rep h ok a x.1 [v] ∧ Rep h ok b x.2 r := by
  obtain ⟨c1, c2, rfl, e1, e2⟩ := e
  have hl := Rep.length a e1
  rw [leaf_n hk] at hl
  match c1, hl, e1 with
  | [v], _, e1 => exact ⟨v, c2, rfl, e1, e2⟩

theorem setHead_rep {h : Array Obj} {ok : Nat → Prop} : (k : Kd) → k.leafy = true → {x : k.T} → {cs : List Value} → (k' : Kd) → {y : k'.T} → {vs : List Value} → {r : k.T} → setHead k x k' y = some r → Rep h ok k x cs → Rep h ok k' y vs → k'.leafy = true →
    Rep h ok k r (vs ++ cs.drop vs.length)
  | k, hk, x, cs, .nil, y, vs, r, e, ex, ey, _ => by
    cases ey
    have : setHead k x .nil y = some x := by unfold setHead; cases k <;> rfl
    rw [this] at e
    cases e
    simpa using ex
  | .cons a b, hk, x, cs, .cons a' b', y, vs, r, e, ex, ey, hk' => by
    simp only [Kd.leafy, Bool.and_eq_true, Bool.not_eq_true'] at hk hk'
    simp only [setHead] at e
    split at e
    · rename_i ha
      subst ha
      split at e
      · rename_i r' hr'
        cases e
        obtain ⟨v, cs', rfl, _, ex2⟩ := rep_leaf hk.1 ex
        obtain ⟨u, vs', rfl, ey1, ey2⟩ := rep_leaf hk'.1 ey
        exact ⟨[u], vs' ++ cs'.drop vs'.length, rfl, ey1, setHead_rep b hk.2 b' hr' ex2 ey2 hk'.2⟩
      · cases e
    · cases e
  | .nil, _, _, _, .cons _ _, _, _, _, e, _, _, _ => by simp [setHead] at e
  | .int _, hk, _, _, _, _, _, _, _, _, _, _ => by cases hk
  | .bool, hk, _, _, _, _, _, _, _, _, _, _ => by cases hk
  | .str, hk, _, _, _, _, _, _, _, _, _, _ => by cases hk
  | .err, hk, _, _, _, _, _, _, _, _, _, _ => by cases hk
  | .any, hk, _, _, _, _, _, _, _, _, _, _ => by cases hk
  | .sl _ _, hk, _, _, _, _, _, _, _, _, _, _ => by cases hk
  | .tree _, hk, _, _, _, _, _, _, _, _, _, _ => by cases hk
  | .cons _ _, _, _, _, .int _, _, _, _, e, _, _, _ => by simp [setHead] at e
  | .cons _ _, _, _, _, .bool, _, _, _, e, _, _, _ => by simp [setHead] at e
  | .cons _ _, _, _, _, .str, _, _, _, e, _, _, _ => by simp [setHead] at e
  | .cons _ _, _, _, _, .err, _, _, _, e, _, _, _ => by simp [setHead] at e
  | .cons _ _, _, _, _, .any, _, _, _, e, _, _, _ => by simp [setHead] at e
  | .cons _ _, _, _, _, .sl _ _, _, _, _, e, _, _, _ => by simp [setHead] at e
  | .cons _ _, _, _, _, .tree _, _, _, _, e, _, _, _ => by simp [setHead] at e
  | .nil, _, _, _, .int _, _, _, _, e, _, _, _ => by simp [setHead] at e
  | .nil, _, _, _, .bool, _, _, _, e, _, _, _ => by simp [setHead] at e
  | .nil, _, _, _, .str, _, _, _, e, _, _, _ => by simp [setHead] at e
  | .nil, _, _, _, .err, _, _, _, e, _, _, _ => by simp [setHead] at e
  | .nil, _, _, _, .any, _, _, _, e, _, _, _ => by simp [setHead] at e
  | .nil, _, _, _, .sl _ _, _, _, _, e, _, _, _ => by simp [setHead] at e
  | .nil, _, _, _, .tree _, _, _, _, e, _, _, _ => by simp [setHead] at e

theorem setAtCh_rep {h : Array Obj} {ok : Nat → Prop} : (k : Kd) → k.leafy = true → {x : k.T} → {cs : List Value} → (c : Nat) → (k' : Kd) → {y : k'.T} → {vs : List Value} → {r : k.T} → setAtCh k x c k' y = some r → Rep h ok k x cs → Rep h ok k' y vs → k'.leafy = true →
    Rep h ok k r (cs.take c ++ vs ++ cs.drop (c + vs.length))
  | k, hk, x, cs, 0, k', y, vs, r, e, ex, ey, hk' => by
    have : setAtCh k x 0 k' y = setHead k x k' y := by unfold setAtCh; cases k <;> rfl
    rw [this] at e
    simpa using setHead_rep k hk k' e ex ey hk'
  | .cons a b, hk, x, cs, c + 1, k', y, vs, r, e, ex, ey, hk' => by
    simp only [Kd.leafy, Bool.and_eq_true, Bool.not_eq_true'] at hk
    simp only [setAtCh] at e
    split at e
    · rename_i r' hr'
      cases e
      obtain ⟨v, cs', rfl, ex1, ex2⟩ := rep_leaf hk.1 ex
      have := setAtCh_rep b hk.2 c k' hr' ex2 ey hk'
      refine ⟨[v], _, ?_, ex1, this⟩
      simp [show c + 1 + vs.length = (c + vs.length) + 1 by omega]
    · cases e
  | .nil, _, _, _, _ + 1, _, _, _, _, e, _, _, _ => by simp [setAtCh] at e
  | .int _, hk, _, _, _ + 1, _, _, _, _, _, _, _, _ => by cases hk
  | .bool, hk, _, _, _ + 1, _, _, _, _, _, _, _, _ => by cases hk
  | .str, hk, _, _, _ + 1, _, _, _, _, _, _, _, _ => by cases hk
  | .err, hk, _, _, _ + 1, _, _, _, _, _, _, _, _ => by cases hk
  | .any, hk, _, _, _ + 1, _, _, _, _, _, _, _, _ => by cases hk
  | .sl _ _, hk, _, _, _ + 1, _, _, _, _, _, _, _, _ => by cases hk
  | .tree _, hk, _, _, _ + 1, _, _, _, _, _, _, _, _ => by cases hk

theorem unch_rep {h : Array Obj} {ok : Nat → Prop} : (k : Kd) → {x : k.ch.T} → {cs : List Value} → Rep h ok k.ch x cs → Rep h ok k (unch k x) cs
  | .int _, x, cs, e => by obtain ⟨c1, c2, rfl, e1, e2⟩ := e; cases e2; simpa [unch] using e1
  | .bool, x, cs, e => by obtain ⟨c1, c2, rfl, e1, e2⟩ := e; cases e2; simpa [unch] using e1
  | .str, x, cs, e => by obtain ⟨c1, c2, rfl, e1, e2⟩ := e; cases e2; simpa [unch] using e1
  | .err, x, cs, e => by obtain ⟨c1, c2, rfl, e1, e2⟩ := e; cases e2; simpa [unch] using e1
  | .any, x, cs, e => by obtain ⟨c1, c2, rfl, e1, e2⟩ := e; cases e2; simpa [unch] using e1
  | .sl _ _, x, cs, e => by obtain ⟨c1, c2, rfl, e1, e2⟩ := e; cases e2; simpa [unch] using e1
  | .nil, _, _, e => e
  | .cons _ _, _, _, e => e
  | .tree _, x, cs, e => by obtain ⟨c1, c2, rfl, e1, e2⟩ := e; cases e2; simpa [unch] using e1

theorem takeK_leafy : (k : Kd) → k.leafy = true → (n : Nat) → {r : Kd} → takeK k n = some r → r.leafy = true
  | k, _, 0, r, h => by
    have : takeK k 0 = some .nil := by cases k <;> rfl
    rw [this] at h; cases h; rfl
  | .cons a b, hk, n + 1, r, h => by
    simp only [Kd.leafy, Bool.and_eq_true] at hk
    simp only [takeK] at h
    split at h
    · rename_i r' hr'
      cases h
      simp only [Kd.leafy, Bool.and_eq_true]
      exact ⟨hk.1, takeK_leafy b hk.2 n hr'⟩
    · cases h
  | .nil, _, _ + 1, _, h => by simp [takeK] at h
  | .int _, _, _ + 1, _, h => by simp [takeK] at h
  | .bool, _, _ + 1, _, h => by simp [takeK] at h
  | .str, _, _ + 1, _, h => by simp [takeK] at h
  | .err, _, _ + 1, _, h => by simp [takeK] at h
  | .any, _, _ + 1, _, h => by simp [takeK] at h
  | .sl _ _, _, _ + 1, _, h => by simp [takeK] at h
  | .tree _, _, _ + 1, _, h => by simp [takeK] at h

theorem dropK_leafy : (k : Kd) → k.leafy = true → {x : k.T} → (c : Nat) → {y : Sigma Kd.T} → dropK k x c = some y → y.1.leafy = true
  | k, hk, x, 0, y, hy => by
    have : y = ⟨k, x⟩ := by unfold dropK at hy; cases k <;> simp_all
    subst this; exact hk
  | .cons a b, hk, x, c + 1, y, hy => by
    simp only [Kd.leafy, Bool.and_eq_true] at hk
    exact dropK_leafy b hk.2 c (by simpa [dropK] using hy)
  | .nil, _, _, _ + 1, _, hy => by simp [dropK] at hy
  | .int _, hk, _, _ + 1, _, _ => by cases hk
  | .bool, hk, _, _ + 1, _, _ => by cases hk
  | .str, hk, _, _ + 1, _, _ => by cases hk
  | .err, hk, _, _ + 1, _, _ => by cases hk
  | .any, hk, _, _ + 1, _, _ => by cases hk
  | .sl _ _, hk, _, _ + 1, _, _ => by cases hk
  | .tree _, hk, _, _ + 1, _, _ => by cases hk

theorem dropK_n : (k : Kd) → k.leafy = true → {x : k.T} → (c : Nat) → {y : Sigma Kd.T} → dropK k x c = some y → c + y.1.n = k.n
  | k, hk, x, 0, y, hy => by
    have : y = ⟨k, x⟩ := by unfold dropK at hy; cases k <;> simp_all
    subst this; simp
  | .cons a b, hk, x, c + 1, y, hy => by
    simp only [Kd.leafy, Bool.and_eq_true, Bool.not_eq_true'] at hk
    have := dropK_n b hk.2 c (x := x.2) (y := y) (by simpa [dropK] using hy)
    simp only [Kd.n, leaf_n hk.1]
    omega
  | .nil, _, _, _ + 1, _, hy => by simp [dropK] at hy
  | .int _, hk, _, _ + 1, _, _ => by cases hk
  | .bool, hk, _, _ + 1, _, _ => by cases hk
  | .str, hk, _, _ + 1, _, _ => by cases hk
  | .err, hk, _, _ + 1, _, _ => by cases hk
  | .any, hk, _, _ + 1, _, _ => by cases hk
  | .sl _ _, hk, _, _ + 1, _, _ => by cases hk
  | .tree _, hk, _, _ + 1, _, _ => by cases hk

theorem evStore_sound {t : TypeId} {p s : SV} {pv sv : Value} (hh : HRep F G ow w.heap) (hF : ∀ b, F b → b < w.heap.size) (hp : Sv F G ow w.heap p pv) (hs : Sv F G ow w.heap s sv) {Q : OW → Prop} (h : (evStore P t p s ow).can Q) :
    ∃ ow' w', Q ow' ∧ (Instr.storeAt t pv sv).run P w = .ok () w' ∧ Tr F G ow w G ow' w' := by
  unfold evStore at h
  split at h
  · exact h.elim
  rename_i new hnew
  obtain ⟨i, hi⟩ := cellsOfSV_info hnew
  obtain ⟨vs, hvs, hsv, h1, hl⟩ := cellsOfSV_sound hs hnew
  split at h
  · rename_i d j c
    split at h
    · rename_i cells hg
      split at h
      · rename_i cells' hc'
        have hn := nameOf_of_getOb hg
        obtain ⟨hG1, b, o, r, et, hG, hb, hsz, hc⟩ := hh.obs d j _ hn
        cases hp with
        | bp hp =>
        simp only [hn] at hp
        obtain ⟨b', o', hG', rfl⟩ := hp
        rw [hG] at hG'; cases hG'
        unfold setCells at hc'
        split at hc'
        · rename_i hle
          cases hc'
          have hlen : new.length = vs.length := hsv.1
          have hle' : o + c + vs.length ≤ r.size := by omega
          refine ⟨_, _, h, run_storeAt_cells hi hb hvs h1 hl hle', write_tr (ob' := .box (cells.take c ++ new ++ cells.drop (c + new.length))) hh hF hn trivial trivial trivial hG hb hle' fun hb' hsvm _ => ?_⟩
          refine ⟨hG1, b, o, _, et, hG, hb', ?_, fun q hq hr => ?_⟩
          · rw [setA_size hle']
            simp
            omega
          · have e1 := setA_get hle' (o + q)
            rw [Array.getElem?_eq_getElem hr] at e1
            simp only [List.length_append, List.length_take, List.length_drop] at hq
            by_cases h2 : q < c
            · rw [if_neg (by omega), Array.getElem?_eq_getElem (by omega)] at e1
              have e2 : (cells.take c ++ new ++ cells.drop (c + new.length))[q] = cells[q]'(by omega) := by
                simp only [List.append_assoc]
                rw [List.getElem_append_left (by simp; omega), List.getElem_take]
              rw [Option.some.inj e1, e2]
              exact hsvm _ _ (hc q (by omega) (by omega))
            · by_cases h3 : q < c + vs.length
              · rw [if_pos (by omega), List.getElem?_eq_getElem (by omega)] at e1
                have e2 : (cells.take c ++ new ++ cells.drop (c + new.length))[q] = new[q - c]'(by omega) := by
                  rw [List.getElem_append_left (by simp; omega), List.getElem_append_right (by simp; omega)]
                  congr 1
                  simp
                  omega
                have e3 : o + q - (o + c) = q - c := by omega
                simp only [e3] at e1
                rw [Option.some.inj e1, e2]
                exact hsvm _ _ (hsv.2 (q - c) (by omega) (by omega))
              · rw [if_neg (by omega), Array.getElem?_eq_getElem (by omega)] at e1
                have e2 : (cells.take c ++ new ++ cells.drop (c + new.length))[q] = cells[q]'(by omega) := by
                  rw [List.getElem_append_right (by simp; omega), List.getElem_drop]
                  congr 1
                  simp
                  omega
                rw [Option.some.inj e1, e2]
                exact hsvm _ _ (hc q (by omega) (by omega))
        · cases hc'
      · exact h.elim
    · exact h.elim
  · rename_i d j ver0 e c
    split at h
    · rename_i k ver l hg
      split at h
      · rename_i kt hkt
        split at h
        · rename_i y hy
          split at h
          · rename_i k' ver' l' hg'
            split at h
            · rename_i hk
              subst hk
              obtain ⟨x, hx, h⟩ := h
              dsimp only at h
              split at h
              · rename_i x' hx'
                obtain ⟨t1, hrepv⟩ := toCells_sound hF kt (x := y.1) (ow' := y.2) hh hsv hy
                have hn := nameOf_of_getOb hg'
                obtain ⟨hG1, hgood, ho⟩ := t1.hrep.obs d j _ hn
                have hleaf := (Bool.and_eq_true _ _ ▸ hgood : k'.noOwn = true ∧ k'.ch.leafy = true).2
                have hp' := t1.sv _ _ hp
                cases hp' with
                | rp hp' =>
                simp only [hn] at hp'
                obtain ⟨hel, b, o, hG, rfl⟩ := hp'
                simp only [hG] at ho
                obtain ⟨r, et, hb, hE⟩ := ho
                have hx : l'[e]? = some x := hx
                obtain ⟨_, rfl⟩ := List.getElem?_eq_some_iff.1 hx
                have hktl : kt.leafy = true ∧ c ≤ k'.n := by
                  unfold kindsAt at hkt
                  split at hkt
                  · rename_i z hz
                    have := dropK_n _ hleaf c hz
                    rw [ch_n] at this
                    exact ⟨takeK_leafy z.1 (dropK_leafy _ hleaf c hz) _ hkt, by omega⟩
                  · cases hkt
                obtain ⟨hktl, hck⟩ := hktl
                have hre := ch_rep k' (hE.2 e hel)
                have hset := setAtCh_rep k'.ch hleaf c kt hx' hre hrepv hktl
                have hlen := Rep.length _ hset
                rw [ch_n] at hlen
                have hbnd : (e + 1) * k'.n ≤ l'.length * k'.n := Nat.mul_le_mul_right _ hel
                rw [Nat.add_mul, Nat.one_mul] at hbnd
                have hE1 := hE.1
                have hslen : (sub r (o + e * k'.n) k'.n).length = k'.n := sub_length (by omega)
                have hcv : c + vs.length ≤ k'.n := by
                  simp only [List.length_append, List.length_take, List.length_drop, hslen] at hlen
                  omega
                have hle' : o + e * k'.n + c + vs.length ≤ r.size := by omega
                have hE0 : EC (some (some (.row k' ver' l'))) (some (some (.row k' ver' (l'.set e (unch k' x'))))) := ⟨rfl, by simp⟩
                have ht := write_tr (ob' := .row k' ver' (l'.set e (unch k' x'))) t1.hrep hF hn trivial hE0 trivial hG hb hle' (fun hb' _ hok => by
                  refine ⟨hG1, hgood, ?_⟩
                  simp only [hG]
                  refine ⟨_, et, hb', ?_, fun q hq => ?_⟩
                  · rw [setA_size hle']; simpa using hE1
                  · simp only [List.length_set] at hq
                    have hbq : (q + 1) * k'.n ≤ l'.length * k'.n := Nat.mul_le_mul_right _ hq
                    rw [Nat.add_mul, Nat.one_mul] at hbq
                    by_cases hqe : e = q
                    · subst hqe
                      rw [List.getElem_set_self]
                      have e1 : sub (setA r (o + e * k'.n + c) vs) (o + e * k'.n) k'.n = (sub r (o + e * k'.n) k'.n).take c ++ vs ++ (sub r (o + e * k'.n) k'.n).drop (c + vs.length) := by
                        apply List.ext_getElem?
                        intro z
                        by_cases hz : z < k'.n
                        · rw [sub_getElem hz, setA_get hle']
                          by_cases h2 : z < c
                          · rw [if_neg (by omega), List.append_assoc, List.getElem?_append_left (by simp [hslen]; omega), List.getElem?_take_of_lt h2, sub_getElem hz]
                          · by_cases h3 : z < c + vs.length
                            · rw [if_pos (by omega), List.getElem?_append_left (by simp [hslen]; omega), List.getElem?_append_right (by simp [hslen]; omega)]
                              congr 1
                              simp [hslen]
                              omega
                            · rw [if_neg (by omega), List.getElem?_append_right (by simp [hslen]; omega)]
                              simp only [List.length_append, List.length_take, hslen, List.getElem?_drop]
                              rw [show c + vs.length + (z - (min c k'.n + vs.length)) = z by omega, sub_getElem hz]
                        · rw [sub_ge (by omega), List.getElem?_eq_none]
                          simp [hslen]
                          omega
                      rw [e1]
                      exact Rep.mono hok _ (unch_rep k' hset)
                    · rw [List.getElem_set_ne hqe]
                      have e1 : sub (setA r (o + e * k'.n + c) vs) (o + q * k'.n) k'.n = sub r (o + q * k'.n) k'.n := by
                        rcases Nat.lt_or_gt_of_ne hqe with h2 | h2
                        · have : (e + 1) * k'.n ≤ q * k'.n := Nat.mul_le_mul_right _ h2
                          rw [Nat.add_mul, Nat.one_mul] at this
                          exact sub_setA_after hle' (by omega)
                        · have : (q + 1) * k'.n ≤ e * k'.n := Nat.mul_le_mul_right _ h2
                          rw [Nat.add_mul, Nat.one_mul] at this
                          exact sub_setA_before hle' (by omega)
                      rw [e1]
                      exact Rep.mono hok _ (hE.2 q hq))
                exact ⟨_, _, h, run_storeAt_cells hi hb hvs h1 hl hle', t1.trans ht⟩
              · exact h.elim
            · exact h.elim
          · exact h.elim
        · exact h.elim
      · exact h.elim
    · exact h.elim
  · exact h.elim

end
end Go.Pev
end

section
/-
  PEV, part 14: shapes in memory.
-/
namespace Go.Pev

/-- What may not be touched, with some blocks more. -/
def FP (F : Nat → Prop) (fp : List Nat) (b : Nat) : Prop := F b ∨ b ∈ fp

def PayR (h : Array Obj) (ok : Nat → Prop) (k : Kd) (x : k.T) (v : Value) : Prop :=
  Rep h ok k x v.cells.toList ∧ (k.isSt = true → (∃ cs, v = .agg cs) ∧ k.leafy = true) ∧ (k.isSt = false → v.oneCell' = true)

def RowR (h : Array Obj) (ok : Nat → Prop) (k : Kd) (l : List k.T) (v : Value) (fp : List Nat) : Prop :=
  k.good = true ∧ ∃ a c, v = .slice a l.length c ∧ l.length ≤ c ∧ ((a = none ∧ l = [] ∧ c = 0 ∧ fp = []) ∨
    ∃ b o r et, a = some ⟨b, o, none⟩ ∧ fp = [b] ∧ h[b]? = some (.cells r et (0, 0)) ∧ ElemsR (fun x cs => Rep h ok k x cs) k.n l r o ∧ o + c * k.n ≤ r.size)

/-- A shape's values; 'fp': the blocks that it owns. -/
def ShR (h : Array Obj) (ok : Nat → Prop) : (s : Sh) → s.T → List Value → List Nat → Prop
  | .pur kd, x, vs, fp => ∃ v, vs = [v] ∧ fp = [] ∧ PayR h ok kd x v
  | .own k, l, vs, fp => ∃ v, vs = [v] ∧ RowR h ok k l v fp
  | .row k, l, vs, fp => ∃ v, vs = [v] ∧ RowR h ok k l v fp
  | .box l, x, vs, fp => ∃ b o r et fp', vs = [.pointer (some ⟨b, o, none⟩)] ∧ fp = b :: fp' ∧ h[b]? = some (.cells r et (0, 0)) ∧ o + l.len ≤ r.size ∧ ShR h ok l x (sub r o l.len) fp'
  | .agg l, x, vs, fp => ∃ cs, vs = [.agg cs.toArray] ∧ ShR h ok l x cs fp
  | .fn f n l, x, vs, fp => ∃ xs ys, vs = [.func f xs.toArray ys.toArray] ∧ xs.length = n ∧ ShR h ok l x (xs ++ ys) fp
  | .ign, _, vs, fp => ∃ v, vs = [v] ∧ fp = []
  | .nl, _, vs, fp => vs = [.slice none 0 0] ∧ fp = []
  | .nil, _, vs, fp => vs = [] ∧ fp = []
  | .cons a b, x, vs, fp => ∃ v r f1 f2, vs = v :: r ∧ fp = f1 ++ f2 ∧ ShR h ok a x.1 [v] f1 ∧ ShR h ok b x.2 r f2

/-- What a shape's values hold when a call has ended. -/
def OutR (h : Array Obj) (ok : Nat → Prop) : (s : Sh) → s.Out → List Value → List Nat → Prop
  | .pur _, _, vs, fp => (∃ v, vs = [v]) ∧ fp = []
  | .own _, _, vs, fp => (∃ v, vs = [v]) ∧ fp = []
  | .row k, l, vs, fp => ∃ v, vs = [v] ∧ RowR h ok k l v fp
  | .box l, x, vs, fp => ∃ b o r et fp', vs = [.pointer (some ⟨b, o, none⟩)] ∧ fp = b :: fp' ∧ h[b]? = some (.cells r et (0, 0)) ∧ o + l.len ≤ r.size ∧ ShR h ok l x (sub r o l.len) fp'
  | .agg l, x, vs, fp => ∃ cs, vs = [.agg cs.toArray] ∧ OutR h ok l x cs fp
  | .fn f n l, x, vs, fp => ∃ xs ys, vs = [.func f xs.toArray ys.toArray] ∧ xs.length = n ∧ OutR h ok l x (xs ++ ys) fp
  | .ign, _, vs, fp => (∃ v, vs = [v]) ∧ fp = []
  | .nl, _, vs, fp => (∃ v, vs = [v]) ∧ fp = []
  | .nil, _, vs, fp => vs = [] ∧ fp = []
  | .cons a b, x, vs, fp => ∃ v r f1 f2, vs = v :: r ∧ fp = f1 ++ f2 ∧ (a.noOuts = true ∧ f1 = [] ∨ a.noOuts = false ∧ OutR h ok a x.1 [v] f1) ∧ OutR h ok b x.2 r f2

theorem PayR.mono {h h' : Array Obj} {ok ok' : Nat → Prop} (hm : ∀ b r, ok b → rowCells h b = some r → ok' b ∧ rowCells h' b = some r) {k : Kd} {x : k.T} {v : Value} (e : PayR h ok k x v) : PayR h' ok' k x v :=
  ⟨Rep.mono hm _ e.1, e.2⟩

theorem RowR.mono {h h' : Array Obj} {ok ok' : Nat → Prop} (hm : ∀ b r, ok b → rowCells h b = some r → ok' b ∧ rowCells h' b = some r) {k : Kd} {l : List k.T} {v : Value} {fp : List Nat} (hf : ∀ b ∈ fp, h'[b]? = h[b]?) (e : RowR h ok k l v fp) : RowR h' ok' k l v fp := by
  obtain ⟨hk, a, c, hv, hlc, e⟩ := e
  refine ⟨hk, a, c, hv, hlc, ?_⟩
  rcases e with e | ⟨b, o, r, et, ha, rfl, hb, hel, hs⟩
  · exact .inl e
  · exact .inr ⟨b, o, r, et, ha, rfl, by rw [hf b (by simp), hb], hel.mono fun x cs hx => Rep.mono hm _ hx, hs⟩

theorem ShR.mono {h h' : Array Obj} {ok ok' : Nat → Prop} (hm : ∀ b r, ok b → rowCells h b = some r → ok' b ∧ rowCells h' b = some r) : (s : Sh) → {x : s.T} → {vs : List Value} → {fp : List Nat} → (∀ b ∈ fp, h'[b]? = h[b]?) → ShR h ok s x vs fp → ShR h' ok' s x vs fp
  | .pur _, _, _, _, _, e => by obtain ⟨v, h1, h2, e⟩ := e; exact ⟨v, h1, h2, e.mono hm⟩
  | .own _, _, _, _, hf, e => by obtain ⟨v, h1, e⟩ := e; exact ⟨v, h1, e.mono hm hf⟩
  | .row _, _, _, _, hf, e => by obtain ⟨v, h1, e⟩ := e; exact ⟨v, h1, e.mono hm hf⟩
  | .box l, _, _, _, hf, e => by
    obtain ⟨b, o, r, et, fp', h1, rfl, h3, h4, e⟩ := e
    exact ⟨b, o, r, et, fp', h1, rfl, by rw [hf b (by simp), h3], h4, ShR.mono hm l (fun b' hb => hf b' (by simp [hb])) e⟩
  | .agg l, _, _, _, hf, e => by obtain ⟨cs, h1, e⟩ := e; exact ⟨cs, h1, ShR.mono hm l hf e⟩
  | .fn _ _ l, _, _, _, hf, e => by obtain ⟨xs, ys, h1, h2, e⟩ := e; exact ⟨xs, ys, h1, h2, ShR.mono hm l hf e⟩
  | .ign, _, _, _, _, e => e
  | .nl, _, _, _, _, e => e
  | .nil, _, _, _, _, e => e
  | .cons a b, _, _, _, hf, e => by
    obtain ⟨v, r, f1, f2, h1, rfl, e1, e2⟩ := e
    exact ⟨v, r, f1, f2, h1, rfl, ShR.mono hm a (fun b' hb => hf b' (by simp [hb])) e1, ShR.mono hm b (fun b' hb => hf b' (by simp [hb])) e2⟩

theorem OutR.mono {h h' : Array Obj} {ok ok' : Nat → Prop} (hm : ∀ b r, ok b → rowCells h b = some r → ok' b ∧ rowCells h' b = some r) : (s : Sh) → {x : s.Out} → {vs : List Value} → {fp : List Nat} → (∀ b ∈ fp, h'[b]? = h[b]?) → OutR h ok s x vs fp → OutR h' ok' s x vs fp
  | .pur _, _, _, _, _, e => e
  | .own _, _, _, _, _, e => e
  | .row _, _, _, _, hf, e => by obtain ⟨v, h1, e⟩ := e; exact ⟨v, h1, e.mono hm hf⟩
  | .box l, _, _, _, hf, e => by
    obtain ⟨b, o, r, et, fp', h1, rfl, h3, h4, e⟩ := e
    exact ⟨b, o, r, et, fp', h1, rfl, by rw [hf b (by simp), h3], h4, ShR.mono hm l (fun b' hb => hf b' (by simp [hb])) e⟩
  | .agg l, _, _, _, hf, e => by obtain ⟨cs, h1, e⟩ := e; exact ⟨cs, h1, OutR.mono hm l hf e⟩
  | .fn _ _ l, _, _, _, hf, e => by obtain ⟨xs, ys, h1, h2, e⟩ := e; exact ⟨xs, ys, h1, h2, OutR.mono hm l hf e⟩
  | .ign, _, _, _, _, e => e
  | .nl, _, _, _, _, e => e
  | .nil, _, _, _, _, e => e
  | .cons a b, _, _, _, hf, e => by
    obtain ⟨v, r, f1, f2, h1, rfl, e1, e2⟩ := e
    refine ⟨v, r, f1, f2, h1, rfl, ?_, OutR.mono hm b (fun b' hb => hf b' (by simp [hb])) e2⟩
    rcases e1 with e1 | ⟨h0, e1⟩
    · exact .inl e1
    · exact .inr ⟨h0, OutR.mono hm a (fun b' hb => hf b' (by simp [hb])) e1⟩

/-! ### What is taken -/

def TkE (o n : Option (Option OB)) : Prop :=
  n = o ∨ (isOwn o ∧ n = some none) ∨ ∃ k ver l, o = some (some (.row k ver l)) ∧ n = some (some (.frow k ver l))

theorem TkE.trans {o n m : Option (Option OB)} (h1 : TkE o n) (h2 : TkE n m) : TkE o m := by
  rcases h1 with rfl | ⟨h, rfl⟩ | ⟨k, ver, l, rfl, rfl⟩
  · exact h2
  · rcases h2 with rfl | ⟨h', _⟩ | ⟨_, _, _, h', _⟩
    · exact .inr (.inl ⟨h, rfl⟩)
    · exact h'.elim
    · cases h'
  · rcases h2 with rfl | ⟨h', _⟩ | ⟨_, _, _, h', _⟩
    · exact .inr (.inr ⟨k, ver, l, rfl, rfl⟩)
    · exact h'.elim
    · cases h'

theorem TkE.own {o n : Option (Option OB)} (h : TkE o n) (hn : isOwn n) : n = o := by
  rcases h with h | ⟨_, rfl⟩ | ⟨_, _, _, _, rfl⟩
  · exact h
  · exact hn.elim
  · exact hn.elim

theorem TkE.ec {o n : Option (Option OB)} (h : TkE o n) : EC o n := by
  rcases h with rfl | ⟨_, rfl⟩ | ⟨_, _, _, rfl, rfl⟩
  · exact .refl _
  · exact .dead
  · exact ⟨rfl, rfl⟩

structure Taken (ow ow1 : OW) : Prop where
  len : ow1.length = ow.length
  names : ∀ d j, TkE (nameOf ow d j) (nameOf ow1 d j)

theorem Taken.refl (ow : OW) : Taken ow ow := ⟨rfl, fun _ _ => .inl rfl⟩
theorem Taken.trans {a b c : OW} (h1 : Taken a b) (h2 : Taken b c) : Taken a c := ⟨by rw [h2.len, h1.len], fun d j => (h1.names d j).trans (h2.names d j)⟩

/-- What was taken. -/
def TkB (G : Gh) (ow ow1 : OW) (b : Nat) : Prop := ∃ d j i o, isOwn (nameOf ow d j) ∧ G d j i = some (b, o) ∧ nameOf ow1 d j = some none

def FpOk (G : Gh) (ow ow1 : OW) (fp : List Nat) : Prop := ∀ b, b ∈ fp ↔ TkB G ow ow1 b

theorem TkB.trans {G : Gh} {a b c : OW} (h1 : Taken a b) (h2 : Taken b c) (x : Nat) : TkB G a c x ↔ TkB G a b x ∨ TkB G b c x := by
  constructor
  · rintro ⟨d, j, i, o, hi, hg, hn⟩
    rcases h1.names d j with e | ⟨_, e⟩ | ⟨k, ver, l, _, e⟩
    · exact .inr ⟨d, j, i, o, by rw [e]; exact hi, hg, hn⟩
    · exact .inl ⟨d, j, i, o, hi, hg, e⟩
    · rcases h2.names d j with e2 | ⟨h', _⟩ | ⟨_, _, _, h', _⟩
      · rw [hn, e] at e2; cases e2
      · rw [e] at h'; exact h'.elim
      · rw [e] at h'; cases h'
  · rintro (⟨d, j, i, o, hi, hg, hn⟩ | ⟨d, j, i, o, hi, hg, hn⟩)
    · refine ⟨d, j, i, o, hi, hg, ?_⟩
      rcases h2.names d j with e2 | ⟨h', _⟩ | ⟨_, _, _, h', _⟩
      · rw [e2, hn]
      · rw [hn] at h'; exact h'.elim
      · rw [hn] at h'; cases h'
    · exact ⟨d, j, i, o, by rw [← (h1.names d j).own hi]; exact hi, hg, hn⟩

theorem FpOk.refl (G : Gh) (ow : OW) : FpOk G ow ow [] := fun b => by
  constructor
  · intro h; simp at h
  · rintro ⟨d, j, i, o, hi, _, hn⟩
    rw [hn] at hi; exact hi.elim

section
variable {F : Nat → Prop} {G : Gh} {ow ow1 ow2 : OW} {h : Array Obj} {fp : List Nat}

theorem Taken.own (hT : Taken ow ow1) {b : Nat} (hb : Own G ow1 b) : Own G ow b := by
  obtain ⟨d, j, i, o, hi, hg⟩ := own_iff.1 hb
  exact own_iff.2 ⟨d, j, i, o, by rw [← (hT.names d j).own hi]; exact hi, hg⟩

theorem FpOk.own (hf : FpOk G ow ow1 fp) {b : Nat} (hb : b ∈ fp) : Own G ow b := by
  obtain ⟨d, j, i, o, hi, hg, _⟩ := (hf b).1 hb
  exact own_iff.2 ⟨d, j, i, o, hi, hg⟩

theorem FpOk.notOwn (hh : HRep F G ow h) (hT : Taken ow ow1) (hf : FpOk G ow ow1 fp) {b : Nat} (hb : b ∈ fp) : ¬ Own G ow1 b := by
  intro ho
  obtain ⟨d, j, i, o, hi, hg, hn⟩ := (hf b).1 hb
  obtain ⟨d', j', i', o', hi', hg'⟩ := own_iff.1 ho
  have e := (hT.names d' j').own hi'
  obtain ⟨rfl, rfl, _⟩ := hh.apart d j i d' j' i' b o o' hi (by rw [← e]; exact hi') hg hg'
  rw [hn] at hi'
  exact hi'

theorem taken_ok (hT : Taken ow ow1) (hf : FpOk G ow ow1 fp) {b : Nat} (hb : okF F G ow b) : okF (FP F fp) G ow1 b :=
  ⟨fun hx => by
    rcases hx with hx | hx
    · exact hb.1 hx
    · exact hb.2 (hf.own hx), fun ho => hb.2 (hT.own ho)⟩

theorem taken_state (hh : HRep F G ow h) (hT : Taken ow ow1) (hf : FpOk G ow ow1 fp) : HRep (FP F fp) G ow1 h ∧ ∀ s v, Sv F G ow h s v → Sv (FP F fp) G ow1 h s v := by
  have hok : ∀ b r, okF F G ow b → rowCells h b = some r → okF (FP F fp) G ow1 b ∧ rowCells h b = some r := fun b r hb hr => ⟨taken_ok hT hf hb, hr⟩
  have hE : ∀ d j, EC (nameOf ow d j) (nameOf ow1 d j) := fun d j => (hT.names d j).ec
  refine ⟨⟨fun d j o hn => ?_, fun d j i d' j' i' b o o' h1 h2 => ?_, fun b hb hx => ?_⟩, fun s v e => SvRep.mono (fun _ _ _ => rfl) hE hok (fun b r hr => ⟨r, hr, rfl⟩) e⟩
  · rcases hT.names d j with e | ⟨_, e⟩ | ⟨k, ver, l, e1, e2⟩
    · have hn' : nameOf ow d j = some (some o) := by rw [← e]; exact hn
      exact ObRep.mono (fun _ _ _ => rfl) hE hok (fun b r hr => ⟨r, hr, rfl⟩) rfl (fun _ _ _ _ _ => rfl) (hh.obs d j o hn')
    · rw [hn] at e; cases e
    · rw [hn] at e2
      have e2 : o = .frow k ver l := by simpa using e2
      subst e2
      obtain ⟨_, hk, ho⟩ := hh.obs d j _ e1
      refine ⟨hk, ?_⟩
      cases hg : G d j 0 with
      | none => simpa [hg] using ho
      | some p =>
        obtain ⟨b, o⟩ := p
        simp only [hg] at ho
        obtain ⟨r, et, hb, hel⟩ := ho
        refine .inr ⟨⟨fun hx => ?_, fun ho => ?_⟩, r, rowCells_of hb, hel.mono fun x cs hx => Rep.mono hok _ hx⟩
        · have hob : Own G ow b := own_iff.2 ⟨d, j, 0, o, by rw [e1]; trivial, hg⟩
          rcases hx with hx | hx
          · exact hh.notF b hob hx
          · obtain ⟨d', j', i', o', hi, hg', hn'⟩ := (hf b).1 hx
            obtain ⟨rfl, rfl, _⟩ := hh.apart d' j' i' d j 0 b o' o hi (by rw [e1]; trivial) hg' hg
            rw [hn] at hn'; cases hn'
        · obtain ⟨d', j', i', o', hi, hg'⟩ := own_iff.1 ho
          have e := (hT.names d' j').own hi
          obtain ⟨rfl, rfl, _⟩ := hh.apart d' j' i' d j 0 b o' o (by rw [← e]; exact hi) (by rw [e1]; trivial) hg' hg
          rw [hn] at hi; exact hi
  · exact hh.apart d j i d' j' i' b o o' (by rw [← (hT.names d j).own h1]; exact h1) (by rw [← (hT.names d' j').own h2]; exact h2)
  · rcases hx with hx | hx
    · exact hh.notF b (hT.own hb) hx
    · exact hf.notOwn hh hT hx hb

theorem taken_put {d j : Nat} (hi : isOwn (nameOf ow d j)) : Taken ow (putOb ow d j none) := by
  have hn : nameOf ow d j ≠ none := by intro h; rw [h] at hi; exact hi
  refine ⟨length_putOb, fun d' j' => ?_⟩
  rw [nameOf_putOb hn]
  split
  · rename_i e
    rw [e.1, e.2]
    exact .inr (.inl ⟨hi, rfl⟩)
  · exact .inl rfl

/-- Rows were frozen, nothing else. -/
structure FTaken (ow ow1 : OW) : Prop where
  len : ow1.length = ow.length
  names : ∀ d j, nameOf ow1 d j = nameOf ow d j ∨ ∃ k ver l, nameOf ow d j = some (some (.row k ver l)) ∧ nameOf ow1 d j = some (some (.frow k ver l))

theorem FTaken.refl (ow : OW) : FTaken ow ow := ⟨rfl, fun _ _ => .inl rfl⟩
theorem FTaken.trans {a b c : OW} (h1 : FTaken a b) (h2 : FTaken b c) : FTaken a c := ⟨by rw [h2.len, h1.len], fun d j => by
  rcases h1.names d j with e | ⟨k, ver, l, e1, e2⟩
  · rcases h2.names d j with e' | ⟨k, ver, l, e1, e2⟩
    · exact .inl (by rw [e', e])
    · exact .inr ⟨k, ver, l, by rw [← e, e1], e2⟩
  · rcases h2.names d j with e' | ⟨k', ver', l', e1', _⟩
    · exact .inr ⟨k, ver, l, e1, by rw [e', e2]⟩
    · rw [e2] at e1'; cases e1'⟩
theorem FTaken.taken {a b : OW} (h : FTaken a b) : Taken a b := ⟨h.len, fun d j => by
  rcases h.names d j with e | e
  · exact .inl e
  · exact .inr (.inr e)⟩
theorem FTaken.fpOk {a b : OW} (h : FTaken a b) : FpOk G a b [] := fun x => by
  constructor
  · intro h; simp at h
  · rintro ⟨d, j, i, o, hi, _, hn⟩
    rcases h.names d j with e | ⟨k, ver, l, _, e⟩
    · rw [← e, hn] at hi; exact hi.elim
    · rw [hn] at e; cases e

theorem taken_frz (d j : Nat) : FTaken ow (frzOb ow d j) := by
  unfold frzOb
  split
  · rename_i k ver l hg
    have hn := nameOf_of_getOb hg
    refine ⟨length_putOb, fun d' j' => ?_⟩
    rw [nameOf_putOb (by rw [hn]; simp)]
    split
    · rename_i e
      rw [e.1, e.2, hn]
      exact .inr ⟨k, ver, l, rfl, rfl⟩
    · exact .inl rfl
  · exact .refl _

theorem toLeaf_taken {k : Kd} {s : SV} {x : k.T} (e : toLeaf k s ow = some (x, ow1)) : FTaken ow ow1 := by
  unfold toLeaf at e
  split at e
  · split at e
    · cases e; exact .refl _
    · cases e
  · split at e
    · cases e; exact .refl _
    · cases e
  · split at e
    · cases e; exact .refl _
    · cases e
  · split at e
    · split at e
      · split at e
        · simp only [Option.some.injEq, Prod.mk.injEq] at e
          rw [← e.2]
          exact taken_frz _ _
        · cases e
      · cases e
    · cases e

theorem toCells_taken : (k : Kd) → {l : List SV} → {ow ow1 : OW} → {x : k.T} → toCells k l ow = some (x, ow1) → FTaken ow ow1
  | .cons a b, l, ow, ow1, x, e => by
    cases l with
    | nil => simp [toCells] at e
    | cons s r =>
      simp only [toCells] at e
      split at e
      · rename_i y hy
        split at e
        · rename_i z hz
          cases e
          exact (toLeaf_taken (x := y.1) (ow1 := y.2) hy).trans (toCells_taken b (x := z.1) (ow1 := z.2) hz)
        · cases e
      · cases e
  | .nil, l, ow, ow1, x, e => by
    cases l with
    | nil =>
      simp only [toCells, Option.some.injEq, Prod.mk.injEq] at e
      rw [← e.2]; exact .refl _
    | cons s r => simp [toCells] at e
  | .int _, _, _, _, _, e => by simp [toCells] at e
  | .bool, _, _, _, _, e => by simp [toCells] at e
  | .str, _, _, _, _, e => by simp [toCells] at e
  | .err, _, _, _, _, e => by simp [toCells] at e
  | .any, _, _, _, _, e => by simp [toCells] at e
  | .sl _ _, _, _, _, _, e => by simp [toCells] at e
  | .tree _, _, _, _, _, e => by simp [toCells] at e

theorem toPay_taken {k : Kd} {s : SV} {x : k.T} (e : toPay k s ow = some (x, ow1)) : FTaken ow ow1 := by
  unfold toPay at e
  split at e
  · split at e
    · exact toCells_taken k e
    · cases e
  · exact toLeaf_taken e

theorem toLeaf_leaf {w : World} {k : Kd} {s : SV} {v : Value} (hs : Sv F G ow w.heap s v) {x : k.T} (e : toLeaf k s ow = some (x, ow1)) : k.isSt = false := by
  unfold toLeaf at e
  split at e
  · split at e
    · rename_i hk
      subst hk
      cases hs with
      | v hk _ => exact hk
    · cases e
  · split at e
    · rfl
    · cases e
  · split at e
    · rfl
    · cases e
  · split at e
    · rfl
    · cases e

theorem toCells_leafy {w : World} (hF : ∀ b, F b → b < w.heap.size) : (k : Kd) → {ow ow1 : OW} → HRep F G ow w.heap → {l : List SV} → {vs : List Value} → Svs F G ow w.heap l vs → {x : k.T} → toCells k l ow = some (x, ow1) → k.leafy = true
  | .cons a b, ow, ow1, hh, l, vs, hl, x, e => by
    cases l with
    | nil => simp [toCells] at e
    | cons s r =>
      simp only [toCells] at e
      obtain ⟨v, vs', rfl, hv, hvs⟩ := hl.uncons
      split at e
      · rename_i y hy
        split at e
        · rename_i z hz
          obtain ⟨t1, _⟩ := toLeaf_sound (x := y.1) (ow' := y.2) hh hF hv hy
          have h1 := toLeaf_leaf (x := y.1) (ow1 := y.2) hv hy
          have h2 := toCells_leafy hF b (x := z.1) (ow1 := z.2) t1.hrep ⟨hvs.1, fun i h1 h2 => t1.sv _ _ (hvs.2 i h1 h2)⟩ hz
          simp [Kd.leafy, h1, h2]
        · cases e
      · cases e
  | .nil, _, _, _, _, _, _, _, _ => rfl
  | .int _, _, _, _, _, _, _, _, e => by simp [toCells] at e
  | .bool, _, _, _, _, _, _, _, e => by simp [toCells] at e
  | .str, _, _, _, _, _, _, _, e => by simp [toCells] at e
  | .err, _, _, _, _, _, _, _, e => by simp [toCells] at e
  | .any, _, _, _, _, _, _, _, e => by simp [toCells] at e
  | .sl _ _, _, _, _, _, _, _, _, e => by simp [toCells] at e
  | .tree _, _, _, _, _, _, _, _, e => by simp [toCells] at e

theorem toPay_pay {w : World} (hh : HRep F G ow w.heap) (hF : ∀ b, F b → b < w.heap.size) {k : Kd} {s : SV} {v : Value} (hs : Sv F G ow w.heap s v) {x : k.T} (e : toPay k s ow = some (x, ow1)) : PayR w.heap (okF F G ow1) k x v := by
  obtain ⟨_, hr, hc⟩ := toPay_sound hh hF hs e
  refine ⟨hr, fun hk => ?_, fun hk => by simpa [hk] using hc⟩
  refine ⟨by simpa [hk] using hc, ?_⟩
  unfold toPay at e
  rw [if_pos hk] at e
  split at e
  · obtain ⟨vs, _, hvs⟩ := hs.agg_inv
    exact toCells_leafy hF k hh hvs e
  · cases e

end
end Go.Pev
end

section
/-
  PEV, part 15: packing and unpacking.
-/
namespace Go.Pev

section
variable {F : Nat → Prop} {G : Gh} {ow ow1 ow2 : OW} {w : World}

theorem fp_nil {b : Nat} : FP F [] b ↔ F b := by simp [FP]

theorem okF_nil {b : Nat} (h : okF F G ow b) : okF (FP F []) G ow b := ⟨fun hx => h.1 (fp_nil.1 hx), h.2⟩

theorem fp_app {f1 f2 : List Nat} {b : Nat} : FP (FP F f1) f2 b ↔ FP F (f1 ++ f2) b := by simp [FP, or_assoc]

theorem fp_cons {c : Nat} {f2 : List Nat} {b : Nat} : FP (FP F [c]) f2 b ↔ FP F (c :: f2) b := by simp [FP, or_assoc]

theorem okF_congr {F' : Nat → Prop} (hF : ∀ b, F' b → F b) {b : Nat} (h : okF F G ow b) : okF F' G ow b := ⟨fun hx => h.1 (hF b hx), h.2⟩

theorem Sv.fn_inv {f : Fn} {a b : List SV} {v : Value} (h : Sv F G ow w.heap (.fn f a b) v) : ∃ xs ys, v = .func f xs.toArray ys.toArray ∧ Svs F G ow w.heap a xs ∧ Svs F G ow w.heap b ys := by
  cases h with
  | fn h1 h2 h3 h4 => exact ⟨_, _, rfl, ⟨h1, h3⟩, ⟨h2, h4⟩⟩

theorem Svs.single {l : List SV} {v : Value} (h : Svs F G ow w.heap l [v]) : ∃ s, l = [s] ∧ Sv F G ow w.heap s v := by
  obtain ⟨hl, h⟩ := h
  match l, hl, h with
  | [s], _, h => exact ⟨s, rfl, h 0 (by simp) (by simp)⟩

theorem Svs.single' {s : SV} {vs : List Value} (h : Svs F G ow w.heap [s] vs) : ∃ v, vs = [v] ∧ Sv F G ow w.heap s v := by
  obtain ⟨v, vs', rfl, h1, h2⟩ := h.uncons
  have : vs' = [] := List.eq_nil_of_length_eq_zero h2.1.symm
  subst this
  exact ⟨v, rfl, h1⟩

theorem takeRow_some {k : Kd} {s : SV} {l : List k.T} (e : takeRow k s ow = some (l, ow1)) :
    ∃ d j r, keyOf s = some (d, j) ∧ rowOf ow s = some r ∧ isRow ow d j = true ∧ r = ⟨k, l⟩ ∧ ow1 = putOb ow d j none := by
  unfold takeRow at e
  split at e
  · rename_i d j r hk hr
    split at e
    · rename_i hi
      split at e
      · rename_i he
        obtain ⟨rk, rl⟩ := r
        dsimp only at he e
        subst he
        simp only [Option.some.injEq, Prod.mk.injEq] at e
        obtain ⟨e1, rfl⟩ := e
        have e1 : rl = l := e1
        subst e1
        exact ⟨d, j, _, hk, hr, hi, rfl, rfl⟩
      · cases e
    · cases e
  · cases e

theorem takeRow_sound (hh : HRep F G ow w.heap) {k : Kd} {s : SV} {v : Value} (hs : Sv F G ow w.heap s v) {l : List k.T} (e : takeRow k s ow = some (l, ow1)) :
    ∃ fp, Taken ow ow1 ∧ FpOk G ow ow1 fp ∧ fp.Nodup ∧ RowR w.heap (okF (FP F fp) G ow1) k l v fp := by
  obtain ⟨d, j, r, hk, hr, hi, rfl, rfl⟩ := takeRow_some e
  obtain ⟨hgood, ⟨ver, l0, hn⟩, a, c, rfl, hlc, hcase⟩ := rowOwn_sound hh hs hk hr hi
  have hnn : nameOf ow d j ≠ none := by rw [hn]; simp
  have hT := taken_put (ow := ow) (d := d) (j := j) (by rw [hn]; trivial)
  have hput := fun d' j' => nameOf_putOb (o := none) (d' := d') (j' := j') hnn
  have h1n := (hh.obs d j _ hn).1
  rcases hcase with ⟨h0, h1, h2, h3⟩ | ⟨b, o, o', rw_, et, hG, ha, hb, hel, hcap⟩
  · refine ⟨[], hT, fun b => ?_, List.nodup_nil, hgood, a, c, rfl, hlc, .inl ⟨h1, h2, h3, rfl⟩⟩
    constructor
    · intro h; simp at h
    · rintro ⟨d', j', i', o', hi, hg, hn'⟩
      rw [hput] at hn'
      split at hn'
      · rename_i e
        rw [e.1, e.2] at hg
        cases i' with
        | zero => rw [h0] at hg; cases hg
        | succ i' => rw [h1n] at hg; cases hg
      · rw [hn'] at hi; exact hi.elim
  · have hf : FpOk G ow (putOb ow d j none) [b] := by
      intro b'
      constructor
      · intro hb'
        have : b' = b := by simpa using hb'
        subst this
        exact ⟨d, j, 0, o', by rw [hn]; trivial, hG, by rw [hput]; simp⟩
      · rintro ⟨d', j', i', o2, hi, hg, hn'⟩
        rw [hput] at hn'
        split at hn'
        · rename_i e
          rw [e.1, e.2] at hg
          cases i' with
          | zero => rw [hG] at hg; cases hg; simp
          | succ i' => rw [h1n] at hg; cases hg
        · rw [hn'] at hi; exact hi.elim
    refine ⟨[b], hT, hf, by simp, hgood, a, c, rfl, hlc, .inr ⟨b, o, rw_, et, ha, rfl, hb, hel.mono fun x cs hx => Rep.mono (fun b r hb hr => ⟨taken_ok hT hf hb, hr⟩) _ hx, hcap⟩⟩

theorem pk_sound : (s : Sh) → {F : Nat → Prop} → {ow ow1 : OW} → (∀ b, F b → b < w.heap.size) → HRep F G ow w.heap → {svs : List SV} → {vs : List Value} → Svs F G ow w.heap svs vs → {x : s.T} → pk s svs ow = some (x, ow1) →
    ∃ fp, Taken ow ow1 ∧ FpOk G ow ow1 fp ∧ fp.Nodup ∧ ShR w.heap (okF (FP F fp) G ow1) s x vs fp
  | .pur kd, F, ow, ow1, hF, hh, svs, vs, hs, x, e => by
    match svs, hs, e with
    | [], _, e => simp [pk] at e
    | [s], hs, e =>
      simp only [pk] at e
      obtain ⟨v, rfl, hv⟩ := hs.single'
      exact ⟨[], (toPay_taken e).taken, (toPay_taken e).fpOk, List.nodup_nil, v, rfl, rfl, (toPay_pay hh hF hv e).mono fun b r hb hr => ⟨okF_nil hb, hr⟩⟩
    | _ :: _ :: _, _, e => simp [pk] at e
  | .own k, F, ow, ow1, hF, hh, svs, vs, hs, x, e => by
    match svs, hs, e with
    | [], _, e => simp [pk] at e
    | [s], hs, e =>
      simp only [pk] at e
      obtain ⟨v, rfl, hv⟩ := hs.single'
      split at e
      · split at e
        · rename_i hk
          simp only [Option.some.injEq, Prod.mk.injEq] at e
          obtain ⟨rfl, rfl⟩ := e
          cases hv
          exact ⟨[], .refl _, .refl _ _, List.nodup_nil, _, rfl, hk, none, 0, rfl, Nat.le_refl _, .inl ⟨rfl, rfl, rfl, rfl⟩⟩
        · cases e
      · obtain ⟨fp, h1, h2, h3, h4⟩ := takeRow_sound hh hv e
        exact ⟨fp, h1, h2, h3, v, rfl, h4⟩
    | _ :: _ :: _, _, e => simp [pk] at e
  | .row k, F, ow, ow1, hF, hh, svs, vs, hs, x, e => by
    match svs, hs, e with
    | [], _, e => simp [pk] at e
    | [s], hs, e =>
      simp only [pk] at e
      obtain ⟨v, rfl, hv⟩ := hs.single'
      split at e
      · obtain ⟨fp, h1, h2, h3, h4⟩ := takeRow_sound hh hv e
        exact ⟨fp, h1, h2, h3, v, rfl, h4⟩
      · cases e
    | _ :: _ :: _, _, e => simp [pk] at e
  | .box l, F, ow, ow1, hF, hh, svs, vs, hs, x, e => by
    match svs, hs, e with
    | [], _, e => simp [pk] at e
    | [s], hs, e =>
      obtain ⟨v, rfl, hv⟩ := hs.single'
      cases s with
      | bp d j c =>
        simp only [pk] at e
        split at e
        · rename_i cells hg
          split at e
          · rename_i hle
            have hn := nameOf_of_getOb hg
            have hnn : nameOf ow d j ≠ none := by rw [hn]; simp
            obtain ⟨h1n, b, o, r, et, hG, hb, hsz, hc⟩ := hh.obs d j _ hn
            cases hv with
            | bp hv =>
            simp only [hn] at hv
            obtain ⟨b', o', hG', rfl⟩ := hv
            rw [hG] at hG'; cases hG'
            obtain ⟨rfl, hle⟩ := hle
            have hT := taken_put (ow := ow) (d := d) (j := j) (by rw [hn]; trivial)
            have hput := fun d' j' => nameOf_putOb (o := none) (d' := d') (j' := j') hnn
            have hf : FpOk G ow (putOb ow d j none) [b] := by
              intro b'
              constructor
              · intro hb'
                have : b' = b := by simpa using hb'
                subst this
                exact ⟨d, j, 0, o, by rw [hn]; trivial, hG, by rw [hput]; simp⟩
              · rintro ⟨d', j', i', o2, hi, hg, hn'⟩
                rw [hput] at hn'
                split at hn'
                · rename_i e
                  rw [e.1, e.2] at hg
                  cases i' with
                  | zero => rw [hG] at hg; cases hg; simp
                  | succ i' => rw [h1n] at hg; cases hg
                · rw [hn'] at hi; exact hi.elim
            obtain ⟨hh1, hsv1⟩ := taken_state hh hT hf
            have hlt : b < w.heap.size := (Array.getElem?_eq_some_iff.1 hb).1
            have hF1 : ∀ b', FP F [b] b' → b' < w.heap.size := by
              intro b' hb'
              rcases hb' with hb' | hb'
              · exact hF b' hb'
              · have : b' = b := by simpa using hb'
                subst this; exact hlt
            have hcells : Svs (FP F [b]) G (putOb ow d j none) w.heap cells (sub r o l.len) := by
              refine ⟨by rw [sub_length (by omega)]; omega, fun i h1 h2 => ?_⟩
              have e1 : (sub r o l.len)[i] = r[o + i]'(by omega) := by
                have := sub_getElem (r := r) (o := o) (n := l.len) (i := i) (by omega)
                rw [List.getElem?_eq_getElem h2, Array.getElem?_eq_getElem (by omega)] at this
                exact Option.some.inj this
              rw [e1]
              exact hsv1 _ _ (hc i (by omega) (by omega))
            obtain ⟨fp', h1, h2, h3, h4⟩ := pk_sound l hF1 hh1 hcells e
            have hbn : b ∉ fp' := fun hx => (hf.notOwn hh hT (by simp : b ∈ [b])) (h2.own hx)
            refine ⟨b :: fp', hT.trans h1, fun x => ?_, List.nodup_cons.2 ⟨hbn, h3⟩, b, o, r, et, fp', rfl, rfl, hb, by omega, ?_⟩
            · rw [TkB.trans hT h1, ← hf x, ← h2 x]
              simp
            · exact ShR.mono (fun b' r' hb' hr' => ⟨okF_congr (fun b'' hx => fp_cons.2 hx) hb', hr'⟩) l (fun _ _ => rfl) h4
          · cases e
        · cases e
      | _ => simp [pk] at e
    | _ :: _ :: _, _, e => simp [pk] at e
  | .agg l, F, ow, ow1, hF, hh, svs, vs, hs, x, e => by
    match svs, hs, e with
    | [], _, e => simp [pk] at e
    | [s], hs, e =>
      obtain ⟨v, rfl, hv⟩ := hs.single'
      cases s with
      | agg cs =>
        simp only [pk] at e
        obtain ⟨us, rfl, hus⟩ := hv.agg_inv
        obtain ⟨fp, h1, h2, h3, h4⟩ := pk_sound l hF hh hus e
        exact ⟨fp, h1, h2, h3, us, rfl, h4⟩
      | _ => simp [pk] at e
    | _ :: _ :: _, _, e => simp [pk] at e
  | .fn f n l, F, ow, ow1, hF, hh, svs, vs, hs, x, e => by
    match svs, hs, e with
    | [], _, e => simp [pk] at e
    | [s], hs, e =>
      obtain ⟨v, rfl, hv⟩ := hs.single'
      cases s with
      | fn g a b =>
        simp only [pk] at e
        split at e
        · rename_i hc
          obtain ⟨rfl, hn⟩ := hc
          obtain ⟨xs, ys, rfl, hx, hy⟩ := hv.fn_inv
          obtain ⟨fp, h1, h2, h3, h4⟩ := pk_sound l hF hh (hx.append hy) e
          exact ⟨fp, h1, h2, h3, xs, ys, rfl, by rw [← hx.1, hn], h4⟩
        · cases e
      | _ => simp [pk] at e
    | _ :: _ :: _, _, e => simp [pk] at e
  | .ign, F, ow, ow1, hF, hh, svs, vs, hs, x, e => by
    match svs, hs, e with
    | [], _, e => simp [pk] at e
    | [s], hs, e =>
      simp only [pk, Option.some.injEq, Prod.mk.injEq] at e
      obtain ⟨v, rfl, hv⟩ := hs.single'
      rw [← e.2]
      exact ⟨[], .refl _, .refl _ _, List.nodup_nil, v, rfl, rfl⟩
    | _ :: _ :: _, _, e => simp [pk] at e
  | .nl, F, ow, ow1, hF, hh, svs, vs, hs, x, e => by
    match svs, hs, e with
    | [], _, e => simp [pk] at e
    | [s], hs, e =>
      obtain ⟨v, rfl, hv⟩ := hs.single'
      cases s with
      | nils =>
        simp only [pk, Option.some.injEq, Prod.mk.injEq] at e
        cases hv
        rw [← e.2]
        exact ⟨[], .refl _, .refl _ _, List.nodup_nil, rfl, rfl⟩
      | _ => simp [pk] at e
    | _ :: _ :: _, _, e => simp [pk] at e
  | .nil, F, ow, ow1, hF, hh, svs, vs, hs, x, e => by
    match svs, hs, e with
    | [], hs, e =>
      simp only [pk, Option.some.injEq, Prod.mk.injEq] at e
      have : vs = [] := List.eq_nil_of_length_eq_zero hs.1.symm
      subst this
      rw [← e.2]
      exact ⟨[], .refl _, .refl _ _, List.nodup_nil, rfl, rfl⟩
    | _ :: _, _, e => simp [pk] at e
  | .cons a b, F, ow, ow1, hF, hh, svs, vs, hs, x, e => by
    match svs, hs, e with
    | [], _, e => simp [pk] at e
    | s :: r, hs, e =>
      simp only [pk] at e
      split at e
      · rename_i y hy
        split at e
        · rename_i z hz
          cases e
          obtain ⟨v, vs', rfl, hv, hvs⟩ := hs.uncons
          obtain ⟨f1, t1, o1, n1, r1⟩ := pk_sound a (x := y.1) (ow1 := y.2) hF hh (.cons hv .nil) hy
          obtain ⟨hh1, hsv1⟩ := taken_state hh t1 o1
          have hF1 : ∀ b', FP F f1 b' → b' < w.heap.size := by
            intro b' hb'
            rcases hb' with hb' | hb'
            · exact hF b' hb'
            · exact Own.lt hh (o1.own hb')
          obtain ⟨f2, t2, o2, n2, r2⟩ := pk_sound b (x := z.1) (ow1 := z.2) hF1 hh1 ⟨hvs.1, fun i h1 h2 => hsv1 _ _ (hvs.2 i h1 h2)⟩ hz
          refine ⟨f1 ++ f2, t1.trans t2, fun x => ?_, List.nodup_append.2 ⟨n1, n2, fun x hx y hy hxy => ?_⟩, v, vs', f1, f2, rfl, rfl, ?_, ?_⟩
          · rw [TkB.trans t1 t2, ← o1 x, ← o2 x, List.mem_append]
          · subst hxy
            exact o1.notOwn hh t1 hx (o2.own hy)
          · exact ShR.mono (fun b' r' hb' hr' => ⟨okF_congr (fun b'' hx => fp_app.2 hx) (taken_ok t2 o2 hb'), hr'⟩) a (fun _ _ => rfl) r1
          · exact ShR.mono (fun b' r' hb' hr' => ⟨okF_congr (fun b'' hx => fp_app.2 hx) hb', hr'⟩) b (fun _ _ => rfl) r2
        · cases e
      · cases e

/-! ### Unpacking -/

def SvsR (h : Array Obj) (ok : Nat → Prop) (G : Gh) (ow : OW) (l : List SV) (vs : List Value) : Prop :=
  l.length = vs.length ∧ ∀ i (h1 : i < l.length) (h2 : i < vs.length), SvRep h ok G ow l[i] vs[i]

section
variable {h : Array Obj} {ok : Nat → Prop}

theorem SvsR.nil : SvsR h ok G ow [] [] := ⟨rfl, fun i h => by simp at h⟩
theorem SvsR.cons {s : SV} {l : List SV} {v : Value} {vs : List Value} (h1 : SvRep h ok G ow s v) (hs : SvsR h ok G ow l vs) : SvsR h ok G ow (s :: l) (v :: vs) :=
  ⟨by simp [hs.1], fun i h1' h2 => by
    cases i with
    | zero => exact h1
    | succ i => exact hs.2 i (by simpa using h1') (by simpa using h2)⟩
theorem SvsR.append {l l' : List SV} {vs vs' : List Value} (hs : SvsR h ok G ow l vs) (hs' : SvsR h ok G ow l' vs') : SvsR h ok G ow (l ++ l') (vs ++ vs') := by
  refine ⟨by simp [hs.1, hs'.1], fun i h1 h2 => ?_⟩
  rcases Nat.lt_or_ge i l.length with h | h
  · rw [List.getElem_append_left h, List.getElem_append_left (hs.1 ▸ h)]
    exact hs.2 _ _ _
  · rw [List.getElem_append_right h, List.getElem_append_right (hs.1 ▸ h)]
    simp only [hs.1]
    exact hs'.2 _ _ _
theorem SvsR.take {l : List SV} {vs : List Value} (hs : SvsR h ok G ow l vs) (n : Nat) : SvsR h ok G ow (l.take n) (vs.take n) :=
  ⟨by simp [hs.1], fun i h1 h2 => by simp only [List.getElem_take]; exact hs.2 _ _ _⟩
theorem SvsR.drop {l : List SV} {vs : List Value} (hs : SvsR h ok G ow l vs) (n : Nat) : SvsR h ok G ow (l.drop n) (vs.drop n) :=
  ⟨by simp [hs.1], fun i h1 h2 => by simp only [List.getElem_drop]; exact hs.2 _ _ _⟩

theorem svsR_cellsS : (k : Kd) → {x : k.T} → {cs : List Value} → (k.leafy = true) → Rep h ok k x cs → SvsR h ok G ow (cellsS k x) cs
  | .nil, _, _, _, e => by cases e; exact .nil
  | .cons a b, x, cs, hk, e => by
    simp only [Kd.leafy, Bool.and_eq_true, Bool.not_eq_true'] at hk
    obtain ⟨v, r, rfl, e1, e2⟩ := rep_leaf hk.1 e
    exact .cons (.v hk.1 e1) (svsR_cellsS b hk.2 e2)
  | .int _, _, _, hk, _ => by cases hk
  | .bool, _, _, hk, _ => by cases hk
  | .str, _, _, hk, _ => by cases hk
  | .err, _, _, hk, _ => by cases hk
  | .any, _, _, hk, _ => by cases hk
  | .sl _ _, _, _, hk, _ => by cases hk
  | .tree _, _, _, hk, _ => by cases hk

theorem valS_rep {k : Kd} {x : k.T} {v : Value} (e : PayR h ok k x v) : SvRep h ok G ow (valS k x) v := by
  obtain ⟨hr, h1, h2⟩ := e
  unfold valS
  split
  · rename_i hk
    obtain ⟨⟨cs, rfl⟩, hl⟩ := h1 hk
    have := svsR_cellsS (G := G) (ow := ow) k hl hr
    have := SvRep.agg this.1 this.2
    simpa [Value.cells] using this
  · rename_i hk
    have hk : k.isSt = false := by simpa using hk
    have := cells_of_one (h2 hk)
    rw [this] at hr
    exact .v hk hr

/-- Where a thing lies, and what it owns within. -/
abbrev Pl := Option (Nat × Nat) × List Nat
def Pl.pos (p : Pl) : Nat → Option (Nat × Nat)
  | 0 => p.1
  | i + 1 => (p.2[i]?).map fun b => (b, 0)
def Pl.fp (p : Pl) : List Nat := (p.1.map (·.1)).toList ++ p.2

theorem Pl.mem {p : Pl} {b : Nat} : b ∈ p.fp ↔ ∃ i o, p.pos i = some (b, o) := by
  obtain ⟨q, l⟩ := p
  simp only [Pl.fp, List.mem_append, Option.mem_toList, Option.map_eq_some_iff]
  constructor
  · rintro (⟨⟨b', o⟩, rfl, rfl⟩ | h)
    · exact ⟨0, o, rfl⟩
    · obtain ⟨i, hi, rfl⟩ := List.mem_iff_getElem.1 h
      exact ⟨i + 1, 0, by simp [Pl.pos, hi]⟩
  · rintro ⟨i, o, h⟩
    cases i with
    | zero => exact .inl ⟨(b, o), h, rfl⟩
    | succ i =>
      simp only [Pl.pos, Option.map_eq_some_iff, Prod.mk.injEq] at h
      obtain ⟨b', h, rfl, _⟩ := h
      exact .inr (List.mem_of_getElem? h)

theorem Pl.inj {p : Pl} (hn : p.fp.Nodup) {i j b o o' : Nat} (h1 : p.pos i = some (b, o)) (h2 : p.pos j = some (b, o')) : i = j := by
  obtain ⟨q, l⟩ := p
  simp only [Pl.fp, List.nodup_append] at hn
  obtain ⟨_, hl, hd⟩ := hn
  have one : ∀ {k o}, (Pl.pos (q, l) (k + 1)) = some (b, o) → ∃ hk : k < l.length, l[k] = b := by
    intro k o h
    simp only [Pl.pos, Option.map_eq_some_iff, Prod.mk.injEq] at h
    obtain ⟨b', h, rfl, _⟩ := h
    exact List.getElem?_eq_some_iff.1 h
  have zer : ∀ {o}, (Pl.pos (q, l) 0) = some (b, o) → b ∈ (q.map (·.1)).toList := by
    intro o h
    have h : q = some (b, o) := h
    subst h
    simp
  cases i with
  | zero =>
    cases j with
    | zero => rfl
    | succ j =>
      obtain ⟨hj, e⟩ := one h2
      exact absurd rfl (hd b (zer h1) b (by rw [← e]; exact List.getElem_mem hj))
  | succ i =>
    obtain ⟨hi, e1⟩ := one h1
    cases j with
    | zero => exact absurd rfl (hd b (zer h2) b (by rw [← e1]; exact List.getElem_mem hi))
    | succ j =>
      obtain ⟨hj, e2⟩ := one h2
      rw [(List.getElem_inj hl).1 (e1.trans e2.symm)]

theorem flat_inj : (l : List Pl) → (l.flatMap Pl.fp).Nodup → ∀ i j (hi : i < l.length) (hj : j < l.length) (b : Nat), b ∈ l[i].fp → b ∈ l[j].fp → i = j ∧ l[i].fp.Nodup
  | [], _, i, _, hi, _, _, _, _ => by simp at hi
  | p :: l, hn, i, j, hi, hj, b, h1, h2 => by
    rw [List.flatMap_cons, List.nodup_append] at hn
    obtain ⟨hp, hl, hd⟩ := hn
    have mem : ∀ q (hq : q < l.length), b ∈ l[q].fp → b ∈ l.flatMap Pl.fp := fun q hq h => List.mem_flatMap.2 ⟨l[q], List.getElem_mem hq, h⟩
    cases i with
    | zero =>
      cases j with
      | zero => exact ⟨rfl, hp⟩
      | succ j => exact absurd rfl (hd b h1 b (mem j (by simpa using hj) h2))
    | succ i =>
      cases j with
      | zero => exact absurd rfl (hd b h2 b (mem i (by simpa using hi) h1))
      | succ j =>
        obtain ⟨e, h⟩ := flat_inj l hl i j (by simpa using hi) (by simpa using hj) b h1 h2
        exact ⟨by rw [e], h⟩

/-- What is unpacked, wherever it is named. -/
def Named (G : Gh) (ow : OW) (d j : Nat) (obs : List OB) (ps : List Pl) : Prop :=
  ∀ i o, obs[i]? = some o → nameOf ow d (j + i) = some (some o) ∧ ∃ p, ps[i]? = some p ∧ G d (j + i) = p.pos

theorem Named.left {d j : Nat} {o1 o2 : List OB} {p1 p2 : List Pl} (hl : p1.length = o1.length) (hn : Named G ow d j (o1 ++ o2) (p1 ++ p2)) : Named G ow d j o1 p1 := by
  intro i o hi
  have hlt : i < o1.length := (List.getElem?_eq_some_iff.1 hi).1
  have := hn i o (by rw [List.getElem?_append_left hlt]; exact hi)
  rw [List.getElem?_append_left (by omega)] at this
  exact this

theorem Named.right {d j : Nat} {o1 o2 : List OB} {p1 p2 : List Pl} (hl : p1.length = o1.length) (hn : Named G ow d j (o1 ++ o2) (p1 ++ p2)) : Named G ow d (j + o1.length) o2 p2 := by
  intro i o hi
  have := hn (o1.length + i) o (by rw [List.getElem?_append_right (by omega)]; simpa using hi)
  rw [List.getElem?_append_right (by omega), show o1.length + i - p1.length = i by omega, ← Nat.add_assoc] at this
  exact this

theorem rowR_unpk {k : Kd} {l : List k.T} {v : Value} {fp : List Nat} (e : RowR h ok k l v fp) (d j : Nat) : ∃ p : Pl, p.fp = fp ∧
    ∀ (G : Gh) (ow : OW), nameOf ow d j = some (some (.row k 0 l)) → G d j = p.pos → SvRep h ok G ow (.wh d j 0 []) v ∧ ObRep h ok G ow d j (.row k 0 l) := by
  obtain ⟨hk, a, c, rfl, hlc, e⟩ := e
  rcases e with ⟨rfl, rfl, rfl, rfl⟩ | ⟨b, o, r, et, rfl, rfl, hb, hel, hs⟩
  · refine ⟨(none, []), rfl, fun G ow hn hg => ⟨.wh ?_, by rw [hg]; exact fun i => rfl, hk, by rw [hg]; rfl⟩⟩
    simp only [HandR, hn, Option.getD_none]
    exact ⟨by simp, _, _, rfl, hlc, .inl ⟨by rw [hg]; rfl, rfl, rfl⟩⟩
  · refine ⟨(some (b, o), []), rfl, fun G ow hn hg => ⟨.wh ?_, by rw [hg]; exact fun i => rfl, hk, by rw [hg]; exact ⟨r, et, hb, hel⟩⟩⟩
    simp only [HandR, hn, Option.getD_none]
    exact ⟨by omega, _, _, rfl, hlc, .inr ⟨b, o, o, r, by rw [hg]; rfl, rfl, rowCells_of hb, fun _ => by simp, hs⟩⟩

theorem unpk_rep : (s : Sh) → {x : s.T} → {vs : List Value} → {fp : List Nat} → ShR h ok s x vs fp → (d j : Nat) → ∃ ps : List Pl, ps.length = (unpk d s x j).2.length ∧ ps.flatMap Pl.fp = fp ∧
    ∀ (G : Gh) (ow : OW), Named G ow d j (unpk d s x j).2 ps → SvsR h ok G ow (unpk d s x j).1 vs ∧ ∀ i o, (unpk d s x j).2[i]? = some o → ObRep h ok G ow d (j + i) o ∧ isOwn (some (some o))
  | .pur kd, x, vs, fp, e, d, j => by
    obtain ⟨v, rfl, rfl, e⟩ := e
    exact ⟨[], rfl, rfl, fun G ow _ => ⟨.cons (valS_rep e) .nil, fun i o hi => by simp [unpk] at hi⟩⟩
  | .own k, x, vs, fp, e, d, j => by
    obtain ⟨v, rfl, e⟩ := e
    obtain ⟨p, hp, hr⟩ := rowR_unpk e d j
    refine ⟨[p], rfl, by simpa using hp, fun G ow hn => ?_⟩
    obtain ⟨h1, p', hp', h2⟩ := hn 0 _ (by simp [unpk]; rfl)
    obtain rfl : p = p' := by simpa using hp'
    obtain ⟨r1, r2⟩ := hr G ow h1 h2
    refine ⟨.cons r1 .nil, fun i o hi => ?_⟩
    cases i with
    | zero => simp [unpk] at hi; subst hi; exact ⟨r2, trivial⟩
    | succ i => simp [unpk] at hi
  | .row k, x, vs, fp, e, d, j => by
    obtain ⟨v, rfl, e⟩ := e
    obtain ⟨p, hp, hr⟩ := rowR_unpk e d j
    refine ⟨[p], rfl, by simpa using hp, fun G ow hn => ?_⟩
    obtain ⟨h1, p', hp', h2⟩ := hn 0 _ (by simp [unpk]; rfl)
    obtain rfl : p = p' := by simpa using hp'
    obtain ⟨r1, r2⟩ := hr G ow h1 h2
    refine ⟨.cons r1 .nil, fun i o hi => ?_⟩
    cases i with
    | zero => simp [unpk] at hi; subst hi; exact ⟨r2, trivial⟩
    | succ i => simp [unpk] at hi
  | .box l, x, vs, fp, e, d, j => by
    obtain ⟨b, o, r, et, fp', rfl, rfl, hb, hs, e⟩ := e
    obtain ⟨ps, hl, hf, hr⟩ := unpk_rep l e d (j + 1)
    refine ⟨(some (b, o), []) :: ps, by simp [unpk, hl], by simp [hf, Pl.fp], fun G ow hn => ?_⟩
    obtain ⟨h1, p', hp', h2⟩ := hn 0 _ (by simp [unpk]; rfl)
    obtain rfl : (some (b, o), []) = p' := by simpa using hp'
    have hn' : Named G ow d (j + 1) (unpk d l x (j + 1)).2 ps := by
      intro i o' hi
      have := hn (i + 1) o' (by simpa [unpk] using hi)
      rw [List.getElem?_cons_succ, show j + (i + 1) = j + 1 + i by omega] at this
      exact this
    obtain ⟨r1, r2⟩ := hr G ow hn'
    have h2' : G d j 0 = some (b, o) := by rw [show G d j = _ from h2]; rfl
    have h2n : ∀ i, G d j (i + 1) = none := by rw [show G d j = _ from h2]; exact fun i => rfl
    refine ⟨.cons (.bp (by rw [show nameOf ow d j = _ from h1]; exact ⟨b, o, h2', rfl⟩)) .nil, fun i o' hi => ?_⟩
    cases i with
    | zero =>
      simp [unpk] at hi
      subst hi
      have hlen : (unpk d l x (j + 1)).1.length = l.len := by rw [r1.1, sub_length hs]
      refine ⟨⟨h2n, b, o, r, et, h2', hb, by omega, fun i hi hr' => ?_⟩, trivial⟩
      have hi2 : i < (sub r o l.len).length := by rw [sub_length hs]; omega
      have e1 : (sub r o l.len)[i] = r[o + i] := by
        have := sub_getElem (r := r) (o := o) (n := l.len) (i := i) (by omega)
        rw [List.getElem?_eq_getElem hi2, Array.getElem?_eq_getElem (by omega)] at this
        exact Option.some.inj this
      rw [← e1]
      exact r1.2 i hi hi2
    | succ i =>
      have := r2 i o' (by simpa [unpk] using hi)
      rw [show j + (i + 1) = j + 1 + i by omega]
      exact this
  | .agg l, x, vs, fp, e, d, j => by
    obtain ⟨cs, rfl, e⟩ := e
    obtain ⟨ps, hl, hf, hr⟩ := unpk_rep l e d j
    refine ⟨ps, hl, hf, fun G ow hn => ?_⟩
    obtain ⟨r1, r2⟩ := hr G ow hn
    exact ⟨.cons (.agg r1.1 r1.2) .nil, r2⟩
  | .fn f n l, x, vs, fp, e, d, j => by
    obtain ⟨xs, ys, rfl, hn', e⟩ := e
    obtain ⟨ps, hl, hf, hr⟩ := unpk_rep l e d j
    refine ⟨ps, hl, hf, fun G ow hn => ?_⟩
    obtain ⟨r1, r2⟩ := hr G ow hn
    have h1 := r1.take n
    have h2 := r1.drop n
    rw [List.take_left' hn'] at h1
    rw [List.drop_left' hn'] at h2
    exact ⟨.cons (.fn h1.1 h2.1 h1.2 h2.2) .nil, r2⟩
  | .ign, x, vs, fp, e, d, j => by
    obtain ⟨v, rfl, rfl⟩ := e
    exact ⟨[], rfl, rfl, fun G ow _ => ⟨.cons (.dead v) .nil, fun i o hi => by simp [unpk] at hi⟩⟩
  | .nl, x, vs, fp, e, d, j => by
    obtain ⟨rfl, rfl⟩ := e
    exact ⟨[], rfl, rfl, fun G ow _ => ⟨.cons .nils .nil, fun i o hi => by simp [unpk] at hi⟩⟩
  | .nil, x, vs, fp, e, d, j => by
    obtain ⟨rfl, rfl⟩ := e
    exact ⟨[], rfl, rfl, fun G ow _ => ⟨.nil, fun i o hi => by simp [unpk] at hi⟩⟩
  | .cons a b, x, vs, fp, e, d, j => by
    obtain ⟨v, r, f1, f2, rfl, rfl, e1, e2⟩ := e
    obtain ⟨p1, l1, g1, r1⟩ := unpk_rep a e1 d j
    obtain ⟨p2, l2, g2, r2⟩ := unpk_rep b e2 d (j + (unpk d a x.1 j).2.length)
    refine ⟨p1 ++ p2, by simp [unpk, l1, l2], by simp [g1, g2], fun G ow hn => ?_⟩
    have hn : Named G ow d j ((unpk d a x.1 j).2 ++ (unpk d b x.2 (j + (unpk d a x.1 j).2.length)).2) (p1 ++ p2) := hn
    obtain ⟨s1, o1⟩ := r1 G ow (hn.left l1)
    obtain ⟨s2, o2⟩ := r2 G ow (hn.right l1)
    refine ⟨s1.append s2, fun i o hi => ?_⟩
    have hi : ((unpk d a x.1 j).2 ++ (unpk d b x.2 (j + (unpk d a x.1 j).2.length)).2)[i]? = some o := hi
    by_cases hlt : i < (unpk d a x.1 j).2.length
    · rw [List.getElem?_append_left hlt] at hi
      exact o1 i o hi
    · rw [List.getElem?_append_right (by omega)] at hi
      have := o2 _ o hi
      rw [Nat.add_assoc, show (unpk d a x.1 j).2.length + (i - (unpk d a x.1 j).2.length) = i by omega] at this
      exact this
end

/-- Data is named anew. -/
theorem state_new {fp : List Nat} (hh : HRep (FP F fp) G ow w.heap) {s : Sh} {x : s.T} {vs : List Value} (e : ShR w.heap (okF (FP F fp) G ow) s x vs fp) (hnd : fp.Nodup) (hFd : ∀ b ∈ fp, ¬ F b) {d : Nat} (hn : newObs ow d (unpk d s x 0).2 = some ow2) :
    ∃ G2, HRep F G2 ow2 w.heap ∧ Svs F G2 ow2 w.heap (unpk d s x 0).1 vs ∧ (∀ s v, Sv (FP F fp) G ow w.heap s v → Sv F G2 ow2 w.heap s v) ∧ (∀ b, Own G2 ow2 b ↔ Own G ow b ∨ b ∈ fp) ∧ (∀ d' j, d' ≠ d → G2 d' j = G d' j) := by
  obtain ⟨ps, hl, hf, hr⟩ := unpk_rep s e d 0
  obtain ⟨hlen, hem, hnm⟩ := newObs_some hn
  by_cases hz : (unpk d s x 0).2 = []
  · -- nothing is owned
    have hps : ps = [] := List.eq_nil_of_length_eq_zero (by rw [hl, hz]; rfl)
    subst hps
    have hfp : fp = [] := by simpa using hf.symm
    subst hfp
    have how : ow2 = ow := by rw [hz] at hn; simp [newObs] at hn; exact hn.symm
    subst how
    have hFF : ∀ b, okF (FP F []) G ow2 b → okF F G ow2 b := fun b hb => okF_congr (fun b' hx => fp_nil.2 hx) hb
    have hm : ∀ b r, okF (FP F []) G ow2 b → rowCells w.heap b = some r → okF F G ow2 b ∧ rowCells w.heap b = some r := fun b r hb hr => ⟨hFF b hb, hr⟩
    have hsv : ∀ s v, Sv (FP F []) G ow2 w.heap s v → Sv F G ow2 w.heap s v := fun s v h => SvRep.mono (fun _ _ _ => rfl) (fun _ _ => .refl _) hm (fun b r hr => ⟨r, hr, rfl⟩) h
    obtain ⟨r1, _⟩ := hr G ow2 (fun i o hi => by rw [hz] at hi; simp at hi)
    refine ⟨G, ⟨fun d j o hn => ?_, hh.apart, fun b hb hx => hh.notF b hb (fp_nil.2 hx)⟩, ⟨r1.1, fun i h1 h2 => hsv _ _ (r1.2 i h1 h2)⟩, hsv, fun b => by simp, fun _ _ _ => rfl⟩
    exact ObRep.mono (fun _ _ _ => rfl) (fun _ _ => .refl _) hm (fun b r hr => ⟨r, hr, rfl⟩) rfl (fun _ _ _ _ _ => rfl) (hh.obs d j o hn)
  · have hem : ow[d]? = some [] := by
      rcases hem with h | h
      · exact absurd h hz
      · exact h
    have hnm' : ∀ d' j, nameOf ow2 d' j = if d' = d then (unpk d s x 0).2[j]?.map some else nameOf ow d' j := fun d' j => by rw [hnm]; simp [hz]
    let G2 : Gh := G.new d fun j => (match ps[j]? with | some p => p.pos | none => fun _ => none)
    have g0 : ∀ d' j, d' ≠ d → G2 d' j = G d' j := fun d' j hd => by simp [G2, Gh.new, hd]
    have gd : ∀ j, G2 d j = (match ps[j]? with | some p => p.pos | none => fun _ => none) := fun j => by simp [G2, Gh.new]
    have gdm : ∀ {j i b o}, G2 d j i = some (b, o) → ∃ hj : j < ps.length, ps[j].pos i = some (b, o) := by
      intro j i b o hg
      rw [gd] at hg
      cases hq : ps[j]? with
      | none => rw [hq] at hg; cases hg
      | some p =>
        rw [hq] at hg
        obtain ⟨hj, rfl⟩ := List.getElem?_eq_some_iff.1 hq
        exact ⟨hj, hg⟩
    have hnamed : Named G2 ow2 d 0 (unpk d s x 0).2 ps := by
      intro i o hi
      have hlt : i < (unpk d s x 0).2.length := (List.getElem?_eq_some_iff.1 hi).1
      rw [Nat.zero_add, hnm', if_pos rfl, hi, gd]
      refine ⟨rfl, ps[i]'(by omega), List.getElem?_eq_getElem (by omega), ?_⟩
      rw [List.getElem?_eq_getElem (by omega)]
    obtain ⟨r1, r2⟩ := hr G2 ow2 hnamed
    -- what key d owns
    have hkey : ∀ b, (∃ j i o, isOwn (nameOf ow2 d j) ∧ G2 d j i = some (b, o)) ↔ b ∈ fp := by
      intro b
      rw [← hf]
      simp only [List.mem_flatMap]
      constructor
      · rintro ⟨j, i, o, _, hg⟩
        obtain ⟨hj, hp⟩ := gdm hg
        exact ⟨ps[j], List.getElem_mem hj, Pl.mem.2 ⟨i, o, hp⟩⟩
      · rintro ⟨p, hp, hpb⟩
        obtain ⟨j, hj, rfl⟩ := List.getElem_of_mem hp
        obtain ⟨i, o, hq⟩ := Pl.mem.1 hpb
        have hj2 : j < (unpk d s x 0).2.length := by omega
        refine ⟨j, i, o, ?_, ?_⟩
        · rw [hnm', if_pos rfl, List.getElem?_eq_getElem hj2]
          exact (r2 j _ (List.getElem?_eq_getElem hj2)).2
        · rw [gd, List.getElem?_eq_getElem hj]; exact hq
    have hown : ∀ b, Own G2 ow2 b ↔ Own G ow b ∨ b ∈ fp := by
      intro b
      rw [own_iff, own_iff]
      constructor
      · rintro ⟨d', j, i, o, hi, hg⟩
        by_cases hd : d' = d
        · subst hd
          exact .inr ((hkey b).1 ⟨j, i, o, hi, hg⟩)
        · rw [hnm', if_neg hd] at hi
          rw [g0 _ _ hd] at hg
          exact .inl ⟨d', j, i, o, hi, hg⟩
      · rintro (⟨d', j, i, o, hi, hg⟩ | hb)
        · have hd : d' ≠ d := by
            intro hd
            subst hd
            rw [nameOf_empty hem] at hi
            exact hi
          exact ⟨d', j, i, o, by rw [hnm', if_neg hd]; exact hi, by rw [g0 _ _ hd]; exact hg⟩
        · obtain ⟨j, i, o, hi, hg⟩ := (hkey b).2 hb
          exact ⟨d, j, i, o, hi, hg⟩
    have hok : ∀ b, okF (FP F fp) G ow b → okF F G2 ow2 b := fun b hb => ⟨fun hx => hb.1 (.inl hx), fun hx => by
      rcases (hown b).1 hx with hx | hx
      · exact hb.2 hx
      · exact hb.1 (.inr hx)⟩
    have hm : ∀ b r, okF (FP F fp) G ow b → rowCells w.heap b = some r → okF F G2 ow2 b ∧ rowCells w.heap b = some r := fun b r hb hr => ⟨hok b hb, hr⟩
    have hGn : ∀ d' j, nameOf ow d' j ≠ none → G2 d' j = G d' j := by
      intro d' j hx
      refine g0 _ _ fun hd => ?_
      subst hd
      exact hx (nameOf_empty hem j)
    have hE : ∀ d' j, EC (nameOf ow d' j) (nameOf ow2 d' j) := by
      intro d' j
      by_cases hd : d' = d
      · subst hd; rw [nameOf_empty hem]; trivial
      · rw [hnm', if_neg hd]; exact .refl _
    have hsv : ∀ s v, Sv (FP F fp) G ow w.heap s v → Sv F G2 ow2 w.heap s v := fun s v h => SvRep.mono (fun d' j hx => congrFun (hGn d' j hx) 0) hE hm (fun b r hr => ⟨r, hr, rfl⟩) h
    have hm2 : ∀ b r, okF (FP F fp) G ow b → rowCells w.heap b = some r → okF F G2 ow2 b ∧ rowCells w.heap b = some r := hm
    refine ⟨G2, ⟨fun d' j o hx => ?_, fun d1 j1 i1 d2 j2 i2 b o1 o2 h1 h2 q1 q2 => ?_, fun b hb => ?_⟩, ⟨r1.1, fun i h1 h2 => SvRep.mono (fun _ _ _ => rfl) (fun _ _ => .refl _) hm2 (fun b r hr => ⟨r, hr, rfl⟩) (r1.2 i h1 h2)⟩, hsv, hown, g0⟩
    · by_cases hd : d' = d
      · subst hd
        have hx' : (unpk d' s x 0).2[j]? = some o := by
          rw [hnm', if_pos rfl] at hx
          cases hq : (unpk d' s x 0).2[j]? with
          | none => simp [hq] at hx
          | some q => simp [hq] at hx; rw [hx]
        have := (r2 j o hx').1
        rw [Nat.zero_add] at this
        exact ObRep.mono (fun _ _ _ => rfl) (fun _ _ => .refl _) hm2 (fun b r hr => ⟨r, hr, rfl⟩) rfl (fun _ _ _ _ _ => rfl) this
      · have hx' : nameOf ow d' j = some (some o) := by rw [hnm', if_neg hd] at hx; exact hx
        exact ObRep.mono (fun d' j hx => congrFun (hGn d' j hx) 0) hE hm (fun b r hr => ⟨r, hr, rfl⟩) (g0 _ _ hd) (fun _ _ _ _ _ => rfl) (hh.obs d' j o hx')
    · have out : ∀ {d' j' i' o'}, d' ≠ d → isOwn (nameOf ow2 d' j') → G2 d' j' i' = some (b, o') → Own G ow b := by
        intro d' j' i' o' hd hi hg
        rw [hnm', if_neg hd] at hi
        rw [g0 _ _ hd] at hg
        exact own_iff.2 ⟨d', j', i', o', hi, hg⟩
      by_cases e1 : d1 = d
      · by_cases e2 : d2 = d
        · subst e1; subst e2
          obtain ⟨k1, p1⟩ := gdm q1
          obtain ⟨k2, p2⟩ := gdm q2
          obtain ⟨e, hnn⟩ := flat_inj ps (by rw [hf]; exact hnd) j1 j2 k1 k2 b (Pl.mem.2 ⟨_, _, p1⟩) (Pl.mem.2 ⟨_, _, p2⟩)
          subst e
          exact ⟨rfl, rfl, Pl.inj hnn p1 p2⟩
        · subst e1
          have hb := (hkey b).1 ⟨j1, i1, o1, h1, q1⟩
          exact absurd (.inr hb) (hh.notF b (out e2 h2 q2))
      · by_cases e2 : d2 = d
        · subst e2
          have hb := (hkey b).1 ⟨j2, i2, o2, h2, q2⟩
          exact absurd (.inr hb) (hh.notF b (out e1 h1 q1))
        · rw [hnm', if_neg e1] at h1
          rw [hnm', if_neg e2] at h2
          rw [g0 _ _ e1] at q1
          rw [g0 _ _ e2] at q2
          exact hh.apart d1 j1 i1 d2 j2 i2 b o1 o2 h1 h2 q1 q2
    · rcases (hown b).1 hb with hb | hb
      · exact fun hx => hh.notF b hb (.inl hx)
      · exact hFd b hb
end
end Go.Pev
end

section
/-
  PEV, part 16: calls.
-/
namespace Go.Pev

def Laid (L : List (Nat × Obj)) (I : Nat → Prop) (h : Array Obj) : Prop := ∀ p ∈ L, ¬ I p.1 ∧ h[p.1]? = some p.2

def retV (l : List Value) : Value := match l with | [v] => v | l => .tuple l.toArray

/-- A function's contract. -/
def SigHolds (P : Program) (L : List (Nat × Obj)) (f : FuncId) (sg : Sig) : Prop :=
  (∃ fn, P.funcs[f]? = some fn ∧ (fn.name == "runtime.NumGoroutine") = false ∧ fn.body.isNone = false) ∧
  ∀ (w : World) (F : Nat → Prop) (x : sg.args.T) (vs : List Value) (fp : List Nat) (y : sg.res.T × sg.args.Out), (∀ b, F b → b < w.heap.size) → Laid L (· ∈ fp) w.heap → fp.Nodup → (∀ b ∈ fp, ¬ F b) →
    ShR w.heap (fun b => ¬ FP F fp b) sg.args x vs fp → sg.den x = some y →
    Calls P f vs.toArray w fun e w' => ∃ rs fp1 fp2, e = .returned (retV rs) ∧ ShR w'.heap (fun b => ¬ FP F (fp1 ++ fp2) b) sg.res y.1 rs fp1 ∧ OutR w'.heap (fun b => ¬ FP F (fp1 ++ fp2) b) sg.args y.2 vs fp2 ∧
      (fp1 ++ fp2).Nodup ∧ (∀ b ∈ fp1 ++ fp2, b ∈ fp ∨ w.heap.size ≤ b) ∧ Kept (· ∈ fp) w w'

theorem Calls.mono {P : Program} {f : FuncId} {args : Array Value} {w : World} {R R' : Ending → World → Prop} (h : Calls P f args w R) (hr : ∀ e w', R e w' → R' e w') : Calls P f args w R' :=
  fun cs => let ⟨e, w', fr, r, s⟩ := h cs; ⟨e, w', fr, hr _ _ r, s⟩

/-! ### Thawing -/

theorem nameOf_thaw : (old new : OW) → (d j : Nat) → nameOf (thaw old new) d j = (match nameOf old d j, nameOf new d j with | some o, some n => some (thawOb o n) | _, n => n) := by
  have hL : (a b : List (Option OB)) → (j : Nat) → (thawL a b)[j]? = (match a[j]?, b[j]? with | some o, some n => some (thawOb o n) | _, n => n) := by
    intro a
    induction a with
    | nil => intro b j; cases b <;> simp [thawL]
    | cons o os ih =>
      intro b j
      cases b with
      | nil => simp [thawL]
      | cons n ns =>
        cases j with
        | zero => simp [thawL]
        | succ j => simp [thawL, ih]
  intro old
  induction old with
  | nil => intro new d j; cases new <;> simp [thaw, nameOf]
  | cons o os ih =>
    intro new d j
    cases new with
    | nil => simp [thaw, nameOf]
    | cons n ns =>
      cases d with
      | zero => simp [thaw, nameOf, hL]
      | succ d => simpa [thaw, nameOf] using ih ns d j

theorem length_thaw : (old new : OW) → (thaw old new).length = new.length
  | [], new => by cases new <;> simp [thaw]
  | o :: os, [] => by simp [thaw]
  | o :: os, n :: ns => by simp [thaw, length_thaw os ns]

theorem thaw_taken {ow ow1 : OW} (hT : Taken ow ow1) : Taken ow (thaw ow ow1) ∧ ∀ G b, TkB G ow (thaw ow ow1) b ↔ TkB G ow ow1 b := by
  have key : ∀ d j, nameOf (thaw ow ow1) d j = nameOf ow d j ∨ (nameOf (thaw ow ow1) d j = nameOf ow1 d j) := by
    intro d j
    rw [nameOf_thaw]
    rcases hT.names d j with e | ⟨_, e⟩ | ⟨k, ver, l, e1, e2⟩
    · rw [e]
      cases h : nameOf ow d j with
      | none => exact .inl rfl
      | some o =>
        left
        cases o with
        | none => rfl
        | some x => cases x <;> rfl
    · right
      rw [e]
      cases h : nameOf ow d j with
      | none => rfl
      | some o =>
        cases o with
        | none => rfl
        | some x => cases x <;> rfl
    · left
      rw [e1, e2]
      rfl
  have knone : ∀ d j, isOwn (nameOf ow d j) → (nameOf (thaw ow ow1) d j = some none ↔ nameOf ow1 d j = some none) := by
    intro d j hi
    rw [nameOf_thaw]
    rcases hT.names d j with e | ⟨_, e⟩ | ⟨k, ver, l, e1, e2⟩
    · rw [e]
      generalize nameOf ow d j = x at hi
      match x, hi with
      | some (some (.box _)), _ => simp [thawOb]
      | some (some (.row _ _ _)), _ => simp [thawOb]
      | some (some (.nrow _ _ _)), _ => simp [thawOb]
    · rw [e]
      generalize nameOf ow d j = x at hi
      match x, hi with
      | some (some (.box _)), _ => simp [thawOb]
      | some (some (.row _ _ _)), _ => simp [thawOb]
      | some (some (.nrow _ _ _)), _ => simp [thawOb]
    · rw [e1, e2]; simp [thawOb]
  refine ⟨⟨by rw [length_thaw, hT.len], fun d j => ?_⟩, fun G b => ?_⟩
  · rcases key d j with e | e
    · exact .inl e
    · rw [e]; exact hT.names d j
  · constructor
    · rintro ⟨d, j, i, o, hi, hg, hn⟩
      exact ⟨d, j, i, o, hi, hg, (knone d j hi).1 hn⟩
    · rintro ⟨d, j, i, o, hi, hg, hn⟩
      exact ⟨d, j, i, o, hi, hg, (knone d j hi).2 hn⟩

/-! ### Fresh shapes -/

theorem PayR.any {h : Array Obj} {ok ok' : Nat → Prop} {k : Kd} (hk : k.allOwn = true) {x : k.T} {v : Value} (e : PayR h ok k x v) : PayR h ok' k x v := ⟨Rep.any_heap k hk e.1, e.2⟩

theorem RowR.any {h : Array Obj} {ok ok' : Nat → Prop} {k : Kd} (hk : k.allOwn = true) {l : List k.T} {v : Value} {fp : List Nat} (e : RowR h ok k l v fp) : RowR h ok' k l v fp := by
  obtain ⟨hg, a, c, hv, hlc, e⟩ := e
  refine ⟨hg, a, c, hv, hlc, ?_⟩
  rcases e with e | ⟨b, o, r, et, ha, hf, hb, hel, hs⟩
  · exact .inl e
  · exact .inr ⟨b, o, r, et, ha, hf, hb, hel.mono fun x cs hx => Rep.any_heap k hk hx, hs⟩

theorem ShR.any {h : Array Obj} {ok ok' : Nat → Prop} : (s : Sh) → s.fresh = true → {x : s.T} → {vs : List Value} → {fp : List Nat} → ShR h ok s x vs fp → ShR h ok' s x vs fp
  | .pur _, hs, _, _, _, e => by obtain ⟨v, h1, h2, e⟩ := e; exact ⟨v, h1, h2, e.any hs⟩
  | .own _, hs, _, _, _, e => by obtain ⟨v, h1, e⟩ := e; exact ⟨v, h1, e.any hs⟩
  | .row _, hs, _, _, _, e => by obtain ⟨v, h1, e⟩ := e; exact ⟨v, h1, e.any hs⟩
  | .box l, hs, _, _, _, e => by obtain ⟨b, o, r, et, fp', h1, h2, h3, h4, e⟩ := e; exact ⟨b, o, r, et, fp', h1, h2, h3, h4, ShR.any l hs e⟩
  | .agg l, hs, _, _, _, e => by obtain ⟨cs, h1, e⟩ := e; exact ⟨cs, h1, ShR.any l hs e⟩
  | .fn _ _ l, hs, _, _, _, e => by obtain ⟨xs, ys, h1, h2, e⟩ := e; exact ⟨xs, ys, h1, h2, ShR.any l hs e⟩
  | .ign, _, _, _, _, e => e
  | .nl, _, _, _, _, e => e
  | .nil, _, _, _, _, e => e
  | .cons a b, hs, _, _, _, e => by
    simp only [Sh.fresh, Bool.and_eq_true] at hs
    obtain ⟨v, r, f1, f2, h1, h2, e1, e2⟩ := e
    exact ⟨v, r, f1, f2, h1, h2, ShR.any a hs.1 e1, ShR.any b hs.2 e2⟩

theorem OutR.any {h : Array Obj} {ok ok' : Nat → Prop} : (s : Sh) → s.freshOut = true → {x : s.Out} → {vs : List Value} → {fp : List Nat} → OutR h ok s x vs fp → OutR h ok' s x vs fp
  | .pur _, _, _, _, _, e => e
  | .own _, _, _, _, _, e => e
  | .row _, hs, _, _, _, e => by obtain ⟨v, h1, e⟩ := e; exact ⟨v, h1, e.any hs⟩
  | .box l, hs, _, _, _, e => by obtain ⟨b, o, r, et, fp', h1, h2, h3, h4, e⟩ := e; exact ⟨b, o, r, et, fp', h1, h2, h3, h4, ShR.any l hs e⟩
  | .agg l, hs, _, _, _, e => by obtain ⟨cs, h1, e⟩ := e; exact ⟨cs, h1, OutR.any l hs e⟩
  | .fn _ _ l, hs, _, _, _, e => by obtain ⟨xs, ys, h1, h2, e⟩ := e; exact ⟨xs, ys, h1, h2, OutR.any l hs e⟩
  | .ign, _, _, _, _, e => e
  | .nl, _, _, _, _, e => e
  | .nil, _, _, _, _, e => e
  | .cons a b, hs, _, _, _, e => by
    simp only [Sh.freshOut, Bool.and_eq_true] at hs
    obtain ⟨v, r, f1, f2, h1, h2, e1, e2⟩ := e
    refine ⟨v, r, f1, f2, h1, h2, ?_, OutR.any b hs.2 e2⟩
    rcases e1 with e1 | ⟨h0, e1⟩
    · exact .inl e1
    · exact .inr ⟨h0, OutR.any a hs.1 e1⟩

/-! ### What was written, put back -/

abbrev Put := Nat × Nat × OB × Pl
def putBlocks (puts : List Put) : List Nat := puts.flatMap fun p => p.2.2.2.fp
def posBlocks (ps : List Pl) : List Nat := ps.flatMap Pl.fp

structure Puts (h : Array Obj) (ok : Nat → Prop) (G : Gh) (old : OW) (d : Nat) (fp : List Nat) (st st' : OW × List OB) (puts : List Put) (ps : List Pl) (new : List OB) : Prop where
  obs : st'.2 = st.2 ++ new
  plen : ps.length = new.length
  len : st'.1.length = st.1.length
  names : ∀ d' j', (∃ p ∈ puts, p.1 = d' ∧ p.2.1 = j' ∧ nameOf st'.1 d' j' = some (some p.2.2.1)) ∨ ((∀ p ∈ puts, ¬ (p.1 = d' ∧ p.2.1 = j')) ∧ nameOf st'.1 d' j' = nameOf st.1 d' j')
  old : ∀ p ∈ puts, isOwn (nameOf old p.1 p.2.1) ∧ EC (nameOf old p.1 p.2.1) (some (some p.2.2.1)) ∧ isOwn (some (some p.2.2.1))
  place : ∀ p ∈ puts, p.2.2.2.1 = G p.1 p.2.1 0 ∧ (p.2.2.2.1 = none → p.2.2.2.2 = [])
  blocks : fp.Perm (putBlocks puts ++ posBlocks ps)
  rep : ∀ (G2 : Gh) (ow2 : OW), (∀ p ∈ puts, G2 p.1 p.2.1 = p.2.2.2.pos) → Named G2 ow2 d st.2.length new ps →
    (∀ p ∈ puts, ObRep h ok G2 ow2 p.1 p.2.1 p.2.2.1) ∧ ∀ i o, new[i]? = some o → ObRep h ok G2 ow2 d (st.2.length + i) o ∧ isOwn (some (some o))

theorem Puts.none {h : Array Obj} {ok : Nat → Prop} {G : Gh} {old : OW} {d : Nat} (st : OW × List OB) : Puts h ok G old d [] st st [] [] [] :=
  ⟨by simp, rfl, rfl, fun _ _ => .inr ⟨fun p hp => by simp at hp, rfl⟩, fun p hp => by simp at hp, fun p hp => by simp at hp, List.Perm.refl _, fun _ _ _ _ => ⟨fun p hp => by simp at hp, fun i o hi => by simp at hi⟩⟩

theorem unOut_rep {F : Nat → Prop} {G : Gh} {old : OW} {w0 : World} {h : Array Obj} {ok : Nat → Prop} (hh : HRep F G old w0.heap)
    (hc : ∀ (b : Nat) (r : Array Value) (et : TypeId) (f : Nat × Nat), w0.heap[b]? = some (Obj.cells r et f) → ∃ r' : Array Value, h[b]? = some (Obj.cells r' et f) ∧ r'.size = r.size) (d : Nat) :
    (s : Sh) → {svs : List SV} → {vs : List Value} → Svs F G old w0.heap svs vs → {y : s.Out} → {fp : List Nat} → OutR h ok s y vs fp → {st st' : OW × List OB} → (∀ d' j', nameOf old d' j' ≠ none → nameOf st.1 d' j' ≠ none) →
    unOut d old s svs y st = some st' → ∃ puts ps new, Puts h ok G old d fp st st' puts ps new
  | .pur _, svs, vs, hs, y, fp, e, st, st', hne, hu => by
    obtain ⟨⟨v, rfl⟩, rfl⟩ := e
    obtain ⟨s, rfl, _⟩ := hs.single
    simp only [unOut, Option.some.injEq] at hu
    subst hu
    exact ⟨_, _, _, .none st⟩
  | .own _, svs, vs, hs, y, fp, e, st, st', hne, hu => by
    obtain ⟨⟨v, rfl⟩, rfl⟩ := e
    obtain ⟨s, rfl, _⟩ := hs.single
    simp only [unOut, Option.some.injEq] at hu
    subst hu
    exact ⟨_, _, _, .none st⟩
  | .ign, svs, vs, hs, y, fp, e, st, st', hne, hu => by
    obtain ⟨⟨v, rfl⟩, rfl⟩ := e
    obtain ⟨s, rfl, _⟩ := hs.single
    simp only [unOut, Option.some.injEq] at hu
    subst hu
    exact ⟨_, _, _, .none st⟩
  | .nl, svs, vs, hs, y, fp, e, st, st', hne, hu => by
    obtain ⟨⟨v, rfl⟩, rfl⟩ := e
    obtain ⟨s, rfl, _⟩ := hs.single
    simp only [unOut, Option.some.injEq] at hu
    subst hu
    exact ⟨_, _, _, .none st⟩
  | .nil, svs, vs, hs, y, fp, e, st, st', hne, hu => by
    obtain ⟨rfl, rfl⟩ := e
    have : svs = [] := List.eq_nil_of_length_eq_zero hs.1
    subst this
    simp only [unOut, Option.some.injEq] at hu
    subst hu
    exact ⟨_, _, _, .none st⟩
  | .row k, svs, vs, hs, y, fp, e, st, st', hne, hu => by
    obtain ⟨v, rfl, e⟩ := e
    obtain ⟨s, rfl, hv⟩ := hs.single
    cases s with
    | wh dd j ver path =>
      simp only [unOut] at hu
      split at hu
      · rename_i k' ver' l0 hg
        split at hu
        · rename_i hk
          subst hk
          simp only [Option.some.injEq] at hu
          subst hu
          have hn := nameOf_of_getOb hg
          cases hv with
          | wh hv =>
          simp only [HandR, hn, Option.getD_none] at hv
          obtain ⟨h1n, hgood0, ho⟩ := hh.obs dd j _ hn
          obtain ⟨_, a, c, rfl, hlc, hcase⟩ := hv
          obtain ⟨hgood, a', c', hv', hlc', e⟩ := e
          have ha : a = a' ∧ l0.length = y.length ∧ c = c' := by simpa using hv'
          obtain ⟨rfl, hlen, rfl⟩ := ha
          have hnn : nameOf st.1 dd j ≠ none := hne dd j (by rw [hn]; simp)
          refine ⟨[(dd, j, .row k' (ver' + 1) y, (G dd j 0, []))], [], [], by simp, rfl, length_putOb, fun d' j' => ?_, fun p hp => ?_, fun p hp => ?_, ?_, fun G2 ow2 hG _ => ⟨fun p hp => ?_, fun i o hi => by simp at hi⟩⟩
          · rw [nameOf_putOb hnn]
            by_cases hd : d' = dd ∧ j' = j
            · exact .inl ⟨_, List.mem_singleton.2 rfl, hd.1.symm, hd.2.symm, by rw [if_pos hd]⟩
            · refine .inr ⟨fun p hp hx => ?_, by rw [if_neg hd]⟩
              have : p = (dd, j, OB.row k' (ver' + 1) y, (G dd j 0, [])) := by simpa using hp
              subst this
              exact hd ⟨hx.1.symm, hx.2.symm⟩
          · have : p = (dd, j, OB.row k' (ver' + 1) y, (G dd j 0, [])) := by simpa using hp
            subst this
            simp only
            rw [hn]
            exact ⟨trivial, ⟨rfl, hlen⟩, trivial⟩
          · have : p = (dd, j, OB.row k' (ver' + 1) y, (G dd j 0, [])) := by simpa using hp
            subst this
            exact ⟨rfl, fun _ => rfl⟩
          · rcases e with ⟨rfl, _, _, rfl⟩ | ⟨b, o, r, et, rfl, rfl, _⟩
            · rcases hcase with ⟨hG0, _⟩ | ⟨_, _, _, _, _, hx, _⟩
              · simp [putBlocks, posBlocks, Pl.fp, hG0]
              · cases hx
            · rcases hcase with ⟨_, hx, _⟩ | ⟨b', o', o'', r', hG0, hx, _⟩
              · cases hx
              · cases hx
                simp [putBlocks, posBlocks, Pl.fp, hG0]
          · have : p = (dd, j, OB.row k' (ver' + 1) y, (G dd j 0, [])) := by simpa using hp
            subst this
            have hG := hG _ (List.mem_singleton.2 rfl)
            simp only at hG ⊢
            have hG' : G2 dd j 0 = G dd j 0 := by rw [hG]; rfl
            refine ⟨by rw [hG]; exact fun i => rfl, hgood, ?_⟩
            rw [hG']
            rcases e with ⟨rfl, hy, _, rfl⟩ | ⟨b, o, r, et, rfl, rfl, hb, hel, hs⟩
            · rcases hcase with ⟨hG0, _⟩ | ⟨_, _, _, _, _, hx, _⟩
              · rw [hG0]; exact hy
              · cases hx
            · rcases hcase with ⟨_, hx, _⟩ | ⟨b', o', o'', r', hG0, hx, hr', ho', _⟩
              · cases hx
              · cases hx
                rw [hG0]
                refine ⟨r, et, hb, ?_⟩
                by_cases hc0 : 0 < c
                · have := ho' hc0
                  rw [Nat.zero_mul, Nat.add_zero] at this
                  rw [← this]; exact hel
                · have hy : y = [] := List.eq_nil_of_length_eq_zero (by omega)
                  subst hy
                  refine ⟨?_, fun i hi => by simp at hi⟩
                  simp only [hG0] at ho
                  obtain ⟨r0, et0, hb0, hel0⟩ := ho
                  obtain ⟨r1, hb1, hs1⟩ := hc _ _ _ _ hb0
                  rw [hb] at hb1
                  cases hb1
                  have := hel0.1
                  simp
                  omega
        · cases hu
      · cases hu
    | _ => simp [unOut] at hu
  | .box l, svs, vs, hs, y, fp, e, st, st', hne, hu => by
    obtain ⟨b, o, r, et, fp', rfl, rfl, hb, hsz, e⟩ := e
    obtain ⟨s, rfl, hv⟩ := hs.single
    cases s with
    | bp dd j c =>
      simp only [unOut] at hu
      split at hu
      · rename_i cells0 hg
        split at hu
        · rename_i hc0
          subst hc0
          simp only [Option.some.injEq] at hu
          subst hu
          have hn := nameOf_of_getOb hg
          cases hv with
          | bp hv =>
          simp only [hn] at hv
          obtain ⟨b', o', hG0, hx⟩ := hv
          have hx : b = b' ∧ o = o' := by simpa using hx
          obtain ⟨rfl, rfl⟩ := hx
          have hnn : nameOf st.1 dd j ≠ none := hne dd j (by rw [hn]; simp)
          obtain ⟨ps, hl, hf, hr⟩ := unpk_rep l e d st.2.length
          refine ⟨[(dd, j, .box (unpk d l y st.2.length).1, (some (b, o), []))], ps, (unpk d l y st.2.length).2, rfl, hl, length_putOb, fun d' j' => ?_, fun p hp => ?_, fun p hp => ?_, ?_, fun G2 ow2 hG hN => ?_⟩
          · rw [nameOf_putOb hnn]
            by_cases hd : d' = dd ∧ j' = j
            · exact .inl ⟨_, List.mem_singleton.2 rfl, hd.1.symm, hd.2.symm, by rw [if_pos hd]⟩
            · refine .inr ⟨fun p hp hx => ?_, by rw [if_neg hd]⟩
              have : p = (dd, j, OB.box (unpk d l y st.2.length).1, (some (b, o), [])) := by simpa using hp
              subst this
              exact hd ⟨hx.1.symm, hx.2.symm⟩
          · have : p = (dd, j, OB.box (unpk d l y st.2.length).1, (some (b, o), [])) := by simpa using hp
            subst this
            simp only
            rw [hn]
            exact ⟨trivial, trivial, trivial⟩
          · have : p = (dd, j, OB.box (unpk d l y st.2.length).1, (some (b, o), [])) := by simpa using hp
            subst this
            exact ⟨hG0.symm, fun h => by cases h⟩
          · simp [putBlocks, posBlocks, Pl.fp, hf]
          · obtain ⟨r1, r2⟩ := hr G2 ow2 hN
            refine ⟨fun p hp => ?_, r2⟩
            have : p = (dd, j, OB.box (unpk d l y st.2.length).1, (some (b, o), [])) := by simpa using hp
            subst this
            have hG := hG _ (List.mem_singleton.2 rfl)
            simp only at hG ⊢
            have hlen : (unpk d l y st.2.length).1.length = l.len := by rw [r1.1, sub_length hsz]
            refine ⟨by rw [hG]; exact fun i => rfl, b, o, r, et, by rw [hG]; rfl, hb, by omega, fun i hi hr' => ?_⟩
            have hi2 : i < (sub r o l.len).length := by rw [sub_length hsz]; omega
            have e1 : (sub r o l.len)[i] = r[o + i] := by
              have := sub_getElem (r := r) (o := o) (n := l.len) (i := i) (by omega)
              rw [List.getElem?_eq_getElem hi2, Array.getElem?_eq_getElem (by omega)] at this
              exact Option.some.inj this
            rw [← e1]
            exact r1.2 i hi hi2
        · cases hu
      · cases hu
    | _ => simp [unOut] at hu
  | .agg l, svs, vs, hs, y, fp, e, st, st', hne, hu => by
    obtain ⟨cs, rfl, e⟩ := e
    obtain ⟨s, rfl, hv⟩ := hs.single
    cases s with
    | agg ss =>
      simp only [unOut] at hu
      obtain ⟨us, hx, hus⟩ := hv.agg_inv
      have hx : cs = us := by simpa using hx
      subst hx
      exact unOut_rep hh hc d l hus e hne hu
    | _ => simp [unOut] at hu
  | .fn f n l, svs, vs, hs, y, fp, e, st, st', hne, hu => by
    obtain ⟨xs, ys, rfl, _, e⟩ := e
    obtain ⟨s, rfl, hv⟩ := hs.single
    cases s with
    | fn g a b =>
      simp only [unOut] at hu
      obtain ⟨us, zs, hx, hus, hzs⟩ := hv.fn_inv
      have hx : f = g ∧ xs = us ∧ ys = zs := by simpa using hx
      obtain ⟨rfl, rfl, rfl⟩ := hx
      exact unOut_rep hh hc d l (hus.append hzs) e hne hu
    | _ => simp [unOut] at hu
  | .cons a b, svs, vs, hs, y, fp, e, st, st', hne, hu => by
    obtain ⟨v, r, f1, f2, rfl, rfl, e1, e2⟩ := e
    match svs, hs, hu with
    | [], hs, _ => have := hs.1; simp at this
    | s :: svs, hs, hu =>
      obtain ⟨v', r', hx, hv, hr⟩ := hs.uncons
      simp only [List.cons.injEq] at hx
      obtain ⟨rfl, rfl⟩ := hx
      simp only [unOut] at hu
      rcases e1 with ⟨h0, rfl⟩ | ⟨h0, e1⟩
      · rw [if_pos h0] at hu
        exact unOut_rep hh hc d b hr e2 hne hu
      rw [if_neg (by rw [h0]; simp)] at hu
      split at hu
      · rename_i st1 h1
        obtain ⟨p1, s1, n1, q1⟩ := unOut_rep hh hc d a (.cons hv .nil) e1 hne h1
        obtain ⟨p2, s2, n2, q2⟩ := unOut_rep hh hc d b hr e2 (st := st1) (fun d' j' hx => by
          rcases q1.names d' j' with ⟨p, _, _, _, e⟩ | ⟨_, e⟩
          · rw [e]; simp
          · rw [e]; exact hne d' j' hx) hu
        refine ⟨p1 ++ p2, s1 ++ s2, n1 ++ n2, by rw [q2.obs, q1.obs, List.append_assoc], by simp [q1.plen, q2.plen], by rw [q2.len, q1.len], fun d' j' => ?_, fun p hp => ?_, fun p hp => ?_, ?_, fun G2 ow2 hG hN => ?_⟩
        · rcases q2.names d' j' with ⟨p, hp, e3, e4, e5⟩ | ⟨hno, e3⟩
          · exact .inl ⟨p, List.mem_append.2 (.inr hp), e3, e4, e5⟩
          · rcases q1.names d' j' with ⟨p, hp, e4, e5, e6⟩ | ⟨hno', e4⟩
            · exact .inl ⟨p, List.mem_append.2 (.inl hp), e4, e5, by rw [e3, e6]⟩
            · refine .inr ⟨fun p hp => ?_, by rw [e3, e4]⟩
              rcases List.mem_append.1 hp with hp | hp
              · exact hno' p hp
              · exact hno p hp
        · rcases List.mem_append.1 hp with hp | hp
          · exact q1.old p hp
          · exact q2.old p hp
        · rcases List.mem_append.1 hp with hp | hp
          · exact q1.place p hp
          · exact q2.place p hp
        · have e3 : putBlocks (p1 ++ p2) = putBlocks p1 ++ putBlocks p2 := by simp [putBlocks]
          have e4 : posBlocks (s1 ++ s2) = posBlocks s1 ++ posBlocks s2 := by simp [posBlocks]
          rw [e3, e4]
          refine (q1.blocks.append q2.blocks).trans ?_
          rw [List.append_assoc, List.append_assoc]
          refine List.Perm.append_left _ ?_
          rw [← List.append_assoc, ← List.append_assoc]
          exact List.Perm.append_right _ List.perm_append_comm
        · obtain ⟨a1, a2⟩ := q1.rep G2 ow2 (fun p hp => hG p (List.mem_append.2 (.inl hp))) (hN.left q1.plen)
          have hN2 := hN.right q1.plen
          have e3 : st.2.length + n1.length = st1.2.length := by rw [q1.obs]; simp
          rw [e3] at hN2
          obtain ⟨b1, b2⟩ := q2.rep G2 ow2 (fun p hp => hG p (List.mem_append.2 (.inr hp))) hN2
          refine ⟨fun p hp => ?_, fun i o hi => ?_⟩
          · rcases List.mem_append.1 hp with hp | hp
            · exact a1 p hp
            · exact b1 p hp
          · by_cases hlt : i < n1.length
            · rw [List.getElem?_append_left hlt] at hi
              exact a2 i o hi
            · rw [List.getElem?_append_right (by omega)] at hi
              have := b2 _ o hi
              rw [← e3, Nat.add_assoc, show n1.length + (i - n1.length) = i by omega] at this
              exact this
      · cases hu

end Go.Pev
end

section
/-
  PEV, part 17: a call whose contract is known.
-/
namespace Go.Pev

theorem pad_ret {h : Array Obj} {ok : Nat → Prop} {G : Gh} {ow : OW} {l : List SV} {vs : List Value} (hs : SvsR h ok G ow l vs) : SvRep h ok G ow (pad l) (retV vs) := by
  obtain ⟨hl, hs⟩ := hs
  match l, vs, hl, hs with
  | [], [], hl, hs => exact .tup (l := []) (vs := []) rfl hs
  | [a], [v], _, hs => exact hs 0 (by simp) (by simp)
  | a :: b :: l, v :: u :: vs, hl, hs => exact .tup hl hs

theorem own_of_block {F : Nat → Prop} {G : Gh} {ow : OW} {w : World} (_ : HRep F G ow w.heap) {d j i b o : Nat} (hi : isOwn (nameOf ow d j)) (hg : G d j i = some (b, o)) : Own G ow b := own_iff.2 ⟨d, j, i, o, hi, hg⟩

theorem Taken.ne {ow ow1 : OW} (hT : Taken ow ow1) {d j : Nat} (h : nameOf ow d j ≠ none) : nameOf ow1 d j ≠ none := by
  rcases hT.names d j with e | ⟨_, e⟩ | ⟨_, _, _, _, e⟩
  · rw [e]; exact h
  · rw [e]; simp
  · rw [e]; simp

/-- After a call: the state. -/
theorem call_state {F : Nat → Prop} {G : Gh} {ow owb : OW} {w w' : World} (hh : HRep F G ow w.heap) (hF : ∀ b, F b → b < w.heap.size) {fp fps : List Nat} (hT : Taken ow owb) (hO : FpOk G ow owb fp) (hK : Kept (· ∈ fp) w w') (hnd : fps.Nodup)
    (hfps : ∀ b ∈ fps, b ∈ fp ∨ w.heap.size ≤ b) {d : Nat} {obs1 new : List OB} {ps1 ps2 : List Pl} {puts : List Put} {fp2 : List Nat} {st' : OW × List OB} {okR : Nat → Prop}
    (hP : Puts w'.heap okR G ow d fp2 (owb, obs1) st' puts ps2 new) (hl1 : ps1.length = obs1.length) (hfp : fps = posBlocks ps1 ++ fp2) {ow' : OW} (hnew : newObs st'.1 d st'.2 = some ow')
    (hokR : ∀ b r, okR b → rowCells w'.heap b = some r → ¬ F b ∧ ¬ Own G owb b ∧ b ∉ fps) {l : List SV} {vs : List Value}
    (hR : ∀ (G2 : Gh) (ow2 : OW), Named G2 ow2 d 0 obs1 ps1 → SvsR w'.heap okR G2 ow2 l vs ∧ ∀ i o, obs1[i]? = some o → ObRep w'.heap okR G2 ow2 d (0 + i) o ∧ isOwn (some (some o))) :
    ∃ G', Tr F G ow w G' ow' w' ∧ Svs F G' ow' w'.heap l vs := by
  obtain ⟨hlen', hem, hnm⟩ := newObs_some hnew
  have hobs : st'.2 = obs1 ++ new := hP.obs
  -- where things are
  let ps := ps1 ++ ps2
  let G' : Gh := fun d' j => if st'.2 ≠ [] ∧ d' = d then (match ps[j]? with | some p => p.pos | none => fun _ => none) else
    (match puts.find? (fun p => p.1 == d' && p.2.1 == j) with | some p => p.2.2.2.pos | none => G d' j)
  have hpl : ps.length = st'.2.length := by simp [ps, hl1, hP.plen, hobs]
  have dnew : st'.2 ≠ [] → ∀ j, nameOf ow d j = none := by
    intro hne j
    have h1 : st'.1[d]? = some [] := by
      rcases hem with h | h
      · exact absurd h hne
      · exact h
    have h2 := nameOf_empty h1 j
    cases hx : nameOf ow d j with
    | none => rfl
    | some z =>
      have h3 : nameOf owb d j ≠ none := hT.ne (by rw [hx]; simp)
      rcases hP.names d j with ⟨p, _, _, _, e⟩ | ⟨_, e⟩
      · rw [h2] at e; cases e
      · rw [h2] at e; exact absurd e.symm h3
  have hfpnd : fp2.Nodup := by rw [hfp] at hnd; exact (List.nodup_append.1 hnd).2.1
  have putsnd : (putBlocks puts).Nodup := (List.nodup_append.1 (hP.blocks.nodup_iff.1 hfpnd)).1
  have uniq : ∀ p ∈ puts, ∀ q ∈ puts, p.1 = q.1 → p.2.1 = q.2.1 → p.2.2.2.pos = q.2.2.2.pos := by
    intro p hp q hq e1 e2
    obtain ⟨a1, a2⟩ := hP.place p hp
    obtain ⟨b1, b2⟩ := hP.place q hq
    rw [e1, e2] at a1
    cases hg : G q.1 q.2.1 0 with
    | none =>
      rw [hg] at a1 b1
      have e : p.2.2.2 = q.2.2.2 := Prod.ext (a1.trans b1.symm) ((a2 a1).trans (b2 b1).symm)
      rw [e]
    | some x =>
      obtain ⟨bb, oo⟩ := x
      rw [hg] at a1 b1
      obtain ⟨i, hi, rfl⟩ := List.mem_iff_getElem.1 hp
      obtain ⟨k, hk, rfl⟩ := List.mem_iff_getElem.1 hq
      have e := flat_inj (puts.map fun p => p.2.2.2) (by rw [List.flatMap_map]; exact putsnd) i k (by simpa using hi) (by simpa using hk) bb (Pl.mem.2 ⟨0, oo, by rw [List.getElem_map]; exact a1⟩) (Pl.mem.2 ⟨0, oo, by rw [List.getElem_map]; exact b1⟩)
      have e := e.1
      subst e
      rfl
  have g0 : ∀ d' j, ¬ (st'.2 ≠ [] ∧ d' = d) → (∀ p ∈ puts, ¬ (p.1 = d' ∧ p.2.1 = j)) → G' d' j = G d' j := by
    intro d' j hd hnp
    simp only [G']
    rw [if_neg hd]
    have : puts.find? (fun p => p.1 == d' && p.2.1 == j) = none := by
      rw [List.find?_eq_none]
      intro p hp
      have := hnp p hp
      simpa using this
    rw [this]
  have notd : ∀ p ∈ puts, ¬ (st'.2 ≠ [] ∧ p.1 = d) := by
    intro p hp h
    have h1 := (hP.old p hp).1
    rw [h.2, dnew h.1] at h1
    exact h1
  have gput : ∀ p ∈ puts, G' p.1 p.2.1 = p.2.2.2.pos := by
    intro p hp
    simp only [G']
    rw [if_neg (notd p hp)]
    cases hfd : puts.find? (fun q => q.1 == p.1 && q.2.1 == p.2.1) with
    | none =>
      rw [List.find?_eq_none] at hfd
      have := hfd p hp
      simp at this
    | some q =>
      have h1 := List.find?_some hfd
      simp only [Bool.and_eq_true, beq_iff_eq] at h1
      exact uniq q (List.mem_of_find?_eq_some hfd) p hp h1.1 h1.2
  have gold : ∀ d' j, nameOf ow d' j ≠ none → G' d' j 0 = G d' j 0 := by
    intro d' j hx
    have hd : ¬ (st'.2 ≠ [] ∧ d' = d) := fun h => hx (by rw [h.2]; exact dnew h.1 j)
    by_cases hp : ∃ p ∈ puts, p.1 = d' ∧ p.2.1 = j
    · obtain ⟨p, hp, rfl, rfl⟩ := hp
      rw [gput p hp]
      exact (hP.place p hp).1
    · rw [g0 d' j hd (fun p hp' h => hp ⟨p, hp', h⟩)]
  have gd : st'.2 ≠ [] → ∀ j, G' d j = (match ps[j]? with | some p => p.pos | none => fun _ => none) := fun hne j => by
    show (if st'.2 ≠ [] ∧ d = d then _ else _) = _
    rw [if_pos ⟨hne, rfl⟩]
  -- the names
  have names : ∀ d' j, (st'.2 ≠ [] ∧ d' = d ∧ nameOf ow' d' j = st'.2[j]?.map some) ∨
      (¬ (st'.2 ≠ [] ∧ d' = d) ∧ ((∃ p ∈ puts, p.1 = d' ∧ p.2.1 = j ∧ nameOf ow' d' j = some (some p.2.2.1)) ∨ ((∀ p ∈ puts, ¬ (p.1 = d' ∧ p.2.1 = j)) ∧ nameOf ow' d' j = nameOf owb d' j))) := by
    intro d' j
    rw [hnm]
    by_cases hc : d' = d ∧ st'.2 ≠ []
    · rw [if_pos hc]; exact .inl ⟨hc.2, hc.1, rfl⟩
    · rw [if_neg hc]
      refine .inr ⟨fun h => hc ⟨h.2, h.1⟩, ?_⟩
      exact hP.names d' j
  -- what is owned
  have ownNew : ∀ {d' j i b o : Nat}, isOwn (nameOf ow' d' j) → G' d' j i = some (b, o) →
      (st'.2 ≠ [] ∧ d' = d ∧ ∃ hj : j < ps.length, ps[j].pos i = some (b, o)) ∨ (∃ p ∈ puts, p.1 = d' ∧ p.2.1 = j ∧ p.2.2.2.pos i = some (b, o)) ∨ (isOwn (nameOf ow d' j) ∧ G d' j i = some (b, o) ∧ nameOf ow' d' j = nameOf owb d' j) := by
    intro d' j i b o hi hg
    rcases names d' j with ⟨hne, rfl, hn⟩ | ⟨hno, ⟨p, hp, rfl, rfl, hn⟩ | ⟨hnp, hn⟩⟩
    · left
      refine ⟨hne, rfl, ?_⟩
      rw [gd hne] at hg
      cases hq : ps[j]? with
      | none => rw [hq] at hg; cases hg
      | some q =>
        rw [hq] at hg
        obtain ⟨hj, rfl⟩ := List.getElem?_eq_some_iff.1 hq
        exact ⟨hj, hg⟩
    · right; left
      rw [gput p hp] at hg
      exact ⟨p, hp, rfl, rfl, hg⟩
    · right; right
      rw [hn] at hi
      have e := (hT.names d' j).own hi
      rw [e] at hi
      rw [g0 d' j hno hnp] at hg
      exact ⟨hi, hg, hn⟩
  have psMem : ∀ {j i b o : Nat} (hj : j < ps.length), ps[j].pos i = some (b, o) → b ∈ posBlocks ps := fun hj h => List.mem_flatMap.2 ⟨_, List.getElem_mem hj, Pl.mem.2 ⟨_, _, h⟩⟩
  have putMem : ∀ p ∈ puts, ∀ {i b o}, p.2.2.2.pos i = some (b, o) → b ∈ putBlocks puts := fun p hp i b o hg => List.mem_flatMap.2 ⟨p, hp, Pl.mem.2 ⟨i, o, hg⟩⟩
  have hall : (posBlocks ps1 ++ (putBlocks puts ++ posBlocks ps2)).Nodup := (List.Perm.append_left (posBlocks ps1) hP.blocks).nodup_iff.1 (by rw [hfp] at hnd; exact hnd)
  have psApp : posBlocks ps = posBlocks ps1 ++ posBlocks ps2 := by simp [posBlocks, ps]
  have psnd : (posBlocks ps).Nodup := by
    rw [psApp]
    rw [List.nodup_append] at hall ⊢
    exact ⟨hall.1, (List.nodup_append.1 hall.2.1).2.1, fun a ha b hb => hall.2.2 a ha b (List.mem_append.2 (.inr hb))⟩
  have psPut : ∀ b, b ∈ posBlocks ps → b ∈ putBlocks puts → False := by
    intro b h1 h2
    rw [psApp] at h1
    rw [List.nodup_append] at hall
    rcases List.mem_append.1 h1 with h1 | h1
    · exact hall.2.2 b h1 b (List.mem_append.2 (.inl h2)) rfl
    · exact (List.nodup_append.1 hall.2.1).2.2 b h2 b h1 rfl
  have psFps : ∀ b, b ∈ posBlocks ps → b ∈ fps := by
    intro b h1
    rw [psApp] at h1
    rw [hfp]
    rcases List.mem_append.1 h1 with h1 | h1
    · exact List.mem_append.2 (.inl h1)
    · exact List.mem_append.2 (.inr (hP.blocks.mem_iff.2 (List.mem_append.2 (.inr h1))))
  have putFps : ∀ b, b ∈ putBlocks puts → b ∈ fps := fun b h1 => by
    rw [hfp]; exact List.mem_append.2 (.inr (hP.blocks.mem_iff.2 (List.mem_append.2 (.inl h1))))
  have ownU : ∀ {d' j i b o : Nat}, isOwn (nameOf ow' d' j) → nameOf ow' d' j = nameOf owb d' j → G d' j i = some (b, o) → Own G owb b := fun hi he hg => own_iff.2 ⟨_, _, _, _, by rw [← he]; exact hi, hg⟩
  have ownB : ∀ b, Own G' ow' b → Own G owb b ∨ b ∈ fps := by
    intro b hb
    obtain ⟨d', j, i, o, hi, hg⟩ := own_iff.1 hb
    rcases ownNew hi hg with ⟨_, _, hj, h⟩ | ⟨p, hp, rfl, rfl, h⟩ | ⟨h1, h2, h3⟩
    · exact .inr (psFps b (psMem hj h))
    · exact .inr (putFps b (putMem p hp h))
    · exact .inl (ownU hi h3 h2)
  have fpsOwn : ∀ b ∈ fps, ¬ Own G owb b := by
    intro b hb ho
    rcases hfps b hb with h | h
    · exact hO.notOwn hh hT h ho
    · have := Own.lt hh (hT.own ho); omega
  have hok1 : ∀ b r, okR b → rowCells w'.heap b = some r → okF F G' ow' b ∧ rowCells w'.heap b = some r := by
    intro b r hb hr
    obtain ⟨h1, h2, h3⟩ := hokR b r hb hr
    refine ⟨⟨h1, fun ho => ?_⟩, hr⟩
    rcases ownB b ho with h | h
    · exact h2 h
    · exact h3 h
  have hkeep : ∀ b, b < w.heap.size → b ∉ fp → w'.heap[b]? = w.heap[b]? := fun b hb hn => hK.heap b hb hn
  have hok2 : ∀ b r, okF F G ow b → rowCells w.heap b = some r → okF F G' ow' b ∧ rowCells w'.heap b = some r := by
    intro b r hb hr
    have hlt := rowCells_lt hr
    have hnf : b ∉ fp := fun h => hb.2 (hO.own h)
    refine ⟨⟨hb.1, fun ho => ?_⟩, by unfold rowCells; rw [hkeep b hlt hnf]; exact hr⟩
    rcases ownB b ho with h | h
    · exact hb.2 (hT.own h)
    · rcases hfps b h with h | h
      · exact hnf h
      · omega
  have hsz : ∀ b r, rowCells w.heap b = some r → ∃ r', rowCells w'.heap b = some r' ∧ r'.size = r.size := by
    intro b r hr
    unfold rowCells at hr
    split at hr
    · rename_i c et f hb
      cases hr
      obtain ⟨r', h1, h2⟩ := hK.cells b _ et f hb
      exact ⟨r', by unfold rowCells; rw [h1], h2⟩
    · cases hr
  have hE : ∀ d' j, EC (nameOf ow d' j) (nameOf ow' d' j) := by
    intro d' j
    rcases names d' j with ⟨hne, rfl, hn⟩ | ⟨hno, ⟨p, hp, rfl, rfl, hn⟩ | ⟨hnp, hn⟩⟩
    · rw [dnew hne j]; trivial
    · rw [hn]; exact (hP.old p hp).2.1
    · rw [hn]; exact (hT.names d' j).ec
  have hsv : ∀ s v, Sv F G ow w.heap s v → Sv F G' ow' w'.heap s v := fun s v e => SvRep.mono gold hE hok2 hsz e
  -- the new things
  have hN : Named G' ow' d 0 st'.2 ps := by
    intro i o hi
    have hne : st'.2 ≠ [] := by intro h; rw [h] at hi; simp at hi
    have hlt : i < ps.length := by rw [hpl]; exact (List.getElem?_eq_some_iff.1 hi).1
    rw [Nat.zero_add]
    refine ⟨?_, ps[i], List.getElem?_eq_getElem hlt, by rw [gd hne, List.getElem?_eq_getElem hlt]⟩
    rcases names d i with ⟨_, _, hn⟩ | ⟨hno, _⟩
    · rw [hn, hi]; rfl
    · exact absurd ⟨hne, rfl⟩ hno
  have hN' : Named G' ow' d 0 (obs1 ++ new) (ps1 ++ ps2) := by rw [← hobs]; exact hN
  obtain ⟨r1, r2⟩ := hR G' ow' (hN'.left hl1)
  have hN2 := hN'.right hl1
  rw [Nat.zero_add] at hN2
  obtain ⟨q1, q2⟩ := hP.rep G' ow' gput hN2
  have up : ∀ {d' j : Nat} {o : OB}, nameOf ow' d' j ≠ none → ObRep w'.heap okR G' ow' d' j o → ObRep w'.heap (okF F G' ow') G' ow' d' j o := fun hx e =>
    ObRep.mono (fun _ _ _ => rfl) (fun _ _ => .refl _) hok1 (fun b r hr => ⟨r, hr, rfl⟩) rfl (fun _ _ _ _ _ => rfl) e
  have hTr : Tr F G ow w G' ow' w' := by
    refine ⟨⟨fun d' j o hn => ?_, fun d1 j1 i1 d2 j2 i2 b o1 o2 h1 h2 g1 g2 => ?_, fun b hb => ?_⟩, hsv, ?_, fun b hb => ?_, by rw [hlen', hP.len, hT.len]⟩
    · rcases names d' j with ⟨hne, rfl, hx⟩ | ⟨hno, ⟨p, hp, rfl, rfl, hx⟩ | ⟨hnp, hx⟩⟩
      · have ho : st'.2[j]? = some o := by
          rw [hn] at hx
          cases hq : st'.2[j]? with
          | none => simp [hq] at hx
          | some q => simp [hq] at hx; rw [hx]
        rw [hobs] at ho
        refine up (by rw [hn]; simp) ?_
        by_cases hlt : j < obs1.length
        · rw [List.getElem?_append_left hlt] at ho
          have := (r2 j o ho).1
          rw [Nat.zero_add] at this
          exact this
        · rw [List.getElem?_append_right (by omega)] at ho
          have := (q2 _ o ho).1
          rw [show obs1.length + (j - obs1.length) = j by omega] at this
          exact this
      · rw [hn] at hx
        have hx : o = p.2.2.1 := by simpa using hx
        subst hx
        exact up (by rw [hn]; simp) (q1 p hp)
      · rw [hn] at hx
        have nfp : ∀ b, Own G owb b → b ∉ fp := fun b hb h => hO.notOwn hh hT h hb
        rcases hT.names d' j with e | ⟨_, e⟩ | ⟨k, ver, l0, e1, e2⟩
        · have h0 : nameOf ow d' j = some (some o) := by rw [← e, ← hx]
          refine ObRep.mono gold hE hok2 hsz (g0 d' j hno hnp) (fun hi i b c hg => ?_) (hh.obs d' j o h0)
          have hob : Own G owb b := own_iff.2 ⟨d', j, i, c, by rw [← hx]; exact hi, hg⟩
          exact hkeep b (Own.lt hh (hT.own hob)) (nfp b hob)
        · rw [e] at hx; cases hx
        · rw [e2] at hx
          have hx : o = .frow k ver l0 := by simpa using hx
          subst hx
          obtain ⟨_, hk, ho⟩ := hh.obs d' j _ e1
          refine ⟨hk, ?_⟩
          rw [gold d' j (by rw [e1]; simp)]
          cases hg : G d' j 0 with
          | none => simpa [hg] using ho
          | some q =>
            obtain ⟨b, o⟩ := q
            simp only [hg] at ho
            obtain ⟨r, et, hb, hel⟩ := ho
            have hob : Own G ow b := own_iff.2 ⟨d', j, 0, o, by rw [e1]; trivial, hg⟩
            have hlt := Own.lt hh hob
            have hnb : ¬ Own G owb b := by
              intro h
              obtain ⟨d2, j2, i2, o2, hi, hg2⟩ := own_iff.1 h
              have e3 := (hT.names d2 j2).own hi
              obtain ⟨rfl, rfl, _⟩ := hh.apart d2 j2 i2 d' j 0 b o2 o (by rw [← e3]; exact hi) (by rw [e1]; trivial) hg2 hg
              rw [e2] at hi; exact hi
            have hnf : b ∉ fp := by
              intro h
              obtain ⟨d2, j2, i2, o2, hi, hg2, hn2⟩ := (hO b).1 h
              obtain ⟨rfl, rfl, _⟩ := hh.apart d2 j2 i2 d' j 0 b o2 o hi (by rw [e1]; trivial) hg2 hg
              rw [e2] at hn2; cases hn2
            refine .inr ⟨⟨hh.notF b hob, fun h => ?_⟩, r, rowCells_of (by rw [hkeep b hlt hnf]; exact hb), hel.mono fun x cs hx => Rep.mono hok2 _ hx⟩
            rcases ownB b h with h | h
            · exact hnb h
            · rcases hfps b h with h | h
              · exact hnf h
              · omega
    · rcases ownNew h1 g1 with ⟨n1, rfl, k1, p1⟩ | ⟨p, hp, rfl, rfl, p1⟩ | ⟨x1, k1, c1⟩
      · rcases ownNew h2 g2 with ⟨n2, rfl, k2, p2⟩ | ⟨q, hq, rfl, rfl, p2⟩ | ⟨x2, k2, c2⟩
        · obtain ⟨e, hnn⟩ := flat_inj ps psnd j1 j2 k1 k2 b (Pl.mem.2 ⟨_, _, p1⟩) (Pl.mem.2 ⟨_, _, p2⟩)
          subst e
          exact ⟨rfl, rfl, Pl.inj hnn p1 p2⟩
        · exact (psPut b (psMem k1 p1) (putMem q hq p2)).elim
        · exact absurd (ownU h2 c2 k2) (fpsOwn b (psFps b (psMem k1 p1)))
      · rcases ownNew h2 g2 with ⟨n2, rfl, k2, p2⟩ | ⟨q, hq, rfl, rfl, p2⟩ | ⟨x2, k2, c2⟩
        · exact (psPut b (psMem k2 p2) (putMem p hp p1)).elim
        · obtain ⟨i, hi, rfl⟩ := List.mem_iff_getElem.1 hp
          obtain ⟨k, hk, rfl⟩ := List.mem_iff_getElem.1 hq
          obtain ⟨e, hnn⟩ := flat_inj (puts.map fun p => p.2.2.2) (by rw [List.flatMap_map]; exact putsnd) i k (by simpa using hi) (by simpa using hk) b (Pl.mem.2 ⟨_, _, by simpa using p1⟩) (Pl.mem.2 ⟨_, _, by simpa using p2⟩)
          subst e
          exact ⟨rfl, rfl, Pl.inj (by simpa using hnn) p1 p2⟩
        · exact absurd (ownU h2 c2 k2) (fpsOwn b (putFps b (putMem p hp p1)))
      · rcases ownNew h2 g2 with ⟨n2, rfl, k2, p2⟩ | ⟨q, hq, rfl, rfl, p2⟩ | ⟨x2, k2, c2⟩
        · exact absurd (ownU h1 c1 k1) (fpsOwn b (psFps b (psMem k2 p2)))
        · exact absurd (ownU h1 c1 k1) (fpsOwn b (putFps b (putMem q hq p2)))
        · exact hh.apart d1 j1 i1 d2 j2 i2 b o1 o2 x1 x2 k1 k2
    · rcases ownB b hb with h | h
      · exact hh.notF b (hT.own h)
      · rcases hfps b h with h | h
        · exact hh.notF b (hO.own h)
        · intro hf
          have := hF b hf
          omega
    · exact ⟨hK.size, fun b hb hn => hK.heap b hb fun h => hn (hO.own h), hK.cells, hK.os, hK.output, hK.tape⟩
    · rcases ownB b hb with h | h
      · exact .inl (hT.own h)
      · rcases hfps b h with h | h
        · exact .inl (hO.own h)
        · exact .inr h
  exact ⟨G', hTr, r1.1, fun i h1 h2 => SvRep.mono (fun _ _ _ => rfl) (fun _ _ => .refl _) hok1 (fun b r hr => ⟨r, hr, rfl⟩) (r1.2 i h1 h2)⟩

end Go.Pev
end

section
/-
  PEV, part 18: every operation.
-/
namespace Go.Pev

section
variable {F : Nat → Prop} {G : Gh} {ow : OW} {w : World} {P : Program} {L : List (Nat × Obj)}

/-- What a call comes to. -/
def CallR (P : Program) (F : Nat → Prop) (G : Gh) (ow : OW) (w : World) (f : FuncId) (vs : List Value) (Q : SV × OW → Prop) : Prop :=
  Calls P f vs.toArray w fun e w' => ∃ s ow' v G', e = .returned v ∧ Q (s, ow') ∧ Tr F G ow w G' ow' w' ∧ Sv F G' ow' w'.heap s v

theorem evSig_sound {f : FuncId} {sg : Sig} (hs : SigHolds P L f sg) (hh : HRep F G ow w.heap) (hF : ∀ b, F b → b < w.heap.size) (hL : Laid L (Own G ow) w.heap) {args : List SV} {vs : List Value} (ha : Svs F G ow w.heap args vs) {d : Nat} {c : Cmd (SV × OW)}
    (he : evSig sg args ow d = some c) {Q : SV × OW → Prop} (h : c.can Q) : CallR P F G ow w f vs Q := by
  unfold evSig at he
  split at he
  · cases he
  rename_i p hp
  cases he
  obtain ⟨y, hy, h⟩ := h
  dsimp only at h
  split at h
  · rename_i q hq
    split at h
    · rename_i ow' hn
      obtain ⟨fp, hT, hO, hnd, hrep⟩ := pk_sound sg.args (x := p.1) (ow1 := p.2) hF hh ha hp
      have hlt : ∀ b ∈ fp, b < w.heap.size := fun b hb => Own.lt hh (hO.own hb)
      refine (hs.2 w (fun b => F b ∨ Own G p.2 b) p.1 vs fp y ?_ (fun q hq => ⟨fun hm => (hL q hq).1 (hO.own hm), (hL q hq).2⟩) hnd ?_ ?_ hy).mono fun e w' ⟨rs, fp1, fp2, h1, h2, h3, h4, h5, h6⟩ => ?_
      · intro b hb
        rcases hb with hb | hb
        · exact hF b hb
        · exact Own.lt hh (hT.own hb)
      · intro b hb hx
        rcases hx with hx | hx
        · exact hh.notF b (hO.own hb) hx
        · exact hO.notOwn hh hT hb hx
      · refine ShR.mono (fun b r hb hr => ⟨fun hx => ?_, hr⟩) _ (fun _ _ => rfl) hrep
        rcases hx with (hx | hx) | hx
        · exact hb.1 (.inl hx)
        · exact hb.2 hx
        · exact hb.1 (.inr hx)
      · -- the state behind the call
        have fin : ∀ (owb : OW) (okR : Nat → Prop), Taken ow owb → FpOk G ow owb fp → ShR w'.heap okR sg.res y.1 rs fp1 → OutR w'.heap okR sg.args y.2 vs fp2 →
            (∀ b r, okR b → rowCells w'.heap b = some r → ¬ F b ∧ ¬ Own G owb b ∧ b ∉ fp1 ++ fp2) → unOut d ow sg.args args y.2 (owb, (unpk d sg.res y.1 0).2) = some q →
            ∃ s ow' v G', e = .returned v ∧ Q (s, ow') ∧ Tr F G ow w G' ow' w' ∧ Sv F G' ow' w'.heap s v := by
          intro owb okR hTb hOb hr hou hok hu
          obtain ⟨ps1, l1, f1, r1⟩ := unpk_rep sg.res hr d 0
          obtain ⟨puts, ps2, new, hP⟩ := unOut_rep (F := F) hh h6.cells d sg.args ha hou (st := (owb, (unpk d sg.res y.1 0).2)) (fun d' j' hx => hTb.ne hx) hu
          obtain ⟨G', hTr, hsv⟩ := call_state hh hF hTb hOb h6 h4 h5 hP l1 (by rw [← f1]; rfl) hn hok (l := (unpk d sg.res y.1 0).1) (vs := rs) r1
          exact ⟨_, _, _, G', h1, h, hTr, pad_ret hsv⟩
        cases hfr : sg.res.fresh && sg.args.freshOut with
        | true =>
          simp only [backOW, hfr, if_true] at hq
          simp only [Bool.and_eq_true] at hfr
          obtain ⟨t1, t2⟩ := thaw_taken hT
          exact fin (thaw ow p.2) (fun _ => False) t1 (fun b => (hO b).trans (t2 G b).symm) (ShR.any _ hfr.1 h2) (OutR.any _ hfr.2 h3) (fun b r hb => hb.elim) hq
        | false =>
          simp only [backOW, hfr, Bool.false_eq_true, if_false] at hq
          exact fin p.2 _ hT hO h2 h3 (fun b r hb _ => ⟨fun hx => hb (.inl (.inl hx)), fun hx => hb (.inl (.inr hx)), fun hx => hb (.inr hx)⟩) hq
    · exact h.elim
  · exact h.elim

theorem trySigs_sound {f : FuncId} : (sgs : List Sig) → (∀ sg ∈ sgs, SigHolds P L f sg) → HRep F G ow w.heap → (∀ b, F b → b < w.heap.size) → Laid L (Own G ow) w.heap → {args : List SV} → {vs : List Value} → Svs F G ow w.heap args vs → {d : Nat} →
    {Q : SV × OW → Prop} → (trySigs args ow d sgs).can Q → CallR P F G ow w f vs Q
  | [], _, _, _, _, _, _, _, _, _, h => h.elim
  | sg :: r, hs, hh, hF, hL, args, vs, ha, d, Q, h => by
    unfold trySigs at h
    split at h
    · rename_i c hc
      exact evSig_sound (hs sg (by simp)) hh hF hL ha hc h
    · exact trySigs_sound r (fun sg hsg => hs sg (by simp [hsg])) hh hF hL ha h

theorem isPurs_noOut {h : Array Obj} {ok : Nat → Prop} : (s : Sh) → isPurs s = true → {x : s.Out} → {vs : List Value} → {fp : List Nat} → OutR h ok s x vs fp → fp = []
  | .nil, _, _, _, _, e => e.2
  | .cons (.pur _) b, hs, _, _, _, e => by
    obtain ⟨v, r, f1, f2, rfl, rfl, e1, e2⟩ := e
    have h1 : f1 = [] := by
      rcases e1 with e1 | e1
      · exact e1.2
      · exact e1.2.2
    rw [h1, isPurs_noOut b (by simpa [isPurs] using hs) e2]; rfl
  | .cons (.own _) _, hs, _, _, _, _ => by simp [isPurs] at hs
  | .cons (.row _) _, hs, _, _, _, _ => by simp [isPurs] at hs
  | .cons (.box _) _, hs, _, _, _, _ => by simp [isPurs] at hs
  | .cons (.agg _) _, hs, _, _, _, _ => by simp [isPurs] at hs
  | .cons (.fn _ _ _) _, hs, _, _, _, _ => by simp [isPurs] at hs
  | .cons .ign _, hs, _, _, _, _ => by simp [isPurs] at hs
  | .cons .nl _, hs, _, _, _, _ => by simp [isPurs] at hs
  | .cons .nil _, hs, _, _, _, _ => by simp [isPurs] at hs
  | .cons (.cons _ _) _, hs, _, _, _, _ => by simp [isPurs] at hs
  | .pur _, hs, _, _, _, _ => by simp [isPurs] at hs
  | .own _, hs, _, _, _, _ => by simp [isPurs] at hs
  | .row _, hs, _, _, _, _ => by simp [isPurs] at hs
  | .box _, hs, _, _, _, _ => by simp [isPurs] at hs
  | .agg _, hs, _, _, _, _ => by simp [isPurs] at hs
  | .fn _ _ _, hs, _, _, _, _ => by simp [isPurs] at hs
  | .ign, hs, _, _, _, _ => by simp [isPurs] at hs
  | .nl, hs, _, _, _, _ => by simp [isPurs] at hs

theorem isPurs_fp {h : Array Obj} {ok : Nat → Prop} : (s : Sh) → isPurs s = true → {x : s.T} → {vs : List Value} → {fp : List Nat} → ShR h ok s x vs fp → fp = [] ∧ ∀ d j, (unpk d s x j).2 = []
  | .nil, _, _, _, _, e => ⟨e.2, fun _ _ => rfl⟩
  | .cons (.pur _) b, hs, x, _, _, e => by
    obtain ⟨v, r, f1, f2, rfl, rfl, ⟨_, _, e1, _⟩, e2⟩ := e
    obtain ⟨h1, h2⟩ := isPurs_fp b (by simpa [isPurs] using hs) e2
    refine ⟨by rw [e1, h1]; rfl, fun d j => ?_⟩
    show [] ++ (unpk d b x.2 (j + 0)).2 = []
    rw [h2]; rfl
  | .cons (.own _) _, hs, _, _, _, _ => by simp [isPurs] at hs
  | .cons (.row _) _, hs, _, _, _, _ => by simp [isPurs] at hs
  | .cons (.box _) _, hs, _, _, _, _ => by simp [isPurs] at hs
  | .cons (.agg _) _, hs, _, _, _, _ => by simp [isPurs] at hs
  | .cons (.fn _ _ _) _, hs, _, _, _, _ => by simp [isPurs] at hs
  | .cons .ign _, hs, _, _, _, _ => by simp [isPurs] at hs
  | .cons .nl _, hs, _, _, _, _ => by simp [isPurs] at hs
  | .cons .nil _, hs, _, _, _, _ => by simp [isPurs] at hs
  | .cons (.cons _ _) _, hs, _, _, _, _ => by simp [isPurs] at hs
  | .pur _, hs, _, _, _, _ => by simp [isPurs] at hs
  | .own _, hs, _, _, _, _ => by simp [isPurs] at hs
  | .row _, hs, _, _, _, _ => by simp [isPurs] at hs
  | .box _, hs, _, _, _, _ => by simp [isPurs] at hs
  | .agg _, hs, _, _, _, _ => by simp [isPurs] at hs
  | .fn _ _ _, hs, _, _, _, _ => by simp [isPurs] at hs
  | .ign, hs, _, _, _, _ => by simp [isPurs] at hs
  | .nl, hs, _, _, _, _ => by simp [isPurs] at hs

/-- What a call that only reads comes to. -/
def CallJ (P : Program) (F : Nat → Prop) (G : Gh) (ow : OW) (w : World) (f : FuncId) (vs : List Value) (Q : SV → Prop) : Prop :=
  Calls P f vs.toArray w fun e w' => ∃ s v, e = .returned v ∧ Q s ∧ Tr F G ow w G ow w' ∧ Sv F G ow w'.heap s v

theorem tr_world (hh : HRep F G ow w.heap) (hF : ∀ b, F b → b < w.heap.size) {w' : World} (hK : Kept (fun _ => False) w w') : Tr F G ow w G ow w' := by
  have hK' : Kept (Own G ow) w w' := ⟨hK.size, fun b hb _ => hK.heap b hb (fun h => h), hK.cells, hK.os, hK.output, hK.tape⟩
  exact tr_of hh hF (fun _ _ _ => rfl) (fun _ _ => .refl _) hK' (fun b hb => .inl hb)
    (fun b r _ hr => ⟨r, by unfold rowCells; rw [hK.heap b (rowCells_lt hr) (fun h => h)]; exact hr, rfl⟩)
    (fun d j o hn => .inl ⟨hn, rfl, fun hi i b c hg => hK.heap b (Own.lt hh (own_iff.2 ⟨d, j, i, c, by rw [hn]; exact hi, hg⟩)) (fun h => h)⟩) hh.apart rfl

theorem callRO_sound {f : FuncId} : (sgs : List Sig) → (∀ sg ∈ sgs, SigHolds P L f sg) → HRep F G ow w.heap → (∀ b, F b → b < w.heap.size) → Laid L (Own G ow) w.heap → {args : List SV} → {vs : List Value} → Svs F G ow w.heap args vs →
    {Q : SV → Prop} → (callRO args ow sgs).can Q → CallJ P F G ow w f vs Q
  | [], _, _, _, _, _, _, _, _, h => h.elim
  | sg :: r, hs, hh, hF, hL, args, vs, ha, Q, h => by
    unfold callRO at h
    split at h
    · rename_i hc
      simp only [Bool.and_eq_true] at hc
      split at h
      · rename_i p hp
        obtain ⟨y, hy, h⟩ := h
        obtain ⟨fp, hT, hO, hnd, hrep⟩ := pk_sound sg.args (x := p.1) (ow1 := p.2) hF hh ha hp
        obtain ⟨rfl, _⟩ := isPurs_fp _ hc.1.1 hrep
        refine ((hs sg (by simp)).2 w (fun b => F b ∨ Own G p.2 b) p.1 vs [] y ?_ (fun q hq => ⟨fun hm => by simp at hm, (hL q hq).2⟩) hnd (fun b hb => by simp at hb) ?_ hy).mono fun e w' ⟨rs, fp1, fp2, h1, h2, h3, h4, h5, h6⟩ => ?_
        · intro b hb
          rcases hb with hb | hb
          · exact hF b hb
          · exact Own.lt hh (hT.own hb)
        · refine ShR.mono (fun b r hb hr => ⟨fun hx => ?_, hr⟩) _ (fun _ _ => rfl) hrep
          rcases hx with (hx | hx) | hx
          · exact hb.1 (.inl hx)
          · exact hb.2 hx
          · exact hb.1 (.inr hx)
        · obtain ⟨rfl, hun⟩ := isPurs_fp _ hc.1.2 h2
          have hK : Kept (fun _ => False) w w' := ⟨h6.size, fun b hb _ => h6.heap b hb (by simp), h6.cells, h6.os, h6.output, h6.tape⟩
          have hTr := tr_world hh hF hK
          obtain ⟨ps, l1, f1, r1⟩ := unpk_rep sg.res (ShR.any (ok' := okF F G ow) _ hc.2 h2) 0 0
          obtain ⟨r2, _⟩ := r1 G ow (fun i o hi => by rw [hun] at hi; simp at hi)
          exact ⟨_, _, h1, h, hTr, pad_ret r2⟩
      · exact callRO_sound r (fun sg hsg => hs sg (by simp [hsg])) hh hF hL ha h
    · exact callRO_sound r (fun sg hsg => hs sg (by simp [hsg])) hh hF hL ha h

/-! ### Operations -/

/-- What an operation comes to. -/
def OpR (P : Program) (op : Oper) (ρv : Operand → Value) (w : World) (R : Value → World → Prop) : Prop :=
  (∃ v w', (execOp ρv op).run P w = .ok (.value v) w' ∧ R v w') ∨ (∃ w', (execOp ρv op).run P w = .ok .skip w' ∧ R undef w') ∨
  ∃ f args, (execOp ρv op).run P w = .ok (.enter f args) w ∧ Calls P f args w fun e w' => ∃ v, e = .returned v ∧ R v w'

theorem OpR.wp {op : Oper} {a : Act} {next : Act → World → Prop} {Qx : Exit → Act → World → Prop} (h : OpR P op a.eval w fun v w' => next (a.put op.dst v) w') : op.wp P a w next Qx := by
  unfold Oper.wp
  rcases h with ⟨v, w', hr, h⟩ | ⟨w', hr, h⟩ | ⟨f, args, hr, h⟩
  · rw [hr]; exact h
  · rw [hr]; exact h
  · rw [hr]
    exact h.mono fun e w' ⟨v, he, h⟩ => by rw [he]; exact h

theorem run_call_value {op : Oper} {c : Call} {fo : Operand} (ho : op.op = .call c) (hc : c.callee = .value fo) {ρv : Operand → Value} {id : FuncId} {xs ys : List Value} (hv : ρv fo = .func (.func id) xs.toArray ys.toArray)
    (hf : ∃ fn, P.funcs[id]? = some fn ∧ (fn.name == "runtime.NumGoroutine") = false ∧ fn.body.isNone = false) :
    (execOp ρv op).run P w = .ok (.enter id (xs ++ c.args.toList.map ρv ++ ys).toArray) w := by
  obtain ⟨fn, h1, h2, h3⟩ := hf
  have e : xs.toArray ++ c.args.map ρv ++ ys.toArray = (xs ++ c.args.toList.map ρv ++ ys).toArray := by apply Array.ext'; simp
  simp only [execOp, ho, resolve, hc, hv, Deferred.ofValue, Sem.run_bind, Sem.run_pure, Result.andThen_ok, invoke, callFunc, run_program, h1, h2, h3, Bool.false_eq_true, if_false]
  rw [e]

end

section
variable {F : Nat → Prop} {G : Gh} {ow : OW} {w : World} {L : List (Nat × Obj)} {C : Ctx}

/-- All the contracts hold. -/
def Ctx.Holds (C : Ctx) (L : List (Nat × Obj)) : Prop := ∀ f, ∀ sg ∈ C.sigsOf f, SigHolds C.P L f sg

theorem evJ_sound (hC : C.Holds L) {o : Op} {op : Oper} (ho : op.op = o) {ρ : Operand → SV} {ρv : Operand → Value} (hh : HRep F G ow w.heap) (hF : ∀ b, F b → b < w.heap.size) (hL : Laid L (Own G ow) w.heap) (hρ : Rho F G ow w.heap ρ ρv) {Q : SV → Prop} (h : (evJ C o ρ ow).can Q) :
    OpR C.P op ρv w fun v w' => ∃ s, Q s ∧ Tr F G ow w G ow w' ∧ Sv F G ow w'.heap s v := by
  unfold evJ at h
  split at h
  · rename_i fo args _
    split at h
    · rename_i id a b hf
      have hv := hρ fo
      rw [hf] at hv
      obtain ⟨xs, ys, hv, hx, hy⟩ := hv.fn_inv
      have hargs : Svs F G ow w.heap (a ++ args.toList.map ρ ++ b) (xs ++ args.toList.map ρv ++ ys) := (hx.append (hρ.svs _)).append hy
      cases hsg : C.sigsOf id with
      | nil => rw [hsg] at h; exact h.elim
      | cons sg0 r0 =>
        have h0 := (hC id sg0 (by rw [hsg]; simp)).1
        have := callRO_sound (C.sigsOf id) (hC id) hh hF hL hargs h
        exact .inr (.inr ⟨id, _, run_call_value ho rfl hv h0, this.mono fun e w' ⟨s, v, h1, h2, h3, h4⟩ => ⟨v, h1, s, h2, h3, h4⟩⟩)
    · exact h.elim
  · obtain ⟨s, v, hq, hr, hs⟩ := evRO_sound (P := C.P) ho hh hρ h
    exact .inl ⟨v, w, hr, s, hq, .refl hh, hs⟩

theorem OpR.res {P : Program} {op : Oper} {ρv : Operand → Value} {Q : SV × OW → Prop} {c : Sem Value} (hc : Res P F G ow w Q c) (he : (execOp ρv op).run P w = (do pure (Next.value (← c)) : Sem Next).run P w) :
    OpR P op ρv w fun v w' => ∃ s ow' G', Q (s, ow') ∧ Tr F G ow w G' ow' w' ∧ Sv F G' ow' w'.heap s v := by
  obtain ⟨s, ow', v, w', G', hq, hr, ht, hs⟩ := hc
  refine .inl ⟨v, w', ?_, s, ow', G', hq, ht, hs⟩
  rw [he, Sem.run_bind, hr]; rfl

theorem evOp_sound (hC : C.Holds L) {o : Op} {op : Oper} (ho : op.op = o) {ρ : Operand → SV} {ρv : Operand → Value} (hh : HRep F G ow w.heap) (hF : ∀ b, F b → b < w.heap.size) (hL : Laid L (Own G ow) w.heap) (hρ : Rho F G ow w.heap ρ ρv) {d : Nat} {Q : SV × OW → Prop} (h : (evOp C o ρ ow d).can Q) :
    OpR C.P op ρv w fun v w' => ∃ s ow' G', Q (s, ow') ∧ Tr F G ow w G' ow' w' ∧ Sv F G' ow' w'.heap s v := by
  unfold evOp at h
  split at h
  · split at h
    · rename_i cells hz
      split at h
      · rename_i ow' hn
        exact OpR.res (evAlloc_sound (P := C.P) hh hF hz hn h) (by simp only [execOp, ho])
      · exact h.elim
    · exact h.elim
  · split at h
    · rename_i cells hz
      split at h
      · rename_i ow' hn
        exact OpR.res (evBox_sound (P := C.P) hh hF (hρ _) hz hn h) (by simp only [execOp, ho])
      · exact h.elim
    · exact h.elim
  · rename_i t n parts
    refine OpR.res (evBuildSlice_sound (P := C.P) (vps := parts.toList.map fun x => (x.1, ρv x.2)) hh hF (by simp) (by simp only [List.map_map]; exact (by simpa [Function.comp_def] using hρ.svs (parts.toList.map (·.2)))) h) ?_
    simp only [execOp, ho]
    congr 4
    apply Array.ext'
    simp
  · have h := Cmd.can_bind _ h
    obtain ⟨ow', w', hq, hr, ht⟩ := evStore_sound (P := C.P) hh hF (hρ _) (hρ _) h
    refine .inr (.inl ⟨w', ?_, _, ow', G, hq, ht, .tup (l := []) (vs := []) rfl (fun i h => by simp at h)⟩)
    simp only [execOp, ho, Sem.run_bind, hr, Result.andThen_ok, Sem.run_pure]
  · exact OpR.res (evMakeSlice_sound (P := C.P) hh hF (hρ _) (hρ _) h) (by simp only [execOp, ho])
  · rename_i args ats
    split at h
    · rename_i s x t tx ha ht
      split at h
      · rename_i htx
        refine OpR.res (evAppend_sound (P := C.P) (ty := op.type) hh hF (hρ s) (hρ x) htx h) ?_
        have e1 : args.map ρv = #[ρv s, ρv x] := by apply Array.ext'; simp [ha]
        have e2 : ats = #[t, tx] := by apply Array.ext'; simp [ht]
        simp only [execOp, ho, resolve, Sem.run_bind, Sem.run_pure, Result.andThen_ok, invoke, builtin, e1, e2]
      · exact h.elim
    · exact h.elim
  · rename_i fo args _
    split at h
    · rename_i id a b hf
      have hv := hρ fo
      rw [hf] at hv
      obtain ⟨xs, ys, hv, hx, hy⟩ := hv.fn_inv
      have hargs : Svs F G ow w.heap (a ++ args.toList.map ρ ++ b) (xs ++ args.toList.map ρv ++ ys) := (hx.append (hρ.svs _)).append hy
      cases hsg : C.sigsOf id with
      | nil => rw [hsg] at h; exact h.elim
      | cons sg0 r0 =>
        have h0 := (hC id sg0 (by rw [hsg]; simp)).1
        have := trySigs_sound (C.sigsOf id) (hC id) hh hF hL hargs h
        exact .inr (.inr ⟨id, _, run_call_value ho rfl hv h0, this.mono fun e w' ⟨s, ow', v, G', h1, h2, h3, h4⟩ => ⟨v, h1, s, ow', G', h2, h3, h4⟩⟩)
    · exact h.elim
  · have h := Cmd.can_bind _ h
    obtain ⟨s, v, hq, hr, hs⟩ := evRO_sound (P := C.P) ho hh hρ h
    exact .inl ⟨v, w, hr, s, ow, G, hq, .refl hh, hs⟩

end
end Go.Pev
end

section
/-
  PEV, part 19: regions.
-/
set_option linter.unusedVariables false
set_option linter.unusedSimpArgs false
namespace Go.Pev

/-- What holds all through a function's run. -/
structure Env (F : Nat → Prop) (fp : List Nat) (L : List (Nat × Obj)) (w0 : World) : Prop where
  wide : ∀ b, F b → b < w0.heap.size
  laid : Laid L (· ∈ fp) w0.heap
  fpF : ∀ b ∈ fp, ¬ F b

/-- A state. -/
structure StI (nt : Nat) (fr : Nat → Bool) (F : Nat → Prop) (fp : List Nat) (w0 : World) (vs : List Value) (st : St) (a : Act) (w : World) : Prop where
  ex : ∃ G, Svs F G st.ow w.heap st.sl a.tmps.toList ∧ HRep F G st.ow w.heap ∧ ∀ b, Own G st.ow b → b ∈ fp ∨ w0.heap.size ≤ b
  kept : Kept (· ∈ fp) w0 w
  defers : a.defers = []
  args : ∀ i, i < vs.length → fr i = false → a.tmps[i]? = vs[i]?
  size : a.tmps.size = nt

section
variable {F : Nat → Prop} {fp : List Nat} {L : List (Nat × Obj)} {w0 : World} {vs : List Value} {C : Ctx} {nt : Nat} {fr : Nat → Bool}

theorem Env.wideAt (hE : Env F fp L w0) {w : World} (hk : Kept (· ∈ fp) w0 w) : ∀ b, F b → b < w.heap.size := fun b hb => Nat.lt_of_lt_of_le (hE.wide b hb) hk.size

theorem Env.laidAt (hE : Env F fp L w0) {w : World} (hk : Kept (· ∈ fp) w0 w) {G : Gh} {ow : OW} (ho : ∀ b, Own G ow b → b ∈ fp ∨ w0.heap.size ≤ b) : Laid L (Own G ow) w.heap := fun p hp => by
  obtain ⟨h1, h2⟩ := hE.laid p hp
  have hlt := (Array.getElem?_eq_some_iff.1 h2).1
  refine ⟨fun h => ?_, by rw [hk.heap p.1 hlt h1]; exact h2⟩
  rcases ho _ h with h | h
  · exact h1 h
  · omega

theorem opd_rho {G : Gh} {ow : OW} {w : World} {sl : List SV} {a : Act} (hs : Svs F G ow w.heap sl a.tmps.toList) : Rho F G ow w.heap (opd sl) a.eval := by
  intro x
  cases x with
  | tmp t =>
    show Sv F G ow w.heap (match sl[t]? with | some s => s | none => .dead) (a.tmps.getD t undef)
    split
    · rename_i s h
      obtain ⟨hlt, rfl⟩ := List.getElem?_eq_some_iff.1 h
      have hlt2 : t < a.tmps.toList.length := by rw [← hs.1]; exact hlt
      have e : a.tmps.getD t undef = a.tmps.toList[t] := by
        have : t < a.tmps.size := by simpa using hlt2
        simp [Array.getD, this]
      rw [e]
      exact hs.2 t hlt hlt2
    · exact .dead _
  | const v => exact ofVal_sound 4 v
  | global g => exact .dead _
  | func f => exact .fn (a := []) (b := []) (xs := []) (ys := []) rfl rfl (fun i h => by simp at h) (fun i h => by simp at h)

theorem put_svs {G : Gh} {ow : OW} {w : World} {sl : List SV} {a : Act} (hs : Svs F G ow w.heap sl a.tmps.toList) {s : SV} {v : Value} (hv : Sv F G ow w.heap s v) (d : Option Tmp) : Svs F G ow w.heap (setSl sl d s) (a.put d v).tmps.toList := by
  cases d with
  | none => exact hs
  | some d =>
    refine ⟨by simp [setSl, Act.put, hs.1], fun i h1 h2 => ?_⟩
    simp only [setSl, Act.put, Array.toList_setIfInBounds] at h1 h2 ⊢
    by_cases e : d = i
    · subst e
      simp only [List.getElem_set_self]
      exact hv
    · simp only [List.getElem_set_ne e]
      exact hs.2 i (by simpa using h1) (by simpa using h2)

theorem put_args {a : Act} {d : Option Tmp} {v : Value} (h : ∀ i, i < vs.length → fr i = false → a.tmps[i]? = vs[i]?) (hd : ∀ x, d = some x → fr x = true) : ∀ i, i < vs.length → fr i = false → (a.put d v).tmps[i]? = vs[i]? := by
  intro i hi hf
  cases d with
  | none => exact h i hi hf
  | some d =>
    have := hd d rfl
    simp only [Act.put]
    rw [Array.getElem?_setIfInBounds_ne (fun e => by rw [e] at this; rw [this] at hf; cases hf)]
    exact h i hi hf

theorem put_size (a : Act) (d : Option Tmp) (v : Value) : (a.put d v).tmps.size = a.tmps.size := by cases d <;> simp [Act.put]

theorem put_defers (a : Act) (d : Option Tmp) (v : Value) : (a.put d v).defers = a.defers := by cases d <;> rfl

/-- Behind an operation. -/
theorem StI.op (hE : Env F fp L w0) {st : St} {a : Act} {w : World} (h : StI nt fr F fp w0 vs st a w) {G : Gh} (hs : Svs F G st.ow w.heap st.sl a.tmps.toList) (ho : ∀ b, Own G st.ow b → b ∈ fp ∨ w0.heap.size ≤ b)
    {G' : Gh} {ow' : OW} {w' : World} (ht : Tr F G st.ow w G' ow' w') {s : SV} {v : Value} (hv : Sv F G' ow' w'.heap s v) {d : Option Tmp} (hd : ∀ x, d = some x → fr x = true) : StI nt fr F fp w0 vs ⟨setSl st.sl d s, ow'⟩ (a.put d v) w' := by
  refine ⟨⟨G', put_svs ⟨hs.1, fun i h1 h2 => ht.sv _ _ (hs.2 i h1 h2)⟩ hv d, ht.hrep, fun b hb => ?_⟩, h.kept.trans ht.kept ho, by rw [put_defers]; exact h.defers, put_args h.args hd, by rw [put_size]; exact h.size⟩
  rcases ht.own b hb with h1 | h1
  · exact ho b h1
  · exact .inr (Nat.le_trans h.kept.size h1)

theorem StI.slot {st : St} {a : Act} {w : World} (h : StI nt fr F fp w0 vs st a w) {s : SV} {v : Value} (hv : ∀ G, Sv F G st.ow w.heap s v) {d : Option Tmp} (hd : ∀ x, d = some x → fr x = true) : StI nt fr F fp w0 vs ⟨setSl st.sl d s, st.ow⟩ (a.put d v) w := by
  obtain ⟨G, h1, h2, h3⟩ := h.ex
  exact ⟨⟨G, put_svs h1 (hv G) d, h2, h3⟩, h.kept, by rw [put_defers]; exact h.defers, put_args h.args hd, by rw [put_size]; exact h.size⟩

theorem sv_undef {G : Gh} {ow : OW} {h : Array Obj} : Sv F G ow h (.tup []) undef := .tup (l := []) (vs := []) rfl (fun i h => by simp at h)

theorem wants_sound {G : Gh} {ow : OW} {w : World} {sl : List SV} {a : Act} (hs : Svs F G ow w.heap sl a.tmps.toList) {ops : Array Oper} {o : Oper} {b : Bool} (h : wants ops o sl = some b) : Region.wanted o (yielded ops a.tmps) = b := by
  unfold wants at h
  unfold Region.wanted
  split at h
  · rename_i hg
    rw [hg]
    exact Option.some.inj h
  · rename_i j want hg
    rw [hg]
    simp only
    unfold yielded
    split at h
    · rename_i hd
      cases h
      rw [hd]; rfl
    · rename_i g hd
      rw [hd]
      simp only [Option.bind_some]
      split at h
      · rename_i t hsl
        cases h
        obtain ⟨hlt, e⟩ := List.getElem?_eq_some_iff.1 hsl
        have hlt2 : g < a.tmps.toList.length := by rw [← hs.1]; exact hlt
        have := hs.2 g hlt hlt2
        rw [e] at this
        have hv := this.lb_inv
        have : a.tmps[g]? = some (.bool t) := by rw [← hv]; simp [show g < a.tmps.size by simpa using hlt2]
        rw [this]
        cases t <;> cases want <;> rfl
      · rename_i hsl
        cases h
        obtain ⟨hlt, e⟩ := List.getElem?_eq_some_iff.1 hsl
        have hlt2 : g < a.tmps.toList.length := by rw [← hs.1]; exact hlt
        have := hs.2 g hlt hlt2
        rw [e] at this
        obtain ⟨us, hv, hus⟩ := this.tup_inv
        have : us = [] := List.eq_nil_of_length_eq_zero hus.1.symm
        subst this
        have : a.tmps[g]? = some (.tuple #[]) := by rw [← hv]; simp [show g < a.tmps.size by simpa using hlt2]
        rw [this]
        cases want <;> rfl
      · cases h

theorem split_sound {α : Type} {n : Nat} {G : Gh} {ow : OW} {w : World} {src : Bool} {s : SV} {v : Value} (hv : Sv F G ow w.heap s v) {k : SV → Option α} {r : α} (h : split n src s k = some r) : ∃ s', k s' = some r ∧ Sv F G ow w.heap s' v := by
  unfold split at h
  split at h
  · split at h
    · rename_i b
      rw [hv.bool_inv]
      rw [br_eq] at h
      cases b
      · exact ⟨_, h, .lb _⟩
      · exact ⟨_, h, .lb _⟩
    · exact ⟨_, h, hv⟩
  · exact ⟨_, h, hv⟩

theorem evOps_sound {α : Type} (hC : C.Holds L) (hE : Env F fp L w0) {ops : Array Oper} {Q : Exit → Act → World → Prop} {k : St → Option α} {r : α}
    (hk : ∀ st' a' w', k st' = some r → StI nt fr F fp w0 vs st' a' w' → Q .normal a' w') :
    (l : List (Oper × Nat)) → (∀ p ∈ l, ops[p.2]? = some p.1 ∧ ∀ d, p.1.dst = some d → fr d = true) → {st : St} → {a : Act} → {w : World} → StI nt fr F fp w0 vs st a w → evOps C ops l st k = some r → wpOps C.P ops Q (l.map (·.2)) a w
  | [], _, st, a, w, h, e => hk _ _ _ e h
  | (o, i) :: l, hl, st, a, w, h, e => by
    obtain ⟨ho, hd⟩ := hl (o, i) (by simp)
    have hl' : ∀ p ∈ l, ops[p.2]? = some p.1 ∧ ∀ d, p.1.dst = some d → fr d = true := fun p hp => hl p (by simp [hp])
    obtain ⟨G, hs, hh, hown⟩ := h.ex
    unfold evOps at e
    simp only [List.map_cons, wpOps]
    rw [ho]
    simp only
    split at e
    · cases e
    · rename_i hw
      rw [wants_sound hs hw]
      exact evOps_sound hC hE hk l hl' (h.slot (fun _ => sv_undef) hd) e
    · rename_i hw
      rw [wants_sound hs hw]
      simp only [if_true]
      left
      have hcan := Cmd.can_of_run _ e
      have hop := evOp_sound hC rfl hh (hE.wideAt h.kept) (hE.laidAt h.kept hown) (opd_rho hs) hcan
      refine OpR.wp ?_
      have conv : ∀ v w', (∃ s ow' G', (split C.fuel (isSrc ops i) s fun s' => evOps C ops l ⟨setSl st.sl o.dst s', ow'⟩ k) = some r ∧ Tr F G st.ow w G' ow' w' ∧ Sv F G' ow' w'.heap s v) → wpOps C.P ops Q (l.map (·.2)) (a.put o.dst v) w' := by
        rintro v w' ⟨s, ow', G', hq, ht, hv⟩
        obtain ⟨s', hq, hv⟩ := split_sound hv hq
        exact evOps_sound hC hE hk l hl' (h.op hE hs hown ht hv hd) hq
      rcases hop with ⟨v, w', h1, h2⟩ | ⟨w', h1, h2⟩ | ⟨f, args, h1, h2⟩
      · exact .inl ⟨v, w', h1, conv v w' h2⟩
      · exact .inr (.inl ⟨w', h1, conv undef w' h2⟩)
      · exact .inr (.inr ⟨f, args, h1, h2.mono fun e w' ⟨v, h3, h4⟩ => ⟨v, h3, conv v w' h4⟩⟩)

/-- Regions joined at their end: only slots change. -/
theorem evJs_sound {α : Type} (hC : C.Holds L) (hE : Env F fp L w0) {ops : Array Oper} {Q : Exit → Act → World → Prop} {ow : OW} {k : List SV → Option α} {r : α}
    {sl0 : List SV} {D : Nat → Prop}
    (hk : ∀ sl' a' w', k sl' = some r → StI nt fr F fp w0 vs ⟨sl', ow⟩ a' w' → (∀ d, ¬ D d → sl'[d]? = sl0[d]?) → Q .normal a' w') :
    (l : List (Oper × Nat)) → (∀ p ∈ l, ops[p.2]? = some p.1 ∧ ∀ d, p.1.dst = some d → fr d = true ∧ D d) → {sl : List SV} → {a : Act} → {w : World} → StI nt fr F fp w0 vs ⟨sl, ow⟩ a w → (∀ d, ¬ D d → sl[d]? = sl0[d]?) → evJs C ops ow l sl k = some r → wpOps C.P ops Q (l.map (·.2)) a w
  | [], _, sl, a, w, h, hag, e => hk _ _ _ e h hag
  | (o, i) :: l, hl, sl, a, w, h, hag, e => by
    obtain ⟨ho, hdD⟩ := hl (o, i) (by simp)
    have hd : ∀ d, o.dst = some d → fr d = true := fun d hx => (hdD d hx).1
    have hag' : ∀ s d, ¬ D d → (setSl sl o.dst s)[d]? = sl0[d]? := by
      intro s d hnd
      cases hx : o.dst with
      | none => exact hag d hnd
      | some x =>
        have : x ≠ d := fun e => hnd (e ▸ (hdD x hx).2)
        simp only [setSl]
        rw [List.getElem?_set_ne this]
        exact hag d hnd
    have hl' : ∀ p ∈ l, ops[p.2]? = some p.1 ∧ ∀ d, p.1.dst = some d → fr d = true ∧ D d := fun p hp => hl p (by simp [hp])
    obtain ⟨G, hs, hh, hown⟩ := h.ex
    unfold evJs at e
    simp only [List.map_cons, wpOps]
    rw [ho]
    simp only
    split at e
    · cases e
    · rename_i hw
      rw [wants_sound hs hw]
      exact evJs_sound hC hE hk l hl' (h.slot (fun _ => sv_undef) hd) (hag' _) e
    · rename_i hw
      rw [wants_sound hs hw]
      simp only [if_true]
      left
      have hcan := Cmd.can_of_run _ e
      have hop := evJ_sound hC rfl hh (hE.wideAt h.kept) (hE.laidAt h.kept hown) (opd_rho hs) hcan
      refine OpR.wp ?_
      have conv : ∀ v w', (∃ s, (split C.fuel (isSrc ops i) s fun s' => evJs C ops ow l (setSl sl o.dst s') k) = some r ∧ Tr F G ow w G ow w' ∧ Sv F G ow w'.heap s v) → wpOps C.P ops Q (l.map (·.2)) (a.put o.dst v) w' := by
        rintro v w' ⟨s, hq, ht, hv⟩
        obtain ⟨s', hq, hv⟩ := split_sound hv hq
        exact evJs_sound hC hE hk l hl' (h.op hE hs hown ht hv hd) (hag' _) hq
      rcases hop with ⟨v, w', h1, h2⟩ | ⟨w', h1, h2⟩ | ⟨f, args, h1, h2⟩
      · exact .inl ⟨v, w', h1, conv v w' h2⟩
      · exact .inr (.inl ⟨w', h1, conv undef w' h2⟩)
      · exact .inr (.inr ⟨f, args, h1, h2.mono fun e w' ⟨v, h3, h4⟩ => ⟨v, h3, conv v w' h4⟩⟩)

theorem region_list (ops : Array Oper) {fr : Nat → Bool} (h : (ops.toList.all fun o => match o.dst with | some d => fr d | none => true) = true) :
    (∀ p ∈ ops.toList.zipIdx, ops[p.2]? = some p.1 ∧ ∀ d, p.1.dst = some d → fr d = true) ∧ ops.toList.zipIdx.map (·.2) = List.range ops.size := by
  refine ⟨fun p hp => ?_, by simp [List.range_eq_range']⟩
  have h1 := List.mem_zipIdx' hp
  refine ⟨by have := h1.2; rw [this]; simp [show p.2 < ops.size by simpa using h1.1], fun d hd => ?_⟩
  have h2 := List.all_eq_true.1 h p.1 (by rw [h1.2]; exact List.getElem_mem _)
  rw [hd] at h2
  simpa using h2

end
end Go.Pev
end

section
/-
  PEV, part 20: states made anew, loops, code.
-/
namespace Go.Pev

section
variable {F : Nat → Prop} {G : Gh} {w : World}

/-- One slot more. -/
theorem add_slot {st : St} {f1 : List Nat} (hh : HRep (FP F f1) G st.ow w.heap) {tmps : List Value} (hs : Svs (FP F f1) G st.ow w.heap st.sl tmps) {sh : Sh} {x : sh.T} {v : Value} (e : ShR w.heap (okF (FP F f1) G st.ow) sh x [v] f1) (hnd : f1.Nodup) (hF : ∀ b ∈ f1, ¬ F b)
    {s : Nat} (hem : st.ow[s]? = some []) (hv : tmps[s]? = some v) :
    ∃ G', HRep F G' (st.ow.set s ((unpk s sh x 0).2.map some)) w.heap ∧ Svs F G' (st.ow.set s ((unpk s sh x 0).2.map some)) w.heap (st.sl.set s ((unpk s sh x 0).1.headD .dead)) tmps ∧
      ∀ b, Own G' (st.ow.set s ((unpk s sh x 0).2.map some)) b ↔ Own G st.ow b ∨ b ∈ f1 := by
  have hn : newObs st.ow s (unpk s sh x 0).2 = some (st.ow.set s ((unpk s sh x 0).2.map some)) := by
    unfold newObs
    split
    · rename_i h
      rw [h]
      congr 1
      apply List.ext_getElem?
      intro i
      by_cases hi : s = i
      · subst hi
        rw [List.getElem?_set_self (List.getElem?_eq_some_iff.1 hem).1, hem]
        rfl
      · rw [List.getElem?_set_ne hi]
    · rw [hem]
  obtain ⟨G', h1, h2, h3, h4, _⟩ := state_new hh e hnd hF hn
  refine ⟨G', h1, ⟨by simp [hs.1], fun i i1 i2 => ?_⟩, h4⟩
  obtain ⟨u, hu, hsv⟩ := h2.single
  have hsv : Sv F G' (st.ow.set s ((unpk s sh x 0).2.map some)) w.heap ((unpk s sh x 0).1.headD .dead) v := by rw [hu]; exact hsv
  by_cases hi : s = i
  · subst hi
    rw [List.getElem_set_self]
    rw [List.getElem?_eq_getElem i2] at hv
    rw [Option.some.inj hv]
    exact hsv
  · rw [List.getElem_set_ne hi]
    exact h3 _ _ (hs.2 i (by simpa using i1) i2)

theorem empty_state (F : Nat → Prop) (w : World) (nt : Nat) {tmps : List Value} (hl : tmps.length = nt) :
    HRep F (fun _ _ _ => none) (List.replicate nt []) w.heap ∧ Svs F (fun _ _ _ => none) (List.replicate nt []) w.heap (List.replicate nt SV.dead) tmps ∧ ∀ b, ¬ Own (fun _ _ _ => none) (List.replicate nt []) b := by
  refine ⟨⟨fun d j o hn => ?_, fun d j i d' j' i' b o o' _ _ hg _ => (by cases hg), fun b hb => ?_⟩, ⟨by simp [hl], fun i h1 h2 => by simp only [List.getElem_replicate]; exact .dead _⟩, fun b hb => ?_⟩
  · unfold nameOf at hn
    cases h : (List.replicate nt ([] : List (Option OB)))[d]? with
    | none => rw [h] at hn; cases hn
    | some l =>
      rw [h] at hn
      have : l = [] := by
        obtain ⟨h1, h2⟩ := List.getElem?_eq_some_iff.1 h
        simpa using h2.symm
      subst this
      simp at hn
  · obtain ⟨_, _, _, _, _, hg⟩ := own_iff.1 hb; cases hg
  · obtain ⟨_, _, _, _, _, hg⟩ := own_iff.1 hb; cases hg

theorem mkSt_sound {nt : Nat} {tmps : List Value} (hl : tmps.length = nt) {ok0 : Nat → Prop} : (l : List (Nat × Sh)) → okLive nt l = true → {F : Nat → Prop} → {x : (slotsSh l).T} → {fp : List Nat} →
    ShR w.heap ok0 (slotsSh l) x (l.map fun p => tmps.getD p.1 undef) fp → fp.Nodup → (∀ b ∈ fp, ¬ F b) → (∀ b, ok0 b → ¬ F b ∧ b ∉ fp) →
    ∃ G, HRep F G (mkSt nt l x).ow w.heap ∧ Svs F G (mkSt nt l x).ow w.heap (mkSt nt l x).sl tmps ∧ (∀ b, Own G (mkSt nt l x).ow b ↔ b ∈ fp) ∧ ∀ d, d < nt → d ∉ l.map (·.1) → (mkSt nt l x).ow[d]? = some []
  | [], _, F, x, fp, e, _, _, _ => by
    obtain ⟨h1, h2, h3⟩ := empty_state F w nt hl
    obtain ⟨_, rfl⟩ := e
    exact ⟨_, h1, h2, fun b => ⟨fun h => absurd h (h3 b), fun h => by simp at h⟩, fun d hd _ => by simp [mkSt, hd]⟩
  | (s, sh) :: r, hlv, F, x, fp, e, hnd, hF, hok => by
    simp only [okLive, Bool.and_eq_true, decide_eq_true_eq, Bool.not_eq_true'] at hlv
    obtain ⟨⟨hs, hsr⟩, hr⟩ := hlv
    obtain ⟨v, r', f1, f2, h1, rfl, e1, e2⟩ := e
    simp only [List.map_cons, List.cons.injEq] at h1
    obtain ⟨rfl, rfl⟩ := h1
    rw [List.nodup_append] at hnd
    obtain ⟨G, g1, g2, g3, g4⟩ := mkSt_sound hl r hr (F := FP F f1) (x := x.2) e2 hnd.2.1
      (fun b hb hx => by
        rcases hx with hx | hx
        · exact hF b (List.mem_append.2 (.inr hb)) hx
        · exact hnd.2.2 b hx b hb rfl)
      (fun b hb => by
        obtain ⟨a1, a2⟩ := hok b hb
        exact ⟨fun hx => by
          rcases hx with hx | hx
          · exact a1 hx
          · exact a2 (List.mem_append.2 (.inl hx)), fun hx => a2 (List.mem_append.2 (.inr hx))⟩)
    have hsr' : s ∉ r.map (·.1) := by simpa using hsr
    have hv : tmps[s]? = some (tmps.getD s undef) := by simp [List.getD, show s < tmps.length by omega]
    obtain ⟨G', q1, q2, q3⟩ := add_slot (st := mkSt nt r x.2) g1 g2 (ShR.mono (fun b rr hb hrr => ⟨⟨fun hx => by
      obtain ⟨a1, a2⟩ := hok b hb
      rcases hx with hx | hx
      · exact a1 hx
      · exact a2 (List.mem_append.2 (.inl hx)), fun hx => (hok b hb).2 (List.mem_append.2 (.inr ((g3 b).1 hx)))⟩, hrr⟩) sh (fun _ _ => rfl) e1) hnd.1 (fun b hb => hF b (List.mem_append.2 (.inl hb))) (g4 s hs hsr') hv
    refine ⟨G', q1, q2, fun b => ?_, fun d hd hdn => ?_⟩
    · rw [show Own G' (mkSt nt ((s, sh) :: r) x).ow b ↔ _ from q3 b, g3 b, List.mem_append]
      exact Or.comm
    · simp only [List.map_cons, List.mem_cons, not_or] at hdn
      show ((mkSt nt r x.2).ow.set s _)[d]? = some []
      rw [List.getElem?_set_ne (Ne.symm hdn.1)]
      exact g4 d hd hdn.2

theorem mkArg_sound {nt : Nat} {tmps : List Value} (hl : tmps.length = nt) {ok0 : Nat → Prop} : (s : Sh) → s.chain = true → (i : Nat) → i + s.len ≤ nt → {F : Nat → Prop} → {x : s.T} → {vs : List Value} → {fp : List Nat} →
    ShR w.heap ok0 s x vs fp → (∀ j, j < vs.length → tmps[i + j]? = vs[j]?) → fp.Nodup → (∀ b ∈ fp, ¬ F b) → (∀ b, ok0 b → ¬ F b ∧ b ∉ fp) →
    ∃ G, HRep F G (mkArg nt s x i).ow w.heap ∧ Svs F G (mkArg nt s x i).ow w.heap (mkArg nt s x i).sl tmps ∧ (∀ b, Own G (mkArg nt s x i).ow b ↔ b ∈ fp) ∧ ∀ d, d < i → d < nt → (mkArg nt s x i).ow[d]? = some []
  | .nil, _, i, _, F, x, vs, fp, e, _, _, _, _ => by
    obtain ⟨h1, h2, h3⟩ := empty_state F w nt hl
    obtain ⟨_, rfl⟩ := e
    exact ⟨_, h1, h2, fun b => ⟨fun h => absurd h (h3 b), fun h => by simp at h⟩, fun d _ hd => by simp [mkArg, hd]⟩
  | .cons sh b, hc, i, hi, F, x, vs, fp, e, hv, hnd, hF, hok => by
    obtain ⟨v, r', f1, f2, rfl, rfl, e1, e2⟩ := e
    simp only [Sh.len] at hi
    rw [List.nodup_append] at hnd
    obtain ⟨G, g1, g2, g3, g4⟩ := mkArg_sound hl b (by simpa [Sh.chain] using hc) (i + 1) (by omega) (F := FP F f1) (x := x.2) e2
      (fun j hj => by have := hv (j + 1) (by simpa using hj); rw [show i + (j + 1) = i + 1 + j by omega] at this; simpa using this) hnd.2.1
      (fun b hb hx => by
        rcases hx with hx | hx
        · exact hF b (List.mem_append.2 (.inr hb)) hx
        · exact hnd.2.2 b hx b hb rfl)
      (fun b hb => by
        obtain ⟨a1, a2⟩ := hok b hb
        exact ⟨fun hx => by
          rcases hx with hx | hx
          · exact a1 hx
          · exact a2 (List.mem_append.2 (.inl hx)), fun hx => a2 (List.mem_append.2 (.inr hx))⟩)
    have hv0 : tmps[i]? = some v := by have := hv 0 (by simp); simpa using this
    obtain ⟨G', q1, q2, q3⟩ := add_slot (st := mkArg nt b x.2 (i + 1)) g1 g2 (ShR.mono (fun b rr hb hrr => ⟨⟨fun hx => by
      obtain ⟨a1, a2⟩ := hok b hb
      rcases hx with hx | hx
      · exact a1 hx
      · exact a2 (List.mem_append.2 (.inl hx)), fun hx => (hok b hb).2 (List.mem_append.2 (.inr ((g3 b).1 hx)))⟩, hrr⟩) sh (fun _ _ => rfl) e1) hnd.1 (fun b hb => hF b (List.mem_append.2 (.inl hb))) (g4 i (by omega) (by omega)) hv0
    refine ⟨G', q1, q2, fun b' => ?_, fun d hd hdn => ?_⟩
    · rw [show Own G' (mkArg nt (.cons sh b) x i).ow b' ↔ _ from q3 b', g3 b', List.mem_append]
      exact Or.comm
    · show ((mkArg nt b x.2 (i + 1)).ow.set i _)[d]? = some []
      rw [List.getElem?_set_ne (by omega)]
      exact g4 d (by omega) hdn
  | .pur _, hc, _, _, _, _, _, _, _, _, _, _, _ => by simp [Sh.chain] at hc
  | .own _, hc, _, _, _, _, _, _, _, _, _, _, _ => by simp [Sh.chain] at hc
  | .row _, hc, _, _, _, _, _, _, _, _, _, _, _ => by simp [Sh.chain] at hc
  | .box _, hc, _, _, _, _, _, _, _, _, _, _, _ => by simp [Sh.chain] at hc
  | .agg _, hc, _, _, _, _, _, _, _, _, _, _, _ => by simp [Sh.chain] at hc
  | .fn _ _ _, hc, _, _, _, _, _, _, _, _, _, _, _ => by simp [Sh.chain] at hc
  | .ign, hc, _, _, _, _, _, _, _, _, _, _, _ => by simp [Sh.chain] at hc
  | .nl, hc, _, _, _, _, _, _, _, _, _, _, _ => by simp [Sh.chain] at hc

end

section
variable {F : Nat → Prop} {fp : List Nat} {L : List (Nat × Obj)} {w0 : World} {vs : List Value} {C : Ctx} {nt : Nat} {fr : Nat → Bool}

/-- At a loop's head. -/
theorem repack (hE : Env F fp L w0) {live : List (Nat × Sh)} (hlv : okLive nt live = true) {st : St} {a : Act} {w : World} (h : StI nt fr F fp w0 vs st a w) {y : (slotsSh live).T × OW} (e : pk (slotsSh live) (live.map fun p => opd st.sl (.tmp p.1)) st.ow = some y) :
    StI nt fr F fp w0 vs (mkSt nt live y.1) a w := by
  obtain ⟨G, hs, hh, hown⟩ := h.ex
  have hρ := opd_rho hs
  have hargs : Svs F G st.ow w.heap (live.map fun p => opd st.sl (.tmp p.1)) (live.map fun p => a.tmps.toList.getD p.1 undef) := by
    refine ⟨by simp, fun i h1 h2 => ?_⟩
    simp only [List.getElem_map]
    have := hρ (.tmp (live[i]'(by simpa using h1)).1)
    simpa [Act.eval] using this
  obtain ⟨f, hT, hO, hnd, hrep⟩ := pk_sound (slotsSh live) (x := y.1) (ow1 := y.2) (hE.wideAt h.kept) hh hargs e
  obtain ⟨G', g1, g2, g3, _⟩ := mkSt_sound (nt := nt) (tmps := a.tmps.toList) (by simpa using h.size) live hlv (F := F) hrep hnd (fun b hb => hh.notF b (hO.own hb)) (fun b hb => ⟨fun hx => hb.1 (.inl hx), fun hx => hb.1 (.inr hx)⟩)
  exact ⟨⟨G', g2, g1, fun b hb => hown b (hO.own ((g3 b).1 hb))⟩, h.kept, h.defers, h.args, h.size⟩

/-- What is left to do, as a postcondition. -/
def QK {α : Type} (nt : Nat) (fr : Nat → Bool) (F : Nat → Prop) (fp : List Nat) (w0 : World) (vs : List Value) (K : Ks α) (r : α) : Exit → Act → World → Prop
  | .normal, a, w => ∃ st, StI nt fr F fp w0 vs st a w ∧ K.normal st = some r
  | .exit i, a, w => ∃ st, StI nt fr F fp w0 vs st a w ∧ K.exit i st = some r
  | .ret, a, w => ∃ st, StI nt fr F fp w0 vs st a w ∧ K.ret st = some r
  | _, _, _ => False

theorem evLoop_sound {α : Type} (hE : Env F fp L w0) {P : Program} {live : List (Nat × Sh)} (hlv : okLive nt live = true) {c : Code} {K : Ks α} {r : α} {ev : St → (St → Option α) → Option α}
    (hbody : ∀ k st a w, ev st k = some r → StI nt fr F fp w0 vs st a w → c.wp P (QK nt fr F fp w0 vs { K with normal := k } r) a w) :
    (n : Nat) → {x : (slotsSh live).T} → {a : Act} → {w : World} → evLoop nt live ev n x = some r → StI nt fr F fp w0 vs (mkSt nt live x) a w → Code.rounds P c (QK nt fr F fp w0 vs K r) n a w
  | 0, _, _, _, e, _ => by cases e
  | n + 1, x, a, w, e, h => by
    rw [rounds_succ]
    refine wp_mono (hbody _ _ _ _ e h) fun ex a' w' hq => ?_
    cases ex with
    | normal =>
      obtain ⟨st, h1, h2⟩ := hq
      dsimp only at h2
      split at h2
      · rename_i y hy
        exact evLoop_sound hE hlv hbody n h2 (repack hE hlv h1 hy)
      · cases h2
    | exit i => exact hq
    | ret => exact hq
    | _ => exact hq.elim

end
end Go.Pev
end

section
/-
  PEV, part 21: code and functions.
-/
set_option linter.unusedVariables false
set_option linter.unusedSimpArgs false
namespace Go.Pev

section
variable {F : Nat → Prop} {fp : List Nat} {L : List (Nat × Obj)} {w0 : World} {vs : List Value} {C : Ctx} {nt : Nat} {fr : Nat → Bool}

/-! ### Regions joined -/

theorem joinLeaf_sound {G : Gh} {ow : OW} {w : World} {k : Kd} {s : SV} {v : Value} (hs : Sv F G ow w.heap s v) {x : k.T} (e : joinLeaf k s = some x) : Sv F G ow w.heap (.v k x) v := by
  unfold joinLeaf at e
  split at e
  · split at e
    · rename_i hk
      subst hk
      have e := Option.some.inj e
      subst e
      exact hs
    · cases e
  · split at e
    · cases e
      rw [hs.lb_inv]
      exact .bool _
    · cases e
  · split at e
    · cases e
      cases hs
      exact .v rfl ⟨none, 0, rfl, Nat.le_refl _, .inl rfl⟩
    · cases e
  · cases e

theorem keptSl_sound {G : Gh} {ow : OW} {w : World} {sl sl0 : List SV} {tmps : List Value} (hs : Svs F G ow w.heap sl tmps) (h0 : Svs F G ow w.heap sl0 tmps) : (l : List (Nat × Kd)) → {p : keptT l} → packKept l sl = some p → Svs F G ow w.heap (keptSl l p sl0) tmps
  | [], _, _ => h0
  | (d, k) :: r, p, e => by
    simp only [packKept] at e
    split at e
    · rename_i x hx
      split at e
      · rename_i y hy
        cases e
        have ih := keptSl_sound hs h0 r hy
        refine ⟨by simp [keptSl, ih.1], fun i h1 h2 => ?_⟩
        simp only [keptSl] at h1 ⊢
        by_cases hd : d = i
        · subst hd
          simp only [List.getElem_set_self]
          have hlt : d < sl.length := by rw [hs.1]; exact h2
          have e1 : opd sl (.tmp d) = sl[d] := by simp [opd, hlt]
          rw [e1] at hx
          exact joinLeaf_sound (hs.2 d hlt h2) hx
        · simp only [List.getElem_set_ne hd]
          exact ih.2 i (by simpa using h1) h2
      · cases e
    · cases e

theorem foldl_dead (ops : List Oper) : (sl : List SV) → (ops.foldl (fun sl o => setSl sl o.dst .dead) sl).length = sl.length ∧ ∀ d, (∃ o ∈ ops, o.dst = some d) ∧ (∀ (h : d < (ops.foldl (fun sl o => setSl sl o.dst .dead) sl).length), (ops.foldl (fun sl o => setSl sl o.dst .dead) sl)[d] = .dead) ∨
    (¬ ∃ o ∈ ops, o.dst = some d) ∧ (ops.foldl (fun sl o => setSl sl o.dst .dead) sl)[d]? = sl[d]? := by
  induction ops with
  | nil => intro sl; exact ⟨rfl, fun d => .inr ⟨by simp, rfl⟩⟩
  | cons o ops ih =>
    intro sl
    obtain ⟨h1, h2⟩ := ih (setSl sl o.dst .dead)
    have hlen : (setSl sl o.dst .dead).length = sl.length := by cases hd : o.dst <;> simp [setSl]
    refine ⟨by simp only [List.foldl_cons]; rw [h1, hlen], fun d => ?_⟩
    simp only [List.foldl_cons]
    rcases h2 d with ⟨⟨o', ho', hd'⟩, h3⟩ | ⟨hn, h3⟩
    · exact .inl ⟨⟨o', by simp [ho'], hd'⟩, h3⟩
    · by_cases hd : o.dst = some d
      · refine .inl ⟨⟨o, by simp, hd⟩, fun h => ?_⟩
        have : (ops.foldl (fun sl o => setSl sl o.dst .dead) (setSl sl o.dst .dead))[d]? = some .dead := by
          rw [h3, hd]
          simp only [setSl]
          rw [List.getElem?_set_self (by rw [h1, hlen] at h; exact h)]
        rw [List.getElem?_eq_getElem h] at this
        exact Option.some.inj this
      · refine .inr ⟨?_, ?_⟩
        · rintro ⟨o', ho', hd'⟩
          rcases List.mem_cons.1 ho' with rfl | ho'
          · exact hd hd'
          · exact hn ⟨o', ho', hd'⟩
        · rw [h3]
          cases hx : o.dst with
          | none => rfl
          | some x =>
            simp only [setSl]
            rw [List.getElem?_set_ne (fun e => hd (by rw [hx, e]))]

/-- The slots behind a joined region. -/
theorem joined_state {ops : Array Oper} {st : St} {sl' : List SV} {a' : Act} {w' : World} (h : StI nt fr F fp w0 vs ⟨sl', st.ow⟩ a' w') (hag : ∀ d, ¬ (∃ o ∈ ops.toList, o.dst = some d) → sl'[d]? = st.sl[d]?) (hlen : st.sl.length = nt) {kept : List (Nat × Kd)} {p : keptT kept} (e : packKept kept sl' = some p) :
    StI nt fr F fp w0 vs ⟨keptSl kept p (ops.toList.foldl (fun sl o => setSl sl o.dst .dead) st.sl), st.ow⟩ a' w' := by
  obtain ⟨G, hs, hh, hown⟩ := h.ex
  obtain ⟨f1, f2⟩ := foldl_dead ops.toList st.sl
  have h0 : Svs F G st.ow w'.heap (ops.toList.foldl (fun sl o => setSl sl o.dst .dead) st.sl) a'.tmps.toList := by
    refine ⟨by rw [f1, hlen]; simp [h.size], fun i h1 h2 => ?_⟩
    rcases f2 i with ⟨_, h3⟩ | ⟨hn, h3⟩
    · rw [h3 h1]; exact .dead _
    · have h4 : i < sl'.length := by rw [hs.1]; exact h2
      rw [← hag i hn, List.getElem?_eq_getElem h1, List.getElem?_eq_getElem h4] at h3
      rw [Option.some.inj h3]
      exact hs.2 i h4 h2
  exact ⟨⟨G, keptSl_sound hs h0 kept e, hh, hown⟩, h.kept, h.defers, h.args, h.size⟩

theorem StI.len {st : St} {a : Act} {w : World} (h : StI nt fr F fp w0 vs st a w) : st.sl.length = nt := by
  obtain ⟨G, hs, _⟩ := h.ex
  rw [hs.1]; simpa using h.size

/-! ### Code -/

/-- Regions whose order is drawn. -/
def DrawSoundJ (C : Ctx) (L : List (Nat × Obj)) : Prop :=
  ∀ {α : Type} {nt : Nat} {fr : Nat → Bool} {F : Nat → Prop} {fp : List Nat} {w0 : World} {vs : List Value} {id : Nat} {ops : Array Oper} {st : St} {a : Act} {w : World} {k : List SV → Option α} {r : α}, Env F fp L w0 →
    (ops.toList.all fun o => match o.dst with | some d => fr d | none => true) = true → StI nt fr F fp w0 vs st a w → anyOk ops (apartSAt ops) = true →
    evJsA C ops st.ow ops.toList.zipIdx st.sl k = some r → ∀ Q : Exit → Act → World → Prop,
    (∀ sl' a' w', k sl' = some r → StI nt fr F fp w0 vs ⟨sl', st.ow⟩ a' w' → (∀ d, ¬ (∃ o ∈ ops.toList, o.dst = some d) → sl'[d]? = st.sl[d]?) → Q .normal a' w') → (Code.region id ops true).wp C.P Q a w

def DrawSoundM (C : Ctx) (L : List (Nat × Obj)) : Prop :=
  ∀ {α : Type} {nt : Nat} {fr : Nat → Bool} {F : Nat → Prop} {fp : List Nat} {w0 : World} {vs : List Value} {id : Nat} {ops : Array Oper} {ks : List (List Nat × Bool)} {st : St} {a : Act} {w : World} {k : St → Option α} {r : α}, Env F fp L w0 →
    (ops.toList.all fun o => match o.dst with | some d => fr d | none => true) = true → StI nt fr F fp w0 vs st a w → anyOk ops (apartM ops ks) = true →
    evOpsM C ops ks ops.toList.zipIdx st k = some r → ∀ Q : Exit → Act → World → Prop,
    (∀ st' a' w', k st' = some r → StI nt fr F fp w0 vs st' a' w' → Q .normal a' w') → (Code.region id ops true).wp C.P Q a w

def DrawSound (C : Ctx) (L : List (Nat × Obj)) : Prop := DrawSoundJ C L ∧ DrawSoundM C L

theorem evReg_sound {α : Type} (hC : C.Holds L) (hD : DrawSound C L) (hE : Env F fp L w0) (ann : Ann) {id : Nat} {ops : Array Oper} {draw : Bool} (hd : (ops.toList.all fun o => match o.dst with | some d => fr d | none => true) = true) {K : Ks α} {r : α} {st : St} {a : Act} {w : World}
    (e : evReg C ann id ops draw st K.normal = some r) (h : StI nt fr F fp w0 vs st a w) : (Code.region id ops draw).wp C.P (QK nt fr F fp w0 vs K r) a w := by
    obtain ⟨hl, hr⟩ := region_list ops hd
    unfold evReg at e
    split at e
    · rename_i id' kept _
      have fin : ∀ p, K.normal ⟨keptSl kept p (ops.toList.foldl (fun sl o => setSl sl o.dst .dead) st.sl), st.ow⟩ = some r → ∀ sl' a' w', packKept kept sl' = some p → StI nt fr F fp w0 vs ⟨sl', st.ow⟩ a' w' → (∀ d, ¬ (∃ o ∈ ops.toList, o.dst = some d) → sl'[d]? = st.sl[d]?) → QK nt fr F fp w0 vs K r .normal a' w' :=
        fun p e sl' a' w' h1 h2 h3 => ⟨_, joined_state h2 h3 h.len h1, e⟩
      cases draw with
      | true =>
        simp only [if_true] at e
        split at e
        · rename_i hdr
          rw [Option.bind_eq_some_iff] at e
          obtain ⟨p, hp, e⟩ := e
          exact hD.1 hE hd h hdr hp _ (fin p e)
        · cases e
      | false =>
        simp only [Bool.false_eq_true, if_false] at e
        rw [Option.bind_eq_some_iff] at e
        obtain ⟨p, hp, e⟩ := e
        refine wp_region ?_
        rw [← hr]
        refine evJs_sound (D := fun d => ∃ o ∈ ops.toList, o.dst = some d) (sl0 := st.sl) hC hE (fin p e) ops.toList.zipIdx (fun q hq => ⟨(hl q hq).1, fun d hx => ⟨(hl q hq).2 d hx, ?_⟩⟩) h (fun _ _ => rfl) hp
        have := List.mem_zipIdx' hq
        exact ⟨q.1, by rw [this.2]; exact List.getElem_mem _, hx⟩
    · cases draw with
      | true =>
        simp only [if_true] at e
        split at e
        · split at e
          · rename_i hdr
            exact hD.2 hE hd h hdr e _ fun st' a' w' h1 h2 => ⟨st', h2, h1⟩
          · cases e
        · split at e
          · rename_i hdr
            exact hD.1 hE hd h hdr e _ fun sl' a' w' h1 h2 _ => ⟨_, h2, h1⟩
          · cases e
      | false =>
        simp only [Bool.false_eq_true, if_false] at e
        refine wp_region ?_
        rw [← hr]
        exact evOps_sound hC hE (fun st' a' w' h1 h2 => ⟨st', h2, h1⟩) _ hl h e

theorem evCode_sound {α : Type} (hC : C.Holds L) (hD : DrawSound C L) (hE : Env F fp L w0) (ann : Ann) : (c : Code) → dstOk fr c = true → {bid : Nat} → {K : Ks α} → {r : α} → {st : St} → {a : Act} → {w : World} →
    evCode C ann nt c bid st K = some r → StI nt fr F fp w0 vs st a w → c.wp C.P (QK nt fr F fp w0 vs K r) a w
  | .skip, _, _, K, r, st, a, w, e, h => wp_skip ⟨st, h, by simpa [evCode] using e⟩
  | .exit id, _, _, K, r, st, a, w, e, h => wp_exit ⟨st, h, by simpa [evCode] using e⟩
  | .ret, _, _, K, r, st, a, w, e, h => wp_ret ⟨st, h, by simpa [evCode] using e⟩
  | .seq x y, hd, bid, K, r, st, a, w, e, h => by
    simp only [dstOk, Bool.and_eq_true] at hd
    simp only [evCode] at e
    refine wp_seq (wp_mono (evCode_sound hC hD hE ann x hd.1 e h) fun ex a' w' hq => ?_)
    cases ex with
    | normal => obtain ⟨st', h1, h2⟩ := hq; exact evCode_sound hC hD hE ann y hd.2 h2 h1
    | exit i => exact hq
    | ret => exact hq
    | _ => exact hq.elim
  | .cond o x y, hd, bid, K, r, st, a, w, e, h => by
    simp only [dstOk, Bool.and_eq_true] at hd
    simp only [evCode] at e
    obtain ⟨G, hs, hh, hown⟩ := h.ex
    have hρ := opd_rho hs o
    split at e
    · rename_i t ht
      rw [ht] at hρ
      refine wp_cond hρ.lb_inv ?_
      cases t with
      | true => exact evCode_sound hC hD hE ann x hd.1 e h
      | false => exact evCode_sound hC hD hE ann y hd.2 e h
    · rename_i t ht
      rw [ht] at hρ
      refine wp_cond hρ.bool_inv ?_
      rw [br_eq] at e
      cases t with
      | true => exact evCode_sound hC hD hE ann x hd.1 e h
      | false => exact evCode_sound hC hD hE ann y hd.2 e h
    · cases e
  | .block id x, hd, bid, K, r, st, a, w, e, h => by
    simp only [dstOk] at hd
    simp only [evCode] at e
    refine wp_block (wp_mono (evCode_sound hC hD hE ann x hd e h) fun ex a' w' hq => ?_)
    cases ex with
    | normal => exact hq
    | exit i =>
      obtain ⟨st', h1, h2⟩ := hq
      by_cases hi : i = id
      · subst hi
        simp only [beq_self_eq_true, if_true] at h2
        simp only [Exit.inBlock, if_true]
        exact ⟨st', h1, h2⟩
      · have hb : (i == id) = false := by simpa using hi
        simp only [hb, Bool.false_eq_true, if_false] at h2
        simp only [Exit.inBlock, hi, if_false]
        exact ⟨st', h1, h2⟩
    | ret => exact hq
    | _ => exact hq.elim
  | .loop x, hd, bid, K, r, st, a, w, e, h => by
    simp only [dstOk] at hd
    simp only [evCode] at e
    split at e
    · cases e
    · rename_i id live _
      split at e
      · rename_i hlv
        split at e
        · rename_i y hy
          exact wp_loop_rounds C.fuel (evLoop_sound hE hlv (fun k st a w e h => evCode_sound hC hD hE ann x hd e h) C.fuel e (repack hE hlv h hy))
        · cases e
      · cases e
  | .region id ops draw, hd, bid, K, r, st, a, w, e, h => by
    simp only [dstOk] at hd
    simp only [evCode] at e
    split at e
    · rename_i _ live _
      split at e
      · rename_i hlv
        split at e
        · rename_i y hy
          rw [jn_eq] at e
          exact evReg_sound hC hD hE ann hd e (repack hE hlv h hy)
        · cases e
      · cases e
    · exact evReg_sound hC hD hE ann hd e h
  | .label _, _, _, _, _, _, _, _, e, _ => by simp [evCode] at e
  | .goto _, _, _, _, _, _, _, _, e, _ => by simp [evCode] at e
  | .scope _, _, _, _, _, _, _, _, e, _ => by simp [evCode] at e
  | .rangeFunc _ _ _ _, _, _, _, _, _, _, _, e, _ => by simp [evCode] at e

/-! ### Functions -/

theorem outp_sound {w : World} {G : Gh} : (s : Sh) → {F : Nat → Prop} → {ow ow1 : OW} → (∀ b, F b → b < w.heap.size) → HRep F G ow w.heap → {svs : List SV} → {us : List Value} → Svs F G ow w.heap svs us → {x : s.Out} → outp s svs ow = some (x, ow1) →
    ∃ f, Taken ow ow1 ∧ FpOk G ow ow1 f ∧ f.Nodup ∧ OutR w.heap (okF (FP F f) G ow1) s x us f
  | .row k, F, ow, ow1, hF, hh, svs, us, hs, x, e => pk_sound (.row k) hF hh hs e
  | .box l, F, ow, ow1, hF, hh, svs, us, hs, x, e => pk_sound (.box l) hF hh hs e
  | .pur _, F, ow, ow1, hF, hh, svs, us, hs, x, e => by
    match svs, hs, e with
    | [], _, e => simp [outp] at e
    | [s], hs, e =>
      simp only [outp, Option.some.injEq, Prod.mk.injEq] at e
      obtain ⟨v, rfl, hv⟩ := hs.single'
      rw [← e.2]
      exact ⟨[], .refl _, .refl _ _, List.nodup_nil, ⟨v, rfl⟩, rfl⟩
    | _ :: _ :: _, _, e => simp [outp] at e
  | .own _, F, ow, ow1, hF, hh, svs, us, hs, x, e => by
    match svs, hs, e with
    | [], _, e => simp [outp] at e
    | [s], hs, e =>
      simp only [outp, Option.some.injEq, Prod.mk.injEq] at e
      obtain ⟨v, rfl, hv⟩ := hs.single'
      rw [← e.2]
      exact ⟨[], .refl _, .refl _ _, List.nodup_nil, ⟨v, rfl⟩, rfl⟩
    | _ :: _ :: _, _, e => simp [outp] at e
  | .ign, F, ow, ow1, hF, hh, svs, us, hs, x, e => by
    match svs, hs, e with
    | [], _, e => simp [outp] at e
    | [s], hs, e =>
      simp only [outp, Option.some.injEq, Prod.mk.injEq] at e
      obtain ⟨v, rfl, hv⟩ := hs.single'
      rw [← e.2]
      exact ⟨[], .refl _, .refl _ _, List.nodup_nil, ⟨v, rfl⟩, rfl⟩
    | _ :: _ :: _, _, e => simp [outp] at e
  | .nl, F, ow, ow1, hF, hh, svs, us, hs, x, e => by
    match svs, hs, e with
    | [], _, e => simp [outp] at e
    | [s], hs, e =>
      simp only [outp, Option.some.injEq, Prod.mk.injEq] at e
      obtain ⟨v, rfl, hv⟩ := hs.single'
      rw [← e.2]
      exact ⟨[], .refl _, .refl _ _, List.nodup_nil, ⟨v, rfl⟩, rfl⟩
    | _ :: _ :: _, _, e => simp [outp] at e
  | .nil, F, ow, ow1, hF, hh, svs, us, hs, x, e => by
    match svs, hs, e with
    | [], hs, e =>
      simp only [outp, Option.some.injEq, Prod.mk.injEq] at e
      have : us = [] := List.eq_nil_of_length_eq_zero hs.1.symm
      subst this
      rw [← e.2]
      exact ⟨[], .refl _, .refl _ _, List.nodup_nil, rfl, rfl⟩
    | _ :: _, _, e => simp [outp] at e
  | .agg l, F, ow, ow1, hF, hh, svs, us, hs, x, e => by
    match svs, hs, e with
    | [], _, e => simp [outp] at e
    | [s], hs, e =>
      obtain ⟨v, rfl, hv⟩ := hs.single'
      cases s with
      | agg cs =>
        simp only [outp] at e
        obtain ⟨zs, rfl, hzs⟩ := hv.agg_inv
        obtain ⟨f, h1, h2, h3, h4⟩ := outp_sound l hF hh hzs e
        exact ⟨f, h1, h2, h3, zs, rfl, h4⟩
      | _ => simp [outp] at e
    | _ :: _ :: _, _, e => simp [outp] at e
  | .fn f n l, F, ow, ow1, hF, hh, svs, us, hs, x, e => by
    match svs, hs, e with
    | [], _, e => simp [outp] at e
    | [s], hs, e =>
      obtain ⟨v, rfl, hv⟩ := hs.single'
      cases s with
      | fn g a b =>
        simp only [outp] at e
        split at e
        · rename_i hc
          obtain ⟨rfl, hn⟩ := hc
          obtain ⟨xs, ys, rfl, hx, hy⟩ := hv.fn_inv
          obtain ⟨f', h1, h2, h3, h4⟩ := outp_sound l hF hh (hx.append hy) e
          exact ⟨f', h1, h2, h3, xs, ys, rfl, by rw [← hx.1, hn], h4⟩
        · cases e
      | _ => simp [outp] at e
    | _ :: _ :: _, _, e => simp [outp] at e
  | .cons a b, F, ow, ow1, hF, hh, svs, us, hs, x, e => by
    match svs, hs, e with
    | [], _, e => simp [outp] at e
    | s :: r, hs, e =>
      simp only [outp] at e
      split at e
      · rename_i h0
        split at e
        · rename_i z hz
          cases e
          obtain ⟨v, vs', rfl, hv, hvs⟩ := hs.uncons
          obtain ⟨f2, t2, o2, n2, r2⟩ := outp_sound b (x := z.1) (ow1 := z.2) hF hh hvs hz
          exact ⟨f2, t2, o2, n2, v, vs', [], f2, rfl, rfl, .inl ⟨h0, rfl⟩, r2⟩
        · cases e
      rename_i h0
      split at e
      · rename_i y hy
        split at e
        · rename_i z hz
          cases e
          obtain ⟨v, vs', rfl, hv, hvs⟩ := hs.uncons
          obtain ⟨f1, t1, o1, n1, r1⟩ := outp_sound a (x := y.1) (ow1 := y.2) hF hh (.cons hv .nil) hy
          obtain ⟨hh1, hsv1⟩ := taken_state hh t1 o1
          have hF1 : ∀ b', FP F f1 b' → b' < w.heap.size := by
            intro b' hb'
            rcases hb' with hb' | hb'
            · exact hF b' hb'
            · exact Own.lt hh (o1.own hb')
          obtain ⟨f2, t2, o2, n2, r2⟩ := outp_sound b (x := z.1) (ow1 := z.2) hF1 hh1 ⟨hvs.1, fun i h1 h2 => hsv1 _ _ (hvs.2 i h1 h2)⟩ hz
          refine ⟨f1 ++ f2, t1.trans t2, fun x => ?_, List.nodup_append.2 ⟨n1, n2, fun x hx y hy hxy => ?_⟩, v, vs', f1, f2, rfl, rfl, ?_, ?_⟩
          · rw [TkB.trans t1 t2, ← o1 x, ← o2 x, List.mem_append]
          · subst hxy
            exact o1.notOwn hh t1 hx (o2.own hy)
          · exact .inr ⟨by simpa using h0, OutR.mono (fun b' r' hb' hr' => ⟨okF_congr (fun b'' hx => fp_app.2 hx) (taken_ok t2 o2 hb'), hr'⟩) a (fun _ _ => rfl) r1⟩
          · exact OutR.mono (fun b' r' hb' hr' => ⟨okF_congr (fun b'' hx => fp_app.2 hx) hb', hr'⟩) b (fun _ _ => rfl) r2
        · cases e
      · cases e

theorem resSV_sound {P : Program} {G : Gh} {st : St} {a : Act} {w : World} (hh : HRep F G st.ow w.heap) (hs : Svs F G st.ow w.heap st.sl a.tmps.toList) : (l : List ResultVar) → {Q : List SV → Prop} → (resSV P st l).can Q →
    ∃ ss us, Q ss ∧ (l.mapM fun | .tmp t => pure (a.tmps.getD t undef) | .cell b t => do loadVar t (← asAddr (a.tmps.getD b undef)) : Sem (List Value)).run P w = .ok us w ∧ Svs F G st.ow w.heap ss us
  | [], Q, h => ⟨[], [], h, rfl, .nil⟩
  | .tmp t :: r, Q, h => by
    have h := Cmd.can_bind _ h
    obtain ⟨ss, us, hq, hr, hsv⟩ := resSV_sound hh hs r h
    have hv := opd_rho hs (.tmp t)
    refine ⟨opd st.sl (.tmp t) :: ss, a.tmps.getD t undef :: us, hq, ?_, .cons hv hsv⟩
    simp only [List.mapM_cons, Sem.run_bind, Sem.run_pure, Result.andThen_ok, hr]
  | .cell b t :: r, Q, h => by
    have h := Cmd.can_bind _ h
    obtain ⟨s, v, hq, hr, hsv⟩ := evLoad_sound hh (opd_rho hs (.tmp b)) h
    have h := Cmd.can_bind _ hq
    obtain ⟨ss, us, hq, hr2, hsv2⟩ := resSV_sound hh hs r h
    refine ⟨s :: ss, v :: us, hq, ?_, .cons hsv hsv2⟩
    have hl : (do loadVar t (← asAddr (a.tmps.getD b undef)) : Sem Value).run P w = .ok v w := by
      have hr : (Instr.loadAt t (a.tmps.getD b undef)).run P w = .ok v w := hr
      generalize a.tmps.getD b undef = z at hr
      cases z with
      | pointer o =>
        cases o with
        | none => simp [Instr.loadAt, Instr.sureAddr, stuck] at hr
        | some ad => simpa [Instr.loadAt, Instr.sureAddr, asAddr] using hr
      | _ => simp [Instr.loadAt, Instr.sureAddr, stuck] at hr
    simp only [List.mapM_cons, Sem.run_bind, Result.andThen_ok, Sem.run_pure] at hl ⊢
    rw [hl]
    simp only [Result.andThen_ok, hr2]

theorem shR_len {h : Array Obj} {ok : Nat → Prop} : (s : Sh) → s.chain = true → {x : s.T} → {us : List Value} → {f : List Nat} → ShR h ok s x us f → us.length = s.len
  | .nil, _, _, _, _, e => by obtain ⟨rfl, _⟩ := e; rfl
  | .cons _ b, hc, _, _, _, e => by
    obtain ⟨v, r, f1, f2, rfl, _, _, e2⟩ := e
    simp [Sh.len, shR_len b (by simpa [Sh.chain] using hc) e2]
  | .pur _, hc, _, _, _, _ => by simp [Sh.chain] at hc
  | .own _, hc, _, _, _, _ => by simp [Sh.chain] at hc
  | .row _, hc, _, _, _, _ => by simp [Sh.chain] at hc
  | .box _, hc, _, _, _, _ => by simp [Sh.chain] at hc
  | .agg _, hc, _, _, _, _ => by simp [Sh.chain] at hc
  | .fn _ _ _, hc, _, _, _, _ => by simp [Sh.chain] at hc
  | .ign, hc, _, _, _, _ => by simp [Sh.chain] at hc
  | .nl, hc, _, _, _, _ => by simp [Sh.chain] at hc

/-- A function's end. -/
theorem outR_swap {h : Array Obj} {ok : Nat → Prop} : (s : Sh) → s.chain = true → {y : s.Out} → {us vs : List Value} → {f : List Nat} → us.length = vs.length → (∀ i, i < vs.length → freeArg s i = false → us[i]? = vs[i]?) → OutR h ok s y us f → OutR h ok s y vs f
  | .nil, _, _, us, vs, f, hl, _, e => by
    obtain ⟨rfl, rfl⟩ := e
    exact ⟨List.eq_nil_of_length_eq_zero hl.symm, rfl⟩
  | .cons a b, hc, y, us, vs, f, hl, hag, e => by
    obtain ⟨v, r, f1, f2, rfl, rfl, e1, e2⟩ := e
    cases vs with
    | nil => simp at hl
    | cons v' r' =>
      refine ⟨v', r', f1, f2, rfl, rfl, ?_, outR_swap b (by simpa [Sh.chain] using hc) (by simpa using hl) (fun i hi hf => ?_) e2⟩
      · rcases e1 with e1 | ⟨h0, e1⟩
        · exact .inl e1
        · have := hag 0 (by simp) (by simpa [freeArg] using h0)
          simp only [List.getElem?_cons_zero, Option.some.injEq] at this
          rw [← this]; exact .inr ⟨h0, e1⟩
      · have := hag (i + 1) (by simpa using hi) (by simpa [freeArg] using hf)
        simpa using this
  | .pur _, hc, _, _, _, _, _, _, _ => by simp [Sh.chain] at hc
  | .own _, hc, _, _, _, _, _, _, _ => by simp [Sh.chain] at hc
  | .row _, hc, _, _, _, _, _, _, _ => by simp [Sh.chain] at hc
  | .box _, hc, _, _, _, _, _, _, _ => by simp [Sh.chain] at hc
  | .agg _, hc, _, _, _, _, _, _, _ => by simp [Sh.chain] at hc
  | .fn _ _ _, hc, _, _, _, _, _, _, _ => by simp [Sh.chain] at hc
  | .ign, hc, _, _, _, _, _, _, _ => by simp [Sh.chain] at hc
  | .nl, hc, _, _, _, _, _, _, _ => by simp [Sh.chain] at hc

theorem evFin_sound (hE : Env F fp L w0) {fn : Func} {args res : Sh} (hch : args.chain = true) (hfr : fr = freeArg args) (hlen : vs.length = args.len) (hnt : args.len ≤ nt) {st : St} {a : Act} {w : World} (h : StI nt fr F fp w0 vs st a w) {y : res.T × args.Out} (e : evFin C fn args res st = some y) :
    a.defers = [] ∧ ∃ v, (results fn a.tmps).run C.P w = .ok v w ∧ ∃ rs fp1 fp2, v = retV rs ∧ ShR w.heap (fun b => ¬ FP F (fp1 ++ fp2) b) res y.1 rs fp1 ∧ OutR w.heap (fun b => ¬ FP F (fp1 ++ fp2) b) args y.2 vs fp2 ∧
      (fp1 ++ fp2).Nodup ∧ (∀ b ∈ fp1 ++ fp2, b ∈ fp ∨ w0.heap.size ≤ b) ∧ Kept (· ∈ fp) w0 w := by
  refine ⟨h.defers, ?_⟩
  obtain ⟨G, hs, hh, hown⟩ := h.ex
  obtain ⟨ss, us, hq, hr, hsv⟩ := resSV_sound hh hs _ (Cmd.can_of_run _ e)
  split at hq
  · rename_i x hx
    split at hq
    · rename_i z hz
      cases hq
      have hF := hE.wideAt h.kept
      obtain ⟨f1, t1, o1, n1, r1⟩ := pk_sound res (x := x.1) (ow1 := x.2) hF hh hsv hx
      obtain ⟨hh1, hsv1⟩ := taken_state hh t1 o1
      have hF1 : ∀ b', FP F f1 b' → b' < w.heap.size := by
        intro b' hb'
        rcases hb' with hb' | hb'
        · exact hF b' hb'
        · exact Own.lt hh (o1.own hb')
      have hn : st.sl.length = nt := h.len
      have hargs : Svs (FP F f1) G x.2 w.heap (st.sl.take args.len) (a.tmps.toList.take args.len) := by
        refine ⟨by simp [hs.1], fun i h1 h2 => ?_⟩
        simp only [List.getElem_take]
        have h3 : i < st.sl.length := by simp at h1; omega
        have h4 : i < a.tmps.toList.length := by rw [← hs.1]; exact h3
        exact hsv1 _ _ (hs.2 i h3 h4)
      have hsame : ∀ i, i < vs.length → freeArg args i = false → (a.tmps.toList.take args.len)[i]? = vs[i]? := fun i hi hf => by
        rw [← h.args i hi (by rw [hfr]; exact hf), List.getElem?_take, if_pos (by omega), Array.getElem?_toList]
      obtain ⟨f2, t2, o2, n2, r2⟩ := outp_sound args (x := z.1) (ow1 := z.2) hF1 hh1 hargs hz
      have hres : (results fn a.tmps).run C.P w = .ok (retV us) w := by
        unfold results
        have e1 : (fn.results.mapM fun | .tmp t => pure (a.tmps.getD t undef) | .cell b t => do loadVar t (← asAddr (a.tmps.getD b undef)) : Sem (Array Value)).run C.P w = .ok us.toArray w := by
          rw [Array.mapM_eq_mapM_toList, Sem.run_map, hr]
          rfl
        rw [Sem.run_bind]
        refine (congrArg (fun q => Result.andThen q _) (show _ = Result.ok us.toArray w from e1)).trans ?_
        simp only [Result.andThen_ok, Sem.run_pure]
        congr 1
        match us with
        | [] => rfl
        | [u] => rfl
        | u :: u' :: us' => simp [retV]
      refine ⟨_, hres, us, f1, f2, rfl, ?_, ?_, ?_, ?_, h.kept⟩
      · refine ShR.mono (fun b r hb hr => ⟨fun hx => ?_, hr⟩) _ (fun _ _ => rfl) r1
        rcases hx with hx | hx
        · exact hb.1 (.inl hx)
        · rcases List.mem_append.1 hx with hx | hx
          · exact hb.1 (.inr hx)
          · exact hb.2 (o2.own hx)
      · refine OutR.mono (fun b r hb hr => ⟨fun hx => hb.1 (fp_app.2 hx), hr⟩) _ (fun _ _ => rfl) (outR_swap args hch (by simp [hlen, ← hs.1, hn, hnt]) hsame r2)
      · exact List.nodup_append.2 ⟨n1, n2, fun q hq q' hq' he => by subst he; exact o1.notOwn hh t1 hq (o2.own hq')⟩
      · intro b hb
        rcases List.mem_append.1 hb with hb | hb
        · exact hown b (o1.own hb)
        · exact hown b (t1.own (o2.own hb))
    · cases hq
  · cases hq

/-- THE THEOREM: what the evaluator gives is the function's contract. -/
theorem evFunc_sound (hC : C.Holds L) (hD : DrawSound C L) {f : FuncId} {fn : Func} (hf : C.P.funcs[f]? = some fn) (hname : (fn.name == "runtime.NumGoroutine") = false) (ann : Ann) (args res : Sh) {den : args.T → Option (res.T × args.Out)}
    (hden : ∀ x y, den x = some y → evFunc C ann fn args res x = some y) (hbody : fn.body.isNone = false) : SigHolds C.P L f ⟨args, res, den⟩ := by
  refine ⟨⟨fn, hf, hname, hbody⟩, fun w F x vs fp y hF hL hnd hfp hsh hy => ?_⟩
  have hy := hden x y hy
  unfold evFunc at hy
  split at hy
  · cases hy
  rename_i c hb
  split at hy
  · rename_i hc
    simp only [Bool.and_eq_true, decide_eq_true_eq] at hc
    obtain ⟨⟨hch, hnt⟩, hd⟩ := hc
    have hlen : vs.length = args.len := shR_len args hch hsh
    have hE : Env F fp L w := ⟨hF, hL, hfp⟩
    refine calls_of_wp hf hb ?_
    have hsize : (vs.toArray ++ Array.replicate (fn.ntmps - vs.toArray.size) undef).size = fn.ntmps := by simp; omega
    have hargs : ∀ i, i < vs.length → (vs.toArray ++ Array.replicate (fn.ntmps - vs.toArray.size) undef)[i]? = vs[i]? := by
      intro i hi
      rw [Array.getElem?_append_left (by simpa using hi)]
      simp
    obtain ⟨G, g1, g2, g3, _⟩ := mkArg_sound (nt := fn.ntmps) (tmps := (vs.toArray ++ Array.replicate (fn.ntmps - vs.toArray.size) undef).toList) (by rw [Array.length_toList, hsize]) args hch 0 (by omega) (F := F) hsh
      (fun j hj => by rw [Nat.zero_add, Array.getElem?_toList]; exact hargs j hj) hnd hfp (fun b hb => ⟨fun hx => hb (.inl hx), fun hx => hb (.inr hx)⟩)
    have hI : StI fn.ntmps (freeArg args) F fp w vs (mkArg fn.ntmps args x 0) { tmps := vs.toArray ++ Array.replicate (fn.ntmps - vs.toArray.size) undef, defers := [] } w :=
      ⟨⟨G, g2, g1, fun b hb => .inl ((g3 b).1 hb)⟩, .refl _ _, rfl, fun i hi _ => hargs i hi, hsize⟩
    refine wp_mono (evCode_sound hC hD hE ann c hd hy hI) fun ex a' w' hq => ?_
    cases ex with
    | normal =>
      obtain ⟨st, h1, h2⟩ := hq
      obtain ⟨q1, v, q2, rs, fp1, fp2, rfl, q3⟩ := evFin_sound hE hch rfl hlen hnt h1 h2
      exact ⟨q1, _, q2, rs, fp1, fp2, rfl, q3⟩
    | ret =>
      obtain ⟨st, h1, h2⟩ := hq
      obtain ⟨q1, v, q2, rs, fp1, fp2, rfl, q3⟩ := evFin_sound hE hch rfl hlen hnt h1 h2
      exact ⟨q1, _, q2, rs, fp1, fp2, rfl, q3⟩
    | exit i => obtain ⟨st, h1, h2⟩ := hq; cases h2
    | _ => exact hq.elim
  · cases hy

end
end Go.Pev
end

section
/-
  PEV, part 22: a region in whatever order: a law of steps alone.
-/
namespace Go.Pev

def seqS {S : Type} (step : Nat → S → Option S) : List Nat → S → Option S
  | [], s => some s
  | i :: r, s => (match step i s with | some s' => seqS step r s' | none => none)

/-- An operation that is apart from all ahead of it may go first. -/
theorem seqS_front {S : Type} {step : Nat → S → Option S} {apart : Nat → Nat → Bool} (hc : ∀ i j s s1 s2, apart i j = true → step i s = some s1 → step j s1 = some s2 → ∃ s1', step j s = some s1' ∧ step i s1' = some s2) {x : Nat} {q : List Nat} :
    (p : List Nat) → (∀ i ∈ p, apart i x = true) → {s r : S} → seqS step (p ++ x :: q) s = some r → ∃ s1, step x s = some s1 ∧ seqS step (p ++ q) s1 = some r
  | [], _, s, r, h => by
    simp only [List.nil_append, seqS] at h ⊢
    split at h
    · rename_i s' hs; exact ⟨s', hs, h⟩
    · cases h
  | i :: p, hp, s, r, h => by
    simp only [List.cons_append, seqS] at h
    split at h
    · rename_i s' hs
      obtain ⟨s1, h1, h2⟩ := seqS_front hc p (fun j hj => hp j (by simp [hj])) h
      obtain ⟨s2, h3, h4⟩ := hc i x s s' s1 (hp i (by simp)) hs h1
      refine ⟨s2, h3, ?_⟩
      simp only [List.cons_append, seqS, h4]
      exact h2
    · cases h

theorem maskOf_bit (ms : List Nat) (o : Oper) (i : Nat) (h : (maskOf ms o).testBit i = true) : ∃ e ∈ o.after, Region.binds .any e = true ∧ (i = e.on ∨ (ms.getD e.on 0).testBit i = true) := by
  have key : ∀ (l : List Edge) (m : Nat), (l.foldl (fun m e => if Region.binds .any e then m ||| (1 <<< e.on) ||| ms.getD e.on 0 else m) m).testBit i = true → m.testBit i = true ∨ ∃ e ∈ l, Region.binds .any e = true ∧ (i = e.on ∨ (ms.getD e.on 0).testBit i = true) := by
    intro l
    induction l with
    | nil => intro m h; exact .inl h
    | cons e l ih =>
      intro m h
      simp only [List.foldl_cons] at h
      rcases ih _ h with h1 | ⟨e', he', h2⟩
      · split at h1
        · rename_i hb
          simp only [Nat.testBit_or, Bool.or_eq_true] at h1
          rcases h1 with (h1 | h1) | h1
          · exact .inl h1
          · right
            refine ⟨e, by simp, hb, .inl ?_⟩
            rw [Nat.shiftLeft_eq, Nat.one_mul, Nat.testBit_two_pow] at h1
            exact (of_decide_eq_true h1).symm
          · exact .inr ⟨e, by simp, hb, .inr h1⟩
        · exact .inl h1
      · exact .inr ⟨e', by simp [he'], h2⟩
  rcases key o.after.toList 0 h with h1 | ⟨e, he, h2⟩
  · simp at h1
  · exact ⟨e, by simpa using he, h2⟩

theorem masksOf_get : (l : List Oper) → (ms : List Nat) → (j : Nat) → (j < ms.length → (masksOf l ms)[j]? = ms[j]?) ∧ (∀ o, l[j]? = some o → ∃ p, (masksOf l ms)[ms.length + j]? = some (maskOf p o) ∧ ∀ i, i < ms.length + j → p.getD i 0 = (masksOf l ms).getD i 0)
  | [], ms, j => ⟨fun _ => rfl, fun o h => by simp at h⟩
  | o :: r, ms, j => by
    have ih := masksOf_get r (ms ++ [maskOf ms o])
    have e0 : masksOf (o :: r) ms = masksOf r (ms ++ [maskOf ms o]) := rfl
    rw [e0]
    refine ⟨fun hj => ?_, fun o' ho' => ?_⟩
    · rw [(ih j).1 (by simp; omega), List.getElem?_append_left hj]
    · cases j with
      | zero =>
        simp only [List.getElem?_cons_zero, Option.some.injEq] at ho'
        subst ho'
        refine ⟨ms, ?_, fun i hi => ?_⟩
        · rw [(ih _).1 (by simp), List.getElem?_append_right (by omega)]; simp
        · have := (ih i).1 (by simp; omega)
          simp only [List.getD, this]
          rw [List.getElem?_append_left (by omega)]
      | succ j =>
        obtain ⟨p, h1, h2⟩ := (ih j).2 o' (by simpa using ho')
        have e : (ms ++ [maskOf ms o]).length + j = ms.length + (j + 1) := by simp; omega
        rw [e] at h1 h2
        exact ⟨p, h1, h2⟩

theorem upOk_get : (l : List Oper) → (k : Nat) → upOk k l = true → ∀ j o, l[j]? = some o → ∀ e ∈ o.after, Region.binds .any e = true → e.on < k + j
  | [], _, _, _, _, h, _, _, _ => by simp at h
  | o :: r, k, hu, j, o', h, e, he, hb => by
    simp only [upOk, Bool.and_eq_true] at hu
    cases j with
    | zero =>
      simp only [List.getElem?_cons_zero, Option.some.injEq] at h
      subst h
      have := List.all_eq_true.1 hu.1 e (by simpa using he)
      simpa [hb] using this
    | succ j =>
      have := upOk_get r (k + 1) hu.2 j o' (by simpa using h) e he hb
      omega

section
variable {P : Program} {ops : Array Oper} {Q : Exit → Act → World → Prop}

theorem any_of_seq {S : Type} {step : Nat → S → Option S} {R : S → Act → World → Prop} {apart : Nat → Nat → Bool} (hc : ∀ i j s s1 s2, apart i j = true → step i s = some s1 → step j s1 = some s2 → ∃ s1', step j s = some s1' ∧ step i s1' = some s2)
    (hop : ∀ i s s' a w, i < ops.size → step i s = some s' → R s a w → ∀ K : Act → World → Prop, (∀ a' w', R s' a' w' → K a' w') → wpOp P ops Q i K a w) (hok : anyOk ops apart = true) {sF : S} (hfin : ∀ a w, R sF a w → Q .normal a w) :
    ∀ (fuel : Nat) (listed : Array Bool) (s : S) (a : Act) (w : World), listed.size = ops.size → ((List.range ops.size).filter fun i => !listed.getD i true).length ≤ fuel →
      (∀ j, listed.getD j false = true → ∀ i, ((masksOf ops.toList []).getD j 0).testBit i = true → listed.getD i false = true) →
      seqS step ((List.range ops.size).filter fun i => !listed.getD i true) s = some sF → R s a w → wpAny P .any ops Q fuel listed a w := by
  simp only [anyOk, Bool.and_eq_true] at hok
  obtain ⟨hup, hap⟩ := hok
  have hsome : ∀ listed : Array Bool, listed.size = ops.size → Region.ready .any ops listed = [] → ((List.range ops.size).filter fun i => !listed.getD i true) = [] := by
    intro listed hsz hr
    cases hx : ((List.range ops.size).filter fun i => !listed.getD i true) with
    | nil => rfl
    | cons i0 rest =>
      exfalso
      have hmem : ∀ i, i ∈ ((List.range ops.size).filter fun i => !listed.getD i true) ↔ i < ops.size ∧ listed.getD i true = false := by intro i; simp
      have hi0 := (hmem i0).1 (by rw [hx]; simp)
      have hmin : ∀ i, i < i0 → listed.getD i true = true := by
        intro i hi
        cases hl : listed.getD i true with
        | true => rfl
        | false =>
          exfalso
          have hin : i ∈ i0 :: rest := by rw [← hx]; exact (hmem i).2 ⟨by omega, hl⟩
          have hsorted : (i0 :: rest).Pairwise (· < ·) := by rw [← hx]; exact List.Pairwise.filter _ List.pairwise_lt_range
          rcases List.mem_cons.1 hin with h | h
          · omega
          · have := List.rel_of_pairwise_cons hsorted h; omega
      have hrd : i0 ∈ Region.ready .any ops listed := by
        rw [mem_ready]
        refine ⟨hi0.2, ops[i0], by simp [hi0.1], fun e he hb => ?_⟩
        have := upOk_get ops.toList 0 hup i0 ops[i0] (by simp [hi0.1]) e he hb
        have h2 := hmin e.on (by omega)
        have hlt : e.on < listed.size := by omega
        simpa [Array.getD, hlt] using h2
      rw [hr] at hrd
      cases hrd
  intro fuel
  induction fuel with
  | zero =>
    intro listed s a w hsz hlen hcl hseq hR
    have hnil : ((List.range ops.size).filter fun i => !listed.getD i true) = [] := List.eq_nil_of_length_eq_zero (by omega)
    rw [hnil] at hseq
    cases hseq
    refine ⟨?_, hfin a w hR⟩
    cases hr : Region.ready .any ops listed with
    | nil => rfl
    | cons i r =>
      have hi : i ∈ Region.ready .any ops listed := by rw [hr]; simp
      obtain ⟨h1, o, h2, _⟩ := mem_ready.1 hi
      have : i ∈ ((List.range ops.size).filter fun i => !listed.getD i true) := List.mem_filter.2 ⟨List.mem_range.2 (Array.getElem?_eq_some_iff.1 h2).1, by rw [h1]; rfl⟩
      rw [hnil] at this
      cases this
  | succ fuel ih =>
    intro listed s a w hsz hlen hcl hseq hR
    refine ⟨fun hr => ?_, fun i hi => ?_⟩
    · rw [hsome listed hsz hr] at hseq
      cases hseq
      exact hfin a w hR
    · obtain ⟨h1, o, h2, h3⟩ := mem_ready.1 hi
      have hlt := (Array.getElem?_eq_some_iff.1 h2).1
      -- what must be before i is listed
      have hbits : ∀ j, ((masksOf ops.toList []).getD i 0).testBit j = true → listed.getD j false = true := by
        intro j hj
        obtain ⟨p, e1, e2⟩ := (masksOf_get ops.toList [] i).2 o (by simpa using h2)
        simp only [List.length_nil, Nat.zero_add] at e1 e2
        have e3 : (masksOf ops.toList []).getD i 0 = maskOf p o := by simp [List.getD, e1]
        rw [e3] at hj
        obtain ⟨e, he, hb, h4⟩ := maskOf_bit p o j hj
        have h5 := h3 e he hb
        rcases h4 with rfl | h4
        · exact h5
        · have := upOk_get ops.toList 0 hup i o (by simpa using h2) e he hb
          rw [e2 e.on (by omega)] at h4
          exact hcl e.on h5 j h4
      have hnot : ∀ j, listed.getD j true = false → listed.getD j false = true → False := by
        intro j e1 e2
        by_cases hj : j < listed.size
        · simp [Array.getD, hj] at e1 e2; rw [e1] at e2; cases e2
        · simp [Array.getD, hj] at e1
      have hsplit : List.range ops.size = List.range i ++ i :: List.range' (i + 1) (ops.size - i - 1) := by
        have e1 : ops.size = i + (ops.size - i) := by omega
        rw [List.range_eq_range', List.range_eq_range']
        conv => lhs; rw [e1]
        rw [← List.range'_append_1]
        congr 1
        rw [show ops.size - i = (ops.size - i - 1) + 1 by omega, List.range'_succ]
        simp
      have hset : ∀ j, j ≠ i → (listed.setIfInBounds i true).getD j true = listed.getD j true := fun j hj => getD_set_ne true (Ne.symm hj)
      have hseti : (listed.setIfInBounds i true).getD i true = true := by
        have : i < listed.size := by omega
        simp [Array.getD, this]
      have hp : ∀ j ∈ (List.range i).filter (fun j => !listed.getD j true), apart j i = true := by
        intro j hj
        obtain ⟨hj1, hj2⟩ := List.mem_filter.1 hj
        have hj1 := List.mem_range.1 hj1
        have := List.all_eq_true.1 (List.all_eq_true.1 hap i (List.mem_range.2 hlt)) j (List.mem_range.2 hj1)
        rcases Bool.or_eq_true _ _ ▸ this with h4 | h4
        · exact (hnot j (by simpa using hj2) (hbits j h4)).elim
        · exact h4
      have hf1 : ((List.range ops.size).filter fun i => !listed.getD i true) = (List.range i).filter (fun j => !listed.getD j true) ++ i :: (List.range' (i + 1) (ops.size - i - 1)).filter (fun j => !listed.getD j true) := by
        rw [hsplit, List.filter_append, List.filter_cons, h1]; rfl
      have hf2 : ((List.range ops.size).filter fun j => !(listed.setIfInBounds i true).getD j true) = (List.range i).filter (fun j => !listed.getD j true) ++ (List.range' (i + 1) (ops.size - i - 1)).filter (fun j => !listed.getD j true) := by
        rw [hsplit, List.filter_append, List.filter_cons, hseti]
        congr 1
        · refine List.filter_congr fun j hj => ?_
          rw [hset j (by have := List.mem_range.1 hj; omega)]
        · refine List.filter_congr fun j hj => ?_
          rw [hset j (by have := List.mem_range'_1.1 hj; omega)]
      rw [hf1] at hseq hlen
      obtain ⟨s1, q1, q2⟩ := seqS_front hc _ hp hseq
      refine hop i s s1 a w hlt q1 hR _ fun a' w' hR' => ih _ s1 a' w' (by simpa using hsz) (by rw [hf2]; simp at hlen ⊢; omega) (fun j hj i' hi' => ?_) (by rw [hf2]; exact q2) hR'
      by_cases hji : j = i
      · subst hji
        exact getD_set_true (hbits i' hi')
      · rw [getD_set_ne false (Ne.symm hji)] at hj
        exact getD_set_true (hcl j hj i' hi')

end
end Go.Pev
end

section
/-
  PEV, part 19b: a step that looks at some of what is owned alone.
-/
set_option linter.unusedVariables false
set_option linter.unusedSimpArgs false
namespace Go.Pev

/-! ### Lists -/

theorem maskOW_get (K : List Nat) : (l : OW) → (i n : Nat) → (maskOW K i l)[n]? = (l[n]?).map fun x => if K.contains (i + n) then x else dummyL
  | [], _, _ => rfl
  | a :: r, i, 0 => by simp [maskOW]
  | a :: r, i, n + 1 => by
    simp only [maskOW, List.getElem?_cons_succ]
    rw [maskOW_get K r (i + 1) n]
    have : i + 1 + n = i + (n + 1) := by omega
    rw [this]

theorem mergeOW_get (K : List Nat) : (l s : OW) → (i n : Nat) → (mergeOW K i l s)[n]? = (l[n]?).map fun x => if K.contains (i + n) then (s[n]?).getD x else x
  | [], _, _, _ => rfl
  | a :: r, s, i, 0 => by cases s <;> simp [mergeOW]
  | a :: r, s, i, n + 1 => by
    simp only [mergeOW, List.getElem?_cons_succ]
    rw [mergeOW_get K r s.tail (i + 1) n]
    have : i + 1 + n = i + (n + 1) := by omega
    rw [this]
    cases s <;> simp

theorem mask_merge {K K' : List Nat} (h : ∀ d, K.contains d = true → K'.contains d = false) (l s : OW) : maskOW K' 0 (mergeOW K 0 l s) = maskOW K' 0 l := by
  apply List.ext_getElem?
  intro n
  rw [maskOW_get, maskOW_get, mergeOW_get]
  cases l[n]? with
  | none => rfl
  | some x =>
    simp only [Option.map_some, Nat.zero_add]
    cases hk : K.contains n with
    | true => rw [h n hk]; simp only [Bool.false_eq_true, if_false]
    | false => simp only [Bool.false_eq_true, if_false]

theorem merge_comm {K K' : List Nat} (h : ∀ d, K.contains d = true → K'.contains d = false) (l s s' : OW) : mergeOW K' 0 (mergeOW K 0 l s) s' = mergeOW K 0 (mergeOW K' 0 l s') s := by
  apply List.ext_getElem?
  intro n
  simp only [mergeOW_get, Nat.zero_add]
  cases l[n]? with
  | none => rfl
  | some x =>
    simp only [Option.map_some, Option.some.injEq]
    cases hk : K.contains n with
    | true => rw [h n hk]; simp only [Bool.false_eq_true, if_false, if_true]
    | false => simp only [Bool.false_eq_true, if_false]

theorem smallOW_get {ow : OW} : smallOW ow = true ↔ ∀ (n : Nat) (l : List (Option OB)), ow[n]? = some l → l.length ≤ 16 := by
  unfold smallOW
  rw [List.all_eq_true]
  constructor
  · intro h n l hl
    have := h l (List.mem_of_getElem? hl)
    simpa using this
  · intro h l hl
    obtain ⟨n, hn⟩ := List.mem_iff_getElem?.1 hl
    simpa using h n l hn

theorem small_merge {K : List Nat} {l s : OW} (hl : smallOW l = true) (hs : smallOW s = true) : smallOW (mergeOW K 0 l s) = true := by
  rw [smallOW_get] at hl hs ⊢
  intro n x hx
  rw [mergeOW_get] at hx
  cases h1 : l[n]? with
  | none => rw [h1] at hx; cases hx
  | some y =>
    rw [h1] at hx
    simp only [Option.map_some, Option.some.injEq] at hx
    subst hx
    split
    · cases h2 : s[n]? with
      | none => simpa using hl n y h1
      | some z => simpa using hs n z h2
    · exact hl n y h1

theorem frameOW_get (K : List Nat) : (l : OW) → (i : Nat) → frameOW K i l = true → ∀ n x, l[n]? = some x → (if K.contains (i + n) then x.all (obIn K) else x.all (·.isNone) && x.length == 16) = true
  | [], _, _, _, _, h => by simp at h
  | a :: r, i, hf, 0, x, h => by
    simp only [List.getElem?_cons_zero, Option.some.injEq] at h
    subst h
    simp only [frameOW, Bool.and_eq_true] at hf
    exact hf.1
  | a :: r, i, hf, n + 1, x, h => by
    simp only [frameOW, Bool.and_eq_true] at hf
    have := frameOW_get K r (i + 1) hf.2 n x (by simpa using h)
    have e : i + 1 + n = i + (n + 1) := by omega
    rw [e] at this
    exact this

theorem length_merge (K : List Nat) (l s : OW) : (mergeOW K 0 l s).length = l.length := by
  have key : ∀ (l s : OW) (i : Nat), (mergeOW K i l s).length = l.length := by
    intro l
    induction l with
    | nil => intro s i; rfl
    | cons a r ih => intro s i; simp [mergeOW, ih]
  exact key l s 0

theorem length_mask (K : List Nat) (l : OW) : (maskOW K 0 l).length = l.length := by
  have key : ∀ (l : OW) (i : Nat), (maskOW K i l).length = l.length := by
    intro l
    induction l with
    | nil => intro i; rfl
    | cons a r ih => intro i; simp [maskOW, ih]
  exact key l 0

/-! ### Names -/

section
variable {F : Nat → Prop} {G G1 : Gh} {ow ow1 : OW} {w w1 : World} {K : List Nat}

theorem nameOf_mask_in {d : Nat} (hd : K.contains d = true) (j : Nat) : nameOf (maskOW K 0 ow) d j = nameOf ow d j := by
  unfold nameOf
  rw [maskOW_get]
  cases ow[d]? with
  | none => rfl
  | some l => simp only [Option.map_some, Nat.zero_add, hd, if_true]

theorem dummy_get {j : Nat} : dummyL[j]? = if j < 16 then some none else none := by
  unfold dummyL
  rw [List.getElem?_replicate]

theorem nameOf_mask_out {d : Nat} (hd : K.contains d = false) (j : Nat) : nameOf (maskOW K 0 ow) d j = none ∨ nameOf (maskOW K 0 ow) d j = some none := by
  unfold nameOf
  rw [maskOW_get]
  cases ow[d]? with
  | none => exact .inl rfl
  | some l =>
    simp only [Option.map_some, Nat.zero_add, hd, Bool.false_eq_true, if_false, Option.bind_some]
    rw [dummy_get]
    split
    · exact .inr rfl
    · exact .inl rfl

theorem nameOf_mask_dead (hs : smallOW ow = true) {d : Nat} (hd : K.contains d = false) {j : Nat} (hn : nameOf ow d j ≠ none) : nameOf (maskOW K 0 ow) d j = some none := by
  unfold nameOf at hn ⊢
  rw [maskOW_get]
  cases hl : ow[d]? with
  | none => rw [hl] at hn; exact absurd rfl hn
  | some l =>
    rw [hl] at hn
    simp only [Option.bind_some] at hn
    have hj : j < l.length := by
      rcases Nat.lt_or_ge j l.length with h | h
      · exact h
      · exact absurd (List.getElem?_eq_none h) hn
    have := smallOW_get.1 hs d l hl
    simp only [Option.map_some, Nat.zero_add, hd, Bool.false_eq_true, if_false, Option.bind_some]
    rw [dummy_get, if_pos (by omega)]

theorem nameOf_merge_in (hl : ow1.length = ow.length) {d : Nat} (hd : K.contains d = true) (j : Nat) : nameOf (mergeOW K 0 ow ow1) d j = nameOf ow1 d j := by
  unfold nameOf
  rw [mergeOW_get]
  rcases Nat.lt_or_ge d ow.length with h | h
  · simp only [List.getElem?_eq_getElem h, List.getElem?_eq_getElem (show d < ow1.length by omega), Option.map_some, Nat.zero_add, hd, if_true, Option.getD_some]
  · rw [List.getElem?_eq_none h, List.getElem?_eq_none (show ow1.length ≤ d by omega)]; rfl

theorem nameOf_merge_out {d : Nat} (hd : K.contains d = false) (j : Nat) : nameOf (mergeOW K 0 ow ow1) d j = nameOf ow d j := by
  unfold nameOf
  rw [mergeOW_get]
  cases ow[d]? with
  | none => rfl
  | some l => simp only [Option.map_some, Nat.zero_add, hd, Bool.false_eq_true, if_false]

theorem mask_EC (hs : smallOW ow = true) (d j : Nat) : EC (nameOf ow d j) (nameOf (maskOW K 0 ow) d j) := by
  cases hd : K.contains d with
  | true => rw [nameOf_mask_in hd]; exact .refl _
  | false =>
    by_cases hn : nameOf ow d j = none
    · rw [hn]; trivial
    · rw [nameOf_mask_dead hs hd hn]; exact .dead

/-- What a step must leave alone: what is owned under other keys, too. -/
def FM (F : Nat → Prop) (G : Gh) (ow : OW) (K : List Nat) (b : Nat) : Prop := F b ∨ ∃ d j i o, K.contains d = false ∧ isOwn (nameOf ow d j) ∧ G d j i = some (b, o)

theorem own_mask {b : Nat} (h : Own G (maskOW K 0 ow) b) : ∃ d j i o, K.contains d = true ∧ isOwn (nameOf ow d j) ∧ G d j i = some (b, o) := by
  obtain ⟨d, j, i, o, h1, h2⟩ := own_iff.1 h
  cases hd : K.contains d with
  | true => rw [nameOf_mask_in hd] at h1; exact ⟨d, j, i, o, hd, h1, h2⟩
  | false => rcases nameOf_mask_out (ow := ow) hd j with h | h <;> rw [h] at h1 <;> exact h1.elim

theorem own_of_mask {b : Nat} (h : Own G (maskOW K 0 ow) b) : Own G ow b := by
  obtain ⟨d, j, i, o, _, h1, h2⟩ := own_mask h
  exact own_iff.2 ⟨d, j, i, o, h1, h2⟩

theorem FM_lt (hh : HRep F G ow w.heap) (hF : ∀ b, F b → b < w.heap.size) {b : Nat} (h : FM F G ow K b) : b < w.heap.size := by
  rcases h with h | ⟨d, j, i, o, _, h1, h2⟩
  · exact hF b h
  · exact Own.lt hh (own_iff.2 ⟨d, j, i, o, h1, h2⟩)

theorem ok_mask {b : Nat} (h : okF F G ow b) : okF (FM F G ow K) G (maskOW K 0 ow) b := by
  refine ⟨fun hf => ?_, fun ho => h.2 (own_of_mask ho)⟩
  rcases hf with hf | ⟨d, j, i, o, _, h1, h2⟩
  · exact h.1 hf
  · exact h.2 (own_iff.2 ⟨d, j, i, o, h1, h2⟩)

theorem sv_mask (hs : smallOW ow = true) {h : Array Obj} {s : SV} {v : Value} (e : Sv F G ow h s v) : Sv (FM F G ow K) G (maskOW K 0 ow) h s v :=
  SvRep.mono (fun _ _ _ => rfl) (mask_EC hs) (fun b r hb hr => ⟨ok_mask hb, hr⟩) (fun b r hr => ⟨r, hr, rfl⟩) e

theorem hrep_mask (hs : smallOW ow = true) {h : Array Obj} (hh : HRep F G ow h) : HRep (FM F G ow K) G (maskOW K 0 ow) h := by
  have hin : ∀ d j, isOwn (nameOf (maskOW K 0 ow) d j) → K.contains d = true ∧ isOwn (nameOf ow d j) := by
    intro d j hi
    cases hd : K.contains d with
    | true => rw [nameOf_mask_in hd] at hi; exact ⟨rfl, hi⟩
    | false => rcases nameOf_mask_out (ow := ow) hd j with h | h <;> rw [h] at hi <;> exact hi.elim
  refine ⟨fun d j o hn => ?_, fun d j i d' j' i' b o o' h1 h2 h3 h4 => ?_, fun b hb hf => ?_⟩
  · cases hd : K.contains d with
    | true =>
      rw [nameOf_mask_in hd] at hn
      exact ObRep.mono (fun _ _ _ => rfl) (mask_EC hs) (fun b r hb hr => ⟨ok_mask hb, hr⟩) (fun b r hr => ⟨r, hr, rfl⟩) rfl (fun _ _ _ _ _ => rfl) (hh.obs d j o hn)
    | false => rcases nameOf_mask_out (ow := ow) hd j with h | h <;> rw [h] at hn <;> cases hn
  · exact hh.apart d j i d' j' i' b o o' (hin d j h1).2 (hin d' j' h2).2 h3 h4
  · obtain ⟨d, j, i, o, hd, h1, h2⟩ := own_mask hb
    rcases hf with hf | ⟨d', j', i', o', hd', h3, h4⟩
    · exact hh.notF b (own_of_mask hb) hf
    · obtain ⟨rfl, _⟩ := hh.apart d j i d' j' i' b o o' h1 h3 h2 h4
      rw [hd] at hd'; cases hd'

def GM (K : List Nat) (G G1 : Gh) : Gh := fun d j => if K.contains d then G1 d j else G d j

theorem GM_in {d : Nat} (hd : K.contains d = true) (j : Nat) : GM K G G1 d j = G1 d j := by simp only [GM, hd, if_true]
theorem GM_out {d : Nat} (hd : K.contains d = false) (j : Nat) : GM K G G1 d j = G d j := by simp only [GM, hd, Bool.false_eq_true, if_false]

theorem HandR.same {h : Array Obj} {G G' : Gh} {ow ow' : OW} {d j off : Nat} {len : Option Nat} {v : Value} (hn : nameOf ow' d j = nameOf ow d j) (hG : G' d j = G d j) (hv : HandR h G ow d j off len v) : HandR h G' ow' d j off len v := by
  unfold HandR HandV at hv ⊢
  rw [hn, hG]
  exact hv

/-- Where all handles lie under the keys. -/
theorem sv_in {h : Array Obj} {ok ok' : Nat → Prop} {G G' : Gh} {ow ow' : OW} (hn : ∀ d j, K.contains d = true → nameOf ow' d j = nameOf ow d j) (hG : ∀ d j, K.contains d = true → G' d j = G d j)
    (hok : ∀ b r, ok b → rowCells h b = some r → ok' b ∧ rowCells h b = some r) {s : SV} {v : Value} (e : SvRep h ok G ow s v) : ∀ f, svIn K f s = true → SvRep h ok' G' ow' s v := by
  induction e with
  | v hk hx => intro f _; exact .v hk (Rep.mono hok _ hx)
  | lb b => intro f _; exact .lb b
  | dead v => intro f _; exact .dead v
  | nils => intro f _; exact .nils
  | agg hl _ ih =>
    intro f hf
    cases f with
    | zero => cases hf
    | succ f =>
      simp only [svIn, List.all_eq_true] at hf
      exact .agg hl fun i h1 h2 => ih i h1 h2 f (hf _ (List.getElem_mem _))
  | tup hl _ ih =>
    intro f hf
    cases f with
    | zero => cases hf
    | succ f =>
      simp only [svIn, List.all_eq_true] at hf
      exact .tup hl fun i h1 h2 => ih i h1 h2 f (hf _ (List.getElem_mem _))
  | fn h1 h2 _ _ ih1 ih2 =>
    intro f hf
    cases f with
    | zero => cases hf
    | succ f =>
      simp only [svIn, Bool.and_eq_true, List.all_eq_true] at hf
      exact .fn h1 h2 (fun i a b => ih1 i a b f (hf.1 _ (List.getElem_mem _))) (fun i a b => ih2 i a b f (hf.2 _ (List.getElem_mem _)))
  | wh hv =>
    intro f hf
    cases f with
    | zero => cases hf
    | succ f => exact .wh (hv.same (hn _ _ hf) (hG _ _ hf))
  | os hv =>
    intro f hf
    cases f with
    | zero => cases hf
    | succ f => exact .os (hv.same (hn _ _ hf) (hG _ _ hf))
  | @bp d j c val hv =>
    intro f hf
    cases f with
    | zero => cases hf
    | succ f =>
      refine .bp ?_
      rw [hn d j hf, hG d j hf]
      exact hv
  | @rp d j ver e c val hv =>
    intro f hf
    cases f with
    | zero => cases hf
    | succ f =>
      refine .rp ?_
      rw [hn d j hf, hG d j hf]
      exact hv
  | ip hk hb hr hs hx =>
    intro f _
    obtain ⟨hb', hr'⟩ := hok _ _ hb hr
    exact .ip hk hb' hr' hs (Rep.mono hok _ hx)

/-- What was there, with a step under the keys behind it. -/
theorem sv_across (hh : HRep F G ow w.heap) (hs : smallOW ow = true) (hsz : ∀ b r, rowCells w.heap b = some r → ∃ r', rowCells w1.heap b = some r' ∧ r'.size = r.size) {ow2 : OW} {G2 : Gh}
    (hsv : ∀ s v, Sv (FM F G ow K) G (maskOW K 0 ow) w.heap s v → Sv (FM F G ow K) G1 ow1 w1.heap s v)
    (hin : ∀ d j, K.contains d = true → nameOf ow2 d j = nameOf ow1 d j ∧ G2 d j = G1 d j) (hout : ∀ d j, K.contains d = false → nameOf ow2 d j = nameOf ow d j ∧ G2 d j = G d j)
    (hok : ∀ b r, okF F G ow b → rowCells w.heap b = some r → okF F G2 ow2 b ∧ rowCells w1.heap b = some r) {s : SV} {v : Value} (e : Sv F G ow w.heap s v) : Sv F G2 ow2 w1.heap s v := by
  induction e with
  | v hk hx => exact .v hk (Rep.mono hok _ hx)
  | lb b => exact .lb b
  | dead v => exact .dead v
  | nils => exact .nils
  | agg hl _ ih => exact .agg hl ih
  | tup hl _ ih => exact .tup hl ih
  | fn h1 h2 _ _ ih1 ih2 => exact .fn h1 h2 ih1 ih2
  | @wh d j ver val hv =>
    cases hd : K.contains d with
    | true =>
      have := hsv _ _ (sv_mask hs (.wh (ver := ver) hv))
      cases this with
      | wh hv => exact .wh (hv.same (hin d j hd).1 (hin d j hd).2)
    | false => exact .wh (hv.mono (fun _ => by rw [(hout d j hd).2]) (by rw [(hout d j hd).1]; exact .refl _) hsz)
  | @os d j ver off len val hv =>
    cases hd : K.contains d with
    | true =>
      have := hsv _ _ (sv_mask hs (.os (ver := ver) hv))
      cases this with
      | os hv => exact .os (hv.same (hin d j hd).1 (hin d j hd).2)
    | false => exact .os (hv.mono (fun _ => by rw [(hout d j hd).2]) (by rw [(hout d j hd).1]; exact .refl _) hsz)
  | @bp d j c val hv =>
    cases hd : K.contains d with
    | true =>
      have := hsv _ _ (sv_mask hs (.bp (c := c) hv))
      cases this with
      | bp hv =>
        refine .bp ?_
        rw [(hin d j hd).1, (hin d j hd).2]
        exact hv
    | false =>
      refine .bp ?_
      rw [(hout d j hd).1, (hout d j hd).2]
      exact hv
  | @rp d j ver e c val hv =>
    cases hd : K.contains d with
    | true =>
      have := hsv _ _ (sv_mask hs (.rp (ver := ver) hv))
      cases this with
      | rp hv =>
        refine .rp ?_
        rw [(hin d j hd).1, (hin d j hd).2]
        exact hv
    | false =>
      refine .rp ?_
      rw [(hout d j hd).1, (hout d j hd).2]
      exact hv
  | ip hk hb hr hs hx =>
    obtain ⟨hb', hr'⟩ := hok _ _ hb hr
    exact .ip hk hb' hr' hs (Rep.mono hok _ hx)

theorem ObRep.same {h h' : Array Obj} {ok ok' : Nat → Prop} {G G' : Gh} {ow ow' : OW} {d j : Nat} {o : OB} (hG : G' d j = G d j) (hb : isOwn (some (some o)) → ∀ i b c, G d j i = some (b, c) → h'[b]? = h[b]?)
    (hok : ∀ b r, ok b → rowCells h b = some r → ok' b ∧ rowCells h' b = some r) (hsv : ∀ s ∈ obCells o, ∀ v, SvRep h ok G ow s v → SvRep h' ok' G' ow' s v) (e : ObRep h ok G ow d j o) : ObRep h' ok' G' ow' d j o := by
  cases o with
  | box cells =>
    obtain ⟨h0, b, o, r, et, hg, hr, hs, hc⟩ := e
    exact ⟨by rw [hG]; exact h0, b, o, r, et, by rw [hG, hg], by rw [hb trivial 0 b o hg, hr], hs, fun i hi hr => hsv _ (List.getElem_mem _) _ (hc i hi hr)⟩
  | row k ver l =>
    obtain ⟨h0, hk, e⟩ := e
    refine ⟨by rw [hG]; exact h0, hk, ?_⟩
    rw [hG]
    cases hg : G d j 0 with
    | none => simpa [hg] using e
    | some p =>
      obtain ⟨b, o⟩ := p
      simp only [hg] at e
      obtain ⟨r, et, hr, he⟩ := e
      exact ⟨r, et, by rw [hb trivial 0 b o hg, hr], he.mono fun x cs hx => Rep.mono hok _ hx⟩
  | frow k ver l =>
    obtain ⟨hk, e⟩ := e
    refine ⟨hk, ?_⟩
    rw [hG]
    cases hg : G d j 0 with
    | none => simpa [hg] using e
    | some p =>
      obtain ⟨b, o⟩ := p
      simp only [hg] at e
      rcases e with e | ⟨hb, r, hr, he⟩
      · exact .inl e
      · obtain ⟨hb', hr'⟩ := hok b r hb hr
        exact .inr ⟨hb', r, hr', he.mono fun x cs hx => Rep.mono hok _ hx⟩
  | nrow k l foc =>
    obtain ⟨hk, fps, h1, h2, e⟩ := e
    refine ⟨hk, fps, by rw [hG]; exact h1, h2, ?_⟩
    rw [hG]
    have hfp : ∀ b ∈ fps.flatten, h'[b]? = h[b]? := fun b hbm => by
      obtain ⟨i, hi, rfl⟩ := List.mem_iff_getElem.1 hbm
      exact hb trivial (i + 1) _ 0 (by rw [h1, List.getElem?_eq_getElem hi]; rfl)
    cases hg : G d j 0 with
    | none => simpa [hg] using e
    | some p =>
      obtain ⟨b, o⟩ := p
      simp only [hg] at e
      obtain ⟨r, et, hr, hs, he, hf⟩ := e
      exact ⟨r, et, by rw [hb trivial 0 b o hg, hr], hs, fun i hi hi' hne => NRep.mono hok k (fun b' hb' => hfp b' (mem_fps hi' hb')) (he i hi hi' hne), fun e' cells hc => by
        obtain ⟨q1, q2, q3, q4⟩ := hf e' cells hc
        subst hc
        exact ⟨q1, q2, q3, fun c hc hr => hsv _ (List.getElem_mem _) _ (q4 c hc hr)⟩⟩
  | lrow n => trivial

theorem tr_unmask (hh : HRep F G ow w.heap) (hF : ∀ b, F b → b < w.heap.size) (hs : smallOW ow = true) (ht : Tr (FM F G ow K) G (maskOW K 0 ow) w G1 ow1 w1) (hK : okM K ow1 = true) :
    Tr F G ow w (GM K G G1) (mergeOW K 0 ow ow1) w1 ∧ ∀ s v f, svIn K f s = true → Sv (FM F G ow K) G1 ow1 w1.heap s v → Sv F (GM K G G1) (mergeOW K 0 ow ow1) w1.heap s v := by
  have hlen : ow1.length = ow.length := by rw [ht.len, length_mask]
  simp only [okM, Bool.and_eq_true] at hK
  have hin : ∀ d j, K.contains d = true → nameOf (mergeOW K 0 ow ow1) d j = nameOf ow1 d j ∧ GM K G G1 d j = G1 d j := fun d j hd => ⟨nameOf_merge_in hlen hd j, GM_in hd j⟩
  have hout : ∀ d j, K.contains d = false → nameOf (mergeOW K 0 ow ow1) d j = nameOf ow d j ∧ GM K G G1 d j = G d j := fun d j hd => ⟨nameOf_merge_out hd j, GM_out hd j⟩
  -- who owns behind it
  have hown : ∀ b, Own (GM K G G1) (mergeOW K 0 ow ow1) b → (Own G1 ow1 b) ∨ (∃ d j i o, K.contains d = false ∧ isOwn (nameOf ow d j) ∧ G d j i = some (b, o)) := by
    intro b hb
    obtain ⟨d, j, i, o, h1, h2⟩ := own_iff.1 hb
    cases hd : K.contains d with
    | true => rw [(hin d j hd).1] at h1; rw [(hin d j hd).2] at h2; exact .inl (own_iff.2 ⟨d, j, i, o, h1, h2⟩)
    | false => rw [(hout d j hd).1] at h1; rw [(hout d j hd).2] at h2; exact .inr ⟨d, j, i, o, hd, h1, h2⟩
  have hkept : Kept (Own G ow) w w1 := ⟨ht.kept.size, fun b hb ho => ht.kept.heap b hb fun h => ho (own_of_mask h), ht.kept.cells, ht.kept.os, ht.kept.output, ht.kept.tape⟩
  have hokr : ∀ b r, okF F G ow b → rowCells w.heap b = some r → okF F (GM K G G1) (mergeOW K 0 ow ow1) b ∧ rowCells w1.heap b = some r := by
    intro b r hb hr
    have hlt := rowCells_lt hr
    refine ⟨⟨hb.1, fun h => ?_⟩, ?_⟩
    · rcases hown b h with h | ⟨d, j, i, o, _, h1, h2⟩
      · rcases ht.own b h with h | h
        · exact hb.2 (own_of_mask h)
        · omega
      · exact hb.2 (own_iff.2 ⟨d, j, i, o, h1, h2⟩)
    · unfold rowCells
      rw [hkept.heap b hlt hb.2]
      exact hr
  have hok1 : ∀ b r, okF (FM F G ow K) G1 ow1 b → rowCells w1.heap b = some r → okF F (GM K G G1) (mergeOW K 0 ow ow1) b ∧ rowCells w1.heap b = some r := by
    intro b r hb hr
    refine ⟨⟨fun h => hb.1 (.inl h), fun h => ?_⟩, hr⟩
    rcases hown b h with h | h
    · exact hb.2 h
    · exact hb.1 (.inr h)
  have hsz : ∀ b r, rowCells w.heap b = some r → ∃ r', rowCells w1.heap b = some r' ∧ r'.size = r.size := by
    intro b r hr
    unfold rowCells at hr
    split at hr
    · rename_i c et f hc
      cases hr
      obtain ⟨r', h1, h2⟩ := ht.kept.cells b _ _ _ hc
      exact ⟨r', by unfold rowCells; rw [h1], h2⟩
    · cases hr
  have hsv : ∀ s v, Sv F G ow w.heap s v → Sv F (GM K G G1) (mergeOW K 0 ow ow1) w1.heap s v := fun s v e => sv_across hh hs hsz ht.sv hin hout hokr e
  have hsv1 : ∀ s v f, svIn K f s = true → Sv (FM F G ow K) G1 ow1 w1.heap s v → Sv F (GM K G G1) (mergeOW K 0 ow ow1) w1.heap s v := fun s v f hf e =>
    sv_in (fun d j hd => (hin d j hd).1) (fun d j hd => (hin d j hd).2) hok1 e f hf
  -- what is owned elsewhere is as it was
  have hstay : ∀ d j i b o, K.contains d = false → isOwn (nameOf ow d j) → G d j i = some (b, o) → w1.heap[b]? = w.heap[b]? := by
    intro d j i b o hd h1 h2
    refine ht.kept.heap b (Own.lt hh (own_iff.2 ⟨d, j, i, o, h1, h2⟩)) fun h => ?_
    obtain ⟨d', j', i', o', hd', h3, h4⟩ := own_mask h
    obtain ⟨rfl, _⟩ := hh.apart d j i d' j' i' b o o' h1 h3 h2 h4
    rw [hd] at hd'; cases hd'
  refine ⟨⟨⟨fun d j o hn => ?_, fun d j i d' j' i' b o o' h1 h2 h3 h4 => ?_, fun b hb hf => ?_⟩, hsv, hkept, fun b hb => ?_, length_merge K ow ow1⟩, hsv1⟩
  · cases hd : K.contains d with
    | true =>
      rw [(hin d j hd).1] at hn
      refine ObRep.same (hin d j hd).2 (fun _ _ _ _ _ => rfl) hok1 (fun s hs v e => hsv1 s v 8 ?_ e) (ht.hrep.obs d j o hn)
      unfold nameOf at hn
      cases hl : ow1[d]? with
      | none => rw [hl] at hn; cases hn
      | some l =>
        rw [hl] at hn
        simp only [Option.bind_some] at hn
        have := frameOW_get K ow1 0 hK.1 d l hl
        simp only [Nat.zero_add, hd, if_true, List.all_eq_true] at this
        have := this _ (List.mem_of_getElem? hn)
        simp only [obIn, List.all_eq_true] at this
        exact this s hs
    | false =>
      rw [(hout d j hd).1] at hn
      exact ObRep.same (hout d j hd).2 (fun hi i b c hg => hstay d j i b c hd (by rw [hn]; exact hi) hg) hokr (fun s hs v e => hsv s v e) (hh.obs d j o hn)
  · cases hd : K.contains d with
    | true =>
      rw [(hin d j hd).1] at h1; rw [(hin d j hd).2] at h3
      cases hd' : K.contains d' with
      | true =>
        rw [(hin d' j' hd').1] at h2; rw [(hin d' j' hd').2] at h4
        exact ht.hrep.apart d j i d' j' i' b o o' h1 h2 h3 h4
      | false =>
        rw [(hout d' j' hd').1] at h2; rw [(hout d' j' hd').2] at h4
        exact absurd (.inr ⟨d', j', i', o', hd', h2, h4⟩) (ht.hrep.notF b (own_iff.2 ⟨d, j, i, o, h1, h3⟩))
    | false =>
      rw [(hout d j hd).1] at h1; rw [(hout d j hd).2] at h3
      cases hd' : K.contains d' with
      | true =>
        rw [(hin d' j' hd').1] at h2; rw [(hin d' j' hd').2] at h4
        exact absurd (.inr ⟨d, j, i, o, hd, h1, h3⟩) (ht.hrep.notF b (own_iff.2 ⟨d', j', i', o', h2, h4⟩))
      | false =>
        rw [(hout d' j' hd').1] at h2; rw [(hout d' j' hd').2] at h4
        exact hh.apart d j i d' j' i' b o o' h1 h2 h3 h4
  · rcases hown b hb with h | ⟨d, j, i, o, _, h1, h2⟩
    · exact ht.hrep.notF b h (.inl hf)
    · exact hh.notF b (own_iff.2 ⟨d, j, i, o, h1, h2⟩) hf
  · rcases hown b hb with h | ⟨d, j, i, o, _, h1, h2⟩
    · rcases ht.own b h with h | h
      · exact .inl (own_of_mask h)
      · exact .inr h
    · exact .inl (own_iff.2 ⟨d, j, i, o, h1, h2⟩)

theorem merge_mask (K : List Nat) (ow : OW) : mergeOW K 0 ow (maskOW K 0 ow) = ow := by
  apply List.ext_getElem?
  intro n
  rw [mergeOW_get, maskOW_get]
  cases ow[n]? with
  | none => rfl
  | some x =>
    simp only [Option.map_some, Nat.zero_add, Option.getD_some]
    cases hk : K.contains n with
    | true => simp only [if_true]
    | false => simp only [Bool.false_eq_true, if_false]

theorem GM_self (K : List Nat) (G : Gh) : GM K G G = G := by
  funext d j
  unfold GM
  split <;> rfl

/-- A step that turns nothing. -/
theorem tr_unmask_read (hh : HRep F G ow w.heap) (hF : ∀ b, F b → b < w.heap.size) (hs : smallOW ow = true) (ht : Tr (FM F G ow K) G (maskOW K 0 ow) w G (maskOW K 0 ow) w1) (hK : okM K (maskOW K 0 ow) = true) :
    Tr F G ow w G ow w1 ∧ ∀ s v f, svIn K f s = true → Sv (FM F G ow K) G (maskOW K 0 ow) w1.heap s v → Sv F G ow w1.heap s v := by
  have := tr_unmask hh hF hs ht hK
  rw [merge_mask, GM_self] at this
  exact this

end
end Go.Pev
end
