/-
  PEV, part 10: new things; data taken out of what is owned.
-/
import Derived.Test.YtgajbbadidobfaaDoorPevTr
import Derived.Laws.MakeOwn
namespace Go.Pev

/-- What an operation that may write comes to. -/
def Res (P : Program) (F : Nat → Prop) (G : Gh) (ow : OW) (w : World) (Q : SV × OW → Prop) (c : Sem Value) : Prop :=
  ∃ s ow' v w' G', Q (s, ow') ∧ c.run P w = .ok v w' ∧ Tr F G ow w G' ow' w' ∧ Sv F G' ow' w'.heap s v

section
variable {F : Nat → Prop} {G : Gh} {ow ow' : OW} {w : World} {P : Program}

theorem nameOf_new {d : Nat} {ob : OB} (hn : newObs ow d [ob] = some ow') : nameOf ow' d 0 = some (some ob) := by
  obtain ⟨_, _, h⟩ := newObs_some hn
  rw [h]; simp

/-- A new box. -/
theorem res_box (hh : HRep F G ow w.heap) (hF : ∀ b, F b → b < w.heap.size) {d : Nat} {cells : List SV} {vs : List Value} (hc : Svs F G ow w.heap cells vs) (hn : newObs ow d [.box cells] = some ow') (et : TypeId) :
    Tr F G ow w (G.new d fun _ => some (w.heap.size, 0)) ow' (w.alloc (.cells vs.toArray et)) ∧ Sv F (G.new d fun _ => some (w.heap.size, 0)) ow' (w.alloc (.cells vs.toArray et)).heap (.bp d 0 0) (.pointer (some ⟨w.heap.size, 0, none⟩)) := by
  have hg : (G.new d fun _ => some (w.heap.size, 0)) d 0 = some (w.heap.size, 0) := by simp [Gh.new]
  refine ⟨tr_alloc hh hF hn rfl rfl rfl rfl _ 0 fun hsv _ => ?_, ?_⟩
  · exact ⟨w.heap.size, 0, vs.toArray, et, hg, heap_alloc_new _ _, by simp [hc.1], fun i hi hr => by
      have := hsv _ _ (hc.2 i hi (hc.1 ▸ hi))
      simpa [Sv] using this⟩
  · refine .bp ?_
    rw [nameOf_new hn]
    exact ⟨_, _, hg, rfl⟩

theorem evAlloc_sound {t : TypeId} {d : Nat} (hh : HRep F G ow w.heap) (hF : ∀ b, F b → b < w.heap.size) {cells : List SV} (hz : zeroCells P t = some cells) (hn : newObs ow d [.box cells] = some ow') {Q : SV × OW → Prop} (hq : Q (.bp d 0 0, ow')) :
    Res P F G ow w Q (Instr.alloc t true (.tuple #[])) := by
  obtain ⟨i, z, hi, hiz, _, hzs⟩ := zeroCells_sound (F := F) (G := G) (ow := ow) (w := w) hz
  obtain ⟨h1, h2⟩ := res_box hh hF hzs hn t
  rw [Array.toArray_toList] at h1 h2
  exact ⟨_, _, _, _, _, hq, by simp [Instr.alloc, run_zeroValue hi hiz, newVar, newRow], h1, h2⟩

theorem evBox_sound {t : TypeId} {d : Nat} {x : SV} {xv : Value} (hh : HRep F G ow w.heap) (hF : ∀ b, F b → b < w.heap.size) (hx : Sv F G ow w.heap x xv) {cells : List SV} (hz : cellsOfSV P t x = some cells) (hn : newObs ow d [.box cells] = some ow')
    {Q : SV × OW → Prop} (hq : Q (.bp d 0 0, ow')) : Res P F G ow w Q (Instr.box t xv) := by
  obtain ⟨vs, hv, hvs, _, _⟩ := cellsOfSV_sound hx hz
  obtain ⟨h1, h2⟩ := res_box hh hF hvs hn t
  exact ⟨_, _, _, _, _, hq, by simp [Instr.box, newVar, newRow, hv], h1, h2⟩

/-! ### Rows frozen -/

theorem frz_tr (hh : HRep F G ow w.heap) (hF : ∀ b, F b → b < w.heap.size) (d j : Nat) : Tr F G ow w G (frzOb ow d j) w := by
  unfold frzOb
  split
  · rename_i k ver l hg
    have hn := nameOf_of_getOb hg
    have hnn : nameOf ow d j ≠ none := by rw [hn]; simp
    have hnm := fun d' j' => nameOf_putOb (o := some (.frow k ver l)) (d' := d') (j' := j') hnn
    have hown : ∀ {d' j'}, isOwn (nameOf (putOb ow d j (some (.frow k ver l))) d' j') → ¬ (d' = d ∧ j' = j) ∧ isOwn (nameOf ow d' j') := by
      intro d' j' hi
      rw [hnm] at hi
      split at hi
      · exact hi.elim
      · exact ⟨by assumption, hi⟩
    have hle : ∀ b, Own G (putOb ow d j (some (.frow k ver l))) b → Own G ow b := by
      intro b hb
      obtain ⟨d', j', o', hi, hg'⟩ := own_iff.1 hb
      exact own_iff.2 ⟨d', j', o', (hown hi).2, hg'⟩
    refine tr_of hh hF (fun _ _ _ => rfl) (fun d' j' => ?_) (.refl _ _) (fun b hb => .inl (hle b hb)) (fun b r _ hr => ⟨r, hr, rfl⟩) (fun d' j' o hx => ?_) (fun d1 j1 d2 j2 b o1 o2 h1 h2 => hh.apart d1 j1 d2 j2 b o1 o2 (hown h1).2 (hown h2).2) length_putOb
    · rw [hnm]
      split
      · rename_i e; rw [e.1, e.2, hn]; exact ⟨rfl, rfl⟩
      · exact .refl _
    · rw [hnm] at hx
      split at hx
      · rename_i e
        obtain ⟨rfl, rfl⟩ := e
        cases hx
        right
        intro _ hok
        obtain ⟨hk, ho⟩ := hh.obs d' j' _ hn
        refine ⟨hk, ?_⟩
        cases hgg : G d' j' with
        | none => simpa [hgg] using ho
        | some p =>
          obtain ⟨b, o⟩ := p
          simp only [hgg] at ho
          obtain ⟨r, et, hr, he⟩ := ho
          have hob : Own G ow b := own_iff.2 ⟨d', j', o, by rw [hn]; trivial, hgg⟩
          refine .inr ⟨⟨hh.notF b hob, fun hb => ?_⟩, r, rowCells_of hr, he.mono fun x cs hx => Rep.mono hok _ hx⟩
          obtain ⟨d2, j2, o2, hi, hg2⟩ := own_iff.1 hb
          obtain ⟨h1, h2⟩ := hown hi
          exact h1 ⟨(hh.apart d' j' d2 j2 b o o2 (by rw [hn]; trivial) h2 hgg hg2).1.symm, (hh.apart d' j' d2 j2 b o o2 (by rw [hn]; trivial) h2 hgg hg2).2.symm⟩
      · exact .inl ⟨hx, fun _ _ _ _ => rfl⟩
  · exact .refl hh

theorem ok_tr {G' : Gh} {w' : World} (h : Tr F G ow w G' ow' w') (b : Nat) (r : Array Value) (hb : okF F G ow b) (hr : rowCells w.heap b = some r) : okF F G' ow' b ∧ rowCells w'.heap b = some r :=
  ok_kept h.kept h.own b r hb hr

/-- A cell's Rep. -/
theorem toLeaf_sound (hh : HRep F G ow w.heap) (hF : ∀ b, F b → b < w.heap.size) {k : Kd} {s : SV} {v : Value} (hs : Sv F G ow w.heap s v) {x : k.T} (h : toLeaf k s ow = some (x, ow')) :
    Tr F G ow w G ow' w ∧ Rep w.heap (okF F G ow') k x [v] := by
  unfold toLeaf at h
  split at h
  · rename_i k' y
    split at h
    · rename_i e
      subst e
      cases h
      cases hs with
      | v _ hy => exact ⟨.refl hh, hy⟩
    · cases h
  · split at h
    · cases h
      cases hs
      exact ⟨.refl hh, rfl⟩
    · cases h
  · split at h
    · cases h
      cases hs
      exact ⟨.refl hh, ⟨_, _, rfl, Nat.le_refl _, .inl rfl⟩⟩
    · cases h
  · split at h
    · rename_i e
      split at h
      · rename_i d j r hkey hrow
        split at h
        · rename_i he
          subst he
          simp only [Option.some.injEq, Prod.mk.injEq] at h
          obtain ⟨h1, rfl⟩ := h
          have ht := frz_tr hh hF d j
          refine ⟨ht, ?_⟩
          obtain ⟨d', j', ver, l0, hk', hn, hgood, a, c, rfl, hlc, hx⟩ := rowOf_sound hh hs hrow
          rw [hkey] at hk'
          cases hk'
          have h1 : x = r.2 := by rw [← h1]; rfl
          subst h1
          refine ⟨a, c, rfl, hlc, ?_⟩
          rcases hx with hx | ⟨b, o, rw_, ⟨o', hg⟩, ha, hr, hel, hok⟩
          · exact .inl hx
          · refine .inr ⟨b, o, rw_, ha, ?_, hr, hel.mono fun x cs hx => Rep.mono (ok_tr ht) _ hx⟩
            rcases hn with hn | hn
            · have hob : Own G ow b := own_iff.2 ⟨d, j, o', by rw [hn]; trivial, hg⟩
              refine ⟨hh.notF b hob, fun hb => ?_⟩
              obtain ⟨d2, j2, o2, hi, hg2⟩ := own_iff.1 hb
              have hgo : getOb ow d j = some (.row r.1 ver l0) := by rw [getOb_eq, hn]; rfl
              unfold frzOb at hi
              simp only [hgo] at hi
              rw [nameOf_putOb (by rw [hn]; simp)] at hi
              split at hi
              · exact hi.elim
              · rename_i hne
                have := hh.apart d j d2 j2 b o' o2 (by rw [hn]; trivial) hi hg hg2
                exact hne ⟨this.1.symm, this.2.symm⟩
            · have hir : isRow ow d j = false := by unfold isRow; rw [getOb_eq, hn]; rfl
              exact (ok_tr ht b rw_ (hok hir) hr).1
        · cases h
      · cases h
    · cases h

theorem toCells_sound (hF : ∀ b, F b → b < w.heap.size) : (k : Kd) → {ow ow' : OW} → (hh : HRep F G ow w.heap) → {l : List SV} → {vs : List Value} → Svs F G ow w.heap l vs → {x : k.T} → toCells k l ow = some (x, ow') →
    Tr F G ow w G ow' w ∧ Rep w.heap (okF F G ow') k x vs
  | .cons a b, ow, ow', hh, l, vs, hl, x, h => by
    cases l with
    | nil => simp [toCells] at h
    | cons s r =>
      simp only [toCells] at h
      obtain ⟨v, vs', rfl, hv, hvs⟩ := hl.uncons
      split at h
      · rename_i y hy
        split at h
        · rename_i z hz
          cases h
          obtain ⟨t1, r1⟩ := toLeaf_sound (x := y.1) (ow' := y.2) hh hF hv hy
          obtain ⟨t2, r2⟩ := toCells_sound hF b (x := z.1) (ow' := z.2) t1.hrep ⟨hvs.1, fun i h1 h2 => t1.sv _ _ (hvs.2 i h1 h2)⟩ hz
          exact ⟨t1.trans t2, [v], vs', rfl, Rep.mono (ok_tr t2) _ r1, r2⟩
        · cases h
      · cases h
  | .nil, ow, ow', hh, l, vs, hl, x, h => by
    cases l with
    | nil =>
      simp only [toCells, Option.some.injEq, Prod.mk.injEq] at h
      obtain ⟨_, rfl⟩ := h
      have : vs = [] := List.eq_nil_of_length_eq_zero hl.1.symm
      subst this
      exact ⟨.refl hh, rfl⟩
    | cons s r => simp [toCells] at h
  | .int _, _, _, _, _, _, _, _, h => by simp [toCells] at h
  | .bool, _, _, _, _, _, _, _, h => by simp [toCells] at h
  | .str, _, _, _, _, _, _, _, h => by simp [toCells] at h
  | .err, _, _, _, _, _, _, _, h => by simp [toCells] at h
  | .any, _, _, _, _, _, _, _, h => by simp [toCells] at h
  | .sl _ _, _, _, _, _, _, _, _, h => by simp [toCells] at h
  | .tree _, _, _, _, _, _, _, _, h => by simp [toCells] at h

theorem toLeaf_one {k : Kd} {s : SV} {x : k.T} (h : toLeaf k s ow = some (x, ow')) : cellOk s = true := by
  unfold toLeaf at h
  split at h
  · rfl
  · rfl
  · rfl
  · split at h
    · split at h
      · rename_i hkey _
        unfold keyOf at hkey
        split at hkey
        · rfl
        · rfl
        · cases hkey
      · cases h
    · cases h

theorem toPay_sound (hh : HRep F G ow w.heap) (hF : ∀ b, F b → b < w.heap.size) {k : Kd} {s : SV} {v : Value} (hs : Sv F G ow w.heap s v) {x : k.T} (h : toPay k s ow = some (x, ow')) :
    Tr F G ow w G ow' w ∧ Rep w.heap (okF F G ow') k x v.cells.toList ∧ (if k.isSt then ∃ cs, v = .agg cs else v.oneCell' = true) := by
  unfold toPay at h
  split at h
  · rename_i hk
    split at h
    · rename_i l
      obtain ⟨vs, rfl, hvs⟩ := hs.agg_inv
      obtain ⟨t, r⟩ := toCells_sound hF k hh hvs h
      exact ⟨t, r, by simp [hk]⟩
    · cases h
  · rename_i hk
    obtain ⟨t, r⟩ := toLeaf_sound hh hF hs h
    have h1 := one_of hs (toLeaf_one h)
    exact ⟨t, by rw [cells_of_one h1]; exact r, by simp [hk, h1]⟩

theorem toPays_sound (hF : ∀ b, F b → b < w.heap.size) {k : Kd} : (l : List SV) → {ow ow' : OW} → (hh : HRep F G ow w.heap) → {vs : List Value} → Svs F G ow w.heap l vs → {xs : List k.T} → toPays k l ow = some (xs, ow') →
    Tr F G ow w G ow' w ∧ xs.length = vs.length ∧ ∀ i (h1 : i < xs.length) (h2 : i < vs.length), Rep w.heap (okF F G ow') k xs[i] (vs[i]).cells.toList
  | [], ow, ow', hh, vs, hl, xs, h => by
    simp only [toPays, Option.some.injEq, Prod.mk.injEq] at h
    obtain ⟨rfl, rfl⟩ := h
    exact ⟨.refl hh, hl.1, fun i h1 => by simp at h1⟩
  | s :: r, ow, ow', hh, vs, hl, xs, h => by
    simp only [toPays] at h
    obtain ⟨v, vs', rfl, hv, hvs⟩ := hl.uncons
    split at h
    · rename_i y hy
      split at h
      · rename_i z hz
        cases h
        obtain ⟨t1, r1, _⟩ := toPay_sound (x := y.1) (ow' := y.2) hh hF hv hy
        obtain ⟨t2, e, r2⟩ := toPays_sound hF r (xs := z.1) (ow' := z.2) t1.hrep ⟨hvs.1, fun i h1 h2 => t1.sv _ _ (hvs.2 i h1 h2)⟩ hz
        refine ⟨t1.trans t2, by simp [e], fun i h1 h2 => ?_⟩
        cases i with
        | zero => exact Rep.mono (ok_tr t2) _ r1
        | succ i => exact r2 i (by simpa using h1) (by simpa using h2)
      · cases h
    · cases h

/-! ### Rows made -/

theorem ElemsR.congr {α : Type} {R : α → List Value → Prop} {n : Nat} {l : List α} {r r' : Array Value} {o o' : Nat} (h : ElemsR R n l r o) (hs : o' + l.length * n ≤ r'.size) (he : sub r' o' (l.length * n) = sub r o (l.length * n)) : ElemsR R n l r' o' := by
  refine ⟨hs, fun i hi => ?_⟩
  have hb : i * n + n ≤ l.length * n := by
    have : (i + 1) * n ≤ l.length * n := Nat.mul_le_mul_right _ hi
    rw [Nat.add_mul, Nat.one_mul] at this
    exact this
  rw [sub_sub hb, he, ← sub_sub hb]
  exact h.2 i hi

theorem ElemsR.append {α : Type} {R : α → List Value → Prop} {n : Nat} {l l' : List α} {r : Array Value} {o : Nat} (h : ElemsR R n l r o) (h' : ElemsR R n l' r (o + l.length * n)) : ElemsR R n (l ++ l') r o := by
  refine ⟨by have := h'.1; simp [Nat.add_mul]; omega, fun i hi => ?_⟩
  by_cases hl : i < l.length
  · rw [List.getElem_append_left hl]
    exact h.2 i hl
  · rw [List.getElem_append_right (by omega)]
    have := h'.2 (i - l.length) (by simp at hi; omega)
    rw [Nat.add_assoc, ← Nat.add_mul, show l.length + (i - l.length) = i by omega] at this
    exact this

theorem elemOk_some {e : TypeId} {k : Kd} (h : elemOk P e k = true) : k.good = true ∧ 0 < k.n ∧ k.n = sizeT P e ∧ 0 < bytesT P e ∧ ∃ i z, P.info? e = some i ∧ i.zero = some z ∧ i.size = k.n ∧ bytesT P e = i.bytes ∧ z.cells.size = k.n := by
  unfold elemOk at h
  simp only [Bool.and_eq_true, decide_eq_true_eq] at h
  obtain ⟨⟨⟨⟨h1, h2⟩, h3⟩, h4⟩, h5⟩ := h
  refine ⟨h1, h2, h3, h4, ?_⟩
  split at h5
  · rename_i z hz
    simp only [Option.bind_eq_some_iff] at hz
    obtain ⟨i, hi, hz⟩ := hz
    exact ⟨i, z, hi, hz, by rw [h3]; simp [sizeT, Program.cellsOf, hi], by simp [bytesT, Program.bytesOf, hi], of_decide_eq_true h5⟩
  · cases h5

/-- A new row in a new block. -/
theorem res_row (hh : HRep F G ow w.heap) (hF : ∀ b, F b → b < w.heap.size) {d : Nat} {k : Kd} {l : List k.T} {r : Array Value} (hk : k.good = true) (hel : ElemsR (fun x cs => Rep w.heap (okF F G ow) k x cs) k.n l r 0) (hn : newObs ow d [.row k 0 l] = some ow') (et : TypeId) {c : Nat} (hlc : l.length ≤ c) (hc : c * k.n ≤ r.size)
    {w1 : World} (h1 : w1.heap = w.heap) (hos : w1.os = w.os) (hout : w1.output = w.output) (htape : w1.tape = w.tape) :
    Tr F G ow w (G.new d fun _ => some (w.heap.size, 0)) ow' (w1.alloc (.cells r et)) ∧ Sv F (G.new d fun _ => some (w.heap.size, 0)) ow' (w1.alloc (.cells r et)).heap (.wh d 0 0 []) (.slice (some ⟨w.heap.size, 0, none⟩) l.length c) := by
  have hg : (G.new d fun _ => some (w.heap.size, 0)) d 0 = some (w.heap.size, 0) := by simp [Gh.new]
  have hnew : (w1.alloc (.cells r et)).heap[w.heap.size]? = some (.cells r et) := by rw [← h1]; exact heap_alloc_new _ _
  refine ⟨tr_alloc hh hF hn h1 hos hout htape _ 0 fun hsv hok => ⟨hk, ?_⟩, .wh ?_⟩
  · simp only [hg]
    exact ⟨r, et, hnew, hel.mono fun x cs hx => Rep.mono hok _ hx⟩
  · simp only [HandR, nameOf_new hn, Option.getD_none]
    exact ⟨by omega, _, _, rfl, hlc, .inr ⟨w.heap.size, 0, 0, r, hg, rfl, rowCells_of hnew, fun _ => by simp, by simpa using hc⟩⟩

end
end Go.Pev
