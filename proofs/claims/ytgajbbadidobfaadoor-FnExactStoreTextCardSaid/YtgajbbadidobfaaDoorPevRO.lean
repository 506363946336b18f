/-
  PEV, part 4: operations that only read: what the evaluator says of them, the machine does.
-/
import Derived.Test.YtgajbbadidobfaaDoorPevRep
import Derived.Deep.MidRow
import Derived.Deep.AppendSrc
namespace Go.Pev

/-- Whatever may come out meets Q. -/
def Cmd.can {β : Type} : Cmd β → (β → Prop) → Prop
  | .ret b, Q => Q b
  | .fail, _ => False
  | .chk c t, Q => c = true ∧ t.can Q
  | .bnd _ m f, Q => ∃ y, m = some y ∧ (f y).can Q
  | .amb c f g, Q => if c = true then f.can Q ∧ g.can Q else g.can Q

theorem agree_some {α : Type} {x y : Option α} {r : α} (h : agree x y = some r) : x = some r ∧ y = some r := by
  unfold agree at h
  split at h
  · rename_i e; exact ⟨h, e ▸ h⟩
  · cases h

theorem Cmd.can_of_run {α β : Type} {n : Nat} {k : β → Option α} {r : α} : (c : Cmd β) → c.run n k = some r → c.can fun b => k b = some r
  | .ret _, h => h
  | .fail, h => by cases h
  | .chk c t, h => by
    rw [Cmd.run, br_eq] at h
    cases c with
    | false => cases h
    | true => exact ⟨rfl, Cmd.can_of_run t h⟩
  | .bnd _ m f, h => by
    rw [Cmd.run, bd_eq] at h
    cases m with
    | none => cases h
    | some y => exact ⟨y, rfl, Cmd.can_of_run (f y) h⟩
  | .amb c f g, h => by
    rw [Cmd.run, br_eq] at h
    cases c with
    | false => exact Cmd.can_of_run g h
    | true =>
      obtain ⟨h1, h2⟩ := agree_some (x := f.run n k) (y := g.run n k) h
      exact ⟨Cmd.can_of_run f h1, Cmd.can_of_run g h2⟩

theorem Cmd.can_of_runA {α β : Type} {n : Nat} {k : β → Option α} {r : α} : (c : Cmd β) → c.runA n k = some r → c.can fun b => k b = some r
  | .ret _, h => h
  | .fail, h => by cases h
  | .chk c t, h => by
    rw [Cmd.runA, br_eq] at h
    cases c with
    | false => cases h
    | true => exact ⟨rfl, Cmd.can_of_runA t h⟩
  | .bnd _ m f, h => by
    rw [Cmd.runA, bd_eq] at h
    cases m with
    | none => cases h
    | some y => exact ⟨y, rfl, Cmd.can_of_runA (f y) h⟩
  | .amb _ _ _, h => by cases h

theorem Cmd.can_bind {β γ : Type} {Q : γ → Prop} {f : β → Cmd γ} : (c : Cmd β) → (c.bind f).can Q → c.can fun b => (f b).can Q
  | .ret _, h => h
  | .fail, h => h
  | .chk _ t, h => ⟨h.1, Cmd.can_bind t h.2⟩
  | .bnd _ _ g, h => by obtain ⟨y, hy, h⟩ := h; exact ⟨y, hy, Cmd.can_bind (g y) h⟩
  | .amb c f g, h => by
    cases c with
    | false => exact Cmd.can_bind g h
    | true => exact ⟨Cmd.can_bind f h.1, Cmd.can_bind g h.2⟩

theorem Cmd.can_mono {β : Type} {Q Q' : β → Prop} (hq : ∀ b, Q b → Q' b) : (c : Cmd β) → c.can Q → c.can Q'
  | .ret _, h => hq _ h
  | .fail, h => h
  | .chk _ t, h => ⟨h.1, Cmd.can_mono hq t h.2⟩
  | .bnd _ _ g, h => by obtain ⟨y, hy, h⟩ := h; exact ⟨y, hy, Cmd.can_mono hq (g y) h⟩
  | .amb c f g, h => by
    cases c with
    | false => exact Cmd.can_mono hq g h
    | true => exact ⟨Cmd.can_mono hq f h.1, Cmd.can_mono hq g h.2⟩

theorem Cmd.can_ofOpt {β : Type} {Q : β → Prop} {o : Option β} (h : (Cmd.ofOpt o).can Q) : ∃ b, o = some b ∧ Q b := by
  cases o with
  | none => exact h.elim
  | some b => exact ⟨b, rfl, h⟩

/-! ### Cells -/

theorem sub_length {r : Array Value} {o n : Nat} (h : o + n ≤ r.size) : (sub r o n).length = n := by simp [sub]; omega

theorem sub_getElem {r : Array Value} {o n i : Nat} (h : i < n) : (sub r o n)[i]? = r[o + i]? := by
  simp [sub, h]

theorem sub_sub {r : Array Value} {o n p m : Nat} (h : p + m ≤ n) : sub r (o + p) m = ((sub r o n).drop p).take m := by
  simp only [sub, List.drop_take, List.drop_drop, List.take_take]
  congr 1
  omega

theorem rowCells_cell {w : World} {b : Nat} {r : Array Value} (h : rowCells w.heap b = some r) (i : Nat) : w.cell? ⟨b, i, none⟩ = r[i]? := by
  unfold rowCells at h
  unfold World.cell?
  split at h
  · rename_i c _ _ e; cases h; simp [e]
  · cases h

theorem rowCells_of {h : Array Obj} {b : Nat} {r : Array Value} {e : TypeId} {f : Nat × Nat} (hb : h[b]? = some (.cells r e f)) : rowCells h b = some r := by simp [rowCells, hb]

theorem rangeAt_sub {w : World} {b o n : Nat} {r : Array Value} (h : rowCells w.heap b = some r) : w.rangeAt b o (sub r o n) := by
  intro j v hv
  rw [rowCells_cell h]
  have hj : j < n := by
    rcases Nat.lt_or_ge j n with h' | h'
    · exact h'
    · rw [List.getElem?_eq_none (by simp [sub]; omega)] at hv; cases hv
  rw [sub_getElem hj] at hv
  exact hv

/-- A value of these cells. -/
def valOf (agg : Bool) (cs : List Value) : Value := if agg then .agg cs.toArray else cs.headD undef

theorem isAggT_run {P : Program} {t : TypeId} {d : TypeDesc} (hu : P.underlying t = some d) (w : World) : (isAgg t).run P w = .ok (isAggT P t) w := by
  unfold isAgg isAggT undl
  rw [Sem.run_bind, run_underlying hu w]
  cases d <;> simp [hu]

theorem sizeT_run {P : Program} {t : TypeId} {i : TypeInfo} (hi : P.info? t = some i) (w : World) : (sizeOf t).run P w = .ok (sizeT P t) w := by
  simp [sizeOf, typeInfo, hi, sizeT, Program.cellsOf]

theorem info_of_underlying {P : Program} {t : TypeId} {d : TypeDesc} (hu : P.underlying t = some d) : ∃ i, P.info? t = some i := by
  unfold Program.underlying at hu
  cases h : P.info? t with
  | none => simp [h] at hu
  | some i => exact ⟨i, rfl⟩

/-- A load of cells that are there. -/
theorem run_load_cells {P : Program} {w : World} {t : TypeId} {d : TypeDesc} {b o n : Nat} {r : Array Value} (hu : P.underlying t = some d) (hr : rowCells w.heap b = some r)
    (hn : n = if isAggT P t then sizeT P t else 1) (hs : o + n ≤ r.size) : (Instr.loadAt t (.pointer (some ⟨b, o, none⟩))).run P w = .ok (valOf (isAggT P t) (sub r o n)) w := by
  obtain ⟨i, hi⟩ := info_of_underlying hu
  cases ha : isAggT P t with
  | true =>
    simp only [ha, if_true] at hn
    rw [run_loadAt_mid w b o t (sub r o n) d (rangeAt_sub hr) hu (by unfold isAggT undl at ha; rw [hu] at ha; cases d <;> simp_all [TypeDesc.isRow]) (by rw [sub_length hs, hi, hn]; simp [sizeT, Program.cellsOf, hi])]
    simp [valOf]
  | false =>
    simp only [ha, Bool.false_eq_true, if_false] at hn
    subst hn
    have hc : w.cell? ⟨b, o, none⟩ = some (r[o]'(by omega)) := by rw [rowCells_cell hr]; simp
    have hv : sub r o 1 = [r[o]'(by omega)] := by
      apply List.ext_getElem?
      intro j
      cases j with
      | zero => rw [sub_getElem (by omega)]; simp
      | succ j => simp [sub]; omega
    simp [Instr.loadAt, Instr.sureAddr, loadVar, isAggT_run hu, ha, valOf, run_load, hc, hv, Result.andThen]

/-! ### Values of cells -/

section
variable {F : Nat → Prop} {G : Gh} {ow : OW} {w : World} {P : Program}

theorem Svs.nil : Svs F G ow w.heap [] [] := ⟨rfl, fun i h => by simp at h⟩

theorem Svs.cons {s : SV} {l : List SV} {v : Value} {vs : List Value} (h : Sv F G ow w.heap s v) (hs : Svs F G ow w.heap l vs) : Svs F G ow w.heap (s :: l) (v :: vs) :=
  ⟨by simp [hs.1], fun i h1 h2 => by
    cases i with
    | zero => exact h
    | succ i => exact hs.2 i (by simpa using h1) (by simpa using h2)⟩

theorem Svs.uncons {s : SV} {l : List SV} {vs : List Value} (hs : Svs F G ow w.heap (s :: l) vs) : ∃ v vs', vs = v :: vs' ∧ Sv F G ow w.heap s v ∧ Svs F G ow w.heap l vs' := by
  obtain ⟨hl, h⟩ := hs
  cases vs with
  | nil => simp at hl
  | cons v vs' => exact ⟨v, vs', rfl, h 0 (by simp) (by simp), by simpa using hl, fun i h1 h2 => h (i + 1) (by simpa using h1) (by simpa using h2)⟩

theorem Svs.drop {l : List SV} {vs : List Value} (hs : Svs F G ow w.heap l vs) (n : Nat) : Svs F G ow w.heap (l.drop n) (vs.drop n) :=
  ⟨by simp [hs.1], fun i h1 h2 => by simp only [List.getElem_drop]; exact hs.2 _ _ _⟩

theorem Svs.take {l : List SV} {vs : List Value} (hs : Svs F G ow w.heap l vs) (n : Nat) : Svs F G ow w.heap (l.take n) (vs.take n) :=
  ⟨by simp [hs.1], fun i h1 h2 => by simp only [List.getElem_take]; exact hs.2 _ _ _⟩

theorem Svs.append {l l' : List SV} {vs vs' : List Value} (hs : Svs F G ow w.heap l vs) (hs' : Svs F G ow w.heap l' vs') : Svs F G ow w.heap (l ++ l') (vs ++ vs') := by
  refine ⟨by simp [hs.1, hs'.1], fun i h1 h2 => ?_⟩
  rcases Nat.lt_or_ge i l.length with h | h
  · rw [List.getElem_append_left h, List.getElem_append_left (hs.1 ▸ h)]
    exact hs.2 _ _ _
  · rw [List.getElem_append_right h, List.getElem_append_right (hs.1 ▸ h)]
    simp only [hs.1]
    exact hs'.2 _ _ _

theorem Svs.agg {l : List SV} {vs : List Value} (hs : Svs F G ow w.heap l vs) : Sv F G ow w.heap (.agg l) (.agg vs.toArray) := .agg hs.1 hs.2

theorem Sv.agg_inv {l : List SV} {v : Value} (h : Sv F G ow w.heap (.agg l) v) : ∃ vs, v = .agg vs.toArray ∧ Svs F G ow w.heap l vs := by
  cases h with
  | agg h1 h2 => exact ⟨_, rfl, h1, h2⟩

theorem Sv.tup_inv {l : List SV} {v : Value} (h : Sv F G ow w.heap (.tup l) v) : ∃ vs, v = .tuple vs.toArray ∧ Svs F G ow w.heap l vs := by
  cases h with
  | tup h1 h2 => exact ⟨_, rfl, h1, h2⟩

/-- A chain's cells. -/
theorem svs_cellsS : (k : Kd) → {x : k.T} → {cs : List Value} → (k.leafy = true) → Rep w.heap (okF F G ow) k x cs → Svs F G ow w.heap (cellsS k x) cs
  | .nil, _, _, _, e => by cases e; exact .nil
  | .cons a b, x, cs, hk, e => by
    obtain ⟨c1, c2, rfl, e1, e2⟩ := e
    simp only [Kd.leafy, Bool.and_eq_true, Bool.not_eq_true'] at hk
    have hl := Rep.length a e1
    have h1 : a.n = 1 := by cases a <;> simp_all [Kd.n, Kd.isSt]
    obtain ⟨v, rfl⟩ : ∃ v, c1 = [v] := by
      match c1, hl with
      | [v], _ => exact ⟨v, rfl⟩
      | [], hl => simp [h1] at hl
      | _ :: _ :: _, hl => simp [h1] at hl
    exact .cons (.v hk.1 e1) (svs_cellsS b hk.2 e2)
  | .int _, _, _, hk, _ => by cases hk
  | .bool, _, _, hk, _ => by cases hk
  | .str, _, _, hk, _ => by cases hk
  | .err, _, _, hk, _ => by cases hk
  | .any, _, _, hk, _ => by cases hk
  | .sl _ _, _, _, hk, _ => by cases hk
  | .tree _, _, _, hk, _ => by cases hk

theorem ch_rep {h : Array Obj} {ok : Nat → Prop} : (k : Kd) → {x : k.T} → {cs : List Value} → Rep h ok k x cs → Rep h ok k.ch (chT k x) cs
  | .int _, _, cs, e => ⟨cs, [], by simp, e, rfl⟩
  | .bool, _, cs, e => ⟨cs, [], by simp, e, rfl⟩
  | .str, _, cs, e => ⟨cs, [], by simp, e, rfl⟩
  | .err, _, cs, e => ⟨cs, [], by simp, e, rfl⟩
  | .any, _, cs, e => ⟨cs, [], by simp, e, rfl⟩
  | .sl _ _, _, cs, e => ⟨cs, [], by simp, e, rfl⟩
  | .nil, _, _, e => e
  | .cons _ _, _, _, e => e
  | .tree _, _, cs, e => ⟨cs, [], by simp, e, rfl⟩

theorem ch_n (k : Kd) : k.ch.n = k.n := by cases k <;> simp [Kd.ch, Kd.isSt, Kd.n]

theorem dropK_rep {h : Array Obj} {ok : Nat → Prop} : (k : Kd) → k.leafy = true → {x : k.T} → {cs : List Value} → (c : Nat) → {y : Sigma Kd.T} → dropK k x c = some y → Rep h ok k x cs →
    c + y.1.n = k.n ∧ y.1.leafy = true ∧ Rep h ok y.1 y.2 (cs.drop c)
  | k, hk, x, cs, 0, y, hy, e => by
    have : y = ⟨k, x⟩ := by unfold dropK at hy; cases k <;> simp_all
    subst this
    exact ⟨by simp, hk, by simpa using e⟩
  | .cons a b, hk, x, cs, c + 1, y, hy, e => by
    obtain ⟨c1, c2, rfl, e1, e2⟩ := e
    simp only [Kd.leafy, Bool.and_eq_true, Bool.not_eq_true'] at hk
    have hl := Rep.length a e1
    have h1 : a.n = 1 := by cases a <;> simp_all [Kd.n, Kd.isSt]
    obtain ⟨v, rfl⟩ : ∃ v, c1 = [v] := by
      match c1, hl with
      | [v], _ => exact ⟨v, rfl⟩
      | [], hl => simp [h1] at hl
      | _ :: _ :: _, hl => simp [h1] at hl
    obtain ⟨r1, r2, r3⟩ := dropK_rep b hk.2 c (by simpa [dropK] using hy) e2
    exact ⟨by simp only [Kd.n, h1]; omega, r2, by simpa using r3⟩
  | .nil, _, _, _, _ + 1, _, hy, _ => by simp [dropK] at hy
  | .int _, hk, _, _, _ + 1, _, _, _ => by cases hk
  | .bool, hk, _, _, _ + 1, _, _, _ => by cases hk
  | .str, hk, _, _, _ + 1, _, _, _ => by cases hk
  | .err, hk, _, _, _ + 1, _, _, _ => by cases hk
  | .any, hk, _, _, _ + 1, _, _, _ => by cases hk
  | .sl _ _, hk, _, _, _ + 1, _, _, _ => by cases hk
  | .tree _, hk, _, _, _ + 1, _, _, _ => by cases hk

theorem cellsS_length : (k : Kd) → k.leafy = true → (x : k.T) → (cellsS k x).length = k.n
  | .nil, _, _ => rfl
  | .cons a b, hk, x => by
    simp only [Kd.leafy, Bool.and_eq_true, Bool.not_eq_true'] at hk
    have h1 : a.n = 1 := by cases a <;> simp_all [Kd.n, Kd.isSt]
    simp [cellsS, Kd.n, h1, cellsS_length b hk.2]; omega
  | .int _, hk, _ => by cases hk
  | .bool, hk, _ => by cases hk
  | .str, hk, _ => by cases hk
  | .err, hk, _ => by cases hk
  | .any, hk, _ => by cases hk
  | .sl _ _, hk, _ => by cases hk
  | .tree _, hk, _ => by cases hk

/-- The value that a load gives, of cells that are there. -/
theorem sv_valOfCells {t : TypeId} {l : List SV} {vs : List Value} {s : SV} (hl : Svs F G ow w.heap l vs) (h : valOfCells P t l = some s) :
    (∃ d, P.underlying t = some d) ∧ (0 < if isAggT P t then sizeT P t else 1) ∧ (if isAggT P t then sizeT P t else 1) ≤ l.length ∧ Sv F G ow w.heap s (valOf (isAggT P t) (vs.take (if isAggT P t then sizeT P t else 1))) := by
  unfold valOfCells at h
  split at h
  · cases h
  rename_i d hu
  refine ⟨⟨d, hu⟩, ?_⟩
  cases ha : isAggT P t with
  | true =>
    simp only [ha, if_true] at h ⊢
    split at h
    · rename_i hle
      cases h
      refine ⟨hle.1, hle.2, ?_⟩
      simp only [valOf, if_true]
      exact (hl.take _).agg
    · cases h
  | false =>
    simp only [ha, Bool.false_eq_true, if_false] at h ⊢
    cases l with
    | nil => cases h
    | cons a r =>
      cases h
      obtain ⟨v, vs', rfl, hv, _⟩ := hl.uncons
      exact ⟨by simp, by simp, by simpa [valOf] using hv⟩

theorem rp_inv (hh : HRep F G ow w.heap) {d j e c : Nat} {path : List (Nat × Nat)} {r : Sigma fun k : Kd => List k.T} (hr : rowAt ow d j path = some r) (hlt : e < r.2.length) {pv : Value}
    (hp : match nameOf ow d j with
      | none => False
      | some none => pv.oneCell' = true
      | some (some (.row k _ l)) => e < l.length ∧ ∃ b o, G d j = some (b, o) ∧ pv = .pointer (some ⟨b, o + e * k.n + c, none⟩)
      | some (some (.frow k _ l)) => e < l.length ∧ ∃ b o, G d j = some (b, o) ∧ pv = .pointer (some ⟨b, o + e * k.n + c, none⟩)
      | _ => False) :
    ∃ b o rw_, G d j = some (b, o) ∧ pv = .pointer (some ⟨b, o + e * r.1.n + c, none⟩) ∧ rowCells w.heap b = some rw_ ∧ r.1.good = true ∧ ElemsR (fun x cs => Rep w.heap (okF F G ow) r.1 x cs) r.1.n r.2 rw_ o := by
  unfold rowAt at hr
  split at hr
  · rename_i k ver l hg
    cases hr
    have hn := nameOf_of_getOb hg
    simp only [hn] at hp
    obtain ⟨_, b, o, hG, rfl⟩ := hp
    obtain ⟨hgood, ho⟩ := hh.obs d j _ hn
    simp only [hG] at ho
    obtain ⟨rw_, et, hb, hel⟩ := ho
    exact ⟨b, o, rw_, hG, rfl, rowCells_of hb, hgood, hel⟩
  · rename_i k ver l hg
    cases hr
    have hn := nameOf_of_getOb hg
    simp only [hn] at hp
    obtain ⟨_, b, o, hG, rfl⟩ := hp
    obtain ⟨hgood, ho⟩ := hh.obs d j _ hn
    simp only [hG] at ho
    rcases ho with rfl | ⟨_, rw_, hb, hel⟩
    · simp at hlt
    · exact ⟨b, o, rw_, hG, rfl, hb, hgood, hel⟩
  · cases hr

theorem evLoad_sound {t : TypeId} (hh : HRep F G ow w.heap) {p : SV} {pv : Value} (hp : Sv F G ow w.heap p pv) {Q : SV → Prop} (h : (evLoad P t p ow).can Q) :
    ∃ s v, Q s ∧ (Instr.loadAt t pv).run P w = .ok v w ∧ Sv F G ow w.heap s v := by
  unfold evLoad at h
  split at h
  · rename_i d j c
    split at h
    · rename_i cells hg
      obtain ⟨s, hs, hq⟩ := Cmd.can_ofOpt h
      have hn := nameOf_of_getOb hg
      obtain ⟨b, o, r, et, hG, hb, hsz, hc⟩ := hh.obs d j _ hn
      cases hp with
      | bp hp =>
      simp only [hn] at hp
      obtain ⟨b', o', hG', rfl⟩ := hp
      rw [hG] at hG'; cases hG'
      have hall : Svs F G ow w.heap cells (sub r o cells.length) := ⟨by rw [sub_length hsz], fun i h1 h2 => by
        have := hc i h1 (by omega)
        have e : (sub r o cells.length)[i] = r[o + i] := by
          have := sub_getElem (r := r) (o := o) h1
          rw [List.getElem?_eq_getElem h2, Array.getElem?_eq_getElem (by omega)] at this
          exact Option.some.inj this
        rw [e]; exact this⟩
      obtain ⟨⟨d', hu⟩, hpos, hle, hsv⟩ := sv_valOfCells (hall.drop c) hs
      simp only [List.length_drop] at hle
      refine ⟨s, _, hq, run_load_cells hu (rowCells_of hb) rfl (by omega), ?_⟩
      rw [sub_sub (n := cells.length) (by omega)]
      exact hsv
    · exact h.elim
  · rename_i d j ver path e c
    split at h
    · rename_i r hr
      obtain ⟨x, hx, h⟩ := h
      dsimp only at h
      split at h
      · rename_i y hy
        obtain ⟨s, hs, hq⟩ := Cmd.can_ofOpt h
        cases hp with
        | rp hp =>
        obtain ⟨hlt, rfl⟩ := List.getElem?_eq_some_iff.1 hx
        obtain ⟨b, o, rw_, hG, rfl, hrow, hgood, hel⟩ := rp_inv hh hr hlt hp
        have hk := (Bool.and_eq_true _ _ ▸ hgood : r.1.noOwn = true ∧ r.1.ch.leafy = true).2
        have h1 := ch_rep r.1 (hel.2 e hlt)
        obtain ⟨e1, e2, e3⟩ := dropK_rep r.1.ch hk c hy h1
        rw [ch_n] at e1
        obtain ⟨⟨d', hu⟩, hpos, hle, hsv⟩ := sv_valOfCells (svs_cellsS y.1 e2 e3) hs
        rw [cellsS_length y.1 e2] at hle
        have hb : (e + 1) * r.1.n ≤ r.2.length * r.1.n := Nat.mul_le_mul_right _ hlt
        have hsz := hel.1
        rw [Nat.add_mul, Nat.one_mul] at hb
        refine ⟨s, _, hq, run_load_cells hu hrow rfl (by omega), ?_⟩
        rw [sub_sub (n := r.1.n) (by omega)]
        exact hsv
      · exact h.elim
    · exact h.elim
  · rename_i k x
    obtain ⟨s, hs, hq⟩ := Cmd.can_ofOpt h
    cases hp with
    | @ip _ _ b o r hk hok hr hsz he =>
    obtain ⟨⟨d', hu⟩, _, hle, hsv⟩ := sv_valOfCells (svs_cellsS k hk he) hs
    rw [cellsS_length k hk] at hle
    refine ⟨s, _, hq, run_load_cells hu hr rfl (by omega), ?_⟩
    have := sub_sub (r := r) (o := o) (n := k.n) (p := 0) (m := if isAggT P t then sizeT P t else 1) (by omega)
    simp only [Nat.add_zero, List.drop_zero] at this
    rw [this]
    exact hsv
  · exact h.elim

end

end Go.Pev
