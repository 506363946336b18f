/-
  PEV, part 13: stores.
-/
import Derived.Test.YtgajbbadidobfaaDoorPevW3
set_option linter.unusedVariables false
set_option linter.unusedSimpArgs false
namespace Go.Pev

section
variable {F : Nat → Prop} {G : Gh} {ow ow' : OW} {w : World} {P : Program}

/-- Cells of one's own block written. -/
theorem write_tr (hh : HRep F G ow w.heap) (hF : ∀ b, F b → b < w.heap.size) {d j : Nat} {ob ob' : OB} (hn : nameOf ow d j = some (some ob)) (hi : isOwn (some (some ob))) (hE : EC (some (some ob)) (some (some ob'))) (hi' : isOwn (some (some ob')))
    {b o0 : Nat} (hG : G d j = some (b, o0)) {r : Array Value} {et : TypeId} (hb : w.heap[b]? = some (.cells r et (0, 0))) {p : Nat} {vs : List Value} (hp : p + vs.length ≤ r.size)
    (hob : (w.setCells b p vs).heap[b]? = some (.cells (setA r p vs) et (0, 0)) → (∀ s v, Sv F G ow w.heap s v → Sv F G (putOb ow d j (some ob')) (w.setCells b p vs).heap s v) →
      (∀ b' r', okF F G ow b' → rowCells w.heap b' = some r' → okF F G (putOb ow d j (some ob')) b' ∧ rowCells (w.setCells b p vs).heap b' = some r') →
      ObRep (w.setCells b p vs).heap (okF F G (putOb ow d j (some ob'))) G (putOb ow d j (some ob')) d j ob') :
    Tr F G ow w G (putOb ow d j (some ob')) (w.setCells b p vs) := by
  have hdd : nameOf ow d j ≠ none := by rw [hn]; simp
  have hnm := fun d' j' => nameOf_putOb (o := some ob') (d' := d') (j' := j') hdd
  have hown : Own G ow b := own_iff.2 ⟨d, j, o0, by rw [hn]; exact hi, hG⟩
  have hb' := heap_setCells vs p w hb hp
  have back : ∀ {d' j'}, isOwn (nameOf (putOb ow d j (some ob')) d' j') → isOwn (nameOf ow d' j') := by
    intro d' j' h
    rw [hnm] at h
    split at h
    · rename_i e; rw [e.1, e.2, hn]; exact hi
    · exact h
  refine tr_of hh hF (fun _ _ _ => rfl) (fun d' j' => ?_) (kept_setCells hown w _ _) (fun b' hb1 => ?_) (fun b' r' ho hr => ?_) (fun d' j' o hx => ?_) (fun d1 j1 d2 j2 b1 o1 o2 h1 h2 g1 g2 => hh.apart d1 j1 d2 j2 b1 o1 o2 (back h1) (back h2) g1 g2) length_putOb
  · rw [hnm]
    split
    · rename_i e; rw [e.1, e.2, hn]; exact hE
    · exact .refl _
  · obtain ⟨d', j', o1, h1, hg⟩ := own_iff.1 hb1
    exact .inl (own_iff.2 ⟨d', j', o1, back h1, hg⟩)
  · by_cases hbb : b' = b
    · subst hbb
      rw [rowCells_of hb] at hr
      cases hr
      exact ⟨_, rowCells_of hb', setA_size hp⟩
    · refine ⟨r', ?_, rfl⟩
      unfold rowCells
      rw [World.heap_setCells_other w b _ _ (rowCells_lt hr) hbb]
      exact hr
  · rw [hnm] at hx
    split at hx
    · rename_i e
      obtain ⟨rfl, rfl⟩ := e
      have hx : ob' = o := by simpa using hx
      subst hx
      exact .inr (hob hb')
    · rename_i e
      refine .inl ⟨hx, fun ho b1 cc hg => ?_⟩
      have hob1 : Own G ow b1 := own_iff.2 ⟨d', j', cc, by rw [hx]; exact ho, hg⟩
      refine World.heap_setCells_other w b _ _ (Own.lt hh hob1) fun hbb => ?_
      subst hbb
      exact e (hh.apart d' j' d j b1 cc o0 (by rw [hx]; exact ho) (by rw [hn]; exact hi) hg hG)

theorem cellsOfSV_info {t : TypeId} {s : SV} {new : List SV} (h : cellsOfSV P t s = some new) : ∃ i, P.info? t = some i := by
  unfold cellsOfSV at h
  split at h
  · rename_i ha
    unfold isAggT undl at ha
    cases hu : P.underlying t with
    | none => rw [hu] at ha; cases ha
    | some d => exact info_of_underlying hu
  · split at h
    · rename_i hc
      simp only [Bool.and_eq_true, decide_eq_true_eq] at hc
      cases hi : P.info? t with
      | none => simp [sizeT, Program.cellsOf, hi] at hc
      | some i => exact ⟨i, rfl⟩
    · cases h

theorem run_storeAt_cells {t : TypeId} {i : TypeInfo} (hi : P.info? t = some i) {b o : Nat} {r : Array Value} {et : TypeId} (hb : w.heap[b]? = some (.cells r et (0, 0))) {v : Value} {vs : List Value} (hv : v.cells = vs.toArray) (h1 : ∀ u ∈ vs, u.oneCell' = true) (hl : vs.length = sizeT P t) (hs : o + vs.length ≤ r.size) :
    (Instr.storeAt t (.pointer (some ⟨b, o, none⟩)) v).run P w = .ok () (w.setCells b o vs) := by
  have hst := run_storeCells_cells (P := P) b o vs 0 w (fun j hj => by rw [rowCells_cell (rowCells_of hb)]; simp; omega) (fun j hj => by unfold World.frozen?; simp only; rw [hb]; simp) h1
  have hsz : vs.length = i.size := by rw [hl]; simp [sizeT, Program.cellsOf, hi]
  simp only [Nat.add_zero] at hst
  simp [Instr.storeAt, Instr.sureAddr, storeVar, sizeOf, typeInfo, hi, hv, hsz, hst]

/-! ### Parts of data set -/

theorem leaf_n {a : Kd} (h : a.isSt = false) : a.n = 1 := by cases a <;> simp_all [Kd.n, Kd.isSt]

theorem rep_leaf {h : Array Obj} {ok : Nat → Prop} {a b : Kd} (hk : a.isSt = false) {x : (Kd.cons a b).T} {cs : List Value} (e : Rep h ok (.cons a b) x cs) : ∃ v r, cs = v :: r ∧ Rep h ok a x.1 [v] ∧ Rep h ok b x.2 r := by
  obtain ⟨c1, c2, rfl, e1, e2⟩ := e
  have hl := Rep.length a e1
  rw [leaf_n hk] at hl
  match c1, hl, e1 with
  | [v], _, e1 => exact ⟨v, c2, rfl, e1, e2⟩

theorem setHead_rep {h : Array Obj} {ok : Nat → Prop} : (k : Kd) → k.leafy = true → {x : k.T} → {cs : List Value} → (k' : Kd) → {y : k'.T} → {vs : List Value} → {r : k.T} → setHead k x k' y = some r → Rep h ok k x cs → Rep h ok k' y vs → k'.leafy = true →
    Rep h ok k r (vs ++ cs.drop vs.length)
  | k, hk, x, cs, .nil, y, vs, r, e, ex, ey, _ => by
    cases ey
    have : setHead k x .nil y = some x := by unfold setHead; cases k <;> rfl
    rw [this] at e
    cases e
    simpa using ex
  | .cons a b, hk, x, cs, .cons a' b', y, vs, r, e, ex, ey, hk' => by
    simp only [Kd.leafy, Bool.and_eq_true, Bool.not_eq_true'] at hk hk'
    simp only [setHead] at e
    split at e
    · rename_i ha
      subst ha
      split at e
      · rename_i r' hr'
        cases e
        obtain ⟨v, cs', rfl, _, ex2⟩ := rep_leaf hk.1 ex
        obtain ⟨u, vs', rfl, ey1, ey2⟩ := rep_leaf hk'.1 ey
        exact ⟨[u], vs' ++ cs'.drop vs'.length, rfl, ey1, setHead_rep b hk.2 b' hr' ex2 ey2 hk'.2⟩
      · cases e
    · cases e
  | .nil, _, _, _, .cons _ _, _, _, _, e, _, _, _ => by simp [setHead] at e
  | .int _, hk, _, _, _, _, _, _, _, _, _, _ => by cases hk
  | .bool, hk, _, _, _, _, _, _, _, _, _, _ => by cases hk
  | .str, hk, _, _, _, _, _, _, _, _, _, _ => by cases hk
  | .err, hk, _, _, _, _, _, _, _, _, _, _ => by cases hk
  | .any, hk, _, _, _, _, _, _, _, _, _, _ => by cases hk
  | .sl _ _, hk, _, _, _, _, _, _, _, _, _, _ => by cases hk
  | .tree _, hk, _, _, _, _, _, _, _, _, _, _ => by cases hk
  | .cons _ _, _, _, _, .int _, _, _, _, e, _, _, _ => by simp [setHead] at e
  | .cons _ _, _, _, _, .bool, _, _, _, e, _, _, _ => by simp [setHead] at e
  | .cons _ _, _, _, _, .str, _, _, _, e, _, _, _ => by simp [setHead] at e
  | .cons _ _, _, _, _, .err, _, _, _, e, _, _, _ => by simp [setHead] at e
  | .cons _ _, _, _, _, .any, _, _, _, e, _, _, _ => by simp [setHead] at e
  | .cons _ _, _, _, _, .sl _ _, _, _, _, e, _, _, _ => by simp [setHead] at e
  | .cons _ _, _, _, _, .tree _, _, _, _, e, _, _, _ => by simp [setHead] at e
  | .nil, _, _, _, .int _, _, _, _, e, _, _, _ => by simp [setHead] at e
  | .nil, _, _, _, .bool, _, _, _, e, _, _, _ => by simp [setHead] at e
  | .nil, _, _, _, .str, _, _, _, e, _, _, _ => by simp [setHead] at e
  | .nil, _, _, _, .err, _, _, _, e, _, _, _ => by simp [setHead] at e
  | .nil, _, _, _, .any, _, _, _, e, _, _, _ => by simp [setHead] at e
  | .nil, _, _, _, .sl _ _, _, _, _, e, _, _, _ => by simp [setHead] at e
  | .nil, _, _, _, .tree _, _, _, _, e, _, _, _ => by simp [setHead] at e

theorem setAtCh_rep {h : Array Obj} {ok : Nat → Prop} : (k : Kd) → k.leafy = true → {x : k.T} → {cs : List Value} → (c : Nat) → (k' : Kd) → {y : k'.T} → {vs : List Value} → {r : k.T} → setAtCh k x c k' y = some r → Rep h ok k x cs → Rep h ok k' y vs → k'.leafy = true →
    Rep h ok k r (cs.take c ++ vs ++ cs.drop (c + vs.length))
  | k, hk, x, cs, 0, k', y, vs, r, e, ex, ey, hk' => by
    have : setAtCh k x 0 k' y = setHead k x k' y := by unfold setAtCh; cases k <;> rfl
    rw [this] at e
    simpa using setHead_rep k hk k' e ex ey hk'
  | .cons a b, hk, x, cs, c + 1, k', y, vs, r, e, ex, ey, hk' => by
    simp only [Kd.leafy, Bool.and_eq_true, Bool.not_eq_true'] at hk
    simp only [setAtCh] at e
    split at e
    · rename_i r' hr'
      cases e
      obtain ⟨v, cs', rfl, ex1, ex2⟩ := rep_leaf hk.1 ex
      have := setAtCh_rep b hk.2 c k' hr' ex2 ey hk'
      refine ⟨[v], _, ?_, ex1, this⟩
      simp [show c + 1 + vs.length = (c + vs.length) + 1 by omega]
    · cases e
  | .nil, _, _, _, _ + 1, _, _, _, _, e, _, _, _ => by simp [setAtCh] at e
  | .int _, hk, _, _, _ + 1, _, _, _, _, _, _, _, _ => by cases hk
  | .bool, hk, _, _, _ + 1, _, _, _, _, _, _, _, _ => by cases hk
  | .str, hk, _, _, _ + 1, _, _, _, _, _, _, _, _ => by cases hk
  | .err, hk, _, _, _ + 1, _, _, _, _, _, _, _, _ => by cases hk
  | .any, hk, _, _, _ + 1, _, _, _, _, _, _, _, _ => by cases hk
  | .sl _ _, hk, _, _, _ + 1, _, _, _, _, _, _, _, _ => by cases hk
  | .tree _, hk, _, _, _ + 1, _, _, _, _, _, _, _, _ => by cases hk

theorem unch_rep {h : Array Obj} {ok : Nat → Prop} : (k : Kd) → {x : k.ch.T} → {cs : List Value} → Rep h ok k.ch x cs → Rep h ok k (unch k x) cs
  | .int _, x, cs, e => by obtain ⟨c1, c2, rfl, e1, e2⟩ := e; cases e2; simpa [unch] using e1
  | .bool, x, cs, e => by obtain ⟨c1, c2, rfl, e1, e2⟩ := e; cases e2; simpa [unch] using e1
  | .str, x, cs, e => by obtain ⟨c1, c2, rfl, e1, e2⟩ := e; cases e2; simpa [unch] using e1
  | .err, x, cs, e => by obtain ⟨c1, c2, rfl, e1, e2⟩ := e; cases e2; simpa [unch] using e1
  | .any, x, cs, e => by obtain ⟨c1, c2, rfl, e1, e2⟩ := e; cases e2; simpa [unch] using e1
  | .sl _ _, x, cs, e => by obtain ⟨c1, c2, rfl, e1, e2⟩ := e; cases e2; simpa [unch] using e1
  | .nil, _, _, e => e
  | .cons _ _, _, _, e => e
  | .tree _, x, cs, e => by obtain ⟨c1, c2, rfl, e1, e2⟩ := e; cases e2; simpa [unch] using e1

theorem takeK_leafy : (k : Kd) → k.leafy = true → (n : Nat) → {r : Kd} → takeK k n = some r → r.leafy = true
  | k, _, 0, r, h => by
    have : takeK k 0 = some .nil := by cases k <;> rfl
    rw [this] at h; cases h; rfl
  | .cons a b, hk, n + 1, r, h => by
    simp only [Kd.leafy, Bool.and_eq_true] at hk
    simp only [takeK] at h
    split at h
    · rename_i r' hr'
      cases h
      simp only [Kd.leafy, Bool.and_eq_true]
      exact ⟨hk.1, takeK_leafy b hk.2 n hr'⟩
    · cases h
  | .nil, _, _ + 1, _, h => by simp [takeK] at h
  | .int _, _, _ + 1, _, h => by simp [takeK] at h
  | .bool, _, _ + 1, _, h => by simp [takeK] at h
  | .str, _, _ + 1, _, h => by simp [takeK] at h
  | .err, _, _ + 1, _, h => by simp [takeK] at h
  | .any, _, _ + 1, _, h => by simp [takeK] at h
  | .sl _ _, _, _ + 1, _, h => by simp [takeK] at h
  | .tree _, _, _ + 1, _, h => by simp [takeK] at h

theorem dropK_leafy : (k : Kd) → k.leafy = true → {x : k.T} → (c : Nat) → {y : Sigma Kd.T} → dropK k x c = some y → y.1.leafy = true
  | k, hk, x, 0, y, hy => by
    have : y = ⟨k, x⟩ := by unfold dropK at hy; cases k <;> simp_all
    subst this; exact hk
  | .cons a b, hk, x, c + 1, y, hy => by
    simp only [Kd.leafy, Bool.and_eq_true] at hk
    exact dropK_leafy b hk.2 c (by simpa [dropK] using hy)
  | .nil, _, _, _ + 1, _, hy => by simp [dropK] at hy
  | .int _, hk, _, _ + 1, _, _ => by cases hk
  | .bool, hk, _, _ + 1, _, _ => by cases hk
  | .str, hk, _, _ + 1, _, _ => by cases hk
  | .err, hk, _, _ + 1, _, _ => by cases hk
  | .any, hk, _, _ + 1, _, _ => by cases hk
  | .sl _ _, hk, _, _ + 1, _, _ => by cases hk
  | .tree _, hk, _, _ + 1, _, _ => by cases hk

theorem dropK_n : (k : Kd) → k.leafy = true → {x : k.T} → (c : Nat) → {y : Sigma Kd.T} → dropK k x c = some y → c + y.1.n = k.n
  | k, hk, x, 0, y, hy => by
    have : y = ⟨k, x⟩ := by unfold dropK at hy; cases k <;> simp_all
    subst this; simp
  | .cons a b, hk, x, c + 1, y, hy => by
    simp only [Kd.leafy, Bool.and_eq_true, Bool.not_eq_true'] at hk
    have := dropK_n b hk.2 c (x := x.2) (y := y) (by simpa [dropK] using hy)
    simp only [Kd.n, leaf_n hk.1]
    omega
  | .nil, _, _, _ + 1, _, hy => by simp [dropK] at hy
  | .int _, hk, _, _ + 1, _, _ => by cases hk
  | .bool, hk, _, _ + 1, _, _ => by cases hk
  | .str, hk, _, _ + 1, _, _ => by cases hk
  | .err, hk, _, _ + 1, _, _ => by cases hk
  | .any, hk, _, _ + 1, _, _ => by cases hk
  | .sl _ _, hk, _, _ + 1, _, _ => by cases hk
  | .tree _, hk, _, _ + 1, _, _ => by cases hk

theorem evStore_sound {t : TypeId} {p s : SV} {pv sv : Value} (hh : HRep F G ow w.heap) (hF : ∀ b, F b → b < w.heap.size) (hp : Sv F G ow w.heap p pv) (hs : Sv F G ow w.heap s sv) {Q : OW → Prop} (h : (evStore P t p s ow).can Q) :
    ∃ ow' w', Q ow' ∧ (Instr.storeAt t pv sv).run P w = .ok () w' ∧ Tr F G ow w G ow' w' := by
  unfold evStore at h
  split at h
  · exact h.elim
  rename_i new hnew
  obtain ⟨i, hi⟩ := cellsOfSV_info hnew
  obtain ⟨vs, hvs, hsv, h1, hl⟩ := cellsOfSV_sound hs hnew
  split at h
  · rename_i d j c
    split at h
    · rename_i cells hg
      split at h
      · rename_i cells' hc'
        have hn := nameOf_of_getOb hg
        obtain ⟨b, o, r, et, hG, hb, hsz, hc⟩ := hh.obs d j _ hn
        cases hp with
        | bp hp =>
        simp only [hn] at hp
        obtain ⟨b', o', hG', rfl⟩ := hp
        rw [hG] at hG'; cases hG'
        unfold setCells at hc'
        split at hc'
        · rename_i hle
          cases hc'
          have hlen : new.length = vs.length := hsv.1
          have hle' : o + c + vs.length ≤ r.size := by omega
          refine ⟨_, _, h, run_storeAt_cells hi hb hvs h1 hl hle', write_tr (ob' := .box (cells.take c ++ new ++ cells.drop (c + new.length))) hh hF hn trivial trivial trivial hG hb hle' fun hb' hsvm _ => ?_⟩
          refine ⟨b, o, _, et, hG, hb', ?_, fun q hq hr => ?_⟩
          · rw [setA_size hle']
            simp
            omega
          · have e1 := setA_get hle' (o + q)
            rw [Array.getElem?_eq_getElem hr] at e1
            simp only [List.length_append, List.length_take, List.length_drop] at hq
            by_cases h2 : q < c
            · rw [if_neg (by omega), Array.getElem?_eq_getElem (by omega)] at e1
              have e2 : (cells.take c ++ new ++ cells.drop (c + new.length))[q] = cells[q]'(by omega) := by
                simp only [List.append_assoc]
                rw [List.getElem_append_left (by simp; omega), List.getElem_take]
              rw [Option.some.inj e1, e2]
              exact hsvm _ _ (hc q (by omega) (by omega))
            · by_cases h3 : q < c + vs.length
              · rw [if_pos (by omega), List.getElem?_eq_getElem (by omega)] at e1
                have e2 : (cells.take c ++ new ++ cells.drop (c + new.length))[q] = new[q - c]'(by omega) := by
                  rw [List.getElem_append_left (by simp; omega), List.getElem_append_right (by simp; omega)]
                  congr 1
                  simp
                  omega
                have e3 : o + q - (o + c) = q - c := by omega
                simp only [e3] at e1
                rw [Option.some.inj e1, e2]
                exact hsvm _ _ (hsv.2 (q - c) (by omega) (by omega))
              · rw [if_neg (by omega), Array.getElem?_eq_getElem (by omega)] at e1
                have e2 : (cells.take c ++ new ++ cells.drop (c + new.length))[q] = cells[q]'(by omega) := by
                  rw [List.getElem_append_right (by simp; omega), List.getElem_drop]
                  congr 1
                  simp
                  omega
                rw [Option.some.inj e1, e2]
                exact hsvm _ _ (hc q (by omega) (by omega))
        · cases hc'
      · exact h.elim
    · exact h.elim
  · rename_i d j ver0 e c
    split at h
    · rename_i k ver l hg
      split at h
      · rename_i kt hkt
        split at h
        · rename_i y hy
          split at h
          · rename_i k' ver' l' hg'
            split at h
            · rename_i hk
              subst hk
              obtain ⟨x, hx, h⟩ := h
              dsimp only at h
              split at h
              · rename_i x' hx'
                obtain ⟨t1, hrepv⟩ := toCells_sound hF kt (x := y.1) (ow' := y.2) hh hsv hy
                have hn := nameOf_of_getOb hg'
                obtain ⟨hgood, ho⟩ := t1.hrep.obs d j _ hn
                have hleaf := (Bool.and_eq_true _ _ ▸ hgood : k'.noOwn = true ∧ k'.ch.leafy = true).2
                have hp' := t1.sv _ _ hp
                cases hp' with
                | rp hp' =>
                simp only [hn] at hp'
                obtain ⟨hel, b, o, hG, rfl⟩ := hp'
                simp only [hG] at ho
                obtain ⟨r, et, hb, hE⟩ := ho
                have hx : l'[e]? = some x := hx
                obtain ⟨_, rfl⟩ := List.getElem?_eq_some_iff.1 hx
                have hktl : kt.leafy = true ∧ c ≤ k'.n := by
                  unfold kindsAt at hkt
                  split at hkt
                  · rename_i z hz
                    have := dropK_n _ hleaf c hz
                    rw [ch_n] at this
                    exact ⟨takeK_leafy z.1 (dropK_leafy _ hleaf c hz) _ hkt, by omega⟩
                  · cases hkt
                obtain ⟨hktl, hck⟩ := hktl
                have hre := ch_rep k' (hE.2 e hel)
                have hset := setAtCh_rep k'.ch hleaf c kt hx' hre hrepv hktl
                have hlen := Rep.length _ hset
                rw [ch_n] at hlen
                have hbnd : (e + 1) * k'.n ≤ l'.length * k'.n := Nat.mul_le_mul_right _ hel
                rw [Nat.add_mul, Nat.one_mul] at hbnd
                have hE1 := hE.1
                have hslen : (sub r (o + e * k'.n) k'.n).length = k'.n := sub_length (by omega)
                have hcv : c + vs.length ≤ k'.n := by
                  simp only [List.length_append, List.length_take, List.length_drop, hslen] at hlen
                  omega
                have hle' : o + e * k'.n + c + vs.length ≤ r.size := by omega
                have hE0 : EC (some (some (.row k' ver' l'))) (some (some (.row k' ver' (l'.set e (unch k' x'))))) := ⟨rfl, by simp⟩
                have ht := write_tr (ob' := .row k' ver' (l'.set e (unch k' x'))) t1.hrep hF hn trivial hE0 trivial hG hb hle' (fun hb' _ hok => by
                  refine ⟨hgood, ?_⟩
                  simp only [hG]
                  refine ⟨_, et, hb', ?_, fun q hq => ?_⟩
                  · rw [setA_size hle']; simpa using hE1
                  · simp only [List.length_set] at hq
                    have hbq : (q + 1) * k'.n ≤ l'.length * k'.n := Nat.mul_le_mul_right _ hq
                    rw [Nat.add_mul, Nat.one_mul] at hbq
                    by_cases hqe : e = q
                    · subst hqe
                      rw [List.getElem_set_self]
                      have e1 : sub (setA r (o + e * k'.n + c) vs) (o + e * k'.n) k'.n = (sub r (o + e * k'.n) k'.n).take c ++ vs ++ (sub r (o + e * k'.n) k'.n).drop (c + vs.length) := by
                        apply List.ext_getElem?
                        intro z
                        by_cases hz : z < k'.n
                        · rw [sub_getElem hz, setA_get hle']
                          by_cases h2 : z < c
                          · rw [if_neg (by omega), List.append_assoc, List.getElem?_append_left (by simp [hslen]; omega), List.getElem?_take_of_lt h2, sub_getElem hz]
                          · by_cases h3 : z < c + vs.length
                            · rw [if_pos (by omega), List.getElem?_append_left (by simp [hslen]; omega), List.getElem?_append_right (by simp [hslen]; omega)]
                              congr 1
                              simp [hslen]
                              omega
                            · rw [if_neg (by omega), List.getElem?_append_right (by simp [hslen]; omega)]
                              simp only [List.length_append, List.length_take, hslen, List.getElem?_drop]
                              rw [show c + vs.length + (z - (min c k'.n + vs.length)) = z by omega, sub_getElem hz]
                        · rw [sub_ge (by omega), List.getElem?_eq_none]
                          simp [hslen]
                          omega
                      rw [e1]
                      exact Rep.mono hok _ (unch_rep k' hset)
                    · rw [List.getElem_set_ne hqe]
                      have e1 : sub (setA r (o + e * k'.n + c) vs) (o + q * k'.n) k'.n = sub r (o + q * k'.n) k'.n := by
                        rcases Nat.lt_or_gt_of_ne hqe with h2 | h2
                        · have : (e + 1) * k'.n ≤ q * k'.n := Nat.mul_le_mul_right _ h2
                          rw [Nat.add_mul, Nat.one_mul] at this
                          exact sub_setA_after hle' (by omega)
                        · have : (q + 1) * k'.n ≤ e * k'.n := Nat.mul_le_mul_right _ h2
                          rw [Nat.add_mul, Nat.one_mul] at this
                          exact sub_setA_before hle' (by omega)
                      rw [e1]
                      exact Rep.mono hok _ (hE.2 q hq))
                exact ⟨_, _, h, run_storeAt_cells hi hb hvs h1 hl hle', t1.trans ht⟩
              · exact h.elim
            · exact h.elim
          · exact h.elim
        · exact h.elim
      · exact h.elim
    · exact h.elim
  · exact h.elim

end
end Go.Pev
