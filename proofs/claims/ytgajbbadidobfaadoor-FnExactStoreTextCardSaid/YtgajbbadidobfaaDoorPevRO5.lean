/-
  PEV, part 8: structs, interfaces; all the operations that only read.
-/
import Derived.Test.YtgajbbadidobfaaDoorPevRO4
namespace Go.Pev
section
variable {F : Nat → Prop} {G : Gh} {ow : OW} {w : World} {P : Program}

theorem one_of {s : SV} {v : Value} (h : Sv F G ow w.heap s v) (hs : cellOk s = true) : v.oneCell' = true := by
  cases h with
  | @v k x val hk hx =>
    cases k with
    | int _ => cases hx; rfl
    | bool => cases hx; rfl
    | str => cases hx; rfl
    | err => rcases hx with ⟨_, hx⟩ | ⟨_, _, _, hx⟩ <;> cases hx <;> rfl
    | any => cases hx; rfl
    | sl o e =>
      cases o with
      | true => exact hx.elim
      | false => obtain ⟨_, _, hx, _⟩ := hx; cases hx; rfl
    | nil => cases hk
    | cons _ _ => cases hk
    | tree _ => exact hx.elim
  | lb => rfl
  | dead => cases hs
  | nils => rfl
  | agg => cases hs
  | tup => cases hs
  | fn => rfl
  | wh h =>
    unfold HandR at h
    split at h
    · exact h.elim
    · exact h
    · exact h.elim
    · obtain ⟨_, _, _, rfl, _⟩ := h; rfl
    · obtain ⟨_, _, _, rfl, _⟩ := h; rfl
  | os h =>
    unfold HandR at h
    split at h
    · exact h.elim
    · exact h
    · exact h.elim
    · obtain ⟨_, _, _, rfl, _⟩ := h; rfl
    · obtain ⟨_, _, _, rfl, _⟩ := h; rfl
  | bp h =>
    split at h
    · exact h.elim
    · exact h
    · obtain ⟨_, _, _, rfl⟩ := h; rfl
    · exact h.elim
  | rp h =>
    split at h
    · exact h.elim
    · exact h
    · obtain ⟨_, _, _, _, rfl⟩ := h; rfl
    · obtain ⟨_, _, _, _, rfl⟩ := h; rfl
    · exact h.elim
  | ip => rfl

theorem cells_of_one {v : Value} (h : v.oneCell' = true) : v.cells = #[v] := by cases v <;> simp_all [Value.cells, Value.oneCell']

theorem cellsOfSV_sound {t : TypeId} {s : SV} {v : Value} (hs : Sv F G ow w.heap s v) {new : List SV} (h : cellsOfSV P t s = some new) :
    ∃ vs, v.cells = vs.toArray ∧ Svs F G ow w.heap new vs ∧ (∀ u ∈ vs, u.oneCell' = true) ∧ vs.length = sizeT P t := by
  unfold cellsOfSV at h
  split at h
  · split at h
    · split at h
      · rename_i l hl
        simp only [Bool.and_eq_true, decide_eq_true_eq] at hl
        cases h
        obtain ⟨vs, rfl, hvs⟩ := hs.agg_inv
        refine ⟨vs, rfl, hvs, fun u hu => ?_, by rw [← hvs.1, hl.1]⟩
        obtain ⟨i, hi, rfl⟩ := List.getElem_of_mem hu
        have h1 : i < new.length := by rw [hvs.1]; exact hi
        exact one_of (hvs.2 i h1 hi) (List.all_eq_true.1 hl.2 _ (List.getElem_mem h1))
      · cases h
    · cases h
  · split at h
    · rename_i hc
      simp only [Bool.and_eq_true, decide_eq_true_eq] at hc
      cases h
      have h1 := one_of hs hc.1
      exact ⟨[v], cells_of_one h1, .cons hs .nil, by simpa using h1, by simp [hc.2]⟩
    · cases h

theorem ofVal_sound : (n : Nat) → (v : Value) → Sv F G ow w.heap (ofVal n v) v := by
  intro n
  induction n with
  | zero =>
    intro v
    unfold ofVal
    split
    · exact .lb _
    · exact .int _ _
    · rename_i s; exact .v rfl (by simp [Rep])
    · exact .nils
    · exact .v rfl (.inl ⟨rfl, rfl⟩)
    · rename_i e; cases e
    · rename_i e; cases e
    · exact .dead _
  | succ n ih =>
    intro v
    unfold ofVal
    split
    · exact .lb _
    · exact .int _ _
    · rename_i s; exact .v rfl (by simp [Rep])
    · exact .nils
    · exact .v rfl (.inl ⟨rfl, rfl⟩)
    · rename_i f cs e
      cases e
      have : Sv F G ow w.heap (.agg (cs.toList.map (ofVal n))) (.agg cs.toList.toArray) := .agg (by simp) (fun i h1 h2 => by simp only [List.getElem_map]; exact ih _)
      simpa using this
    · rename_i f g a b e
      cases e
      have : Sv F G ow w.heap (.fn g (a.toList.map (ofVal n)) (b.toList.map (ofVal n))) (.func g a.toList.toArray b.toList.toArray) :=
        .fn (by simp) (by simp) (fun i h1 h2 => by simp only [List.getElem_map]; exact ih _) (fun i h1 h2 => by simp only [List.getElem_map]; exact ih _)
      simpa using this
    · exact .dead _

theorem zeroCells_sound {t : TypeId} {cells : List SV} (h : zeroCells P t = some cells) : ∃ i v, P.info? t = some i ∧ i.zero = some v ∧ v.cells.size = i.size ∧ Svs F G ow w.heap cells v.cells.toList := by
  unfold zeroCells at h
  split at h
  · rename_i i hi
    split at h
    · rename_i v hv
      split at h
      · rename_i hs
        cases h
        exact ⟨i, v, hi, hv, hs, by simp, fun j h1 h2 => by simp only [List.getElem_map]; exact ofVal_sound 4 _⟩
      · cases h
    · cases h
  · cases h

theorem run_zeroValue {t : TypeId} {i : TypeInfo} {v : Value} (hi : P.info? t = some i) (hz : i.zero = some v) : (zeroValue t).run P w = .ok v w := by
  simp [zeroValue, typeInfo, hi, hz]

theorem setCells_foldl {cells new : List SV} {cs vs : List Value} (hc : Svs F G ow w.heap cells cs) (hn : Svs F G ow w.heap new vs) {off : Nat} {r : List SV} (h : setCells cells off new = some r) :
    off + vs.length ≤ cs.length ∧ Svs F G ow w.heap r (cs.take off ++ vs ++ cs.drop (off + vs.length)) ∧
    vs.toArray.zipIdx.foldl (fun a (x : Value × Nat) => a.setIfInBounds (off + x.2) x.1) cs.toArray = (cs.take off ++ vs ++ cs.drop (off + vs.length)).toArray := by
  unfold setCells at h
  split at h
  · rename_i hle
    cases h
    have hle' : off + vs.length ≤ cs.length := by rw [← hc.1, ← hn.1]; exact hle
    refine ⟨hle', ?_, ?_⟩
    · rw [hn.1]
      exact ((hc.take off).append hn).append (hc.drop _)
    · obtain ⟨h1, h2⟩ := Great.foldl_set off vs 0 cs.toArray
      have e : vs.toArray.zipIdx.foldl (fun a (x : Value × Nat) => a.setIfInBounds (off + x.2) x.1) cs.toArray = (vs.zipIdx 0).foldl (fun a (x : Value × Nat) => a.setIfInBounds (off + x.2) x.1) cs.toArray := by
        rw [← Array.foldl_toList]; simp
      rw [e]
      apply Array.ext_getElem?
      intro k
      rw [h2 k]
      simp only [Nat.add_zero, List.size_toArray, List.getElem?_toArray]
      by_cases hk : k < off
      · rw [if_neg (by omega), List.append_assoc, List.getElem?_append_left (by simp; omega), List.getElem?_take_of_lt hk]
      · by_cases hk2 : k < off + vs.length
        · rw [if_pos (by omega), List.getElem?_append_left (by simp; omega), List.getElem?_append_right (by simp; omega)]
          simp [Nat.min_eq_left (show off ≤ cs.length by omega)]
        · rw [if_neg (by omega), List.getElem?_append_right (by simp; omega)]
          simp only [List.length_append, List.length_take, List.getElem?_drop]
          congr 1
          omega
  · cases h

theorem fillS_sound {t : TypeId} {fs : Array Field} (hu : P.underlying t = some (.struct fs)) : (ps : List (Nat × SV)) → {cells r : List SV} → fillS P t cells ps = some r → {cs : List Value} → Svs F G ow w.heap cells cs →
    {vps : List (Nat × Value)} → ps.map (·.1) = vps.map (·.1) → Svs F G ow w.heap (ps.map (·.2)) (vps.map (·.2)) →
    ∃ vs, Instr.fill ((fs.map fun f => (f.offset, sizeT P f.type))[·]?) cs.toArray vps = some vs.toArray ∧ Svs F G ow w.heap r vs
  | [], _, _, h, cs, hc, vps, h1, _ => by
    cases h
    cases vps with
    | nil => exact ⟨cs, rfl, hc⟩
    | cons _ _ => simp at h1
  | (f, s) :: ps, cells, r, h, cs, hc, vps, h1, h2 => by
    cases vps with
    | nil => simp at h1
    | cons p vps =>
    obtain ⟨f', v⟩ := p
    simp only [List.map_cons, List.cons.injEq] at h1
    obtain ⟨rfl, h1⟩ := h1
    obtain ⟨v', vs', e, hv, hvs⟩ := h2.uncons
    simp only [List.map_cons, List.cons.injEq] at e
    obtain ⟨rfl, rfl⟩ := e
    simp only [fillS] at h
    split at h
    · rename_i fd hfd
      split at h
      · rename_i new hnew
        split at h
        · rename_i cells' hcells'
          obtain ⟨vs, hcs, hn, _, hlen⟩ := cellsOfSV_sound hv hnew
          obtain ⟨hle, hsv, hfold⟩ := setCells_foldl hc hn hcells'
          obtain ⟨vr, hr, hvr⟩ := fillS_sound hu ps h hsv h1 hvs
          refine ⟨vr, ?_, hvr⟩
          obtain ⟨fs', hu', hf'⟩ := fieldT_some hfd
          rw [hu] at hu'
          cases hu'
          have hp : (fs.map fun f => (f.offset, sizeT P f.type))[f]? = some (fd.offset, sizeT P fd.type) := by simp [hf']
          unfold Instr.fill
          simp only [hp, hcs, List.size_toArray]
          rw [if_neg (by simp [hlen]; omega), hfold]
          exact hr
        · cases h
      · cases h
    · cases h

theorem run_places (l : List Field) (h : l.all (fun f => (P.info? f.type).isSome) = true) : (l.mapM fun f => (do pure (f.offset, ← sizeOf f.type) : Sem (Nat × Nat))).run P w = .ok (l.map fun f => (f.offset, sizeT P f.type)) w := by
  induction l with
  | nil => rfl
  | cons f l ih =>
    simp only [List.all_cons, Bool.and_eq_true] at h
    obtain ⟨i, hi⟩ := Option.isSome_iff_exists.1 h.1
    simp only [List.mapM_cons, Sem.run_bind, sizeT_run hi, Result.andThen_ok, Sem.run_pure, ih h.2, List.map_cons]

theorem evBuild_sound {t : TypeId} {ps : List (Nat × SV)} {vps : List (Nat × Value)} (h1 : ps.map (·.1) = vps.map (·.1)) (h2 : Svs F G ow w.heap (ps.map (·.2)) (vps.map (·.2))) {Q : SV → Prop} (h : (evBuild P t ps).can Q) :
    ∃ s v, Q s ∧ (Instr.build t vps.toArray).run P w = .ok v w ∧ Sv F G ow w.heap s v := by
  unfold evBuild undl at h
  split at h
  · rename_i cells fs hz hu
    split at h
    · rename_i hall
      split at h
      · rename_i r hr
        obtain ⟨i, z, hi, hiz, _, hzs⟩ := zeroCells_sound (F := F) (G := G) (ow := ow) (w := w) hz
        obtain ⟨vs, hvs, hsv⟩ := fillS_sound hu ps hr hzs h1 h2
        refine ⟨_, .agg vs.toArray, h, ?_, hsv.agg⟩
        simp only [Instr.build, Sem.run_bind, run_zeroValue hi hiz, Result.andThen_ok, run_underlying hu]
        have e : (fs.mapM fun f => (do pure (f.offset, ← sizeOf f.type) : Sem (Nat × Nat))).run P w = .ok (fs.map fun f => (f.offset, sizeT P f.type)) w := by
          rw [Array.mapM_eq_mapM_toList, Sem.run_map, run_places _ hall]
          simp only [Result.andThen_ok]
          congr 1
          apply Array.ext'
          simp
        rw [e]
        simp only [Result.andThen_ok]
        simp only [Array.toArray_toList] at hvs
        rw [hvs]
        rfl
      · exact h.elim
    · exact h.elim
  · exact h.elim

theorem isAggT_false {t : TypeId} {d : TypeDesc} (hu : P.underlying t = some d) (hd : d.isRow = false) : isAggT P t = false := by
  unfold isAggT undl; rw [hu]; cases d <;> simp_all [TypeDesc.isRow]

theorem run_part {t : TypeId} {d : TypeDesc} (hu : P.underlying t = some d) {cs : List Value} {off : Nat} (hle : (if isAggT P t then sizeT P t else 1) ≤ (cs.drop off).length) :
    (part t cs.toArray off).run P w = .ok (valOf (isAggT P t) ((cs.drop off).take (if isAggT P t then sizeT P t else 1))) w := by
  obtain ⟨i, hi⟩ := info_of_underlying hu
  cases ha : isAggT P t with
  | true =>
    simp only [part, Sem.run_bind, isAggT_run hu, ha, Result.andThen_ok, if_true, sizeT_run hi, Sem.run_pure, valOf]
    congr 2
    apply Array.ext'
    simp
  | false =>
    simp only [ha, Bool.false_eq_true, if_false, List.length_drop] at hle
    have hc : cs[off]? = some (cs[off]'(by omega)) := List.getElem?_eq_getElem (by omega)
    have e : (cs.drop off).take 1 = [cs[off]'(by omega)] := by rw [List.drop_eq_getElem_cons (by omega)]; rfl
    simp [part, isAggT_run hu, ha, hc, valOf, e]

theorem evField_sound {t : TypeId} {x : SV} {xv : Value} {f : Nat} (hx : Sv F G ow w.heap x xv) {Q : SV → Prop} (h : (evField P t x f).can Q) :
    ∃ s v, Q s ∧ (Instr.field t xv f).run P w = .ok v w ∧ Sv F G ow w.heap s v := by
  unfold evField at h
  split at h
  · rename_i cs fd hf
    obtain ⟨s, hs, hq⟩ := Cmd.can_ofOpt h
    obtain ⟨vs, rfl, hvs⟩ := hx.agg_inv
    obtain ⟨fs, hu, hf'⟩ := fieldT_some hf
    obtain ⟨⟨d, hd⟩, _, hle, hsv⟩ := sv_valOfCells (hvs.drop fd.offset) hs
    rw [(hvs.drop fd.offset).1] at hle
    refine ⟨s, _, hq, ?_, hsv⟩
    simp only [Instr.field, Sem.run_bind, run_underlying hu, Result.andThen_ok, hf', asAgg, Sem.run_pure]
    exact run_part hd hle
  · exact h.elim

theorem evIface_sound {t : TypeId} {x : SV} {xv : Value} (hx : Sv F G ow w.heap x xv) {Q : SV → Prop} (h : (evIface P t x).can Q) :
    ∃ s v, Q s ∧ (Instr.makeInterface t xv).run P w = .ok v w ∧ Sv F G ow w.heap s v := by
  unfold evIface undl at h
  split at h
  · rename_i n hu
    rw [hx.int_inv]
    exact ⟨_, .iface t (.int .i64 n), h, by simp [Instr.makeInterface, run_underlying hu], .v rfl rfl⟩
  · rename_i s hu
    rw [hx.str_inv]
    exact ⟨_, .iface t (.string ⟨s.toArray⟩), h, by simp [Instr.makeInterface, run_underlying hu], .v rfl rfl⟩
  · exact h.elim

theorem zeroInt_some {t : TypeId} (h : zeroInt P t = true) : ∃ i, P.info? t = some i ∧ i.zero = some (.int .i64 0) := by
  unfold zeroInt at h
  split at h
  · rename_i e
    simp only [Option.bind_eq_some_iff] at e
    exact e
  · cases h

theorem zeroStr_some {t : TypeId} (h : zeroStr P t = true) : ∃ i, P.info? t = some i ∧ i.zero = some (.string ⟨#[]⟩) := by
  unfold zeroStr at h
  split at h
  · rename_i s e
    simp only [Option.bind_eq_some_iff] at e
    obtain ⟨i, hi, hz⟩ := e
    refine ⟨i, hi, ?_⟩
    rw [hz]
    obtain ⟨d⟩ := s
    simp at h
    rw [h]
  · cases h

theorem evAssert_sound {xt t : TypeId} {x : SV} {xv : Value} (hx : Sv F G ow w.heap x xv) {Q : SV → Prop} (h : (evAssert P t x).can Q) :
    ∃ s v, Q s ∧ (Instr.typeAssert xv xt t true).run P w = .ok v w ∧ Sv F G ow w.heap s v := by
  unfold evAssert undl at h
  split at h
  · rename_i y hu
    split at h
    · rename_i hz
      obtain ⟨i, hi, hiz⟩ := zeroInt_some hz
      obtain ⟨hc, h⟩ := h
      cases hx with
      | v _ hx =>
      cases hx
      obtain ⟨ty, u⟩ := y
      by_cases ht : ty = t
      · subst ht
        cases u with
        | inl n =>
          refine ⟨_, .tuple #[.int .i64 n, .bool true], h, by simp [Instr.typeAssert, run_underlying hu, anyV], ?_⟩
          simp only [beq_self_eq_true, cond_true]
          exact .tup rfl (Svs.cons (.int _ _) (.cons (.bool _) .nil)).2
        | inr s => simp at hc
      · refine ⟨_, .tuple #[.int .i64 0, .bool false], h, by simp [Instr.typeAssert, run_underlying hu, ht, run_zeroValue hi hiz], ?_⟩
        have : (ty == t) = false := by simpa using ht
        simp only [this, cond_false]
        exact .tup rfl (Svs.cons (.int _ _) (.cons (.bool _) .nil)).2
    · exact h.elim
  · rename_i y hu
    split at h
    · rename_i hz
      obtain ⟨i, hi, hiz⟩ := zeroStr_some hz
      obtain ⟨hc, h⟩ := h
      cases hx with
      | v _ hx =>
      cases hx
      obtain ⟨ty, u⟩ := y
      by_cases ht : ty = t
      · subst ht
        cases u with
        | inr n =>
          refine ⟨_, .tuple #[.string ⟨n.toArray⟩, .bool true], h, by simp [Instr.typeAssert, run_underlying hu, anyV], ?_⟩
          simp only [beq_self_eq_true, cond_true]
          exact .tup rfl (Svs.cons (.str _) (.cons (.bool _) .nil)).2
        | inl s => simp at hc
      · refine ⟨_, .tuple #[.string ⟨#[]⟩, .bool false], h, by simp [Instr.typeAssert, run_underlying hu, ht, run_zeroValue hi hiz], ?_⟩
        have : (ty == t) = false := by simpa using ht
        simp only [this, cond_false]
        exact .tup rfl (Svs.cons (.str []) (.cons (.bool _) .nil)).2
    · exact h.elim
  · exact h.elim

theorem min2_sound {k : IntKind} : (l : List SV) → {vs : List Value} → Svs F G ow w.heap l vs → {a n : Int} → min2 k l a = some n → (vs.foldlM Builtin.min2 (.int k a)).run P w = .ok (.int k n) w
  | [], vs, hl, a, n, h => by
    cases h
    have : vs = [] := List.eq_nil_of_length_eq_zero hl.1.symm
    subst this; rfl
  | s :: r, vs, hl, a, n, h => by
    obtain ⟨v, vs', rfl, hv, hvs⟩ := hl.uncons
    unfold min2 at h
    split at h
    · rename_i e; cases e
    · rename_i k' y r' e
      cases e
      split at h
      · rename_i hk
        subst hk
        rw [hv.int_inv]
        simp only [List.foldlM_cons, Sem.run_bind, Builtin.min2, Sem.run_pure, Result.andThen_ok]
        exact min2_sound r hvs h
      · cases h
    · cases h

theorem max2_sound {k : IntKind} : (l : List SV) → {vs : List Value} → Svs F G ow w.heap l vs → {a n : Int} → max2 k l a = some n → (vs.foldlM Builtin.max2 (.int k a)).run P w = .ok (.int k n) w
  | [], vs, hl, a, n, h => by
    cases h
    have : vs = [] := List.eq_nil_of_length_eq_zero hl.1.symm
    subst this; rfl
  | s :: r, vs, hl, a, n, h => by
    obtain ⟨v, vs', rfl, hv, hvs⟩ := hl.uncons
    unfold max2 at h
    split at h
    · rename_i e; cases e
    · rename_i k' y r' e
      cases e
      split at h
      · rename_i hk
        subst hk
        rw [hv.int_inv]
        simp only [List.foldlM_cons, Sem.run_bind, Builtin.max2, Sem.run_pure, Result.andThen_ok]
        exact max2_sound r hvs h
      · cases h
    · cases h

/-! ### All of them -/

/-- Operands and what they are. -/
def Rho (F : Nat → Prop) (G : Gh) (ow : OW) (h : Array Obj) (ρ : Operand → SV) (ρv : Operand → Value) : Prop := ∀ x, Sv F G ow h (ρ x) (ρv x)

theorem Rho.svs {ρ : Operand → SV} {ρv : Operand → Value} (hρ : Rho F G ow w.heap ρ ρv) (l : List Operand) : Svs F G ow w.heap (l.map ρ) (l.map ρv) :=
  ⟨by simp, fun i h1 h2 => by simp only [List.getElem_map]; exact hρ _⟩

theorem value_run {P : Program} {w : World} {s : Sem Value} {v : Value} (h : s.run P w = .ok v w) : (do pure (Next.value (← s)) : Sem Next).run P w = .ok (.value v) w := by
  rw [Sem.run_bind, h]; rfl

theorem evNilCheck_sound {x : SV} {xv : Value} (hx : Sv F G ow w.heap x xv) {Q : SV → Prop} (h : (evNilCheck x ow).can Q) :
    ∃ s, Q s ∧ Sv F G ow w.heap s xv ∧ ((∃ a, xv = .pointer (some a)) ∨ ∃ f a b, xv = .func (.func f) a b) := by
  unfold evNilCheck at h
  split at h
  · split at h
    · rename_i hb
      obtain ⟨cells, hn⟩ := isBox_some hb
      refine ⟨_, h, hx, .inl ?_⟩
      cases hx with
      | bp hp =>
      simp only [hn] at hp
      obtain ⟨b, o, _, rfl⟩ := hp
      exact ⟨_, rfl⟩
    · exact h.elim
  · split at h
    · rename_i r hr
      obtain ⟨rfl, v', hn⟩ := rowAt_some hr
      refine ⟨_, h, hx, .inl ?_⟩
      cases hx with
      | rp hp =>
      rcases hn with hn | hn <;>
      · simp only [hn] at hp
        obtain ⟨_, b, o, _, rfl⟩ := hp
        exact ⟨_, rfl⟩
    · exact h.elim
  · refine ⟨_, h, hx, .inl ?_⟩
    cases hx
    exact ⟨_, rfl⟩
  · refine ⟨_, h, hx, .inr ?_⟩
    cases hx
    exact ⟨_, _, _, rfl⟩
  · exact h.elim

theorem evRO_sound {o : Op} {op : Oper} (ho : op.op = o) {ρ : Operand → SV} {ρv : Operand → Value} (hh : HRep F G ow w.heap) (hρ : Rho F G ow w.heap ρ ρv) {Q : SV → Prop} (h : (evRO P o ρ ow).can Q) :
    ∃ s v, Q s ∧ (execOp ρv op).run P w = .ok (.value v) w ∧ Sv F G ow w.heap s v := by
  have fin : ∀ {c : Sem Value}, (∃ s v, Q s ∧ c.run P w = .ok v w ∧ Sv F G ow w.heap s v) → (execOp ρv op).run P w = (do pure (Next.value (← c)) : Sem Next).run P w →
      ∃ s v, Q s ∧ (execOp ρv op).run P w = .ok (.value v) w ∧ Sv F G ow w.heap s v := by
    intro c hc he
    obtain ⟨s, v, hq, hr, hs⟩ := hc
    exact ⟨s, v, hq, by rw [he, value_run hr], hs⟩
  unfold evRO at h
  split at h
  · exact ⟨_, _, h, by simp [execOp, ho], hρ _⟩
  · exact ⟨_, _, h, by simp [execOp, ho], hρ _⟩
  · exact fin (evPick_sound (P := P) (hρ _) (hρ _) (hρ _) h) (by simp [execOp, ho])
  · rename_i t parts
    refine fin (evBuild_sound (vps := parts.toList.map fun x => (x.1, ρv x.2)) (by simp) (by simp only [List.map_map]; exact (by simpa [Function.comp_def] using hρ.svs (parts.toList.map (·.2)))) h) ?_
    simp only [execOp, ho]
    congr 4
    apply Array.ext'
    simp
  · exact fin (evLoad_sound (P := P) hh (hρ _) h) (by simp only [execOp, ho])
  · obtain ⟨s, hq, hs, hv⟩ := evNilCheck_sound (hρ _) h
    refine ⟨s, _, hq, ?_, hs⟩
    rcases hv with ⟨a, ha⟩ | ⟨f, a, b, ha⟩
    · simp [execOp, ho, ha]
    · simp [execOp, ho, ha]
  · exact fin (evBin_sound rfl hh (hρ _) (hρ _) h) (by simp only [execOp, ho])
  · exact fin (evUn_sound (P := P) (hρ _) h) (by simp only [execOp, ho])
  · exact fin (evConvert_sound (P := P) hh (hρ _) h) (by simp only [execOp, ho])
  · rename_i f a b
    refine fin (c := Instr.makeFunc f (a.map ρv) (b.map ρv)) ⟨_, _, h, rfl, ?_⟩ (by simp only [execOp, ho])
    have := SvRep.fn (f := f) (hρ.svs a.toList).1 (hρ.svs b.toList).1 (hρ.svs a.toList).2 (hρ.svs b.toList).2
    have e : ∀ a : Array Operand, (a.toList.map ρv).toArray = a.map ρv := fun a => by apply Array.ext'; simp
    rw [e, e] at this
    exact this
  · exact fin (evIface_sound (P := P) (hρ _) h) (by simp only [execOp, ho])
  · rename_i x xt t
    exact fin (evAssert_sound (P := P) (xt := xt) (hρ _) h) (by simp only [execOp, ho])
  · rename_i t x lo hi
    refine fin (evSlice_sound (P := P) (lov := lo.map ρv) (hiv := hi.map ρv) (hρ _) ?_ ?_ ?_ ?_ h) (by simp only [execOp, ho]; rfl)
    · intro s hs; cases lo with
      | none => cases hs
      | some x => cases hs; exact ⟨_, rfl, hρ _⟩
    · intro hs; cases lo with
      | none => rfl
      | some x => cases hs
    · intro s hs; cases hi with
      | none => cases hs
      | some x => cases hs; exact ⟨_, rfl, hρ _⟩
    · intro hs; cases hi with
      | none => rfl
      | some x => cases hs
  · exact fin (evFieldAddr_sound (P := P) (hρ _) h) (by simp only [execOp, ho])
  · exact fin (evField_sound (P := P) (hρ _) h) (by simp only [execOp, ho])
  · exact fin (evIndexAddr_sound (P := P) (hρ _) (hρ _) h) (by simp only [execOp, ho])
  · split at h
    · rename_i ht
      exact fin (evIndex_sound (P := P) ht (hρ _) (hρ _) h) (by simp only [execOp, ho])
    · exact h.elim
  · rename_i t i
    split at h
    · rename_i l hl
      split at h
      · rename_i s hs
        have := hρ t
        rw [hl] at this
        obtain ⟨vs, hv, hvs⟩ := this.tup_inv
        obtain ⟨hi, rfl⟩ := List.getElem?_eq_some_iff.1 hs
        have hi2 : i < vs.length := by rw [← hvs.1]; exact hi
        exact fin (c := Instr.extract (ρv t) i) ⟨_, vs[i], h, by simp [Instr.extract, hv, hi2], hvs.2 i hi hi2⟩ (by simp only [execOp, ho])
      · exact h.elim
    · exact h.elim
  · rename_i c
    split at h
    · rename_i hc
      split at h
      · rename_i x t ts hx ht
        obtain ⟨s, v, hq, hr, hs⟩ := evLen_sound (P := P) (ty := op.type) (ts := ts) (hρ x) h
        refine ⟨s, v, hq, ?_, hs⟩
        have e1 : c.args.map ρv = #[ρv x] := by apply Array.ext'; simp [hx]
        have e2 : c.argTypes = (t :: ts).toArray := by apply Array.ext'; simp [ht]
        simp only [execOp, ho, resolve, hc, Sem.run_bind, Sem.run_pure, Result.andThen_ok, invoke, builtin, e1, e2, hr]
      · exact h.elim
    · rename_i hc
      split at h
      · rename_i k a r hx
        split at h
        · rename_i n hn
          have hs := hρ.svs c.args.toList
          rw [hx] at hs
          obtain ⟨v, vs, hv, h1, h2⟩ := hs.uncons
          rw [h1.int_inv] at hv
          refine ⟨_, .int k n, h, ?_, .int _ _⟩
          have e1 : (c.args.map ρv).toList = .int k a :: vs := by simpa using hv
          simp only [execOp, ho, resolve, hc, Sem.run_bind, Sem.run_pure, Result.andThen_ok, invoke, builtin, Builtin.min_, e1, min2_sound r h2 hn]
        · exact h.elim
      · exact h.elim
    · rename_i hc
      split at h
      · rename_i k a r hx
        split at h
        · rename_i n hn
          have hs := hρ.svs c.args.toList
          rw [hx] at hs
          obtain ⟨v, vs, hv, h1, h2⟩ := hs.uncons
          rw [h1.int_inv] at hv
          refine ⟨_, .int k n, h, ?_, .int _ _⟩
          have e1 : (c.args.map ρv).toList = .int k a :: vs := by simpa using hv
          simp only [execOp, ho, resolve, hc, Sem.run_bind, Sem.run_pure, Result.andThen_ok, invoke, builtin, Builtin.max_, e1, max2_sound r h2 hn]
        · exact h.elim
      · exact h.elim
    · exact h.elim
  · exact h.elim

end
end Go.Pev
