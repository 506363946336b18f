/-
  PEV, part 7: arithmetic, comparisons, structs, interfaces.
-/
import Derived.Test.YtgajbbadidobfaaDoorPevRO3
import Derived.Great.FillDense
set_option linter.unusedVariables false
set_option linter.unusedSimpArgs false
namespace Go.Pev
section
variable {F : Nat → Prop} {G : Gh} {ow : OW} {w : World} {P : Program}

theorem run_eqGuard_of (op : BinOp) (t : TypeId) (xo yo : Operand) (a b : Value)
    (h : (match a, b with
      | .nilIface, .nilIface => do
        if (xo matches .const _) || (yo matches .const _) then return
        if ← Op.eqGuardIn Op.maxDepth t a b then unsupported (.noEntry "binop/eql: two nil values of an interface type with methods, neither of them the literal nil")
      | .agg _, .agg _ => do
        if !(← program).eqGuardType (← program).depth t then return
        if ← Op.eqGuardIn Op.maxDepth t a b then unsupported (.noEntry "binop/eql: two nil values of an interface type with methods, in a part of a struct or an array")
      | _, _ => pure () : Sem Unit).run P w = .ok () w) : (eqGuard op t xo yo a b).run P w = .ok () w := by
  cases op <;> simp only [eqGuard, Bool.not_true, Bool.not_false, Bool.false_eq_true, if_false, if_true] <;> first | exact h | rfl

theorem run_eqGuard_plain (op : BinOp) (t : TypeId) (xo yo : Operand) (a b : Value) (h1 : ¬ (a = .nilIface ∧ b = .nilIface)) (h2 : ∀ xs ys, ¬ (a = .agg xs ∧ b = .agg ys)) :
    (eqGuard op t xo yo a b).run P w = .ok () w := by
  apply run_eqGuard_of
  split
  · exact absurd ⟨rfl, rfl⟩ h1
  · exact absurd ⟨rfl, rfl⟩ (h2 _ _)
  · rfl

theorem run_bin {op : BinOp} {t : TypeId} {xo yo : Operand} {a b v : Value} (hg : (eqGuard op t xo yo a b).run P w = .ok () w) (hb : (binOp op t a b).run P w = .ok v w) :
    (do eqGuard op t xo yo a b; binOp op t a b : Sem Value).run P w = .ok v w := by
  rw [Sem.run_bind, hg, Result.andThen_ok, hb]

theorem binInt_sound {op : BinOp} {t : TypeId} {k : IntKind} {a b : Int} {Q : SV → Prop} (h : (binInt op k a b).can Q) :
    ∃ s v, Q s ∧ (binOp op t (.int k a) (.int k b)).run P w = .ok v w ∧ Sv F G ow w.heap s v := by
  cases op <;> simp only [binInt] at h <;> first
    | exact ⟨_, _, h, by simp [binOp, Op.intArith, Op.intBits, Op.intCmp], .int _ _⟩
    | exact ⟨_, _, h, by simp [binOp, Op.intArith, Op.intBits, Op.intCmp], .bool _⟩
    | exact h.elim
    | (obtain ⟨hc, h⟩ := h
       have hc : ¬ b = 0 := by simpa using hc
       exact ⟨_, _, h, by simp [binOp, Op.intDiv, hc], .int _ _⟩)

theorem binStr_sound {op : BinOp} {t : TypeId} {a b : List UInt8} {Q : SV → Prop} (h : (binStr op a b).can Q) :
    ∃ s v, Q s ∧ (binOp op t (.string ⟨a.toArray⟩) (.string ⟨b.toArray⟩)).run P w = .ok v w ∧ Sv F G ow w.heap s v := by
  cases op <;> simp only [binStr] at h <;> first
    | exact h.elim
    | exact ⟨_, _, h, by simp [binOp, Op.stringOp], .bool _⟩
    | (obtain ⟨hc, h⟩ := h
       have hc : ((a.length + b.length : Nat) : Int) ≤ 9223372036854775807 := of_decide_eq_true hc
       refine ⟨_, _, h, ?_, .str _⟩
       have e : (binOp .add t (.string ⟨a.toArray⟩) (.string ⟨b.toArray⟩)).run P w = (Op.stringOp .add ⟨a.toArray⟩ ⟨b.toArray⟩).run P w := by simp only [binOp]
       rw [e, run_string_add_sum, ByteArray.mk_append_mk]
       have h1 : (ByteArray.mk a.toArray).size = a.length := by simp [ByteArray.size]
       have h2 : (ByteArray.mk b.toArray).size = b.length := by simp [ByteArray.size]
       rw [h1, h2]
       omega)

theorem run_equal_of {t : TypeId} {a b : Value} {c : Bool} (h : ∀ d, (Op.equalIn (d + 1) t a b).run P w = .ok c w) : (Op.equal t a b).run P w = .ok c w := h 9999

theorem run_equalIn_nil {t e : TypeId} (ht : P.underlying t = some (.slice e)) (a : Option Addr) (n c d : Nat) : (Op.equalIn (d + 1) t (.slice a n c) (.slice none 0 0)).run P w = .ok a.isNone w := by
  cases a <;> simp [Op.equalIn, run_underlying ht]

theorem run_equalIn_00 {t : TypeId} {ms} (ht : P.underlying t = some (.interface ms)) (d : Nat) : (Op.equalIn (d + 1) t .nilIface .nilIface).run P w = .ok true w := by
  simp [Op.equalIn, run_underlying ht]
theorem run_equalIn_01 {t : TypeId} {ms} (ht : P.underlying t = some (.interface ms)) (d : Nat) (ty : TypeId) (v : Value) : (Op.equalIn (d + 1) t .nilIface (.iface ty v)).run P w = .ok false w := by
  simp [Op.equalIn, run_underlying ht]
theorem run_equalIn_10 {t : TypeId} {ms} (ht : P.underlying t = some (.interface ms)) (d : Nat) (ty : TypeId) (v : Value) : (Op.equalIn (d + 1) t (.iface ty v) .nilIface).run P w = .ok false w := by
  simp [Op.equalIn, run_underlying ht]

theorem evEq_sound {op : BinOp} {t : TypeId} {a b : Value} {c : Bool} {Q : SV → Prop} (h : (evEq op c).can Q) (he : (Op.equal t a b).run P w = .ok c w)
    (hp : ∀ op, op = .eql ∨ op = .neq → binOp op t a b = (do let r ← Op.equal t a b; pure (.bool (if op = .eql then r else !r)))) :
    ∃ s v, Q s ∧ (binOp op t a b).run P w = .ok v w ∧ Sv F G ow w.heap s v := by
  unfold evEq eqOp at h
  cases op <;> first
    | exact h.elim
    | exact ⟨_, _, h, by rw [hp _ (.inl rfl)]; simp [he], .bool _⟩
    | exact ⟨_, _, h, by rw [hp _ (.inr rfl)]; simp [he], .bool _⟩

theorem boolOf_inv {s : SV} {v : Value} {b : Bool} (h : Sv F G ow w.heap s v) (hb : boolOf s = some b) : v = .bool b := by
  unfold boolOf at hb
  split at hb
  · cases hb; exact h.bool_inv
  · cases hb; exact h.lb_inv
  · cases hb

theorem eqFieldsS_sound {xs ys : List Value} : (fs : List Field) → (i : Nat) → {a b : List SV} → {c : Bool} → eqFieldsS P i fs a b = some c → (d : Nat) → Svs F G ow w.heap a (xs.drop i) → Svs F G ow w.heap b (ys.drop i) →
    (Op.eqFields (d + 1) xs.toArray ys.toArray fs).run P w = .ok c w
  | [], _, [], [], _, h, _, _, _ => by cases h; rfl
  | [], _, _ :: _, _, _, h, _, _, _ => by simp [eqFieldsS] at h
  | [], _, [], _ :: _, _, h, _, _, _ => by simp [eqFieldsS] at h
  | _ :: _, _, [], _, _, h, _, _, _ => by simp [eqFieldsS] at h
  | _ :: _, _, _ :: _, [], _, h, _, _, _ => by simp [eqFieldsS] at h
  | f :: fs, i, a :: r, b :: s, c, h, d, ha, hb => by
    obtain ⟨x, xs', ex, hx, hxs⟩ := ha.uncons
    obtain ⟨y, ys', ey, hy, hys⟩ := hb.uncons
    have e1 : xs.drop (i + 1) = xs' := by rw [← List.drop_drop, ex]; rfl
    have e2 : ys.drop (i + 1) = ys' := by rw [← List.drop_drop, ey]; rfl
    rw [← e1] at hxs
    rw [← e2] at hys
    have g1 : xs[i]? = some x := by have := congrArg (·[0]?) ex; simpa using this
    have g2 : ys[i]? = some y := by have := congrArg (·[0]?) ey; simpa using this
    simp only [eqFieldsS] at h
    split at h
    · rename_i hf
      simp only [Bool.and_eq_true, bne_iff_ne, ne_eq, beq_iff_eq] at hf
      obtain ⟨hn, ho⟩ := hf
      have pp : ∀ (d' : TypeDesc), P.underlying f.type = some d' → d'.isRow = false → ∀ (zs : List Value) z, zs[i]? = some z → (part f.type zs.toArray f.offset).run P w = .ok z w := by
        intro d' hu hr zs z hz
        have hag : isAggT P f.type = false := by unfold isAggT undl; rw [hu]; cases d' <;> simp_all [TypeDesc.isRow]
        simp [part, isAggT_run hu, hag, ho, hz]
      have step : ∀ (d' : TypeDesc), P.underlying f.type = some d' → d'.isRow = false → ∀ e, (Op.equalIn (d + 1) f.type x y).run P w = .ok e w → ∀ c', eqFieldsS P (i + 1) fs r s = some c' →
          (Op.eqFields (d + 1) xs.toArray ys.toArray (f :: fs)).run P w = .ok (e && c') w := by
        intro d' hu hr e he c' hc'
        have ih := eqFieldsS_sound fs (i + 1) hc' d hxs hys
        simp only [Op.eqFields, ne_eq, hn, not_false_eq_true, if_true, Sem.run_bind, pp d' hu hr xs x g1, pp d' hu hr ys y g2, Result.andThen_ok, he]
        cases e
        · simp
        · simpa using ih
      split at h
      · rename_i k a k' b
        rw [hx.int_inv, hy.int_inv] at step
        split at h
        · rename_i hk
          subst hk
          split at h
          · rename_i k2 hu
            split at h
            · rename_i c' hc'
              cases h
              exact step _ hu rfl _ (run_equalIn_int w d f.type k k2 a b hu) _ hc'
            · cases h
          · cases h
        · cases h
      · rename_i a b
        rw [hx.str_inv, hy.str_inv] at step
        split at h
        · rename_i hu
          split at h
          · rename_i c' hc'
            cases h
            exact step _ hu rfl _ (by rw [run_equalIn_string w d f.type _ _ hu]; simp) _ hc'
          · cases h
        · cases h
      · rename_i a b
        rw [hx.bool_inv, hy.bool_inv] at step
        split at h
        · rename_i hu
          split at h
          · rename_i c' hc'
            cases h
            exact step _ hu rfl _ (run_equalIn_bool' w d f.type a b hu) _ hc'
          · cases h
        · cases h
      · cases h
    · cases h

theorem isIfaceT_some {t : TypeId} (h : isIfaceT P t = true) : ∃ ms, P.underlying t = some (.interface ms) := by
  unfold isIfaceT undl at h
  split at h
  · exact ⟨_, by assumption⟩
  · cases h

theorem isBoolT_some {t : TypeId} (h : isBoolT P t = true) : P.underlying t = some .bool := by
  unfold isBoolT undl at h
  split at h
  · assumption
  · cases h

theorem isSliceT_some {t : TypeId} (h : isSliceT P t = true) : ∃ e, P.underlying t = some (.slice e) := by
  unfold isSliceT undl at h
  split at h
  · exact ⟨_, by assumption⟩
  · cases h

theorem evNilEq_sound {op : BinOp} {t e' : TypeId} (ht : P.underlying t = some (.slice e')) {a : Option Addr} {n c : Nat} {e : Bool} {Q : SV → Prop} (h : (evNilEq op e).can Q) (ha : e = false → a.isSome = true) :
    ∃ s v, Q s ∧ (binOp op t (.slice a n c) (.slice none 0 0)).run P w = .ok v w ∧ Sv F G ow w.heap s v := by
  have he : (Op.equal t (.slice a n c) (.slice none 0 0)).run P w = .ok a.isNone w := run_equal_of fun d => run_equalIn_nil ht a n c d
  unfold evNilEq at h
  split at h
  · have hr : (binOp .eql t (.slice a n c) (.slice none 0 0)).run P w = .ok (.bool a.isNone) w := by simp [binOp, he]
    cases a with
    | none =>
      cases e with
      | true => exact ⟨_, _, h.1, hr, .lb _⟩
      | false => simp at ha
    | some a =>
      cases e with
      | true => exact ⟨_, _, h.2, hr, .lb _⟩
      | false => exact ⟨_, _, h, hr, .lb _⟩
  · have hr : (binOp .neq t (.slice a n c) (.slice none 0 0)).run P w = .ok (.bool !a.isNone) w := by simp [binOp, he]
    cases a with
    | none =>
      cases e with
      | true => exact ⟨_, _, h.1, hr, .lb _⟩
      | false => simp at ha
    | some a =>
      cases e with
      | true => exact ⟨_, _, h.2, hr, .lb _⟩
      | false => exact ⟨_, _, h, hr, .lb _⟩
  · exact h.elim

theorem emptyOf_sound (hh : HRep F G ow w.heap) {x : SV} {xv : Value} (hx : Sv F G ow w.heap x xv) {e : Bool} (h : emptyOf ow x = some e) : ∃ a n c, xv = .slice a n c ∧ (e = false → a.isSome = true) := by
  unfold emptyOf at h
  split at h
  · cases h
    obtain ⟨_, a, c, rfl, _, hx⟩ := hx.sl_inv
    refine ⟨_, _, _, rfl, fun he => ?_⟩
    rcases hx with rfl | ⟨_, _, _, rfl, _⟩
    · simp at he
    · rfl
  · split at h
    · rename_i r hr
      cases h
      obtain ⟨_, _, _, _, _, _, _, a, c, rfl, _, hx⟩ := rowOf_sound hh hx hr
      refine ⟨_, _, _, rfl, fun he => ?_⟩
      rcases hx with hx | ⟨_, _, _, _, rfl, _⟩
      · simp [hx] at he
      · rfl
    · cases h

theorem evBin_sound {op : BinOp} {t : TypeId} {cst : Bool} {xo yo : Operand} (hcst : cst = ((xo matches .const _) || (yo matches .const _))) {x y : SV} {xv yv : Value} (hh : HRep F G ow w.heap)
    (hx : Sv F G ow w.heap x xv) (hy : Sv F G ow w.heap y yv) {Q : SV → Prop} (h : (evBin P op t cst x y ow).can Q) :
    ∃ s v, Q s ∧ (do eqGuard op t xo yo xv yv; binOp op t xv yv : Sem Value).run P w = .ok v w ∧ Sv F G ow w.heap s v := by
  unfold evBin at h
  split at h
  · rename_i k a k' b
    rw [hx.int_inv, hy.int_inv]
    have hg : (eqGuard op t xo yo (.int k a) (.int k' b)).run P w = .ok () w := run_eqGuard_plain _ _ _ _ _ _ (by simp) (by simp)
    split at h
    · obtain ⟨hc, h⟩ := h
      have hc : ¬ b < (0 : Int) := Int.not_lt.2 (of_decide_eq_true hc)
      exact ⟨_, _, h, run_bin hg (by simp [binOp, Op.shift, hc]), .int _ _⟩
    · obtain ⟨hc, h⟩ := h
      have hc : ¬ b < (0 : Int) := Int.not_lt.2 (of_decide_eq_true hc)
      exact ⟨_, _, h, run_bin hg (by simp [binOp, Op.shift, hc]), .int _ _⟩
    · split at h
      · rename_i hk
        subst hk
        obtain ⟨s, v, hq, hr, hs⟩ := binInt_sound (F := F) (G := G) (ow := ow) (w := w) (P := P) (t := t) h
        exact ⟨s, v, hq, run_bin hg hr, hs⟩
      · exact h.elim
  · rename_i a b
    split at h
    · rw [hx.str_inv, hy.str_inv]
      obtain ⟨s, v, hq, hr, hs⟩ := binStr_sound (F := F) (G := G) (ow := ow) (w := w) (P := P) (t := t) h
      exact ⟨s, v, hq, run_bin (run_eqGuard_plain _ _ _ _ _ _ (by simp) (by simp)) hr, hs⟩
    · exact h.elim
  · rename_i a b
    split at h
    · rename_i hc
      simp only [Bool.and_eq_true] at hc
      obtain ⟨ms, hu⟩ := isIfaceT_some hc.1
      obtain ⟨hab, h⟩ := h
      have hcc := hc.2
      rw [hcst] at hcc
      cases hx with
      | v _ hx =>
      cases hy with
      | v _ hy =>
      rcases hx with ⟨rfl, hx⟩ | ⟨rfl, tx, vx, hx⟩ <;> rcases hy with ⟨rfl, hy⟩ | ⟨rfl, ty, vy, hy⟩ <;> cases hx <;> cases hy
      · obtain ⟨s, v, hq, hr, hs⟩ := evEq_sound (F := F) (G := G) (ow := ow) (w := w) (P := P) (t := t) (a := .nilIface) (b := .nilIface) h (run_equal_of fun d => run_equalIn_00 hu d)
          (fun op ho => by rcases ho with rfl | rfl <;> simp [binOp])
        refine ⟨s, v, hq, run_bin (run_eqGuard_of _ _ _ _ _ _ ?_) hr, hs⟩
        simp only []
        rw [if_pos (by simpa using hcc)]
        rfl
      · obtain ⟨s, v, hq, hr, hs⟩ := evEq_sound (F := F) (G := G) (ow := ow) (w := w) (P := P) (t := t) (a := .nilIface) (b := .iface ty vy) h (run_equal_of fun d => run_equalIn_01 hu d ty vy)
          (fun op ho => by rcases ho with rfl | rfl <;> simp [binOp])
        exact ⟨s, v, hq, run_bin (run_eqGuard_plain _ _ _ _ _ _ (by simp) (by simp)) hr, hs⟩
      · obtain ⟨s, v, hq, hr, hs⟩ := evEq_sound (F := F) (G := G) (ow := ow) (w := w) (P := P) (t := t) (a := .iface tx vx) (b := .nilIface) h (run_equal_of fun d => run_equalIn_10 hu d tx vx)
          (fun op ho => by rcases ho with rfl | rfl <;> simp [binOp])
        exact ⟨s, v, hq, run_bin (run_eqGuard_plain _ _ _ _ _ _ (by simp) (by simp)) hr, hs⟩
      · simp at hab
    · exact h.elim
  · rename_i a b
    split at h
    · rename_i fs hu
      split at h
      · exact h.elim
      rename_i hst
      simp only [Bool.or_eq_true, not_or, Bool.not_eq_true] at hst
      split at h
      · rename_i c hc
        obtain ⟨xs, rfl, hxs⟩ := hx.agg_inv
        obtain ⟨ys, rfl, hys⟩ := hy.agg_inv
        have hf : P.fieldsOf t = fs := by simp [Program.fieldsOf, undl] at hu ⊢; rw [hu]
        have hu' : P.underlying t = some (.struct (P.fieldsOf t)) := by rw [hf]; exact hu
        have he : (Op.equal t (.agg xs.toArray) (.agg ys.toArray)).run P w = .ok c w := by
          show (Op.equalIn (9998 + 1 + 1) t _ _).run P w = _
          generalize (9998 : Nat) = d
          rw [run_equalIn_struct w (d + 1) t _ _ hu' hst.1, hf]
          exact eqFieldsS_sound fs.toList 0 hc d (by simpa using hxs) (by simpa using hys)
        obtain ⟨s, v, hq, hr, hs⟩ := evEq_sound (F := F) (G := G) (ow := ow) (w := w) (P := P) (t := t) h he (fun op ho => by rcases ho with rfl | rfl <;> simp [binOp])
        exact ⟨s, v, hq, run_bin (run_eqGuard_agg w op t xo yo _ _ hst.2) hr, hs⟩
      · exact h.elim
    · exact h.elim
  · split at h
    · rename_i ht
      obtain ⟨e, hu⟩ := isSliceT_some ht
      split at h
      · rename_i c hc
        cases hx
        cases hy
        have he : (Op.equal t (.slice none 0 0) (.slice none 0 0)).run P w = .ok true w := run_equal_of fun d => run_equalIn_nil hu none 0 0 d
        have hg : (eqGuard op t xo yo (.slice none 0 0) (.slice none 0 0)).run P w = .ok () w := run_eqGuard_plain _ _ _ _ _ _ (by simp) (by simp)
        cases op <;> simp [eqOp] at hc
        · subst hc; exact ⟨_, _, h, run_bin hg (by simp [binOp, he]), .lb _⟩
        · subst hc; exact ⟨_, _, h, run_bin hg (by simp [binOp, he]), .lb _⟩
      · exact h.elim
    · exact h.elim
  · split at h
    · rename_i ht
      obtain ⟨e, hu⟩ := isSliceT_some ht
      split at h
      · rename_i c hc
        cases hy
        obtain ⟨a, n, cc, rfl, ha⟩ := emptyOf_sound hh hx hc
        obtain ⟨s, v, hq, hr, hs⟩ := evNilEq_sound (F := F) (G := G) (ow := ow) (w := w) hu h ha
        exact ⟨s, v, hq, run_bin (run_eqGuard_plain _ _ _ _ _ _ (by simp) (by simp)) hr, hs⟩
      · exact h.elim
    · exact h.elim
  · split at h
    · rename_i a b ha hb
      split at h
      · rename_i ht
        have hu := isBoolT_some ht
        rw [boolOf_inv hx ha, boolOf_inv hy hb]
        obtain ⟨s, v, hq, hr, hs⟩ := evEq_sound (F := F) (G := G) (ow := ow) (w := w) (P := P) (t := t) (a := .bool a) (b := .bool b) h (run_equal_of fun d => run_equalIn_bool' w d t a b hu)
          (fun op ho => by rcases ho with rfl | rfl <;> simp [binOp])
        exact ⟨s, v, hq, run_bin (run_eqGuard_plain _ _ _ _ _ _ (by simp) (by simp)) hr, hs⟩
      · exact h.elim
    · exact h.elim

theorem evUn_sound {op : UnOp} {x : SV} {xv : Value} (hx : Sv F G ow w.heap x xv) {Q : SV → Prop} (h : (evUn op x).can Q) : ∃ s v, Q s ∧ (Op.unary op xv).run P w = .ok v w ∧ Sv F G ow w.heap s v := by
  unfold evUn at h
  split at h
  · rw [hx.bool_inv]; exact ⟨_, _, h, by simp [Op.unary], .bool _⟩
  · rw [hx.lb_inv]; exact ⟨_, _, h, by simp [Op.unary], .lb _⟩
  · rw [hx.int_inv]; exact ⟨_, _, h, by simp [Op.unary, Op.intArith], .int _ _⟩
  · rw [hx.int_inv]; exact ⟨_, _, h, by simp [Op.unary, Op.intBits], .int _ _⟩
  · exact h.elim

theorem evPick_sound {c a b : SV} {cv av bv : Value} (hc : Sv F G ow w.heap c cv) (ha : Sv F G ow w.heap a av) (hb : Sv F G ow w.heap b bv) {Q : SV → Prop} (h : (evPick c a b).can Q) :
    ∃ s v, Q s ∧ (do pure (if ← asBool cv then av else bv) : Sem Value).run P w = .ok v w ∧ Sv F G ow w.heap s v := by
  unfold evPick at h
  split at h
  · rename_i t
    rw [hc.lb_inv]
    cases t
    · exact ⟨_, bv, h, by simp [asBool], hb⟩
    · exact ⟨_, av, h, by simp [asBool], ha⟩
  · rename_i t
    split at h
    · rename_i x y hx hy
      rw [hc.bool_inv, boolOf_inv ha hx, boolOf_inv hb hy]
      cases t
      · exact ⟨_, _, h, by simp [asBool], .bool _⟩
      · exact ⟨_, _, h, by simp [asBool], .bool _⟩
    · exact h.elim
  · exact h.elim

end
end Go.Pev
