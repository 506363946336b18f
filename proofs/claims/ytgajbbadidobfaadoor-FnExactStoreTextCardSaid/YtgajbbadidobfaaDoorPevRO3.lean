/-
  PEV, part 6: slices, lengths, strings, comparisons.
-/
import Derived.Test.YtgajbbadidobfaaDoorPevRO2
import Derived.Laws.BytesArg
import Derived.Laws.StructEq
namespace Go.Pev
section
variable {F : Nat → Prop} {G : Gh} {ow : OW} {w : World} {P : Program}

/-! ### Inversion -/

theorem Sv.int_inv {k : IntKind} {n : Int} {v : Value} (h : Sv F G ow w.heap (.v (.int k) n) v) : v = .int k n := by
  cases h with
  | v _ h => cases h; rfl

theorem Sv.str_inv {s : List UInt8} {v : Value} (h : Sv F G ow w.heap (.v .str s) v) : v = .string ⟨s.toArray⟩ := by
  cases h with
  | v _ h => cases h; rfl

theorem Sv.bool_inv {b : Bool} {v : Value} (h : Sv F G ow w.heap (.v .bool b) v) : v = .bool b := by
  cases h with
  | v _ h => cases h; rfl

theorem Sv.lb_inv {b : Bool} {v : Value} (h : Sv F G ow w.heap (.lb b) v) : v = .bool b := by cases h; rfl

theorem Sv.int (k : IntKind) (n : Int) : Sv F G ow w.heap (.v (.int k) n) (.int k n) := .v rfl rfl
theorem Sv.str (s : List UInt8) : Sv F G ow w.heap (.v .str s) (.string ⟨s.toArray⟩) := .v rfl rfl
theorem Sv.bool (b : Bool) : Sv F G ow w.heap (.v .bool b) (.bool b) := .v rfl rfl

theorem Sv.sl_inv {o : Bool} {e : Kd} {l : List e.T} {v : Value} (h : Sv F G ow w.heap (.v (.sl o e) l) v) :
    o = false ∧ ∃ a c, v = .slice a l.length c ∧ l.length ≤ c ∧
      (l = [] ∨ ∃ b of r, a = some ⟨b, of, none⟩ ∧ okF F G ow b ∧ rowCells w.heap b = some r ∧ ElemsR (fun x cs => Rep w.heap (okF F G ow) e x cs) e.n l r of) := by
  cases h with
  | v _ h =>
  cases o with
  | true => exact h.elim
  | false =>
  obtain ⟨a, c, hcs, h⟩ := h
  simp only [List.cons.injEq, and_true] at hcs
  exact ⟨rfl, a, c, hcs, h⟩

/-! ### Slicing -/

theorem optInt_some {x : Option SV} {v : Option Value} (hx : ∀ s, x = some s → ∃ u, v = some u ∧ Sv F G ow w.heap s u) (hn : x = none → v = none) {a : Option Int} (h : optInt x = some a) :
    (v = none ∧ a = none) ∨ ∃ k n, v = some (.int k n) ∧ a = some n := by
  unfold optInt at h
  split at h
  · cases h; exact .inl ⟨hn rfl, rfl⟩
  · rename_i k n
    cases h
    obtain ⟨u, rfl, hu⟩ := hx _ rfl
    exact .inr ⟨k, n, by rw [hu.int_inv], rfl⟩
  · cases h

theorem cutOk_spec {n : Nat} {a b : Option Int} (h : cutOk n a b = true) :
    (∀ x, a = some x → 0 ≤ x) ∧ (∀ x, b = some x → 0 ≤ x) ∧ (a.getD 0).toNat ≤ (b.getD n).toNat ∧ (b.getD n).toNat ≤ n := by
  cases a <;> cases b <;> simp [cutOk] at h ⊢ <;> omega

theorem cutL_eq {α : Type} (l : List α) (a b : Option Int) : cutL l a b = (l.take (b.getD l.length).toNat).drop (a.getD 0).toNat := by
  cases a <;> cases b <;> simp [cutL]

theorem run_sliceBounds {s : Bool} {len c : Nat} {lo hi : Option Value} {a b : Option Int} (hl : (lo = none ∧ a = none) ∨ ∃ k n, lo = some (.int k n) ∧ a = some n)
    (hh : (hi = none ∧ b = none) ∨ ∃ k n, hi = some (.int k n) ∧ b = some n) (hc : len ≤ c) (h : cutOk len a b = true) :
    (Instr.sliceBounds s len c lo hi none).run P w = .ok ((a.getD 0).toNat, (b.getD len).toNat, c) w := by
  obtain ⟨h1, h2, h3, h4⟩ := cutOk_spec h
  rcases hl with ⟨rfl, rfl⟩ | ⟨kl, l, rfl, rfl⟩ <;> rcases hh with ⟨rfl, rfl⟩ | ⟨kh, u, rfl, rfl⟩
  · simp [Instr.sliceBounds]
  · have := h2 u rfl
    simp at h3 h4
    simp [Instr.sliceBounds, run_sliceBound, this, show u ≤ (c : Int) by omega]
  · have := h1 l rfl
    simp at h3 h4
    simp [Instr.sliceBounds, run_sliceBound, this, show l ≤ (len : Int) by omega]
  · have e1 := h1 l rfl
    have e2 := h2 u rfl
    simp at h3 h4
    simp [Instr.sliceBounds, run_sliceBound, e2, show u ≤ (c : Int) by omega, run_sliceBound w kl l u.toNat .sliceB e1 (by omega)]

theorem run_slice_str {t : TypeId} (ht : isStrT P t = true) {s : List UInt8} {lo hi : Option Value} {a b : Option Int} (hl : (lo = none ∧ a = none) ∨ ∃ k n, lo = some (.int k n) ∧ a = some n)
    (hh : (hi = none ∧ b = none) ∨ ∃ k n, hi = some (.int k n) ∧ b = some n) (h : cutOk s.length a b = true) :
    (Instr.sliceAt t (.string ⟨s.toArray⟩) lo hi none).run P w = .ok (.string ⟨(cutL s a b).toArray⟩) w := by
  have hu : P.underlying t = some .string := by
    unfold isStrT undl at ht
    split at ht
    · assumption
    · cases ht
  rw [run_sliceAt_string w t _ _ _ _ hu]
  have hsz : (ByteArray.mk s.toArray).size = s.length := by simp [ByteArray.size]
  simp only [Instr.slice, Sem.run_bind, run_underlying hu, Result.andThen_ok]
  simp only [Option.isSome_none, Bool.false_eq_true, if_false, Sem.run_pure, Sem.run_bind, hsz]
  rw [run_sliceBounds hl hh (Nat.le_refl _) h]
  simp only [Result.andThen_ok]
  congr 2
  rw [cutL_eq]
  apply ByteArray.ext
  simp [ByteArray.data_extract, List.drop_take]

theorem run_slice_sl {t : TypeId} {n : Nat} (ht : sliceOf P t n = true) {ad : Option Addr} {len c : Nat} (hc : len ≤ c) {lo hi : Option Value} {a b : Option Int}
    (hl : (lo = none ∧ a = none) ∨ ∃ k n, lo = some (.int k n) ∧ a = some n) (hh : (hi = none ∧ b = none) ∨ ∃ k n, hi = some (.int k n) ∧ b = some n) (h : cutOk len a b = true) :
    (Instr.sliceAt t (.slice ad len c) lo hi none).run P w =
      .ok (.slice (if c = (a.getD 0).toNat then ad else ad.map (·.add ((a.getD 0).toNat * n))) ((b.getD len).toNat - (a.getD 0).toNat) (c - (a.getD 0).toNat)) w := by
  obtain ⟨e, ti, hu, hi', rfl⟩ := sliceOf_some ht
  have he : P.elem t = e := by simp [Program.elem, hu]
  have hu' : P.underlying t = some (.slice (P.elem t)) := by rw [he]; exact hu
  rw [run_sliceAt_slice w t _ _ _ _ hu', run_slice_any w t ad len c hu', run_sliceBounds hl hh hc h]
  simp only [Result.andThen_ok, sizeOf, typeInfo, he]
  simp [hi', sliced]

theorem HandV.slice {h : Array Obj} {n d j off len : Nat} {v : Value} (hv : HandV h G n d j off len v) {l u : Nat} (hl : l ≤ u) (hu : u ≤ len) {a : Option Addr} {c : Nat} (he : v = .slice a len c) :
    HandV h G n d j (off + l) (u - l) (.slice (if c = l then a else a.map (·.add (l * n))) (u - l) (c - l)) := by
  obtain ⟨a', c', he', hc, hv⟩ := hv
  rw [he] at he'; cases he'
  refine ⟨_, _, rfl, by omega, ?_⟩
  rcases hv with ⟨h0, rfl, h2⟩ | ⟨b, o, o', r, hG, rfl, hr, ho, hs⟩
  · exact .inl ⟨h0, by split <;> rfl, by omega⟩
  · by_cases hcl : c = l
    · refine .inr ⟨b, o, o', r, hG, by simp [hcl], hr, fun h => by omega, ?_⟩
      subst hcl
      simp
      omega
    · refine .inr ⟨b, o, o' + l * n, r, hG, by simp only [hcl, if_false, Option.map_some, Addr.add_mid], hr, fun _ => ?_, ?_⟩
      · rw [ho (by omega), Nat.add_mul, Nat.add_assoc]
      · have : l * n + (c - l) * n = c * n := by rw [← Nat.add_mul]; congr 1; omega
        omega

theorem evSlice_sound {t : TypeId} {x : SV} {lo hi : Option SV} {xv : Value} {lov hiv : Option Value} (hx : Sv F G ow w.heap x xv)
    (hlo : ∀ s, lo = some s → ∃ u, lov = some u ∧ Sv F G ow w.heap s u) (hlo' : lo = none → lov = none) (hhi : ∀ s, hi = some s → ∃ u, hiv = some u ∧ Sv F G ow w.heap s u) (hhi' : hi = none → hiv = none)
    {Q : SV → Prop} (h : (evSlice P t x lo hi ow).can Q) : ∃ s v, Q s ∧ (Instr.sliceAt t xv lov hiv none).run P w = .ok v w ∧ Sv F G ow w.heap s v := by
  unfold evSlice at h
  split at h
  · rename_i a b ha hb
    have hl := optInt_some hlo hlo' ha
    have hh := optInt_some hhi hhi' hb
    split at h
    · rename_i s
      split at h
      · rename_i ht
        obtain ⟨hc, h⟩ := h
        rw [hx.str_inv]
        exact ⟨_, _, h, run_slice_str ht hl hh hc, .str _⟩
      · exact h.elim
    · rename_i o e l
      split at h
      · rename_i ht
        obtain ⟨hc, h⟩ := h
        obtain ⟨rfl, ad, c, rfl, hle, hx⟩ := hx.sl_inv
        refine ⟨_, _, h, run_slice_sl ht hle hl hh hc, ?_⟩
        obtain ⟨_, _, h3, h4⟩ := cutOk_spec hc
        have hlen : (cutL l a b).length = (b.getD l.length).toNat - (a.getD 0).toNat := by rw [cutL_eq]; simp; omega
        refine .v rfl ⟨_, _, by rw [hlen], by rw [hlen]; omega, ?_⟩
        rcases hx with rfl | ⟨bb, o, r, rfl, hok, hr, hel⟩
        · exact .inl (by rw [cutL_eq]; simp)
        · by_cases hcl : c = (a.getD 0).toNat
          · exact .inl (List.eq_nil_of_length_eq_zero (by omega))
          · refine .inr ⟨bb, o + (a.getD 0).toNat * e.n, r, by simp [hcl, Addr.add_mid], hok, hr, ?_⟩
            have hsz := hel.1
            refine ⟨?_, fun i hi => ?_⟩
            · have : ((a.getD 0).toNat + (cutL l a b).length) * e.n ≤ l.length * e.n := Nat.mul_le_mul_right _ (by omega)
              rw [Nat.add_mul] at this
              omega
            · have e1 : (cutL l a b)[i] = l[(a.getD 0).toNat + i]'(by omega) := by simp only [cutL_eq]; simp
              rw [e1]
              have := hel.2 ((a.getD 0).toNat + i) (by omega)
              rw [Nat.add_mul, ← Nat.add_assoc] at this
              exact this
      · exact h.elim
    · rename_i d j ver path
      split at h
      · rename_i r hr
        split at h
        · rename_i ht
          obtain ⟨hc, h⟩ := h
          obtain ⟨rfl, v', hn⟩ := rowAt_some hr
          obtain ⟨_, _, h3, h4⟩ := cutOk_spec hc
          cases hx with
          | wh hx =>
          rcases hn with hn | hn <;>
          · simp only [HandR, hn, Option.getD_none] at hx
            obtain ⟨hle, hx⟩ := hx
            obtain ⟨ad, c, rfl, hlc, _⟩ := id hx
            refine ⟨_, _, h, run_slice_sl ht hlc hl hh hc, .os ?_⟩
            simp only [HandR, hn, Option.getD_some]
            have := hx.slice h3 h4 rfl
            rw [Nat.zero_add] at this
            exact ⟨by omega, this⟩
        · exact h.elim
      · exact h.elim
    · rename_i d j ver path off len
      split at h
      · rename_i r hr
        split at h
        · rename_i ht
          obtain ⟨hc, h⟩ := h
          obtain ⟨rfl, v', hn⟩ := rowAt_some hr
          obtain ⟨_, _, h3, h4⟩ := cutOk_spec hc
          cases hx with
          | os hx =>
          rcases hn with hn | hn <;>
          · simp only [HandR, hn, Option.getD_some] at hx
            obtain ⟨hle, hx⟩ := hx
            obtain ⟨ad, c, rfl, hlc, _⟩ := id hx
            refine ⟨_, _, h, run_slice_sl ht hlc hl hh hc, .os ?_⟩
            simp only [HandR, hn, Option.getD_some]
            exact ⟨by omega, hx.slice h3 h4 rfl⟩
        · exact h.elim
      · exact h.elim
    · exact h.elim
  · exact h.elim

/-! ### Lengths -/

theorem evLen_sound {t ty : TypeId} {ts : List TypeId} {x : SV} {xv : Value} (hx : Sv F G ow w.heap x xv) {Q : SV → Prop} (h : (evLen P t x ow).can Q) :
    ∃ s v, Q s ∧ (Builtin.len_ (t :: ts).toArray ty #[xv]).run P w = .ok v w ∧ Sv F G ow w.heap s v := by
  unfold evLen at h
  split at h
  · rename_i s
    split at h
    · rename_i ht
      have hu : P.underlying t = some .string := by
        unfold isStrT undl at ht
        split at ht
        · assumption
        · cases ht
      rw [hx.str_inv]
      have hsz : (ByteArray.mk s.toArray).size = s.length := by simp [ByteArray.size]
      exact ⟨_, _, h, by simp [Builtin.len_, run_underlying hu, goInt, hsz], .int _ _⟩
    · exact h.elim
  · split at h
    · rename_i ht
      obtain ⟨e, hu⟩ : ∃ e, P.underlying t = some (.slice e) := by
        unfold isSliceT undl at ht
        split at ht
        · exact ⟨_, by assumption⟩
        · cases ht
      have key : ∀ a n c, (Builtin.len_ (t :: ts).toArray ty #[.slice a n c]).run P w = .ok (.int .i64 n) w := fun a n c => by simp [Builtin.len_, run_underlying hu, goInt]
      split at h
      · obtain ⟨_, _, _, rfl, _⟩ := hx.sl_inv
        exact ⟨_, _, h, key _ _ _, .int _ _⟩
      · cases hx
        exact ⟨_, _, h, key _ _ _, .int _ _⟩
      · split at h
        · rename_i r hr
          obtain ⟨rfl, v', hn⟩ := rowAt_some hr
          cases hx with
          | wh hx =>
          rcases hn with hn | hn <;>
          · simp only [HandR, hn, Option.getD_none] at hx
            obtain ⟨_, _, _, rfl, _⟩ := hx
            exact ⟨_, _, h, key _ _ _, .int _ _⟩
        · exact h.elim
      · split at h
        · rename_i r hr
          obtain ⟨rfl, v', hn⟩ := rowAt_some hr
          cases hx with
          | os hx =>
          rcases hn with hn | hn <;>
          · simp only [HandR, hn, Option.getD_some] at hx
            obtain ⟨_, _, _, rfl, _⟩ := hx
            exact ⟨_, _, h, key _ _ _, .int _ _⟩
        · exact h.elim
      · exact h.elim
    · exact h.elim

/-! ### A string's byte -/

theorem isStrT_some {t : TypeId} (ht : isStrT P t = true) : P.underlying t = some .string := by
  unfold isStrT undl at ht
  split at ht
  · assumption
  · cases ht

theorem evIndex_sound {t : TypeId} (ht : isStrT P t = true) {x i : SV} {xv iv : Value} (hx : Sv F G ow w.heap x xv) (hi : Sv F G ow w.heap i iv) {Q : SV → Prop} (h : (evIndex x i).can Q) :
    ∃ s v, Q s ∧ (Instr.index t xv iv).run P w = .ok v w ∧ Sv F G ow w.heap s v := by
  unfold evIndex at h
  split at h
  · rename_i s k n
    obtain ⟨hc, b, hb, h⟩ := h
    have hc : (0 : Int) ≤ n := by simpa using hc
    rw [hx.str_inv, hi.int_inv]
    refine ⟨_, _, h, ?_, .int _ _⟩
    obtain ⟨hlt, rfl⟩ := List.getElem?_eq_some_iff.1 hb
    have : (ByteArray.mk s.toArray)[n.toNat]? = some (s[n.toNat]) := by
      rw [ByteArray.getElem?_lt' _ _ (by simpa [ByteArray.size] using hlt)]
      rfl
    simp [Instr.index, asIntOf, run_underlying (isStrT_some ht), hc, this]
  · exact h.elim

/-! ### Conversions -/

theorem run_bytes_conv {src dst e : TypeId} (hs : P.underlying src = some (.slice e)) (he : P.underlying e = some (.int .u8)) (hd : P.underlying dst = some .string) {b o c : Nat} {l : List Int} {r : Array Value}
    (hr : rowCells w.heap b = some r) (hel : ElemsR (fun (x : Int) cs => cs = [Value.int .u8 x]) 1 l r o) :
    (convert src dst (.slice (some ⟨b, o, none⟩) l.length c)).run P w = .ok (.string ⟨(l.map fun n : Int => UInt8.ofNat n.toNat).toArray⟩) w := by
  rw [run_convert_bytes_arg w src e hs he b o l.length c l rfl (fun i hi => ?_) dst hd]
  · rfl
  · rw [rowCells_cell hr]
    have := hel.2 i hi
    have hsz := hel.1
    have e1 := sub_getElem (r := r) (o := o + i * 1) (n := 1) (i := 0) (by omega)
    rw [this] at e1
    simp only [List.getElem?_cons_zero, Nat.mul_one, Nat.add_zero] at e1
    rw [← e1]
    simp [List.getD, hi]

/-- The part of a row that a handle is. -/
theorem ElemsR.part {α : Type} {R : α → List Value → Prop} {n : Nat} {l : List α} {r : Array Value} {o : Nat} (h : ElemsR R n l r o) {off len : Nat} (hle : off + len ≤ l.length) : ElemsR R n (subL l off len) r (o + off * n) := by
  have hl : (subL l off len).length = len := by simp [subL]; omega
  refine ⟨?_, fun i hi => ?_⟩
  · have := h.1
    have e : (off + len) * n ≤ l.length * n := Nat.mul_le_mul_right _ hle
    rw [Nat.add_mul] at e
    rw [hl]
    omega
  · have := h.2 (off + i) (by omega)
    rw [Nat.add_mul, ← Nat.add_assoc] at this
    have e : (subL l off len)[i] = l[off + i]'(by omega) := by simp [subL]
    rw [e]
    exact this

theorem rowOf_sound (hh : HRep F G ow w.heap) {x : SV} {xv : Value} (hx : Sv F G ow w.heap x xv) {r : Sigma fun k : Kd => List k.T} (hr : rowOf ow x = some r) :
    ∃ d j ver l0, keyOf x = some (d, j) ∧ (nameOf ow d j = some (some (.row r.1 ver l0)) ∨ nameOf ow d j = some (some (.frow r.1 ver l0))) ∧ r.1.good = true ∧ ∃ a c, xv = .slice a r.2.length c ∧ r.2.length ≤ c ∧
      (r.2 = [] ∨ ∃ b o rw_, (∃ o', G d j = some (b, o')) ∧ a = some ⟨b, o, none⟩ ∧ rowCells w.heap b = some rw_ ∧ ElemsR (fun x cs => Rep w.heap (okF F G ow) r.1 x cs) r.1.n r.2 rw_ o ∧ (isRow ow d j = false → okF F G ow b)) := by
  have key : ∀ {d j off : Nat} {len : Option Nat} {k : Kd} {l0 : List k.T}, HandR w.heap G ow d j off len xv → rowAt ow d j [] = some ⟨k, l0⟩ →
      ∃ ver, (nameOf ow d j = some (some (.row k ver l0)) ∨ nameOf ow d j = some (some (.frow k ver l0))) ∧ k.good = true ∧ off + len.getD l0.length ≤ l0.length ∧ ∃ a c, xv = .slice a (len.getD l0.length) c ∧ len.getD l0.length ≤ c ∧
      (subL l0 off (len.getD l0.length) = [] ∨ ∃ b o rw_, (∃ o', G d j = some (b, o')) ∧ a = some ⟨b, o, none⟩ ∧ rowCells w.heap b = some rw_ ∧ ElemsR (fun x cs => Rep w.heap (okF F G ow) k x cs) k.n (subL l0 off (len.getD l0.length)) rw_ o ∧ (isRow ow d j = false → okF F G ow b)) := by
    intro d j off len k l0 hx hr
    unfold rowAt at hr
    split at hr
    · rename_i k' ver l' _ hg
      cases hr
      have hn := nameOf_of_getOb hg
      simp only [HandR, hn] at hx
      obtain ⟨hle, a, c, rfl, hlc, hx⟩ := hx
      obtain ⟨hgood, ho⟩ := hh.obs d j _ hn
      refine ⟨ver, .inl hn, hgood, hle, a, c, rfl, hlc, ?_⟩
      rcases hx with ⟨_, _, h1⟩ | ⟨b, o, o', rw_, hG, rfl, hrow, ho', _⟩
      · exact .inl (by simp [subL]; omega)
      · by_cases hc0 : 0 < c
        · have ho' := ho' hc0
          subst ho'
          simp only [hG] at ho
          obtain ⟨r2, et, hb, hel⟩ := ho
          have := rowCells_of hb
          rw [hrow] at this; cases this
          exact .inr ⟨b, _, rw_, ⟨o, hG⟩, rfl, hrow, hel.part hle, fun hf => by simp [isRow, hg] at hf⟩
        · exact .inl (by simp [subL]; omega)
    · rename_i k' ver l' _ hg
      cases hr
      have hn := nameOf_of_getOb hg
      simp only [HandR, hn] at hx
      obtain ⟨hle, a, c, rfl, hlc, hx⟩ := hx
      obtain ⟨hgood, ho⟩ := hh.obs d j _ hn
      refine ⟨ver, .inr hn, hgood, hle, a, c, rfl, hlc, ?_⟩
      rcases hx with ⟨_, _, h1⟩ | ⟨b, o, o', rw_, hG, rfl, hrow, ho', _⟩
      · exact .inl (by simp [subL]; omega)
      · by_cases hc0 : 0 < c
        · have ho' := ho' hc0
          subst ho'
          simp only [hG] at ho
          rcases ho with rfl | ⟨hok, r2, hb, hel⟩
          · exact .inl (by simp [subL])
          rw [hrow] at hb; cases hb
          exact .inr ⟨b, _, rw_, ⟨o, hG⟩, rfl, hrow, hel.part hle, fun _ => hok⟩
        · exact .inl (by simp [subL]; omega)
    · cases hr
  unfold rowOf at hr
  split at hr
  · rename_i d j ver path
    have hp := (rowAt_some hr).1
    subst hp
    cases hx with
    | wh hx =>
    obtain ⟨ver', hn, hgood, hle, a, c, hxv, hlc, h⟩ := key hx hr
    have e : subL r.2 0 r.2.length = r.2 := by simp [subL]
    simp only [Option.getD_none, e] at hxv hlc h
    exact ⟨d, j, ver', r.2, rfl, hn, hgood, a, c, hxv, hlc, h⟩
  · rename_i d j ver path off len
    split at hr
    · rename_i r' hr'
      cases hr
      have hp := (rowAt_some hr').1
      subst hp
      cases hx with
      | os hx =>
      obtain ⟨ver', hn, hgood, hle, a, c, hxv, hlc, h⟩ := key hx hr'
      simp only [Option.getD_some] at hxv hlc h hle
      have e : (subL r'.2 off len).length = len := by simp [subL]; omega
      refine ⟨d, j, ver', r'.2, rfl, hn, hgood, a, c, ?_, ?_, h⟩ <;> simp only [e] <;> assumption
    · cases hr
  · cases hr

theorem evConvert_sound {src dst : TypeId} {x : SV} {xv : Value} (hh : HRep F G ow w.heap) (hx : Sv F G ow w.heap x xv) {Q : SV → Prop} (h : (evConvert P src dst x ow).can Q) :
    ∃ s v, Q s ∧ (convert src dst xv).run P w = .ok v w ∧ Sv F G ow w.heap s v := by
  unfold evConvert undl at h
  split at h
  · rename_i k1 k k2 n hs hd
    rw [hx.int_inv]
    exact ⟨_, _, h, by simp [convert, run_underlying hs, run_underlying hd, Conv.intToInt], .int _ _⟩
  · rename_i e hs hd
    split at h
    · rename_i he
      have nilc : ∀ l c, (convert src dst (.slice none l c)).run P w = .ok (.string ByteArray.empty) w := fun l c => run_convert_bytes_nil w src e hs he l c dst hd
      have emp : ∀ a c, (convert src dst (.slice a 0 c)).run P w = .ok (.string ⟨#[]⟩) w := fun a c => by
        cases a with
        | none => exact nilc _ _
        | some a =>
          rw [run_convert_bytes_string w src dst e _ 0 c hs he hd, run_bytesToString w a 0 c [] (by simpa using run_loadCells_list (P := P) w a [] (fun j v hj => by simp at hj))]
          rfl
      split at h
      · cases hx
        exact ⟨_, _, h, emp _ _, .str _⟩
      · rename_i o l
        obtain ⟨rfl, a, c, rfl, _, hx⟩ := hx.sl_inv
        rcases hx with rfl | ⟨b, of, r, rfl, _, hr, hel⟩
        · exact ⟨_, _, h, emp _ _, .str _⟩
        · exact ⟨_, _, h, run_bytes_conv hs he hd hr hel, .str _⟩
      · split at h
        · rename_i l hrow
          obtain ⟨d, j, ver, l0, _, _, _, a, c, rfl, _, hx⟩ := rowOf_sound hh hx hrow
          rcases hx with hx | ⟨b, of, r, _, rfl, hr, hel, _⟩
          · simp only at hx
            subst hx
            exact ⟨_, _, h, emp _ _, .str _⟩
          · exact ⟨_, _, h, run_bytes_conv hs he hd hr hel, .str _⟩
        · exact h.elim
    · exact h.elim
  · exact h.elim

end
end Go.Pev
