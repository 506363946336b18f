/-
  PEV, part 5: addresses, slices, lengths, strings.
-/
import Derived.Test.YtgajbbadidobfaaDoorPevRO
import Derived.Laws.Slices
import Derived.Laws.Strings
import Derived.Laws.Concat
namespace Go.Pev
section
variable {F : Nat → Prop} {G : Gh} {ow : OW} {w : World} {P : Program}

theorem fieldT_some {t : TypeId} {j : Nat} {fd : Field} (h : fieldT P t j = some fd) : ∃ fs, P.underlying t = some (.struct fs) ∧ fs[j]? = some fd := by
  unfold fieldT undl at h
  split at h
  · rename_i fs e; exact ⟨fs, e, h⟩
  · cases h

theorem run_fieldAt {t : TypeId} {j : Nat} {fd : Field} (h : fieldT P t j = some fd) (hz : ¬ sizeT P fd.type = 0) (b o : Nat) :
    (Instr.fieldAt t (.pointer (some ⟨b, o, none⟩)) j).run P w = .ok (.pointer (some ⟨b, o + fd.offset, none⟩)) w := by
  obtain ⟨fs, hu, hf⟩ := fieldT_some h
  obtain ⟨i, hi⟩ : ∃ i, P.info? fd.type = some i := by
    cases hq : P.info? fd.type with
    | none => simp [sizeT, Program.cellsOf, hq] at hz
    | some i => exact ⟨i, rfl⟩
  have hs : ¬ i.size = 0 := by simpa [sizeT, Program.cellsOf, hi] using hz
  simp [Instr.fieldAt, run_underlying hu, hf, Instr.sureAddr, fieldPlace, sizeOf, typeInfo, hi, hs, Addr.add_mid]

theorem isBox_some {d j : Nat} (h : isBox ow d j = true) : ∃ cells, nameOf ow d j = some (some (.box cells)) := by
  unfold isBox at h
  split at h
  · rename_i cells e; exact ⟨cells, nameOf_of_getOb e⟩
  · cases h

/-- A row that is there: own or frozen. -/
theorem rowAt_some {d j : Nat} {path : List (Nat × Nat)} {r : Sigma fun k : Kd => List k.T} (h : rowAt ow d j path = some r) :
    path = [] ∧ ∃ ver, nameOf ow d j = some (some (.row r.1 ver r.2)) ∨ nameOf ow d j = some (some (.frow r.1 ver r.2)) := by
  unfold rowAt at h
  split at h
  · rename_i k ver l e; cases h; exact ⟨rfl, ver, .inl (nameOf_of_getOb e)⟩
  · rename_i k ver l e; cases h; exact ⟨rfl, ver, .inr (nameOf_of_getOb e)⟩
  · cases h

theorem evFieldAddr_sound {t : TypeId} {p : SV} {pv : Value} {f : Nat} (hp : Sv F G ow w.heap p pv) {Q : SV → Prop} (h : (evFieldAddr P t p f ow).can Q) :
    ∃ s v, Q s ∧ (Instr.fieldAt t pv f).run P w = .ok v w ∧ Sv F G ow w.heap s v := by
  unfold evFieldAddr at h
  split at h
  · exact h.elim
  rename_i fd hf
  split at h
  · exact h.elim
  rename_i hz
  split at h
  · rename_i d j c
    split at h
    · rename_i hb
      obtain ⟨cells, hn⟩ := isBox_some hb
      cases hp with
      | bp hp =>
      simp only [hn] at hp
      obtain ⟨b, o, hG, rfl⟩ := hp
      exact ⟨_, _, h, run_fieldAt hf hz _ _, .bp (by simp only [hn]; exact ⟨b, o, hG, by rw [Nat.add_assoc]⟩)⟩
    · exact h.elim
  · rename_i d j ver path e c
    split at h
    · rename_i r hr
      obtain ⟨rfl, v', hn⟩ := rowAt_some hr
      cases hp with
      | rp hp =>
      rcases hn with hn | hn <;>
      · simp only [hn] at hp
        obtain ⟨he, b, o, hG, rfl⟩ := hp
        exact ⟨_, _, h, run_fieldAt hf hz _ _, .rp (by simp only [hn]; exact ⟨he, b, o, hG, by rw [Nat.add_assoc]⟩)⟩
    · exact h.elim
  · rename_i k x
    split at h
    · rename_i y hy
      cases hp with
      | @ip _ _ b o r hk hok hr hsz he =>
      obtain ⟨e1, e2, e3⟩ := dropK_rep k hk fd.offset hy he
      refine ⟨_, _, h, run_fieldAt hf hz _ _, .ip e2 hok hr (by omega) ?_⟩
      have := sub_sub (r := r) (o := o) (n := k.n) (p := fd.offset) (m := y.1.n) (by omega)
      rw [this, List.take_of_length_le (by simp [sub_length hsz]; omega)]
      exact e3
    · exact h.elim
  · exact h.elim

theorem sliceOf_some {t : TypeId} {n : Nat} (h : sliceOf P t n = true) : ∃ e i, P.underlying t = some (.slice e) ∧ P.info? e = some i ∧ i.size = n := by
  unfold sliceOf undl at h
  split at h
  · rename_i e he
    split at h
    · rename_i i hi; exact ⟨e, i, he, hi, by simpa using h⟩
    · cases h
  · cases h

theorem run_indexAt {t : TypeId} {n : Nat} (ht : sliceOf P t n = true) (b o len c : Nat) (k : IntKind) (i : Int) (h0 : 0 ≤ i) (h1 : i < len) :
    (Instr.indexAt t (.slice (some ⟨b, o, none⟩) len c) (.int k i)).run P w = .ok (.pointer (some ⟨b, o + i.toNat * n, none⟩)) w := by
  obtain ⟨e, ti, hu, hi, rfl⟩ := sliceOf_some ht
  simp [Instr.indexAt, asIntOf, run_underlying hu, h0, h1, sizeOf, typeInfo, hi, Addr.add_mid]

theorem evIndexAddr_sound {t : TypeId} {x i : SV} {xv iv : Value} (hx : Sv F G ow w.heap x xv) (hi : Sv F G ow w.heap i iv) {Q : SV → Prop} (h : (evIndexAddr P t x i ow).can Q) :
    ∃ s v, Q s ∧ (Instr.indexAt t xv iv).run P w = .ok v w ∧ Sv F G ow w.heap s v := by
  unfold evIndexAddr at h
  split at h
  · rename_i kk n
    cases hi with
    | v _ hi =>
    cases hi
    split at h
    · rename_i oo e l
      split at h
      · rename_i hc
        simp only [Bool.and_eq_true] at hc
        obtain ⟨h0, y, hy, h⟩ := h
        have h0 : 0 ≤ n := by simpa using h0
        obtain ⟨hlt, rfl⟩ := List.getElem?_eq_some_iff.1 hy
        cases hx with
        | v hk hx =>
        cases oo with
        | true => exact hx.elim
        | false =>
        obtain ⟨a, c, hcs, hlc, hx⟩ := hx
        simp only [List.cons.injEq, and_true] at hcs
        subst hcs
        rcases hx with rfl | ⟨b, o, r, rfl, hok, hr, hel⟩
        · simp at hlt
        have hb : (n.toNat + 1) * e.n ≤ l.length * e.n := Nat.mul_le_mul_right _ hlt
        rw [Nat.add_mul, Nat.one_mul] at hb
        have hsz := hel.1
        refine ⟨_, _, h, run_indexAt hc.2 b o l.length c kk n h0 (by omega), ?_⟩
        refine .ip hc.1 hok hr (by rw [ch_n]; omega) ?_
        rw [ch_n]
        exact ch_rep e (hel.2 n.toNat hlt)
      · exact h.elim
    · rename_i d j ver path
      split at h
      · rename_i r hr
        split at h
        · rename_i hs
          obtain ⟨hc, h⟩ := h
          simp only [decide_eq_true_eq] at hc
          have hc0 : (0 : Int) ≤ n := hc.1
          have hc1 : n < (r.2.length : Int) := hc.2
          have hc2 : n.toNat < r.2.length := (Int.toNat_lt hc0).2 hc1
          obtain ⟨rfl, v', hn⟩ := rowAt_some hr
          cases hx with
          | wh hx =>
          rcases hn with hn | hn <;>
          · simp only [HandR, hn, Option.getD_none, Nat.zero_add] at hx
            obtain ⟨_, a, c, rfl, hlc, hx⟩ := hx
            rcases hx with ⟨_, _, h1⟩ | ⟨b, o, o', rw_, hG, rfl, hrow, ho, _⟩
            · omega
            · have ho := ho (by omega)
              subst ho
              simp only [Nat.zero_mul, Nat.add_zero]
              exact ⟨_, _, h, run_indexAt hs b o r.2.length c kk n hc0 hc1, .rp (by simp only [hn]; exact ⟨hc2, b, o, hG, by simp⟩)⟩
        · exact h.elim
      · exact h.elim
    · rename_i d j ver path off len
      split at h
      · rename_i r hr
        split at h
        · rename_i hs
          obtain ⟨hc, h⟩ := h
          simp only [decide_eq_true_eq] at hc
          have hc0 : (0 : Int) ≤ n := hc.1
          have hc1 : n < (len : Int) := hc.2
          have hc2 : n.toNat < len := (Int.toNat_lt hc0).2 hc1
          obtain ⟨rfl, v', hn⟩ := rowAt_some hr
          cases hx with
          | os hx =>
          rcases hn with hn | hn <;>
          · simp only [HandR, hn, Option.getD_some] at hx
            obtain ⟨hle, a, c, rfl, hlc, hx⟩ := hx
            rcases hx with ⟨_, _, h1⟩ | ⟨b, o, o', rw_, hG, rfl, hrow, ho, _⟩
            · omega
            · have ho := ho (by omega)
              subst ho
              exact ⟨_, _, h, run_indexAt hs b _ len c kk n hc0 hc1, .rp (by simp only [hn]; exact ⟨by omega, b, o, hG, by rw [Nat.add_mul, Nat.add_assoc]; rfl⟩)⟩
        · exact h.elim
      · exact h.elim
    · exact h.elim
  · exact h.elim

end
end Go.Pev
