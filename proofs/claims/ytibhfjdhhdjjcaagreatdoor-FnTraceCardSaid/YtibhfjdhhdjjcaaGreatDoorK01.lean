/-
  PEV, part 11: slices made and grown.
-/
import Derived.Test.YtibhfjdhhdjjcaaGreatDoorK00
set_option linter.unusedSimpArgs false
set_option linter.unusedVariables false
section
namespace Go.Pev
section
variable {F : Nat → Prop} {G : Gh} {ow ow' : OW} {w : World} {P : Program}
theorem elemT_some {t e : TypeId} (h : elemT P t = some e) : P.underlying t = some (.slice e) := by
 unfold elemT undl at h
 split at h
 ·cases h; assumption
 ·cases h
theorem zeroRep_sound {h : Array Obj} {ok : Nat → Prop} : (k : Kd) → (vs : List Value) → zeroRep k vs = true → Rep h ok k k.z vs
 | .int k, vs, e => by
  unfold zeroRep at e
  split at e <;> simp_all [Rep, Kd.z]
 | .bool, vs, e => by
  unfold zeroRep at e
  split at e <;> simp_all [Rep, Kd.z]
 | .str, vs, e => by
  cases vs with
  | nil => simp [zeroRep] at e
  | cons v r =>
   cases r with
   | cons _ _ => simp [zeroRep] at e
   | nil =>
    cases v <;> simp [zeroRep] at e
    rename_i s
    obtain ⟨s⟩ := s
    have : s = #[] := congrArg ByteArray.data e
    subst this
    rfl
 | .err, vs, e => by
  unfold zeroRep at e
  split at e <;> first | exact .inl ⟨rfl, rfl⟩ | simp_all
 | .any, vs, e => by simp [zeroRep] at e
 | .sl false _, vs, e => by
  unfold zeroRep at e
  split at e <;> simp_all [Rep, Kd.z]
 | .sl true _, vs, e => by simp [zeroRep] at e
 | .nil, vs, e => by
  unfold zeroRep at e
  split at e <;> simp_all [Rep]
 | .tree _, vs, e => by simp [zeroRep] at e
 | .cons a b, vs, e => by
  cases vs with
  | nil => simp [zeroRep] at e
  | cons v r =>
   simp only [zeroRep, Bool.and_eq_true] at e
   exact ⟨[v], r, rfl, zeroRep_sound a [v] e.1.2, zeroRep_sound b r e.2⟩
theorem madeCells_sub {z : Array Value} {m i : Nat} (hi : i < m) : sub (madeCells z (m * z.size)) (i * z.size) z.size = z.toList := by
 have hb : (i + 1) * z.size ≤ m * z.size := Nat.mul_le_mul_right _ hi
 rw [Nat.add_mul, Nat.one_mul] at hb
 apply List.ext_getElem?
 intro j
 by_cases hj : j < z.size
 ·rw [sub_getElem hj]
  have hz : 0 < z.size := by omega
  simp only [madeCells, Array.getElem?_map, Array.getElem?_range, show i * z.size + j < m * z.size by omega, if_true, Option.map_some]
  have e : (i * z.size + j) % z.size = j := by rw [Nat.mul_add_mod_self_right, Nat.mod_eq_of_lt hj]
  rw [e]
  simp [hj]
 ·have h1 : (sub (madeCells z (m * z.size)) (i * z.size) z.size).length ≤ j := by
   rw [sub_length (by rw [size_madeCells]; omega)]
   omega
  rw [List.getElem?_eq_none h1, List.getElem?_eq_none (by simpa using (by omega : z.size ≤ j))]
theorem makeSlice_core {t e : TypeId} {k : Kd} {n c : Int} {d : Nat} (hh : HRep F G ow w.heap) (hF : ∀ b, F b → b < w.heap.size) (he : elemT P t = some e) (hok : elemOk P e k = true) (hz' : zeroOk P e k = true) (h0 : 0 ≤ n) (h1 : n ≤ c) (h2 : c * bytesT P e ≤ maxBytes)
  (hn' : newObs ow d [.row k 0 (List.replicate n.toNat k.z)] = some ow') {Q : SV × OW → Prop} (h : Q (.wh d 0 0 [], ow')) : Res P F G ow w Q (Instr.makeSlice t (.int .i64 n) (.int .i64 c)) := by
 obtain ⟨hgood, hpos, _, hbpos, i, z, hi, hz, hsz, hby, _⟩ := elemOk_some hok
 have hzr : zeroRep k z.cells.toList = true := by simpa [zeroOk, hi, hz] using hz'
 have hu := elemT_some he
 have hrep := zeroRep_sound (h := w.heap) (ok := okF F G ow) k _ hzr
 have hzs : z.cells.size = i.size := by have := Rep.length k hrep; simpa [hsz] using this
 obtain ⟨m, rfl⟩ : ∃ m : Nat, c = (m : Int) := ⟨c.toNat, by omega⟩
 obtain ⟨l, rfl⟩ : ∃ l : Nat, n = (l : Int) := ⟨n.toNat, by omega⟩
 rw [hby] at h2 hbpos
 have h2' : m * i.bytes ≤ maxBytes := by exact_mod_cast h2
 have h3 : m ≤ m * i.bytes := Nat.le_mul_of_pos_right _ hbpos
 unfold maxBytes at h2'
 have h4 : ((m * i.bytes : Nat) : Int) ≤ 281474976710656 := by omega
 have h5 : (i.bytes : Int) * (m : Int) ≤ 281474976710656 := by rw [Int.mul_comm]; rw [Int.natCast_mul] at h4; exact h4
 have hrun := run_make (P := P) w t e i z hu hi hz .i64 .i64 l m (by omega) h1 h5 (by omega)
 simp only [Int.toNat_natCast] at hrun
 have hel : ElemsR (fun x cs => Rep w.heap (okF F G ow) k x cs) k.n (List.replicate l k.z) (madeCells z.cells (m * i.size)) 0 := by
  have hlm : l * k.n ≤ m * k.n := Nat.mul_le_mul_right _ (by omega)
  refine ⟨by rw [List.length_replicate, size_madeCells, hsz]; omega, fun j hj => ?_⟩
  simp only [List.length_replicate] at hj
  have := madeCells_sub (z := z.cells) (m := m) (i := j) (by omega)
  rw [hzs, hsz] at this
  rw [Nat.zero_add, hsz, this]
  simpa using hrep
 simp only [Int.toNat_natCast] at hn'
 obtain ⟨t1, t2⟩ := res_row hh hF hgood hel hn' e (c := m) (by rw [List.length_replicate]; omega) (by rw [size_madeCells, hsz]; omega) (w1 := w) rfl rfl rfl rfl
 rw [List.length_replicate] at t2
 exact ⟨_, _, _, _, _, h, hrun, t1, t2⟩
theorem evMakeSlice_sound {t : TypeId} {n c : SV} {nv cv : Value} {d : Nat} (hh : HRep F G ow w.heap) (hF : ∀ b, F b → b < w.heap.size) (hn : Sv F G ow w.heap n nv) (hc : Sv F G ow w.heap c cv) {Q : SV × OW → Prop} (h : (evMakeSlice P t n c ow d).can Q) :
  Res P F G ow w Q (Instr.makeSlice t nv cv) := by
 unfold evMakeSlice at h
 split at h
 ·rename_i e n c he
  split at h
  ·rename_i k hk
   split at h
   ·rename_i hc'
    simp only [Bool.and_eq_true] at hc'
    obtain ⟨hch, h⟩ := h
    have hch : (0 : Int) ≤ n ∧ (n : Int) ≤ c ∧ (c : Int) * bytesT P e ≤ maxBytes := of_decide_eq_true hch
    split at h
    ·rename_i ow' hn'
     rw [hn.int_inv, hc.int_inv]
     exact makeSlice_core hh hF he hc'.1 hc'.2 hch.1 hch.2.1 hch.2.2 hn' h
    ·exact h.elim
   ·exact h.elim
  ·exact h.elim
 ·exact h.elim
theorem zip_parts {α : Type} : (ps : List (Nat × α)) → (i : Nat) → ps.map (·.1) = List.range' i ps.length → ps = ((ps.map (·.2)).zipIdx i).map fun x => (x.2, x.1)
 | [], _, _ => rfl
 | (n, a) :: r, i, h => by
  simp only [List.map_cons, List.length_cons, List.range'_succ, List.cons.injEq] at h
  obtain ⟨rfl, h⟩ := h
  simp only [List.map_cons, List.zipIdx_cons]
  rw [← zip_parts r (n + 1) h]
theorem evBuildSlice_sound {t : TypeId} {n d : Nat} {ps : List (Nat × SV)} {vps : List (Nat × Value)} (hh : HRep F G ow w.heap) (hF : ∀ b, F b → b < w.heap.size) (h1 : ps.map (·.1) = vps.map (·.1)) (h2 : Svs F G ow w.heap (ps.map (·.2)) (vps.map (·.2)))
  {Q : SV × OW → Prop} (h : (evBuildSlice P t n ps ow d).can Q) : Res P F G ow w Q (Instr.buildSlice t n vps.toArray) := by
 unfold evBuildSlice at h
 split at h
 ·exact h.elim
 rename_i e he
 split at h
 ·exact h.elim
 rename_i k hk
 split at h
 ·rename_i hc
  obtain ⟨hr, hcap, hok⟩ := hc
  obtain ⟨hgood, hpos, hks, hbpos, i, z, hi, hz, hsz, hby, _⟩ := elemOk_some hok
  split at h
  ·rename_i y hy
   split at h
   ·rename_i ow' hn
    have hu := elemT_some he
    obtain ⟨t1, hlen, hrep⟩ := toPays_sound hF _ (xs := y.1) (ow' := y.2) hh h2 hy
    have hnl : vps.length = n := by
     have := congrArg List.length hr
     simp at this
     have h3 := congrArg List.length h1
     simp at h3
     omega
    have hyl : y.1.length = n := by rw [hlen]; simp [hnl]
    have hvs : vps = ((vps.map (·.2)).zipIdx 0).map fun x => (x.2, x.1) := zip_parts vps 0 (by rw [← h1, hr, hnl, List.range_eq_range'])
    have hvc : ∀ v ∈ vps.map (·.2), v.cells.size = k.n := by
     intro v hv
     obtain ⟨j, hj, rfl⟩ := List.getElem_of_mem hv
     have := Rep.length k (hrep j (by rw [hlen]; exact hj) hj)
     simpa using this
    have hsT : i.size = sizeT P e := by rw [hsz, hks]
    rw [← hks] at hcap
    have hgo : ∀ zz : Array Value, ∃ r, Instr.fill (fun i => some (i * k.n, k.n)) ((Array.range (n * k.n)).map (zz[· % zz.size]!)) vps = some r ∧ r.size = n * k.n ∧ ElemsR (fun x cs => Rep w.heap (okF F G y.2) k x cs) k.n y.1 r 0 := by
     intro zz
     obtain ⟨r, hr, hrs, hrk⟩ := Great.fill_dense hpos (vps.map (·.2)) 0 ((Array.range (n * k.n)).map (zz[· % zz.size]!)) hvc (by simp [hnl])
     rw [← hvs] at hr
     simp only [Array.size_map, Array.size_range] at hrs
     refine ⟨r, hr, hrs, ?_, fun j hj => ?_⟩
     ·rw [hyl, hrs]; omega
     ·have hjv : j < (vps.map (·.2)).length := by rw [← hlen]; exact hj
      have := hrep j hj hjv
      have hjn : (j + 1) * k.n ≤ n * k.n := Nat.mul_le_mul_right _ (by omega)
      rw [Nat.add_mul, Nat.one_mul] at hjn
      have e1 : sub r (0 + j * k.n) k.n = ((vps.map (fun x : Nat × Value => x.2))[j]'hjv).cells.toList := by
       apply List.ext_getElem?
       intro q
       have hcsz := hvc _ (List.getElem_mem hjv)
       by_cases hq : q < k.n
       ·rw [sub_getElem hq, Nat.zero_add, hrk]
        simp only [Nat.zero_mul, Nat.zero_le, Nat.zero_add, true_and, List.length_map, hnl]
        rw [if_pos (by omega)]
        have e2 : (j * k.n + q) / k.n = j := by rw [Nat.mul_comm, Nat.mul_add_div hpos, Nat.div_eq_of_lt hq]; rfl
        have e3 : (j * k.n + q) % k.n = q := by rw [Nat.mul_comm, Nat.mul_add_mod, Nat.mod_eq_of_lt hq]
        rw [e2, e3, Nat.sub_zero, List.getElem?_eq_getElem hjv]
        simp
       ·rw [List.getElem?_eq_none (by rw [sub_length (by rw [hrs]; omega)]; omega), List.getElem?_eq_none (by simp only [Array.length_toList]; rw [hcsz]; omega)]
      rw [e1]
      exact this
    have hrun : ∃ r, (Instr.buildSlice t n vps.toArray).run P w = .ok (.slice (some ⟨w.heap.size, 0, none⟩) n n) (w.alloc (.cells r e)) ∧ r.size = n * k.n ∧ ElemsR (fun x cs => Rep w.heap (okF F G y.2) k x cs) k.n y.1 r 0 := by
     by_cases h0 : n * i.size = 0
     ·obtain ⟨r, hr, hrs, hel⟩ := hgo #[]
      refine ⟨r, ?_, hrs, hel⟩
      rw [← hsz] at hr
      simp only [h0] at hr
      have hnil : ∀ f : Nat → Value, (Array.range 0).map f = #[] := fun f => by simp
      rw [hnil] at hr
      simp only [Instr.buildSlice, Sem.run_bind, run_underlying hu, Result.andThen_ok, sizeOf, typeInfo, run_program, hi, Sem.run_pure, h0, if_true]
      simp only [hnil, hr]
      simp [newRow]
     ·obtain ⟨r, hr, hrs, hel⟩ := hgo z.cells
      refine ⟨r, ?_, hrs, hel⟩
      rw [← hsz] at hr
      have hcap' : ¬ (16777216 < n * i.size) := by rw [hsz]; omega
      simp only [Instr.buildSlice, Sem.run_bind, run_underlying hu, Result.andThen_ok, sizeOf, typeInfo, run_program, hi, Sem.run_pure]
      simp [h0, hcap', run_zeroValue hi hz, hr, newRow]
    obtain ⟨r, hrun, hrs, hel⟩ := hrun
    obtain ⟨t2, s2⟩ := res_row t1.hrep hF hgood hel hn e (c := n) (by omega) (by rw [hrs]; omega) (w1 := w) rfl rfl rfl rfl
    rw [hyl] at s2
    exact ⟨_, _, _, _, _, h, hrun, t1.trans t2, s2⟩
   ·exact h.elim
  ·exact h.elim
 ·exact h.elim
theorem nextslicecap_le (n c : Nat) (h : c < n) : Builtin.nextslicecap n c ≤ 2 * n := by
 unfold Builtin.nextslicecap
 split
 ·omega
 ·split
  ·omega
  ·have key : ∀ r c, 256 ≤ c → c < 2 * n → Builtin.growBy n r c ≤ 2 * n := by
    intro r
    induction r with
    | zero => intro c _ h; simp [Builtin.growBy]; omega
    | succ r ih =>
     intro c h1 h2
     unfold Builtin.growBy
     split
     ·omega
     ·rename_i hcn
      by_cases h3 : c + (c + 768) / 4 < 2 * n
      ·exact ih _ (by omega) h3
      ·omega
   exact key 4 c (by omega) (by omega)
theorem rep_one {h : Array Obj} {ok : Nat → Prop} : (k : Kd) → {x : k.T} → {cs : List Value} → Rep h ok k x cs → ∀ u ∈ cs, u.oneCell' = true
 | .int _, _, _, e => by cases e; simp [Value.oneCell']
 | .bool, _, _, e => by cases e; simp [Value.oneCell']
 | .str, _, _, e => by cases e; simp [Value.oneCell']
 | .err, _, _, e => by rcases e with ⟨_, rfl⟩ | ⟨_, _, _, rfl⟩ <;> simp [Value.oneCell']
 | .any, _, _, e => by cases e; simp [Value.oneCell']
 | .sl true _, _, _, e => e.elim
 | .sl false _, _, _, e => by obtain ⟨_, _, rfl, _⟩ := e; simp [Value.oneCell']
 | .nil, _, _, e => by cases e; simp
 | .cons a b, _, _, e => by
  obtain ⟨c1, c2, rfl, e1, e2⟩ := e
  intro u hu
  rcases List.mem_append.1 hu with h | h
  ·exact rep_one a e1 u h
  ·exact rep_one b e2 u h
 | .tree _, _, _, e => e.elim
theorem elems_one {h : Array Obj} {ok : Nat → Prop} {k : Kd} (hk : 0 < k.n) {l : List k.T} {r : Array Value} {o : Nat} (he : ElemsR (fun x cs => Rep h ok k x cs) k.n l r o) : ∀ u ∈ sub r o (l.length * k.n), u.oneCell' = true := by
 intro u hu
 obtain ⟨q, hq, rfl⟩ := List.getElem_of_mem hu
 rw [sub_length he.1] at hq
 have hdiv : q / k.n < l.length := Nat.div_lt_of_lt_mul (by rw [Nat.mul_comm]; exact hq)
 have hb : q / k.n * k.n + k.n ≤ l.length * k.n := by
  have : (q / k.n + 1) * k.n ≤ l.length * k.n := Nat.mul_le_mul_right _ hdiv
  rw [Nat.add_mul, Nat.one_mul] at this
  exact this
 have hm : q % k.n < k.n := Nat.mod_lt _ hk
 have hqe : q / k.n * k.n + q % k.n = q := by rw [Nat.mul_comm]; exact Nat.div_add_mod q k.n
 have h1 := he.2 (q / k.n) hdiv
 have h2 : (sub r (o + q / k.n * k.n) k.n)[q % k.n]? = (sub r o (l.length * k.n))[q]? := by
  rw [sub_getElem hm, sub_getElem hq, Nat.add_assoc, hqe]
 have hlen : (sub r (o + q / k.n * k.n) k.n).length = k.n := sub_length (by have := he.1; omega)
 rw [List.getElem?_eq_getElem (by omega), List.getElem?_eq_getElem (by rw [sub_length he.1]; exact hq)] at h2
 rw [← Option.some.inj h2]
 exact rep_one k h1 _ (List.getElem_mem _)
theorem appElems_sound (hh : HRep F G ow w.heap) {k : Kd} (hk : 0 < k.n) {x : SV} {xv : Value} (hx : Sv F G ow w.heap x xv) {y : List k.T} (h : appElems k x ow = some y) {tx e : TypeId} (ht : P.underlying tx = some (.slice e)) :
  ∃ news, Src P k.n tx xv y.length news w ∧ ElemsR (fun x cs => Rep w.heap (okF F G ow) k x cs) k.n y news.toArray 0 := by
 have nil : ∀ (a : Option Addr) (c : Nat), Src P k.n tx (.slice a 0 c) 0 [] w := by
  intro a c
  cases a with
  | none => exact Src.ofNil w ht c
  | some a => exact Src.ofSlice w ht a 0 c [] (by simp) (fun j u hu => by simp at hu) (by simp)
 have row : ∀ (b o c : Nat) (r : Array Value) (l : List k.T), rowCells w.heap b = some r → ElemsR (fun x cs => Rep w.heap (okF F G ow) k x cs) k.n l r o →
   ∃ news, Src P k.n tx (.slice (some ⟨b, o, none⟩) l.length c) l.length news w ∧ ElemsR (fun x cs => Rep w.heap (okF F G ow) k x cs) k.n l news.toArray 0 := by
  intro b o c r l hr hel
  have hlen := sub_length hel.1
  refine ⟨sub r o (l.length * k.n), Src.ofSlice w ht _ _ _ _ hlen (fun j u hu => ?_) (elems_one hk hel), hel.congr (by simp [hlen]) ?_⟩
  ·rw [Addr.add_mid, rowCells_cell hr, ← hu, sub_getElem]
   rcases Nat.lt_or_ge j (l.length * k.n) with h | h
   ·exact h
   ·rw [List.getElem?_eq_none (by omega)] at hu; cases hu
  ·show ((sub r o (l.length * k.n)).toArray.toList.drop 0).take (l.length * k.n) = _
   rw [List.drop_zero, List.take_of_length_le]
   simp [hlen]
 unfold appElems at h
 split at h
 ·cases h
  cases hx
  exact ⟨[], nil _ _, ⟨by simp, fun i hi => by simp at hi⟩⟩
 ·rename_i o k' l
  split at h
  ·rename_i e
   subst e
   have h : l = y := Option.some.inj h
   subst h
   obtain ⟨rfl, a, c, rfl, _, hx⟩ := hx.sl_inv
   rcases hx with rfl | ⟨b, of, r, rfl, _, hr, hel⟩
   ·exact ⟨[], nil _ _, ⟨by simp, fun i hi => by simp at hi⟩⟩
   ·exact row b of c r l hr hel
  ·cases h
 ·split at h
  ·rename_i r hr
   obtain ⟨rk, rl⟩ := r
   dsimp only at h
   split at h
   ·rename_i e
    subst e
    have h : rl = y := Option.some.inj h
    subst h
    obtain ⟨_, _, _, _, _, _, _, a, c, rfl, _, hx⟩ := rowOf_sound hh hx hr
    rcases hx with hx | ⟨b, o, rw_, _, rfl, hrow, hel, _⟩
    ·dsimp only at hx
     subst hx
     exact ⟨[], nil _ _, ⟨by simp, fun i hi => by simp at hi⟩⟩
    ·exact row b o c rw_ rl hrow hel
   ·cases h
  ·cases h
end
end Go.Pev
end

section
/-
 PEV, part 12: append; stores.
-/
namespace Go.Pev
section
variable {F : Nat → Prop} {G : Gh} {ow ow' : OW} {w : World} {P : Program}
theorem rowOwn_sound (hh : HRep F G ow w.heap) {x : SV} {xv : Value} (hx : Sv F G ow w.heap x xv) {d j : Nat} (hk : keyOf x = some (d, j)) {r : Sigma fun k : Kd => List k.T} (hr : rowOf ow x = some r) (hi : isRow ow d j = true) :
  r.1.good = true ∧ (∃ ver l0, nameOf ow d j = some (some (.row r.1 ver l0))) ∧ ∃ a c, xv = .slice a r.2.length c ∧ r.2.length ≤ c ∧
   ((G d j 0 = none ∧ a = none ∧ r.2 = [] ∧ c = 0) ∨ ∃ b o o' rw_ et, G d j 0 = some (b, o') ∧ a = some ⟨b, o, none⟩ ∧ w.heap[b]? = some (.cells rw_ et (0, 0)) ∧ ElemsR (fun x cs => Rep w.heap (okF F G ow) r.1 x cs) r.1.n r.2 rw_ o ∧ o + c * r.1.n ≤ rw_.size) := by
 obtain ⟨k, ver, l0, hg⟩ : ∃ k ver l0, getOb ow d j = some (.row k ver l0) := by
  unfold isRow at hi
  split at hi
  ·exact ⟨_, _, _, by assumption⟩
  ·cases hi
 have hn := nameOf_of_getOb hg
 obtain ⟨_, hgood, ho⟩ := hh.obs d j _ hn
 have core : ∀ {off : Nat} {len : Option Nat}, HandR w.heap G ow d j off len xv → off + len.getD l0.length ≤ l0.length ∧ ∃ a c, xv = .slice a (len.getD l0.length) c ∧ len.getD l0.length ≤ c ∧
   ((G d j 0 = none ∧ a = none ∧ len.getD l0.length = 0 ∧ c = 0) ∨ ∃ b o o' rw_ et, G d j 0 = some (b, o') ∧ a = some ⟨b, o, none⟩ ∧ w.heap[b]? = some (.cells rw_ et (0, 0)) ∧ ElemsR (fun x cs => Rep w.heap (okF F G ow) k x cs) k.n (subL l0 off (len.getD l0.length)) rw_ o ∧ o + c * k.n ≤ rw_.size) := by
  intro off len h
  simp only [HandR, hn] at h
  obtain ⟨hle, a, c, rfl, hlc, h⟩ := h
  refine ⟨hle, a, c, rfl, hlc, ?_⟩
  rcases h with ⟨h1, h2, h3⟩ | ⟨b, o, o', rw_, hG, ha, hrow, ho', hs⟩
  ·exact .inl ⟨h1, h2, by omega, h3⟩
  ·simp only [hG] at ho
   obtain ⟨r2, et, hb, hel⟩ := ho
   have e := rowCells_of hb
   rw [hrow] at e; cases e
   refine .inr ⟨b, o', o, rw_, et, hG, ha, hb, ?_, hs⟩
   by_cases hc0 : 0 < c
   ·rw [ho' hc0]; exact hel.part hle
   ·have h0 : len.getD l0.length = 0 := by omega
    have h1 : subL l0 off (len.getD l0.length) = [] := by simp [subL, h0]
    rw [h1]
    exact ⟨by simp; omega, fun i hi => by simp at hi⟩
 unfold keyOf at hk
 split at hk
 ·rename_i d' j' ver' path
  cases hk
  have hp : path = [] ∧ r = ⟨k, l0⟩ := by
   unfold rowOf rowAt at hr
   cases path with
   | nil => simp [hg] at hr; exact ⟨rfl, hr.symm⟩
   | cons _ _ => simp at hr
  obtain ⟨rfl, rfl⟩ := hp
  cases hx with
  | wh hx =>
  obtain ⟨_, a, c, hv, hlc, h⟩ := core hx
  refine ⟨hgood, ⟨ver, l0, hn⟩, a, c, hv, hlc, ?_⟩
  have e : subL l0 0 l0.length = l0 := by simp [subL]
  simp only [Option.getD_none, e] at h
  rcases h with ⟨h0, h0', h1, h2⟩ | h
  ·exact .inl ⟨h0, h0', List.eq_nil_of_length_eq_zero h1, h2⟩
  ·exact .inr h
 ·rename_i d' j' ver' path off len
  cases hk
  have hp : path = [] ∧ r = ⟨k, subL l0 off len⟩ := by
   unfold rowOf rowAt at hr
   cases path with
   | nil => simp [hg] at hr; exact ⟨rfl, hr.symm⟩
   | cons _ _ => simp at hr
  obtain ⟨rfl, rfl⟩ := hp
  cases hx with
  | os hx =>
  obtain ⟨hle, a, c, hv, hlc, h⟩ := core hx
  simp only [Option.getD_some] at hle hv hlc h
  have e : (subL l0 off len).length = len := by simp [subL]; omega
  refine ⟨hgood, ⟨ver, l0, hn⟩, a, c, by rw [e]; exact hv, by rw [e]; exact hlc, ?_⟩
  rcases h with ⟨h0, h0', h1, h2⟩ | h
  ·exact .inl ⟨h0, h0', List.eq_nil_of_length_eq_zero (by rw [e, h1]), h2⟩
  ·exact .inr h
 ·cases hk
theorem dead_tr (hh : HRep F G ow w.heap) (hF : ∀ b, F b → b < w.heap.size) {d j : Nat} (hn : nameOf ow d j ≠ none) {o : Option OB} (ho : o = none ∨ ∃ n, o = some (.lrow n)) (hE : EC (nameOf ow d j) (some o)) : Tr F G ow w G (putOb ow d j o) w := by
 have hnm := fun d' j' => nameOf_putOb (o := o) (d' := d') (j' := j') hn
 have hno : ¬ isOwn (some o) := by rcases ho with rfl | ⟨n, rfl⟩ <;> exact fun h => h
 have hown : ∀ {d' j'}, isOwn (nameOf (putOb ow d j o) d' j') → isOwn (nameOf ow d' j') := by
  intro d' j' hi
  rw [hnm] at hi
  split at hi
  ·exact absurd hi hno
  ·exact hi
 refine tr_of hh hF (fun _ _ _ => rfl) (fun d' j' => ?_) (.refl _ _) (fun b hb => ?_) (fun b r _ hr => ⟨r, hr, rfl⟩) (fun d' j' o' hx => ?_) (fun d1 j1 i1 d2 j2 i2 b o1 o2 h1 h2 => hh.apart d1 j1 i1 d2 j2 i2 b o1 o2 (hown h1) (hown h2)) length_putOb
 ·rw [hnm]
  split
  ·rename_i e; rw [e.1, e.2]; exact hE
  ·exact .refl _
 ·obtain ⟨d', j', i', o', hi, hg⟩ := own_iff.1 hb
  exact .inl (own_iff.2 ⟨d', j', i', o', hown hi, hg⟩)
 ·rw [hnm] at hx
  split at hx
  ·rcases ho with rfl | ⟨n, rfl⟩
   ·cases hx
   ·cases hx
    exact .inr fun _ _ => trivial
  ·exact .inl ⟨hx, rfl, fun _ _ _ _ _ => rfl⟩
theorem res_row0 (hh : HRep F G ow w.heap) (hF : ∀ b, F b → b < w.heap.size) {d : Nat} {k : Kd} (hk : k.good = true) (hn : newObs ow d [.row k 0 []] = some ow') :
  Tr F G ow w (G.new d (loc1 none)) ow' w ∧ Sv F (G.new d (loc1 none)) ow' w.heap (.wh d 0 0 []) (.slice none 0 0) := by
 obtain ⟨hl, he, hnm⟩ := newObs_some hn
 have he : ow[d]? = some [] := by rcases he with h | h; cases h; exact h
 have hnm' : ∀ d' j, nameOf ow' d' j = if d' = d then [OB.row k 0 []][j]?.map some else nameOf ow d' j := fun d' j => by rw [hnm]; simp
 have key0 : ∀ d' j, d' ≠ d → (G.new d (loc1 none)) d' j = G d' j := fun d' j hd => by simp [Gh.new, hd]
 have keyd : ∀ j i, (G.new d (loc1 none)) d j i = none := fun j i => by simp [Gh.new, loc1]
 have hown : ∀ {d' j' i b o}, isOwn (nameOf ow' d' j') → (G.new d (loc1 none)) d' j' i = some (b, o) → isOwn (nameOf ow d' j') ∧ G d' j' i = some (b, o) := by
  intro d' j' i b o hi hg
  by_cases hd : d' = d
  ·subst hd; rw [keyd] at hg; cases hg
  ·rw [key0 _ _ hd] at hg; rw [hnm', if_neg hd] at hi; exact ⟨hi, hg⟩
 refine ⟨tr_of hh hF (fun d' j hx => ?_) (fun d' j => ?_) (.refl _ _) (fun b hb => ?_) (fun b r _ hr => ⟨r, hr, rfl⟩) (fun d' j o hx => ?_) (fun d1 j1 i1 d2 j2 i2 b o1 o2 h1 h2 g1 g2 => ?_) hl, .wh ?_⟩
 ·refine congrFun (key0 _ _ fun e => ?_) 0
  rw [e, nameOf_empty he] at hx
  exact hx rfl
 ·by_cases hd : d' = d
  ·subst hd; rw [nameOf_empty he]; trivial
  ·rw [hnm', if_neg hd]; exact .refl _
 ·obtain ⟨d', j', i', o', hi, hg⟩ := own_iff.1 hb
  obtain ⟨hi, hg⟩ := hown hi hg
  exact .inl (own_iff.2 ⟨d', j', i', o', hi, hg⟩)
 ·by_cases hd : d' = d
  ·subst hd
   right
   intro _ _
   rw [hnm', if_pos rfl] at hx
   cases j with
   | zero =>
    simp at hx
    subst hx
    refine ⟨fun i => keyd 0 (i + 1), hk, ?_⟩
    rw [keyd]
   | succ j => simp at hx
  ·left
   rw [hnm', if_neg hd] at hx
   exact ⟨hx, key0 _ _ hd, fun _ _ _ _ _ => rfl⟩
 ·obtain ⟨h1, g1⟩ := hown h1 g1
  obtain ⟨h2, g2⟩ := hown h2 g2
  exact hh.apart d1 j1 i1 d2 j2 i2 b o1 o2 h1 h2 g1 g2
 ·simp only [HandR, nameOf_new hn, Option.getD_none]
  exact ⟨by simp, _, _, rfl, Nat.le_refl _, .inl ⟨keyd 0 0, rfl, rfl⟩⟩
def setA (r : Array Value) (o : Nat) (vs : List Value) : Array Value := (r.toList.take o ++ vs ++ r.toList.drop (o + vs.length)).toArray
theorem setA_size {r : Array Value} {o : Nat} {vs : List Value} (h : o + vs.length ≤ r.size) : (setA r o vs).size = r.size := by
 simp [setA]; omega
theorem setA_get {r : Array Value} {o : Nat} {vs : List Value} (h : o + vs.length ≤ r.size) (i : Nat) : (setA r o vs)[i]? = if o ≤ i ∧ i < o + vs.length then vs[i - o]? else r[i]? := by
 simp only [setA, List.getElem?_toArray]
 by_cases h1 : i < o
 ·rw [if_neg (by omega), List.append_assoc, List.getElem?_append_left (by simp; omega), List.getElem?_take_of_lt h1]
  simp
 ·by_cases h2 : i < o + vs.length
  ·rw [if_pos (by omega), List.getElem?_append_left (by simp; omega), List.getElem?_append_right (by simp; omega)]
   simp [Nat.min_eq_left (show o ≤ r.size by omega)]
  ·rw [if_neg (by omega), List.getElem?_append_right (by simp; omega)]
   simp only [List.length_append, List.length_take, List.getElem?_drop, Array.length_toList, Array.getElem?_toList]
   congr 1
   omega
theorem heap_setCells {b : Nat} {et : TypeId} {f : Nat × Nat} : (vs : List Value) → (o : Nat) → (w : World) → {r : Array Value} → w.heap[b]? = some (.cells r et f) → o + vs.length ≤ r.size → (w.setCells b o vs).heap[b]? = some (.cells (setA r o vs) et f)
 | [], o, w, r, h, _ => by
  have : setA r o [] = r := by apply Array.ext'; simp [setA]
  rw [this]; exact h
 | v :: vs, o, w, r, h, hs => by
  simp only [List.length_cons] at hs
  have h1 : (w.setCell ⟨b, o, none⟩ v).heap[b]? = some (.cells (r.setIfInBounds o v) et f) := by
   simp [World.setCell, Array.getElem?_modify, h]
  have := heap_setCells vs (o + 1) (w.setCell ⟨b, o, none⟩ v) h1 (by simp; omega)
  show ((w.setCell ⟨b, o, none⟩ v).setCells b (o + 1) vs).heap[b]? = _
  rw [this]
  congr 2
  apply Array.ext_getElem?
  intro i
  rw [setA_get (by simp; omega), setA_get (by simp; omega)]
  by_cases h1 : o = i
  ·subst h1
   rw [if_neg (by omega), if_pos (by simp)]
   simp [show o < r.size by omega]
  ·by_cases h2 : o + 1 ≤ i ∧ i < o + 1 + vs.length
   ·rw [if_pos h2, if_pos (by simp; omega)]
    have : i - o = (i - (o + 1)) + 1 := by omega
    rw [this, List.getElem?_cons_succ]
   ·rw [if_neg h2, if_neg (by simp; omega)]
    simp [h1]
theorem size_setCells (b : Nat) : (vs : List Value) → (o : Nat) → (w : World) → (w.setCells b o vs).heap.size = w.heap.size
 | [], _, _ => rfl
 | v :: vs, o, w => by
  show ((w.setCell ⟨b, o, none⟩ v).setCells b (o + 1) vs).heap.size = _
  rw [size_setCells b vs]; simp
theorem tape_setCells (b : Nat) : (vs : List Value) → (o : Nat) → (w : World) → (w.setCells b o vs).tape = w.tape
 | [], _, _ => rfl
 | v :: vs, o, w => by
  show ((w.setCell ⟨b, o, none⟩ v).setCells b (o + 1) vs).tape = _
  rw [tape_setCells b vs]; rfl
theorem cells_setCell {w : World} {a : Addr} {v : Value} {b : Nat} {r : Array Value} {et : TypeId} {f : Nat × Nat} (h : w.heap[b]? = some (.cells r et f)) : ∃ r', (w.setCell a v).heap[b]? = some (.cells r' et f) ∧ r'.size = r.size := by
 by_cases hb : a.block = b
 ·exact ⟨_, by simp [World.setCell, Array.getElem?_modify, hb, h]; rfl, by split <;> simp⟩
 ·exact ⟨r, by simp [World.setCell, Array.getElem?_modify, hb, h], rfl⟩
theorem cells_setCells (b0 : Nat) {b : Nat} {et : TypeId} {f : Nat × Nat} : (vs : List Value) → (o : Nat) → (w : World) → {r : Array Value} → w.heap[b]? = some (.cells r et f) → ∃ r', (w.setCells b0 o vs).heap[b]? = some (.cells r' et f) ∧ r'.size = r.size
 | [], _, _, r, h => ⟨r, h, rfl⟩
 | v :: vs, o, w, r, h => by
  obtain ⟨r1, h1, e1⟩ := cells_setCell (a := ⟨b0, o, none⟩) (v := v) h
  obtain ⟨r2, h2, e2⟩ := cells_setCells b0 vs (o + 1) _ h1
  exact ⟨r2, h2, by omega⟩
theorem kept_setCells {I : Nat → Prop} {b : Nat} (hb : I b) (w : World) (o : Nat) (vs : List Value) : Kept I w (w.setCells b o vs) :=
 ⟨by rw [size_setCells]; exact Nat.le_refl _, fun b' hb' hI => World.heap_setCells_other w b o vs hb' (fun e => hI (e ▸ hb)), fun _ _ _ _ h => cells_setCells b vs o w h, World.os_setCells w b o vs, World.output_setCells w b o vs, tape_setCells b vs o w⟩
theorem sub_ge {r : Array Value} {p m i : Nat} (h : m ≤ i) : (sub r p m)[i]? = none := List.getElem?_eq_none (by simp [sub]; omega)
theorem sub_setA_before {r : Array Value} {o p m : Nat} {vs : List Value} (h : o + vs.length ≤ r.size) (hp : p + m ≤ o) : sub (setA r o vs) p m = sub r p m := by
 apply List.ext_getElem?
 intro i
 by_cases hi : i < m
 ·rw [sub_getElem hi, sub_getElem hi, setA_get h, if_neg (by omega)]
 ·rw [sub_ge (by omega), sub_ge (by omega)]
theorem sub_setA_same {r : Array Value} {o : Nat} {vs : List Value} (h : o + vs.length ≤ r.size) : sub (setA r o vs) o vs.length = vs := by
 apply List.ext_getElem?
 intro i
 by_cases hi : i < vs.length
 ·rw [sub_getElem hi, setA_get h, if_pos (by omega)]
  congr 1
  omega
 ·rw [List.getElem?_eq_none (by rw [sub_length (by rw [setA_size h]; omega)]; omega), List.getElem?_eq_none (by omega)]
theorem sub_setA_after {r : Array Value} {o p m : Nat} {vs : List Value} (h : o + vs.length ≤ r.size) (hp : o + vs.length ≤ p) : sub (setA r o vs) p m = sub r p m := by
 apply List.ext_getElem?
 intro i
 by_cases hi : i < m
 ·rw [sub_getElem hi, sub_getElem hi, setA_get h, if_neg (by omega)]
 ·rw [sub_ge (by omega), sub_ge (by omega)]
theorem run_append_zero {t tx ty e : TypeId} {i : TypeInfo} (ht : P.underlying t = some (.slice e)) (hi : P.info? e = some i) (base : Option Addr) {x : Value} (hs : Src P i.size tx x 0 [] w) :
  (Builtin.append_ #[t, tx] ty #[.slice base 0 0, x]).run P w = .ok (.slice base 0 0) w := by
 rcases hs.kind with ⟨e', hk⟩ | hk <;> cases base <;> simp [Builtin.append_, run_underlying ht, run_underlying hk, sizeOf, typeInfo, hi, hs.len, hs.cells, storeCells]
theorem zeroCells_size (z : Array Value) (n : Nat) : (Builtin.zeroCells z n).size = n * z.size := by simp [Builtin.zeroCells]
theorem append_grow (hh : HRep F G ow w.heap) (hF : ∀ b, F b → b < w.heap.size) {t tx ty e : TypeId} {k : Kd} (he : elemT P t = some e) (hok : elemOk P e k = true) {a : Option Addr} {l0 y : List k.T} {c : Nat} {xv : Value} {news : List Value} (hx : Src P k.n tx xv y.length news w)
  (hy : ElemsR (fun x cs => Rep w.heap (okF F G ow) k x cs) k.n y news.toArray 0) (holds : l0 = [] ∨ ∃ b o r, a = some ⟨b, o, none⟩ ∧ rowCells w.heap b = some r ∧ ElemsR (fun x cs => Rep w.heap (okF F G ow) k x cs) k.n l0 r o)
  (hgrow : c < l0.length + y.length) (hby : (l0.length + y.length) * bytesT P e ≤ maxBytes) {d : Nat} (hn : newObs ow d [.row k 0 (l0 ++ y)] = some ow') {Q : SV × OW → Prop} (hq : Q (.wh d 0 0 [], ow')) :
  Res P F G ow w Q (Builtin.append_ #[t, tx] ty #[.slice a l0.length c, xv]) := by
 obtain ⟨hgood, hpos, _, hbpos, i, z, hi, hz, hsz, hbe, hzs⟩ := elemOk_some hok
 have hu := elemT_some he
 obtain ⟨olds, hold, holdE⟩ : ∃ olds : List Value, (Builtin.firstCells i.size l0.length (.slice a l0.length c)).run P w.drew = .ok olds.toArray w.drew ∧ olds.length = l0.length * k.n ∧ ElemsR (fun x cs => Rep w.heap (okF F G ow) k x cs) k.n l0 olds.toArray 0 := by
  rcases holds with rfl | ⟨b, o, r, rfl, hr, hel⟩
  ·refine ⟨[], ?_, by simp, ⟨by simp, fun i hi => by simp at hi⟩⟩
   cases a with
   | none => exact run_firstCells_none w.drew i.size 0 0 c
   | some a => exact run_firstCells_some w.drew i.size 0 a 0 c [] (by simp) (fun j u hu => by simp at hu)
  ·have hlen := sub_length hel.1
   refine ⟨sub r o (l0.length * k.n), run_firstCells_some w.drew i.size l0.length _ _ _ _ (by rw [hsz]; exact hlen) (fun j u hu => ?_), hlen, hel.congr (by simp [hlen]) ?_⟩
   ·rw [Addr.add_mid]
    show w.cell? _ = _
    rw [rowCells_cell hr, ← hu, sub_getElem]
    rcases Nat.lt_or_ge j (l0.length * k.n) with h | h
    ·exact h
    ·rw [List.getElem?_eq_none (by omega)] at hu; cases hu
   ·show ((sub r o (l0.length * k.n)).toArray.toList.drop 0).take (l0.length * k.n) = _
    rw [List.drop_zero, List.take_of_length_le]
    simp [hlen]
 obtain ⟨holdL, holdE⟩ := holdE
 rw [hbe] at hby hbpos
 unfold maxBytes at hby
 have h3 : l0.length + y.length ≤ (l0.length + y.length) * i.bytes := Nat.le_mul_of_pos_right _ hbpos
 have hcap := nextslicecap_le (l0.length + y.length) c hgrow
 have hfit : Builtin.nextslicecap (l0.length + y.length) c * i.bytes ≤ 281474976710656 := by
  have := Nat.mul_le_mul_right i.bytes hcap
  rw [Nat.mul_assoc] at this
  omega
 have hrun := run_append_grow_src (P := P) w t tx ty e i z hu hi hz a l0.length c olds hold xv y.length news (by rw [hsz]; exact hx) hgrow (by omega) hfit
 have hg1 := grownCap_ge w (l0.length + y.length) c e
 generalize hcc : grownCap w (l0.length + y.length) c e = cc at hrun hg1
 have hnl : news.length = y.length * k.n := by have := hx.newsLen; exact this
 have hE : ElemsR (fun x cs => Rep w.heap (okF F G ow) k x cs) k.n (l0 ++ y) ((olds ++ news).toArray ++ Builtin.zeroCells z.cells (cc - (l0.length + y.length))) 0 := by
  have hsub1 : ∀ A B : List Value, ∀ Z : Array Value, sub ((A ++ B).toArray ++ Z) 0 A.length = sub A.toArray 0 A.length := by
   intro A B Z
   simp [sub]
  have hsub2 : ∀ A B : List Value, ∀ Z : Array Value, sub ((A ++ B).toArray ++ Z) A.length B.length = sub B.toArray 0 B.length := by
   intro A B Z
   simp [sub]
  refine ElemsR.append (holdE.congr ?_ ?_) (hy.congr ?_ ?_)
  ·simp only [Array.size_append, List.size_toArray, List.length_append, holdL]; omega
  ·rw [← holdL]; exact hsub1 _ _ _
  ·simp only [Array.size_append, List.size_toArray, List.length_append, holdL, hnl]; omega
  ·rw [← hnl, Nat.zero_add, ← holdL]; exact hsub2 _ _ _
 obtain ⟨t1, s1⟩ := res_row hh hF hgood hE hn e (c := cc) (by simpa using hg1) (by
  simp only [Array.size_append, List.size_toArray, List.length_append, zeroCells_size, hzs, holdL, hnl]
  rw [← Nat.add_mul, ← Nat.add_mul]
  exact Nat.mul_le_mul_right _ (by omega)) (w1 := w.drew) rfl rfl rfl rfl
 rw [List.length_append] at s1
 exact ⟨_, _, _, _, _, hq, hrun, t1, s1⟩
theorem append_room (hh : HRep F G ow w.heap) (hF : ∀ b, F b → b < w.heap.size) {t tx ty e : TypeId} {k : Kd} (he : elemT P t = some e) (hok : elemOk P e k = true) {l0 y : List k.T} {b o o' c dd jj : Nat} {r : Array Value} {et : TypeId} {ver : Nat} {l1 : List k.T} {xv : Value} {news : List Value} (hx : Src P k.n tx xv y.length news w)
  (hy : ElemsR (fun x cs => Rep w.heap (okF F G ow) k x cs) k.n y news.toArray 0) (hnm : nameOf ow dd jj = some (some (.row k ver l1))) (hG : G dd jj 0 = some (b, o')) (hb : w.heap[b]? = some (.cells r et (0, 0))) (hel : ElemsR (fun x cs => Rep w.heap (okF F G ow) k x cs) k.n l0 r o)
  (hroom : l0.length + y.length ≤ c) (hcap : o + c * k.n ≤ r.size) {d : Nat} (hn : newObs (putOb ow dd jj (some (.lrow l1.length))) d [.row k 0 (l0 ++ y)] = some ow') {Q : SV × OW → Prop} (hq : Q (.wh d 0 0 [], ow')) :
  Res P F G ow w Q (Builtin.append_ #[t, tx] ty #[.slice (some ⟨b, o, none⟩) l0.length c, xv]) := by
 obtain ⟨hgood, hpos, _, hbpos, i, z, hi, hz, hsz, hbe, hzs⟩ := elemOk_some hok
 have hu := elemT_some he
 have hnl : news.length = y.length * k.n := hx.newsLen
 have hown : Own G ow b := own_iff.2 ⟨dd, jj, 0, o', by rw [hnm]; trivial, hG⟩
 have hmul : (l0.length + y.length) * k.n ≤ c * k.n := Nat.mul_le_mul_right _ hroom
 rw [Nat.add_mul] at hmul
 have hsz' : o + l0.length * k.n + news.length ≤ r.size := by omega
 have hrun := run_append_room_src (P := P) w t tx ty e i hu hi b o l0.length c xv y.length news (by rw [hsz]; exact hx) hroom
  (fun j hj => by rw [hsz, rowCells_cell (rowCells_of hb)]; simp; omega)
  (fun j hj => by unfold World.frozen?; rw [hb]; simp)
 rw [hsz] at hrun
 have hb' := heap_setCells news (o + l0.length * k.n) w hb hsz'
 have hk : Kept (Own G ow) w (w.setCells b (o + l0.length * k.n) news) := kept_setCells hown w _ _
 obtain ⟨hl, hem, hnew⟩ := newObs_some hn
 have hem : (putOb ow dd jj (some (.lrow l1.length)))[d]? = some [] := by rcases hem with h | h; cases h; exact h
 have hdd : nameOf ow dd jj ≠ none := by rw [hnm]; simp
 have hput := fun d' j' => nameOf_putOb (o := some (.lrow l1.length)) (d' := d') (j' := j') hdd
 have hempty : ∀ j, nameOf ow d j = none := by
  intro j
  have h1 := nameOf_empty hem j
  rw [hput] at h1
  split at h1
  ·cases h1
  ·exact h1
 have hnm' : ∀ d' j, nameOf ow' d' j = if d' = d then [OB.row k 0 (l0 ++ y)][j]?.map some else if d' = dd ∧ j = jj then some (some (.lrow l1.length)) else nameOf ow d' j := fun d' j => by rw [hnew, hput]; simp
 have key0 : ∀ d' j, d' ≠ d → (G.new d (loc1 (some (b, o)))) d' j = G d' j := fun d' j hd => by simp [Gh.new, hd]
 have keyd : ∀ {j i b' o1}, (G.new d (loc1 (some (b, o)))) d j i = some (b', o1) → i = 0 ∧ b' = b := fun {j i b' o1} h => by
  simp only [Gh.new, if_true, loc1] at h
  split at h
  ·rename_i e; cases h; exact ⟨e, rfl⟩
  ·cases h
 have hinv : ∀ {d' j' i' b' o1}, isOwn (nameOf ow' d' j') → (G.new d (loc1 (some (b, o)))) d' j' i' = some (b', o1) →
   (d' = d ∧ j' = 0 ∧ i' = 0 ∧ b' = b) ∨ (d' ≠ d ∧ ¬ (d' = dd ∧ j' = jj) ∧ nameOf ow' d' j' = nameOf ow d' j' ∧ isOwn (nameOf ow d' j') ∧ G d' j' i' = some (b', o1) ∧ b' ≠ b) := by
  intro d' j' i' b' o1 hi hg
  by_cases hd : d' = d
  ·subst hd
   obtain ⟨rfl, rfl⟩ := keyd hg
   refine .inl ⟨rfl, ?_, rfl, rfl⟩
   rw [hnm', if_pos rfl] at hi
   cases j' with
   | zero => rfl
   | succ j => simp [isOwn] at hi
  ·right
   rw [key0 _ _ hd] at hg
   have e1 := hnm' d' j'
   rw [if_neg hd] at e1
   by_cases h2 : d' = dd ∧ j' = jj
   ·rw [if_pos h2] at e1; rw [e1] at hi; exact hi.elim
   ·rw [if_neg h2] at e1
    rw [e1] at hi
    refine ⟨hd, h2, e1, hi, hg, fun hbb => ?_⟩
    subst hbb
    have := hh.apart d' j' i' dd jj 0 b' o1 o' hi (by rw [hnm]; trivial) hg hG
    exact h2 ⟨this.1, this.2.1⟩
 have hg0 : (G.new d (loc1 (some (b, o)))) d 0 0 = some (b, o) := by simp [Gh.new, loc1]
 have hg1 : ∀ i, (G.new d (loc1 (some (b, o)))) d 0 (i + 1) = none := by simp [Gh.new, loc1]
 refine ⟨_, _, _, _, G.new d (loc1 (some (b, o))), hq, hrun, tr_of hh hF (fun d' j hx => ?_) (fun d' j => ?_) hk (fun b' hb1 => ?_) (fun b' r' ho hr => ?_) (fun d' j ob hx => ?_) (fun d1 j1 i1 d2 j2 i2 b1 o1 o2 h1 h2 g1 g2 => ?_) (by rw [hl, length_putOb]), .wh ?_⟩
 ·refine congrFun (key0 _ _ fun e => ?_) 0
  rw [e, hempty] at hx
  exact hx rfl
 ·by_cases hd : d' = d
  ·subst hd; rw [hempty]; trivial
  ·rw [hnm', if_neg hd]
   split
   ·rename_i e; rw [e.1, e.2, hnm]; exact rfl
   ·exact .refl _
 ·obtain ⟨d', j', i', o1, hi, hg⟩ := own_iff.1 hb1
  rcases hinv hi hg with ⟨_, _, _, rfl⟩ | ⟨_, _, _, hi', hg', _⟩
  ·exact .inl hown
  ·exact .inl (own_iff.2 ⟨d', j', i', o1, hi', hg'⟩)
 ·by_cases hbb : b' = b
  ·subst hbb
   rw [rowCells_of hb] at hr
   cases hr
   exact ⟨_, rowCells_of hb', setA_size hsz'⟩
  ·refine ⟨r', ?_, rfl⟩
   unfold rowCells
   rw [World.heap_setCells_other w b _ _ (rowCells_lt hr) hbb]
   exact hr
 ·by_cases hd : d' = d
  ·subst hd
   right
   intro _ hok
   rw [hnm', if_pos rfl] at hx
   cases j with
   | zero =>
    simp only [List.getElem?_cons_zero, Option.map_some, Option.some.injEq] at hx
    subst hx
    refine ⟨hg1, hgood, ?_⟩
    simp only [hg0]
    refine ⟨_, et, hb', ?_⟩
    refine ElemsR.mono (fun x cs hx => Rep.mono hok _ hx) (ElemsR.append (hel.congr ?_ (sub_setA_before hsz' (Nat.le_refl _))) (hy.congr ?_ ?_))
    ·rw [setA_size hsz']; exact hel.1
    ·rw [setA_size hsz']; omega
    ·rw [← hnl, sub_setA_same hsz']
     simp [sub]
   | succ j => simp at hx
  ·rw [hnm', if_neg hd] at hx
   split at hx
   ·cases hx
    rename_i h2
    right
    intro _ _
    trivial
   ·rename_i h2
    left
    refine ⟨hx, key0 _ _ hd, fun hi i b1 cc hg => ?_⟩
    have hob : Own G ow b1 := own_iff.2 ⟨d', j, i, cc, by rw [hx]; exact hi, hg⟩
    refine World.heap_setCells_other w b _ _ (Own.lt hh hob) fun hbb => ?_
    subst hbb
    have := hh.apart d' j i dd jj 0 b1 cc o' (by rw [hx]; exact hi) (by rw [hnm]; trivial) hg hG
    exact h2 ⟨this.1, this.2.1⟩
 ·rcases hinv h1 g1 with ⟨e1, e2, e2', e3⟩ | ⟨_, _, _, k1, g1', n1⟩ <;> rcases hinv h2 g2 with ⟨e4, e5, e5', e6⟩ | ⟨_, _, _, k2, g2', n2⟩
  ·exact ⟨by rw [e1, e4], by rw [e2, e5], by rw [e2', e5']⟩
  ·exact absurd e3 n2
  ·exact absurd e6 n1
  ·exact hh.apart d1 j1 i1 d2 j2 i2 b1 o1 o2 k1 k2 g1' g2'
 ·have hn0 : nameOf ow' d 0 = some (some (.row k 0 (l0 ++ y))) := by rw [hnm', if_pos rfl]; rfl
  simp only [HandR, hn0, Option.getD_none, List.length_append]
  exact ⟨by omega, _, _, rfl, hroom, .inr ⟨b, o, o, _, hg0, rfl, rowCells_of hb', fun _ => by simp, by rw [setA_size hsz']; exact hcap⟩⟩
theorem evAppend_sound {t tx ty : TypeId} {s x : SV} {sv xv : Value} {d : Nat} (hh : HRep F G ow w.heap) (hF : ∀ b, F b → b < w.heap.size) (hs : Sv F G ow w.heap s sv) (hx : Sv F G ow w.heap x xv) (htx : isSliceT P tx = true) {Q : SV × OW → Prop} (h : (evAppend P t s x ow d).can Q) :
  Res P F G ow w Q (Builtin.append_ #[t, tx] ty #[sv, xv]) := by
 obtain ⟨e', hte⟩ := isSliceT_some htx
 unfold evAppend at h
 split at h
 ·exact h.elim
 rename_i e he
 have hu := elemT_some he
 split at h
 ·cases hs
  split at h
  ·cases hx
   split at h
   ·rename_i hi
    obtain ⟨i, hi⟩ := Option.isSome_iff_exists.1 hi
    exact ⟨_, _, _, _, G, h, run_append_zero hu hi none (Src.ofNil w hte 0), .refl hh, .nils⟩
   ·exact h.elim
  ·split at h
   ·rename_i k hk
    split at h
    ·rename_i y hy
     split at h
     ·rename_i hok
      obtain ⟨hby, h⟩ := h
      have hby := of_decide_eq_true hby
      split at h
      ·rename_i ow' hn
       obtain ⟨hgood, hpos, _, hbpos, i, z, hi, hz, hsz, hbe, hzs⟩ := elemOk_some hok
       obtain ⟨news, hsrc, hel⟩ := appElems_sound (P := P) hh hpos hx hy hte
       cases y with
       | nil =>
        obtain ⟨t1, s1⟩ := res_row0 hh hF hgood hn
        have hnil : news = [] := List.eq_nil_of_length_eq_zero (by have := hsrc.newsLen; simpa using this)
        subst hnil
        exact ⟨_, _, _, _, _, h, run_append_zero hu hi none (by rw [hsz]; exact hsrc), t1, s1⟩
       | cons a y' =>
        exact append_grow (l0 := []) hh hF he hok hsrc hel (.inl rfl) (by simp) (by simpa using hby) hn h
      ·exact h.elim
     ·exact h.elim
    ·exact h.elim
   ·exact h.elim
 ·split at h
  ·rename_i dd j b hkey hrow
   split at h
   ·rename_i hown
    split at h
    ·rename_i y hy
     split at h
     ·rename_i hok
      obtain ⟨hby, h⟩ := h
      have hby := of_decide_eq_true hby
      split at h
      ·rename_i ow' hn
       obtain ⟨hgood, hpos, _, hbpos, i, z, hi, hz, hsz, hbe, hzs⟩ := elemOk_some hok
       obtain ⟨news, hsrc, hel⟩ := appElems_sound (P := P) hh hpos hx hy hte
       obtain ⟨_, ⟨ver, l1, hnm⟩, a, c, rfl, hlc, hcase⟩ := rowOwn_sound hh hs hkey hrow hown
       have hgo : goneOb ow dd j = putOb ow dd j (some (.lrow l1.length)) := by
        have : getOb ow dd j = some (.row b.1 ver l1) := by rw [getOb_eq, hnm]; rfl
        unfold goneOb; rw [this]
       rw [hgo] at hn
       have hdt := dead_tr hh hF (d := dd) (j := j) (by rw [hnm]; simp) (o := some (.lrow l1.length)) (.inr ⟨_, rfl⟩) (by rw [hnm]; exact rfl)
       by_cases hroom : b.2.length + y.length ≤ c
       ·rcases hcase with ⟨_, rfl, hb0, hc0⟩ | ⟨bb, o, o', rw_, et, hG, rfl, hbb, hel0, hcap⟩
        ·have hy0 : y = [] := List.eq_nil_of_length_eq_zero (by omega)
         obtain ⟨bk, bl⟩ := b
         dsimp only at *
         subst hb0 hy0 hc0
         obtain ⟨t1, s1⟩ := res_row0 hdt.hrep hF hgood hn
         have hnil : news = [] := List.eq_nil_of_length_eq_zero (by have := hsrc.newsLen; simpa using this)
         subst hnil
         exact ⟨_, _, _, _, _, h, run_append_zero hu hi none (by rw [hsz]; exact hsrc), hdt.trans t1, s1⟩
        ·exact append_room hh hF he hok hsrc hel hnm hG hbb hel0 hroom hcap hn h
       ·obtain ⟨s', ow2, v', w2, G2, q1, q2, q3, q4⟩ := append_grow (P := P) (tx := tx) (ty := ty) (a := a) (c := c) (l0 := b.2) hdt.hrep hF he hok hsrc (hel.mono fun x cs hx => Rep.mono (ok_tr hdt) _ hx) (by
         rcases hcase with ⟨_, _, hb0, _⟩ | ⟨bb, o, o', rw_, et, hG, ha, hbb, hel0, _⟩
         ·exact .inl hb0
         ·exact .inr ⟨bb, o, rw_, ha, rowCells_of hbb, hel0.mono fun x cs hx => Rep.mono (ok_tr hdt) _ hx⟩) (by omega) hby hn h
        exact ⟨s', ow2, v', w2, G2, q1, q2, hdt.trans q3, q4⟩
      ·exact h.elim
     ·exact h.elim
    ·exact h.elim
   ·exact h.elim
  ·exact h.elim
end
end Go.Pev
end

section
/-
 PEV, part 13: stores.
-/
namespace Go.Pev
section
variable {F : Nat → Prop} {G : Gh} {ow ow' : OW} {w : World} {P : Program}
theorem write_tr (hh : HRep F G ow w.heap) (hF : ∀ b, F b → b < w.heap.size) {d j : Nat} {ob ob' : OB} (hn : nameOf ow d j = some (some ob)) (hi : isOwn (some (some ob))) (hE : EC (some (some ob)) (some (some ob'))) (hi' : isOwn (some (some ob')))
  {b o0 : Nat} (hG : G d j 0 = some (b, o0)) {r : Array Value} {et : TypeId} (hb : w.heap[b]? = some (.cells r et (0, 0))) {p : Nat} {vs : List Value} (hp : p + vs.length ≤ r.size)
  (hob : (w.setCells b p vs).heap[b]? = some (.cells (setA r p vs) et (0, 0)) → (∀ s v, Sv F G ow w.heap s v → Sv F G (putOb ow d j (some ob')) (w.setCells b p vs).heap s v) →
   (∀ b' r', okF F G ow b' → rowCells w.heap b' = some r' → okF F G (putOb ow d j (some ob')) b' ∧ rowCells (w.setCells b p vs).heap b' = some r') →
   ObRep (w.setCells b p vs).heap (okF F G (putOb ow d j (some ob'))) G (putOb ow d j (some ob')) d j ob') :
  Tr F G ow w G (putOb ow d j (some ob')) (w.setCells b p vs) := by
 have hdd : nameOf ow d j ≠ none := by rw [hn]; simp
 have hnm := fun d' j' => nameOf_putOb (o := some ob') (d' := d') (j' := j') hdd
 have hown : Own G ow b := own_iff.2 ⟨d, j, 0, o0, by rw [hn]; exact hi, hG⟩
 have hb' := heap_setCells vs p w hb hp
 have back : ∀ {d' j'}, isOwn (nameOf (putOb ow d j (some ob')) d' j') → isOwn (nameOf ow d' j') := by
  intro d' j' h
  rw [hnm] at h
  split at h
  ·rename_i e; rw [e.1, e.2, hn]; exact hi
  ·exact h
 refine tr_of hh hF (fun _ _ _ => rfl) (fun d' j' => ?_) (kept_setCells hown w _ _) (fun b' hb1 => ?_) (fun b' r' ho hr => ?_) (fun d' j' o hx => ?_) (fun d1 j1 i1 d2 j2 i2 b1 o1 o2 h1 h2 g1 g2 => hh.apart d1 j1 i1 d2 j2 i2 b1 o1 o2 (back h1) (back h2) g1 g2) length_putOb
 ·rw [hnm]
  split
  ·rename_i e; rw [e.1, e.2, hn]; exact hE
  ·exact .refl _
 ·obtain ⟨d', j', i', o1, h1, hg⟩ := own_iff.1 hb1
  exact .inl (own_iff.2 ⟨d', j', i', o1, back h1, hg⟩)
 ·by_cases hbb : b' = b
  ·subst hbb
   rw [rowCells_of hb] at hr
   cases hr
   exact ⟨_, rowCells_of hb', setA_size hp⟩
  ·refine ⟨r', ?_, rfl⟩
   unfold rowCells
   rw [World.heap_setCells_other w b _ _ (rowCells_lt hr) hbb]
   exact hr
 ·rw [hnm] at hx
  split at hx
  ·rename_i e
   obtain ⟨rfl, rfl⟩ := e
   have hx : ob' = o := by simpa using hx
   subst hx
   exact .inr (hob hb')
  ·rename_i e
   refine .inl ⟨hx, rfl, fun ho i1 b1 cc hg => ?_⟩
   have hob1 : Own G ow b1 := own_iff.2 ⟨d', j', i1, cc, by rw [hx]; exact ho, hg⟩
   refine World.heap_setCells_other w b _ _ (Own.lt hh hob1) fun hbb => ?_
   subst hbb
   have := hh.apart d' j' i1 d j 0 b1 cc o0 (by rw [hx]; exact ho) (by rw [hn]; exact hi) hg hG
   exact e ⟨this.1, this.2.1⟩
theorem cellsOfSV_info {t : TypeId} {s : SV} {new : List SV} (h : cellsOfSV P t s = some new) : ∃ i, P.info? t = some i := by
 unfold cellsOfSV at h
 split at h
 ·rename_i ha
  unfold isAggT undl at ha
  cases hu : P.underlying t with
  | none => rw [hu] at ha; cases ha
  | some d => exact info_of_underlying hu
 ·split at h
  ·rename_i hc
   simp only [Bool.and_eq_true, decide_eq_true_eq] at hc
   cases hi : P.info? t with
   | none => simp [sizeT, Program.cellsOf, hi] at hc
   | some i => exact ⟨i, rfl⟩
  ·cases h
theorem run_storeAt_cells {t : TypeId} {i : TypeInfo} (hi : P.info? t = some i) {b o : Nat} {r : Array Value} {et : TypeId} (hb : w.heap[b]? = some (.cells r et (0, 0))) {v : Value} {vs : List Value} (hv : v.cells = vs.toArray) (h1 : ∀ u ∈ vs, u.oneCell' = true) (hl : vs.length = sizeT P t) (hs : o + vs.length ≤ r.size) :
  (Instr.storeAt t (.pointer (some ⟨b, o, none⟩)) v).run P w = .ok () (w.setCells b o vs) := by
 have hst := run_storeCells_cells (P := P) b o vs 0 w (fun j hj => by rw [rowCells_cell (rowCells_of hb)]; simp; omega) (fun j hj => by unfold World.frozen?; simp only; rw [hb]; simp) h1
 have hsz : vs.length = i.size := by rw [hl]; simp [sizeT, Program.cellsOf, hi]
 simp only [Nat.add_zero] at hst
 simp [Instr.storeAt, Instr.sureAddr, storeVar, sizeOf, typeInfo, hi, hv, hsz, hst]
theorem leaf_n {a : Kd} (h : a.isSt = false) : a.n = 1 := by cases a <;> simp_all [Kd.n, Kd.isSt]
theorem rep_leaf {h : Array Obj} {ok : Nat → Prop} {a b : Kd} (hk : a.isSt = false) {x : (Kd.cons a b).T} {cs : List Value} (e : Rep h ok (.cons a b) x cs) : ∃ v r, cs = v :: r ∧ Rep h ok a x.1 [v] ∧ Rep h ok b x.2 r := by
 obtain ⟨c1, c2, rfl, e1, e2⟩ := e
 have hl := Rep.length a e1
 rw [leaf_n hk] at hl
 match c1, hl, e1 with
 | [v], _, e1 => exact ⟨v, c2, rfl, e1, e2⟩
theorem setHead_rep {h : Array Obj} {ok : Nat → Prop} : (k : Kd) → k.leafy = true → {x : k.T} → {cs : List Value} → (k' : Kd) → {y : k'.T} → {vs : List Value} → {r : k.T} → setHead k x k' y = some r → Rep h ok k x cs → Rep h ok k' y vs → k'.leafy = true →
  Rep h ok k r (vs ++ cs.drop vs.length)
 | k, hk, x, cs, .nil, y, vs, r, e, ex, ey, _ => by
  cases ey
  have : setHead k x .nil y = some x := by unfold setHead; cases k <;> rfl
  rw [this] at e
  cases e
  simpa using ex
 | .cons a b, hk, x, cs, .cons a' b', y, vs, r, e, ex, ey, hk' => by
  simp only [Kd.leafy, Bool.and_eq_true, Bool.not_eq_true'] at hk hk'
  simp only [setHead] at e
  split at e
  ·rename_i ha
   subst ha
   split at e
   ·rename_i r' hr'
    cases e
    obtain ⟨v, cs', rfl, _, ex2⟩ := rep_leaf hk.1 ex
    obtain ⟨u, vs', rfl, ey1, ey2⟩ := rep_leaf hk'.1 ey
    exact ⟨[u], vs' ++ cs'.drop vs'.length, rfl, ey1, setHead_rep b hk.2 b' hr' ex2 ey2 hk'.2⟩
   ·cases e
  ·cases e
 | .nil, _, _, _, .cons _ _, _, _, _, e, _, _, _ => by simp [setHead] at e
 | .int _, hk, _, _, _, _, _, _, _, _, _, _ => by cases hk
 | .bool, hk, _, _, _, _, _, _, _, _, _, _ => by cases hk
 | .str, hk, _, _, _, _, _, _, _, _, _, _ => by cases hk
 | .err, hk, _, _, _, _, _, _, _, _, _, _ => by cases hk
 | .any, hk, _, _, _, _, _, _, _, _, _, _ => by cases hk
 | .sl _ _, hk, _, _, _, _, _, _, _, _, _, _ => by cases hk
 | .tree _, hk, _, _, _, _, _, _, _, _, _, _ => by cases hk
 | .cons _ _, _, _, _, .int _, _, _, _, e, _, _, _ => by simp [setHead] at e
 | .cons _ _, _, _, _, .bool, _, _, _, e, _, _, _ => by simp [setHead] at e
 | .cons _ _, _, _, _, .str, _, _, _, e, _, _, _ => by simp [setHead] at e
 | .cons _ _, _, _, _, .err, _, _, _, e, _, _, _ => by simp [setHead] at e
 | .cons _ _, _, _, _, .any, _, _, _, e, _, _, _ => by simp [setHead] at e
 | .cons _ _, _, _, _, .sl _ _, _, _, _, e, _, _, _ => by simp [setHead] at e
 | .cons _ _, _, _, _, .tree _, _, _, _, e, _, _, _ => by simp [setHead] at e
 | .nil, _, _, _, .int _, _, _, _, e, _, _, _ => by simp [setHead] at e
 | .nil, _, _, _, .bool, _, _, _, e, _, _, _ => by simp [setHead] at e
 | .nil, _, _, _, .str, _, _, _, e, _, _, _ => by simp [setHead] at e
 | .nil, _, _, _, .err, _, _, _, e, _, _, _ => by simp [setHead] at e
 | .nil, _, _, _, .any, _, _, _, e, _, _, _ => by simp [setHead] at e
 | .nil, _, _, _, .sl _ _, _, _, _, e, _, _, _ => by simp [setHead] at e
 | .nil, _, _, _, .tree _, _, _, _, e, _, _, _ => by simp [setHead] at e
theorem setAtCh_rep {h : Array Obj} {ok : Nat → Prop} : (k : Kd) → k.leafy = true → {x : k.T} → {cs : List Value} → (c : Nat) → (k' : Kd) → {y : k'.T} → {vs : List Value} → {r : k.T} → setAtCh k x c k' y = some r → Rep h ok k x cs → Rep h ok k' y vs → k'.leafy = true →
  Rep h ok k r (cs.take c ++ vs ++ cs.drop (c + vs.length))
 | k, hk, x, cs, 0, k', y, vs, r, e, ex, ey, hk' => by
  have : setAtCh k x 0 k' y = setHead k x k' y := by unfold setAtCh; cases k <;> rfl
  rw [this] at e
  simpa using setHead_rep k hk k' e ex ey hk'
 | .cons a b, hk, x, cs, c + 1, k', y, vs, r, e, ex, ey, hk' => by
  simp only [Kd.leafy, Bool.and_eq_true, Bool.not_eq_true'] at hk
  simp only [setAtCh] at e
  split at e
  ·rename_i r' hr'
   cases e
   obtain ⟨v, cs', rfl, ex1, ex2⟩ := rep_leaf hk.1 ex
   have := setAtCh_rep b hk.2 c k' hr' ex2 ey hk'
   refine ⟨[v], _, ?_, ex1, this⟩
   simp [show c + 1 + vs.length = (c + vs.length) + 1 by omega]
  ·cases e
 | .nil, _, _, _, _ + 1, _, _, _, _, e, _, _, _ => by simp [setAtCh] at e
 | .int _, hk, _, _, _ + 1, _, _, _, _, _, _, _, _ => by cases hk
 | .bool, hk, _, _, _ + 1, _, _, _, _, _, _, _, _ => by cases hk
 | .str, hk, _, _, _ + 1, _, _, _, _, _, _, _, _ => by cases hk
 | .err, hk, _, _, _ + 1, _, _, _, _, _, _, _, _ => by cases hk
 | .any, hk, _, _, _ + 1, _, _, _, _, _, _, _, _ => by cases hk
 | .sl _ _, hk, _, _, _ + 1, _, _, _, _, _, _, _, _ => by cases hk
 | .tree _, hk, _, _, _ + 1, _, _, _, _, _, _, _, _ => by cases hk
theorem unch_rep {h : Array Obj} {ok : Nat → Prop} : (k : Kd) → {x : k.ch.T} → {cs : List Value} → Rep h ok k.ch x cs → Rep h ok k (unch k x) cs
 | .int _, x, cs, e => by obtain ⟨c1, c2, rfl, e1, e2⟩ := e; cases e2; simpa [unch] using e1
 | .bool, x, cs, e => by obtain ⟨c1, c2, rfl, e1, e2⟩ := e; cases e2; simpa [unch] using e1
 | .str, x, cs, e => by obtain ⟨c1, c2, rfl, e1, e2⟩ := e; cases e2; simpa [unch] using e1
 | .err, x, cs, e => by obtain ⟨c1, c2, rfl, e1, e2⟩ := e; cases e2; simpa [unch] using e1
 | .any, x, cs, e => by obtain ⟨c1, c2, rfl, e1, e2⟩ := e; cases e2; simpa [unch] using e1
 | .sl _ _, x, cs, e => by obtain ⟨c1, c2, rfl, e1, e2⟩ := e; cases e2; simpa [unch] using e1
 | .nil, _, _, e => e
 | .cons _ _, _, _, e => e
 | .tree _, x, cs, e => by obtain ⟨c1, c2, rfl, e1, e2⟩ := e; cases e2; simpa [unch] using e1
theorem takeK_leafy : (k : Kd) → k.leafy = true → (n : Nat) → {r : Kd} → takeK k n = some r → r.leafy = true
 | k, _, 0, r, h => by
  have : takeK k 0 = some .nil := by cases k <;> rfl
  rw [this] at h; cases h; rfl
 | .cons a b, hk, n + 1, r, h => by
  simp only [Kd.leafy, Bool.and_eq_true] at hk
  simp only [takeK] at h
  split at h
  ·rename_i r' hr'
   cases h
   simp only [Kd.leafy, Bool.and_eq_true]
   exact ⟨hk.1, takeK_leafy b hk.2 n hr'⟩
  ·cases h
 | .nil, _, _ + 1, _, h => by simp [takeK] at h
 | .int _, _, _ + 1, _, h => by simp [takeK] at h
 | .bool, _, _ + 1, _, h => by simp [takeK] at h
 | .str, _, _ + 1, _, h => by simp [takeK] at h
 | .err, _, _ + 1, _, h => by simp [takeK] at h
 | .any, _, _ + 1, _, h => by simp [takeK] at h
 | .sl _ _, _, _ + 1, _, h => by simp [takeK] at h
 | .tree _, _, _ + 1, _, h => by simp [takeK] at h
theorem dropK_leafy : (k : Kd) → k.leafy = true → {x : k.T} → (c : Nat) → {y : Sigma Kd.T} → dropK k x c = some y → y.1.leafy = true
 | k, hk, x, 0, y, hy => by
  have : y = ⟨k, x⟩ := by unfold dropK at hy; cases k <;> simp_all
  subst this; exact hk
 | .cons a b, hk, x, c + 1, y, hy => by
  simp only [Kd.leafy, Bool.and_eq_true] at hk
  exact dropK_leafy b hk.2 c (by simpa [dropK] using hy)
 | .nil, _, _, _ + 1, _, hy => by simp [dropK] at hy
 | .int _, hk, _, _ + 1, _, _ => by cases hk
 | .bool, hk, _, _ + 1, _, _ => by cases hk
 | .str, hk, _, _ + 1, _, _ => by cases hk
 | .err, hk, _, _ + 1, _, _ => by cases hk
 | .any, hk, _, _ + 1, _, _ => by cases hk
 | .sl _ _, hk, _, _ + 1, _, _ => by cases hk
 | .tree _, hk, _, _ + 1, _, _ => by cases hk
theorem dropK_n : (k : Kd) → k.leafy = true → {x : k.T} → (c : Nat) → {y : Sigma Kd.T} → dropK k x c = some y → c + y.1.n = k.n
 | k, hk, x, 0, y, hy => by
  have : y = ⟨k, x⟩ := by unfold dropK at hy; cases k <;> simp_all
  subst this; simp
 | .cons a b, hk, x, c + 1, y, hy => by
  simp only [Kd.leafy, Bool.and_eq_true, Bool.not_eq_true'] at hk
  have := dropK_n b hk.2 c (x := x.2) (y := y) (by simpa [dropK] using hy)
  simp only [Kd.n, leaf_n hk.1]
  omega
 | .nil, _, _, _ + 1, _, hy => by simp [dropK] at hy
 | .int _, hk, _, _ + 1, _, _ => by cases hk
 | .bool, hk, _, _ + 1, _, _ => by cases hk
 | .str, hk, _, _ + 1, _, _ => by cases hk
 | .err, hk, _, _ + 1, _, _ => by cases hk
 | .any, hk, _, _ + 1, _, _ => by cases hk
 | .sl _ _, hk, _, _ + 1, _, _ => by cases hk
 | .tree _, hk, _, _ + 1, _, _ => by cases hk
theorem evStore_sound {t : TypeId} {p s : SV} {pv sv : Value} (hh : HRep F G ow w.heap) (hF : ∀ b, F b → b < w.heap.size) (hp : Sv F G ow w.heap p pv) (hs : Sv F G ow w.heap s sv) {Q : OW → Prop} (h : (evStore P t p s ow).can Q) :
  ∃ ow' w', Q ow' ∧ (Instr.storeAt t pv sv).run P w = .ok () w' ∧ Tr F G ow w G ow' w' := by
 unfold evStore at h
 split at h
 ·exact h.elim
 rename_i new hnew
 obtain ⟨i, hi⟩ := cellsOfSV_info hnew
 obtain ⟨vs, hvs, hsv, h1, hl⟩ := cellsOfSV_sound hs hnew
 split at h
 ·rename_i d j c
  split at h
  ·rename_i cells hg
   split at h
   ·rename_i cells' hc'
    have hn := nameOf_of_getOb hg
    obtain ⟨hG1, b, o, r, et, hG, hb, hsz, hc⟩ := hh.obs d j _ hn
    cases hp with
    | bp hp =>
    simp only [hn] at hp
    obtain ⟨b', o', hG', rfl⟩ := hp
    rw [hG] at hG'; cases hG'
    unfold setCells at hc'
    split at hc'
    ·rename_i hle
     cases hc'
     have hlen : new.length = vs.length := hsv.1
     have hle' : o + c + vs.length ≤ r.size := by omega
     refine ⟨_, _, h, run_storeAt_cells hi hb hvs h1 hl hle', write_tr (ob' := .box (cells.take c ++ new ++ cells.drop (c + new.length))) hh hF hn trivial trivial trivial hG hb hle' fun hb' hsvm _ => ?_⟩
     refine ⟨hG1, b, o, _, et, hG, hb', ?_, fun q hq hr => ?_⟩
     ·rw [setA_size hle']
      simp
      omega
     ·have e1 := setA_get hle' (o + q)
      rw [Array.getElem?_eq_getElem hr] at e1
      simp only [List.length_append, List.length_take, List.length_drop] at hq
      by_cases h2 : q < c
      ·rw [if_neg (by omega), Array.getElem?_eq_getElem (by omega)] at e1
       have e2 : (cells.take c ++ new ++ cells.drop (c + new.length))[q] = cells[q]'(by omega) := by
        simp only [List.append_assoc]
        rw [List.getElem_append_left (by simp; omega), List.getElem_take]
       rw [Option.some.inj e1, e2]
       exact hsvm _ _ (hc q (by omega) (by omega))
      ·by_cases h3 : q < c + vs.length
       ·rw [if_pos (by omega), List.getElem?_eq_getElem (by omega)] at e1
        have e2 : (cells.take c ++ new ++ cells.drop (c + new.length))[q] = new[q - c]'(by omega) := by
         rw [List.getElem_append_left (by simp; omega), List.getElem_append_right (by simp; omega)]
         congr 1
         simp
         omega
        have e3 : o + q - (o + c) = q - c := by omega
        simp only [e3] at e1
        rw [Option.some.inj e1, e2]
        exact hsvm _ _ (hsv.2 (q - c) (by omega) (by omega))
       ·rw [if_neg (by omega), Array.getElem?_eq_getElem (by omega)] at e1
        have e2 : (cells.take c ++ new ++ cells.drop (c + new.length))[q] = cells[q]'(by omega) := by
         rw [List.getElem_append_right (by simp; omega), List.getElem_drop]
         congr 1
         simp
         omega
        rw [Option.some.inj e1, e2]
        exact hsvm _ _ (hc q (by omega) (by omega))
    ·cases hc'
   ·exact h.elim
  ·exact h.elim
 ·rename_i d j ver0 e c
  split at h
  ·rename_i k ver l hg
   split at h
   ·rename_i kt hkt
    split at h
    ·rename_i y hy
     split at h
     ·rename_i k' ver' l' hg'
      split at h
      ·rename_i hk
       subst hk
       obtain ⟨x, hx, h⟩ := h
       dsimp only at h
       split at h
       ·rename_i x' hx'
        obtain ⟨t1, hrepv⟩ := toCells_sound hF kt (x := y.1) (ow' := y.2) hh hsv hy
        have hn := nameOf_of_getOb hg'
        obtain ⟨hG1, hgood, ho⟩ := t1.hrep.obs d j _ hn
        have hleaf := (Bool.and_eq_true _ _ ▸ hgood : k'.noOwn = true ∧ k'.ch.leafy = true).2
        have hp' := t1.sv _ _ hp
        cases hp' with
        | rp hp' =>
        simp only [hn] at hp'
        obtain ⟨hel, b, o, hG, rfl⟩ := hp'
        simp only [hG] at ho
        obtain ⟨r, et, hb, hE⟩ := ho
        have hx : l'[e]? = some x := hx
        obtain ⟨_, rfl⟩ := List.getElem?_eq_some_iff.1 hx
        have hktl : kt.leafy = true ∧ c ≤ k'.n := by
         unfold kindsAt at hkt
         split at hkt
         ·rename_i z hz
          have := dropK_n _ hleaf c hz
          rw [ch_n] at this
          exact ⟨takeK_leafy z.1 (dropK_leafy _ hleaf c hz) _ hkt, by omega⟩
         ·cases hkt
        obtain ⟨hktl, hck⟩ := hktl
        have hre := ch_rep k' (hE.2 e hel)
        have hset := setAtCh_rep k'.ch hleaf c kt hx' hre hrepv hktl
        have hlen := Rep.length _ hset
        rw [ch_n] at hlen
        have hbnd : (e + 1) * k'.n ≤ l'.length * k'.n := Nat.mul_le_mul_right _ hel
        rw [Nat.add_mul, Nat.one_mul] at hbnd
        have hE1 := hE.1
        have hslen : (sub r (o + e * k'.n) k'.n).length = k'.n := sub_length (by omega)
        have hcv : c + vs.length ≤ k'.n := by
         simp only [List.length_append, List.length_take, List.length_drop, hslen] at hlen
         omega
        have hle' : o + e * k'.n + c + vs.length ≤ r.size := by omega
        have hE0 : EC (some (some (.row k' ver' l'))) (some (some (.row k' ver' (l'.set e (unch k' x'))))) := ⟨rfl, by simp⟩
        have ht := write_tr (ob' := .row k' ver' (l'.set e (unch k' x'))) t1.hrep hF hn trivial hE0 trivial hG hb hle' (fun hb' _ hok => by
         refine ⟨hG1, hgood, ?_⟩
         simp only [hG]
         refine ⟨_, et, hb', ?_, fun q hq => ?_⟩
         ·rw [setA_size hle']; simpa using hE1
         ·simp only [List.length_set] at hq
          have hbq : (q + 1) * k'.n ≤ l'.length * k'.n := Nat.mul_le_mul_right _ hq
          rw [Nat.add_mul, Nat.one_mul] at hbq
          by_cases hqe : e = q
          ·subst hqe
           rw [List.getElem_set_self]
           have e1 : sub (setA r (o + e * k'.n + c) vs) (o + e * k'.n) k'.n = (sub r (o + e * k'.n) k'.n).take c ++ vs ++ (sub r (o + e * k'.n) k'.n).drop (c + vs.length) := by
            apply List.ext_getElem?
            intro z
            by_cases hz : z < k'.n
            ·rw [sub_getElem hz, setA_get hle']
             by_cases h2 : z < c
             ·rw [if_neg (by omega), List.append_assoc, List.getElem?_append_left (by simp [hslen]; omega), List.getElem?_take_of_lt h2, sub_getElem hz]
             ·by_cases h3 : z < c + vs.length
              ·rw [if_pos (by omega), List.getElem?_append_left (by simp [hslen]; omega), List.getElem?_append_right (by simp [hslen]; omega)]
               congr 1
               simp [hslen]
               omega
              ·rw [if_neg (by omega), List.getElem?_append_right (by simp [hslen]; omega)]
               simp only [List.length_append, List.length_take, hslen, List.getElem?_drop]
               rw [show c + vs.length + (z - (min c k'.n + vs.length)) = z by omega, sub_getElem hz]
            ·rw [sub_ge (by omega), List.getElem?_eq_none]
             simp [hslen]
             omega
           rw [e1]
           exact Rep.mono hok _ (unch_rep k' hset)
          ·rw [List.getElem_set_ne hqe]
           have e1 : sub (setA r (o + e * k'.n + c) vs) (o + q * k'.n) k'.n = sub r (o + q * k'.n) k'.n := by
            rcases Nat.lt_or_gt_of_ne hqe with h2 | h2
            ·have : (e + 1) * k'.n ≤ q * k'.n := Nat.mul_le_mul_right _ h2
             rw [Nat.add_mul, Nat.one_mul] at this
             exact sub_setA_after hle' (by omega)
            ·have : (q + 1) * k'.n ≤ e * k'.n := Nat.mul_le_mul_right _ h2
             rw [Nat.add_mul, Nat.one_mul] at this
             exact sub_setA_before hle' (by omega)
           rw [e1]
           exact Rep.mono hok _ (hE.2 q hq))
        exact ⟨_, _, h, run_storeAt_cells hi hb hvs h1 hl hle', t1.trans ht⟩
       ·exact h.elim
      ·exact h.elim
     ·exact h.elim
    ·exact h.elim
   ·exact h.elim
  ·exact h.elim
 ·exact h.elim
end
end Go.Pev
end

section
/-
 PEV, part 14: shapes in memory.
-/
namespace Go.Pev
def FP (F : Nat → Prop) (fp : List Nat) (b : Nat) : Prop := F b ∨ b ∈ fp
def OutR (h : Array Obj) (ok : Nat → Prop) : (s : Sh) → s.Out → List Value → List Nat → Prop
 | .pur _, _, vs, fp => (∃ v, vs = [v]) ∧ fp = []
 | .own _, _, vs, fp => (∃ v, vs = [v]) ∧ fp = []
 | .rows _, _, vs, fp => (∃ v, vs = [v]) ∧ fp = []
 | .row k, l, vs, fp => ∃ v, vs = [v] ∧ RowR h ok k l v fp
 | .nrw s, l, vs, fp => ShR h ok (.nrw s) l vs fp
 | .box l, x, vs, fp => ∃ b o r et fp', vs = [.pointer (some ⟨b, o, none⟩)] ∧ fp = b :: fp' ∧ h[b]? = some (.cells r et (0, 0)) ∧ o + l.len ≤ r.size ∧ ShR h ok l x (sub r o l.len) fp'
 | .agg l, x, vs, fp => ∃ cs, vs = [.agg cs.toArray] ∧ OutR h ok l x cs fp
 | .fn f n l, x, vs, fp => ∃ xs ys, vs = [.func f xs.toArray ys.toArray] ∧ xs.length = n ∧ OutR h ok l x (xs ++ ys) fp
 | .ign, _, vs, fp => (∃ v, vs = [v]) ∧ fp = []
 | .nl, _, vs, fp => (∃ v, vs = [v]) ∧ fp = []
 | .nil, _, vs, fp => vs = [] ∧ fp = []
 | .cons a b, x, vs, fp => ∃ v r f1 f2, vs = v :: r ∧ fp = f1 ++ f2 ∧ (a.noOuts = true ∧ f1 = [] ∨ a.noOuts = false ∧ OutR h ok a x.1 [v] f1) ∧ OutR h ok b x.2 r f2
theorem OutR.mono {h h' : Array Obj} {ok ok' : Nat → Prop} (hm : ∀ b r, ok b → rowCells h b = some r → ok' b ∧ rowCells h' b = some r) : (s : Sh) → {x : s.Out} → {vs : List Value} → {fp : List Nat} → (∀ b ∈ fp, h'[b]? = h[b]?) → OutR h ok s x vs fp → OutR h' ok' s x vs fp
 | .pur _, _, _, _, _, e => e
 | .own _, _, _, _, _, e => e
 | .rows _, _, _, _, _, e => e
 | .row _, _, _, _, hf, e => by obtain ⟨v, h1, e⟩ := e; exact ⟨v, h1, e.mono hm hf⟩
 | .nrw s, _, _, _, hf, e => ShR.mono hm (.nrw s) hf e
 | .box l, _, _, _, hf, e => by
  obtain ⟨b, o, r, et, fp', h1, rfl, h3, h4, e⟩ := e
  exact ⟨b, o, r, et, fp', h1, rfl, by rw [hf b (by simp), h3], h4, ShR.mono hm l (fun b' hb => hf b' (by simp [hb])) e⟩
 | .agg l, _, _, _, hf, e => by obtain ⟨cs, h1, e⟩ := e; exact ⟨cs, h1, OutR.mono hm l hf e⟩
 | .fn _ _ l, _, _, _, hf, e => by obtain ⟨xs, ys, h1, h2, e⟩ := e; exact ⟨xs, ys, h1, h2, OutR.mono hm l hf e⟩
 | .ign, _, _, _, _, e => e
 | .nl, _, _, _, _, e => e
 | .nil, _, _, _, _, e => e
 | .cons a b, _, _, _, hf, e => by
  obtain ⟨v, r, f1, f2, h1, rfl, e1, e2⟩ := e
  refine ⟨v, r, f1, f2, h1, rfl, ?_, OutR.mono hm b (fun b' hb => hf b' (by simp [hb])) e2⟩
  rcases e1 with e1 | ⟨h0, e1⟩
  ·exact .inl e1
  ·exact .inr ⟨h0, OutR.mono hm a (fun b' hb => hf b' (by simp [hb])) e1⟩
def TkE (o n : Option (Option OB)) : Prop :=
 n = o ∨ (isOwn o ∧ n = some none) ∨ Frz o n
theorem TkE.trans {o n m : Option (Option OB)} (h1 : TkE o n) (h2 : TkE n m) : TkE o m := by
 rcases h1 with rfl | ⟨h, rfl⟩ | hz
 ·exact h2
 ·rcases h2 with rfl | ⟨h', _⟩ | h'
  ·exact .inr (.inl ⟨h, rfl⟩)
  ·exact h'.elim
  ·exact h'.own.elim
 ·rcases h2 with rfl | ⟨h', _⟩ | h'
  ·exact .inr (.inr hz)
  ·exact absurd h' hz.not.1
  ·exact absurd h'.own hz.not.1
theorem TkE.own {o n : Option (Option OB)} (h : TkE o n) (hn : isOwn n) : n = o := by
 rcases h with h | ⟨_, rfl⟩ | hz
 ·exact h
 ·exact hn.elim
 ·exact absurd hn hz.not.1
theorem TkE.ec {o n : Option (Option OB)} (h : TkE o n) : EC o n := by
 rcases h with rfl | ⟨_, rfl⟩ | hz
 ·exact .refl _
 ·exact .dead
 ·exact hz.ec
structure Taken (ow ow1 : OW) : Prop where
 len : ow1.length = ow.length
 names : ∀ d j, TkE (nameOf ow d j) (nameOf ow1 d j)
theorem Taken.refl (ow : OW) : Taken ow ow := ⟨rfl, fun _ _ => .inl rfl⟩
theorem Taken.trans {a b c : OW} (h1 : Taken a b) (h2 : Taken b c) : Taken a c := ⟨by rw [h2.len, h1.len], fun d j => (h1.names d j).trans (h2.names d j)⟩
def TkB (G : Gh) (ow ow1 : OW) (b : Nat) : Prop := ∃ d j i o, isOwn (nameOf ow d j) ∧ G d j i = some (b, o) ∧ nameOf ow1 d j = some none
def FpOk (G : Gh) (ow ow1 : OW) (fp : List Nat) : Prop := ∀ b, b ∈ fp ↔ TkB G ow ow1 b
theorem TkB.trans {G : Gh} {a b c : OW} (h1 : Taken a b) (h2 : Taken b c) (x : Nat) : TkB G a c x ↔ TkB G a b x ∨ TkB G b c x := by
 constructor
 ·rintro ⟨d, j, i, o, hi, hg, hn⟩
  rcases h1.names d j with e | ⟨_, e⟩ | hz
  ·exact .inr ⟨d, j, i, o, by rw [e]; exact hi, hg, hn⟩
  ·exact .inl ⟨d, j, i, o, hi, hg, e⟩
  ·rcases h2.names d j with e2 | ⟨h', _⟩ | h'
   ·rw [hn] at e2; exact absurd e2.symm hz.not.2.1
   ·exact absurd h' hz.not.1
   ·exact absurd h'.own hz.not.1
 ·rintro (⟨d, j, i, o, hi, hg, hn⟩ | ⟨d, j, i, o, hi, hg, hn⟩)
  ·refine ⟨d, j, i, o, hi, hg, ?_⟩
   rcases h2.names d j with e2 | ⟨h', _⟩ | h'
   ·rw [e2, hn]
   ·rw [hn] at h'; exact h'.elim
   ·have := h'.own; rw [hn] at this; exact this.elim
  ·exact ⟨d, j, i, o, by rw [← (h1.names d j).own hi]; exact hi, hg, hn⟩
theorem FpOk.refl (G : Gh) (ow : OW) : FpOk G ow ow [] := fun b => by
 constructor
 ·intro h; simp at h
 ·rintro ⟨d, j, i, o, hi, _, hn⟩
  rw [hn] at hi; exact hi.elim
section
variable {F : Nat → Prop} {G : Gh} {ow ow1 ow2 : OW} {h : Array Obj} {fp : List Nat}
theorem Taken.own (hT : Taken ow ow1) {b : Nat} (hb : Own G ow1 b) : Own G ow b := by
 obtain ⟨d, j, i, o, hi, hg⟩ := own_iff.1 hb
 exact own_iff.2 ⟨d, j, i, o, by rw [← (hT.names d j).own hi]; exact hi, hg⟩
theorem FpOk.own (hf : FpOk G ow ow1 fp) {b : Nat} (hb : b ∈ fp) : Own G ow b := by
 obtain ⟨d, j, i, o, hi, hg, _⟩ := (hf b).1 hb
 exact own_iff.2 ⟨d, j, i, o, hi, hg⟩
theorem FpOk.notOwn (hh : HRep F G ow h) (hT : Taken ow ow1) (hf : FpOk G ow ow1 fp) {b : Nat} (hb : b ∈ fp) : ¬ Own G ow1 b := by
 intro ho
 obtain ⟨d, j, i, o, hi, hg, hn⟩ := (hf b).1 hb
 obtain ⟨d', j', i', o', hi', hg'⟩ := own_iff.1 ho
 have e := (hT.names d' j').own hi'
 obtain ⟨rfl, rfl, _⟩ := hh.apart d j i d' j' i' b o o' hi (by rw [← e]; exact hi') hg hg'
 rw [hn] at hi'
 exact hi'
theorem taken_ok (hT : Taken ow ow1) (hf : FpOk G ow ow1 fp) {b : Nat} (hb : okF F G ow b) : okF (FP F fp) G ow1 b :=
 ⟨fun hx => by
  rcases hx with hx | hx
  ·exact hb.1 hx
  ·exact hb.2 (hf.own hx), fun ho => hb.2 (hT.own ho)⟩
theorem taken_state (hh : HRep F G ow h) (hT : Taken ow ow1) (hf : FpOk G ow ow1 fp) : HRep (FP F fp) G ow1 h ∧ ∀ s v, Sv F G ow h s v → Sv (FP F fp) G ow1 h s v := by
 have hok : ∀ b r, okF F G ow b → rowCells h b = some r → okF (FP F fp) G ow1 b ∧ rowCells h b = some r := fun b r hb hr => ⟨taken_ok hT hf hb, hr⟩
 have hE : ∀ d j, EC (nameOf ow d j) (nameOf ow1 d j) := fun d j => (hT.names d j).ec
 refine ⟨⟨fun d j o hn => ?_, fun d j i d' j' i' b o o' h1 h2 => ?_, fun b hb hx => ?_⟩, fun s v e => SvRep.mono (fun _ _ _ => rfl) hE hok (fun b r hr => ⟨r, hr, rfl⟩) e⟩
 ·rcases hT.names d j with e | ⟨_, e⟩ | hz
  ·have hn' : nameOf ow d j = some (some o) := by rw [← e]; exact hn
   exact ObRep.mono (fun _ _ _ => rfl) hE hok (fun b r hr => ⟨r, hr, rfl⟩) rfl (fun _ _ _ _ _ => rfl) (hh.obs d j o hn')
  ·rw [hn] at e; cases e
  ·have hio := hz.own
   have hno := hz.not.1
   rw [hn] at hz hno
   generalize hx : nameOf ow d j = x at hz hio
   match x, hio, hz with
   | some (some ob), hio, hz =>
    refine hz.rep rfl hok (fun i b o hg => ⟨⟨fun hx' => ?_, fun ho => ?_⟩, rfl⟩) (hh.obs d j ob hx)
    ·have hob : Own G ow b := own_iff.2 ⟨d, j, i, o, by rw [hx]; exact hio, hg⟩
     rcases hx' with hx' | hx'
     ·exact hh.notF b hob hx'
     ·obtain ⟨d', j', i', o', hi, hg', hn'⟩ := (hf b).1 hx'
      obtain ⟨rfl, rfl, _⟩ := hh.apart d' j' i' d j i b o' o hi (by rw [hx]; exact hio) hg' hg
      rw [hn] at hn'; cases hn'
    ·obtain ⟨d', j', i', o', hi, hg'⟩ := own_iff.1 ho
     have e := (hT.names d' j').own hi
     obtain ⟨rfl, rfl, _⟩ := hh.apart d' j' i' d j i b o' o (by rw [← e]; exact hi) (by rw [hx]; exact hio) hg' hg
     rw [hn] at hi; exact hno hi
 ·exact hh.apart d j i d' j' i' b o o' (by rw [← (hT.names d j).own h1]; exact h1) (by rw [← (hT.names d' j').own h2]; exact h2)
 ·rcases hx with hx | hx
  ·exact hh.notF b (hT.own hb) hx
  ·exact hf.notOwn hh hT hx hb
theorem taken_put {d j : Nat} (hi : isOwn (nameOf ow d j)) : Taken ow (putOb ow d j none) := by
 have hn : nameOf ow d j ≠ none := by intro h; rw [h] at hi; exact hi
 refine ⟨length_putOb, fun d' j' => ?_⟩
 rw [nameOf_putOb hn]
 split
 ·rename_i e
  rw [e.1, e.2]
  exact .inr (.inl ⟨hi, rfl⟩)
 ·exact .inl rfl
structure FTaken (ow ow1 : OW) : Prop where
 len : ow1.length = ow.length
 names : ∀ d j, nameOf ow1 d j = nameOf ow d j ∨ Frz (nameOf ow d j) (nameOf ow1 d j)
theorem FTaken.refl (ow : OW) : FTaken ow ow := ⟨rfl, fun _ _ => .inl rfl⟩
theorem FTaken.trans {a b c : OW} (h1 : FTaken a b) (h2 : FTaken b c) : FTaken a c := ⟨by rw [h2.len, h1.len], fun d j => by
 rcases h1.names d j with e | hz
 ·rcases h2.names d j with e' | hz
  ·exact .inl (by rw [e', e])
  ·exact .inr (by rw [← e]; exact hz)
 ·rcases h2.names d j with e' | hz'
  ·exact .inr (by rw [e']; exact hz)
  ·exact absurd hz'.own hz.not.1⟩
theorem FTaken.taken {a b : OW} (h : FTaken a b) : Taken a b := ⟨h.len, fun d j => by
 rcases h.names d j with e | e
 ·exact .inl e
 ·exact .inr (.inr e)⟩
theorem FTaken.fpOk {a b : OW} (h : FTaken a b) : FpOk G a b [] := fun x => by
 constructor
 ·intro h; simp at h
 ·rintro ⟨d, j, i, o, hi, _, hn⟩
  rcases h.names d j with e | hz
  ·rw [← e, hn] at hi; exact hi.elim
  ·exact absurd hn hz.not.2.1
theorem taken_frz (d j : Nat) : FTaken ow (frzOb ow d j) := by
 unfold frzOb
 split
 ·rename_i k ver l hg
  have hn := nameOf_of_getOb hg
  refine ⟨length_putOb, fun d' j' => ?_⟩
  rw [nameOf_putOb (by rw [hn]; simp)]
  split
  ·rename_i e
   rw [e.1, e.2, hn]
   exact .inr (.inl ⟨k, ver, l, rfl, rfl⟩)
  ·exact .inl rfl
 ·exact .refl _
theorem taken_frzN (d j : Nat) : FTaken ow (frzN ow d j) := by
 rcases frzN_cases (ow := ow) d j with e | ⟨s, l, l', hn, hz, e⟩
 ·rw [e]; exact .refl _
 ·rw [e]
  refine ⟨length_putOb, fun d' j' => ?_⟩
  rw [nameOf_putOb (by rw [hn]; simp)]
  split
  ·rename_i e
   rw [e.1, e.2, hn]
   exact .inr hz
  ·exact .inl rfl
theorem toLeaf_taken {k : Kd} {s : SV} {x : k.T} (e : toLeaf k s ow = some (x, ow1)) : FTaken ow ow1 := by
 unfold toLeaf at e
 split at e
 ·split at e
  ·cases e; exact .refl _
  ·cases e
 ·split at e
  ·cases e; exact .refl _
  ·cases e
 ·split at e
  ·cases e; exact .refl _
  ·cases e
 ·split at e
  ·split at e
   ·split at e
    ·simp only [Option.some.injEq, Prod.mk.injEq] at e
     rw [← e.2]
     exact taken_frz _ _
    ·cases e
   ·split at e
    ·split at e
     ·simp only [Option.some.injEq, Prod.mk.injEq] at e
      rw [← e.2]
      exact taken_frzN _ _
     ·cases e
    ·cases e
   ·cases e
  ·cases e
theorem toCells_taken : (k : Kd) → {l : List SV} → {ow ow1 : OW} → {x : k.T} → toCells k l ow = some (x, ow1) → FTaken ow ow1
 | .cons a b, l, ow, ow1, x, e => by
  cases l with
  | nil => simp [toCells] at e
  | cons s r =>
   simp only [toCells] at e
   split at e
   ·rename_i y hy
    split at e
    ·rename_i z hz
     cases e
     exact (toLeaf_taken (x := y.1) (ow1 := y.2) hy).trans (toCells_taken b (x := z.1) (ow1 := z.2) hz)
    ·cases e
   ·cases e
 | .nil, l, ow, ow1, x, e => by
  cases l with
  | nil =>
   simp only [toCells, Option.some.injEq, Prod.mk.injEq] at e
   rw [← e.2]; exact .refl _
  | cons s r => simp [toCells] at e
 | .int _, _, _, _, _, e => by simp [toCells] at e
 | .bool, _, _, _, _, e => by simp [toCells] at e
 | .str, _, _, _, _, e => by simp [toCells] at e
 | .err, _, _, _, _, e => by simp [toCells] at e
 | .any, _, _, _, _, e => by simp [toCells] at e
 | .sl _ _, _, _, _, _, e => by simp [toCells] at e
 | .tree _, _, _, _, _, e => by simp [toCells] at e
theorem toPay_taken {k : Kd} {s : SV} {x : k.T} (e : toPay k s ow = some (x, ow1)) : FTaken ow ow1 := by
 unfold toPay at e
 split at e
 ·split at e
  ·exact toCells_taken k e
  ·cases e
 ·exact toLeaf_taken e
theorem toLeaf_leaf {w : World} {k : Kd} {s : SV} {v : Value} (hs : Sv F G ow w.heap s v) {x : k.T} (e : toLeaf k s ow = some (x, ow1)) : k.isSt = false := by
 unfold toLeaf at e
 split at e
 ·split at e
  ·rename_i hk
   subst hk
   cases hs with
   | v hk _ => exact hk
  ·cases e
 ·split at e
  ·rfl
  ·cases e
 ·split at e
  ·rfl
  ·cases e
 ·split at e
  ·rfl
  ·cases e
theorem toCells_leafy {w : World} (hF : ∀ b, F b → b < w.heap.size) : (k : Kd) → {ow ow1 : OW} → HRep F G ow w.heap → {l : List SV} → {vs : List Value} → Svs F G ow w.heap l vs → {x : k.T} → toCells k l ow = some (x, ow1) → k.leafy = true
 | .cons a b, ow, ow1, hh, l, vs, hl, x, e => by
  cases l with
  | nil => simp [toCells] at e
  | cons s r =>
   simp only [toCells] at e
   obtain ⟨v, vs', rfl, hv, hvs⟩ := hl.uncons
   split at e
   ·rename_i y hy
    split at e
    ·rename_i z hz
     obtain ⟨t1, _⟩ := toLeaf_sound (x := y.1) (ow' := y.2) hh hF hv hy
     have h1 := toLeaf_leaf (x := y.1) (ow1 := y.2) hv hy
     have h2 := toCells_leafy hF b (x := z.1) (ow1 := z.2) t1.hrep ⟨hvs.1, fun i h1 h2 => t1.sv _ _ (hvs.2 i h1 h2)⟩ hz
     simp [Kd.leafy, h1, h2]
    ·cases e
   ·cases e
 | .nil, _, _, _, _, _, _, _, _ => rfl
 | .int _, _, _, _, _, _, _, _, e => by simp [toCells] at e
 | .bool, _, _, _, _, _, _, _, e => by simp [toCells] at e
 | .str, _, _, _, _, _, _, _, e => by simp [toCells] at e
 | .err, _, _, _, _, _, _, _, e => by simp [toCells] at e
 | .any, _, _, _, _, _, _, _, e => by simp [toCells] at e
 | .sl _ _, _, _, _, _, _, _, _, e => by simp [toCells] at e
 | .tree _, _, _, _, _, _, _, _, e => by simp [toCells] at e
theorem toPay_pay {w : World} (hh : HRep F G ow w.heap) (hF : ∀ b, F b → b < w.heap.size) {k : Kd} {s : SV} {v : Value} (hs : Sv F G ow w.heap s v) {x : k.T} (e : toPay k s ow = some (x, ow1)) : PayR w.heap (okF F G ow1) k x v := by
 obtain ⟨_, hr, hc⟩ := toPay_sound hh hF hs e
 refine ⟨hr, fun hk => ?_, fun hk => by simpa [hk] using hc⟩
 refine ⟨by simpa [hk] using hc, ?_⟩
 unfold toPay at e
 rw [if_pos hk] at e
 split at e
 ·obtain ⟨vs, _, hvs⟩ := hs.agg_inv
  exact toCells_leafy hF k hh hvs e
 ·cases e
end
end Go.Pev
end

section
/-
 PEV, part 14b: nested rows: packed, taken.
-/
namespace Go.Pev
theorem set_perm0 : (l : List (List Nat)) → (e : Nat) → (f : List Nat) → l[e]? = some [] → (l.set e f).flatten.Perm (f ++ l.flatten)
 | [], e, f, h => by simp at h
 | a :: l, 0, f, h => by
  have : a = [] := by simpa using h
  subst this
  simp
 | a :: l, e + 1, f, h => by
  have h : l[e]? = some [] := by simpa using h
  have := set_perm0 l e f h
  simp only [List.set_cons_succ, List.flatten_cons]
  exact (this.append_left a).trans (List.perm_append_comm_assoc a f l.flatten)
theorem set_perm (l : List (List Nat)) {e : Nat} (f : List Nat) (h : e < l.length) : (l.set e f ++ [l[e]]).flatten.Perm (f ++ l.flatten) := by
 have h1 := set_perm0 (l.set e []) e f (by simp [h])
 have h2 := set_perm0 (l.set e []) e l[e] (by simp [h])
 rw [List.set_set] at h1 h2
 rw [List.set_getElem_self] at h2
 refine List.perm_iff_count.2 fun x => ?_
 have h1 := List.perm_iff_count.1 h1 x
 have h2 := List.perm_iff_count.1 h2 x
 simp only [List.flatten_append, List.flatten_cons, List.flatten_nil, List.append_nil, List.count_append] at h1 h2 ⊢
 omega
def cutF (l : List (List Nat)) (off len : Nat) : List (List Nat) := subL l off len ++ (l.take off ++ l.drop (off + len))
theorem cutF_perm (l : List (List Nat)) (off len : Nat) : (cutF l off len).flatten.Perm l.flatten := by
 refine List.Perm.flatten ?_
 unfold cutF subL
 have e : l = l.take off ++ ((l.drop off).take len ++ l.drop (off + len)) := by
  rw [← List.drop_drop, List.take_append_drop, List.take_append_drop]
 conv => rhs; rw [e]
 exact List.perm_append_comm_assoc _ _ _
theorem subL_len {α : Type} {l : List α} {off len : Nat} (h : off + len ≤ l.length) : (subL l off len).length = len := by simp [subL]; omega
theorem subL_get {α : Type} {l : List α} {off len i : Nat} (h : off + len ≤ l.length) (hi : i < (subL l off len).length) : (subL l off len)[i] = l[off + i]'(by rw [subL_len h] at hi; omega) := by
 simp [subL]
theorem cutF_len {l : List (List Nat)} {off len : Nat} (h : off + len ≤ l.length) : (cutF l off len).length = l.length := by
 simp [cutF, subL]; omega
theorem cutF_get {l : List (List Nat)} {off len i : Nat} (h : off + len ≤ l.length) (hi : i < len) : (cutF l off len)[i]? = l[off + i]? := by
 unfold cutF
 rw [List.getElem?_append_left (by rw [subL_len h]; exact hi)]
 simp [subL, hi]
section
variable {F : Nat → Prop} {G : Gh} {ow ow1 ow2 : OW} {h : Array Obj}
theorem settle_some {s : Sh} {f : List SV → OW → Option (s.T × OW)} {d j : Nat} (e : settleOb s f ow d j = some ow1) :
  (∃ l, nameOf ow d j = some (some (.nrow s l none)) ∧ ow1 = ow) ∨
  ∃ l p x l2 foc2, nameOf ow d j = some (some (.nrow s l (some p))) ∧ f p.2 ow = some x ∧ nameOf x.2 d j = some (some (.nrow s l2 foc2)) ∧ ow1 = putOb x.2 d j (some (.nrow s (l2.set p.1 x.1) none)) := by
 unfold settleOb at e
 split at e
 ·rename_i s' l foc hg
  split at e
  ·rename_i hs
   subst hs
   split at e
   ·cases e
    exact .inl ⟨l, nameOf_of_getOb hg, rfl⟩
   ·rename_i p
    split at e
    ·rename_i x hx
     split at e
     ·rename_i s2 l2 foc2 hg3
      split at e
      ·rename_i hs2
       subst hs2
       cases e
       exact .inr ⟨l, p, x, l2, foc2, nameOf_of_getOb hg, hx, nameOf_of_getOb hg3, rfl⟩
      ·cases e
     ·cases e
    ·cases e
  ·cases e
 ·cases e
theorem takeRows_some {s : Sh} {v : SV} {l' : List s.T} (e : takeRows s v ow = some (l', ow1)) :
  ∃ d j l, nameOf ow d j = some (some (.nrow s l none)) ∧ ow1 = putOb ow d j none ∧ keyOf v = some (d, j) ∧ ((∃ ver, v = .wh d j ver [] ∧ l' = l) ∨ ∃ ver off len, v = .os d j ver [] off len ∧ l' = subL l off len) := by
 unfold takeRows at e
 split at e
 ·rename_i d j ver
  split at e
  ·rename_i s' l hg
   split at e
   ·rename_i hs
    subst hs
    cases e
    exact ⟨d, j, l, nameOf_of_getOb hg, rfl, rfl, .inl ⟨ver, rfl, rfl⟩⟩
   ·cases e
  ·cases e
 ·rename_i d j ver off len
  split at e
  ·rename_i s' l hg
   split at e
   ·rename_i hs
    subst hs
    cases e
    exact ⟨d, j, l, nameOf_of_getOb hg, rfl, rfl, .inr ⟨ver, off, len, rfl, rfl⟩⟩
   ·cases e
  ·cases e
 ·cases e
theorem nrow_places {d j : Nat} {fps : List (List Nat)} (hG : ∀ i, G d j (i + 1) = (fps.flatten[i]?).map fun b => (b, 0)) {b : Nat} :
  (∃ i o, G d j i = some (b, o)) ↔ (∃ o, G d j 0 = some (b, o)) ∨ b ∈ fps.flatten := by
 constructor
 ·rintro ⟨i, o, hg⟩
  cases i with
  | zero => exact .inl ⟨o, hg⟩
  | succ i =>
   rw [hG] at hg
   simp only [Option.map_eq_some_iff, Prod.mk.injEq] at hg
   obtain ⟨b', hb, rfl, _⟩ := hg
   exact .inr (List.mem_of_getElem? hb)
 ·rintro (⟨o, hg⟩ | hb)
  ·exact ⟨0, o, hg⟩
  ·obtain ⟨i, hi, e⟩ := List.mem_iff_getElem.1 hb
   exact ⟨i + 1, 0, by rw [hG, List.getElem?_eq_getElem hi, e]; rfl⟩
theorem nrow_nodup (hh : HRep F G ow h) {d j : Nat} {fps : List (List Nat)} (hi : isOwn (nameOf ow d j)) (hG : ∀ i, G d j (i + 1) = (fps.flatten[i]?).map fun b => (b, 0)) : fps.flatten.Nodup ∧ ∀ b o, G d j 0 = some (b, o) → b ∉ fps.flatten := by
 constructor
 ·refine List.pairwise_iff_getElem.2 fun x y hx' hy' hxy he => ?_
  have hx : G d j (x + 1) = some (fps.flatten[x], 0) := by rw [hG, List.getElem?_eq_getElem hx']; rfl
  have hy : G d j (y + 1) = some (fps.flatten[y], 0) := by rw [hG, List.getElem?_eq_getElem hy']; rfl
  rw [← he] at hy
  obtain ⟨_, _, e⟩ := hh.apart d j _ d j _ _ _ _ hi hi hx hy
  omega
 ·intro b o h0 hb
  obtain ⟨i, hi', e⟩ := List.mem_iff_getElem.1 hb
  have hx : G d j (i + 1) = some (b, 0) := by rw [hG, List.getElem?_eq_getElem hi', e]; rfl
  obtain ⟨_, _, e⟩ := hh.apart d j _ d j _ _ _ _ hi hi h0 hx
  cases e
theorem rows_final (hh : HRep F G ow h) {d j : Nat} (hi : isOwn (nameOf ow d j)) {fps fps' : List (List Nat)} {fp1 : List Nat} (hG : ∀ i, G d j (i + 1) = (fps.flatten[i]?).map fun b => (b, 0))
  (hT : Taken ow ow1) (hf : FpOk G ow ow1 fp1) (hnd : fp1.Nodup) (hsame : isOwn (nameOf ow1 d j)) (hlen : ow2.length = ow1.length) (hnm : ∀ d' j', nameOf ow2 d' j' = if d' = d ∧ j' = j then some none else nameOf ow1 d' j')
  (hp : fps'.flatten.Perm (fp1 ++ fps.flatten)) {b o : Nat} (h0 : G d j 0 = some (b, o)) :
  Taken ow ow2 ∧ FpOk G ow ow2 (b :: fps'.flatten) ∧ (b :: fps'.flatten).Nodup ∧ ∀ x, okF (FP F fp1) G ow1 x → okF (FP F (b :: fps'.flatten)) G ow2 x := by
 have hT2 : Taken ow1 ow2 := ⟨hlen, fun d' j' => by
  rw [hnm]
  split
  ·rename_i e
   rw [e.1, e.2]
   exact .inr (.inl ⟨hsame, rfl⟩)
  ·exact .inl rfl⟩
 have hf2 : ∀ x, x ∈ b :: fps.flatten ↔ TkB G ow1 ow2 x := by
  intro x
  constructor
  ·intro hx
   have : ∃ i o, G d j i = some (x, o) := by
    rw [nrow_places hG]
    rcases List.mem_cons.1 hx with rfl | hx
    ·exact .inl ⟨o, h0⟩
    ·exact .inr hx
   obtain ⟨i, o', hg⟩ := this
   exact ⟨d, j, i, o', hsame, hg, by rw [hnm]; simp⟩
  ·rintro ⟨d', j', i', o', hi', hg, hn'⟩
   rw [hnm] at hn'
   split at hn'
   ·rename_i e
    rw [e.1, e.2] at hg
    rcases (nrow_places hG).1 ⟨i', o', hg⟩ with ⟨o2, hg2⟩ | hx
    ·rw [h0] at hg2; cases hg2; simp
    ·exact List.mem_cons_of_mem _ hx
   ·rw [hn'] at hi'; exact hi'.elim
 have hmem : ∀ x, x ∈ b :: fps'.flatten ↔ x ∈ fp1 ∨ x ∈ b :: fps.flatten := by
  intro x
  simp only [List.mem_cons, hp.mem_iff, List.mem_append]
  constructor
  ·rintro (h | h | h)
   ·exact .inr (.inl h)
   ·exact .inl h
   ·exact .inr (.inr h)
  ·rintro (h | h | h)
   ·exact .inr (.inl h)
   ·exact .inl h
   ·exact .inr (.inr h)
 have hF : FpOk G ow ow2 (b :: fps'.flatten) := fun x => by
  rw [TkB.trans hT hT2, ← hf x, ← hf2 x, hmem]
 obtain ⟨n1, n2⟩ := nrow_nodup hh hi hG
 have hdis : ∀ x ∈ fp1, x ∉ b :: fps.flatten := by
  intro x hx hx2
  obtain ⟨d', j', i', o', hi', hg, hn'⟩ := (hf x).1 hx
  have : ∃ i o, G d j i = some (x, o) := by
   rw [nrow_places hG]
   rcases List.mem_cons.1 hx2 with rfl | hx
   ·exact .inl ⟨o, h0⟩
   ·exact .inr hx
  obtain ⟨i2, o2, hg2⟩ := this
  obtain ⟨rfl, rfl, _⟩ := hh.apart _ _ _ _ _ _ _ _ _ hi' hi hg hg2
  rw [hn'] at hsame
  exact hsame
 refine ⟨hT.trans hT2, hF, ?_, fun x hx => ?_⟩
 ·refine List.nodup_cons.2 ⟨fun hx => ?_, hp.nodup_iff.2 (List.nodup_append.2 ⟨hnd, n1, fun x hx y hy hxy => hdis x hx (by rw [hxy]; exact List.mem_cons_of_mem _ hy)⟩)⟩
  rcases List.mem_append.1 (hp.mem_iff.1 hx) with hx | hx
  ·exact hdis b hx (by simp)
  ·exact n2 b o h0 hx
 ·have := taken_ok hT2 hf2 hx
  refine ⟨fun hx' => this.1 ?_, this.2⟩
  rcases hx' with hx' | hx'
  ·exact .inl (.inl hx')
  ·rcases (hmem x).1 hx' with hx' | hx'
   ·exact .inl (.inr hx')
   ·exact .inr hx'
end
section
variable {F : Nat → Prop} {G : Gh} {ow ow1 : OW} {w : World}
theorem rows_take (hh : HRep F G ow w.heap) {s : Sh} {s0 : SV} {v : Value} (hs : Sv F G ow w.heap s0 v) {d j : Nat} (hk : keyOf s0 = some (d, j)) {ow0 : OW} (e0 : settleOb s (pk s) ow d j = some ow0) {x : List s.T} (e1 : takeRows s s0 ow0 = some (x, ow1))
  (ih : ∀ (svs : List SV) (vs : List Value), Svs F G ow w.heap svs vs → ∀ (x : s.T) (ow1 : OW), pk s svs ow = some (x, ow1) → ∃ fp, Taken ow ow1 ∧ FpOk G ow ow1 fp ∧ fp.Nodup ∧ ShR w.heap (okF (FP F fp) G ow1) s x vs fp) :
  ∃ fp, Taken ow ow1 ∧ FpOk G ow ow1 fp ∧ fp.Nodup ∧ ShR w.heap (okF (FP F fp) G ow1) (.rows s) x [v] fp := by
 obtain ⟨d', j', l1, hn1, hput, hk', hv'⟩ := takeRows_some e1
 rw [hk] at hk'
 cases hk'
 have main : ∃ (l : List s.T) (foc : Option (Nat × List SV)) (owA : OW) (fpA : List Nat), nameOf ow d j = some (some (.nrow s l foc)) ∧ l1.length = l.length ∧ Taken ow owA ∧ FpOk G ow owA fpA ∧ fpA.Nodup ∧ isOwn (nameOf owA d j) ∧ ow0.length = owA.length ∧
   (∀ d' j', nameOf ow0 d' j' = if d' = d ∧ j' = j then some (some (.nrow s l1 none)) else nameOf owA d' j') ∧ s.elem = true ∧
   ∃ fps : List (List Nat), (∀ i, G d j (i + 1) = (fps.flatten[i]?).map fun b => (b, 0)) ∧ (match G d j 0 with
   | none => l1 = [] ∧ fps = [] ∧ fpA = []
   | some (b, o) => ∃ r et, w.heap[b]? = some (.cells r et (0, 0)) ∧ (∀ b' ∈ fps.flatten, ∃ r et, w.heap[b']? = some (Obj.cells r et (0, 0))) ∧ (∀ b' ∈ fpA, ∃ r et, w.heap[b']? = some (Obj.cells r et (0, 0))) ∧ o + l1.length * s.w ≤ r.size ∧ ∃ fpsN : List (List Nat), l1.length ≤ fpsN.length ∧ fpsN.flatten.Perm (fpA ++ fps.flatten) ∧
    ∀ i (hi : i < l1.length) (hf : i < fpsN.length), ShR w.heap (okF (FP F fpA) G owA) s l1[i] (sub r (o + i * s.w) s.w) fpsN[i]) := by
  rcases settle_some e0 with ⟨l, hn, rfl⟩ | ⟨l, p, y, l2, foc2, hn, hy, hn2, rfl⟩
  ·rw [hn] at hn1
   cases hn1
   obtain ⟨hel, fps, hG, hob⟩ := hh.obs d j _ hn
   refine ⟨l1, none, ow0, [], hn, rfl, .refl _, .refl _ _, List.nodup_nil, by rw [hn]; trivial, rfl, fun d' j' => ?_, hel, fps, hG, ?_⟩
   ·split
    ·rename_i e; rw [e.1, e.2, hn]
    ·rfl
   ·cases hg : G d j 0 with
    | none => simp only [hg] at hob; exact ⟨hob.1, hob.2.2, rfl⟩
    | some q =>
     obtain ⟨b, o⟩ := q
     simp only [hg] at hob
     obtain ⟨r, et, hb, hsz, hlf, hj, hel, _⟩ := hob
     refine ⟨r, et, hb, hj, fun b' hb' => by simp at hb', hsz, fps, hlf, by simp, fun i hi hf => ?_⟩
     exact ShR.mono (fun b' r' hb' hr' => ⟨⟨fun hx => by rcases hx with hx | hx; exact hb'.1 hx; simp at hx, hb'.2⟩, hr'⟩) s (fun _ _ => rfl) (hel i hi hf (fun cells hc => by cases hc))
  ·obtain ⟨e, cells⟩ := p
   obtain ⟨hel, fps, hG, hob⟩ := hh.obs d j _ hn
   cases hg : G d j 0 with
   | none => simp only [hg] at hob; cases hob.2.1
   | some q =>
    obtain ⟨b, o⟩ := q
    simp only [hg] at hob
    obtain ⟨r, et, hb, hsz, hlf, hj, hele, hfoc⟩ := hob
    obtain ⟨q1, q2, q4⟩ := hfoc e cells rfl
    have hmul : e * s.w + s.w ≤ l.length * s.w := by
     have : (e + 1) * s.w ≤ l.length * s.w := Nat.mul_le_mul_right _ q1
     rw [Nat.succ_mul] at this
     exact this
    have hcs : Svs F G ow w.heap cells (sub r (o + e * s.w) s.w) := by
     refine ⟨by rw [sub_length (by omega), q2], fun c h1 h2 => ?_⟩
     have e1 : (sub r (o + e * s.w) s.w)[c] = r[o + e * s.w + c]'(by omega) := by
      have := sub_getElem (r := r) (o := o + e * s.w) (n := s.w) (i := c) (by omega)
      rw [List.getElem?_eq_getElem h2, Array.getElem?_eq_getElem (by omega)] at this
      exact Option.some.inj this
     rw [e1]
     exact q4 c h1 (by omega)
    obtain ⟨fpA, hT, hfA, hnd, hS⟩ := ih cells _ hcs y.1 y.2 hy
    have hsm : nameOf y.2 d j = nameOf ow d j := by
     rcases hT.names d j with e | ⟨_, e⟩ | hz
     ·exact e
     ·rw [hn2] at e; cases e
     ·have := hz.not.1; rw [hn2] at this; exact absurd trivial this
    rw [hn, hn2] at hsm
    cases hsm
    have hnn : nameOf y.2 d j ≠ none := by rw [hn2]; simp
    have hnm := fun d' j' => nameOf_putOb (o := some (.nrow s (l.set e y.1) none)) (d' := d') (j' := j') hnn
    have : nameOf (putOb y.2 d j (some (.nrow s (l.set e y.1) none))) d j = some (some (.nrow s (l.set e y.1) none)) := by rw [hnm]; simp
    rw [this] at hn1
    cases hn1
    refine ⟨l, some (e, cells), y.2, fpA, hn, by simp, hT, hfA, hnd, by rw [hn2]; trivial, length_putOb, hnm, hel, fps, hG, ?_⟩
    simp only [hg]
    have hef : e < fps.length := by omega
    refine ⟨r, et, hb, hj, hS.cells, by simpa using hsz, fps.set e fpA ++ [fps[e]], by simp at hlf ⊢; omega, set_perm fps fpA hef, fun i hi hf => ?_⟩
    have hi0 : i < (fps.set e fpA).length := by simp at hi ⊢; omega
    rw [List.getElem_append_left hi0]
    by_cases hie : i = e
    ·subst hie
     simp only [List.getElem_set_self]
     exact hS
    ·simp only [List.getElem_set_ne (Ne.symm hie)]
     have hi' : i < l.length := by simpa using hi
     have hf' : i < fps.length := by simpa using hi0
     exact ShR.mono (fun b' r' hb' hr' => ⟨taken_ok hT hfA hb', hr'⟩) s (fun _ _ => rfl) (hele i hi' hf' (fun cells' hc => by cases hc; exact hie rfl))
 obtain ⟨l, foc, owA, fpA, hn, hll, hT, hfA, hnd, hown, hlen0, hnm0, hel, fps, hG, hcase⟩ := main
 have hnn0 : nameOf ow0 d j ≠ none := by rw [hn1]; simp
 have hlen : ow1.length = owA.length := by rw [hput, length_putOb, hlen0]
 have hnm : ∀ d' j', nameOf ow1 d' j' = if d' = d ∧ j' = j then some none else nameOf owA d' j' := by
  intro d' j'
  rw [hput, nameOf_putOb hnn0]
  split
  ·rfl
  ·rename_i hx
   rw [hnm0, if_neg hx]
 have hval : ∃ off len, off + len ≤ l1.length ∧ x = subL l1 off len ∧ HandV w.heap G s.w d j off len v := by
  rcases hv' with ⟨ver, rfl, rfl⟩ | ⟨ver, off, len, rfl, rfl⟩
  ·cases hs with
   | wh hs =>
    simp only [HandR, hn, Option.getD_none] at hs
    exact ⟨0, x.length, by omega, by simp [subL], by rw [hll]; exact hs.2⟩
  ·cases hs with
   | os hs =>
    simp only [HandR, hn, Option.getD_some] at hs
    exact ⟨off, len, by omega, rfl, hs.2⟩
 obtain ⟨off, len, hol, rfl, a, c, rfl, hlc, hV⟩ := hval
 have hsl : (subL l1 off len).length = len := subL_len hol
 cases hg : G d j 0 with
 | none =>
  simp only [hg] at hcase
  obtain ⟨rfl, rfl, rfl⟩ := hcase
  rcases hV with ⟨_, rfl, rfl⟩ | ⟨b, o, o', r, hg', _⟩
  ·have hT2 : Taken owA ow1 := ⟨hlen, fun d' j' => by
    rw [hnm]
    split
    ·rename_i e
     rw [e.1, e.2]
     exact .inr (.inl ⟨hown, rfl⟩)
    ·exact .inl rfl⟩
   have hf2 : FpOk G owA ow1 [] := fun x => by
    constructor
    ·intro hx; simp at hx
    ·rintro ⟨d', j', i', o', hi', hg', hn'⟩
     rw [hnm] at hn'
     split at hn'
     ·rename_i e
      rw [e.1, e.2] at hg'
      cases i' with
      | zero => rw [hg] at hg'; cases hg'
      | succ i' => rw [hG] at hg'; simp at hg'
     ·rw [hn'] at hi'; exact hi'.elim
   have hl0 : len = 0 := by simpa using hlc
   subst hl0
   refine ⟨[], hT.trans hT2, fun x => by rw [TkB.trans hT hT2, ← hfA x, ← hf2 x]; simp, List.nodup_nil, _, rfl, hel, none, 0, by rw [hsl], by rw [hsl]; exact Nat.le_refl _, .inl ⟨rfl, by simp [subL], rfl, rfl⟩⟩
  ·rw [hg] at hg'; cases hg'
 | some q =>
  obtain ⟨b, o⟩ := q
  simp only [hg] at hcase
  obtain ⟨r, et, hb, hj, hjA, hsz, fpsN, hlN, hperm, hele⟩ := hcase
  have hlN' : off + len ≤ fpsN.length := by omega
  obtain ⟨t1, t2, t3, t4⟩ := rows_final (fps' := cutF fpsN off len) hh (by rw [hn]; trivial) hG hT hfA hnd hown hlen hnm ((cutF_perm fpsN off len).trans hperm) hg
  rcases hV with ⟨hg', _⟩ | ⟨b', o1, o', r', hg', ha, hr', ho', hc'⟩
  ·rw [hg] at hg'; cases hg'
  ·rw [hg] at hg'
   cases hg'
   have : r' = r := by
    have := rowCells_of hb
    rw [this] at hr'
    exact (Option.some.inj hr').symm
   subst this
   refine ⟨b :: (cutF fpsN off len).flatten, t1, t2, t3, _, rfl, hel, a, c, by rw [hsl], by rw [hsl]; exact hlc, .inr ⟨b, o', r', et, cutF fpsN off len, ha, rfl, hb, hc', by rw [hsl, cutF_len hlN']; omega, fun b' hb' => ?_, fun i hi hf => ?_⟩⟩
   ·rcases List.mem_append.1 (((cutF_perm fpsN off len).trans hperm).mem_iff.1 hb') with hb' | hb'
    ·exact hjA b' hb'
    ·exact hj b' hb'
   ·rw [hsl] at hi
    have hc0 : 0 < c := by omega
    have e1 := ho' hc0
    have hg2 : (cutF fpsN off len)[i] = fpsN[off + i]'(by omega) := by
     have := cutF_get hlN' hi
     rw [List.getElem?_eq_getElem hf, List.getElem?_eq_getElem (by omega)] at this
     exact Option.some.inj this
    rw [hg2, subL_get hol, e1, show o + off * s.w + i * s.w = o + (off + i) * s.w by rw [Nat.add_mul]; omega]
    exact ShR.mono (fun b' r' hb' hr' => ⟨t4 b' hb', hr'⟩) s (fun _ _ => rfl) (hele (off + i) (by omega) (by omega))
theorem rows_unpk {h : Array Obj} {ok : Nat → Prop} {s : Sh} {l : List s.T} {v : Value} {fp : List Nat} (e : ShR h ok (.rows s) l [v] fp) (d j : Nat) : ∃ q : Option (Nat × Nat), ∃ fl : List Nat, (q.map (·.1)).toList ++ fl = fp ∧
  ∀ (G : Gh) (ow : OW), nameOf ow d j = some (some (.nrow s l none)) → G d j 0 = q → (∀ i, G d j (i + 1) = (fl[i]?).map fun b => (b, 0)) → SvRep h ok G ow (.wh d j 0 []) v ∧ ObRep h ok G ow d j (.nrow s l none) := by
 obtain ⟨v', hv, hel, a, c, rfl, hlc, e⟩ := e
 have hv : v = .slice a l.length c := by simpa using hv
 subst hv
 rcases e with ⟨rfl, rfl, rfl, rfl⟩ | ⟨b, o, r, et, fps, rfl, rfl, hb, hs, hl, hj, he⟩
 ·refine ⟨none, [], rfl, fun G ow hn hg hG => ⟨.wh ?_, hel, [], by simpa using hG, by rw [hg]; exact ⟨rfl, rfl, rfl⟩⟩⟩
  simp only [HandR, hn, Option.getD_none]
  exact ⟨by simp, _, _, rfl, hlc, .inl ⟨hg, rfl, rfl⟩⟩
 ·refine ⟨some (b, o), fps.flatten, rfl, fun G ow hn hg hG => ⟨.wh ?_, hel, fps, hG, by rw [hg]; exact ⟨r, et, hb, Nat.le_trans (Nat.add_le_add_left (Nat.mul_le_mul_right _ hlc) _) hs, hl, hj, fun i hi hf _ => he i hi hf, fun e cells hc => by cases hc⟩⟩⟩
  simp only [HandR, hn, Option.getD_none]
  exact ⟨by omega, _, _, rfl, hlc, .inr ⟨b, o, o, r, hg, rfl, rowCells_of hb, fun _ => by simp, hs⟩⟩
end
end Go.Pev
end

section
/-
 PEV, part 15: packing and unpacking.
-/
namespace Go.Pev
section
variable {F : Nat → Prop} {G : Gh} {ow ow1 ow2 : OW} {w : World}
theorem fp_nil {b : Nat} : FP F [] b ↔ F b := by simp [FP]
theorem okF_nil {b : Nat} (h : okF F G ow b) : okF (FP F []) G ow b := ⟨fun hx => h.1 (fp_nil.1 hx), h.2⟩
theorem fp_app {f1 f2 : List Nat} {b : Nat} : FP (FP F f1) f2 b ↔ FP F (f1 ++ f2) b := by simp [FP, or_assoc]
theorem fp_cons {c : Nat} {f2 : List Nat} {b : Nat} : FP (FP F [c]) f2 b ↔ FP F (c :: f2) b := by simp [FP, or_assoc]
theorem okF_congr {F' : Nat → Prop} (hF : ∀ b, F' b → F b) {b : Nat} (h : okF F G ow b) : okF F' G ow b := ⟨fun hx => h.1 (hF b hx), h.2⟩
theorem Sv.fn_inv {f : Fn} {a b : List SV} {v : Value} (h : Sv F G ow w.heap (.fn f a b) v) : ∃ xs ys, v = .func f xs.toArray ys.toArray ∧ Svs F G ow w.heap a xs ∧ Svs F G ow w.heap b ys := by
 cases h with
 | fn h1 h2 h3 h4 => exact ⟨_, _, rfl, ⟨h1, h3⟩, ⟨h2, h4⟩⟩
theorem Svs.single {l : List SV} {v : Value} (h : Svs F G ow w.heap l [v]) : ∃ s, l = [s] ∧ Sv F G ow w.heap s v := by
 obtain ⟨hl, h⟩ := h
 match l, hl, h with
 | [s], _, h => exact ⟨s, rfl, h 0 (by simp) (by simp)⟩
theorem Svs.single' {s : SV} {vs : List Value} (h : Svs F G ow w.heap [s] vs) : ∃ v, vs = [v] ∧ Sv F G ow w.heap s v := by
 obtain ⟨v, vs', rfl, h1, h2⟩ := h.uncons
 have : vs' = [] := List.eq_nil_of_length_eq_zero h2.1.symm
 subst this
 exact ⟨v, rfl, h1⟩
theorem takeRow_some {k : Kd} {s : SV} {l : List k.T} (e : takeRow k s ow = some (l, ow1)) :
  ∃ d j r, keyOf s = some (d, j) ∧ rowOf ow s = some r ∧ isRow ow d j = true ∧ r = ⟨k, l⟩ ∧ ow1 = putOb ow d j none := by
 unfold takeRow at e
 split at e
 ·rename_i d j r hk hr
  split at e
  ·rename_i hi
   split at e
   ·rename_i he
    obtain ⟨rk, rl⟩ := r
    dsimp only at he e
    subst he
    simp only [Option.some.injEq, Prod.mk.injEq] at e
    obtain ⟨e1, rfl⟩ := e
    have e1 : rl = l := e1
    subst e1
    exact ⟨d, j, _, hk, hr, hi, rfl, rfl⟩
   ·cases e
  ·cases e
 ·cases e
theorem takeRow_sound (hh : HRep F G ow w.heap) {k : Kd} {s : SV} {v : Value} (hs : Sv F G ow w.heap s v) {l : List k.T} (e : takeRow k s ow = some (l, ow1)) :
  ∃ fp, Taken ow ow1 ∧ FpOk G ow ow1 fp ∧ fp.Nodup ∧ RowR w.heap (okF (FP F fp) G ow1) k l v fp := by
 obtain ⟨d, j, r, hk, hr, hi, rfl, rfl⟩ := takeRow_some e
 obtain ⟨hgood, ⟨ver, l0, hn⟩, a, c, rfl, hlc, hcase⟩ := rowOwn_sound hh hs hk hr hi
 have hnn : nameOf ow d j ≠ none := by rw [hn]; simp
 have hT := taken_put (ow := ow) (d := d) (j := j) (by rw [hn]; trivial)
 have hput := fun d' j' => nameOf_putOb (o := none) (d' := d') (j' := j') hnn
 have h1n := (hh.obs d j _ hn).1
 rcases hcase with ⟨h0, h1, h2, h3⟩ | ⟨b, o, o', rw_, et, hG, ha, hb, hel, hcap⟩
 ·refine ⟨[], hT, fun b => ?_, List.nodup_nil, hgood, a, c, rfl, hlc, .inl ⟨h1, h2, h3, rfl⟩⟩
  constructor
  ·intro h; simp at h
  ·rintro ⟨d', j', i', o', hi, hg, hn'⟩
   rw [hput] at hn'
   split at hn'
   ·rename_i e
    rw [e.1, e.2] at hg
    cases i' with
    | zero => rw [h0] at hg; cases hg
    | succ i' => rw [h1n] at hg; cases hg
   ·rw [hn'] at hi; exact hi.elim
 ·have hf : FpOk G ow (putOb ow d j none) [b] := by
   intro b'
   constructor
   ·intro hb'
    have : b' = b := by simpa using hb'
    subst this
    exact ⟨d, j, 0, o', by rw [hn]; trivial, hG, by rw [hput]; simp⟩
   ·rintro ⟨d', j', i', o2, hi, hg, hn'⟩
    rw [hput] at hn'
    split at hn'
    ·rename_i e
     rw [e.1, e.2] at hg
     cases i' with
     | zero => rw [hG] at hg; cases hg; simp
     | succ i' => rw [h1n] at hg; cases hg
    ·rw [hn'] at hi; exact hi.elim
  refine ⟨[b], hT, hf, by simp, hgood, a, c, rfl, hlc, .inr ⟨b, o, rw_, et, ha, rfl, hb, hel.mono fun x cs hx => Rep.mono (fun b r hb hr => ⟨taken_ok hT hf hb, hr⟩) _ hx, hcap⟩⟩
theorem pk_sound : (s : Sh) → {F : Nat → Prop} → {ow ow1 : OW} → (∀ b, F b → b < w.heap.size) → HRep F G ow w.heap → {svs : List SV} → {vs : List Value} → Svs F G ow w.heap svs vs → {x : s.T} → pk s svs ow = some (x, ow1) →
  ∃ fp, Taken ow ow1 ∧ FpOk G ow ow1 fp ∧ fp.Nodup ∧ ShR w.heap (okF (FP F fp) G ow1) s x vs fp
 | .pur kd, F, ow, ow1, hF, hh, svs, vs, hs, x, e => by
  match svs, hs, e with
  | [], _, e => simp [pk] at e
  | [s], hs, e =>
   simp only [pk] at e
   obtain ⟨v, rfl, hv⟩ := hs.single'
   exact ⟨[], (toPay_taken e).taken, (toPay_taken e).fpOk, List.nodup_nil, v, rfl, rfl, (toPay_pay hh hF hv e).mono fun b r hb hr => ⟨okF_nil hb, hr⟩⟩
  | _ :: _ :: _, _, e => simp [pk] at e
 | .own k, F, ow, ow1, hF, hh, svs, vs, hs, x, e => by
  match svs, hs, e with
  | [], _, e => simp [pk] at e
  | [s], hs, e =>
   simp only [pk] at e
   obtain ⟨v, rfl, hv⟩ := hs.single'
   split at e
   ·split at e
    ·rename_i hk
     simp only [Option.some.injEq, Prod.mk.injEq] at e
     obtain ⟨rfl, rfl⟩ := e
     cases hv
     exact ⟨[], .refl _, .refl _ _, List.nodup_nil, _, rfl, hk, none, 0, rfl, Nat.le_refl _, .inl ⟨rfl, rfl, rfl, rfl⟩⟩
    ·cases e
   ·obtain ⟨fp, h1, h2, h3, h4⟩ := takeRow_sound hh hv e
    exact ⟨fp, h1, h2, h3, v, rfl, h4⟩
  | _ :: _ :: _, _, e => simp [pk] at e
 | .row k, F, ow, ow1, hF, hh, svs, vs, hs, x, e => by
  match svs, hs, e with
  | [], _, e => simp [pk] at e
  | [s], hs, e =>
   simp only [pk] at e
   obtain ⟨v, rfl, hv⟩ := hs.single'
   split at e
   ·obtain ⟨fp, h1, h2, h3, h4⟩ := takeRow_sound hh hv e
    exact ⟨fp, h1, h2, h3, v, rfl, h4⟩
   ·cases e
  | _ :: _ :: _, _, e => simp [pk] at e
 | .rows s, F, ow, ow1, hF, hh, svs, vs, hs, x, e => by
  match svs, hs, e with
  | [], _, e => simp [pk] at e
  | [s0], hs, e =>
   simp only [pk] at e
   obtain ⟨v, rfl, hv⟩ := hs.single'
   split at e
   ·split at e
    ·rename_i hk
     simp only [Option.some.injEq, Prod.mk.injEq] at e
     obtain ⟨rfl, rfl⟩ := e
     cases hv
     exact ⟨[], .refl _, .refl _ _, List.nodup_nil, _, rfl, hk, none, 0, rfl, Nat.le_refl _, .inl ⟨rfl, rfl, rfl, rfl⟩⟩
    ·cases e
   ·split at e
    ·rename_i d j hk
     split at e
     ·rename_i ow0 h0
      exact rows_take hh hv hk h0 e fun svs vs hs x ow1 e => pk_sound s hF hh hs e
     ·cases e
    ·cases e
  | _ :: _ :: _, _, e => simp [pk] at e
 | .nrw s, F, ow, ow1, hF, hh, svs, vs, hs, x, e => by
  match svs, hs, e with
  | [], _, e => simp [pk] at e
  | [s0], hs, e =>
   simp only [pk] at e
   obtain ⟨v, rfl, hv⟩ := hs.single'
   split at e
   ·rename_i d j ver path
    split at e
    ·rename_i ow0 h0
     exact rows_take hh hv (d := d) (j := j) rfl h0 e fun svs vs hs x ow1 e => pk_sound s hF hh hs e
    ·cases e
   ·cases e
  | _ :: _ :: _, _, e => simp [pk] at e
 | .box l, F, ow, ow1, hF, hh, svs, vs, hs, x, e => by
  match svs, hs, e with
  | [], _, e => simp [pk] at e
  | [s], hs, e =>
   obtain ⟨v, rfl, hv⟩ := hs.single'
   cases s with
   | bp d j c =>
    simp only [pk] at e
    split at e
    ·rename_i cells hg
     split at e
     ·rename_i hle
      have hn := nameOf_of_getOb hg
      have hnn : nameOf ow d j ≠ none := by rw [hn]; simp
      obtain ⟨h1n, b, o, r, et, hG, hb, hsz, hc⟩ := hh.obs d j _ hn
      cases hv with
      | bp hv =>
      simp only [hn] at hv
      obtain ⟨b', o', hG', rfl⟩ := hv
      rw [hG] at hG'; cases hG'
      obtain ⟨rfl, hle⟩ := hle
      have hT := taken_put (ow := ow) (d := d) (j := j) (by rw [hn]; trivial)
      have hput := fun d' j' => nameOf_putOb (o := none) (d' := d') (j' := j') hnn
      have hf : FpOk G ow (putOb ow d j none) [b] := by
       intro b'
       constructor
       ·intro hb'
        have : b' = b := by simpa using hb'
        subst this
        exact ⟨d, j, 0, o, by rw [hn]; trivial, hG, by rw [hput]; simp⟩
       ·rintro ⟨d', j', i', o2, hi, hg, hn'⟩
        rw [hput] at hn'
        split at hn'
        ·rename_i e
         rw [e.1, e.2] at hg
         cases i' with
         | zero => rw [hG] at hg; cases hg; simp
         | succ i' => rw [h1n] at hg; cases hg
        ·rw [hn'] at hi; exact hi.elim
      obtain ⟨hh1, hsv1⟩ := taken_state hh hT hf
      have hlt : b < w.heap.size := (Array.getElem?_eq_some_iff.1 hb).1
      have hF1 : ∀ b', FP F [b] b' → b' < w.heap.size := by
       intro b' hb'
       rcases hb' with hb' | hb'
       ·exact hF b' hb'
       ·have : b' = b := by simpa using hb'
        subst this; exact hlt
      have hcells : Svs (FP F [b]) G (putOb ow d j none) w.heap cells (sub r o l.len) := by
       refine ⟨by rw [sub_length (by omega)]; omega, fun i h1 h2 => ?_⟩
       have e1 : (sub r o l.len)[i] = r[o + i]'(by omega) := by
        have := sub_getElem (r := r) (o := o) (n := l.len) (i := i) (by omega)
        rw [List.getElem?_eq_getElem h2, Array.getElem?_eq_getElem (by omega)] at this
        exact Option.some.inj this
       rw [e1]
       exact hsv1 _ _ (hc i (by omega) (by omega))
      obtain ⟨fp', h1, h2, h3, h4⟩ := pk_sound l hF1 hh1 hcells e
      have hbn : b ∉ fp' := fun hx => (hf.notOwn hh hT (by simp : b ∈ [b])) (h2.own hx)
      refine ⟨b :: fp', hT.trans h1, fun x => ?_, List.nodup_cons.2 ⟨hbn, h3⟩, b, o, r, et, fp', rfl, rfl, hb, by omega, ?_⟩
      ·rw [TkB.trans hT h1, ← hf x, ← h2 x]
       simp
      ·exact ShR.mono (fun b' r' hb' hr' => ⟨okF_congr (fun b'' hx => fp_cons.2 hx) hb', hr'⟩) l (fun _ _ => rfl) h4
     ·cases e
    ·cases e
   | _ => simp [pk] at e
  | _ :: _ :: _, _, e => simp [pk] at e
 | .agg l, F, ow, ow1, hF, hh, svs, vs, hs, x, e => by
  match svs, hs, e with
  | [], _, e => simp [pk] at e
  | [s], hs, e =>
   obtain ⟨v, rfl, hv⟩ := hs.single'
   cases s with
   | agg cs =>
    simp only [pk] at e
    obtain ⟨us, rfl, hus⟩ := hv.agg_inv
    obtain ⟨fp, h1, h2, h3, h4⟩ := pk_sound l hF hh hus e
    exact ⟨fp, h1, h2, h3, us, rfl, h4⟩
   | _ => simp [pk] at e
  | _ :: _ :: _, _, e => simp [pk] at e
 | .fn f n l, F, ow, ow1, hF, hh, svs, vs, hs, x, e => by
  match svs, hs, e with
  | [], _, e => simp [pk] at e
  | [s], hs, e =>
   obtain ⟨v, rfl, hv⟩ := hs.single'
   cases s with
   | fn g a b =>
    simp only [pk] at e
    split at e
    ·rename_i hc
     obtain ⟨rfl, hn⟩ := hc
     obtain ⟨xs, ys, rfl, hx, hy⟩ := hv.fn_inv
     obtain ⟨fp, h1, h2, h3, h4⟩ := pk_sound l hF hh (hx.append hy) e
     exact ⟨fp, h1, h2, h3, xs, ys, rfl, by rw [← hx.1, hn], h4⟩
    ·cases e
   | _ => simp [pk] at e
  | _ :: _ :: _, _, e => simp [pk] at e
 | .ign, F, ow, ow1, hF, hh, svs, vs, hs, x, e => by
  match svs, hs, e with
  | [], _, e => simp [pk] at e
  | [s], hs, e =>
   simp only [pk, Option.some.injEq, Prod.mk.injEq] at e
   obtain ⟨v, rfl, hv⟩ := hs.single'
   rw [← e.2]
   exact ⟨[], .refl _, .refl _ _, List.nodup_nil, v, rfl, rfl⟩
  | _ :: _ :: _, _, e => simp [pk] at e
 | .nl, F, ow, ow1, hF, hh, svs, vs, hs, x, e => by
  match svs, hs, e with
  | [], _, e => simp [pk] at e
  | [s], hs, e =>
   obtain ⟨v, rfl, hv⟩ := hs.single'
   cases s with
   | nils =>
    simp only [pk, Option.some.injEq, Prod.mk.injEq] at e
    cases hv
    rw [← e.2]
    exact ⟨[], .refl _, .refl _ _, List.nodup_nil, rfl, rfl⟩
   | _ => simp [pk] at e
  | _ :: _ :: _, _, e => simp [pk] at e
 | .nil, F, ow, ow1, hF, hh, svs, vs, hs, x, e => by
  match svs, hs, e with
  | [], hs, e =>
   simp only [pk, Option.some.injEq, Prod.mk.injEq] at e
   have : vs = [] := List.eq_nil_of_length_eq_zero hs.1.symm
   subst this
   rw [← e.2]
   exact ⟨[], .refl _, .refl _ _, List.nodup_nil, rfl, rfl⟩
  | _ :: _, _, e => simp [pk] at e
 | .cons a b, F, ow, ow1, hF, hh, svs, vs, hs, x, e => by
  match svs, hs, e with
  | [], _, e => simp [pk] at e
  | s :: r, hs, e =>
   simp only [pk] at e
   split at e
   ·rename_i y hy
    split at e
    ·rename_i z hz
     cases e
     obtain ⟨v, vs', rfl, hv, hvs⟩ := hs.uncons
     obtain ⟨f1, t1, o1, n1, r1⟩ := pk_sound a (x := y.1) (ow1 := y.2) hF hh (.cons hv .nil) hy
     obtain ⟨hh1, hsv1⟩ := taken_state hh t1 o1
     have hF1 : ∀ b', FP F f1 b' → b' < w.heap.size := by
      intro b' hb'
      rcases hb' with hb' | hb'
      ·exact hF b' hb'
      ·exact Own.lt hh (o1.own hb')
     obtain ⟨f2, t2, o2, n2, r2⟩ := pk_sound b (x := z.1) (ow1 := z.2) hF1 hh1 ⟨hvs.1, fun i h1 h2 => hsv1 _ _ (hvs.2 i h1 h2)⟩ hz
     refine ⟨f1 ++ f2, t1.trans t2, fun x => ?_, List.nodup_append.2 ⟨n1, n2, fun x hx y hy hxy => ?_⟩, v, vs', f1, f2, rfl, rfl, ?_, ?_⟩
     ·rw [TkB.trans t1 t2, ← o1 x, ← o2 x, List.mem_append]
     ·subst hxy
      exact o1.notOwn hh t1 hx (o2.own hy)
     ·exact ShR.mono (fun b' r' hb' hr' => ⟨okF_congr (fun b'' hx => fp_app.2 hx) (taken_ok t2 o2 hb'), hr'⟩) a (fun _ _ => rfl) r1
     ·exact ShR.mono (fun b' r' hb' hr' => ⟨okF_congr (fun b'' hx => fp_app.2 hx) hb', hr'⟩) b (fun _ _ => rfl) r2
    ·cases e
   ·cases e
def SvsR (h : Array Obj) (ok : Nat → Prop) (G : Gh) (ow : OW) (l : List SV) (vs : List Value) : Prop :=
 l.length = vs.length ∧ ∀ i (h1 : i < l.length) (h2 : i < vs.length), SvRep h ok G ow l[i] vs[i]
section
variable {h : Array Obj} {ok : Nat → Prop}
theorem SvsR.nil : SvsR h ok G ow [] [] := ⟨rfl, fun i h => by simp at h⟩
theorem SvsR.cons {s : SV} {l : List SV} {v : Value} {vs : List Value} (h1 : SvRep h ok G ow s v) (hs : SvsR h ok G ow l vs) : SvsR h ok G ow (s :: l) (v :: vs) :=
 ⟨by simp [hs.1], fun i h1' h2 => by
  cases i with
  | zero => exact h1
  | succ i => exact hs.2 i (by simpa using h1') (by simpa using h2)⟩
theorem SvsR.append {l l' : List SV} {vs vs' : List Value} (hs : SvsR h ok G ow l vs) (hs' : SvsR h ok G ow l' vs') : SvsR h ok G ow (l ++ l') (vs ++ vs') := by
 refine ⟨by simp [hs.1, hs'.1], fun i h1 h2 => ?_⟩
 rcases Nat.lt_or_ge i l.length with h | h
 ·rw [List.getElem_append_left h, List.getElem_append_left (hs.1 ▸ h)]
  exact hs.2 _ _ _
 ·rw [List.getElem_append_right h, List.getElem_append_right (hs.1 ▸ h)]
  simp only [hs.1]
  exact hs'.2 _ _ _
theorem SvsR.take {l : List SV} {vs : List Value} (hs : SvsR h ok G ow l vs) (n : Nat) : SvsR h ok G ow (l.take n) (vs.take n) :=
 ⟨by simp [hs.1], fun i h1 h2 => by simp only [List.getElem_take]; exact hs.2 _ _ _⟩
theorem SvsR.drop {l : List SV} {vs : List Value} (hs : SvsR h ok G ow l vs) (n : Nat) : SvsR h ok G ow (l.drop n) (vs.drop n) :=
 ⟨by simp [hs.1], fun i h1 h2 => by simp only [List.getElem_drop]; exact hs.2 _ _ _⟩
theorem svsR_cellsS : (k : Kd) → {x : k.T} → {cs : List Value} → (k.leafy = true) → Rep h ok k x cs → SvsR h ok G ow (cellsS k x) cs
 | .nil, _, _, _, e => by cases e; exact .nil
 | .cons a b, x, cs, hk, e => by
  simp only [Kd.leafy, Bool.and_eq_true, Bool.not_eq_true'] at hk
  obtain ⟨v, r, rfl, e1, e2⟩ := rep_leaf hk.1 e
  exact .cons (.v hk.1 e1) (svsR_cellsS b hk.2 e2)
 | .int _, _, _, hk, _ => by cases hk
 | .bool, _, _, hk, _ => by cases hk
 | .str, _, _, hk, _ => by cases hk
 | .err, _, _, hk, _ => by cases hk
 | .any, _, _, hk, _ => by cases hk
 | .sl _ _, _, _, hk, _ => by cases hk
 | .tree _, _, _, hk, _ => by cases hk
theorem valS_rep {k : Kd} {x : k.T} {v : Value} (e : PayR h ok k x v) : SvRep h ok G ow (valS k x) v := by
 obtain ⟨hr, h1, h2⟩ := e
 unfold valS
 split
 ·rename_i hk
  obtain ⟨⟨cs, rfl⟩, hl⟩ := h1 hk
  have := svsR_cellsS (G := G) (ow := ow) k hl hr
  have := SvRep.agg this.1 this.2
  simpa [Value.cells] using this
 ·rename_i hk
  have hk : k.isSt = false := by simpa using hk
  have := cells_of_one (h2 hk)
  rw [this] at hr
  exact .v hk hr
abbrev Pl := Option (Nat × Nat) × List Nat
def Pl.pos (p : Pl) : Nat → Option (Nat × Nat)
 | 0 => p.1
 | i + 1 => (p.2[i]?).map fun b => (b, 0)
def Pl.fp (p : Pl) : List Nat := (p.1.map (·.1)).toList ++ p.2
theorem Pl.mem {p : Pl} {b : Nat} : b ∈ p.fp ↔ ∃ i o, p.pos i = some (b, o) := by
 obtain ⟨q, l⟩ := p
 simp only [Pl.fp, List.mem_append, Option.mem_toList, Option.map_eq_some_iff]
 constructor
 ·rintro (⟨⟨b', o⟩, rfl, rfl⟩ | h)
  ·exact ⟨0, o, rfl⟩
  ·obtain ⟨i, hi, rfl⟩ := List.mem_iff_getElem.1 h
   exact ⟨i + 1, 0, by simp [Pl.pos, hi]⟩
 ·rintro ⟨i, o, h⟩
  cases i with
  | zero => exact .inl ⟨(b, o), h, rfl⟩
  | succ i =>
   simp only [Pl.pos, Option.map_eq_some_iff, Prod.mk.injEq] at h
   obtain ⟨b', h, rfl, _⟩ := h
   exact .inr (List.mem_of_getElem? h)
theorem Pl.inj {p : Pl} (hn : p.fp.Nodup) {i j b o o' : Nat} (h1 : p.pos i = some (b, o)) (h2 : p.pos j = some (b, o')) : i = j := by
 obtain ⟨q, l⟩ := p
 simp only [Pl.fp, List.nodup_append] at hn
 obtain ⟨_, hl, hd⟩ := hn
 have one : ∀ {k o}, (Pl.pos (q, l) (k + 1)) = some (b, o) → ∃ hk : k < l.length, l[k] = b := by
  intro k o h
  simp only [Pl.pos, Option.map_eq_some_iff, Prod.mk.injEq] at h
  obtain ⟨b', h, rfl, _⟩ := h
  exact List.getElem?_eq_some_iff.1 h
 have zer : ∀ {o}, (Pl.pos (q, l) 0) = some (b, o) → b ∈ (q.map (·.1)).toList := by
  intro o h
  have h : q = some (b, o) := h
  subst h
  simp
 cases i with
 | zero =>
  cases j with
  | zero => rfl
  | succ j =>
   obtain ⟨hj, e⟩ := one h2
   exact absurd rfl (hd b (zer h1) b (by rw [← e]; exact List.getElem_mem hj))
 | succ i =>
  obtain ⟨hi, e1⟩ := one h1
  cases j with
  | zero => exact absurd rfl (hd b (zer h2) b (by rw [← e1]; exact List.getElem_mem hi))
  | succ j =>
   obtain ⟨hj, e2⟩ := one h2
   rw [(List.getElem_inj hl).1 (e1.trans e2.symm)]
theorem flat_inj : (l : List Pl) → (l.flatMap Pl.fp).Nodup → ∀ i j (hi : i < l.length) (hj : j < l.length) (b : Nat), b ∈ l[i].fp → b ∈ l[j].fp → i = j ∧ l[i].fp.Nodup
 | [], _, i, _, hi, _, _, _, _ => by simp at hi
 | p :: l, hn, i, j, hi, hj, b, h1, h2 => by
  rw [List.flatMap_cons, List.nodup_append] at hn
  obtain ⟨hp, hl, hd⟩ := hn
  have mem : ∀ q (hq : q < l.length), b ∈ l[q].fp → b ∈ l.flatMap Pl.fp := fun q hq h => List.mem_flatMap.2 ⟨l[q], List.getElem_mem hq, h⟩
  cases i with
  | zero =>
   cases j with
   | zero => exact ⟨rfl, hp⟩
   | succ j => exact absurd rfl (hd b h1 b (mem j (by simpa using hj) h2))
  | succ i =>
   cases j with
   | zero => exact absurd rfl (hd b h2 b (mem i (by simpa using hi) h1))
   | succ j =>
    obtain ⟨e, h⟩ := flat_inj l hl i j (by simpa using hi) (by simpa using hj) b h1 h2
    exact ⟨by rw [e], h⟩
def Named (G : Gh) (ow : OW) (d j : Nat) (obs : List OB) (ps : List Pl) : Prop :=
 ∀ i o, obs[i]? = some o → nameOf ow d (j + i) = some (some o) ∧ ∃ p, ps[i]? = some p ∧ G d (j + i) = p.pos
theorem Named.left {d j : Nat} {o1 o2 : List OB} {p1 p2 : List Pl} (hl : p1.length = o1.length) (hn : Named G ow d j (o1 ++ o2) (p1 ++ p2)) : Named G ow d j o1 p1 := by
 intro i o hi
 have hlt : i < o1.length := (List.getElem?_eq_some_iff.1 hi).1
 have := hn i o (by rw [List.getElem?_append_left hlt]; exact hi)
 rw [List.getElem?_append_left (by omega)] at this
 exact this
theorem Named.right {d j : Nat} {o1 o2 : List OB} {p1 p2 : List Pl} (hl : p1.length = o1.length) (hn : Named G ow d j (o1 ++ o2) (p1 ++ p2)) : Named G ow d (j + o1.length) o2 p2 := by
 intro i o hi
 have := hn (o1.length + i) o (by rw [List.getElem?_append_right (by omega)]; simpa using hi)
 rw [List.getElem?_append_right (by omega), show o1.length + i - p1.length = i by omega, ← Nat.add_assoc] at this
 exact this
theorem rowR_unpk {k : Kd} {l : List k.T} {v : Value} {fp : List Nat} (e : RowR h ok k l v fp) (d j : Nat) : ∃ p : Pl, p.fp = fp ∧
  ∀ (G : Gh) (ow : OW), nameOf ow d j = some (some (.row k 0 l)) → G d j = p.pos → SvRep h ok G ow (.wh d j 0 []) v ∧ ObRep h ok G ow d j (.row k 0 l) := by
 obtain ⟨hk, a, c, rfl, hlc, e⟩ := e
 rcases e with ⟨rfl, rfl, rfl, rfl⟩ | ⟨b, o, r, et, rfl, rfl, hb, hel, hs⟩
 ·refine ⟨(none, []), rfl, fun G ow hn hg => ⟨.wh ?_, by rw [hg]; exact fun i => rfl, hk, by rw [hg]; rfl⟩⟩
  simp only [HandR, hn, Option.getD_none]
  exact ⟨by simp, _, _, rfl, hlc, .inl ⟨by rw [hg]; rfl, rfl, rfl⟩⟩
 ·refine ⟨(some (b, o), []), rfl, fun G ow hn hg => ⟨.wh ?_, by rw [hg]; exact fun i => rfl, hk, by rw [hg]; exact ⟨r, et, hb, hel⟩⟩⟩
  simp only [HandR, hn, Option.getD_none]
  exact ⟨by omega, _, _, rfl, hlc, .inr ⟨b, o, o, r, by rw [hg]; rfl, rfl, rowCells_of hb, fun _ => by simp, hs⟩⟩
theorem unpk_rep : (s : Sh) → {x : s.T} → {vs : List Value} → {fp : List Nat} → ShR h ok s x vs fp → (d j : Nat) → ∃ ps : List Pl, ps.length = (unpk d s x j).2.length ∧ ps.flatMap Pl.fp = fp ∧
  ∀ (G : Gh) (ow : OW), Named G ow d j (unpk d s x j).2 ps → SvsR h ok G ow (unpk d s x j).1 vs ∧ ∀ i o, (unpk d s x j).2[i]? = some o → ObRep h ok G ow d (j + i) o ∧ isOwn (some (some o))
 | .pur kd, x, vs, fp, e, d, j => by
  obtain ⟨v, rfl, rfl, e⟩ := e
  exact ⟨[], rfl, rfl, fun G ow _ => ⟨.cons (valS_rep e) .nil, fun i o hi => by simp [unpk] at hi⟩⟩
 | .own k, x, vs, fp, e, d, j => by
  obtain ⟨v, rfl, e⟩ := e
  obtain ⟨p, hp, hr⟩ := rowR_unpk e d j
  refine ⟨[p], rfl, by simpa using hp, fun G ow hn => ?_⟩
  obtain ⟨h1, p', hp', h2⟩ := hn 0 _ (by simp [unpk]; rfl)
  obtain rfl : p = p' := by simpa using hp'
  obtain ⟨r1, r2⟩ := hr G ow h1 h2
  refine ⟨.cons r1 .nil, fun i o hi => ?_⟩
  cases i with
  | zero => simp [unpk] at hi; subst hi; exact ⟨r2, trivial⟩
  | succ i => simp [unpk] at hi
 | .row k, x, vs, fp, e, d, j => by
  obtain ⟨v, rfl, e⟩ := e
  obtain ⟨p, hp, hr⟩ := rowR_unpk e d j
  refine ⟨[p], rfl, by simpa using hp, fun G ow hn => ?_⟩
  obtain ⟨h1, p', hp', h2⟩ := hn 0 _ (by simp [unpk]; rfl)
  obtain rfl : p = p' := by simpa using hp'
  obtain ⟨r1, r2⟩ := hr G ow h1 h2
  refine ⟨.cons r1 .nil, fun i o hi => ?_⟩
  cases i with
  | zero => simp [unpk] at hi; subst hi; exact ⟨r2, trivial⟩
  | succ i => simp [unpk] at hi
 | .rows s, x, vs, fp, e, d, j | .nrw s, x, vs, fp, e, d, j => by
  obtain ⟨v, rfl, e⟩ := e
  obtain ⟨q, fl, hp, hr⟩ := rows_unpk (s := s) (v := v) ⟨v, rfl, e⟩ d j
  refine ⟨[(q, fl)], rfl, by simpa [Pl.fp] using hp, fun G ow hn => ?_⟩
  obtain ⟨h1, p', hp', h2⟩ := hn 0 _ (by simp [unpk]; rfl)
  obtain rfl : (q, fl) = p' := by simpa using hp'
  have h2 : G d j = Pl.pos (q, fl) := h2
  obtain ⟨r1, r2⟩ := hr G ow h1 (by rw [h2]; rfl) (fun i => by rw [h2]; rfl)
  refine ⟨.cons r1 .nil, fun i o hi => ?_⟩
  cases i with
  | zero => simp [unpk] at hi; subst hi; exact ⟨r2, trivial⟩
  | succ i => simp [unpk] at hi
 | .box l, x, vs, fp, e, d, j => by
  obtain ⟨b, o, r, et, fp', rfl, rfl, hb, hs, e⟩ := e
  obtain ⟨ps, hl, hf, hr⟩ := unpk_rep l e d (j + 1)
  refine ⟨(some (b, o), []) :: ps, by simp [unpk, hl], by simp [hf, Pl.fp], fun G ow hn => ?_⟩
  obtain ⟨h1, p', hp', h2⟩ := hn 0 _ (by simp [unpk]; rfl)
  obtain rfl : (some (b, o), []) = p' := by simpa using hp'
  have hn' : Named G ow d (j + 1) (unpk d l x (j + 1)).2 ps := by
   intro i o' hi
   have := hn (i + 1) o' (by simpa [unpk] using hi)
   rw [List.getElem?_cons_succ, show j + (i + 1) = j + 1 + i by omega] at this
   exact this
  obtain ⟨r1, r2⟩ := hr G ow hn'
  have h2' : G d j 0 = some (b, o) := by rw [show G d j = _ from h2]; rfl
  have h2n : ∀ i, G d j (i + 1) = none := by rw [show G d j = _ from h2]; exact fun i => rfl
  refine ⟨.cons (.bp (by rw [show nameOf ow d j = _ from h1]; exact ⟨b, o, h2', rfl⟩)) .nil, fun i o' hi => ?_⟩
  cases i with
  | zero =>
   simp [unpk] at hi
   subst hi
   have hlen : (unpk d l x (j + 1)).1.length = l.len := by rw [r1.1, sub_length hs]
   refine ⟨⟨h2n, b, o, r, et, h2', hb, by omega, fun i hi hr' => ?_⟩, trivial⟩
   have hi2 : i < (sub r o l.len).length := by rw [sub_length hs]; omega
   have e1 : (sub r o l.len)[i] = r[o + i] := by
    have := sub_getElem (r := r) (o := o) (n := l.len) (i := i) (by omega)
    rw [List.getElem?_eq_getElem hi2, Array.getElem?_eq_getElem (by omega)] at this
    exact Option.some.inj this
   rw [← e1]
   exact r1.2 i hi hi2
  | succ i =>
   have := r2 i o' (by simpa [unpk] using hi)
   rw [show j + (i + 1) = j + 1 + i by omega]
   exact this
 | .agg l, x, vs, fp, e, d, j => by
  obtain ⟨cs, rfl, e⟩ := e
  obtain ⟨ps, hl, hf, hr⟩ := unpk_rep l e d j
  refine ⟨ps, hl, hf, fun G ow hn => ?_⟩
  obtain ⟨r1, r2⟩ := hr G ow hn
  exact ⟨.cons (.agg r1.1 r1.2) .nil, r2⟩
 | .fn f n l, x, vs, fp, e, d, j => by
  obtain ⟨xs, ys, rfl, hn', e⟩ := e
  obtain ⟨ps, hl, hf, hr⟩ := unpk_rep l e d j
  refine ⟨ps, hl, hf, fun G ow hn => ?_⟩
  obtain ⟨r1, r2⟩ := hr G ow hn
  have h1 := r1.take n
  have h2 := r1.drop n
  rw [List.take_left' hn'] at h1
  rw [List.drop_left' hn'] at h2
  exact ⟨.cons (.fn h1.1 h2.1 h1.2 h2.2) .nil, r2⟩
 | .ign, x, vs, fp, e, d, j => by
  obtain ⟨v, rfl, rfl⟩ := e
  exact ⟨[], rfl, rfl, fun G ow _ => ⟨.cons (.dead v) .nil, fun i o hi => by simp [unpk] at hi⟩⟩
 | .nl, x, vs, fp, e, d, j => by
  obtain ⟨rfl, rfl⟩ := e
  exact ⟨[], rfl, rfl, fun G ow _ => ⟨.cons .nils .nil, fun i o hi => by simp [unpk] at hi⟩⟩
 | .nil, x, vs, fp, e, d, j => by
  obtain ⟨rfl, rfl⟩ := e
  exact ⟨[], rfl, rfl, fun G ow _ => ⟨.nil, fun i o hi => by simp [unpk] at hi⟩⟩
 | .cons a b, x, vs, fp, e, d, j => by
  obtain ⟨v, r, f1, f2, rfl, rfl, e1, e2⟩ := e
  obtain ⟨p1, l1, g1, r1⟩ := unpk_rep a e1 d j
  obtain ⟨p2, l2, g2, r2⟩ := unpk_rep b e2 d (j + (unpk d a x.1 j).2.length)
  refine ⟨p1 ++ p2, by simp [unpk, l1, l2], by simp [g1, g2], fun G ow hn => ?_⟩
  have hn : Named G ow d j ((unpk d a x.1 j).2 ++ (unpk d b x.2 (j + (unpk d a x.1 j).2.length)).2) (p1 ++ p2) := hn
  obtain ⟨s1, o1⟩ := r1 G ow (hn.left l1)
  obtain ⟨s2, o2⟩ := r2 G ow (hn.right l1)
  refine ⟨s1.append s2, fun i o hi => ?_⟩
  have hi : ((unpk d a x.1 j).2 ++ (unpk d b x.2 (j + (unpk d a x.1 j).2.length)).2)[i]? = some o := hi
  by_cases hlt : i < (unpk d a x.1 j).2.length
  ·rw [List.getElem?_append_left hlt] at hi
   exact o1 i o hi
  ·rw [List.getElem?_append_right (by omega)] at hi
   have := o2 _ o hi
   rw [Nat.add_assoc, show (unpk d a x.1 j).2.length + (i - (unpk d a x.1 j).2.length) = i by omega] at this
   exact this
end
theorem state_new {fp : List Nat} (hh : HRep (FP F fp) G ow w.heap) {s : Sh} {x : s.T} {vs : List Value} (e : ShR w.heap (okF (FP F fp) G ow) s x vs fp) (hnd : fp.Nodup) (hFd : ∀ b ∈ fp, ¬ F b) {d : Nat} (hn : newObs ow d (unpk d s x 0).2 = some ow2) :
  ∃ G2, HRep F G2 ow2 w.heap ∧ Svs F G2 ow2 w.heap (unpk d s x 0).1 vs ∧ (∀ s v, Sv (FP F fp) G ow w.heap s v → Sv F G2 ow2 w.heap s v) ∧ (∀ b, Own G2 ow2 b ↔ Own G ow b ∨ b ∈ fp) ∧ (∀ d' j, d' ≠ d → G2 d' j = G d' j) := by
 obtain ⟨ps, hl, hf, hr⟩ := unpk_rep s e d 0
 obtain ⟨hlen, hem, hnm⟩ := newObs_some hn
 by_cases hz : (unpk d s x 0).2 = []
 ·-- nothing is owned
  have hps : ps = [] := List.eq_nil_of_length_eq_zero (by rw [hl, hz]; rfl)
  subst hps
  have hfp : fp = [] := by simpa using hf.symm
  subst hfp
  have how : ow2 = ow := by rw [hz] at hn; simp [newObs] at hn; exact hn.symm
  subst how
  have hFF : ∀ b, okF (FP F []) G ow2 b → okF F G ow2 b := fun b hb => okF_congr (fun b' hx => fp_nil.2 hx) hb
  have hm : ∀ b r, okF (FP F []) G ow2 b → rowCells w.heap b = some r → okF F G ow2 b ∧ rowCells w.heap b = some r := fun b r hb hr => ⟨hFF b hb, hr⟩
  have hsv : ∀ s v, Sv (FP F []) G ow2 w.heap s v → Sv F G ow2 w.heap s v := fun s v h => SvRep.mono (fun _ _ _ => rfl) (fun _ _ => .refl _) hm (fun b r hr => ⟨r, hr, rfl⟩) h
  obtain ⟨r1, _⟩ := hr G ow2 (fun i o hi => by rw [hz] at hi; simp at hi)
  refine ⟨G, ⟨fun d j o hn => ?_, hh.apart, fun b hb hx => hh.notF b hb (fp_nil.2 hx)⟩, ⟨r1.1, fun i h1 h2 => hsv _ _ (r1.2 i h1 h2)⟩, hsv, fun b => by simp, fun _ _ _ => rfl⟩
  exact ObRep.mono (fun _ _ _ => rfl) (fun _ _ => .refl _) hm (fun b r hr => ⟨r, hr, rfl⟩) rfl (fun _ _ _ _ _ => rfl) (hh.obs d j o hn)
 ·have hem : ow[d]? = some [] := by
   rcases hem with h | h
   ·exact absurd h hz
   ·exact h
  have hnm' : ∀ d' j, nameOf ow2 d' j = if d' = d then (unpk d s x 0).2[j]?.map some else nameOf ow d' j := fun d' j => by rw [hnm]; simp [hz]
  let G2 : Gh := G.new d fun j => (match ps[j]? with | some p => p.pos | none => fun _ => none)
  have g0 : ∀ d' j, d' ≠ d → G2 d' j = G d' j := fun d' j hd => by simp [G2, Gh.new, hd]
  have gd : ∀ j, G2 d j = (match ps[j]? with | some p => p.pos | none => fun _ => none) := fun j => by simp [G2, Gh.new]
  have gdm : ∀ {j i b o}, G2 d j i = some (b, o) → ∃ hj : j < ps.length, ps[j].pos i = some (b, o) := by
   intro j i b o hg
   rw [gd] at hg
   cases hq : ps[j]? with
   | none => rw [hq] at hg; cases hg
   | some p =>
    rw [hq] at hg
    obtain ⟨hj, rfl⟩ := List.getElem?_eq_some_iff.1 hq
    exact ⟨hj, hg⟩
  have hnamed : Named G2 ow2 d 0 (unpk d s x 0).2 ps := by
   intro i o hi
   have hlt : i < (unpk d s x 0).2.length := (List.getElem?_eq_some_iff.1 hi).1
   rw [Nat.zero_add, hnm', if_pos rfl, hi, gd]
   refine ⟨rfl, ps[i]'(by omega), List.getElem?_eq_getElem (by omega), ?_⟩
   rw [List.getElem?_eq_getElem (by omega)]
  obtain ⟨r1, r2⟩ := hr G2 ow2 hnamed
  have hkey : ∀ b, (∃ j i o, isOwn (nameOf ow2 d j) ∧ G2 d j i = some (b, o)) ↔ b ∈ fp := by
   intro b
   rw [← hf]
   simp only [List.mem_flatMap]
   constructor
   ·rintro ⟨j, i, o, _, hg⟩
    obtain ⟨hj, hp⟩ := gdm hg
    exact ⟨ps[j], List.getElem_mem hj, Pl.mem.2 ⟨i, o, hp⟩⟩
   ·rintro ⟨p, hp, hpb⟩
    obtain ⟨j, hj, rfl⟩ := List.getElem_of_mem hp
    obtain ⟨i, o, hq⟩ := Pl.mem.1 hpb
    have hj2 : j < (unpk d s x 0).2.length := by omega
    refine ⟨j, i, o, ?_, ?_⟩
    ·rw [hnm', if_pos rfl, List.getElem?_eq_getElem hj2]
     exact (r2 j _ (List.getElem?_eq_getElem hj2)).2
    ·rw [gd, List.getElem?_eq_getElem hj]; exact hq
  have hown : ∀ b, Own G2 ow2 b ↔ Own G ow b ∨ b ∈ fp := by
   intro b
   rw [own_iff, own_iff]
   constructor
   ·rintro ⟨d', j, i, o, hi, hg⟩
    by_cases hd : d' = d
    ·subst hd
     exact .inr ((hkey b).1 ⟨j, i, o, hi, hg⟩)
    ·rw [hnm', if_neg hd] at hi
     rw [g0 _ _ hd] at hg
     exact .inl ⟨d', j, i, o, hi, hg⟩
   ·rintro (⟨d', j, i, o, hi, hg⟩ | hb)
    ·have hd : d' ≠ d := by
      intro hd
      subst hd
      rw [nameOf_empty hem] at hi
      exact hi
     exact ⟨d', j, i, o, by rw [hnm', if_neg hd]; exact hi, by rw [g0 _ _ hd]; exact hg⟩
    ·obtain ⟨j, i, o, hi, hg⟩ := (hkey b).2 hb
     exact ⟨d, j, i, o, hi, hg⟩
  have hok : ∀ b, okF (FP F fp) G ow b → okF F G2 ow2 b := fun b hb => ⟨fun hx => hb.1 (.inl hx), fun hx => by
   rcases (hown b).1 hx with hx | hx
   ·exact hb.2 hx
   ·exact hb.1 (.inr hx)⟩
  have hm : ∀ b r, okF (FP F fp) G ow b → rowCells w.heap b = some r → okF F G2 ow2 b ∧ rowCells w.heap b = some r := fun b r hb hr => ⟨hok b hb, hr⟩
  have hGn : ∀ d' j, nameOf ow d' j ≠ none → G2 d' j = G d' j := by
   intro d' j hx
   refine g0 _ _ fun hd => ?_
   subst hd
   exact hx (nameOf_empty hem j)
  have hE : ∀ d' j, EC (nameOf ow d' j) (nameOf ow2 d' j) := by
   intro d' j
   by_cases hd : d' = d
   ·subst hd; rw [nameOf_empty hem]; trivial
   ·rw [hnm', if_neg hd]; exact .refl _
  have hsv : ∀ s v, Sv (FP F fp) G ow w.heap s v → Sv F G2 ow2 w.heap s v := fun s v h => SvRep.mono (fun d' j hx => congrFun (hGn d' j hx) 0) hE hm (fun b r hr => ⟨r, hr, rfl⟩) h
  have hm2 : ∀ b r, okF (FP F fp) G ow b → rowCells w.heap b = some r → okF F G2 ow2 b ∧ rowCells w.heap b = some r := hm
  refine ⟨G2, ⟨fun d' j o hx => ?_, fun d1 j1 i1 d2 j2 i2 b o1 o2 h1 h2 q1 q2 => ?_, fun b hb => ?_⟩, ⟨r1.1, fun i h1 h2 => SvRep.mono (fun _ _ _ => rfl) (fun _ _ => .refl _) hm2 (fun b r hr => ⟨r, hr, rfl⟩) (r1.2 i h1 h2)⟩, hsv, hown, g0⟩
  ·by_cases hd : d' = d
   ·subst hd
    have hx' : (unpk d' s x 0).2[j]? = some o := by
     rw [hnm', if_pos rfl] at hx
     cases hq : (unpk d' s x 0).2[j]? with
     | none => simp [hq] at hx
     | some q => simp [hq] at hx; rw [hx]
    have := (r2 j o hx').1
    rw [Nat.zero_add] at this
    exact ObRep.mono (fun _ _ _ => rfl) (fun _ _ => .refl _) hm2 (fun b r hr => ⟨r, hr, rfl⟩) rfl (fun _ _ _ _ _ => rfl) this
   ·have hx' : nameOf ow d' j = some (some o) := by rw [hnm', if_neg hd] at hx; exact hx
    exact ObRep.mono (fun d' j hx => congrFun (hGn d' j hx) 0) hE hm (fun b r hr => ⟨r, hr, rfl⟩) (g0 _ _ hd) (fun _ _ _ _ _ => rfl) (hh.obs d' j o hx')
  ·have out : ∀ {d' j' i' o'}, d' ≠ d → isOwn (nameOf ow2 d' j') → G2 d' j' i' = some (b, o') → Own G ow b := by
    intro d' j' i' o' hd hi hg
    rw [hnm', if_neg hd] at hi
    rw [g0 _ _ hd] at hg
    exact own_iff.2 ⟨d', j', i', o', hi, hg⟩
   by_cases e1 : d1 = d
   ·by_cases e2 : d2 = d
    ·subst e1; subst e2
     obtain ⟨k1, p1⟩ := gdm q1
     obtain ⟨k2, p2⟩ := gdm q2
     obtain ⟨e, hnn⟩ := flat_inj ps (by rw [hf]; exact hnd) j1 j2 k1 k2 b (Pl.mem.2 ⟨_, _, p1⟩) (Pl.mem.2 ⟨_, _, p2⟩)
     subst e
     exact ⟨rfl, rfl, Pl.inj hnn p1 p2⟩
    ·subst e1
     have hb := (hkey b).1 ⟨j1, i1, o1, h1, q1⟩
     exact absurd (.inr hb) (hh.notF b (out e2 h2 q2))
   ·by_cases e2 : d2 = d
    ·subst e2
     have hb := (hkey b).1 ⟨j2, i2, o2, h2, q2⟩
     exact absurd (.inr hb) (hh.notF b (out e1 h1 q1))
    ·rw [hnm', if_neg e1] at h1
     rw [hnm', if_neg e2] at h2
     rw [g0 _ _ e1] at q1
     rw [g0 _ _ e2] at q2
     exact hh.apart d1 j1 i1 d2 j2 i2 b o1 o2 h1 h2 q1 q2
  ·rcases (hown b).1 hb with hb | hb
   ·exact fun hx => hh.notF b hb (.inl hx)
   ·exact hFd b hb
end
end Go.Pev
end

section
/-
 PEV, part 15b: nested rows: an element laid open, and packed again. No step of the program.
-/
namespace Go.Pev
def Gh.put (G : Gh) (d j : Nat) (p : Nat → Option (Nat × Nat)) : Gh := fun d' j' => if d' = d ∧ j' = j then p else G d' j'
def nestP (G : Gh) (d j : Nat) (nest : List Nat) : Nat → Option (Nat × Nat)
 | 0 => G d j 0
 | i + 1 => (nest[i]?).map fun b => (b, 0)
section
variable {F F1 F2 : Nat → Prop} {G : Gh} {ow ow1 : OW} {h : Array Obj}
theorem nest_place {d j : Nat} {nest : List Nat} (hG : ∀ i, G d j (i + 1) = (nest[i]?).map fun b => (b, 0)) {b : Nat} : (∃ i o, G d j (i + 1) = some (b, o)) ↔ b ∈ nest := by
 constructor
 ·rintro ⟨i, o, hg⟩
  rw [hG] at hg
  simp only [Option.map_eq_some_iff, Prod.mk.injEq] at hg
  obtain ⟨b', hb, rfl, _⟩ := hg
  exact List.mem_of_getElem? hb
 ·intro hb
  obtain ⟨i, hi, e⟩ := List.mem_iff_getElem.1 hb
  exact ⟨i, 0, by rw [hG, List.getElem?_eq_getElem hi, e]; rfl⟩
theorem renest (hh : HRep F1 G ow h) {d j : Nat} {ob ob' : OB} (hn : nameOf ow d j = some (some ob)) (hi : isOwn (some (some ob))) (hi' : isOwn (some (some ob'))) (hec : EC (some (some ob)) (some (some ob')))
  {nest nest' : List Nat} (hG : ∀ i, G d j (i + 1) = (nest[i]?).map fun b => (b, 0)) (hnm : ∀ d' j', nameOf ow1 d' j' = if d' = d ∧ j' = j then some (some ob') else nameOf ow d' j')
  (h1 : ∀ b ∈ nest', b ∈ nest ∨ F1 b) (hnd : nest'.Nodup) (h0 : ∀ b o, G d j 0 = some (b, o) → b ∉ nest') (h3 : ∀ b, F2 b → b ∉ nest' ∧ (F1 b ∨ b ∈ nest))
  (hob : (∀ b r, okF F1 G ow b → rowCells h b = some r → okF F2 (G.put d j (nestP G d j nest')) ow1 b ∧ rowCells h b = some r) → (∀ s v, Sv F1 G ow h s v → Sv F2 (G.put d j (nestP G d j nest')) ow1 h s v) →
   ObRep h (okF F2 (G.put d j (nestP G d j nest')) ow1) (G.put d j (nestP G d j nest')) ow1 d j ob') :
  HRep F2 (G.put d j (nestP G d j nest')) ow1 h ∧ (∀ s v, Sv F1 G ow h s v → Sv F2 (G.put d j (nestP G d j nest')) ow1 h s v) ∧ (∀ b, Own (G.put d j (nestP G d j nest')) ow1 b ↔ (Own G ow b ∧ b ∉ nest) ∨ b ∈ nest') ∧
   ∀ d' j', G.put d j (nestP G d j nest') d' j' 0 = G d' j' 0 := by
 have hio : isOwn (nameOf ow d j) := by rw [hn]; exact hi
 generalize hG1 : G.put d j (nestP G d j nest') = G1 at *
 have gd : G1 d j = nestP G d j nest' := by rw [← hG1]; simp [Gh.put]
 have go : ∀ d' j', ¬ (d' = d ∧ j' = j) → G1 d' j' = G d' j' := fun d' j' hx => by rw [← hG1]; simp [Gh.put, hx]
 have g0 : ∀ d' j', G1 d' j' 0 = G d' j' 0 := fun d' j' => by
  by_cases hx : d' = d ∧ j' = j
  ·rw [hx.1, hx.2, gd]; rfl
  ·rw [go _ _ hx]
 have gn : ∀ i, G1 d j (i + 1) = (nest'[i]?).map fun b => (b, 0) := fun i => by rw [gd]; rfl
 have hdj : isOwn (nameOf ow1 d j) := by rw [hnm]; simpa using hi'
 have other : ∀ d' j', ¬ (d' = d ∧ j' = j) → nameOf ow1 d' j' = nameOf ow d' j' := fun d' j' hx => by rw [hnm, if_neg hx]
 have nestOwn : ∀ b ∈ nest, Own G ow b := fun b hb => by
  obtain ⟨i, o, hg⟩ := (nest_place hG).2 hb
  exact own_iff.2 ⟨d, j, i + 1, o, hio, hg⟩
 have hown : ∀ b, Own G1 ow1 b ↔ (Own G ow b ∧ b ∉ nest) ∨ b ∈ nest' := by
  intro b
  rw [own_iff]
  constructor
  ·rintro ⟨d', j', i, o, hio', hg⟩
   by_cases hx : d' = d ∧ j' = j
   ·obtain ⟨rfl, rfl⟩ := hx
    cases i with
    | zero =>
     rw [g0] at hg
     refine .inl ⟨own_iff.2 ⟨d', j', 0, o, hio, hg⟩, fun hb => ?_⟩
     obtain ⟨i, o', hg'⟩ := (nest_place hG).2 hb
     obtain ⟨_, _, e⟩ := hh.apart _ _ _ _ _ _ _ _ _ hio hio hg hg'
     cases e
    | succ i => exact .inr ((nest_place gn).1 ⟨i, o, hg⟩)
   ·rw [other _ _ hx] at hio'
    rw [go _ _ hx] at hg
    refine .inl ⟨own_iff.2 ⟨d', j', i, o, hio', hg⟩, fun hb => ?_⟩
    obtain ⟨i', o', hg'⟩ := (nest_place hG).2 hb
    obtain ⟨e1, e2, _⟩ := hh.apart _ _ _ _ _ _ _ _ _ hio' hio hg hg'
    exact hx ⟨e1, e2⟩
  ·rintro (⟨hb, hnb⟩ | hb)
   ·obtain ⟨d', j', i, o, hio', hg⟩ := own_iff.1 hb
    by_cases hx : d' = d ∧ j' = j
    ·obtain ⟨rfl, rfl⟩ := hx
     cases i with
     | zero => exact ⟨d', j', 0, o, hdj, by rw [g0]; exact hg⟩
     | succ i => exact absurd ((nest_place hG).1 ⟨i, o, hg⟩) hnb
    ·exact ⟨d', j', i, o, by rw [other _ _ hx]; exact hio', by rw [go _ _ hx]; exact hg⟩
   ·obtain ⟨i, o, hg⟩ := (nest_place gn).2 hb
    exact ⟨d, j, i + 1, o, hdj, hg⟩
 have hok : ∀ b r, okF F1 G ow b → rowCells h b = some r → okF F2 G1 ow1 b ∧ rowCells h b = some r := by
  intro b r hb hr
  refine ⟨⟨fun hx => ?_, fun hx => ?_⟩, hr⟩
  ·rcases (h3 b hx).2 with hx | hx
   ·exact hb.1 hx
   ·exact hb.2 (nestOwn b hx)
  ·rcases (hown b).1 hx with ⟨hx, _⟩ | hx
   ·exact hb.2 hx
   ·rcases h1 b hx with hx | hx
    ·exact hb.2 (nestOwn b hx)
    ·exact hb.1 hx
 have hE : ∀ d' j', EC (nameOf ow d' j') (nameOf ow1 d' j') := by
  intro d' j'
  rw [hnm]
  split
  ·rename_i e
   rw [e.1, e.2, hn]
   exact hec
  ·exact .refl _
 have hsv : ∀ s v, Sv F1 G ow h s v → Sv F2 G1 ow1 h s v := fun s v e => SvRep.mono (fun d' j' _ => g0 d' j') hE hok (fun b r hr => ⟨r, hr, rfl⟩) e
 refine ⟨⟨fun d' j' o hx => ?_, fun d1 j1 i1 d2 j2 i2 b o1 o2 k1 k2 q1 q2 => ?_, fun b hb hx => ?_⟩, hsv, hown, g0⟩
 ·by_cases hc : d' = d ∧ j' = j
  ·obtain ⟨rfl, rfl⟩ := hc
   rw [hnm] at hx
   simp at hx
   subst hx
   exact hob hok hsv
  ·rw [other _ _ hc] at hx
   exact ObRep.mono (fun d' j' _ => g0 d' j') hE hok (fun b r hr => ⟨r, hr, rfl⟩) (go _ _ hc) (fun _ _ _ _ _ => rfl) (hh.obs d' j' o hx)
 ·-- apart
  have cross : ∀ {d' j' i' o' i o}, ¬ (d' = d ∧ j' = j) → isOwn (nameOf ow1 d' j') → G1 d' j' i' = some (b, o') → G1 d j i = some (b, o) → False := by
   intro d' j' i' o' i o hc hk q q'
   rw [other _ _ hc] at hk
   rw [go _ _ hc] at q
   cases i with
   | zero =>
    rw [g0] at q'
    obtain ⟨e1, e2, _⟩ := hh.apart _ _ _ _ _ _ _ _ _ hk hio q q'
    exact hc ⟨e1, e2⟩
   | succ i =>
    rcases h1 b ((nest_place gn).1 ⟨i, o, q'⟩) with hb | hb
    ·obtain ⟨i3, o3, q3⟩ := (nest_place hG).2 hb
     obtain ⟨e1, e2, _⟩ := hh.apart _ _ _ _ _ _ _ _ _ hk hio q q3
     exact hc ⟨e1, e2⟩
    ·exact hh.notF b (own_iff.2 ⟨d', j', i', o', hk, q⟩) hb
  by_cases c1 : d1 = d ∧ j1 = j
  ·by_cases c2 : d2 = d ∧ j2 = j
   ·obtain ⟨rfl, rfl⟩ := c1
    obtain ⟨rfl, rfl⟩ := c2
    refine ⟨rfl, rfl, ?_⟩
    cases i1 with
    | zero =>
     cases i2 with
     | zero => rfl
     | succ i2 => rw [g0] at q1; exact absurd ((nest_place gn).1 ⟨i2, o2, q2⟩) (h0 b o1 q1)
    | succ i1 =>
     cases i2 with
     | zero => rw [g0] at q2; exact absurd ((nest_place gn).1 ⟨i1, o1, q1⟩) (h0 b o2 q2)
     | succ i2 =>
      rw [gn] at q1 q2
      simp only [Option.map_eq_some_iff, Prod.mk.injEq] at q1 q2
      obtain ⟨b1, q1, rfl, _⟩ := q1
      obtain ⟨b2, q2, rfl, _⟩ := q2
      obtain ⟨l1, e1⟩ := List.getElem?_eq_some_iff.1 q1
      obtain ⟨l2, e2⟩ := List.getElem?_eq_some_iff.1 q2
      rw [(List.getElem_inj hnd).1 (e1.trans e2.symm)]
   ·obtain ⟨rfl, rfl⟩ := c1
    exact (cross c2 k2 q2 q1).elim
  ·by_cases c2 : d2 = d ∧ j2 = j
   ·obtain ⟨rfl, rfl⟩ := c2
    exact (cross c1 k1 q1 q2).elim
   ·rw [other _ _ c1] at k1
    rw [other _ _ c2] at k2
    rw [go _ _ c1] at q1
    rw [go _ _ c2] at q2
    exact hh.apart _ _ _ _ _ _ _ _ _ k1 k2 q1 q2
 ·obtain ⟨h4, h5⟩ := h3 b hx
  rcases (hown b).1 hb with ⟨hb, hnb⟩ | hb
  ·rcases h5 with h5 | h5
   ·exact hh.notF b hb h5
   ·exact hnb h5
  ·exact h4 hb
end
section
variable {F : Nat → Prop} {G : Gh} {ow ow1 : OW} {w : World}
theorem settle_sound (hF : ∀ b, F b → b < w.heap.size) (hh : HRep F G ow w.heap) {s : Sh} {d j : Nat} (e0 : settleOb s (pk s) ow d j = some ow1) :
  ∃ G1, HRep F G1 ow1 w.heap ∧ (∀ s v, Sv F G ow w.heap s v → Sv F G1 ow1 w.heap s v) ∧ (∀ b, Own G1 ow1 b → Own G ow b) ∧ ow1.length = ow.length ∧ ∃ l, nameOf ow1 d j = some (some (.nrow s l none)) := by
 rcases settle_some e0 with ⟨l, hn, rfl⟩ | ⟨l, p, y, l2, foc2, hn, hy, hn2, rfl⟩
 ·exact ⟨G, hh, fun _ _ h => h, fun _ h => h, rfl, l, hn⟩
 ·obtain ⟨e, cells⟩ := p
  obtain ⟨hel, fps, hG, hob⟩ := hh.obs d j _ hn
  cases hg : G d j 0 with
  | none => simp only [hg] at hob; cases hob.2.1
  | some q =>
   obtain ⟨b, o⟩ := q
   simp only [hg] at hob
   obtain ⟨r, et, hb, hsz, hlf, hj, hele, hfoc⟩ := hob
   obtain ⟨q1, q2, q4⟩ := hfoc e cells rfl
   have hef : e < fps.length := by omega
   have hmul : e * s.w + s.w ≤ l.length * s.w := by
    have : (e + 1) * s.w ≤ l.length * s.w := Nat.mul_le_mul_right _ q1
    rw [Nat.succ_mul] at this
    exact this
   have hcs : Svs F G ow w.heap cells (sub r (o + e * s.w) s.w) := by
    refine ⟨by rw [sub_length (by omega), q2], fun c h1 h2 => ?_⟩
    have e1 : (sub r (o + e * s.w) s.w)[c] = r[o + e * s.w + c]'(by omega) := by
     have := sub_getElem (r := r) (o := o + e * s.w) (n := s.w) (i := c) (by omega)
     rw [List.getElem?_eq_getElem h2, Array.getElem?_eq_getElem (by omega)] at this
     exact Option.some.inj this
    rw [e1]
    exact q4 c h1 (by omega)
   obtain ⟨fpA, hT, hfA, hnd, hS⟩ := pk_sound s (x := y.1) (ow1 := y.2) hF hh hcs hy
   have hsm : nameOf y.2 d j = nameOf ow d j := by
    rcases hT.names d j with e | ⟨_, e⟩ | hz
    ·exact e
    ·rw [hn2] at e; cases e
    ·have := hz.not.1; rw [hn2] at this; exact absurd trivial this
   rw [hn, hn2] at hsm
   cases hsm
   have hnn : nameOf y.2 d j ≠ none := by rw [hn2]; simp
   obtain ⟨hh1, hsv1⟩ := taken_state hh hT hfA
   have hio : isOwn (nameOf ow d j) := by rw [hn]; trivial
   obtain ⟨n1, n2⟩ := nrow_nodup hh hio hG
   have hperm := set_perm fps fpA hef
   have hdis : ∀ x ∈ fpA, (∀ i o, G d j i ≠ some (x, o)) := by
    intro x hx i2 o2 hg2
    obtain ⟨d', j', i', o', hi', hg', hn'⟩ := (hfA x).1 hx
    obtain ⟨rfl, rfl, _⟩ := hh.apart _ _ _ _ _ _ _ _ _ hi' hio hg' hg2
    rw [hn2] at hn'
    cases hn'
   have hmem : ∀ x, x ∈ (fps.set e fpA ++ [fps[e]]).flatten ↔ x ∈ fpA ∨ x ∈ fps.flatten := fun x => by rw [hperm.mem_iff, List.mem_append]
   have hnest : ∀ x ∈ fps.flatten, Own G y.2 x := by
    intro x hx
    obtain ⟨i, o', hg'⟩ := (nest_place hG).2 hx
    exact own_iff.2 ⟨d, j, i + 1, o', by rw [hn2]; trivial, hg'⟩
   obtain ⟨r1, r2, r3, _⟩ := renest (F1 := FP F fpA) (F2 := F) (ob' := .nrow s (l.set e y.1) none) (ow1 := putOb y.2 d j (some (.nrow s (l.set e y.1) none))) (nest' := (fps.set e fpA ++ [fps[e]]).flatten) hh1 hn2 trivial trivial (show EC (some (some (OB.nrow s l (some (e, cells))))) (some (some (.nrow s (l.set e y.1) none))) from ⟨rfl, by simp⟩) hG (fun d' j' => nameOf_putOb hnn)
    (fun x hx => by
     rcases (hmem x).1 hx with hx | hx
     ·exact .inr (.inr hx)
     ·exact .inl hx)
    (hperm.nodup_iff.2 (List.nodup_append.2 ⟨hnd, n1, fun x hx y hy hxy => by
     subst hxy
     obtain ⟨i, o', hg'⟩ := (nest_place hG).2 hy
     exact hdis x hx _ _ hg'⟩))
    (fun b' o' hg' hx => by
     rcases (hmem b').1 hx with hx | hx
     ·exact hdis b' hx 0 o' hg'
     ·exact n2 b' o' hg' hx)
    (fun b' hb' => ⟨fun hx => by
     rcases (hmem b').1 hx with hx | hx
     ·exact hh.notF b' (hfA.own hx) hb'
     ·exact hh.notF b' (hT.own (hnest b' hx)) hb', .inl (.inl hb')⟩)
    (fun hok hsv => by
     refine ⟨hel, fps.set e fpA ++ [fps[e]], fun i => by simp [Gh.put, nestP], ?_⟩
     have : (G.put d j (nestP G d j (fps.set e fpA ++ [fps[e]]).flatten)) d j 0 = some (b, o) := by simp [Gh.put, nestP, hg]
     rw [this]
     refine ⟨r, et, hb, by simpa using hsz, by simp at hlf ⊢; omega, fun b' hb' => ?_, fun i hi hf _ => ?_, fun e cells hc => by cases hc⟩
     ·rcases (hmem b').1 hb' with hb' | hb'
      ·exact ShR.cells s hS b' hb'
      ·exact hj b' hb'
     ·have hi0 : i < (fps.set e fpA).length := by simp at hi ⊢; omega
      rw [List.getElem_append_left hi0]
      by_cases hie : i = e
      ·subst hie
       simp only [List.getElem_set_self]
       exact ShR.mono hok s (fun _ _ => rfl) hS
      ·simp only [List.getElem_set_ne (Ne.symm hie)]
       have hi' : i < l.length := by simpa using hi
       have hf' : i < fps.length := by simpa using hi0
       refine ShR.mono (fun b' r' hb' hr' => hok b' r' (taken_ok hT hfA hb') hr') s (fun _ _ => rfl) (hele i hi' hf' (fun cells' hc => by cases hc; exact hie rfl)))
   refine ⟨_, r1, fun s v h => r2 s v (hsv1 s v h), fun b' => ?_, by rw [length_putOb, hT.len], l.set e y.1, by rw [nameOf_putOb hnn]; simp⟩
   rw [r3]
   rintro (⟨hx, _⟩ | hx)
   ·exact hT.own hx
   ·rcases (hmem b').1 hx with hx | hx
    ·exact hfA.own hx
    ·exact hT.own (hnest b' hx)
theorem focus_sound (hh : HRep F G ow w.heap) {s : Sh} {d j : Nat} {l : List s.T} (hn : nameOf ow d j = some (some (.nrow s l none))) {e : Nat} {x : s.T} (hx : l[e]? = some x) {dk : Nat} {ow2 : OW}
  (hnew : newObs (putOb ow d j (some (.nrow s l (some (e, List.replicate s.w .dead))))) dk (unpk dk s x 0).2 = some ow2) :
  ∃ G3 b o r, HRep F G3 (putOb ow2 d j (some (.nrow s l (some (e, (unpk dk s x 0).1))))) w.heap ∧ (∀ s' v, Sv F G ow w.heap s' v → Sv F G3 (putOb ow2 d j (some (.nrow s l (some (e, (unpk dk s x 0).1))))) w.heap s' v) ∧
   (∀ b, Own G3 (putOb ow2 d j (some (.nrow s l (some (e, (unpk dk s x 0).1))))) b → Own G ow b) ∧ (putOb ow2 d j (some (.nrow s l (some (e, (unpk dk s x 0).1))))).length = ow.length ∧
   G d j 0 = some (b, o) ∧ rowCells w.heap b = some r ∧ o + l.length * s.w ≤ r.size ∧ Svs F G3 (putOb ow2 d j (some (.nrow s l (some (e, (unpk dk s x 0).1))))) w.heap (unpk dk s x 0).1 (sub r (o + e * s.w) s.w) := by
 obtain ⟨hlt, rfl⟩ := List.getElem?_eq_some_iff.1 hx
 obtain ⟨hel, fps, hG, hob⟩ := hh.obs d j _ hn
 cases hg : G d j 0 with
 | none => simp only [hg] at hob; rw [hob.1] at hlt; simp at hlt
 | some q =>
  obtain ⟨b, o⟩ := q
  simp only [hg] at hob
  obtain ⟨r, et, hb, hsz, hlf, hj, hele, _⟩ := hob
  have hef : e < fps.length := by omega
  have hmul : e * s.w + s.w ≤ l.length * s.w := by
   have : (e + 1) * s.w ≤ l.length * s.w := Nat.mul_le_mul_right _ hlt
   rw [Nat.succ_mul] at this
   exact this
  have hnn : nameOf ow d j ≠ none := by rw [hn]; simp
  have hio : isOwn (nameOf ow d j) := by rw [hn]; trivial
  obtain ⟨n1, n2⟩ := nrow_nodup hh hio hG
  have hperm : fps.flatten.Perm (fps[e] ++ (fps.set e []).flatten) := by
   have := set_perm0 (fps.set e []) e fps[e] (by simp [hef])
   rw [List.set_set, List.set_getElem_self] at this
   exact this
  obtain ⟨m1, m2, m3⟩ := List.nodup_append.1 (hperm.nodup_iff.1 n1)
  have hsub : ∀ z ∈ (fps.set e []).flatten, z ∈ fps.flatten := fun z hz => hperm.mem_iff.2 (List.mem_append.2 (.inr hz))
  have hsubE : ∀ z ∈ fps[e], z ∈ fps.flatten := fun z hz => hperm.mem_iff.2 (List.mem_append.2 (.inl hz))
  have hnest : ∀ z ∈ fps.flatten, Own G ow z := by
   intro z hz
   obtain ⟨i, o', hg'⟩ := (nest_place hG).2 hz
   exact own_iff.2 ⟨d, j, i + 1, o', hio, hg'⟩
  obtain ⟨a1, a2, a3, a4⟩ := renest (F1 := F) (F2 := FP F fps[e]) (ob' := .nrow s l (some (e, List.replicate s.w .dead))) (ow1 := putOb ow d j (some (.nrow s l (some (e, List.replicate s.w .dead))))) (nest' := (fps.set e []).flatten) hh hn trivial trivial
   (show EC (some (some (OB.nrow s l none))) (some (some (.nrow s l (some (e, List.replicate s.w .dead))))) from ⟨rfl, rfl⟩) hG (fun d' j' => nameOf_putOb hnn)
   (fun z hz => .inl (hsub z hz)) m2 (fun b' o' hg' hz => n2 b' o' hg' (hsub b' hz))
   (fun z hz => by
    rcases hz with hz | hz
    ·exact ⟨fun h => hh.notF z (hnest z (hsub z h)) hz, .inl hz⟩
    ·exact ⟨fun h => m3 z hz z h rfl, .inr (hsubE z hz)⟩)
   (fun hok hsv => by
    refine ⟨hel, fps.set e [], fun i => by simp [Gh.put, nestP], ?_⟩
    have : (G.put d j (nestP G d j (fps.set e []).flatten)) d j 0 = some (b, o) := by simp [Gh.put, nestP, hg]
    rw [this]
    refine ⟨r, et, hb, hsz, by simpa using hlf, fun b' hb' => hj b' (hsub b' hb'), fun i hi hf hne => ?_, fun e' cells hc => ?_⟩
    ·have hie : i ≠ e := fun h => hne _ (by rw [h])
     simp only [List.getElem_set_ne (Ne.symm hie)]
     exact ShR.mono hok s (fun _ _ => rfl) (hele i hi (by simpa using hf) (fun cells hc => by cases hc))
    ·cases hc
     exact ⟨hlt, by simp, fun c hc hr => by simp only [List.getElem_replicate]; exact .dead _⟩)
  generalize hGa : G.put d j (nestP G d j (fps.set e []).flatten) = Ga at a1 a2 a3 a4
  generalize howA : putOb ow d j (some (.nrow s l (some (e, List.replicate s.w .dead)))) = owA at a1 a2 a3 a4 hnew
  have hnA : ∀ d' j', nameOf owA d' j' = if d' = d ∧ j' = j then some (some (.nrow s l (some (e, List.replicate s.w .dead)))) else nameOf ow d' j' := fun d' j' => by rw [← howA, nameOf_putOb hnn]
  have hdA : nameOf owA d j = some (some (.nrow s l (some (e, List.replicate s.w .dead)))) := by rw [hnA]; simp
  have hS : ShR w.heap (okF (FP F fps[e]) Ga owA) s l[e] (sub r (o + e * s.w) s.w) fps[e] := by
   refine ShR.mono (fun b' r' hb' hr' => ⟨⟨fun hx => ?_, fun hx => ?_⟩, hr'⟩) s (fun _ _ => rfl) (hele e hlt hef (fun cells hc => by cases hc))
   ·rcases hx with hx | hx
    ·exact hb'.1 hx
    ·exact hb'.2 (hnest b' (hsubE b' hx))
   ·rcases (a3 b').1 hx with ⟨hx, _⟩ | hx
    ·exact hb'.2 hx
    ·exact hb'.2 (hnest b' (hsub b' hx))
  obtain ⟨G2, c1, c2, c3, c4, c5⟩ := state_new a1 hS m1 (fun z hz hF => hh.notF z (hnest z (hsubE z hz)) hF) hnew
  obtain ⟨hlen2, hem, hnm2⟩ := newObs_some hnew
  have hd2 : nameOf ow2 d j = some (some (.nrow s l (some (e, List.replicate s.w .dead)))) := by
   rw [hnm2]
   split
   ·rename_i hc
    rcases hem with h | h
    ·exact absurd h hc.2
    ·rw [← hc.1] at h; rw [nameOf_empty h] at hdA; cases hdA
   ·exact hdA
  have hG2 : G2 d j = Ga d j ∨ (unpk dk s l[e] 0).2 = [] := by
   by_cases hc : d = dk
   ·right
    rcases hem with h | h
    ·exact h
    ·rw [← hc] at h; rw [nameOf_empty h] at hdA; cases hdA
   ·exact .inl (c5 d j hc)
  have hnn2 : nameOf ow2 d j ≠ none := by rw [hd2]; simp
  obtain ⟨hel2, fps2, hGG, hob2⟩ := c1.obs d j _ hd2
  have hio2 : isOwn (nameOf ow2 d j) := by rw [hd2]; trivial
  obtain ⟨k1, k2⟩ := nrow_nodup c1 hio2 hGG
  have hg2 : G2 d j 0 = some (b, o) := by
   by_cases hc : d = dk
   ·-- nothing was named: the place is known by the row's handle
    have hsv := c3 (.rp d j 0 [] e 0) (.pointer (some ⟨b, o + e * s.w + 0, none⟩)) (by
     refine .rp ?_
     rw [hdA]
     exact ⟨hlt, b, o, by rw [a4, hg], rfl⟩)
    have hsv2 := c3 (.wh d j 0 []) (.slice (some ⟨b, o, none⟩) l.length l.length) (by
     refine .wh ?_
     simp only [HandR, hdA, Option.getD_none]
     exact ⟨by omega, _, _, rfl, Nat.le_refl _, .inr ⟨b, o, o, r, by rw [a4, hg], rfl, rowCells_of hb, fun _ => by simp, hsz⟩⟩)
    cases hsv with
    | rp hsv =>
    rw [hd2] at hsv
    obtain ⟨_, b', o', hg', hv⟩ := hsv
    simp only [Nat.add_zero, Value.pointer.injEq, Option.some.injEq, Addr.mk.injEq] at hv
    obtain ⟨rfl, hv, _⟩ := hv
    have : o' = o := by omega
    rw [this] at hg'
    exact hg'
   ·rw [c5 d j hc, a4, hg]
  simp only [hg2] at hob2
  obtain ⟨r2, et2, hb2, hsz2, hlf2, hj2, hele2, hfoc2⟩ := hob2
  have : r2 = r := by
   rw [hb] at hb2
   cases hb2
   rfl
  subst this
  obtain ⟨q1, q2, q4⟩ := hfoc2 e _ rfl
  have hlenU : (unpk dk s l[e] 0).1.length = s.w := by rw [c2.1, sub_length (by omega)]
  obtain ⟨f1, f2, f3, f4⟩ := renest (F1 := F) (F2 := F) (ob' := .nrow s l (some (e, (unpk dk s l[e] 0).1))) (ow1 := putOb ow2 d j (some (.nrow s l (some (e, (unpk dk s l[e] 0).1))))) (nest' := fps2.flatten) c1 hd2 trivial trivial
   (show EC (some (some (OB.nrow s l (some (e, List.replicate s.w .dead))))) (some (some (.nrow s l (some (e, (unpk dk s l[e] 0).1))))) from ⟨rfl, rfl⟩) hGG (fun d' j' => nameOf_putOb hnn2)
   (fun z hz => .inl hz) k1 k2
   (fun z hz => ⟨fun h => by
    obtain ⟨i, o', hg'⟩ := (nest_place hGG).2 h
    exact c1.notF z (own_iff.2 ⟨d, j, i + 1, o', hio2, hg'⟩) hz, .inl hz⟩)
   (fun hok hsv => by
    refine ⟨hel2, fps2, fun i => by simp [Gh.put, nestP], ?_⟩
    have : (G2.put d j (nestP G2 d j fps2.flatten)) d j 0 = some (b, o) := by simp [Gh.put, nestP, hg2]
    rw [this]
    refine ⟨r2, et2, hb2, hsz2, hlf2, hj2, fun i hi hf hne => ?_, fun e' cells hc => ?_⟩
    ·have hie : i ≠ e := fun h => hne _ (by rw [h])
     exact ShR.mono hok s (fun _ _ => rfl) (hele2 i hi hf (fun cells hc => by cases hc; exact hie rfl))
    ·cases hc
     refine ⟨hlt, hlenU, fun c hc hr => ?_⟩
     have h2 : c < (sub r2 (o + e * s.w) s.w).length := by rw [sub_length (by omega)]; omega
     have := hsv _ _ (c2.2 c hc h2)
     have e1 : (sub r2 (o + e * s.w) s.w)[c] = r2[o + e * s.w + c]'hr := by
      have := sub_getElem (r := r2) (o := o + e * s.w) (n := s.w) (i := c) (by omega)
      rw [List.getElem?_eq_getElem h2, Array.getElem?_eq_getElem hr] at this
      exact Option.some.inj this
     rw [e1] at this
     exact this)
  refine ⟨_, b, o, r2, f1, fun s' v h => f2 s' v (c3 s' v (a2 s' v h)), fun z hz => ?_, by rw [length_putOb, hlen2, ← howA, length_putOb], rfl, rowCells_of hb, hsz, ⟨c2.1, fun i h1 h2 => f2 _ _ (c2.2 i h1 h2)⟩⟩
  have hz2 : Own G2 ow2 z := by
   rcases (f3 z).1 hz with ⟨hz, _⟩ | hz
   ·exact hz
   ·obtain ⟨i, o', hg'⟩ := (nest_place hGG).2 hz
    exact own_iff.2 ⟨d, j, i + 1, o', hio2, hg'⟩
  rcases (c4 z).1 hz2 with hz | hz
  ·rcases (a3 z).1 hz with ⟨hz, _⟩ | hz
   ·exact hz
   ·exact hnest z (hsub z hz)
  ·exact hnest z (hsubE z hz)
theorem settleV_tr (hF : ∀ b, F b → b < w.heap.size) (hh : HRep F G ow w.heap) (v : SV) : ∃ G1, Tr F G ow w G1 (settleV ow v) w ∧ ∀ b, Own G1 (settleV ow v) b → Own G ow b := by
 unfold settleV
 split
 ·split
  ·split
   ·rename_i h0
    obtain ⟨G1, g1, g2, g3, g4, _⟩ := settle_sound hF hh h0
    exact ⟨G1, ⟨g1, g2, .refl _ _, fun b hb => .inl (g3 b hb), g4⟩, g3⟩
   ·exact ⟨G, .refl hh, fun _ h => h⟩
  ·exact ⟨G, .refl hh, fun _ h => h⟩
 ·exact ⟨G, .refl hh, fun _ h => h⟩
theorem settleVs_tr (hF : ∀ b, F b → b < w.heap.size) (hh : HRep F G ow w.heap) (l : List SV) : ∃ G1, Tr F G ow w G1 (settleVs l ow) w ∧ ∀ b, Own G1 (settleVs l ow) b → Own G ow b := by
 unfold settleVs
 generalize l.flatMap svLeaves = vs
 induction vs generalizing G ow with
 | nil => exact ⟨G, .refl hh, fun _ h => h⟩
 | cons v r ih =>
  obtain ⟨G1, t1, o1⟩ := settleV_tr hF hh v
  obtain ⟨G2, t2, o2⟩ := ih t1.hrep
  exact ⟨G2, t1.trans t2, fun b hb => o1 b (o2 b hb)⟩
end
end Go.Pev
end

section
/-
 PEV, part 15c: nested rows: loads and stores.
-/
namespace Go.Pev
section
variable {F : Nat → Prop} {G : Gh} {ow ow1 : OW} {w : World} {P : Program}
theorem tr_ghost {G1 : Gh} (h1 : HRep F G1 ow1 w.heap) (h2 : ∀ s v, Sv F G ow w.heap s v → Sv F G1 ow1 w.heap s v) (h3 : ∀ b, Own G1 ow1 b → Own G ow b) (h4 : ow1.length = ow.length) : Tr F G ow w G1 ow1 w :=
 ⟨h1, h2, .refl _ _, fun b hb => .inl (h3 b hb), h4⟩
theorem evLoadN_sound {t : TypeId} (hh : HRep F G ow w.heap) (hF : ∀ b, F b → b < w.heap.size) {p : SV} {pv : Value} (hp : Sv F G ow w.heap p pv) {d j e c : Nat} {s : Sh} (ht : tgt ow p = some (d, j, e, c, s)) {dk : Nat} {Q : SV × OW → Prop} (h : (evLoadN P t p d j e c s ow dk).can Q) :
  ∃ x ow' v G', Q (x, ow') ∧ (Instr.loadAt t pv).run P w = .ok v w ∧ Tr F G ow w G' ow' w ∧ Sv F G' ow' w.heap x v := by
 have hpe : ∃ ver, p = .rp d j ver [] e c := by
  unfold tgt at ht
  split at ht
  ·split at ht
   ·cases ht; exact ⟨_, rfl⟩
   ·cases ht
  ·cases ht
 obtain ⟨ver, rfl⟩ := hpe
 unfold evLoadN at h
 split at h
 ·exact h.elim
 ·rename_i ow1 h0
  obtain ⟨G1, g1, g2, g3, g4, _⟩ := settle_sound hF hh h0
  have hT1 : Tr F G ow w G1 ow1 w := tr_ghost g1 g2 g3 g4
  have hp1 := g2 _ _ hp
  split at h
  ·exact h.elim
  ·rename_i r hr
   obtain ⟨_, hn⟩ := nrowAt_some hr
   split at h
   ·have h := Cmd.can_bind _ h
    obtain ⟨x, v, hq, hrun, hx⟩ := evLoad_sound g1 hp1 h
    exact ⟨x, ow1, v, G1, hq, hrun, hT1, hx⟩
   ·obtain ⟨x, hx, h⟩ := h
    dsimp only at h
    split at h
    ·rename_i ow2 hnew
     split at h
     ·rename_i v hv
      obtain ⟨G3, b, o, rr, f1, f2, f3, f4, hg, hrc, hsz, hcs⟩ := focus_sound g1 hn hx hnew
      cases hp1 with
      | rp hp1 =>
      simp only [hn] at hp1
      obtain ⟨hlt, b', o', hg', rfl⟩ := hp1
      rw [hg] at hg'
      cases hg'
      have hb2 : (e + 1) * r.1.w ≤ r.2.length * r.1.w := Nat.mul_le_mul_right _ hlt
      rw [Nat.add_mul, Nat.one_mul] at hb2
      have hlc : (unpk dk r.1 x 0).1.length = r.1.w := by rw [hcs.1, sub_length (by omega)]
      obtain ⟨⟨d', hu⟩, hpos, hle, hsv⟩ := sv_valOfCells (hcs.drop c) hv
      simp only [List.length_drop] at hle
      refine ⟨_, _, _, G3, h, run_load_cells hu hrc rfl (by omega), hT1.trans (tr_ghost f1 f2 f3 f4), ?_⟩
      rw [sub_sub (n := r.1.w) (by omega)]
      exact hsv
     ·exact h.elim
    ·exact h.elim
theorem write_open (hh : HRep F G ow w.heap) (hF : ∀ b, F b → b < w.heap.size) {d j : Nat} {s : Sh} {l : List s.T} {e : Nat} {cells : List SV} (hn : nameOf ow d j = some (some (.nrow s l (some (e, cells))))) {c : Nat} {new : List SV} {vs : List Value} (hnew : Svs F G ow w.heap new vs)
  {b o : Nat} (hG : G d j 0 = some (b, o)) {r : Array Value} {et : TypeId} (hb : w.heap[b]? = some (.cells r et (0, 0))) (hc : c + new.length ≤ cells.length) :
  o + e * s.w + c + vs.length ≤ r.size ∧ Tr F G ow w G (putOb ow d j (some (.nrow s l (some (e, cells.take c ++ new ++ cells.drop (c + new.length)))))) (w.setCells b (o + e * s.w + c) vs) := by
 obtain ⟨hel, fps, hGn, hob⟩ := hh.obs d j _ hn
 simp only [hG] at hob
 obtain ⟨r', et', hb', hsz, hlf, hj, hele, hfoc⟩ := hob
 rw [hb] at hb'
 cases hb'
 obtain ⟨q1, q2, q4⟩ := hfoc e cells rfl
 have hmul : e * s.w + s.w ≤ l.length * s.w := by
  have : (e + 1) * s.w ≤ l.length * s.w := Nat.mul_le_mul_right _ q1
  rw [Nat.succ_mul] at this
  exact this
 have hlen : new.length = vs.length := hnew.1
 have hle : o + e * s.w + c + vs.length ≤ r.size := by omega
 refine ⟨hle, write_tr (ob' := .nrow s l (some (e, cells.take c ++ new ++ cells.drop (c + new.length)))) hh hF hn trivial ⟨rfl, rfl⟩ trivial hG hb hle fun hbN hsvm hokm => ?_⟩
 have hio : isOwn (nameOf ow d j) := by rw [hn]; trivial
 have hheap : ∀ b' ∈ fps.flatten, (w.setCells b (o + e * s.w + c) vs).heap[b']? = w.heap[b']? := by
  intro b' hb'
  obtain ⟨i, o', hg'⟩ := (nest_place hGn).2 hb'
  refine World.heap_setCells_other w b _ _ (Own.lt hh (own_iff.2 ⟨d, j, i + 1, o', hio, hg'⟩)) fun hbb => ?_
  subst hbb
  obtain ⟨_, _, e⟩ := hh.apart _ _ _ _ _ _ _ _ _ hio hio hg' hG
  cases e
 refine ⟨hel, fps, hGn, ?_⟩
 simp only [hG]
 refine ⟨_, et, hbN, by rw [setA_size hle]; exact hsz, hlf, fun b' hb' => by rw [hheap b' hb']; exact hj b' hb', fun i hi hf hne => ?_, fun e' cells' hcc => ?_⟩
 ·have hie : i ≠ e := fun h => hne _ (by rw [h])
  have h1 := hele i hi hf (fun cells hc => by cases hc; exact hie rfl)
  have e1 : sub (setA r (o + e * s.w + c) vs) (o + i * s.w) s.w = sub r (o + i * s.w) s.w := by
   rcases Nat.lt_or_ge i e with hlt | hge
   ·have : (i + 1) * s.w ≤ e * s.w := Nat.mul_le_mul_right _ hlt
    rw [Nat.add_mul, Nat.one_mul] at this
    exact sub_setA_before hle (by omega)
   ·have : (e + 1) * s.w ≤ i * s.w := Nat.mul_le_mul_right _ (by omega)
    rw [Nat.add_mul, Nat.one_mul] at this
    exact sub_setA_after hle (by omega)
  rw [e1]
  exact ShR.mono hokm s (fun b' hb' => hheap b' (mem_fps hf hb')) h1
 ·cases hcc
  refine ⟨q1, by simp; omega, fun q hq hr => ?_⟩
  have e1 := setA_get hle (o + e * s.w + q)
  rw [Array.getElem?_eq_getElem hr] at e1
  simp only [List.length_append, List.length_take, List.length_drop] at hq
  by_cases h2 : q < c
  ·rw [if_neg (by omega), Array.getElem?_eq_getElem (by omega)] at e1
   have e2 : (cells.take c ++ new ++ cells.drop (c + new.length))[q] = cells[q]'(by omega) := by
    simp only [List.append_assoc]
    rw [List.getElem_append_left (by simp; omega), List.getElem_take]
   rw [Option.some.inj e1, e2]
   exact hsvm _ _ (q4 q (by omega) (by omega))
  ·by_cases h3 : q < c + vs.length
   ·rw [if_pos (by omega), List.getElem?_eq_getElem (by omega)] at e1
    have e2 : (cells.take c ++ new ++ cells.drop (c + new.length))[q] = new[q - c]'(by omega) := by
     rw [List.getElem_append_left (by simp; omega), List.getElem_append_right (by simp; omega)]
     congr 1
     simp
     omega
    have e3 : o + e * s.w + q - (o + e * s.w + c) = q - c := by omega
    simp only [e3] at e1
    rw [Option.some.inj e1, e2]
    exact hsvm _ _ (hnew.2 (q - c) (by omega) (by omega))
   ·rw [if_neg (by omega), Array.getElem?_eq_getElem (by omega)] at e1
    have e2 : (cells.take c ++ new ++ cells.drop (c + new.length))[q] = cells[q]'(by omega) := by
     rw [List.getElem_append_right (by simp; omega), List.getElem_drop]
     congr 1
     simp
     omega
    rw [Option.some.inj e1, e2]
    exact hsvm _ _ (q4 q (by omega) (by omega))
theorem perm_mix {f1 fp2 fA d2 fB fN : List Nat} (h : (fp2 ++ d2).Perm (fB ++ fN)) : ((f1 ++ fp2) ++ (fA ++ d2)).Perm ((fA ++ fB) ++ (f1 ++ fN)) := by
 refine List.perm_iff_count.2 fun x => ?_
 have := List.perm_iff_count.1 h x
 simp only [List.count_append] at this ⊢
 omega
theorem pkAt_sound : (s : Sh) → {F : Nat → Prop} → {ow ow1 : OW} → (∀ b, F b → b < w.heap.size) → HRep F G ow w.heap → {y : s.T} → {vs : List Value} → {fp : List Nat} → ShR w.heap (okF F G ow) s y vs fp → (c : Nat) → {new : List SV} → {us : List Value} → Svs F G ow w.heap new us →
  {y' : s.T} → pkAt s y c new ow = some (y', ow1) →
  ∃ fpN fp' dr, Taken ow ow1 ∧ FpOk G ow ow1 fpN ∧ fpN.Nodup ∧ c + us.length ≤ vs.length ∧ ShR w.heap (okF (FP F fpN) G ow1) s y' (vs.take c ++ us ++ vs.drop (c + us.length)) fp' ∧ (fp' ++ dr).Perm (fp ++ fpN)
 | .cons a b, F, ow, ow1, hF, hh, y, vs, fp, e, 0, new, us, hn, y', h => by
  obtain ⟨v0, r0, f1, f2, rfl, rfl, e1, e2⟩ := e
  match new, hn, h with
  | [], hn, h =>
   simp only [pkAt, Option.some.injEq, Prod.mk.injEq] at h
   obtain ⟨rfl, rfl⟩ := h
   have : us = [] := List.eq_nil_of_length_eq_zero hn.1.symm
   subst this
   exact ⟨[], f1 ++ f2, [], .refl _, .refl _ _, List.nodup_nil, by simp, ShR.mono (fun b' r' hb' hr' => ⟨okF_nil hb', hr'⟩) (.cons a b) (fun _ _ => rfl) (by simpa using ⟨v0, r0, f1, f2, rfl, rfl, e1, e2⟩), by simp⟩
  | s0 :: sr, hn, h =>
   simp only [pkAt] at h
   obtain ⟨u, us', rfl, hu, hus⟩ := hn.uncons
   split at h
   ·rename_i x hx
    split at h
    ·rename_i z hz
     simp only [Option.some.injEq, Prod.mk.injEq] at h
     obtain ⟨rfl, rfl⟩ := h
     obtain ⟨g1, t1, o1, n1, r1⟩ := pk_sound a (x := x.1) (ow1 := x.2) hF hh (.cons hu .nil) hx
     obtain ⟨hh1, hsv1⟩ := taken_state hh t1 o1
     have hF1 : ∀ b', FP F g1 b' → b' < w.heap.size := by
      intro b' hb'
      rcases hb' with hb' | hb'
      ·exact hF b' hb'
      ·exact Own.lt hh (o1.own hb')
     obtain ⟨g2, fp2, dr, t2, o2, n2, hl, r2, hperm⟩ := pkAt_sound b hF1 hh1 (ShR.mono (fun b' r' hb' hr' => ⟨taken_ok t1 o1 hb', hr'⟩) b (fun _ _ => rfl) e2) 0 (y' := z.1) (ow1 := z.2) ⟨hus.1, fun i h1 h2 => hsv1 _ _ (hus.2 i h1 h2)⟩ hz
     refine ⟨g1 ++ g2, g1 ++ fp2, f1 ++ dr, t1.trans t2, fun x => ?_, List.nodup_append.2 ⟨n1, n2, fun x hx y hy hxy => ?_⟩, by simp at hl ⊢; omega, ⟨u, us' ++ r0.drop us'.length, g1, fp2, by simp, rfl, ?_, ?_⟩, perm_mix hperm⟩
     ·rw [TkB.trans t1 t2, ← o1 x, ← o2 x, List.mem_append]
     ·subst hxy
      exact o1.notOwn hh t1 hx (o2.own hy)
     ·exact ShR.mono (fun b' r' hb' hr' => ⟨okF_congr (fun b'' hx => fp_app.2 hx) (taken_ok t2 o2 hb'), hr'⟩) a (fun _ _ => rfl) r1
     ·have r2 := ShR.mono (fun b' r' hb' hr' => ⟨okF_congr (fun b'' hx => fp_app.2 hx) hb', hr'⟩) b (fun _ _ => rfl) r2
      simpa using r2
    ·cases h
   ·cases h
 | .cons a b, F, ow, ow1, hF, hh, y, vs, fp, e, c + 1, new, us, hn, y', h => by
  obtain ⟨v0, r0, f1, f2, rfl, rfl, e1, e2⟩ := e
  simp only [pkAt] at h
  split at h
  ·rename_i z hz
   simp only [Option.some.injEq, Prod.mk.injEq] at h
   obtain ⟨rfl, rfl⟩ := h
   obtain ⟨g2, fp2, dr, t2, o2, n2, hl, r2, hperm⟩ := pkAt_sound b hF hh e2 c (y' := z.1) (ow1 := z.2) hn hz
   refine ⟨g2, f1 ++ fp2, dr, t2, o2, n2, by simp; omega, ⟨v0, r0.take c ++ us ++ r0.drop (c + us.length), f1, fp2, by simp [show c + 1 + us.length = c + us.length + 1 by omega], rfl, ?_, r2⟩, ?_⟩
   ·exact ShR.mono (fun b' r' hb' hr' => ⟨taken_ok t2 o2 hb', hr'⟩) a (fun _ _ => rfl) e1
   ·simp only [List.append_assoc]
    exact hperm.append_left f1
  ·cases h
 | .nil, F, ow, ow1, hF, hh, y, vs, fp, e, c, new, us, hn, y', h => by
  obtain ⟨rfl, rfl⟩ := e
  match c, new, hn, h with
  | 0, [], hn, h =>
   simp only [pkAt, Option.some.injEq, Prod.mk.injEq] at h
   obtain ⟨_, rfl⟩ := h
   have : us = [] := List.eq_nil_of_length_eq_zero hn.1.symm
   subst this
   exact ⟨[], [], [], .refl _, .refl _ _, List.nodup_nil, by simp, ⟨rfl, rfl⟩, by simp⟩
  | 0, _ :: _, _, h => simp [pkAt] at h
  | _ + 1, _, _, h => simp [pkAt] at h
 | .own k, F, ow, ow1, hF, hh, y, vs, fp, e, c, new, us, hn, y', h => by
  obtain ⟨v0, rfl, e⟩ := e
  match c, new, hn, h with
  | 0, [s0], hn, h =>
   obtain ⟨u, rfl, hu⟩ := hn.single'
   obtain ⟨g1, t1, o1, n1, r1⟩ := pk_sound (.own k) (x := y') (ow1 := ow1) hF hh (.cons hu .nil) h
   exact ⟨g1, g1, fp, t1, o1, n1, by simp, by simpa using r1, List.perm_append_comm⟩
  | 0, [], _, h => simp [pkAt] at h
  | 0, _ :: _ :: _, _, h => simp [pkAt] at h
  | _ + 1, _, _, h => simp [pkAt] at h
 | .rows s, F, ow, ow1, hF, hh, y, vs, fp, e, c, new, us, hn, y', h => by
  obtain ⟨v0, rfl, e⟩ := e
  match c, new, hn, h with
  | 0, [s0], hn, h =>
   obtain ⟨u, rfl, hu⟩ := hn.single'
   obtain ⟨g1, t1, o1, n1, r1⟩ := pk_sound (.rows s) (x := y') (ow1 := ow1) hF hh (.cons hu .nil) h
   exact ⟨g1, g1, fp, t1, o1, n1, by simp, by simpa using r1, List.perm_append_comm⟩
  | 0, [], _, h => simp [pkAt] at h
  | 0, _ :: _ :: _, _, h => simp [pkAt] at h
  | _ + 1, _, _, h => simp [pkAt] at h
 | .pur _, _, _, _, _, _, _, _, _, _, _, _, _, _, _, h => by simp [pkAt] at h
 | .row _, _, _, _, _, _, _, _, _, _, _, _, _, _, _, h => by simp [pkAt] at h
 | .nrw _, _, _, _, _, _, _, _, _, _, _, _, _, _, _, h => by simp [pkAt] at h
 | .box _, _, _, _, _, _, _, _, _, _, _, _, _, _, _, h => by simp [pkAt] at h
 | .agg _, _, _, _, _, _, _, _, _, _, _, _, _, _, _, h => by simp [pkAt] at h
 | .fn _ _ _, _, _, _, _, _, _, _, _, _, _, _, _, _, _, h => by simp [pkAt] at h
 | .ign, _, _, _, _, _, _, _, _, _, _, _, _, _, _, h => by simp [pkAt] at h
 | .nl, _, _, _, _, _, _, _, _, _, _, _, _, _, _, h => by simp [pkAt] at h
theorem place_cells {h : Array Obj} (hh : HRep F G ow h) {d j i b o : Nat} (hi : isOwn (nameOf ow d j)) (hg : G d j i = some (b, o)) : ∃ r et, h[b]? = some (Obj.cells r et (0, 0)) := by
 have key : ∀ ob, nameOf ow d j = some (some ob) → isOwn (some (some ob)) → ∃ r et, h[b]? = some (Obj.cells r et (0, 0)) := by
  intro ob hob hi
  have := hh.obs d j ob hob
  cases ob with
  | box cells =>
   obtain ⟨h0, b', o', r, et, hg', hr, _⟩ := this
   cases i with
   | zero => rw [hg] at hg'; cases hg'; exact ⟨r, et, hr⟩
   | succ i => rw [h0] at hg; cases hg
  | row k ver l =>
   obtain ⟨h0, _, this⟩ := this
   cases i with
   | zero =>
    simp only [hg] at this
    obtain ⟨r, et, hr, _⟩ := this
    exact ⟨r, et, hr⟩
   | succ i => rw [h0] at hg; cases hg
  | nrow k l foc => exact nrow_cells this hg
  | frow _ _ _ => exact hi.elim
  | lrow _ => exact hi.elim
 generalize hx : nameOf ow d j = x at hi
 match x, hi with
 | some (some ob), hi => exact key ob hx hi
theorem putOb_putOb {d j : Nat} {a b : Option OB} : putOb (putOb ow d j a) d j b = putOb ow d j b := by
 unfold putOb
 cases h : ow[d]? with
 | none => simp [h]
 | some l =>
  obtain ⟨hd, _⟩ := List.getElem?_eq_some_iff.1 h
  simp [hd]
theorem tgt_some {p : SV} {d j e c : Nat} {s : Sh} (ht : tgt ow p = some (d, j, e, c, s)) : (∃ ver, p = .rp d j ver [] e c) ∧ ∃ l foc, nameOf ow d j = some (some (.nrow s l foc)) := by
 unfold tgt at ht
 split at ht
 ·split at ht
  ·rename_i hg
   cases ht
   exact ⟨⟨_, rfl⟩, _, _, nameOf_of_getOb hg⟩
  ·cases ht
 ·cases ht
theorem setCells_some {cells new cells' : List SV} {c : Nat} (h : setCells cells c new = some cells') : c + new.length ≤ cells.length ∧ cells' = cells.take c ++ new ++ cells.drop (c + new.length) := by
 unfold setCells at h
 split at h
 ·rename_i hc
  cases h
  exact ⟨hc, rfl⟩
 ·cases h
theorem evStoreN_sound {t : TypeId} (hh : HRep F G ow w.heap) (hF : ∀ b, F b → b < w.heap.size) {p x : SV} {pv xv : Value} (hp : Sv F G ow w.heap p pv) (hx : Sv F G ow w.heap x xv) {d j e c : Nat} {s : Sh} (ht : tgt ow p = some (d, j, e, c, s)) {Q : OW → Prop} (h : (evStoreN P t x d j e c s ow).can Q) :
  ∃ ow' w' G', Q ow' ∧ (Instr.storeAt t pv xv).run P w = .ok () w' ∧ Tr F G ow w G' ow' w' := by
 obtain ⟨⟨ver, rfl⟩, _⟩ := tgt_some ht
 unfold evStoreN at h
 split at h
 ·exact h.elim
 rename_i new hnew
 obtain ⟨i, hi⟩ := cellsOfSV_info hnew
 obtain ⟨vs, hvs, hsv, h1, hl⟩ := cellsOfSV_sound hx hnew
 have hlen : new.length = vs.length := hsv.1
 split at h
 ·rename_i ow1 h0
  have h0 := settleT_some h0
  obtain ⟨G1, g1, g2, g3, g4, _⟩ := settle_sound hF hh h0
  have hT1 : Tr F G ow w G1 ow1 w := tr_ghost g1 g2 g3 g4
  have hp1 := g2 _ _ hp
  have hsv1 : Svs F G1 ow1 w.heap new vs := ⟨hsv.1, fun i h1 h2 => g2 _ _ (hsv.2 i h1 h2)⟩
  split at h
  ·exact h.elim
  ·rename_i r hr
   obtain ⟨_, hn⟩ := nrowAt_some hr
   obtain ⟨rs, l⟩ := r
   obtain ⟨y, hy, h⟩ := h
   dsimp only at h hn hy
   split at h
   ·rename_i z hz
    split at h
    ·rename_i r2 hr2
     split at h
     ·rename_i hsh
      obtain ⟨_, hn2⟩ := nrowAt_some hr2
      obtain ⟨rs2, l2⟩ := r2
      dsimp only at hsh hn2
      subst hsh
      obtain ⟨hlt, rfl⟩ := List.getElem?_eq_some_iff.1 hy
      cases hp1 with
      | rp hp1 =>
      simp only [hn] at hp1
      obtain ⟨_, b, o, hG, rfl⟩ := hp1
      obtain ⟨hel, fps, hGn, hob⟩ := g1.obs d j _ hn
      simp only [hG] at hob
      obtain ⟨r, et, hb, hsz, hlf, hj, hele, _⟩ := hob
      have hef : e < fps.length := by omega
      have hmul : e * rs2.w + rs2.w ≤ l.length * rs2.w := by
       have : (e + 1) * rs2.w ≤ l.length * rs2.w := Nat.mul_le_mul_right _ hlt
       rw [Nat.succ_mul] at this
       exact this
      have hio : isOwn (nameOf ow1 d j) := by rw [hn]; trivial
      obtain ⟨n1, n2⟩ := nrow_nodup g1 hio hGn
      obtain ⟨fpN, fp', dr, hT, hf, hnd, hcl, hS, hperm⟩ := pkAt_sound rs2 hF g1 (hele e hlt hef (fun cells hc => by cases hc)) c hsv1 (y' := z.1) (ow1 := z.2) hz
      rw [sub_length (by omega)] at hcl
      have hsm : nameOf z.2 d j = nameOf ow1 d j := by
       rcases hT.names d j with e | ⟨_, e⟩ | hz
       ·exact e
       ·rw [hn2] at e; cases e
       ·have := hz.not.1; rw [hn2] at this; exact absurd trivial this
      rw [hn, hn2] at hsm
      obtain rfl : l = l2 := by simpa using hsm.symm
      obtain ⟨hh1, hsvT⟩ := taken_state g1 hT hf
      have hdis : ∀ x ∈ fpN, (∀ i o, G1 d j i ≠ some (x, o)) := by
       intro x hx i2 o2 hg2
       obtain ⟨d', j', i', o', hi', hg', hn'⟩ := (hf x).1 hx
       obtain ⟨rfl, rfl, _⟩ := g1.apart _ _ _ _ _ _ _ _ _ hi' hio hg' hg2
       rw [hn2] at hn'
       cases hn'
      have hnest : ∀ x ∈ fps.flatten, Own G1 z.2 x := by
       intro x hx
       obtain ⟨i, o', hg'⟩ := (nest_place hGn).2 hx
       exact own_iff.2 ⟨d, j, i + 1, o', by rw [hn2]; trivial, hg'⟩
      have hpm : (fps.set e fp' ++ [dr]).flatten.Perm (fpN ++ fps.flatten) := by
       have h1 := set_perm fps fp' hef
       refine List.perm_iff_count.2 fun x => ?_
       have h1 := List.perm_iff_count.1 h1 x
       have h2 := List.perm_iff_count.1 hperm x
       simp only [List.flatten_append, List.flatten_cons, List.flatten_nil, List.append_nil, List.count_append] at h1 h2 ⊢
       omega
      have hmem : ∀ x, x ∈ (fps.set e fp' ++ [dr]).flatten ↔ x ∈ fpN ∨ x ∈ fps.flatten := fun x => by rw [hpm.mem_iff, List.mem_append]
      have hcellsN : ∀ x ∈ (fps.set e fp' ++ [dr]).flatten, ∃ r et, w.heap[x]? = some (Obj.cells r et (0, 0)) := by
       intro x hx
       rcases (hmem x).1 hx with hx | hx
       ·have hmx : x ∈ fp' ++ dr := hperm.mem_iff.2 (List.mem_append.2 (.inr hx))
        rcases List.mem_append.1 hmx with hx' | hx'
        ·exact ShR.cells rs2 hS x hx'
        ·-- its place is a thing's of one's own
         obtain ⟨d', j', i', o', hi', hg', _⟩ := (hf x).1 hx
         exact place_cells g1 hi' hg'
       ·exact hj x hx
      have hnn : nameOf z.2 d j ≠ none := by rw [hn2]; simp
      let ob1 : OB := .nrow rs2 l (some (e, List.replicate rs2.w .dead))
      have hhole : ∀ (ok : Nat → Prop) (GG : Gh) (oww : OW) (c : Nat) (hc : c < (List.replicate rs2.w SV.dead).length) (hr : o + e * rs2.w + c < r.size), SvRep w.heap ok GG oww (List.replicate rs2.w SV.dead)[c] r[o + e * rs2.w + c] := fun ok GG oww c hc hr => by
       simp only [List.getElem_replicate]; exact .dead _
      have hgetN : ∀ (i : Nat) (hi : i < l.length) (hf : i < (fps.set e fp' ++ [dr]).length) (hne : i ≠ e), ∃ hf' : i < fps.length, (fps.set e fp' ++ [dr])[i] = fps[i] := fun i hi hf hne => by
       have hi0 : i < (fps.set e fp').length := by simp; omega
       refine ⟨by omega, ?_⟩
       rw [List.getElem_append_left hi0, List.getElem_set_ne (Ne.symm hne)]
      obtain ⟨a1, a2, a3, a4⟩ := renest (F1 := FP F fpN) (F2 := F) (ob' := ob1) (ow1 := putOb z.2 d j (some ob1)) (nest' := (fps.set e fp' ++ [dr]).flatten) hh1 hn2 trivial trivial
       (show EC (some (some (OB.nrow rs2 l none))) (some (some ob1)) from ⟨rfl, rfl⟩) hGn (fun d' j' => nameOf_putOb hnn)
       (fun x hx => by
        rcases (hmem x).1 hx with hx | hx
        ·exact .inr (.inr hx)
        ·exact .inl hx)
       (hpm.nodup_iff.2 (List.nodup_append.2 ⟨hnd, n1, fun x hx y hy hxy => by
        subst hxy
        obtain ⟨i, o', hg'⟩ := (nest_place hGn).2 hy
        exact hdis x hx _ _ hg'⟩))
       (fun b' o' hg' hx => by
        rcases (hmem b').1 hx with hx | hx
        ·exact hdis b' hx 0 o' hg'
        ·exact n2 b' o' hg' hx)
       (fun b' hb' => ⟨fun hx => by
        rcases (hmem b').1 hx with hx | hx
        ·exact g1.notF b' (hf.own hx) hb'
        ·exact g1.notF b' (hT.own (hnest b' hx)) hb', .inl (.inl hb')⟩)
       (fun hok hsv => by
        refine ⟨hel, fps.set e fp' ++ [dr], fun i => by simp [Gh.put, nestP], ?_⟩
        have : (G1.put d j (nestP G1 d j (fps.set e fp' ++ [dr]).flatten)) d j 0 = some (b, o) := by simp [Gh.put, nestP, hG]
        rw [this]
        refine ⟨r, et, hb, hsz, by simp; omega, hcellsN, fun i hi hff hne => ?_, fun e' cells hc => ?_⟩
        ·have hie : i ≠ e := fun h => hne _ (by rw [h])
         obtain ⟨hf', e1⟩ := hgetN i hi hff hie
         rw [e1]
         exact ShR.mono (fun b' r' hb' hr' => hok b' r' (taken_ok hT hf hb') hr') rs2 (fun _ _ => rfl) (hele i hi hf' (fun cells hc => by cases hc))
        ·cases hc
         exact ⟨hlt, by simp, fun c hc hr => hhole _ _ _ c hc hr⟩)
      have hG2g : ∀ i, (G1.put d j (nestP G1 d j (fps.set e fp' ++ [dr]).flatten)) d j (i + 1) = ((fps.set e fp' ++ [dr]).flatten[i]?).map fun b => (b, 0) := fun i => by simp [Gh.put, nestP]
      generalize hGa : G1.put d j (nestP G1 d j (fps.set e fp' ++ [dr]).flatten) = G2 at a1 a2 a3 a4 hG2g
      generalize howA : putOb z.2 d j (some ob1) = owA at a1 a2 a3 a4
      have hnA : nameOf owA d j = some (some ob1) := by rw [← howA, nameOf_putOb hnn]; simp
      have hioA : isOwn (nameOf owA d j) := by rw [hnA]; trivial
      have hTA : Tr F G1 ow1 w G2 owA w := tr_ghost a1 (fun s' v h => a2 s' v (hsvT s' v h)) (fun b' hb' => by
       rcases (a3 b').1 hb' with ⟨hx, _⟩ | hx
       ·exact hT.own hx
       ·rcases (hmem b').1 hx with hx | hx
        ·exact hf.own hx
        ·exact hT.own (hnest b' hx)) (by rw [← howA, length_putOb, hT.len])
      have hokA : ∀ b' r', okF (FP F fpN) G1 z.2 b' → rowCells w.heap b' = some r' → okF F G2 owA b' ∧ rowCells w.heap b' = some r' := fun b' r' hb' hr' => ⟨⟨fun hx => hb'.1 (.inl hx), fun hx => by
       rcases (a3 b').1 hx with ⟨hx, _⟩ | hx
       ·exact hb'.2 hx
       ·rcases (hmem b').1 hx with hx | hx
        ·exact hb'.1 (.inr hx)
        ·exact hb'.2 (hnest b' hx)⟩, hr'⟩
      have hG2 : G2 d j 0 = some (b, o) := by rw [a4, hG]
      have hle : o + e * rs2.w + c + vs.length ≤ r.size := by omega
      have hheap : ∀ b' ∈ (fps.set e fp' ++ [dr]).flatten, (w.setCells b (o + e * rs2.w + c) vs).heap[b']? = w.heap[b']? := by
       intro b' hb'
       obtain ⟨i, o', hg'⟩ := (nest_place hG2g).2 hb'
       refine World.heap_setCells_other w b _ _ (Own.lt a1 (own_iff.2 ⟨d, j, i + 1, o', hioA, hg'⟩)) fun hbb => ?_
       subst hbb
       obtain ⟨_, _, e⟩ := a1.apart _ _ _ _ _ _ _ _ _ hioA hioA hg' hG2
       cases e
      have hW : Tr F G2 owA w G2 (putOb owA d j (some (.nrow rs2 (l.set e z.1) none))) (w.setCells b (o + e * rs2.w + c) vs) :=
       write_tr (ob' := .nrow rs2 (l.set e z.1) none) a1 hF hnA trivial ⟨rfl, by simp⟩ trivial hG2 hb hle fun hbN hsvm hokm => by
        refine ⟨hel, fps.set e fp' ++ [dr], hG2g, ?_⟩
        simp only [hG2]
        refine ⟨_, et, hbN, by rw [setA_size hle]; simpa using hsz, by simp; omega, fun b' hb' => by rw [hheap b' hb']; exact hcellsN b' hb', fun i hi hff _ => ?_, fun e' cells hc => by cases hc⟩
        have hi' : i < l.length := by simpa using hi
        have hmm : ∀ b' ∈ (fps.set e fp' ++ [dr])[i], (w.setCells b (o + e * rs2.w + c) vs).heap[b']? = w.heap[b']? := fun b' hb' => hheap b' (mem_fps hff hb')
        by_cases hie : i = e
        ·subst hie
         have hi0 : i < (fps.set i fp').length := by simp; omega
         have e1 : (fps.set i fp' ++ [dr])[i] = fp' := by rw [List.getElem_append_left hi0]; simp
         rw [e1] at hmm ⊢
         simp only [List.getElem_set_self]
         have e2 : sub (setA r (o + i * rs2.w + c) vs) (o + i * rs2.w) rs2.w = (sub r (o + i * rs2.w) rs2.w).take c ++ vs ++ (sub r (o + i * rs2.w) rs2.w).drop (c + vs.length) := by
          refine List.ext_getElem? fun q => ?_
          by_cases hq : q < rs2.w
          ·rw [sub_getElem hq, setA_get hle]
           have hs := sub_getElem (r := r) (o := o + i * rs2.w) (n := rs2.w) (i := q) hq
           have hsl : (sub r (o + i * rs2.w) rs2.w).length = rs2.w := sub_length (by omega)
           by_cases h2 : q < c
           ·rw [if_neg (by omega), List.append_assoc, List.getElem?_append_left (by simp; omega), List.getElem?_take, if_pos h2, hs]
           ·by_cases h3 : q < c + vs.length
            ·rw [if_pos (by omega), List.getElem?_append_left (by simp; omega), List.getElem?_append_right (by simp; omega)]
             congr 1
             simp
             omega
            ·rw [if_neg (by omega), List.getElem?_append_right (by simp; omega), List.getElem?_drop]
             have : c + vs.length + (q - ((sub r (o + i * rs2.w) rs2.w).take c ++ vs).length) = q := by simp; omega
             rw [this, hs]
          ·rw [sub_ge (by omega), List.getElem?_eq_none]
           have hsl : (sub r (o + i * rs2.w) rs2.w).length = rs2.w := sub_length (by omega)
           simp
           omega
         rw [e2]
         exact ShR.mono (fun b' r' hb' hr' => by
          obtain ⟨k1, k2⟩ := hokA b' r' hb' hr'
          exact hokm b' r' k1 k2) rs2 hmm hS
        ·simp only [List.getElem_set_ne (Ne.symm hie)]
         obtain ⟨hf', e1⟩ := hgetN i hi' hff hie
         rw [e1] at hmm ⊢
         have e2 : sub (setA r (o + e * rs2.w + c) vs) (o + i * rs2.w) rs2.w = sub r (o + i * rs2.w) rs2.w := by
          rcases Nat.lt_or_ge i e with hlt | hge
          ·have : (i + 1) * rs2.w ≤ e * rs2.w := Nat.mul_le_mul_right _ hlt
           rw [Nat.add_mul, Nat.one_mul] at this
           exact sub_setA_before hle (by omega)
          ·have : (e + 1) * rs2.w ≤ i * rs2.w := Nat.mul_le_mul_right _ (by omega)
           rw [Nat.add_mul, Nat.one_mul] at this
           exact sub_setA_after hle (by omega)
         rw [e2]
         exact ShR.mono (fun b' r' hb' hr' => by
          obtain ⟨k1, k2⟩ := hokA b' r' (taken_ok hT hf hb') hr'
          exact hokm b' r' k1 k2) rs2 hmm (hele i hi' hf' (fun cells hc => by cases hc))
      have hpp : putOb owA d j (some (.nrow rs2 (l.set e z.1) none)) = putOb z.2 d j (some (.nrow rs2 (l.set e z.1) none)) := by
       rw [← howA, putOb_putOb]
      rw [hpp] at hW
      exact ⟨_, _, G2, h, run_storeAt_cells hi hb hvs h1 hl hle, (hT1.trans hTA).trans hW⟩
     ·exact h.elim
    ·exact h.elim
   ·exact h.elim
 ·split at h
  ·rename_i s' l p' hg
   obtain ⟨hc, h⟩ := h
   have hc : e = p'.1 := by simpa using hc
   obtain ⟨e0, cells⟩ := p'
   have hc : e = e0 := hc
   subst hc
   split at h
   ·rename_i cells' hcells
    obtain ⟨hle, rfl⟩ := setCells_some hcells
    have hn := nameOf_of_getOb hg
    cases hp with
    | rp hp =>
    simp only [hn] at hp
    obtain ⟨_, b, o, hG, rfl⟩ := hp
    have hob := hh.obs d j _ hn
    obtain ⟨_, fps, _, hob⟩ := hob
    simp only [hG] at hob
    obtain ⟨r, et, hb, _⟩ := hob
    obtain ⟨k1, k2⟩ := write_open hh hF hn hsv hG hb hle
    exact ⟨_, _, G, h, run_storeAt_cells hi hb hvs h1 hl k1, k2⟩
   ·exact h.elim
  ·exact h.elim
end
end Go.Pev
end

section
/-
 PEV, part 15d: nested rows made and grown.
-/
namespace Go.Pev
section
variable {F : Nat → Prop} {G : Gh} {ow ow1 ow2 : OW} {w : World} {P : Program}
theorem hrep_alloc (hh : HRep F G ow w.heap) {w1 : World} (h1 : w1.heap = w.heap) (c : Obj) : HRep (FP F [w.heap.size]) G ow (w1.alloc c).heap ∧ (∀ s v, Sv F G ow w.heap s v → Sv (FP F [w.heap.size]) G ow (w1.alloc c).heap s v) ∧
  ∀ b r, okF F G ow b → rowCells w.heap b = some r → okF (FP F [w.heap.size]) G ow b ∧ rowCells (w1.alloc c).heap b = some r := by
 have old : ∀ b, b < w.heap.size → (w1.alloc c).heap[b]? = w.heap[b]? := fun b hb => by rw [heap_alloc_old w1 c (by rw [h1]; exact hb), h1]
 have hrow : ∀ b r, rowCells w.heap b = some r → rowCells (w1.alloc c).heap b = some r := fun b r hr => by
  unfold rowCells at hr ⊢
  rw [old b (rowCells_lt hr)]
  exact hr
 have hok : ∀ b r, okF F G ow b → rowCells w.heap b = some r → okF (FP F [w.heap.size]) G ow b ∧ rowCells (w1.alloc c).heap b = some r := fun b r hb hr => ⟨⟨fun hx => by
  rcases hx with hx | hx
  ·exact hb.1 hx
  ·have := rowCells_lt hr
   have : b = w.heap.size := by simpa using hx
   omega, hb.2⟩, hrow b r hr⟩
 have hsz : ∀ b r, rowCells w.heap b = some r → ∃ r', rowCells (w1.alloc c).heap b = some r' ∧ r'.size = r.size := fun b r hr => ⟨r, hrow b r hr, rfl⟩
 refine ⟨⟨fun d j o hn => ?_, hh.apart, fun b hb hx => ?_⟩, fun s v e => SvRep.mono (fun _ _ _ => rfl) (fun _ _ => .refl _) hok hsz e, hok⟩
 ·exact ObRep.mono (fun _ _ _ => rfl) (fun _ _ => .refl _) hok hsz rfl (fun ho i b cc hg => old b (Own.lt hh (own_iff.2 ⟨d, j, i, cc, by rw [hn]; exact ho, hg⟩))) (hh.obs d j o hn)
 ·rcases hx with hx | hx
  ·exact hh.notF b hb hx
  ·have := Own.lt hh hb
   have : b = w.heap.size := by simpa using hx
   omega
theorem hrep_write (hh : HRep F G ow w.heap) {b p : Nat} {vs : List Value} {r : Array Value} {et : TypeId} (hFb : F b) (hb : w.heap[b]? = some (.cells r et (0, 0))) (hp : p + vs.length ≤ r.size) : HRep F G ow (w.setCells b p vs).heap ∧ (∀ s v, Sv F G ow w.heap s v → Sv F G ow (w.setCells b p vs).heap s v) ∧
  ∀ b' r', okF F G ow b' → rowCells w.heap b' = some r' → okF F G ow b' ∧ rowCells (w.setCells b p vs).heap b' = some r' := by
 have hb' := heap_setCells vs p w hb hp
 have hok : ∀ b' r', okF F G ow b' → rowCells w.heap b' = some r' → okF F G ow b' ∧ rowCells (w.setCells b p vs).heap b' = some r' := fun b' r' h hr => ⟨h, by
  unfold rowCells
  rw [World.heap_setCells_other w b _ _ (rowCells_lt hr) fun e => h.1 (e ▸ hFb)]
  exact hr⟩
 have hsz : ∀ b1 r1, rowCells w.heap b1 = some r1 → ∃ r', rowCells (w.setCells b p vs).heap b1 = some r' ∧ r'.size = r1.size := fun b1 r1 hr => by
  by_cases e : b1 = b
  ·subst e
   rw [rowCells_of hb] at hr
   cases hr
   exact ⟨_, rowCells_of hb', setA_size hp⟩
  ·refine ⟨r1, ?_, rfl⟩
   unfold rowCells
   rw [World.heap_setCells_other w b _ _ (rowCells_lt hr) e]
   exact hr
 refine ⟨⟨fun d j o hn => ?_, hh.apart, hh.notF⟩, fun s v e => SvRep.mono (fun _ _ _ => rfl) (fun _ _ => .refl _) hok hsz e, hok⟩
 exact ObRep.mono (fun _ _ _ => rfl) (fun _ _ => .refl _) hok hsz rfl (fun ho i b1 cc hg => by
  have hob : Own G ow b1 := own_iff.2 ⟨d, j, i, cc, by rw [hn]; exact ho, hg⟩
  exact World.heap_setCells_other w b _ _ (Own.lt hh hob) fun e => hh.notF b1 hob (e ▸ hFb)) (hh.obs d j o hn)
theorem hrep_drop {F1 F2 : Nat → Prop} {h : Array Obj} (hF : ∀ b, F2 b → F1 b) (hh : HRep F1 G ow h) : HRep F2 G ow h ∧ (∀ s v, Sv F1 G ow h s v → Sv F2 G ow h s v) ∧ ∀ b r, okF F1 G ow b → rowCells h b = some r → okF F2 G ow b ∧ rowCells h b = some r := by
 have hok : ∀ b r, okF F1 G ow b → rowCells h b = some r → okF F2 G ow b ∧ rowCells h b = some r := fun b r hb hr => ⟨⟨fun hx => hb.1 (hF b hx), hb.2⟩, hr⟩
 refine ⟨⟨fun d j o hn => ?_, hh.apart, fun b hb hx => hh.notF b hb (hF b hx)⟩, fun s v e => SvRep.mono (fun _ _ _ => rfl) (fun _ _ => .refl _) hok (fun b r hr => ⟨r, hr, rfl⟩) e, hok⟩
 exact ObRep.mono (fun _ _ _ => rfl) (fun _ _ => .refl _) hok (fun b r hr => ⟨r, hr, rfl⟩) rfl (fun _ _ _ _ _ => rfl) (hh.obs d j o hn)
theorem res_rows (hT : Taken ow ow1) {w' : World} {fp : List Nat} (hW : HRep (FP F fp) G ow1 w'.heap) (hsvW : ∀ s v, Sv F G ow w.heap s v → Sv (FP F fp) G ow1 w'.heap s v) (hK : Kept (Own G ow) w w')
  (hfp : ∀ b ∈ fp, ¬ F b ∧ (Own G ow b ∨ w.heap.size ≤ b)) (hnd : fp.Nodup) {s : Sh} {l : List s.T} {v : Value} (hS : ShR w'.heap (okF (FP F fp) G ow1) (.rows s) l [v] fp) {d : Nat} (hn : newObs ow1 d [.nrow s l none] = some ow2) :
  ∃ G2, Tr F G ow w G2 ow2 w' ∧ Sv F G2 ow2 w'.heap (.wh d 0 0 []) v := by
 obtain ⟨G2, c1, c2, c3, c4, c5⟩ := state_new (s := .rows s) (x := l) hW hS hnd (fun b hb => (hfp b hb).1) (d := d) hn
 obtain ⟨hlen, _, _⟩ := newObs_some hn
 refine ⟨G2, ⟨c1, fun s v h => c3 s v (hsvW s v h), hK, fun b hb => ?_, by rw [hlen, hT.len]⟩, ?_⟩
 ·rcases (c4 b).1 hb with hb | hb
  ·exact .inl (hT.own hb)
  ·exact (hfp b hb).2
 ·obtain ⟨v', hv, h⟩ := c2.single'
  have hv : v = v' := by simpa using hv
  rw [hv]
  exact h
theorem elemOkN_some {e : TypeId} {s : Sh} (h : elemOkN P e s = true) : s.elem = true ∧ 0 < s.w ∧ s.w = sizeT P e ∧ 0 < bytesT P e ∧ ∃ i z, P.info? e = some i ∧ i.zero = some z ∧ i.size = s.w ∧ bytesT P e = i.bytes ∧ z.cells.size = s.w := by
 unfold elemOkN at h
 simp only [Bool.and_eq_true, decide_eq_true_eq] at h
 obtain ⟨⟨⟨⟨h1, h2⟩, h3⟩, h4⟩, h5⟩ := h
 refine ⟨h1, h2, h3, h4, ?_⟩
 split at h5
 ·rename_i z hz
  cases hi : P.info? e with
  | none => simp [hi] at hz
  | some i =>
   simp [hi] at hz
   exact ⟨i, z, rfl, hz, by rw [h3]; simp [sizeT, Program.cellsOf, hi], by simp [bytesT, Program.bytesOf, hi], by simpa using h5⟩
 ·cases h5
theorem pks_sound {e : TypeId} {s : Sh} : (svs : List SV) → {F : Nat → Prop} → {ow ow1 : OW} → (∀ b, F b → b < w.heap.size) → HRep F G ow w.heap → {vs : List Value} → Svs F G ow w.heap svs vs → {l : List s.T} → pks P e s svs ow = some (l, ow1) →
  ∃ fps : List (List Nat), Taken ow ow1 ∧ FpOk G ow ow1 fps.flatten ∧ fps.flatten.Nodup ∧ l.length = vs.length ∧ fps.length = l.length ∧
   ∀ i (h1 : i < l.length) (h2 : i < vs.length) (h3 : i < fps.length), ShR w.heap (okF (FP F fps.flatten) G ow1) s l[i] vs[i].cells.toList fps[i]
 | [], F, ow, ow1, hF, hh, vs, hs, l, h => by
  simp only [pks, Option.some.injEq, Prod.mk.injEq] at h
  obtain ⟨rfl, rfl⟩ := h
  have : vs = [] := List.eq_nil_of_length_eq_zero hs.1.symm
  subst this
  exact ⟨[], .refl _, .refl _ _, List.nodup_nil, rfl, rfl, fun i h1 => by simp at h1⟩
 | v :: r, F, ow, ow1, hF, hh, vs, hs, l, h => by
  simp only [pks] at h
  obtain ⟨u, us, rfl, hu, hus⟩ := hs.uncons
  split at h
  ·rename_i cs hcs
   split at h
   ·rename_i x hx
    split at h
    ·rename_i y hy
     simp only [Option.some.injEq, Prod.mk.injEq] at h
     obtain ⟨rfl, rfl⟩ := h
     obtain ⟨ws, hws, hsv, _, _⟩ := cellsOfSV_sound hu hcs
     obtain ⟨f1, t1, o1, n1, r1⟩ := pk_sound s (x := x.1) (ow1 := x.2) hF hh hsv hx
     obtain ⟨hh1, hsv1⟩ := taken_state hh t1 o1
     have hF1 : ∀ b', FP F f1 b' → b' < w.heap.size := by
      intro b' hb'
      rcases hb' with hb' | hb'
      ·exact hF b' hb'
      ·exact Own.lt hh (o1.own hb')
     obtain ⟨fps, t2, o2, n2, l2, l3, r2⟩ := pks_sound r (l := y.1) (ow1 := y.2) hF1 hh1 ⟨hus.1, fun i h1 h2 => hsv1 _ _ (hus.2 i h1 h2)⟩ hy
     refine ⟨f1 :: fps, t1.trans t2, fun z => ?_, ?_, by simp [l2], by simp [l3], fun i h1 h2 h3 => ?_⟩
     ·rw [TkB.trans t1 t2, ← o1 z, ← o2 z, List.flatten_cons, List.mem_append]
     ·rw [List.flatten_cons]
      refine List.nodup_append.2 ⟨n1, n2, fun x hx y hy hxy => ?_⟩
      subst hxy
      exact o1.notOwn hh t1 hx (o2.own hy)
     ·cases i with
      | zero =>
       simp only [List.getElem_cons_zero, hws]
       exact ShR.mono (fun b' r' hb' hr' => ⟨okF_congr (fun b'' hx => by rw [List.flatten_cons] at hx; exact fp_app.2 hx) (taken_ok t2 o2 hb'), hr'⟩) s (fun _ _ => rfl) r1
      | succ i =>
       simp only [List.getElem_cons_succ]
       exact ShR.mono (fun b' r' hb' hr' => ⟨okF_congr (fun b'' hx => by rw [List.flatten_cons] at hx; exact fp_app.2 hx) hb', hr'⟩) s (fun _ _ => rfl) (r2 i (by simpa using h1) (by simpa using h2) (by simpa using h3))
    ·cases h
   ·cases h
  ·cases h
theorem run_buildCells {t e : TypeId} {i : TypeInfo} {z : Value} {n : Nat} {vps : List (Nat × Value)} (hu : P.underlying t = some (.slice e)) (hi : P.info? e = some i) (hz : i.zero = some z) (hpos : 0 < i.size) (hr : vps.map (·.1) = List.range n) (hcap : n * i.size ≤ 16777216) (hvc : ∀ v ∈ vps.map (·.2), v.cells.size = i.size) :
  ∃ r, (Instr.buildSlice t n vps.toArray).run P w = .ok (.slice (some ⟨w.heap.size, 0, none⟩) n n) (w.alloc (.cells r e)) ∧ r.size = n * i.size ∧ ∀ j (hj : j < (vps.map (·.2)).length), sub r (j * i.size) i.size = ((vps.map (fun x : Nat × Value => x.2))[j]'hj).cells.toList := by
 have hnl : vps.length = n := by
  have := congrArg List.length hr
  simpa using this
 have hvs : vps = ((vps.map (·.2)).zipIdx 0).map fun x => (x.2, x.1) := zip_parts vps 0 (by rw [hr, hnl, List.range_eq_range'])
 have hgo : ∀ zz : Array Value, ∃ r, Instr.fill (fun j => some (j * i.size, i.size)) ((Array.range (n * i.size)).map (zz[· % zz.size]!)) vps = some r ∧ r.size = n * i.size ∧ ∀ j (hj : j < (vps.map (·.2)).length), sub r (j * i.size) i.size = ((vps.map (fun x : Nat × Value => x.2))[j]'hj).cells.toList := by
  intro zz
  obtain ⟨r, hr, hrs, hrk⟩ := Great.fill_dense hpos (vps.map (·.2)) 0 ((Array.range (n * i.size)).map (zz[· % zz.size]!)) hvc (by simp [hnl])
  rw [← hvs] at hr
  simp only [Array.size_map, Array.size_range] at hrs
  refine ⟨r, hr, hrs, fun j hjv => ?_⟩
  have hjn : (j + 1) * i.size ≤ n * i.size := Nat.mul_le_mul_right _ (by simp at hjv; omega)
  rw [Nat.add_mul, Nat.one_mul] at hjn
  apply List.ext_getElem?
  intro q
  have hcsz := hvc _ (List.getElem_mem hjv)
  by_cases hq : q < i.size
  ·rw [sub_getElem hq, hrk]
   simp only [Nat.zero_mul, Nat.zero_le, Nat.zero_add, true_and, List.length_map, hnl]
   rw [if_pos (by omega)]
   have e2 : (j * i.size + q) / i.size = j := by rw [Nat.mul_comm, Nat.mul_add_div hpos, Nat.div_eq_of_lt hq]; rfl
   have e3 : (j * i.size + q) % i.size = q := by rw [Nat.mul_comm, Nat.mul_add_mod, Nat.mod_eq_of_lt hq]
   rw [e2, e3, Nat.sub_zero, List.getElem?_eq_getElem hjv]
   simp
  ·rw [List.getElem?_eq_none (by rw [sub_length (by rw [hrs]; omega)]; omega), List.getElem?_eq_none (by simp only [Array.length_toList]; rw [hcsz]; omega)]
 by_cases h0 : n * i.size = 0
 ·obtain ⟨r, hr, hrs, hel⟩ := hgo #[]
  refine ⟨r, ?_, hrs, hel⟩
  simp only [h0] at hr
  have hnil : ∀ f : Nat → Value, (Array.range 0).map f = #[] := fun f => by simp
  rw [hnil] at hr
  simp only [Instr.buildSlice, Sem.run_bind, run_underlying hu, Result.andThen_ok, sizeOf, typeInfo, run_program, hi, Sem.run_pure, h0, if_true]
  simp only [hnil, hr]
  simp [newRow]
 ·obtain ⟨r, hr, hrs, hel⟩ := hgo z.cells
  refine ⟨r, ?_, hrs, hel⟩
  have hcap' : ¬ (16777216 < n * i.size) := by omega
  simp only [Instr.buildSlice, Sem.run_bind, run_underlying hu, Result.andThen_ok, sizeOf, typeInfo, run_program, hi, Sem.run_pure]
  simp [h0, hcap', run_zeroValue hi hz, hr, newRow]
theorem fp_eq {f : List Nat} {b : Nat} : FP (FP F f) [b] = FP F (b :: f) := by
 funext x
 exact propext ⟨fun h => by
  rcases h with (h | h) | h
  ·exact .inl h
  ·exact .inr (List.mem_cons_of_mem _ h)
  ·exact .inr (by simpa using Or.inl h), fun h => by
  rcases h with h | h
  ·exact .inl (.inl h)
  ·rcases List.mem_cons.1 h with h | h
   ·exact .inr (by simpa using h)
   ·exact .inl (.inr h)⟩
theorem kept_new (I : Nat → Prop) {w1 : World} (h1 : w1.heap = w.heap) (hos : w1.os = w.os) (hout : w1.output = w.output) (htape : w1.tape = w.tape) (c : Obj) : Kept I w (w1.alloc c) :=
 ⟨by simp [h1], fun b hb _ => by rw [heap_alloc_old w1 c (by rw [h1]; exact hb), h1], fun b r et f h => ⟨r, by rw [heap_alloc_old w1 c (by rw [h1]; exact (Array.getElem?_eq_some_iff.1 h).1), h1]; exact h, rfl⟩, hos, hout, htape⟩
theorem evBuildN_sound {t : TypeId} {n d : Nat} {ps : List (Nat × SV)} {vps : List (Nat × Value)} {s : Sh} (hh : HRep F G ow w.heap) (hF : ∀ b, F b → b < w.heap.size) (h1 : ps.map (·.1) = vps.map (·.1)) (h2 : Svs F G ow w.heap (ps.map (·.2)) (vps.map (·.2)))
  {Q : SV × OW → Prop} (h : (evBuildN P t n ps s ow d).can Q) : Res P F G ow w Q (Instr.buildSlice t n vps.toArray) := by
 unfold evBuildN at h
 split at h
 ·exact h.elim
 rename_i e he
 split at h
 ·rename_i hc
  obtain ⟨hr, hcap, hok⟩ := hc
  obtain ⟨hel, hpos, hks, hbpos, i, z, hi, hz, hsz, hby, _⟩ := elemOkN_some hok
  split at h
  ·rename_i y hy
   split at h
   ·rename_i ow' hn
    have hu := elemT_some he
    obtain ⟨fps, hT, hf, hnd, hl1, hl2, hrep⟩ := pks_sound (P := P) _ (l := y.1) (ow1 := y.2) hF hh h2 hy
    have hnl : vps.length = n := by
     have := congrArg List.length hr
     simp at this
     have h3 := congrArg List.length h1
     simp at h3
     omega
    have hyl : y.1.length = n := by rw [hl1]; simp [hnl]
    have hvc : ∀ v ∈ vps.map (·.2), v.cells.size = i.size := by
     intro v hv
     obtain ⟨j, hj, rfl⟩ := List.getElem_of_mem hv
     have := ShR.length s (hrep j (by rw [hl1]; exact hj) hj (by rw [hl2, hl1]; exact hj))
     rw [hsz, ← this]
     simp
    obtain ⟨r, hrun, hrs, hcells⟩ := run_buildCells (w := w) hu hi hz (by omega) (by rw [← h1]; exact hr) (by rw [hsz, hks]; exact hcap) hvc
    obtain ⟨hh1, hsv1⟩ := taken_state hh hT hf
    obtain ⟨a1, a2, a3⟩ := hrep_alloc hh1 (w1 := w) rfl (.cells r e)
    have hnew : (w.alloc (.cells r e)).heap[w.heap.size]? = some (.cells r e) := heap_alloc_new _ _
    rw [fp_eq] at a1
    have hfo : ∀ b ∈ fps.flatten, Own G ow b := fun b hb => hf.own hb
    have hold : ∀ b ∈ fps.flatten, (w.alloc (.cells r e)).heap[b]? = w.heap[b]? := fun b hb => heap_alloc_old w _ (Own.lt hh (hfo b hb))
    have hS : ShR (w.alloc (.cells r e)).heap (okF (FP F (w.heap.size :: fps.flatten)) G y.2) (.rows s) y.1 [.slice (some ⟨w.heap.size, 0, none⟩) n n] (w.heap.size :: fps.flatten) := by
     refine ⟨_, rfl, hel, _, n, by rw [hyl], by omega, .inr ⟨w.heap.size, 0, r, e, fps, rfl, rfl, hnew, by rw [hrs, hsz]; omega, by omega, fun b hb => ?_, fun j hj hjf => ?_⟩⟩
     ·rw [hold b hb]
      obtain ⟨d', j', i', o', hi', hg', _⟩ := (hf b).1 hb
      exact place_cells hh hi' hg'
     ·have hjv : j < (vps.map (·.2)).length := by rw [← hl1]; exact hj
      have e1 := hcells j hjv
      rw [hsz] at e1
      rw [Nat.zero_add, e1]
      refine ShR.mono (fun b' r' hb' hr' => ?_) s (fun b hb => hold b (mem_fps hjf hb)) (hrep j hj hjv hjf)
      have := a3 b' r' hb' hr'
      rw [fp_eq] at this
      exact this
    obtain ⟨G2, k1, k2⟩ := res_rows (F := F) hT a1 (fun s v h => by have := a2 s v (hsv1 s v h); rw [fp_eq] at this; exact this) (kept_new _ rfl rfl rfl rfl _) (fun b hb => by
     rcases List.mem_cons.1 hb with rfl | hb
     ·exact ⟨fun hx => Nat.lt_irrefl _ (hF _ hx), .inr (Nat.le_refl _)⟩
     ·exact ⟨hh.notF b (hfo b hb), .inl (hfo b hb)⟩) (List.nodup_cons.2 ⟨fun hb => Nat.lt_irrefl _ (Own.lt hh (hfo _ hb)), hnd⟩) hS hn
    exact ⟨_, _, _, _, _, h, hrun, k1, k2⟩
   ·exact h.elim
  ·exact h.elim
 ·exact h.elim
theorem ShR.one {h : Array Obj} {ok : Nat → Prop} : (s : Sh) → s.elem = true → {x : s.T} → {vs : List Value} → {fp : List Nat} → ShR h ok s x vs fp → ∀ u ∈ vs, u.oneCell' = true
 | .pur kd, hs, _, _, _, e => by
  obtain ⟨v, rfl, _, _, _, hc⟩ := e
  have hk : kd.isSt = false := by simpa using (Bool.and_eq_true _ _ ▸ hs : kd.noOwn = true ∧ (!kd.isSt) = true).2
  intro u hu
  have : u = v := by simpa using hu
  rw [this]; exact hc hk
 | .own _, _, _, _, _, e => by
  obtain ⟨v, rfl, _, a, c, rfl, _⟩ := e
  intro u hu
  rw [List.mem_singleton] at hu
  subst hu
  rfl
 | .rows _, _, _, _, _, e => by
  obtain ⟨v, rfl, _, a, c, rfl, _⟩ := e
  intro u hu
  rw [List.mem_singleton] at hu
  subst hu
  rfl
 | .nil, _, _, _, _, e => by rw [e.1]; intro u hu; simp at hu
 | .cons a b, hs, _, _, _, e => by
  simp only [Sh.elem, Bool.and_eq_true] at hs
  obtain ⟨v, r, f1, f2, rfl, rfl, e1, e2⟩ := e
  intro u hu
  rcases List.mem_cons.1 hu with rfl | hu
  ·exact ShR.one a hs.1.2 e1 _ (by simp)
  ·exact ShR.one b hs.2 e2 u hu
 | .row _, hs, _, _, _, _ => by simp [Sh.elem] at hs
 | .nrw _, hs, _, _, _, _ => by simp [Sh.elem] at hs
 | .box _, hs, _, _, _, _ => by simp [Sh.elem] at hs
 | .agg _, hs, _, _, _, _ => by simp [Sh.elem] at hs
 | .fn _ _ _, hs, _, _, _, _ => by simp [Sh.elem] at hs
 | .ign, hs, _, _, _, _ => by simp [Sh.elem] at hs
 | .nl, hs, _, _, _, _ => by simp [Sh.elem] at hs
structure Lies (h : Array Obj) (ok : Nat → Prop) (s : Sh) (l : List s.T) (v : Value) (fp : List Nat) (cs : List Value) (fps : List (List Nat)) (junk : List Nat) : Prop where
 val : ∃ a c, v = .slice a l.length c ∧ l.length ≤ c ∧ ((a = none ∧ l = [] ∧ c = 0 ∧ fp = [] ∧ fps = [] ∧ junk = []) ∨ ∃ b o r et, a = some ⟨b, o, none⟩ ∧ h[b]? = some (.cells r et (0, 0)) ∧ o + c * s.w ≤ r.size ∧ cs = sub r o (l.length * s.w) ∧ fp.Perm (b :: (fps.flatten ++ junk)))
 len : fps.length = l.length
 clen : cs.length = l.length * s.w
 el : ∀ i (hi : i < l.length) (hf : i < fps.length), ShR h ok s l[i] ((cs.drop (i * s.w)).take s.w) fps[i]
theorem lies_of {h : Array Obj} {ok : Nat → Prop} {s : Sh} {l : List s.T} {v : Value} {fp : List Nat} (e : ShR h ok (.rows s) l [v] fp) : ∃ cs fps junk, Lies h ok s l v fp cs fps junk := by
 obtain ⟨v', hv, hel, a, c, hv2, hlc, e⟩ := e
 have hv : v = v' := by simpa using hv
 subst hv
 rcases e with ⟨rfl, rfl, rfl, rfl⟩ | ⟨b, o, r, et, fps, rfl, rfl, hb, hc, hl, hj, he⟩
 ·exact ⟨[], [], [], ⟨_, _, hv2, hlc, .inl ⟨rfl, rfl, rfl, rfl, rfl, rfl⟩⟩, rfl, by simp, fun i hi => by simp at hi⟩
 ·have hle : l.length * s.w ≤ c * s.w := Nat.mul_le_mul_right _ hlc
  have hcl : (sub r o (l.length * s.w)).length = l.length * s.w := sub_length (by omega)
  refine ⟨sub r o (l.length * s.w), fps.take l.length, (fps.drop l.length).flatten, ⟨_, _, hv2, hlc, .inr ⟨b, o, r, et, rfl, hb, hc, rfl, ?_⟩⟩, by simp; omega, hcl, fun i hi hf => ?_⟩
  ·rw [← List.flatten_append, List.take_append_drop]
  ·have hb2 : (i + 1) * s.w ≤ l.length * s.w := Nat.mul_le_mul_right _ hi
   rw [Nat.add_mul, Nat.one_mul] at hb2
   have := he i hi (by omega)
   rw [sub_sub (n := l.length * s.w) (by omega)] at this
   simpa using this
theorem rows_of_cells {h : Array Obj} {ok : Nat → Prop} {s : Sh} (hel : s.elem = true) {l : List s.T} {b o c : Nat} {r : Array Value} {et : TypeId} (hb : h[b]? = some (.cells r et (0, 0))) (hlc : l.length ≤ c) (hc : o + c * s.w ≤ r.size) {fps : List (List Nat)} (hl : l.length ≤ fps.length)
  (hj : ∀ b' ∈ fps.flatten, ∃ r et, h[b']? = some (Obj.cells r et (0, 0))) {cs : List Value} (hcs : sub r o (l.length * s.w) = cs) (he : ∀ i (hi : i < l.length) (hf : i < fps.length), ShR h ok s l[i] ((cs.drop (i * s.w)).take s.w) fps[i]) :
  ShR h ok (.rows s) l [.slice (some ⟨b, o, none⟩) l.length c] (b :: fps.flatten) := by
 have hle : l.length * s.w ≤ c * s.w := Nat.mul_le_mul_right _ hlc
 refine ⟨_, rfl, hel, _, _, rfl, hlc, .inr ⟨b, o, r, et, fps, rfl, rfl, hb, hc, hl, hj, fun i hi hf => ?_⟩⟩
 have hb2 : (i + 1) * s.w ≤ l.length * s.w := Nat.mul_le_mul_right _ hi
 rw [Nat.add_mul, Nat.one_mul] at hb2
 rw [sub_sub (n := l.length * s.w) (by omega), hcs]
 exact he i hi hf
theorem lies_append {h : Array Obj} {ok : Nat → Prop} {s : Sh} {l1 l2 : List s.T} {c1 c2 : List Value} {f1 f2 : List (List Nat)} (n1 : f1.length = l1.length) (k1 : c1.length = l1.length * s.w)
  (e1 : ∀ i (hi : i < l1.length) (hf : i < f1.length), ShR h ok s l1[i] ((c1.drop (i * s.w)).take s.w) f1[i]) (e2 : ∀ i (hi : i < l2.length) (hf : i < f2.length), ShR h ok s l2[i] ((c2.drop (i * s.w)).take s.w) f2[i]) (junk : List (List Nat)) (n2 : f2.length = l2.length) :
  ∀ i (hi : i < (l1 ++ l2).length) (hf : i < (f1 ++ f2 ++ junk).length), ShR h ok s (l1 ++ l2)[i] (((c1 ++ c2).drop (i * s.w)).take s.w) (f1 ++ f2 ++ junk)[i] := by
 intro i hi hf
 rw [List.length_append] at hi
 have hff : (f1 ++ f2 ++ junk)[i] = (f1 ++ f2)[i]'(by simp; omega) := List.getElem_append_left (by simp; omega)
 rw [hff]
 by_cases hlt : i < l1.length
 ·have hb2 : (i + 1) * s.w ≤ l1.length * s.w := Nat.mul_le_mul_right _ hlt
  rw [Nat.add_mul, Nat.one_mul] at hb2
  rw [List.getElem_append_left hlt, List.getElem_append_left (by omega)]
  have e : ((c1 ++ c2).drop (i * s.w)).take s.w = (c1.drop (i * s.w)).take s.w := by
   rw [List.drop_append_of_le_length (by omega), List.take_append_of_le_length (by simp; omega)]
  rw [e]
  exact e1 i hlt (by omega)
 ·rw [List.getElem_append_right (by omega), List.getElem_append_right (by omega)]
  have e : (c1 ++ c2).drop (i * s.w) = c2.drop ((i - l1.length) * s.w) := by
   have : i * s.w = c1.length + (i - l1.length) * s.w := by rw [k1, ← Nat.add_mul]; congr 1; omega
   rw [this, List.drop_length_add_append]
  have e' : i - f1.length = i - l1.length := by omega
  simp only [e, e']
  exact e2 (i - l1.length) (by omega) (by omega)
theorem oneN_cells {h : Array Obj} {ok : Nat → Prop} {s : Sh} (hel : s.elem = true) (hpos : 0 < s.w) {l : List s.T} {cs : List Value} {fps : List (List Nat)} (hc : cs.length = l.length * s.w) (hl : fps.length = l.length)
  (he : ∀ i (hi : i < l.length) (hf : i < fps.length), ShR h ok s l[i] ((cs.drop (i * s.w)).take s.w) fps[i]) : ∀ u ∈ cs, u.oneCell' = true := by
 intro u hu
 obtain ⟨q, hq, rfl⟩ := List.mem_iff_getElem.1 hu
 have hdiv : q / s.w < l.length := (Nat.div_lt_iff_lt_mul hpos).2 (by omega)
 have hm := Nat.div_add_mod q s.w
 have hmod := Nat.mod_lt q hpos
 refine ShR.one s hel (he (q / s.w) hdiv (by omega)) _ (List.mem_iff_getElem?.2 ⟨q % s.w, ?_⟩)
 rw [List.getElem?_take, if_pos hmod, List.getElem?_drop, Nat.mul_comm, hm, List.getElem?_eq_getElem hq]
theorem sub_add {r : Array Value} (o m k : Nat) : sub r o (m + k) = sub r o m ++ sub r (o + m) k := by
 simp [sub, List.take_add, List.drop_drop]
theorem append_core {t tx ty e e' : TypeId} {sh : Sh} {d : Nat} (hh : HRep F G ow w.heap) (hF : ∀ b, F b → b < w.heap.size) (hu : P.underlying t = some (.slice e)) (hte : P.underlying tx = some (.slice e')) (hok : elemOkN P e sh = true)
  {F1 : Nat → Prop} {owB ow' : OW} (hT : Taken ow owB) (hhB : HRep F1 G owB w.heap) (hsvB : ∀ s v, Sv F G ow w.heap s v → Sv F1 G owB w.heap s v) (hFF : ∀ b, F b → F1 b)
  {l1 l2 : List sh.T} {c1 c2 : List Value} {f1 f2 J : List (List Nat)} (k1 : c1.length = l1.length * sh.w) (k2 : c2.length = l2.length * sh.w) (hnlen : l1.length + l2.length ≤ (f1 ++ f2 ++ J).length)
  (hE : ∀ i (hi : i < (l1 ++ l2).length) (hf : i < (f1 ++ f2 ++ J).length), ShR w.heap (okF F1 G owB) sh (l1 ++ l2)[i] (((c1 ++ c2).drop (i * sh.w)).take sh.w) (f1 ++ f2 ++ J)[i])
  (hndF : (f1 ++ f2 ++ J).flatten.Nodup) (hg : ∀ b ∈ (f1 ++ f2 ++ J).flatten, F1 b ∧ Own G ow b) {a1 : Option Addr} {cap1 : Nat} {xv : Value}
  (hv1 : (a1 = none ∧ l1 = [] ∧ cap1 = 0) ∨ ∃ b o r et, a1 = some ⟨b, o, none⟩ ∧ w.heap[b]? = some (.cells r et (0, 0)) ∧ o + cap1 * sh.w ≤ r.size ∧ c1 = sub r o (l1.length * sh.w) ∧ F1 b ∧ Own G ow b ∧ b ∉ (f1 ++ f2 ++ J).flatten)
  (hlc1 : l1.length ≤ cap1) (hsrc : Src P sh.w tx xv l2.length c2 w) (hby : (l1.length + l2.length) * bytesT P e ≤ maxBytes) (hn : newObs owB d [.nrow sh (l1 ++ l2) none] = some ow') {Q : SV × OW → Prop} (h : Q (.wh d 0 0 [], ow')) :
  Res P F G ow w Q (Builtin.append_ #[t, tx] ty #[.slice a1 l1.length cap1, xv]) := by
 obtain ⟨hel, hpos, hks, hbpos, i, z, hi, hz, hsz, hbe, hzs⟩ := elemOkN_some hok
 have hcells : ∀ b ∈ (f1 ++ f2 ++ J).flatten, ∃ r et, w.heap[b]? = some (Obj.cells r et (0, 0)) := fun b hb => by
  obtain ⟨d', j', i', o', hi', hg'⟩ := own_iff.1 (hg b hb).2
  exact place_cells hh hi' hg'
 have hsub : ∀ (b : Nat), (b = w.heap.size ∨ F1 b) → ∀ x, FP F (b :: (f1 ++ f2 ++ J).flatten) x → FP F1 [w.heap.size] x := fun b hb x hx => by
  rcases hx with hx | hx
  ·exact .inl (hFF x hx)
  ·rcases List.mem_cons.1 hx with rfl | hx
   ·rcases hb with hb | hb
    ·exact .inr (by simp [hb])
    ·exact .inl hb
   ·exact .inl (hg x hx).1
 have hfpR : ∀ (b : Nat), (b = w.heap.size ∨ Own G ow b) → ∀ x ∈ b :: (f1 ++ f2 ++ J).flatten, ¬ F x ∧ (Own G ow x ∨ w.heap.size ≤ x) := fun b hb x hx => by
  rcases List.mem_cons.1 hx with rfl | hx
  ·rcases hb with rfl | hb
   ·exact ⟨fun hx => Nat.lt_irrefl _ (hF _ hx), .inr (Nat.le_refl _)⟩
   ·exact ⟨hh.notF _ hb, .inl hb⟩
  ·exact ⟨hh.notF _ (hg x hx).2, .inl (hg x hx).2⟩
 by_cases hnone : a1 = none ∧ l2.length = 0
 ·obtain ⟨rfl, hz2⟩ := hnone
  have hl2 : l2 = [] := List.eq_nil_of_length_eq_zero hz2
  subst hl2
  have hc2 : c2 = [] := List.eq_nil_of_length_eq_zero (by rw [k2]; simp)
  subst hc2
  rcases hv1 with ⟨_, rfl, rfl⟩ | ⟨b, o, r, et, h0, _⟩
  ·obtain ⟨d1, d2, d3⟩ := hrep_drop (F1 := F1) (F2 := FP F []) (fun b hb => by
    rcases hb with hb | hb
    ·exact hFF b hb
    ·simp at hb) hhB
   have hS : ShR w.heap (okF (FP F []) G owB) (.rows sh) [] [.slice none 0 0] [] := ⟨_, rfl, hel, none, 0, rfl, Nat.le_refl _, .inl ⟨rfl, rfl, rfl, rfl⟩⟩
   obtain ⟨G2, q1, q2⟩ := res_rows (F := F) hT d1 (fun s v h => d2 s v (hsvB s v h)) (.refl _ _) (fun b hb => by simp at hb) List.nodup_nil hS hn
   exact ⟨_, _, _, _, _, h, run_append_zero hu hi none (by rw [hsz]; exact hsrc), q1, q2⟩
  ·cases h0
 by_cases hroom : l1.length + l2.length ≤ cap1
 ·rcases hv1 with ⟨rfl, rfl, rfl⟩ | ⟨b, o, r, et, rfl, hb, hsz1, hcs, hbF, hbO, hbn⟩
  ·exact absurd ⟨rfl, by simpa using hroom⟩ hnone
  ·have hmul : (l1.length + l2.length) * sh.w ≤ cap1 * sh.w := Nat.mul_le_mul_right _ hroom
   rw [Nat.add_mul] at hmul
   have hle : o + l1.length * sh.w + c2.length ≤ r.size := by rw [k2]; omega
   have hrun := run_append_room_src (P := P) w t tx ty e i hu hi b o l1.length cap1 _ l2.length c2 (by rw [hsz]; exact hsrc) hroom
    (fun j hj => by rw [hsz, rowCells_cell (rowCells_of hb)]; simp; omega)
    (fun j hj => by unfold World.frozen?; rw [hb]; simp)
   rw [hsz] at hrun
   obtain ⟨q1, q2, q3⟩ := hrep_write (p := o + l1.length * sh.w) (vs := c2) hhB hbF hb hle
   obtain ⟨d1, d2, d3⟩ := hrep_drop (F2 := FP F (b :: (f1 ++ f2 ++ J).flatten)) (fun x hx => by
    rcases hx with hx | hx
    ·exact hFF x hx
    ·rcases List.mem_cons.1 hx with rfl | hx
     ·exact hbF
     ·exact (hg x hx).1) q1
   have hb' := heap_setCells c2 (o + l1.length * sh.w) w hb hle
   have hkeep : ∀ x ∈ (f1 ++ f2 ++ J).flatten, (w.setCells b (o + l1.length * sh.w) c2).heap[x]? = w.heap[x]? := fun x hx =>
    World.heap_setCells_other w b _ _ (Own.lt hh (hg x hx).2) fun e => hbn (e ▸ hx)
   have hS := rows_of_cells (ok := okF (FP F (b :: (f1 ++ f2 ++ J).flatten)) G owB) hel (l := l1 ++ l2) (b := b) (o := o) (c := cap1) (fps := f1 ++ f2 ++ J) (cs := c1 ++ c2) hb' (by simpa using hroom) (by rw [setA_size hle]; exact hsz1) (by simpa using hnlen)
    (fun x hx => by rw [hkeep x hx]; exact hcells x hx) (by
     rw [List.length_append, Nat.add_mul, ← k2, sub_add, sub_setA_before hle (Nat.le_refl _), sub_setA_same hle, ← hcs])
    (fun i hi hf => ShR.mono (fun b' r' hb' hr' => by
     obtain ⟨m1, m2⟩ := q3 b' r' hb' hr'
     exact d3 b' r' m1 m2) sh (fun x hx => hkeep x (mem_fps hf hx)) (hE i hi hf))
   obtain ⟨G2, m1, m2⟩ := res_rows (F := F) hT d1 (fun s v h => d2 s v (q2 s v (hsvB s v h))) (kept_setCells hbO w _ _) (hfpR b (.inr hbO)) (List.nodup_cons.2 ⟨hbn, hndF⟩) hS hn
   rw [List.length_append] at m2
   exact ⟨_, _, _, _, _, h, hrun, m1, m2⟩
 ·have hgrow : cap1 < l1.length + l2.length := by omega
  have hold : (Builtin.firstCells i.size l1.length (.slice a1 l1.length cap1)).run P w.drew = .ok c1.toArray w.drew := by
   rcases hv1 with ⟨rfl, rfl, rfl⟩ | ⟨b, o, r, et, rfl, hb, hsz1, hcs, _⟩
   ·have : c1 = [] := List.eq_nil_of_length_eq_zero (by rw [k1]; simp)
    rw [this]
    exact run_firstCells_none w.drew i.size 0 0 0
   ·refine run_firstCells_some w.drew i.size l1.length _ _ _ _ (by rw [hsz]; exact k1) (fun j u hu => ?_)
    rw [Addr.add_mid]
    show w.cell? _ = _
    rw [hcs] at hu
    rw [rowCells_cell (rowCells_of hb), ← hu, sub_getElem]
    rcases Nat.lt_or_ge j (l1.length * sh.w) with h | h
    ·exact h
    ·rw [List.getElem?_eq_none (by rw [← hcs, k1]; exact h)] at hu; cases hu
  rw [hbe] at hby hbpos
  unfold maxBytes at hby
  have h3 : l1.length + l2.length ≤ (l1.length + l2.length) * i.bytes := Nat.le_mul_of_pos_right _ hbpos
  have hcap := nextslicecap_le (l1.length + l2.length) cap1 hgrow
  have hfit : Builtin.nextslicecap (l1.length + l2.length) cap1 * i.bytes ≤ 281474976710656 := by
   have := Nat.mul_le_mul_right i.bytes hcap
   rw [Nat.mul_assoc] at this
   omega
  have hrun := run_append_grow_src (P := P) w t tx ty e i z hu hi hz a1 l1.length cap1 c1 hold _ l2.length c2 (by rw [hsz]; exact hsrc) hgrow (by omega) hfit
  have hg1 := grownCap_ge w (l1.length + l2.length) cap1 e
  generalize hcc : grownCap w (l1.length + l2.length) cap1 e = cc at hrun hg1
  obtain ⟨q1, q2, q3⟩ := hrep_alloc hhB (w1 := w.drew) rfl (.cells ((c1 ++ c2).toArray ++ Builtin.zeroCells z.cells (cc - (l1.length + l2.length))) e)
  obtain ⟨d1, d2, d3⟩ := hrep_drop (F2 := FP F (w.heap.size :: (f1 ++ f2 ++ J).flatten)) (hsub _ (.inl rfl)) q1
  have hnew : (w.drew.alloc (.cells ((c1 ++ c2).toArray ++ Builtin.zeroCells z.cells (cc - (l1.length + l2.length))) e)).heap[w.heap.size]? = some (.cells ((c1 ++ c2).toArray ++ Builtin.zeroCells z.cells (cc - (l1.length + l2.length))) e) := heap_alloc_new w.drew _
  have hkeep : ∀ x ∈ (f1 ++ f2 ++ J).flatten, (w.drew.alloc (.cells ((c1 ++ c2).toArray ++ Builtin.zeroCells z.cells (cc - (l1.length + l2.length))) e)).heap[x]? = w.heap[x]? := fun x hx => heap_alloc_old w.drew _ (Own.lt hh (hg x hx).2)
  have hlen12 : (c1 ++ c2).length = (l1.length + l2.length) * sh.w := by rw [List.length_append, k1, k2, Nat.add_mul]
  have hS := rows_of_cells (ok := okF (FP F (w.heap.size :: (f1 ++ f2 ++ J).flatten)) G owB) hel (l := l1 ++ l2) (b := w.heap.size) (o := 0) (c := cc) (fps := f1 ++ f2 ++ J) (cs := c1 ++ c2) hnew (by simpa using hg1) (by
    simp only [Array.size_append, List.size_toArray, hlen12, zeroCells_size, hzs]
    rw [← Nat.add_mul, Nat.zero_add]
    exact Nat.mul_le_mul_right _ (by omega)) (by simpa using hnlen)
   (fun x hx => by rw [hkeep x hx]; exact hcells x hx) (by
    rw [List.length_append, ← hlen12]
    generalize c1 ++ c2 = A
    simp [sub])
   (fun i hi hf => ShR.mono (fun b' r' hb' hr' => by
    obtain ⟨m1, m2⟩ := q3 b' r' hb' hr'
    exact d3 b' r' m1 m2) sh (fun x hx => hkeep x (mem_fps hf hx)) (hE i hi hf))
  obtain ⟨G2, m1, m2⟩ := res_rows (F := F) hT d1 (fun s v h => d2 s v (q2 s v (hsvB s v h))) (kept_new (w := w) (w1 := w.drew) _ rfl rfl rfl rfl _) (hfpR _ (.inl rfl)) (List.nodup_cons.2 ⟨fun hx => Nat.lt_irrefl _ (Own.lt hh (hg _ hx).2), hndF⟩) hS hn
  rw [List.length_append] at m2
  exact ⟨_, _, _, _, _, h, hrun, m1, m2⟩
theorem evAppendN_sound {t tx ty : TypeId} {s x : SV} {sv xv : Value} {sh : Sh} {d : Nat} (hh : HRep F G ow w.heap) (hF : ∀ b, F b → b < w.heap.size) (hs : Sv F G ow w.heap s sv) (hx : Sv F G ow w.heap x xv) (htx : isSliceT P tx = true) {Q : SV × OW → Prop} (h : (evAppendN P t s x sh ow d).can Q) :
  Res P F G ow w Q (Builtin.append_ #[t, tx] ty #[sv, xv]) := by
 obtain ⟨e', hte⟩ := isSliceT_some htx
 unfold evAppendN at h
 split at h
 ·exact h.elim
 rename_i e he
 have hu := elemT_some he
 split at h
 ·rename_i y1 hy1
  split at h
  ·rename_i y2 hy2
   split at h
   ·rename_i hok
    obtain ⟨hby, h⟩ := h
    have hby := of_decide_eq_true hby
    obtain ⟨hel, hpos, hks, hbpos, i, z, hi, hz, hsz, hbe, hzs⟩ := elemOkN_some hok
    split at h
    ·rename_i ow' hn
     obtain ⟨l1, owA⟩ := y1
     obtain ⟨l2, owB⟩ := y2
     dsimp only at hy2 hby hn h
     obtain ⟨g1, t1, o1, n1, r1⟩ := pk_sound (.rows sh) hF hh (.cons hs .nil) hy1
     obtain ⟨hhA, hsvA⟩ := taken_state hh t1 o1
     have hFA : ∀ b', FP F g1 b' → b' < w.heap.size := by
      intro b' hb'
      rcases hb' with hb' | hb'
      ·exact hF b' hb'
      ·exact Own.lt hh (o1.own hb')
     obtain ⟨g2, t2, o2, n2, r2⟩ := pk_sound (.rows sh) hFA hhA (.cons (hsvA _ _ hx) .nil) hy2
     obtain ⟨hhB, hsvB⟩ := taken_state hhA t2 o2
     have hT := t1.trans t2
     have r1' : ShR w.heap (okF (FP (FP F g1) g2) G owB) (.rows sh) l1 [sv] g1 := ShR.mono (fun b' r' hb' hr' => ⟨taken_ok t2 o2 hb', hr'⟩) (.rows sh) (fun _ _ => rfl) r1
     obtain ⟨c1, f1, j1, L1⟩ := lies_of r1'
     obtain ⟨c2, f2, j2, L2⟩ := lies_of r2
     obtain ⟨a1, cap1, rfl, hlc1, hv1⟩ := L1.val
     obtain ⟨a2, cap2, rfl, hlc2, hv2⟩ := L2.val
     have hown : ∀ b, b ∈ g1 ∨ b ∈ g2 → Own G ow b := fun b hb => by
      rcases hb with hb | hb
      ·exact o1.own hb
      ·exact t1.own (o2.own hb)
     have hdisj : ∀ b ∈ g1, b ∉ g2 := fun b hb hb2 => o1.notOwn hh t1 hb (o2.own hb2)
     have hcells : ∀ b, b ∈ g1 ∨ b ∈ g2 → ∃ r et, w.heap[b]? = some (Obj.cells r et (0, 0)) := fun b hb => by
      obtain ⟨d', j', i', o', hi', hg'⟩ := own_iff.1 (hown b hb)
      exact place_cells hh hi' hg'
     have hmem1 : ∀ b, b ∈ f1.flatten ++ j1 → b ∈ g1 := fun b hb => by
      rcases hv1 with ⟨_, _, _, rfl, rfl, rfl⟩ | ⟨b1, o, r, et, _, _, _, _, hp⟩
      ·simp at hb
      ·exact hp.mem_iff.2 (List.mem_cons_of_mem _ hb)
     have hmem2 : ∀ b, b ∈ f2.flatten ++ j2 → b ∈ g2 := fun b hb => by
      rcases hv2 with ⟨_, _, _, rfl, rfl, rfl⟩ | ⟨b1, o, r, et, _, _, _, _, hp⟩
      ·simp at hb
      ·exact hp.mem_iff.2 (List.mem_cons_of_mem _ hb)
     have hnd1 : (f1.flatten ++ j1).Nodup := by
      rcases hv1 with ⟨_, _, _, rfl, rfl, rfl⟩ | ⟨b1, o, r, et, _, _, _, _, hp⟩
      ·simp
      ·exact (List.nodup_cons.1 (hp.nodup_iff.1 n1)).2
     have hnd2 : (f2.flatten ++ j2).Nodup := by
      rcases hv2 with ⟨_, _, _, rfl, rfl, rfl⟩ | ⟨b1, o, r, et, _, _, _, _, hp⟩
      ·simp
      ·exact (List.nodup_cons.1 (hp.nodup_iff.1 n2)).2
     have hfl : (f1 ++ f2 ++ [j1, j2]).flatten.Perm ((f1.flatten ++ j1) ++ (f2.flatten ++ j2)) := by
      refine List.perm_iff_count.2 fun q => ?_
      simp only [List.flatten_append, List.flatten_cons, List.flatten_nil, List.append_nil, List.count_append]
      omega
     have hndF : (f1 ++ f2 ++ [j1, j2]).flatten.Nodup := hfl.nodup_iff.2 (List.nodup_append.2 ⟨hnd1, hnd2, fun p hp q hq hpq => by
      subst hpq
      exact hdisj p (hmem1 p hp) (hmem2 p hq)⟩)
     have hmemF : ∀ b ∈ (f1 ++ f2 ++ [j1, j2]).flatten, b ∈ g1 ∨ b ∈ g2 := fun b hb => by
      rcases List.mem_append.1 (hfl.mem_iff.1 hb) with hb | hb
      ·exact .inl (hmem1 b hb)
      ·exact .inr (hmem2 b hb)
     have hnlen : l1.length + l2.length ≤ (f1 ++ f2 ++ [j1, j2]).length := by simp only [List.length_append, L1.len, L2.len]; omega
     have hE := lies_append L1.len L1.clen L1.el L2.el [j1, j2] L2.len
     have hone1 : ∀ u ∈ c1, u.oneCell' = true := oneN_cells hel hpos L1.clen L1.len L1.el
     have hone2 : ∀ u ∈ c2, u.oneCell' = true := oneN_cells hel hpos L2.clen L2.len L2.el
     have hsrc : Src P i.size tx (.slice a2 l2.length cap2) l2.length c2 w := by
      rw [hsz]
      rcases hv2 with ⟨rfl, rfl, rfl, _⟩ | ⟨b, o, r, et, rfl, hb, hsz2, hcs, _⟩
      ·have : c2 = [] := List.eq_nil_of_length_eq_zero (by rw [L2.clen]; simp)
       rw [this]
       exact Src.ofNil w hte 0
      ·refine Src.ofSlice w hte _ _ _ _ L2.clen (fun j u hu => ?_) hone2
       rw [hcs] at hu
       rw [Addr.add_mid, rowCells_cell (rowCells_of hb), ← hu, sub_getElem]
       rcases Nat.lt_or_ge j (l2.length * sh.w) with h | h
       ·exact h
       ·rw [List.getElem?_eq_none (by rw [← hcs, L2.clen]; exact h)] at hu; cases hu
     have hFF : ∀ b, FP (FP F g1) g2 b ↔ F b ∨ b ∈ g1 ∨ b ∈ g2 := fun b => by simp [FP, or_assoc]
     rw [hsz] at hsrc
     refine append_core (ty := ty) hh hF hu hte hok hT hhB (fun s v h => hsvB s v (hsvA s v h)) (fun b hb => .inl (.inl hb)) L1.clen L2.clen hnlen hE hndF (fun b hb => ?_) ?_ hlc1 hsrc hby hn h
     ·rcases hmemF b hb with hb | hb
      ·exact ⟨.inl (.inr hb), hown b (.inl hb)⟩
      ·exact ⟨.inr hb, hown b (.inr hb)⟩
     ·rcases hv1 with ⟨h1, h2, h3, _⟩ | ⟨b, o, r, et, h1, hb, hsz1, hcs, hperm⟩
      ·exact .inl ⟨h1, h2, h3⟩
      ·have hbg : b ∈ g1 := hperm.mem_iff.2 (by simp)
       refine .inr ⟨b, o, r, et, h1, hb, hsz1, hcs, .inl (.inr hbg), hown b (.inl hbg), fun hx => ?_⟩
       rcases List.mem_append.1 (hfl.mem_iff.1 hx) with hx | hx
       ·exact (List.nodup_cons.1 (hperm.nodup_iff.1 n1)).1 hx
       ·exact hdisj b hbg (hmem2 b hx)
    ·exact h.elim
   ·exact h.elim
  ·exact h.elim
 ·exact h.elim
theorem flat_sublist {l1 l2 : List (List Nat)} (h : l1.Sublist l2) : l1.flatten.Sublist l2.flatten := by
 induction h with
 | slnil => exact List.Sublist.refl _
 | cons a h ih => rw [List.flatten_cons]; exact ih.trans (List.sublist_append_right _ _)
 | cons_cons a h ih => rw [List.flatten_cons, List.flatten_cons]; exact (List.Sublist.refl a).append ih
theorem two_parts {α : Type} (l : List α) {o1 n1 o2 n2 : Nat} (h : o1 + n1 ≤ o2) : (subL l o1 n1 ++ subL l o2 n2).Sublist l := by
 have e1 : l.drop o1 = (l.drop o1).take n1 ++ l.drop (o1 + n1) := by rw [← List.drop_drop, List.take_append_drop]
 have e2 : (l.drop o2).Sublist (l.drop (o1 + n1)) := by
  have : l.drop o2 = (l.drop (o1 + n1)).drop (o2 - (o1 + n1)) := by rw [List.drop_drop]; congr 1; omega
  rw [this]
  exact List.drop_sublist _ _
 have : (subL l o1 n1 ++ subL l o2 n2).Sublist (l.drop o1) := by
  rw [e1]
  exact (List.Sublist.refl _).append ((List.take_sublist _ _).trans e2)
 exact this.trans (List.drop_sublist _ _)
theorem evCutN_sound {t tx ty : TypeId} {s x : SV} {sv xv : Value} {sh : Sh} {d : Nat} (hh : HRep F G ow w.heap) (hF : ∀ b, F b → b < w.heap.size) (hs : Sv F G ow w.heap s sv) (hx : Sv F G ow w.heap x xv) (htx : isSliceT P tx = true) {Q : SV × OW → Prop} (h : (evCutN P t s x sh ow d).can Q) :
  Res P F G ow w Q (Builtin.append_ #[t, tx] ty #[sv, xv]) := by
 obtain ⟨e', hte⟩ := isSliceT_some htx
 unfold evCutN at h
 split at h
 ·rename_i d1 j1 v1 o1 n1 d2 j2 v2 o2 n2 e he
  have hu := elemT_some he
  split at h
  ·rename_i hdj
   obtain ⟨rfl, rfl⟩ := hdj
   split at h
   ·rename_i ow1 h0
    obtain ⟨G1, g1, g2, g3, g4, _⟩ := settle_sound hF hh h0
    have hT1 : Tr F G ow w G1 ow1 w := tr_ghost g1 g2 g3 g4
    split at h
    ·rename_i r hr
     obtain ⟨_, hn⟩ := nrowAt_some hr
     obtain ⟨rs, l⟩ := r
     dsimp only at h hn
     split at h
     ·rename_i hsh
      subst hsh
      split at h
      ·rename_i hok
       obtain ⟨hc1, hc2, h⟩ := h
       have hc1 : o1 + n1 ≤ o2 := of_decide_eq_true hc1
       have hc2 : (n1 + n2) * bytesT P e ≤ maxBytes := of_decide_eq_true hc2
       split at h
       ·rename_i ow' hnew
        have hnew : newObs (putOb ow1 d1 j1 none) d [.nrow rs (subL l o1 n1 ++ subL l o2 n2) none] = some ow' := hnew
        have hs1 := g2 _ _ hs
        have hx1 := g2 _ _ hx
        cases hs1 with
        | os hs1 =>
        cases hx1 with
        | os hx1 =>
        simp only [HandR, hn, Option.getD_some] at hs1 hx1
        obtain ⟨hl1, a1, cap1, rfl, hcap1, hv1⟩ := hs1
        obtain ⟨hl2, a2, cap2, rfl, hcap2, hv2⟩ := hx1
        obtain ⟨hel, hpos, _⟩ := elemOkN_some hok
        have hio : isOwn (nameOf ow1 d1 j1) := by rw [hn]; trivial
        have hnn : nameOf ow1 d1 j1 ≠ none := by rw [hn]; simp
        have s1 : (subL l o1 n1).length = n1 := subL_len hl1
        have s2 : (subL l o2 n2).length = n2 := subL_len hl2
        obtain ⟨_, fps, hG, hob⟩ := g1.obs d1 j1 _ hn
        obtain ⟨m1, m2⟩ := nrow_nodup g1 hio hG
        have lift : ∀ {c : Sem Value}, Res P F G1 ow1 w Q c → Res P F G ow w Q c := fun ⟨s, ow', v, w', G', q1, q2, q3, q4⟩ => ⟨s, ow', v, w', G', q1, q2, hT1.trans q3, q4⟩
        refine lift ?_
        cases hg : G1 d1 j1 0 with
        | none =>
         simp only [hg] at hob
         obtain ⟨rfl, _, rfl⟩ := hob
         have z1 : n1 = 0 := by simp at hl1; omega
         have z2 : n2 = 0 := by simp at hl2; omega
         subst z1; subst z2
         rcases hv1 with ⟨_, rfl, rfl⟩ | ⟨b, o, o', r', hg', _⟩
         ·rcases hv2 with ⟨_, rfl, rfl⟩ | ⟨b, o, o', r', hg', _⟩
          ·have hT := taken_put hio
           have hf2 : FpOk G1 ow1 (putOb ow1 d1 j1 none) [] := fun x => by
            constructor
            ·intro hx; simp at hx
            ·rintro ⟨d', j', i', o', hi', hg', hn'⟩
             rw [nameOf_putOb hnn] at hn'
             split at hn'
             ·rename_i e
              rw [e.1, e.2] at hg'
              cases i' with
              | zero => rw [hg] at hg'; cases hg'
              | succ i' => rw [hG] at hg'; simp at hg'
             ·rw [hn'] at hi'; exact hi'.elim
           obtain ⟨k1, k2⟩ := taken_state g1 hT hf2
           have hz1 : subL ([] : List rs.T) o1 0 = [] := by simp [subL]
           have hz2 : subL ([] : List rs.T) o2 0 = [] := by simp [subL]
           rw [hz1, hz2] at hnew
           exact append_core (ty := ty) (l1 := []) (l2 := []) (c1 := []) (c2 := []) (f1 := []) (f2 := []) (J := []) g1 hF hu hte hok hT k1 k2 (fun b hb => .inl hb) (by simp) (by simp) (by simp) (fun i hi => by simp at hi) (by simp) (fun b hb => by simp at hb) (.inl ⟨rfl, rfl, rfl⟩) (Nat.le_refl _) (Src.ofNil w hte 0) (by simp [maxBytes]) hnew h
          ·rw [hg] at hg'; cases hg'
         ·rw [hg] at hg'; cases hg'
        | some q =>
         obtain ⟨b, o⟩ := q
         simp only [hg] at hob
         obtain ⟨r, et, hb, hsz, hlf, hj, hele, _⟩ := hob
         obtain ⟨t1, t2, t3, t4⟩ := rows_final (ow1 := ow1) (ow2 := putOb ow1 d1 j1 none) (fps' := fps) (fp1 := []) g1 hio hG (.refl _) (.refl _ _) List.nodup_nil hio length_putOb (fun d' j' => nameOf_putOb hnn) (by simp) hg
         obtain ⟨k1, k2⟩ := taken_state g1 t1 t2
         have hsubF := two_parts fps (n2 := n2) hc1
         have hflat := flat_sublist hsubF
         have part : ∀ {oo nn cap : Nat} {a : Option Addr}, oo + nn ≤ l.length → nn ≤ cap → ((G1 d1 j1 0 = none ∧ a = none ∧ cap = 0) ∨ ∃ b o o' r, G1 d1 j1 0 = some (b, o) ∧ a = some ⟨b, o', none⟩ ∧ rowCells w.heap b = some r ∧ (0 < cap → o' = o + oo * rs.w) ∧ o' + cap * rs.w ≤ r.size) →
           ∃ o', a = some ⟨b, o', none⟩ ∧ o' + cap * rs.w ≤ r.size ∧ (sub r o' (nn * rs.w)).length = nn * rs.w ∧ ∀ i (hi : i < (subL l oo nn).length) (hf : i < (subL fps oo nn).length), ShR w.heap (okF (FP F (b :: fps.flatten)) G1 (putOb ow1 d1 j1 none)) rs (subL l oo nn)[i] (((sub r o' (nn * rs.w)).drop (i * rs.w)).take rs.w) (subL fps oo nn)[i] := by
          intro oo nn cap a hle hcap hv
          rcases hv with ⟨h1, _⟩ | ⟨b', o1', o', r', hg', ha, hr', ho', hc'⟩
          ·rw [hg] at h1; cases h1
          ·rw [hg] at hg'
           cases hg'
           have : r' = r := by
            rw [rowCells_of hb] at hr'
            exact (Option.some.inj hr').symm
           subst this
           have hmul : nn * rs.w ≤ cap * rs.w := Nat.mul_le_mul_right _ hcap
           refine ⟨o', ha, hc', sub_length (by omega), fun i hi hf => ?_⟩
           have hin : i < nn := by rw [subL_len hle] at hi; exact hi
           have e1 := ho' (by omega)
           have hi2 : (i + 1) * rs.w ≤ nn * rs.w := Nat.mul_le_mul_right _ hin
           rw [Nat.add_mul, Nat.one_mul] at hi2
           have e2 := sub_sub (r := r') (o := o') (n := nn * rs.w) (p := i * rs.w) (m := rs.w) (by omega)
           rw [← e2, subL_get hle, subL_get (l := fps) (by omega), e1, show o + oo * rs.w + i * rs.w = o + (oo + i) * rs.w by rw [Nat.add_mul]; omega]
           exact ShR.mono (fun b' r' hb' hr' => ⟨t4 b' ⟨fun hx => by
            rcases hx with hx | hx
            ·exact hb'.1 hx
            ·simp at hx, hb'.2⟩, hr'⟩) rs (fun _ _ => rfl) (hele (oo + i) (by omega) (by omega) (fun cells hc => by cases hc))
         obtain ⟨p1, rfl, pc1, pl1, pe1⟩ := part hl1 hcap1 hv1
         obtain ⟨p2, rfl, pc2, pl2, pe2⟩ := part hl2 hcap2 hv2
         have q1 : (subL fps o1 n1).length = n1 := subL_len (by omega)
         have q2 : (subL fps o2 n2).length = n2 := subL_len (by omega)
         have hE := lies_append (by rw [q1, s1]) (by rw [pl1, s1]) pe1 pe2 [] (by rw [q2, s2])
         have hone := oneN_cells hel hpos (by rw [pl2, s2]) (by rw [q2, s2]) pe2
         have hcore := append_core (ty := ty) (l1 := subL l o1 n1) (l2 := subL l o2 n2) (c1 := sub r p1 (n1 * rs.w)) (c2 := sub r p2 (n2 * rs.w)) (f1 := subL fps o1 n1) (f2 := subL fps o2 n2) (J := []) (a1 := some ⟨b, p1, none⟩) (cap1 := cap1) (xv := .slice (some ⟨b, p2, none⟩) n2 cap2) g1 hF hu hte hok t1 k1 k2 (fun b hb => .inl hb)
          (by rw [pl1, s1]) (by rw [pl2, s2]) (by simp [s1, s2, q1, q2]) hE (by rw [List.append_nil]; exact hflat.nodup m1)
          (fun x hx => by
           rw [List.append_nil] at hx
           have hx := hflat.subset hx
           exact ⟨.inr (List.mem_cons_of_mem _ hx), t2.own (List.mem_cons_of_mem _ hx)⟩)
          (.inr ⟨b, p1, r, et, rfl, hb, pc1, by rw [s1], .inr (by simp), t2.own (by simp), fun hx => by
           rw [List.append_nil] at hx
           exact m2 b o hg (hflat.subset hx)⟩)
          (by rw [s1]; exact hcap1) (by
           rw [s2]
           refine Src.ofSlice w hte _ _ _ _ pl2 (fun j u hu => ?_) hone
           rw [Addr.add_mid, rowCells_cell (rowCells_of hb), ← hu, sub_getElem]
           rcases Nat.lt_or_ge j (n2 * rs.w) with h | h
           ·exact h
           ·rw [List.getElem?_eq_none (by rw [pl2]; exact h)] at hu; cases hu)
          (by rw [s1, s2]; exact hc2) hnew h
         rw [s1] at hcore
         exact hcore
       ·exact h.elim
      ·exact h.elim
     ·exact h.elim
    ·exact h.elim
   ·exact h.elim
  ·exact h.elim
 ·exact h.elim
theorem isNil0_some {vs : List Value} (h : isNil0 vs = true) : vs = [.slice none 0 0] := by
 unfold isNil0 at h
 split at h
 ·rfl
 ·cases h
theorem zeroN_sound {h : Array Obj} {ok : Nat → Prop} : (s : Sh) → s.elem = true → (vs : List Value) → zeroN s vs = true → ShR h ok s s.z vs []
 | .pur kd, hs, vs, hz => by
  have hk : kd.isSt = false := by simpa using (Bool.and_eq_true _ _ ▸ hs : kd.noOwn = true ∧ (!kd.isSt) = true).2
  match vs, hz with
  | [], hz => simp [zeroN] at hz
  | [v], hz =>
   simp only [zeroN] at hz
   have hr := zeroRep_sound (h := h) (ok := ok) kd [v] hz
   have hone : v.oneCell' = true := by
    cases kd with
    | int k => cases hr; rfl
    | bool => cases hr; rfl
    | str => cases hr; rfl
    | err => rcases hr with ⟨_, hr⟩ | ⟨_, _, _, hr⟩ <;> (cases hr; rfl)
    | any => cases hr; rfl
    | sl o e =>
     cases o with
     | true => exact hr.elim
     | false => obtain ⟨_, _, hr, _⟩ := hr; cases hr; rfl
    | nil => simp [Kd.isSt] at hk
    | cons a b => simp [Kd.isSt] at hk
    | tree a => exact hr.elim
   refine ⟨v, rfl, rfl, ?_, fun h => (by rw [hk] at h; cases h), fun _ => hone⟩
   have : v.cells = #[v] := cells_of_one hone
   rw [this]
   exact hr
  | _ :: _ :: _, hz => simp [zeroN] at hz
 | .own k, _, vs, hz => by
  simp only [zeroN, Bool.and_eq_true] at hz
  rw [isNil0_some hz.1]
  exact ⟨_, rfl, hz.2, none, 0, rfl, Nat.le_refl _, .inl ⟨rfl, rfl, rfl, rfl⟩⟩
 | .rows s, _, vs, hz => by
  simp only [zeroN, Bool.and_eq_true] at hz
  rw [isNil0_some hz.1]
  exact ⟨_, rfl, hz.2, none, 0, rfl, Nat.le_refl _, .inl ⟨rfl, rfl, rfl, rfl⟩⟩
 | .nil, _, vs, hz => by
  match vs, hz with
  | [], _ => exact ⟨rfl, rfl⟩
  | _ :: _, hz => simp [zeroN] at hz
 | .cons a b, hs, vs, hz => by
  simp only [Sh.elem, Bool.and_eq_true] at hs
  match vs, hz with
  | [], hz => simp [zeroN] at hz
  | v :: r, hz =>
   simp only [zeroN, Bool.and_eq_true] at hz
   exact ⟨v, r, [], [], rfl, rfl, zeroN_sound a hs.1.2 [v] hz.1, zeroN_sound b hs.2 r hz.2⟩
 | .row _, hs, _, _ => by simp [Sh.elem] at hs
 | .nrw _, hs, _, _ => by simp [Sh.elem] at hs
 | .box _, hs, _, _ => by simp [Sh.elem] at hs
 | .agg _, hs, _, _ => by simp [Sh.elem] at hs
 | .fn _ _ _, hs, _, _ => by simp [Sh.elem] at hs
 | .ign, hs, _, _ => by simp [Sh.elem] at hs
 | .nl, hs, _, _ => by simp [Sh.elem] at hs
theorem nil_flat (m : Nat) : (List.replicate m ([] : List Nat)).flatten = [] := by
 induction m with
 | zero => rfl
 | succ m ih => simp [List.replicate_succ]
theorem makeN_core {t e : TypeId} {n c : Int} {s : Sh} {d : Nat} (hh : HRep F G ow w.heap) (hF : ∀ b, F b → b < w.heap.size) (he : elemT P t = some e) (hok : elemOkN P e s = true) (hz' : zeroOkN P e s = true) (h0 : 0 ≤ n) (h1 : n ≤ c) (h2 : c * bytesT P e ≤ maxBytes) {ow' : OW}
  (hn' : newObs ow d [.nrow s (List.replicate n.toNat s.z) none] = some ow') {Q : SV × OW → Prop} (h : Q (.wh d 0 0 [], ow')) : Res P F G ow w Q (Instr.makeSlice t (.int .i64 n) (.int .i64 c)) := by
 obtain ⟨hel, hpos, _, hbpos, i, z, hi, hz, hsz, hby, hzs⟩ := elemOkN_some hok
 have hzr : zeroN s z.cells.toList = true := by simpa [zeroOkN, hi, hz] using hz'
 have hu := elemT_some he
 obtain ⟨m, rfl⟩ : ∃ m : Nat, c = (m : Int) := ⟨c.toNat, by omega⟩
 obtain ⟨l, rfl⟩ : ∃ l : Nat, n = (l : Int) := ⟨n.toNat, by omega⟩
 rw [hby] at h2 hbpos
 have h2' : m * i.bytes ≤ maxBytes := by exact_mod_cast h2
 have h3 : m ≤ m * i.bytes := Nat.le_mul_of_pos_right _ hbpos
 unfold maxBytes at h2'
 have h4 : ((m * i.bytes : Nat) : Int) ≤ 281474976710656 := by omega
 have h5 : (i.bytes : Int) * (m : Int) ≤ 281474976710656 := by rw [Int.mul_comm]; rw [Int.natCast_mul] at h4; exact h4
 have hrun := run_make (P := P) w t e i z hu hi hz .i64 .i64 l m (by omega) h1 h5 (by omega)
 simp only [Int.toNat_natCast] at hrun hn'
 obtain ⟨q1, q2, q3⟩ := hrep_alloc hh (w1 := w) rfl (.cells (madeCells z.cells (m * i.size)) e)
 have hnew : (w.alloc (.cells (madeCells z.cells (m * i.size)) e)).heap[w.heap.size]? = some (.cells (madeCells z.cells (m * i.size)) e) := heap_alloc_new _ _
 have hS : ShR (w.alloc (.cells (madeCells z.cells (m * i.size)) e)).heap (okF (FP F [w.heap.size]) G ow) (.rows s) (List.replicate l s.z) [.slice (some ⟨w.heap.size, 0, none⟩) l m] [w.heap.size] := by
  refine ⟨_, rfl, hel, _, m, by rw [List.length_replicate], by rw [List.length_replicate]; omega, .inr ⟨w.heap.size, 0, _, e, List.replicate l [], rfl, by rw [nil_flat], hnew, by rw [size_madeCells, hsz]; omega, by simp, fun b hb => by rw [nil_flat] at hb; simp at hb, fun j hj hjf => ?_⟩⟩
  simp only [List.length_replicate] at hj
  have := madeCells_sub (z := z.cells) (m := m) (i := j) (by omega)
  rw [hzs] at this
  rw [Nat.zero_add, hsz, this]
  simp only [List.getElem_replicate]
  exact zeroN_sound s hel _ hzr
 obtain ⟨G2, k1, k2⟩ := res_rows (F := F) (.refl ow) q1 q2 (kept_new (w := w) (w1 := w) _ rfl rfl rfl rfl _) (fun b hb => by
  have : b = w.heap.size := by simpa using hb
  subst this
  exact ⟨fun hx => Nat.lt_irrefl _ (hF _ hx), .inr (Nat.le_refl _)⟩) (by simp) hS hn'
 exact ⟨_, _, _, _, _, h, hrun, k1, k2⟩
theorem evMakeN_sound {t : TypeId} {n c : SV} {nv cv : Value} {s : Sh} {d : Nat} (hh : HRep F G ow w.heap) (hF : ∀ b, F b → b < w.heap.size) (hn : Sv F G ow w.heap n nv) (hc : Sv F G ow w.heap c cv) {Q : SV × OW → Prop} (h : (evMakeN P t n c s ow d).can Q) :
  Res P F G ow w Q (Instr.makeSlice t nv cv) := by
 unfold evMakeN at h
 split at h
 ·rename_i e n c he
  split at h
  ·rename_i hcc
   simp only [Bool.and_eq_true] at hcc
   obtain ⟨hch, h⟩ := h
   have hch : (0 : Int) ≤ n ∧ (n : Int) ≤ c ∧ (c : Int) * bytesT P e ≤ maxBytes := of_decide_eq_true hch
   split at h
   ·rename_i ow' hn'
    rw [hn.int_inv, hc.int_inv]
    exact makeN_core hh hF he hcc.1 hcc.2 hch.1 hch.2.1 hch.2.2 hn' h
   ·exact h.elim
  ·exact h.elim
 ·exact h.elim
end
end Go.Pev
end
