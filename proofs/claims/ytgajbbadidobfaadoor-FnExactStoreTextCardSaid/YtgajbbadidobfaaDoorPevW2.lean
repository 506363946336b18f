/-
  PEV, part 11: slices made and grown.
-/
import Derived.Test.YtgajbbadidobfaaDoorPevW1
namespace Go.Pev

section
variable {F : Nat → Prop} {G : Gh} {ow ow' : OW} {w : World} {P : Program}

theorem elemT_some {t e : TypeId} (h : elemT P t = some e) : P.underlying t = some (.slice e) := by
  unfold elemT undl at h
  split at h
  · cases h; assumption
  · cases h

theorem zeroRep_sound {h : Array Obj} {ok : Nat → Prop} : (k : Kd) → (vs : List Value) → zeroRep k vs = true → Rep h ok k k.z vs
  | .int k, vs, e => by
    unfold zeroRep at e
    split at e <;> simp_all [Rep, Kd.z]
  | .bool, vs, e => by
    unfold zeroRep at e
    split at e <;> simp_all [Rep, Kd.z]
  | .str, vs, e => by
    cases vs with
    | nil => simp [zeroRep] at e
    | cons v r =>
      cases r with
      | cons _ _ => simp [zeroRep] at e
      | nil =>
        cases v <;> simp [zeroRep] at e
        rename_i s
        obtain ⟨s⟩ := s
        have : s = #[] := congrArg ByteArray.data e
        subst this
        rfl
  | .err, vs, e => by
    unfold zeroRep at e
    split at e <;> first | exact .inl ⟨rfl, rfl⟩ | simp_all
  | .any, vs, e => by simp [zeroRep] at e
  | .sl false _, vs, e => by
    unfold zeroRep at e
    split at e <;> simp_all [Rep, Kd.z]
  | .sl true _, vs, e => by simp [zeroRep] at e
  | .nil, vs, e => by
    unfold zeroRep at e
    split at e <;> simp_all [Rep]
  | .tree _, vs, e => by simp [zeroRep] at e
  | .cons a b, vs, e => by
    cases vs with
    | nil => simp [zeroRep] at e
    | cons v r =>
      simp only [zeroRep, Bool.and_eq_true] at e
      exact ⟨[v], r, rfl, zeroRep_sound a [v] e.1.2, zeroRep_sound b r e.2⟩

theorem madeCells_sub {z : Array Value} {m i : Nat} (hi : i < m) : sub (madeCells z (m * z.size)) (i * z.size) z.size = z.toList := by
  have hb : (i + 1) * z.size ≤ m * z.size := Nat.mul_le_mul_right _ hi
  rw [Nat.add_mul, Nat.one_mul] at hb
  apply List.ext_getElem?
  intro j
  by_cases hj : j < z.size
  · rw [sub_getElem hj]
    have hz : 0 < z.size := by omega
    simp only [madeCells, Array.getElem?_map, Array.getElem?_range, show i * z.size + j < m * z.size by omega, if_true, Option.map_some]
    have e : (i * z.size + j) % z.size = j := by rw [Nat.mul_add_mod_self_right, Nat.mod_eq_of_lt hj]
    rw [e]
    simp [hj]
  · have h1 : (sub (madeCells z (m * z.size)) (i * z.size) z.size).length ≤ j := by
      rw [sub_length (by rw [size_madeCells]; omega)]
      omega
    rw [List.getElem?_eq_none h1, List.getElem?_eq_none (by simpa using (by omega : z.size ≤ j))]

theorem makeSlice_core {t e : TypeId} {k : Kd} {n c : Int} {d : Nat} (hh : HRep F G ow w.heap) (hF : ∀ b, F b → b < w.heap.size) (he : elemT P t = some e) (hok : elemOk P e k = true) (hz' : zeroOk P e k = true) (h0 : 0 ≤ n) (h1 : n ≤ c) (h2 : c * bytesT P e ≤ maxBytes)
    (hn' : newObs ow d [.row k 0 (List.replicate n.toNat k.z)] = some ow') {Q : SV × OW → Prop} (h : Q (.wh d 0 0 [], ow')) : Res P F G ow w Q (Instr.makeSlice t (.int .i64 n) (.int .i64 c)) := by
  obtain ⟨hgood, hpos, _, hbpos, i, z, hi, hz, hsz, hby, _⟩ := elemOk_some hok
  have hzr : zeroRep k z.cells.toList = true := by simpa [zeroOk, hi, hz] using hz'
  have hu := elemT_some he
  have hrep := zeroRep_sound (h := w.heap) (ok := okF F G ow) k _ hzr
  have hzs : z.cells.size = i.size := by have := Rep.length k hrep; simpa [hsz] using this
  obtain ⟨m, rfl⟩ : ∃ m : Nat, c = (m : Int) := ⟨c.toNat, by omega⟩
  obtain ⟨l, rfl⟩ : ∃ l : Nat, n = (l : Int) := ⟨n.toNat, by omega⟩
  rw [hby] at h2 hbpos
  have h2' : m * i.bytes ≤ maxBytes := by exact_mod_cast h2
  have h3 : m ≤ m * i.bytes := Nat.le_mul_of_pos_right _ hbpos
  unfold maxBytes at h2'
  have h4 : ((m * i.bytes : Nat) : Int) ≤ 281474976710656 := by omega
  have h5 : (i.bytes : Int) * (m : Int) ≤ 281474976710656 := by rw [Int.mul_comm]; rw [Int.natCast_mul] at h4; exact h4
  have hrun := run_make (P := P) w t e i z hu hi hz .i64 .i64 l m (by omega) h1 h5 (by omega)
  simp only [Int.toNat_natCast] at hrun
  have hel : ElemsR (fun x cs => Rep w.heap (okF F G ow) k x cs) k.n (List.replicate l k.z) (madeCells z.cells (m * i.size)) 0 := by
    have hlm : l * k.n ≤ m * k.n := Nat.mul_le_mul_right _ (by omega)
    refine ⟨by rw [List.length_replicate, size_madeCells, hsz]; omega, fun j hj => ?_⟩
    simp only [List.length_replicate] at hj
    have := madeCells_sub (z := z.cells) (m := m) (i := j) (by omega)
    rw [hzs, hsz] at this
    rw [Nat.zero_add, hsz, this]
    simpa using hrep
  simp only [Int.toNat_natCast] at hn'
  obtain ⟨t1, t2⟩ := res_row hh hF hgood hel hn' e (c := m) (by rw [List.length_replicate]; omega) (by rw [size_madeCells, hsz]; omega) (w1 := w) rfl rfl rfl rfl
  rw [List.length_replicate] at t2
  exact ⟨_, _, _, _, _, h, hrun, t1, t2⟩

theorem evMakeSlice_sound {t : TypeId} {n c : SV} {nv cv : Value} {d : Nat} (hh : HRep F G ow w.heap) (hF : ∀ b, F b → b < w.heap.size) (hn : Sv F G ow w.heap n nv) (hc : Sv F G ow w.heap c cv) {Q : SV × OW → Prop} (h : (evMakeSlice P t n c ow d).can Q) :
    Res P F G ow w Q (Instr.makeSlice t nv cv) := by
  unfold evMakeSlice at h
  split at h
  · rename_i e n c he
    split at h
    · rename_i k hk
      split at h
      · rename_i hc'
        simp only [Bool.and_eq_true] at hc'
        obtain ⟨hch, h⟩ := h
        have hch : (0 : Int) ≤ n ∧ (n : Int) ≤ c ∧ (c : Int) * bytesT P e ≤ maxBytes := of_decide_eq_true hch
        split at h
        · rename_i ow' hn'
          rw [hn.int_inv, hc.int_inv]
          exact makeSlice_core hh hF he hc'.1 hc'.2 hch.1 hch.2.1 hch.2.2 hn' h
        · exact h.elim
      · exact h.elim
    · exact h.elim
  · exact h.elim

theorem zip_parts {α : Type} : (ps : List (Nat × α)) → (i : Nat) → ps.map (·.1) = List.range' i ps.length → ps = ((ps.map (·.2)).zipIdx i).map fun x => (x.2, x.1)
  | [], _, _ => rfl
  | (n, a) :: r, i, h => by
    simp only [List.map_cons, List.length_cons, List.range'_succ, List.cons.injEq] at h
    obtain ⟨rfl, h⟩ := h
    simp only [List.map_cons, List.zipIdx_cons]
    rw [← zip_parts r (n + 1) h]

theorem evBuildSlice_sound {t : TypeId} {n d : Nat} {ps : List (Nat × SV)} {vps : List (Nat × Value)} (hh : HRep F G ow w.heap) (hF : ∀ b, F b → b < w.heap.size) (h1 : ps.map (·.1) = vps.map (·.1)) (h2 : Svs F G ow w.heap (ps.map (·.2)) (vps.map (·.2)))
    {Q : SV × OW → Prop} (h : (evBuildSlice P t n ps ow d).can Q) : Res P F G ow w Q (Instr.buildSlice t n vps.toArray) := by
  unfold evBuildSlice at h
  split at h
  · exact h.elim
  rename_i e he
  split at h
  · exact h.elim
  rename_i k hk
  split at h
  · rename_i hc
    obtain ⟨hr, hcap, hok⟩ := hc
    obtain ⟨hgood, hpos, hks, hbpos, i, z, hi, hz, hsz, hby, _⟩ := elemOk_some hok
    split at h
    · rename_i y hy
      split at h
      · rename_i ow' hn
        have hu := elemT_some he
        obtain ⟨t1, hlen, hrep⟩ := toPays_sound hF _ (xs := y.1) (ow' := y.2) hh h2 hy
        have hnl : vps.length = n := by
          have := congrArg List.length hr
          simp at this
          have h3 := congrArg List.length h1
          simp at h3
          omega
        have hyl : y.1.length = n := by rw [hlen]; simp [hnl]
        have hvs : vps = ((vps.map (·.2)).zipIdx 0).map fun x => (x.2, x.1) := zip_parts vps 0 (by rw [← h1, hr, hnl, List.range_eq_range'])
        have hvc : ∀ v ∈ vps.map (·.2), v.cells.size = k.n := by
          intro v hv
          obtain ⟨j, hj, rfl⟩ := List.getElem_of_mem hv
          have := Rep.length k (hrep j (by rw [hlen]; exact hj) hj)
          simpa using this
        have hsT : i.size = sizeT P e := by rw [hsz, hks]
        rw [← hks] at hcap
        have hgo : ∀ zz : Array Value, ∃ r, Instr.fill (fun i => some (i * k.n, k.n)) ((Array.range (n * k.n)).map (zz[· % zz.size]!)) vps = some r ∧ r.size = n * k.n ∧ ElemsR (fun x cs => Rep w.heap (okF F G y.2) k x cs) k.n y.1 r 0 := by
          intro zz
          obtain ⟨r, hr, hrs, hrk⟩ := Great.fill_dense hpos (vps.map (·.2)) 0 ((Array.range (n * k.n)).map (zz[· % zz.size]!)) hvc (by simp [hnl])
          rw [← hvs] at hr
          simp only [Array.size_map, Array.size_range] at hrs
          refine ⟨r, hr, hrs, ?_, fun j hj => ?_⟩
          · rw [hyl, hrs]; omega
          · have hjv : j < (vps.map (·.2)).length := by rw [← hlen]; exact hj
            have := hrep j hj hjv
            have hjn : (j + 1) * k.n ≤ n * k.n := Nat.mul_le_mul_right _ (by omega)
            rw [Nat.add_mul, Nat.one_mul] at hjn
            have e1 : sub r (0 + j * k.n) k.n = ((vps.map (fun x : Nat × Value => x.2))[j]'hjv).cells.toList := by
              apply List.ext_getElem?
              intro q
              have hcsz := hvc _ (List.getElem_mem hjv)
              by_cases hq : q < k.n
              · rw [sub_getElem hq, Nat.zero_add, hrk]
                simp only [Nat.zero_mul, Nat.zero_le, Nat.zero_add, true_and, List.length_map, hnl]
                rw [if_pos (by omega)]
                have e2 : (j * k.n + q) / k.n = j := by rw [Nat.mul_comm, Nat.mul_add_div hpos, Nat.div_eq_of_lt hq]; rfl
                have e3 : (j * k.n + q) % k.n = q := by rw [Nat.mul_comm, Nat.mul_add_mod, Nat.mod_eq_of_lt hq]
                rw [e2, e3, Nat.sub_zero, List.getElem?_eq_getElem hjv]
                simp
              · rw [List.getElem?_eq_none (by rw [sub_length (by rw [hrs]; omega)]; omega), List.getElem?_eq_none (by simp only [Array.length_toList]; rw [hcsz]; omega)]
            rw [e1]
            exact this
        have hrun : ∃ r, (Instr.buildSlice t n vps.toArray).run P w = .ok (.slice (some ⟨w.heap.size, 0, none⟩) n n) (w.alloc (.cells r e)) ∧ r.size = n * k.n ∧ ElemsR (fun x cs => Rep w.heap (okF F G y.2) k x cs) k.n y.1 r 0 := by
          by_cases h0 : n * i.size = 0
          · obtain ⟨r, hr, hrs, hel⟩ := hgo #[]
            refine ⟨r, ?_, hrs, hel⟩
            rw [← hsz] at hr
            simp only [h0] at hr
            have hnil : ∀ f : Nat → Value, (Array.range 0).map f = #[] := fun f => by simp
            rw [hnil] at hr
            simp only [Instr.buildSlice, Sem.run_bind, run_underlying hu, Result.andThen_ok, sizeOf, typeInfo, run_program, hi, Sem.run_pure, h0, if_true]
            simp only [hnil, hr]
            simp [newRow]
          · obtain ⟨r, hr, hrs, hel⟩ := hgo z.cells
            refine ⟨r, ?_, hrs, hel⟩
            rw [← hsz] at hr
            have hcap' : ¬ (16777216 < n * i.size) := by rw [hsz]; omega
            simp only [Instr.buildSlice, Sem.run_bind, run_underlying hu, Result.andThen_ok, sizeOf, typeInfo, run_program, hi, Sem.run_pure]
            simp [h0, hcap', run_zeroValue hi hz, hr, newRow]
        obtain ⟨r, hrun, hrs, hel⟩ := hrun
        obtain ⟨t2, s2⟩ := res_row t1.hrep hF hgood hel hn e (c := n) (by omega) (by rw [hrs]; omega) (w1 := w) rfl rfl rfl rfl
        rw [hyl] at s2
        exact ⟨_, _, _, _, _, h, hrun, t1.trans t2, s2⟩
      · exact h.elim
    · exact h.elim
  · exact h.elim

/-! ### Appending -/

theorem nextslicecap_le (n c : Nat) (h : c < n) : Builtin.nextslicecap n c ≤ 2 * n := by
  unfold Builtin.nextslicecap
  split
  · omega
  · split
    · omega
    · have key : ∀ r c, 256 ≤ c → c < 2 * n → Builtin.growBy n r c ≤ 2 * n := by
        intro r
        induction r with
        | zero => intro c _ h; simp [Builtin.growBy]; omega
        | succ r ih =>
          intro c h1 h2
          unfold Builtin.growBy
          split
          · omega
          · rename_i hcn
            by_cases h3 : c + (c + 768) / 4 < 2 * n
            · exact ih _ (by omega) h3
            · omega
      exact key 4 c (by omega) (by omega)

/-- Leaves are of one cell. -/
theorem rep_one {h : Array Obj} {ok : Nat → Prop} : (k : Kd) → {x : k.T} → {cs : List Value} → Rep h ok k x cs → ∀ u ∈ cs, u.oneCell' = true
  | .int _, _, _, e => by cases e; simp [Value.oneCell']
  | .bool, _, _, e => by cases e; simp [Value.oneCell']
  | .str, _, _, e => by cases e; simp [Value.oneCell']
  | .err, _, _, e => by rcases e with ⟨_, rfl⟩ | ⟨_, _, _, rfl⟩ <;> simp [Value.oneCell']
  | .any, _, _, e => by cases e; simp [Value.oneCell']
  | .sl true _, _, _, e => e.elim
  | .sl false _, _, _, e => by obtain ⟨_, _, rfl, _⟩ := e; simp [Value.oneCell']
  | .nil, _, _, e => by cases e; simp
  | .cons a b, _, _, e => by
    obtain ⟨c1, c2, rfl, e1, e2⟩ := e
    intro u hu
    rcases List.mem_append.1 hu with h | h
    · exact rep_one a e1 u h
    · exact rep_one b e2 u h
  | .tree _, _, _, e => e.elim

theorem elems_one {h : Array Obj} {ok : Nat → Prop} {k : Kd} (hk : 0 < k.n) {l : List k.T} {r : Array Value} {o : Nat} (he : ElemsR (fun x cs => Rep h ok k x cs) k.n l r o) : ∀ u ∈ sub r o (l.length * k.n), u.oneCell' = true := by
  intro u hu
  obtain ⟨q, hq, rfl⟩ := List.getElem_of_mem hu
  rw [sub_length he.1] at hq
  have hdiv : q / k.n < l.length := Nat.div_lt_of_lt_mul (by rw [Nat.mul_comm]; exact hq)
  have hb : q / k.n * k.n + k.n ≤ l.length * k.n := by
    have : (q / k.n + 1) * k.n ≤ l.length * k.n := Nat.mul_le_mul_right _ hdiv
    rw [Nat.add_mul, Nat.one_mul] at this
    exact this
  have hm : q % k.n < k.n := Nat.mod_lt _ hk
  have hqe : q / k.n * k.n + q % k.n = q := by rw [Nat.mul_comm]; exact Nat.div_add_mod q k.n
  have h1 := he.2 (q / k.n) hdiv
  have h2 : (sub r (o + q / k.n * k.n) k.n)[q % k.n]? = (sub r o (l.length * k.n))[q]? := by
    rw [sub_getElem hm, sub_getElem hq, Nat.add_assoc, hqe]
  have hlen : (sub r (o + q / k.n * k.n) k.n).length = k.n := sub_length (by have := he.1; omega)
  rw [List.getElem?_eq_getElem (by omega), List.getElem?_eq_getElem (by rw [sub_length he.1]; exact hq)] at h2
  rw [← Option.some.inj h2]
  exact rep_one k h1 _ (List.getElem_mem _)

/-- What is appended, as cells. -/
theorem appElems_sound (hh : HRep F G ow w.heap) {k : Kd} (hk : 0 < k.n) {x : SV} {xv : Value} (hx : Sv F G ow w.heap x xv) {y : List k.T} (h : appElems k x ow = some y) {tx e : TypeId} (ht : P.underlying tx = some (.slice e)) :
    ∃ news, Src P k.n tx xv y.length news w ∧ ElemsR (fun x cs => Rep w.heap (okF F G ow) k x cs) k.n y news.toArray 0 := by
  have nil : ∀ (a : Option Addr) (c : Nat), Src P k.n tx (.slice a 0 c) 0 [] w := by
    intro a c
    cases a with
    | none => exact Src.ofNil w ht c
    | some a => exact Src.ofSlice w ht a 0 c [] (by simp) (fun j u hu => by simp at hu) (by simp)
  have row : ∀ (b o c : Nat) (r : Array Value) (l : List k.T), rowCells w.heap b = some r → ElemsR (fun x cs => Rep w.heap (okF F G ow) k x cs) k.n l r o →
      ∃ news, Src P k.n tx (.slice (some ⟨b, o, none⟩) l.length c) l.length news w ∧ ElemsR (fun x cs => Rep w.heap (okF F G ow) k x cs) k.n l news.toArray 0 := by
    intro b o c r l hr hel
    have hlen := sub_length hel.1
    refine ⟨sub r o (l.length * k.n), Src.ofSlice w ht _ _ _ _ hlen (fun j u hu => ?_) (elems_one hk hel), hel.congr (by simp [hlen]) ?_⟩
    · rw [Addr.add_mid, rowCells_cell hr, ← hu, sub_getElem]
      rcases Nat.lt_or_ge j (l.length * k.n) with h | h
      · exact h
      · rw [List.getElem?_eq_none (by omega)] at hu; cases hu
    · show ((sub r o (l.length * k.n)).toArray.toList.drop 0).take (l.length * k.n) = _
      rw [List.drop_zero, List.take_of_length_le]
      simp [hlen]
  unfold appElems at h
  split at h
  · cases h
    cases hx
    exact ⟨[], nil _ _, ⟨by simp, fun i hi => by simp at hi⟩⟩
  · rename_i o k' l
    split at h
    · rename_i e
      subst e
      have h : l = y := Option.some.inj h
      subst h
      obtain ⟨rfl, a, c, rfl, _, hx⟩ := hx.sl_inv
      rcases hx with rfl | ⟨b, of, r, rfl, _, hr, hel⟩
      · exact ⟨[], nil _ _, ⟨by simp, fun i hi => by simp at hi⟩⟩
      · exact row b of c r l hr hel
    · cases h
  · split at h
    · rename_i r hr
      obtain ⟨rk, rl⟩ := r
      dsimp only at h
      split at h
      · rename_i e
        subst e
        have h : rl = y := Option.some.inj h
        subst h
        obtain ⟨_, _, _, _, _, _, _, a, c, rfl, _, hx⟩ := rowOf_sound hh hx hr
        rcases hx with hx | ⟨b, o, rw_, _, rfl, hrow, hel, _⟩
        · dsimp only at hx
          subst hx
          exact ⟨[], nil _ _, ⟨by simp, fun i hi => by simp at hi⟩⟩
        · exact row b o c rw_ rl hrow hel
      · cases h
    · cases h

end
end Go.Pev
