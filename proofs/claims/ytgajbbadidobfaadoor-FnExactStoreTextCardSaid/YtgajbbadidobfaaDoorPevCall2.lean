/-
  PEV, part 17: a call whose contract is known.
-/
import Derived.Test.YtgajbbadidobfaaDoorPevCall
namespace Go.Pev

theorem pad_ret {h : Array Obj} {ok : Nat → Prop} {G : Gh} {ow : OW} {l : List SV} {vs : List Value} (hs : SvsR h ok G ow l vs) : SvRep h ok G ow (pad l) (retV vs) := by
  obtain ⟨hl, hs⟩ := hs
  match l, vs, hl, hs with
  | [], [], hl, hs => exact .tup (l := []) (vs := []) rfl hs
  | [a], [v], _, hs => exact hs 0 (by simp) (by simp)
  | a :: b :: l, v :: u :: vs, hl, hs => exact .tup hl hs

theorem own_of_block {F : Nat → Prop} {G : Gh} {ow : OW} {w : World} (_ : HRep F G ow w.heap) {d j b o : Nat} (hi : isOwn (nameOf ow d j)) (hg : G d j = some (b, o)) : Own G ow b := own_iff.2 ⟨d, j, o, hi, hg⟩

theorem Taken.ne {ow ow1 : OW} (hT : Taken ow ow1) {d j : Nat} (h : nameOf ow d j ≠ none) : nameOf ow1 d j ≠ none := by
  rcases hT.names d j with e | ⟨_, e⟩ | ⟨_, _, _, _, e⟩
  · rw [e]; exact h
  · rw [e]; simp
  · rw [e]; simp

/-- After a call: the state. -/
theorem call_state {F : Nat → Prop} {G : Gh} {ow owb : OW} {w w' : World} (hh : HRep F G ow w.heap) (hF : ∀ b, F b → b < w.heap.size) {fp fps : List Nat} (hT : Taken ow owb) (hO : FpOk G ow owb fp) (hK : Kept (· ∈ fp) w w') (hnd : fps.Nodup)
    (hfps : ∀ b ∈ fps, b ∈ fp ∨ w.heap.size ≤ b) {d : Nat} {obs1 new : List OB} {ps1 ps2 : List (Option (Nat × Nat))} {puts : List (Nat × Nat × OB)} {fp2 : List Nat} {st' : OW × List OB} {okR : Nat → Prop}
    (hP : Puts w'.heap okR G ow d fp2 (owb, obs1) st' puts ps2 new) (hl1 : ps1.length = obs1.length) (hfp : fps = posBlocks ps1 ++ fp2) {ow' : OW} (hnew : newObs st'.1 d st'.2 = some ow')
    (hokR : ∀ b r, okR b → rowCells w'.heap b = some r → ¬ F b ∧ ¬ Own G owb b ∧ b ∉ fps) {l : List SV} {vs : List Value}
    (hR : ∀ (G2 : Gh) (ow2 : OW), Named G2 ow2 d 0 obs1 ps1 → SvsR w'.heap okR G2 ow2 l vs ∧ ∀ i o, obs1[i]? = some o → ObRep w'.heap okR G2 ow2 d (0 + i) o ∧ isOwn (some (some o))) :
    ∃ G', Tr F G ow w G' ow' w' ∧ Svs F G' ow' w'.heap l vs := by
  obtain ⟨hlen', hem, hnm⟩ := newObs_some hnew
  have hobs : st'.2 = obs1 ++ new := hP.obs
  -- where things are
  let ps := ps1 ++ ps2
  let G' : Gh := if st'.2 = [] then G else G.new d fun j => (ps[j]?).join
  have hpl : ps.length = st'.2.length := by simp [ps, hl1, hP.plen, hobs]
  have dnew : st'.2 ≠ [] → ∀ j, nameOf ow d j = none := by
    intro hne j
    have h1 : st'.1[d]? = some [] := by
      rcases hem with h | h
      · exact absurd h hne
      · exact h
    have h2 := nameOf_empty h1 j
    cases hx : nameOf ow d j with
    | none => rfl
    | some z =>
      have h3 : nameOf owb d j ≠ none := hT.ne (by rw [hx]; simp)
      rcases hP.names d j with ⟨p, _, _, _, e⟩ | ⟨_, e⟩
      · rw [h2] at e; cases e
      · rw [h2] at e; exact absurd e.symm h3
  have g0 : ∀ d' j, d' ≠ d → G' d' j = G d' j := by
    intro d' j hd
    simp only [G']
    split
    · rfl
    · simp [Gh.new, hd]
  have gold : ∀ d' j, nameOf ow d' j ≠ none → G' d' j = G d' j := by
    intro d' j hx
    simp only [G']
    split
    · rfl
    · rename_i hne
      have hd : d' ≠ d := fun e => hx (by rw [e]; exact dnew hne j)
      simp [Gh.new, hd]
  have gd : st'.2 ≠ [] → ∀ j, G' d j = (ps[j]?).join := fun hne j => by simp [G', hne, Gh.new]
  -- the names
  have names : ∀ d' j, (st'.2 ≠ [] ∧ d' = d ∧ nameOf ow' d' j = st'.2[j]?.map some) ∨
      (¬ (st'.2 ≠ [] ∧ d' = d) ∧ ((∃ p ∈ puts, p.1 = d' ∧ p.2.1 = j ∧ nameOf ow' d' j = some (some p.2.2)) ∨ ((∀ p ∈ puts, ¬ (p.1 = d' ∧ p.2.1 = j)) ∧ nameOf ow' d' j = nameOf owb d' j))) := by
    intro d' j
    rw [hnm]
    by_cases hc : d' = d ∧ st'.2 ≠ []
    · rw [if_pos hc]; exact .inl ⟨hc.2, hc.1, rfl⟩
    · rw [if_neg hc]
      refine .inr ⟨fun h => hc ⟨h.2, h.1⟩, ?_⟩
      exact hP.names d' j
  have putOld : ∀ p ∈ puts, G' p.1 p.2.1 = G p.1 p.2.1 := by
    intro p hp
    refine gold _ _ ?_
    have := (hP.old p hp).1
    intro h; rw [h] at this; exact this
  -- what is owned
  have ownNew : ∀ {d' j b o : Nat}, isOwn (nameOf ow' d' j) → G' d' j = some (b, o) →
      (st'.2 ≠ [] ∧ d' = d ∧ ps[j]? = some (some (b, o))) ∨ (isOwn (nameOf ow d' j) ∧ G d' j = some (b, o) ∧ ((∃ p ∈ puts, p.1 = d' ∧ p.2.1 = j) ∨ nameOf ow' d' j = nameOf owb d' j)) := by
    intro d' j b o hi hg
    rcases names d' j with ⟨hne, rfl, hn⟩ | ⟨hno, ⟨p, hp, rfl, rfl, hn⟩ | ⟨hnp, hn⟩⟩
    · left
      refine ⟨hne, rfl, ?_⟩
      rw [gd hne] at hg
      cases hq : ps[j]? with
      | none => simp [hq] at hg
      | some q => simp [hq] at hg; rw [hg]
    · right
      rw [putOld p hp] at hg
      exact ⟨(hP.old p hp).1, hg, .inl ⟨p, hp, rfl, rfl⟩⟩
    · right
      rw [hn] at hi
      have e := (hT.names d' j).own hi
      rw [e] at hi
      have hne : nameOf ow d' j ≠ none := by intro h; rw [h] at hi; exact hi
      rw [gold d' j hne] at hg
      exact ⟨hi, hg, .inr hn⟩
  have psMem : ∀ {j b o : Nat}, ps[j]? = some (some (b, o)) → b ∈ fps := by
    intro j b o h
    have hm : some (b, o) ∈ ps := List.mem_of_getElem? h
    rw [hfp]
    rcases List.mem_append.1 hm with hm | hm
    · exact List.mem_append.2 (.inl (List.mem_filterMap.2 ⟨_, hm, rfl⟩))
    · refine List.mem_append.2 (.inr (hP.blocks.mem_iff.2 (List.mem_append.2 (.inr (List.mem_filterMap.2 ⟨_, hm, rfl⟩)))))
  have putMem : ∀ p ∈ puts, ∀ b o, G p.1 p.2.1 = some (b, o) → b ∈ putBlocks G puts := fun p hp b o hg => List.mem_filterMap.2 ⟨p, hp, by rw [hg]; rfl⟩
  have ownU : ∀ {d' j b o : Nat}, isOwn (nameOf ow' d' j) → nameOf ow' d' j = nameOf owb d' j → G d' j = some (b, o) → Own G owb b := fun hi he hg => own_iff.2 ⟨_, _, _, by rw [← he]; exact hi, hg⟩
  have ownB : ∀ b, Own G' ow' b → Own G owb b ∨ b ∈ fps := by
    intro b hb
    obtain ⟨d', j, o, hi, hg⟩ := own_iff.1 hb
    rcases ownNew hi hg with ⟨_, _, h⟩ | ⟨h1, h2, ⟨p, hp, rfl, rfl⟩ | h3⟩
    · exact .inr (psMem h)
    · right
      rw [hfp]
      exact List.mem_append.2 (.inr (hP.blocks.mem_iff.2 (List.mem_append.2 (.inl (putMem p hp b o h2)))))
    · exact .inl (ownU hi h3 h2)
  have fpsOwn : ∀ b ∈ fps, ¬ Own G owb b := by
    intro b hb ho
    rcases hfps b hb with h | h
    · exact hO.notOwn hh hT h ho
    · have := Own.lt hh (hT.own ho); omega
  have hok1 : ∀ b r, okR b → rowCells w'.heap b = some r → okF F G' ow' b ∧ rowCells w'.heap b = some r := by
    intro b r hb hr
    obtain ⟨h1, h2, h3⟩ := hokR b r hb hr
    refine ⟨⟨h1, fun ho => ?_⟩, hr⟩
    rcases ownB b ho with h | h
    · exact h2 h
    · exact h3 h
  have hkeep : ∀ b, b < w.heap.size → b ∉ fp → w'.heap[b]? = w.heap[b]? := fun b hb hn => hK.heap b hb hn
  have hok2 : ∀ b r, okF F G ow b → rowCells w.heap b = some r → okF F G' ow' b ∧ rowCells w'.heap b = some r := by
    intro b r hb hr
    have hlt := rowCells_lt hr
    have hnf : b ∉ fp := fun h => hb.2 (hO.own h)
    refine ⟨⟨hb.1, fun ho => ?_⟩, by unfold rowCells; rw [hkeep b hlt hnf]; exact hr⟩
    rcases ownB b ho with h | h
    · exact hb.2 (hT.own h)
    · rcases hfps b h with h | h
      · exact hnf h
      · omega
  have hsz : ∀ b r, rowCells w.heap b = some r → ∃ r', rowCells w'.heap b = some r' ∧ r'.size = r.size := by
    intro b r hr
    unfold rowCells at hr
    split at hr
    · rename_i c et f hb
      cases hr
      obtain ⟨r', h1, h2⟩ := hK.cells b _ et f hb
      exact ⟨r', by unfold rowCells; rw [h1], h2⟩
    · cases hr
  have hE : ∀ d' j, EC (nameOf ow d' j) (nameOf ow' d' j) := by
    intro d' j
    rcases names d' j with ⟨hne, rfl, hn⟩ | ⟨hno, ⟨p, hp, rfl, rfl, hn⟩ | ⟨hnp, hn⟩⟩
    · rw [dnew hne j]; trivial
    · rw [hn]; exact (hP.old p hp).2.1
    · rw [hn]; exact (hT.names d' j).ec
  have hsv : ∀ s v, Sv F G ow w.heap s v → Sv F G' ow' w'.heap s v := fun s v e => SvRep.mono gold hE hok2 hsz e
  -- the new things
  have hN : Named G' ow' d 0 st'.2 ps := by
    intro i o hi
    have hne : st'.2 ≠ [] := by intro h; rw [h] at hi; simp at hi
    have hlt : i < ps.length := by rw [hpl]; exact (List.getElem?_eq_some_iff.1 hi).1
    rw [Nat.zero_add, gd hne, List.getElem?_eq_getElem hlt]
    refine ⟨?_, rfl⟩
    rcases names d i with ⟨_, _, hn⟩ | ⟨hno, _⟩
    · rw [hn, hi]; rfl
    · exact absurd ⟨hne, rfl⟩ hno
  have hN' : Named G' ow' d 0 (obs1 ++ new) (ps1 ++ ps2) := by rw [← hobs]; exact hN
  obtain ⟨r1, r2⟩ := hR G' ow' (hN'.left hl1)
  have hN2 := hN'.right hl1
  rw [Nat.zero_add] at hN2
  obtain ⟨q1, q2⟩ := hP.rep G' ow' putOld hN2
  have up : ∀ {d' j : Nat} {o : OB}, nameOf ow' d' j ≠ none → ObRep w'.heap okR G' ow' d' j o → ObRep w'.heap (okF F G' ow') G' ow' d' j o := fun hx e =>
    ObRep.mono (fun _ _ _ => rfl) (fun _ _ => .refl _) hok1 (fun b r hr => ⟨r, hr, rfl⟩) hx (fun _ _ _ _ => rfl) e
  have hTr : Tr F G ow w G' ow' w' := by
    refine ⟨⟨fun d' j o hn => ?_, fun d1 j1 d2 j2 b o1 o2 h1 h2 g1 g2 => ?_, fun b hb => ?_⟩, hsv, ?_, fun b hb => ?_, by rw [hlen', hP.len, hT.len]⟩
    · rcases names d' j with ⟨hne, rfl, hx⟩ | ⟨hno, ⟨p, hp, rfl, rfl, hx⟩ | ⟨hnp, hx⟩⟩
      · have ho : st'.2[j]? = some o := by
          rw [hn] at hx
          cases hq : st'.2[j]? with
          | none => simp [hq] at hx
          | some q => simp [hq] at hx; rw [hx]
        rw [hobs] at ho
        refine up (by rw [hn]; simp) ?_
        by_cases hlt : j < obs1.length
        · rw [List.getElem?_append_left hlt] at ho
          have := (r2 j o ho).1
          rw [Nat.zero_add] at this
          exact this
        · rw [List.getElem?_append_right (by omega)] at ho
          have := (q2 _ o ho).1
          rw [show obs1.length + (j - obs1.length) = j by omega] at this
          exact this
      · rw [hn] at hx
        have hx : o = p.2.2 := by simpa using hx
        subst hx
        exact up (by rw [hn]; simp) (q1 p hp)
      · rw [hn] at hx
        have nfp : ∀ b, Own G owb b → b ∉ fp := fun b hb h => hO.notOwn hh hT h hb
        rcases hT.names d' j with e | ⟨_, e⟩ | ⟨k, ver, l0, e1, e2⟩
        · have h0 : nameOf ow d' j = some (some o) := by rw [← e, ← hx]
          refine ObRep.mono gold hE hok2 hsz (by rw [h0]; simp) (fun hi b c hg => ?_) (hh.obs d' j o h0)
          have hob : Own G owb b := own_iff.2 ⟨d', j, c, by rw [← hx]; exact hi, hg⟩
          exact hkeep b (Own.lt hh (hT.own hob)) (nfp b hob)
        · rw [e] at hx; cases hx
        · rw [e2] at hx
          have hx : o = .frow k ver l0 := by simpa using hx
          subst hx
          obtain ⟨hk, ho⟩ := hh.obs d' j _ e1
          refine ⟨hk, ?_⟩
          rw [gold d' j (by rw [e1]; simp)]
          cases hg : G d' j with
          | none => simpa [hg] using ho
          | some q =>
            obtain ⟨b, o⟩ := q
            simp only [hg] at ho
            obtain ⟨r, et, hb, hel⟩ := ho
            have hob : Own G ow b := own_iff.2 ⟨d', j, o, by rw [e1]; trivial, hg⟩
            have hlt := Own.lt hh hob
            have hnb : ¬ Own G owb b := by
              intro h
              obtain ⟨d2, j2, o2, hi, hg2⟩ := own_iff.1 h
              have e3 := (hT.names d2 j2).own hi
              obtain ⟨rfl, rfl⟩ := hh.apart d2 j2 d' j b o2 o (by rw [← e3]; exact hi) (by rw [e1]; trivial) hg2 hg
              rw [e2] at hi; exact hi
            have hnf : b ∉ fp := by
              intro h
              obtain ⟨d2, j2, o2, hi, hg2, hn2⟩ := (hO b).1 h
              obtain ⟨rfl, rfl⟩ := hh.apart d2 j2 d' j b o2 o hi (by rw [e1]; trivial) hg2 hg
              rw [e2] at hn2; cases hn2
            refine .inr ⟨⟨hh.notF b hob, fun h => ?_⟩, r, rowCells_of (by rw [hkeep b hlt hnf]; exact hb), hel.mono fun x cs hx => Rep.mono hok2 _ hx⟩
            rcases ownB b h with h | h
            · exact hnb h
            · rcases hfps b h with h | h
              · exact hnf h
              · omega
    · rcases ownNew h1 g1 with ⟨n1, rfl, p1⟩ | ⟨i1, k1, c1⟩
      · rcases ownNew h2 g2 with ⟨n2, rfl, p2⟩ | ⟨i2, k2, c2⟩
        · refine ⟨rfl, ?_⟩
          obtain ⟨x1, y1⟩ := List.getElem?_eq_some_iff.1 p1
          obtain ⟨x2, y2⟩ := List.getElem?_eq_some_iff.1 p2
          have hnd2 : (posBlocks ps).Nodup := by
            have e : posBlocks ps = posBlocks ps1 ++ posBlocks ps2 := by simp [posBlocks, ps]
            rw [e]
            rw [hfp] at hnd
            have h3 := (List.Perm.append_left (posBlocks ps1) hP.blocks).nodup_iff.1 hnd
            rw [List.nodup_append] at h3 ⊢
            refine ⟨h3.1, (List.nodup_append.1 h3.2.1).2.1, fun a ha b hb => h3.2.2 a ha b (List.mem_append.2 (.inr hb))⟩
          exact filterMap_inj ps hnd2 j1 j2 x1 x2 b (by rw [y1]; rfl) (by rw [y2]; rfl)
        · exfalso
          have hb := psMem p1
          rcases c2 with ⟨p, hp, rfl, rfl⟩ | c2
          · have hm : some (b, o1) ∈ ps := List.mem_of_getElem? p1
            have h3 := (List.Perm.append_left (posBlocks ps1) hP.blocks).nodup_iff.1 (by rw [hfp] at hnd; exact hnd)
            have hpb := putMem p hp b o2 k2
            rw [List.nodup_append] at h3
            rcases List.mem_append.1 hm with hm | hm
            · exact h3.2.2 b (List.mem_filterMap.2 ⟨_, hm, rfl⟩) b (List.mem_append.2 (.inl hpb)) rfl
            · exact (List.nodup_append.1 h3.2.1).2.2 b hpb b (List.mem_filterMap.2 ⟨_, hm, rfl⟩) rfl
          · exact fpsOwn b hb (ownU h2 c2 k2)
      · rcases ownNew h2 g2 with ⟨n2, rfl, p2⟩ | ⟨i2, k2, c2⟩
        · exfalso
          have hb := psMem p2
          rcases c1 with ⟨p, hp, rfl, rfl⟩ | c1
          · have hm : some (b, o2) ∈ ps := List.mem_of_getElem? p2
            have h3 := (List.Perm.append_left (posBlocks ps1) hP.blocks).nodup_iff.1 (by rw [hfp] at hnd; exact hnd)
            have hpb := putMem p hp b o1 k1
            rw [List.nodup_append] at h3
            rcases List.mem_append.1 hm with hm | hm
            · exact h3.2.2 b (List.mem_filterMap.2 ⟨_, hm, rfl⟩) b (List.mem_append.2 (.inl hpb)) rfl
            · exact (List.nodup_append.1 h3.2.1).2.2 b hpb b (List.mem_filterMap.2 ⟨_, hm, rfl⟩) rfl
          · exact fpsOwn b hb (ownU h1 c1 k1)
        · exact hh.apart d1 j1 d2 j2 b o1 o2 i1 i2 k1 k2
    · rcases ownB b hb with h | h
      · exact hh.notF b (hT.own h)
      · rcases hfps b h with h | h
        · exact hh.notF b (hO.own h)
        · intro hf
          have := hF b hf
          omega
    · exact ⟨hK.size, fun b hb hn => hK.heap b hb fun h => hn (hO.own h), hK.cells, hK.os, hK.output, hK.tape⟩
    · rcases ownB b hb with h | h
      · exact .inl (hT.own h)
      · rcases hfps b h with h | h
        · exact .inl (hO.own h)
        · exact .inr h
  exact ⟨G', hTr, r1.1, fun i h1 h2 => SvRep.mono (fun _ _ _ => rfl) (fun _ _ => .refl _) hok1 (fun b r hr => ⟨r, hr, rfl⟩) (r1.2 i h1 h2)⟩

end Go.Pev
