/-
  PEV, part 14: shapes in memory.
-/
import Derived.Test.YtgajbbadidobfaaDoorPevW4
namespace Go.Pev

/-- What may not be touched, with some blocks more. -/
def FP (F : Nat → Prop) (fp : List Nat) (b : Nat) : Prop := F b ∨ b ∈ fp

def PayR (h : Array Obj) (ok : Nat → Prop) (k : Kd) (x : k.T) (v : Value) : Prop :=
  Rep h ok k x v.cells.toList ∧ (k.isSt = true → (∃ cs, v = .agg cs) ∧ k.leafy = true) ∧ (k.isSt = false → v.oneCell' = true)

def RowR (h : Array Obj) (ok : Nat → Prop) (k : Kd) (l : List k.T) (v : Value) (fp : List Nat) : Prop :=
  k.good = true ∧ ∃ a c, v = .slice a l.length c ∧ l.length ≤ c ∧ ((a = none ∧ l = [] ∧ c = 0 ∧ fp = []) ∨
    ∃ b o r et, a = some ⟨b, o, none⟩ ∧ fp = [b] ∧ h[b]? = some (.cells r et (0, 0)) ∧ ElemsR (fun x cs => Rep h ok k x cs) k.n l r o ∧ o + c * k.n ≤ r.size)

/-- A shape's values; 'fp': the blocks that it owns. -/
def ShR (h : Array Obj) (ok : Nat → Prop) : (s : Sh) → s.T → List Value → List Nat → Prop
  | .pur kd, x, vs, fp => ∃ v, vs = [v] ∧ fp = [] ∧ PayR h ok kd x v
  | .own k, l, vs, fp => ∃ v, vs = [v] ∧ RowR h ok k l v fp
  | .row k, l, vs, fp => ∃ v, vs = [v] ∧ RowR h ok k l v fp
  | .box l, x, vs, fp => ∃ b o r et fp', vs = [.pointer (some ⟨b, o, none⟩)] ∧ fp = b :: fp' ∧ h[b]? = some (.cells r et (0, 0)) ∧ o + l.len ≤ r.size ∧ ShR h ok l x (sub r o l.len) fp'
  | .agg l, x, vs, fp => ∃ cs, vs = [.agg cs.toArray] ∧ ShR h ok l x cs fp
  | .fn f n l, x, vs, fp => ∃ xs ys, vs = [.func f xs.toArray ys.toArray] ∧ xs.length = n ∧ ShR h ok l x (xs ++ ys) fp
  | .ign, _, vs, fp => ∃ v, vs = [v] ∧ fp = []
  | .nl, _, vs, fp => vs = [.slice none 0 0] ∧ fp = []
  | .nil, _, vs, fp => vs = [] ∧ fp = []
  | .cons a b, x, vs, fp => ∃ v r f1 f2, vs = v :: r ∧ fp = f1 ++ f2 ∧ ShR h ok a x.1 [v] f1 ∧ ShR h ok b x.2 r f2

/-- What a shape's values hold when a call has ended. -/
def OutR (h : Array Obj) (ok : Nat → Prop) : (s : Sh) → s.Out → List Value → List Nat → Prop
  | .pur _, _, vs, fp => (∃ v, vs = [v]) ∧ fp = []
  | .own _, _, vs, fp => (∃ v, vs = [v]) ∧ fp = []
  | .row k, l, vs, fp => ∃ v, vs = [v] ∧ RowR h ok k l v fp
  | .box l, x, vs, fp => ∃ b o r et fp', vs = [.pointer (some ⟨b, o, none⟩)] ∧ fp = b :: fp' ∧ h[b]? = some (.cells r et (0, 0)) ∧ o + l.len ≤ r.size ∧ ShR h ok l x (sub r o l.len) fp'
  | .agg l, x, vs, fp => ∃ cs, vs = [.agg cs.toArray] ∧ OutR h ok l x cs fp
  | .fn f n l, x, vs, fp => ∃ xs ys, vs = [.func f xs.toArray ys.toArray] ∧ xs.length = n ∧ OutR h ok l x (xs ++ ys) fp
  | .ign, _, vs, fp => (∃ v, vs = [v]) ∧ fp = []
  | .nl, _, vs, fp => (∃ v, vs = [v]) ∧ fp = []
  | .nil, _, vs, fp => vs = [] ∧ fp = []
  | .cons a b, x, vs, fp => ∃ v r f1 f2, vs = v :: r ∧ fp = f1 ++ f2 ∧ OutR h ok a x.1 [v] f1 ∧ OutR h ok b x.2 r f2

theorem PayR.mono {h h' : Array Obj} {ok ok' : Nat → Prop} (hm : ∀ b r, ok b → rowCells h b = some r → ok' b ∧ rowCells h' b = some r) {k : Kd} {x : k.T} {v : Value} (e : PayR h ok k x v) : PayR h' ok' k x v :=
  ⟨Rep.mono hm _ e.1, e.2⟩

theorem RowR.mono {h h' : Array Obj} {ok ok' : Nat → Prop} (hm : ∀ b r, ok b → rowCells h b = some r → ok' b ∧ rowCells h' b = some r) {k : Kd} {l : List k.T} {v : Value} {fp : List Nat} (hf : ∀ b ∈ fp, h'[b]? = h[b]?) (e : RowR h ok k l v fp) : RowR h' ok' k l v fp := by
  obtain ⟨hk, a, c, hv, hlc, e⟩ := e
  refine ⟨hk, a, c, hv, hlc, ?_⟩
  rcases e with e | ⟨b, o, r, et, ha, rfl, hb, hel, hs⟩
  · exact .inl e
  · exact .inr ⟨b, o, r, et, ha, rfl, by rw [hf b (by simp), hb], hel.mono fun x cs hx => Rep.mono hm _ hx, hs⟩

theorem ShR.mono {h h' : Array Obj} {ok ok' : Nat → Prop} (hm : ∀ b r, ok b → rowCells h b = some r → ok' b ∧ rowCells h' b = some r) : (s : Sh) → {x : s.T} → {vs : List Value} → {fp : List Nat} → (∀ b ∈ fp, h'[b]? = h[b]?) → ShR h ok s x vs fp → ShR h' ok' s x vs fp
  | .pur _, _, _, _, _, e => by obtain ⟨v, h1, h2, e⟩ := e; exact ⟨v, h1, h2, e.mono hm⟩
  | .own _, _, _, _, hf, e => by obtain ⟨v, h1, e⟩ := e; exact ⟨v, h1, e.mono hm hf⟩
  | .row _, _, _, _, hf, e => by obtain ⟨v, h1, e⟩ := e; exact ⟨v, h1, e.mono hm hf⟩
  | .box l, _, _, _, hf, e => by
    obtain ⟨b, o, r, et, fp', h1, rfl, h3, h4, e⟩ := e
    exact ⟨b, o, r, et, fp', h1, rfl, by rw [hf b (by simp), h3], h4, ShR.mono hm l (fun b' hb => hf b' (by simp [hb])) e⟩
  | .agg l, _, _, _, hf, e => by obtain ⟨cs, h1, e⟩ := e; exact ⟨cs, h1, ShR.mono hm l hf e⟩
  | .fn _ _ l, _, _, _, hf, e => by obtain ⟨xs, ys, h1, h2, e⟩ := e; exact ⟨xs, ys, h1, h2, ShR.mono hm l hf e⟩
  | .ign, _, _, _, _, e => e
  | .nl, _, _, _, _, e => e
  | .nil, _, _, _, _, e => e
  | .cons a b, _, _, _, hf, e => by
    obtain ⟨v, r, f1, f2, h1, rfl, e1, e2⟩ := e
    exact ⟨v, r, f1, f2, h1, rfl, ShR.mono hm a (fun b' hb => hf b' (by simp [hb])) e1, ShR.mono hm b (fun b' hb => hf b' (by simp [hb])) e2⟩

theorem OutR.mono {h h' : Array Obj} {ok ok' : Nat → Prop} (hm : ∀ b r, ok b → rowCells h b = some r → ok' b ∧ rowCells h' b = some r) : (s : Sh) → {x : s.Out} → {vs : List Value} → {fp : List Nat} → (∀ b ∈ fp, h'[b]? = h[b]?) → OutR h ok s x vs fp → OutR h' ok' s x vs fp
  | .pur _, _, _, _, _, e => e
  | .own _, _, _, _, _, e => e
  | .row _, _, _, _, hf, e => by obtain ⟨v, h1, e⟩ := e; exact ⟨v, h1, e.mono hm hf⟩
  | .box l, _, _, _, hf, e => by
    obtain ⟨b, o, r, et, fp', h1, rfl, h3, h4, e⟩ := e
    exact ⟨b, o, r, et, fp', h1, rfl, by rw [hf b (by simp), h3], h4, ShR.mono hm l (fun b' hb => hf b' (by simp [hb])) e⟩
  | .agg l, _, _, _, hf, e => by obtain ⟨cs, h1, e⟩ := e; exact ⟨cs, h1, OutR.mono hm l hf e⟩
  | .fn _ _ l, _, _, _, hf, e => by obtain ⟨xs, ys, h1, h2, e⟩ := e; exact ⟨xs, ys, h1, h2, OutR.mono hm l hf e⟩
  | .ign, _, _, _, _, e => e
  | .nl, _, _, _, _, e => e
  | .nil, _, _, _, _, e => e
  | .cons a b, _, _, _, hf, e => by
    obtain ⟨v, r, f1, f2, h1, rfl, e1, e2⟩ := e
    exact ⟨v, r, f1, f2, h1, rfl, OutR.mono hm a (fun b' hb => hf b' (by simp [hb])) e1, OutR.mono hm b (fun b' hb => hf b' (by simp [hb])) e2⟩

/-! ### What is taken -/

def TkE (o n : Option (Option OB)) : Prop :=
  n = o ∨ (isOwn o ∧ n = some none) ∨ ∃ k ver l, o = some (some (.row k ver l)) ∧ n = some (some (.frow k ver l))

theorem TkE.trans {o n m : Option (Option OB)} (h1 : TkE o n) (h2 : TkE n m) : TkE o m := by
  rcases h1 with rfl | ⟨h, rfl⟩ | ⟨k, ver, l, rfl, rfl⟩
  · exact h2
  · rcases h2 with rfl | ⟨h', _⟩ | ⟨_, _, _, h', _⟩
    · exact .inr (.inl ⟨h, rfl⟩)
    · exact h'.elim
    · cases h'
  · rcases h2 with rfl | ⟨h', _⟩ | ⟨_, _, _, h', _⟩
    · exact .inr (.inr ⟨k, ver, l, rfl, rfl⟩)
    · exact h'.elim
    · cases h'

theorem TkE.own {o n : Option (Option OB)} (h : TkE o n) (hn : isOwn n) : n = o := by
  rcases h with h | ⟨_, rfl⟩ | ⟨_, _, _, _, rfl⟩
  · exact h
  · exact hn.elim
  · exact hn.elim

theorem TkE.ec {o n : Option (Option OB)} (h : TkE o n) : EC o n := by
  rcases h with rfl | ⟨_, rfl⟩ | ⟨_, _, _, rfl, rfl⟩
  · exact .refl _
  · exact .dead
  · exact ⟨rfl, rfl⟩

structure Taken (ow ow1 : OW) : Prop where
  len : ow1.length = ow.length
  names : ∀ d j, TkE (nameOf ow d j) (nameOf ow1 d j)

theorem Taken.refl (ow : OW) : Taken ow ow := ⟨rfl, fun _ _ => .inl rfl⟩
theorem Taken.trans {a b c : OW} (h1 : Taken a b) (h2 : Taken b c) : Taken a c := ⟨by rw [h2.len, h1.len], fun d j => (h1.names d j).trans (h2.names d j)⟩

/-- What was taken. -/
def TkB (G : Gh) (ow ow1 : OW) (b : Nat) : Prop := ∃ d j o, isOwn (nameOf ow d j) ∧ G d j = some (b, o) ∧ nameOf ow1 d j = some none

def FpOk (G : Gh) (ow ow1 : OW) (fp : List Nat) : Prop := ∀ b, b ∈ fp ↔ TkB G ow ow1 b

theorem TkB.trans {G : Gh} {a b c : OW} (h1 : Taken a b) (h2 : Taken b c) (x : Nat) : TkB G a c x ↔ TkB G a b x ∨ TkB G b c x := by
  constructor
  · rintro ⟨d, j, o, hi, hg, hn⟩
    rcases h1.names d j with e | ⟨_, e⟩ | ⟨k, ver, l, _, e⟩
    · exact .inr ⟨d, j, o, by rw [e]; exact hi, hg, hn⟩
    · exact .inl ⟨d, j, o, hi, hg, e⟩
    · rcases h2.names d j with e2 | ⟨h', _⟩ | ⟨_, _, _, h', _⟩
      · rw [hn, e] at e2; cases e2
      · rw [e] at h'; exact h'.elim
      · rw [e] at h'; cases h'
  · rintro (⟨d, j, o, hi, hg, hn⟩ | ⟨d, j, o, hi, hg, hn⟩)
    · refine ⟨d, j, o, hi, hg, ?_⟩
      rcases h2.names d j with e2 | ⟨h', _⟩ | ⟨_, _, _, h', _⟩
      · rw [e2, hn]
      · rw [hn] at h'; exact h'.elim
      · rw [hn] at h'; cases h'
    · exact ⟨d, j, o, by rw [← (h1.names d j).own hi]; exact hi, hg, hn⟩

theorem FpOk.refl (G : Gh) (ow : OW) : FpOk G ow ow [] := fun b => by
  constructor
  · intro h; simp at h
  · rintro ⟨d, j, o, hi, _, hn⟩
    rw [hn] at hi; exact hi.elim

section
variable {F : Nat → Prop} {G : Gh} {ow ow1 ow2 : OW} {h : Array Obj} {fp : List Nat}

theorem Taken.own (hT : Taken ow ow1) {b : Nat} (hb : Own G ow1 b) : Own G ow b := by
  obtain ⟨d, j, o, hi, hg⟩ := own_iff.1 hb
  exact own_iff.2 ⟨d, j, o, by rw [← (hT.names d j).own hi]; exact hi, hg⟩

theorem FpOk.own (hf : FpOk G ow ow1 fp) {b : Nat} (hb : b ∈ fp) : Own G ow b := by
  obtain ⟨d, j, o, hi, hg, _⟩ := (hf b).1 hb
  exact own_iff.2 ⟨d, j, o, hi, hg⟩

theorem FpOk.notOwn (hh : HRep F G ow h) (hT : Taken ow ow1) (hf : FpOk G ow ow1 fp) {b : Nat} (hb : b ∈ fp) : ¬ Own G ow1 b := by
  intro ho
  obtain ⟨d, j, o, hi, hg, hn⟩ := (hf b).1 hb
  obtain ⟨d', j', o', hi', hg'⟩ := own_iff.1 ho
  have e := (hT.names d' j').own hi'
  obtain ⟨rfl, rfl⟩ := hh.apart d j d' j' b o o' hi (by rw [← e]; exact hi') hg hg'
  rw [hn] at hi'
  exact hi'

theorem taken_ok (hT : Taken ow ow1) (hf : FpOk G ow ow1 fp) {b : Nat} (hb : okF F G ow b) : okF (FP F fp) G ow1 b :=
  ⟨fun hx => by
    rcases hx with hx | hx
    · exact hb.1 hx
    · exact hb.2 (hf.own hx), fun ho => hb.2 (hT.own ho)⟩

theorem taken_state (hh : HRep F G ow h) (hT : Taken ow ow1) (hf : FpOk G ow ow1 fp) : HRep (FP F fp) G ow1 h ∧ ∀ s v, Sv F G ow h s v → Sv (FP F fp) G ow1 h s v := by
  have hok : ∀ b r, okF F G ow b → rowCells h b = some r → okF (FP F fp) G ow1 b ∧ rowCells h b = some r := fun b r hb hr => ⟨taken_ok hT hf hb, hr⟩
  have hE : ∀ d j, EC (nameOf ow d j) (nameOf ow1 d j) := fun d j => (hT.names d j).ec
  refine ⟨⟨fun d j o hn => ?_, fun d j d' j' b o o' h1 h2 => ?_, fun b hb hx => ?_⟩, fun s v e => SvRep.mono (fun _ _ _ => rfl) hE hok (fun b r hr => ⟨r, hr, rfl⟩) e⟩
  · rcases hT.names d j with e | ⟨_, e⟩ | ⟨k, ver, l, e1, e2⟩
    · have hn' : nameOf ow d j = some (some o) := by rw [← e]; exact hn
      exact ObRep.mono (fun _ _ _ => rfl) hE hok (fun b r hr => ⟨r, hr, rfl⟩) (by rw [hn']; simp) (fun _ _ _ _ => rfl) (hh.obs d j o hn')
    · rw [hn] at e; cases e
    · rw [hn] at e2
      have e2 : o = .frow k ver l := by simpa using e2
      subst e2
      obtain ⟨hk, ho⟩ := hh.obs d j _ e1
      refine ⟨hk, ?_⟩
      cases hg : G d j with
      | none => simpa [hg] using ho
      | some p =>
        obtain ⟨b, o⟩ := p
        simp only [hg] at ho
        obtain ⟨r, et, hb, hel⟩ := ho
        refine .inr ⟨⟨fun hx => ?_, fun ho => ?_⟩, r, rowCells_of hb, hel.mono fun x cs hx => Rep.mono hok _ hx⟩
        · have hob : Own G ow b := own_iff.2 ⟨d, j, o, by rw [e1]; trivial, hg⟩
          rcases hx with hx | hx
          · exact hh.notF b hob hx
          · obtain ⟨d', j', o', hi, hg', hn'⟩ := (hf b).1 hx
            obtain ⟨rfl, rfl⟩ := hh.apart d' j' d j b o' o hi (by rw [e1]; trivial) hg' hg
            rw [hn] at hn'; cases hn'
        · obtain ⟨d', j', o', hi, hg'⟩ := own_iff.1 ho
          have e := (hT.names d' j').own hi
          obtain ⟨rfl, rfl⟩ := hh.apart d' j' d j b o' o (by rw [← e]; exact hi) (by rw [e1]; trivial) hg' hg
          rw [hn] at hi; exact hi
  · exact hh.apart d j d' j' b o o' (by rw [← (hT.names d j).own h1]; exact h1) (by rw [← (hT.names d' j').own h2]; exact h2)
  · rcases hx with hx | hx
    · exact hh.notF b (hT.own hb) hx
    · exact hf.notOwn hh hT hx hb

theorem taken_put {d j : Nat} (hi : isOwn (nameOf ow d j)) : Taken ow (putOb ow d j none) := by
  have hn : nameOf ow d j ≠ none := by intro h; rw [h] at hi; exact hi
  refine ⟨length_putOb, fun d' j' => ?_⟩
  rw [nameOf_putOb hn]
  split
  · rename_i e
    rw [e.1, e.2]
    exact .inr (.inl ⟨hi, rfl⟩)
  · exact .inl rfl

/-- Rows were frozen, nothing else. -/
structure FTaken (ow ow1 : OW) : Prop where
  len : ow1.length = ow.length
  names : ∀ d j, nameOf ow1 d j = nameOf ow d j ∨ ∃ k ver l, nameOf ow d j = some (some (.row k ver l)) ∧ nameOf ow1 d j = some (some (.frow k ver l))

theorem FTaken.refl (ow : OW) : FTaken ow ow := ⟨rfl, fun _ _ => .inl rfl⟩
theorem FTaken.trans {a b c : OW} (h1 : FTaken a b) (h2 : FTaken b c) : FTaken a c := ⟨by rw [h2.len, h1.len], fun d j => by
  rcases h1.names d j with e | ⟨k, ver, l, e1, e2⟩
  · rcases h2.names d j with e' | ⟨k, ver, l, e1, e2⟩
    · exact .inl (by rw [e', e])
    · exact .inr ⟨k, ver, l, by rw [← e, e1], e2⟩
  · rcases h2.names d j with e' | ⟨k', ver', l', e1', _⟩
    · exact .inr ⟨k, ver, l, e1, by rw [e', e2]⟩
    · rw [e2] at e1'; cases e1'⟩
theorem FTaken.taken {a b : OW} (h : FTaken a b) : Taken a b := ⟨h.len, fun d j => by
  rcases h.names d j with e | e
  · exact .inl e
  · exact .inr (.inr e)⟩
theorem FTaken.fpOk {a b : OW} (h : FTaken a b) : FpOk G a b [] := fun x => by
  constructor
  · intro h; simp at h
  · rintro ⟨d, j, o, hi, _, hn⟩
    rcases h.names d j with e | ⟨k, ver, l, _, e⟩
    · rw [← e, hn] at hi; exact hi.elim
    · rw [hn] at e; cases e

theorem taken_frz (d j : Nat) : FTaken ow (frzOb ow d j) := by
  unfold frzOb
  split
  · rename_i k ver l hg
    have hn := nameOf_of_getOb hg
    refine ⟨length_putOb, fun d' j' => ?_⟩
    rw [nameOf_putOb (by rw [hn]; simp)]
    split
    · rename_i e
      rw [e.1, e.2, hn]
      exact .inr ⟨k, ver, l, rfl, rfl⟩
    · exact .inl rfl
  · exact .refl _

theorem toLeaf_taken {k : Kd} {s : SV} {x : k.T} (e : toLeaf k s ow = some (x, ow1)) : FTaken ow ow1 := by
  unfold toLeaf at e
  split at e
  · split at e
    · cases e; exact .refl _
    · cases e
  · split at e
    · cases e; exact .refl _
    · cases e
  · split at e
    · cases e; exact .refl _
    · cases e
  · split at e
    · split at e
      · split at e
        · simp only [Option.some.injEq, Prod.mk.injEq] at e
          rw [← e.2]
          exact taken_frz _ _
        · cases e
      · cases e
    · cases e

theorem toCells_taken : (k : Kd) → {l : List SV} → {ow ow1 : OW} → {x : k.T} → toCells k l ow = some (x, ow1) → FTaken ow ow1
  | .cons a b, l, ow, ow1, x, e => by
    cases l with
    | nil => simp [toCells] at e
    | cons s r =>
      simp only [toCells] at e
      split at e
      · rename_i y hy
        split at e
        · rename_i z hz
          cases e
          exact (toLeaf_taken (x := y.1) (ow1 := y.2) hy).trans (toCells_taken b (x := z.1) (ow1 := z.2) hz)
        · cases e
      · cases e
  | .nil, l, ow, ow1, x, e => by
    cases l with
    | nil =>
      simp only [toCells, Option.some.injEq, Prod.mk.injEq] at e
      rw [← e.2]; exact .refl _
    | cons s r => simp [toCells] at e
  | .int _, _, _, _, _, e => by simp [toCells] at e
  | .bool, _, _, _, _, e => by simp [toCells] at e
  | .str, _, _, _, _, e => by simp [toCells] at e
  | .err, _, _, _, _, e => by simp [toCells] at e
  | .any, _, _, _, _, e => by simp [toCells] at e
  | .sl _ _, _, _, _, _, e => by simp [toCells] at e
  | .tree _, _, _, _, _, e => by simp [toCells] at e

theorem toPay_taken {k : Kd} {s : SV} {x : k.T} (e : toPay k s ow = some (x, ow1)) : FTaken ow ow1 := by
  unfold toPay at e
  split at e
  · split at e
    · exact toCells_taken k e
    · cases e
  · exact toLeaf_taken e

theorem toLeaf_leaf {w : World} {k : Kd} {s : SV} {v : Value} (hs : Sv F G ow w.heap s v) {x : k.T} (e : toLeaf k s ow = some (x, ow1)) : k.isSt = false := by
  unfold toLeaf at e
  split at e
  · split at e
    · rename_i hk
      subst hk
      cases hs with
      | v hk _ => exact hk
    · cases e
  · split at e
    · rfl
    · cases e
  · split at e
    · rfl
    · cases e
  · split at e
    · rfl
    · cases e

theorem toCells_leafy {w : World} (hF : ∀ b, F b → b < w.heap.size) : (k : Kd) → {ow ow1 : OW} → HRep F G ow w.heap → {l : List SV} → {vs : List Value} → Svs F G ow w.heap l vs → {x : k.T} → toCells k l ow = some (x, ow1) → k.leafy = true
  | .cons a b, ow, ow1, hh, l, vs, hl, x, e => by
    cases l with
    | nil => simp [toCells] at e
    | cons s r =>
      simp only [toCells] at e
      obtain ⟨v, vs', rfl, hv, hvs⟩ := hl.uncons
      split at e
      · rename_i y hy
        split at e
        · rename_i z hz
          obtain ⟨t1, _⟩ := toLeaf_sound (x := y.1) (ow' := y.2) hh hF hv hy
          have h1 := toLeaf_leaf (x := y.1) (ow1 := y.2) hv hy
          have h2 := toCells_leafy hF b (x := z.1) (ow1 := z.2) t1.hrep ⟨hvs.1, fun i h1 h2 => t1.sv _ _ (hvs.2 i h1 h2)⟩ hz
          simp [Kd.leafy, h1, h2]
        · cases e
      · cases e
  | .nil, _, _, _, _, _, _, _, _ => rfl
  | .int _, _, _, _, _, _, _, _, e => by simp [toCells] at e
  | .bool, _, _, _, _, _, _, _, e => by simp [toCells] at e
  | .str, _, _, _, _, _, _, _, e => by simp [toCells] at e
  | .err, _, _, _, _, _, _, _, e => by simp [toCells] at e
  | .any, _, _, _, _, _, _, _, e => by simp [toCells] at e
  | .sl _ _, _, _, _, _, _, _, _, e => by simp [toCells] at e
  | .tree _, _, _, _, _, _, _, _, e => by simp [toCells] at e

theorem toPay_pay {w : World} (hh : HRep F G ow w.heap) (hF : ∀ b, F b → b < w.heap.size) {k : Kd} {s : SV} {v : Value} (hs : Sv F G ow w.heap s v) {x : k.T} (e : toPay k s ow = some (x, ow1)) : PayR w.heap (okF F G ow1) k x v := by
  obtain ⟨_, hr, hc⟩ := toPay_sound hh hF hs e
  refine ⟨hr, fun hk => ?_, fun hk => by simpa [hk] using hc⟩
  refine ⟨by simpa [hk] using hc, ?_⟩
  unfold toPay at e
  rw [if_pos hk] at e
  split at e
  · obtain ⟨vs, _, hvs⟩ := hs.agg_inv
    exact toCells_leafy hF k hh hvs e
  · cases e

end
end Go.Pev
