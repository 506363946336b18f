/-
  PEV, part 3: what the evaluator's values say of memory.
-/
import Derived.Test.YtgajbbadidobfaaDoorPevEval
import Derived.Calls
import Derived.Laws.Sem
namespace Go.Pev

def rowCells (h : Array Obj) (b : Nat) : Option (Array Value) :=
  match h[b]? with
  | some (.cells c _ _) => some c
  | _ => none

/-- Some cells, from one on. -/
def sub (r : Array Value) (o n : Nat) : List Value := (r.toList.drop o).take n

def ElemsR {α : Type} (R : α → List Value → Prop) (n : Nat) (l : List α) (r : Array Value) (o : Nat) : Prop :=
  o + l.length * n ≤ r.size ∧ ∀ i (hi : i < l.length), R l[i] (sub r (o + i * n) n)

def anyV : Int ⊕ List UInt8 → Value
  | .inl n => .int .i64 n
  | .inr s => .string ⟨s.toArray⟩

/-- Data in memory that nobody writes. -/
def Rep (h : Array Obj) (ok : Nat → Prop) : (k : Kd) → k.T → List Value → Prop
  | .int kk, n, cs => cs = [.int kk n]
  | .bool, b, cs => cs = [.bool b]
  | .str, s, cs => cs = [.string ⟨s.toArray⟩]
  | .err, b, cs => (b = false ∧ cs = [.nilIface]) ∨ (b = true ∧ ∃ t v, cs = [.iface t v])
  | .any, y, cs => cs = [.iface y.1 (anyV y.2)]
  | .sl true _, _, _ => False
  | .sl false e, l, cs => ∃ a c, cs = [.slice a l.length c] ∧ l.length ≤ c ∧
      (l = [] ∨ ∃ b o r, a = some ⟨b, o, none⟩ ∧ ok b ∧ rowCells h b = some r ∧ ElemsR (fun x cs => Rep h ok e x cs) e.n l r o)
  | .nil, _, cs => cs = []
  | .cons a b, x, cs => ∃ c1 c2, cs = c1 ++ c2 ∧ Rep h ok a x.1 c1 ∧ Rep h ok b x.2 c2
  | .tree _, _, _ => False

theorem Rep.length {h : Array Obj} {ok : Nat → Prop} : (k : Kd) → {x : k.T} → {cs : List Value} → Rep h ok k x cs → cs.length = k.n
  | .int _, _, _, e => by cases e; rfl
  | .bool, _, _, e => by cases e; rfl
  | .str, _, _, e => by cases e; rfl
  | .err, _, _, e => by rcases e with ⟨_, rfl⟩ | ⟨_, _, _, rfl⟩ <;> rfl
  | .any, _, _, e => by cases e; rfl
  | .sl true _, _, _, e => e.elim
  | .sl false _, _, _, e => by obtain ⟨_, _, rfl, _⟩ := e; rfl
  | .nil, _, _, e => by cases e; rfl
  | .cons a b, _, _, e => by
    obtain ⟨c1, c2, rfl, e1, e2⟩ := e
    simp [Kd.n, Rep.length a e1, Rep.length b e2]
  | .tree _, _, _, e => e.elim

theorem Rep.mono {h h' : Array Obj} {ok ok' : Nat → Prop} (hm : ∀ b r, ok b → rowCells h b = some r → ok' b ∧ rowCells h' b = some r) :
    (k : Kd) → {x : k.T} → {cs : List Value} → Rep h ok k x cs → Rep h' ok' k x cs
  | .int _, _, _, e => e
  | .bool, _, _, e => e
  | .str, _, _, e => e
  | .err, _, _, e => e
  | .any, _, _, e => e
  | .sl true _, _, _, e => e
  | .sl false k, _, _, e => by
    obtain ⟨a, c, rfl, hl, e⟩ := e
    refine ⟨a, c, rfl, hl, ?_⟩
    rcases e with e | ⟨b, o, r, ha, hb, hr, hs, he⟩
    · exact .inl e
    · obtain ⟨hb', hr'⟩ := hm b r hb hr
      exact .inr ⟨b, o, r, ha, hb', hr', hs, fun i hi => Rep.mono hm k (he i hi)⟩
  | .nil, _, _, e => e
  | .cons a b, _, _, e => by
    obtain ⟨c1, c2, rfl, e1, e2⟩ := e
    exact ⟨c1, c2, rfl, Rep.mono hm a e1, Rep.mono hm b e2⟩
  | .tree _, _, _, e => e

/-- No memory at all: of whatever heap. -/
theorem Rep.any_heap {h h' : Array Obj} {ok ok' : Nat → Prop} : (k : Kd) → k.allOwn = true → {x : k.T} → {cs : List Value} → Rep h ok k x cs → Rep h' ok' k x cs
  | .int _, _, _, _, e => e
  | .bool, _, _, _, e => e
  | .str, _, _, _, e => e
  | .err, _, _, _, e => e
  | .any, _, _, _, e => e
  | .sl true _, _, _, _, e => e
  | .sl false _, hk, _, _, _ => by simp [Kd.allOwn] at hk
  | .nil, _, _, _, e => e
  | .cons a b, hk, _, _, e => by
    simp [Kd.allOwn] at hk
    obtain ⟨c1, c2, rfl, e1, e2⟩ := e
    exact ⟨c1, c2, rfl, Rep.any_heap a hk.1 e1, Rep.any_heap b hk.2 e2⟩
  | .tree _, _, _, _, e => e

theorem ElemsR.mono {α : Type} {R R' : α → List Value → Prop} {n : Nat} {l : List α} {r : Array Value} {o : Nat} (hR : ∀ x cs, R x cs → R' x cs) (e : ElemsR R n l r o) : ElemsR R' n l r o :=
  ⟨e.1, fun i hi => hR _ _ (e.2 i hi)⟩

/-! ### Owned things -/

/-- Where each owned thing lies. -/
abbrev Gh := Nat → Nat → Option (Nat × Nat)

/-- What a name stands for: 'none': nothing ever. -/
def nameOf (ow : OW) (d j : Nat) : Option (Option OB) := (ow[d]?).bind fun l => l[j]?

theorem getOb_eq (ow : OW) (d j : Nat) : getOb ow d j = (nameOf ow d j).bind id := by
  unfold getOb nameOf
  cases ow[d]? with
  | none => rfl
  | some l => cases h : l[j]? <;> simp [h]

theorem nameOf_of_getOb {ow : OW} {d j : Nat} {o : OB} (h : getOb ow d j = some o) : nameOf ow d j = some (some o) := by
  rw [getOb_eq] at h
  cases hn : nameOf ow d j with
  | none => simp [hn] at h
  | some x => simp [hn] at h; rw [h]

/-- The block is one's own. -/
def Own (G : Gh) (ow : OW) (b : Nat) : Prop :=
  ∃ d j o, (match nameOf ow d j with | some (some (.box _)) => True | some (some (.row _ _ _)) => True | _ => False) ∧ G d j = some (b, o)

/-- A slice of a row, as a value. -/
def HandV (h : Array Obj) (G : Gh) (n : Nat) (d j off len : Nat) (val : Value) : Prop :=
  ∃ a c, val = .slice a len c ∧ len ≤ c ∧ ((G d j = none ∧ a = none ∧ c = 0) ∨
    ∃ b o o' r, G d j = some (b, o) ∧ a = some ⟨b, o', none⟩ ∧ rowCells h b = some r ∧ (0 < c → o' = o + off * n) ∧ o' + c * n ≤ r.size)

def HandR (h : Array Obj) (G : Gh) (ow : OW) (d j off : Nat) (len : Option Nat) (val : Value) : Prop :=
  match nameOf ow d j with
  | none => False
  | some none => val.oneCell' = true
  | some (some (.box _)) => False
  | some (some (.row k _ l)) => off + len.getD l.length ≤ l.length ∧ HandV h G k.n d j off (len.getD l.length) val
  | some (some (.frow k _ l)) => off + len.getD l.length ≤ l.length ∧ HandV h G k.n d j off (len.getD l.length) val

inductive SvRep (h : Array Obj) (ok : Nat → Prop) (G : Gh) (ow : OW) : SV → Value → Prop where
  | v {k : Kd} {x : k.T} {val : Value} : k.isSt = false → Rep h ok k x [val] → SvRep h ok G ow (.v k x) val
  | lb (b : Bool) : SvRep h ok G ow (.lb b) (.bool b)
  | dead (val : Value) : SvRep h ok G ow .dead val
  | nils : SvRep h ok G ow .nils (.slice none 0 0)
  | agg {l : List SV} {vs : List Value} : l.length = vs.length → (∀ i (h1 : i < l.length) (h2 : i < vs.length), SvRep h ok G ow l[i] vs[i]) → SvRep h ok G ow (.agg l) (.agg vs.toArray)
  | tup {l : List SV} {vs : List Value} : l.length = vs.length → (∀ i (h1 : i < l.length) (h2 : i < vs.length), SvRep h ok G ow l[i] vs[i]) → SvRep h ok G ow (.tup l) (.tuple vs.toArray)
  | fn {f : Fn} {a b : List SV} {xs ys : List Value} : a.length = xs.length → b.length = ys.length → (∀ i (h1 : i < a.length) (h2 : i < xs.length), SvRep h ok G ow a[i] xs[i]) →
      (∀ i (h1 : i < b.length) (h2 : i < ys.length), SvRep h ok G ow b[i] ys[i]) → SvRep h ok G ow (.fn f a b) (.func f xs.toArray ys.toArray)
  | wh {d j ver : Nat} {val : Value} : HandR h G ow d j 0 none val → SvRep h ok G ow (.wh d j ver []) val
  | os {d j ver off len : Nat} {val : Value} : HandR h G ow d j off (some len) val → SvRep h ok G ow (.os d j ver [] off len) val
  | bp {d j c : Nat} {val : Value} : (match nameOf ow d j with
      | none => False
      | some none => val.oneCell' = true
      | some (some (.box _)) => ∃ b o, G d j = some (b, o) ∧ val = .pointer (some ⟨b, o + c, none⟩)
      | _ => False) → SvRep h ok G ow (.bp d j c) val
  | rp {d j ver e c : Nat} {val : Value} : (match nameOf ow d j with
      | none => False
      | some none => val.oneCell' = true
      | some (some (.row k _ l)) => e < l.length ∧ ∃ b o, G d j = some (b, o) ∧ val = .pointer (some ⟨b, o + e * k.n + c, none⟩)
      | some (some (.frow k _ l)) => e < l.length ∧ ∃ b o, G d j = some (b, o) ∧ val = .pointer (some ⟨b, o + e * k.n + c, none⟩)
      | _ => False) → SvRep h ok G ow (.rp d j ver [] e c) val
  | ip {k : Kd} {x : k.T} {b o : Nat} {r : Array Value} : k.leafy = true → ok b → rowCells h b = some r → o + k.n ≤ r.size → Rep h ok k x (sub r o k.n) → SvRep h ok G ow (.ip k x) (.pointer (some ⟨b, o, none⟩))

def ObRep (h : Array Obj) (ok : Nat → Prop) (G : Gh) (ow : OW) (d j : Nat) : OB → Prop
  | .box cells => ∃ b o r et, G d j = some (b, o) ∧ h[b]? = some (.cells r et (0, 0)) ∧ o + cells.length ≤ r.size ∧ ∀ i (hi : i < cells.length) (hr : o + i < r.size), SvRep h ok G ow cells[i] r[o + i]
  | .row k _ l => k.good = true ∧ (match G d j with
      | none => l = []
      | some (b, o) => ∃ r et, h[b]? = some (.cells r et (0, 0)) ∧ ElemsR (fun x cs => Rep h ok k x cs) k.n l r o)
  | .frow k _ l => k.good = true ∧ (match G d j with
      | none => l = []
      | some (b, o) => l = [] ∨ (ok b ∧ ∃ r, rowCells h b = some r ∧ ElemsR (fun x cs => Rep h ok k x cs) k.n l r o))

/-- What memory may be shared. -/
def okF (F : Nat → Prop) (G : Gh) (ow : OW) (b : Nat) : Prop := ¬ F b ∧ ¬ Own G ow b

/-- The heap's side of a state. -/
structure HRep (F : Nat → Prop) (G : Gh) (ow : OW) (h : Array Obj) : Prop where
  obs : ∀ d j o, nameOf ow d j = some (some o) → ObRep h (okF F G ow) G ow d j o
  apart : ∀ d j d' j' b o o', (match nameOf ow d j with | some (some (.box _)) => True | some (some (.row _ _ _)) => True | _ => False) →
    (match nameOf ow d' j' with | some (some (.box _)) => True | some (some (.row _ _ _)) => True | _ => False) → G d j = some (b, o) → G d' j' = some (b, o') → d = d' ∧ j = j'
  notF : ∀ b, Own G ow b → ¬ F b

def Sv (F : Nat → Prop) (G : Gh) (ow : OW) (h : Array Obj) (s : SV) (v : Value) : Prop := SvRep h (okF F G ow) G ow s v

def Svs (F : Nat → Prop) (G : Gh) (ow : OW) (h : Array Obj) (l : List SV) (vs : List Value) : Prop :=
  l.length = vs.length ∧ ∀ i (h1 : i < l.length) (h2 : i < vs.length), Sv F G ow h l[i] vs[i]

/-- What a piece of a run has done to the world: what was there and is not in I stays. -/
structure Kept (I : Nat → Prop) (w0 w : World) : Prop where
  size : w0.heap.size ≤ w.heap.size
  heap : ∀ b, b < w0.heap.size → ¬ I b → w.heap[b]? = w0.heap[b]?
  cells : ∀ (b : Nat) (r : Array Value) (et : TypeId) (f : Nat × Nat), w0.heap[b]? = some (Obj.cells r et f) → ∃ r' : Array Value, w.heap[b]? = some (Obj.cells r' et f) ∧ r'.size = r.size
  os : w.os = w0.os
  output : w.output = w0.output
  tape : w.tape = w0.tape

structure Inv (F I : Nat → Prop) (w0 : World) (st : St) (a : Act) (w : World) : Prop where
  ex : ∃ G, Svs F G st.ow w.heap st.sl a.tmps.toList ∧ HRep F G st.ow w.heap ∧ ∀ b, Own G st.ow b → I b ∨ w0.heap.size ≤ b
  kept : Kept I w0 w
  defers : a.defers = []
  wide : ∀ b, F b → b < w0.heap.size
  lens : st.ow.length = st.sl.length

end Go.Pev
