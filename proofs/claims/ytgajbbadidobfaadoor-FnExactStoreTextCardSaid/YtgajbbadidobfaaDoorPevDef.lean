/-
  PEV, part 1: a symbolic evaluator of loaded Go code over typed payloads. Nothing is proved here.
-/
import GoSem.Dispatch
set_option linter.unusedVariables false
set_option linter.unusedSimpArgs false
namespace Go.Pev

/-- A tree of labels: how a pointer to a struct whose last field holds pointers to its like is read. -/
inductive Tree (α : Type) where
  | node (a : α) (kids : List (Tree α))

/-- Kinds of data. A struct is a chain of its cells; 'o': the slice's memory is owned. -/
inductive Kd where
  | int (k : IntKind) | bool | str | err | any
  | sl (o : Bool) (e : Kd)
  | nil | cons (a b : Kd)
  | tree (a : Kd)
  deriving DecidableEq

@[reducible] def Kd.T : Kd → Type
  | .int _ => Int
  | .bool => Bool
  | .str => List UInt8
  | .err => Bool
  | .any => TypeId × (Int ⊕ List UInt8)
  | .sl _ e => List e.T
  | .nil => Unit
  | .cons a b => a.T × b.T
  | .tree a => Tree a.T

def Kd.z : (k : Kd) → k.T
  | .int _ => (0 : Int)
  | .bool => false
  | .str => ([] : List UInt8)
  | .err => false
  | .any => (0, .inl 0)
  | .sl _ _ => []
  | .nil => ()
  | .cons a b => (a.z, b.z)
  | .tree a => .node a.z []

/-- How many cells. -/
def Kd.n : Kd → Nat
  | .nil => 0
  | .cons a b => a.n + b.n
  | _ => 1

def Kd.isSt : Kd → Bool
  | .nil | .cons _ _ => true
  | _ => false

/-- A chain of single cells. -/
def Kd.leafy : Kd → Bool
  | .nil => true
  | .cons a b => !a.isSt && b.leafy
  | _ => false

/-- The same, with nothing owned. -/
def Kd.frz : Kd → Kd
  | .sl _ e => .sl false e.frz
  | .cons a b => .cons a.frz b.frz
  | .tree a => .tree a.frz
  | k => k

theorem Kd.frz_T : (k : Kd) → k.frz.T = k.T
  | .int _ | .bool | .str | .err | .any | .nil => rfl
  | .sl _ e => by simp only [Kd.frz, Kd.T]; rw [Kd.frz_T e]
  | .cons a b => by simp only [Kd.frz, Kd.T]; rw [Kd.frz_T a, Kd.frz_T b]
  | .tree a => by simp only [Kd.frz, Kd.T]; rw [Kd.frz_T a]

/-- No memory is shared with anything: each slice in it is owned. -/
def Kd.allOwn : Kd → Bool
  | .sl o e => o && e.allOwn
  | .cons a b => a.allOwn && b.allOwn
  | .tree _ => false
  | _ => true

/-- Nothing is owned. -/
def Kd.noOwn : Kd → Bool
  | .sl o e => !o && e.noOwn
  | .cons a b => a.noOwn && b.noOwn
  | .tree a => a.noOwn
  | _ => true

/-- Values as the evaluator has them. -/
inductive SV where
  | v (k : Kd) (x : k.T)
  | lb (b : Bool)
  | dead
  | agg (l : List SV)
  | nils
  | wh (d j ver : Nat) (path : List (Nat × Nat))
  | os (d j ver : Nat) (path : List (Nat × Nat)) (off len : Nat)
  | bp (d j c : Nat)
  | rp (d j ver : Nat) (path : List (Nat × Nat)) (e c : Nat)
  | ip (k : Kd) (x : k.T)
  | fn (f : Fn) (first capt : List SV)
  | tup (l : List SV)

/-- What is owned: a box of cells, or a row; or a row that was, and is written no more. -/
inductive OB where
  | box (cells : List SV)
  | row (k : Kd) (ver : Nat) (l : List k.T)
  | frow (k : Kd) (ver : Nat) (l : List k.T)

abbrev OW := List (List (Option OB))

structure St where
  sl : List SV
  ow : OW

/-- Steps that may ask for something. -/
inductive Cmd (β : Type) : Type 1 where
  | ret (b : β)
  | fail
  | chk (c : Bool) (k : Cmd β)
  | bnd {γ : Type} (z : γ) (m : Option γ) (f : γ → Cmd β)
  | amb (c : Bool) (f g : Cmd β)

open Classical in
/-- Both, where they agree. -/
noncomputable def agree {α : Type} (x y : Option α) : Option α := if x = y then x else none

@[simp] theorem agree_self {α : Type} (x : Option α) : agree x x = x := by simp [agree]

/-- Tests and asks that the kernel does not look into: they hang on a number that it does not know. -/
def tst (n : Nat) (c : Bool) : Bool := Nat.rec c (fun _ _ => c) n
def tso {α : Type} (n : Nat) (m : Option α) : Option α := Nat.rec m (fun _ _ => m) n
def br {α : Type} (n : Nat) (c : Bool) (x y : Option α) : Option α := cond (tst n c) x y
def bd {α β : Type} (n : Nat) (m : Option β) (f : β → Option α) : Option α := (tso n m).bind f

theorem br_eq {α : Type} (n : Nat) (c : Bool) (x y : Option α) : br n c x y = cond c x y := by cases n <;> rfl
theorem bd_eq {α β : Type} (n : Nat) (m : Option β) (f : β → Option α) : bd n m f = m.bind f := by cases n <;> rfl

noncomputable def Cmd.run {α β : Type} (n : Nat) : Cmd β → (β → Option α) → Option α
  | .ret b, k => k b
  | .fail, _ => none
  | .chk c t, k => br n c (t.run n k) none
  | .bnd _ m f, k => bd n m fun y => (f y).run n k
  | .amb c f g, k => br n c (agree (f.run n k) (g.run n k)) (g.run n k)

def Cmd.bind {β γ : Type} : Cmd β → (β → Cmd γ) → Cmd γ
  | .ret b, k => k b
  | .fail, _ => .fail
  | .chk c t, k => .chk c (t.bind k)
  | .bnd z m f, k => .bnd z m fun y => (f y).bind k
  | .amb c f g, k => .amb c (f.bind k) (g.bind k)

/-- What comes out at made-up data: for the keys that are touched, which do not hang on data. -/
def Cmd.skel {β : Type} : Cmd β → Option β
  | .ret b => some b
  | .fail => none
  | .chk _ t => t.skel
  | .bnd z _ f => (f z).skel
  | .amb _ _ g => g.skel

def Cmd.ofOpt {β : Type} : Option β → Cmd β
  | some b => .ret b
  | none => .fail

/-! ### Owned things -/

def getOb (ow : OW) (d j : Nat) : Option OB :=
  match ow[d]? with
  | some l => (match l[j]? with | some o => o | none => none)
  | none => none

def putOb (ow : OW) (d j : Nat) (o : Option OB) : OW :=
  match ow[d]? with
  | some l => ow.set d (l.set j o)
  | none => ow

/-- New things under a key that was not used. -/
def newObs (ow : OW) (d : Nat) (l : List OB) : Option OW :=
  match l with
  | [] => some ow
  | _ => (match ow[d]? with
    | some [] => some (ow.set d (l.map some))
    | _ => none)

/-! ### Parts of data -/

def Kd.ch (k : Kd) : Kd := if k.isSt then k else .cons k .nil

/-- What a row's elements may be. -/
def Kd.good (k : Kd) : Bool := k.noOwn && k.ch.leafy

def chT : (k : Kd) → k.T → k.ch.T
  | .int _, x => (x, ())
  | .bool, x => (x, ())
  | .str, x => (x, ())
  | .err, x => (x, ())
  | .any, x => (x, ())
  | .sl _ _, x => (x, ())
  | .nil, x => x
  | .cons _ _, x => x
  | .tree _, x => (x, ())

/-- What begins at a cell. -/
def dropK : (k : Kd) → k.T → Nat → Option (Sigma Kd.T)
  | k, x, 0 => some ⟨k, x⟩
  | .cons _ b, x, c + 1 => dropK b x.2 c
  | _, _, _ + 1 => none

def leafAt (k : Kd) (x : k.T) (c : Nat) : Option (Sigma Kd.T) :=
  match dropK k.ch (chT k x) c with
  | some ⟨.cons a _, y⟩ => some ⟨a, y.1⟩
  | _ => none

/-- A chain with another first cells. -/
def setHead : (k : Kd) → k.T → (k' : Kd) → k'.T → Option k.T
  | k, x, .nil, _ => some x
  | .cons a b, x, .cons a' b', y => if h : a' = a then (match setHead b x.2 b' y.2 with | some r => some (h ▸ y.1, r) | none => none) else none
  | _, _, _, _ => none

def setAtCh : (k : Kd) → k.T → Nat → (k' : Kd) → k'.T → Option k.T
  | k, x, 0, k', y => setHead k x k' y
  | .cons _ b, x, c + 1, k', y => (match setAtCh b x.2 c k' y with | some r => some (x.1, r) | none => none)
  | _, _, _ + 1, _, _ => none

def unch : (k : Kd) → k.ch.T → k.T
  | .int _, x => x.1
  | .bool, x => x.1
  | .str, x => x.1
  | .err, x => x.1
  | .any, x => x.1
  | .sl _ _, x => x.1
  | .nil, x => x
  | .cons _ _, x => x
  | .tree _, x => x.1

def setAt (k : Kd) (x : k.T) (c : Nat) (k' : Kd) (y : k'.T) : Option k.T :=
  match setAtCh k.ch (chT k x) c k'.ch (chT k' y) with
  | some r => some (unch k r)
  | none => none

/-- The kinds of the first cells of a chain. -/
def takeK : Kd → Nat → Option Kd
  | _, 0 => some .nil
  | .cons a b, n + 1 => (match takeK b n with | some r => some (.cons a r) | none => none)
  | _, _ + 1 => none

/-- The cells of a chain, shared. -/
def cellsS : (k : Kd) → k.T → List SV
  | .cons a b, x => .v a x.1 :: cellsS b x.2
  | _, _ => []

def valS (k : Kd) (x : k.T) : SV := if k.isSt then .agg (cellsS k x) else .v k x

def subL {α : Type} (l : List α) (off len : Nat) : List α := (l.drop off).take len

/-! ### Types -/

section
variable (P : Program)

def undl (t : TypeId) : Option TypeDesc := P.underlying t
def isAggT (t : TypeId) : Bool := match undl P t with | some (.struct _) | some (.array _ _) => true | _ => false
def sizeT (t : TypeId) : Nat := P.cellsOf t
def bytesT (t : TypeId) : Nat := P.bytesOf t

def Kd.app : Kd → Kd → Kd
  | .cons a b, c => .cons a (b.app c)
  | _, c => c

/-- A type's kind, nothing owned. -/
def kdOf : Nat → TypeId → Option Kd
  | 0, _ => none
  | f + 1, t =>
    match undl P t with
    | some (.int k) => some (.int k)
    | some .bool => some .bool
    | some .string => some .str
    | some (.slice e) => (match kdOf f e with | some k => some (.sl false k) | none => none)
    | some (.struct fs) => fs.toList.foldr (fun x acc => match kdOf f x.type, acc with | some k, some r => some (k.ch.app r) | _, _ => none) (some .nil)
    | some (.interface ms) => if ms.size = 0 then some .any else some .err
    | _ => none

/-- All slices in it owned. -/
def Kd.own : Kd → Kd
  | .sl _ e => .sl true e.own
  | .cons a b => .cons a.own b.own
  | k => k

def elemT (t : TypeId) : Option TypeId := match undl P t with | some (.slice e) => some e | _ => none
def fieldT (t : TypeId) (j : Nat) : Option Field := match undl P t with | some (.struct fs) => fs[j]? | _ => none
end

def ofVal : Nat → Value → SV
  | _, .bool b => .lb b
  | _, .int k n => .v (.int k) n
  | _, .string s => .v .str s.data.toList
  | _, .slice none 0 0 => .nils
  | _, .nilIface => .v .err false
  | f + 1, .agg cs => .agg (cs.toList.map (ofVal f))
  | f + 1, .func g a b => .fn g (a.toList.map (ofVal f)) (b.toList.map (ofVal f))
  | _, _ => .dead

/-! ### Into data -/

def castL {a b : Kd} (h : a = b) (l : List a.T) : List b.T := h ▸ l
def castK {a b : Kd} (h : a = b) (x : a.T) : b.T := h ▸ x

/-- A row behind a handle. -/
def rowAt (ow : OW) (d j : Nat) (path : List (Nat × Nat)) : Option (Sigma fun k : Kd => List k.T) :=
  match path, getOb ow d j with
  | [], some (.row k _ l) => some ⟨k, l⟩
  | [], some (.frow k _ l) => some ⟨k, l⟩
  | _, _ => none

/-- The row, or the part of it, that a value is. -/
def rowOf (ow : OW) : SV → Option (Sigma fun k : Kd => List k.T)
  | .wh d j _ path => rowAt ow d j path
  | .os d j _ path off len => (match rowAt ow d j path with | some r => some ⟨r.1, subL r.2 off len⟩ | none => none)
  | _ => none

def keyOf : SV → Option (Nat × Nat)
  | .wh d j _ _ => some (d, j)
  | .os d j _ _ _ _ => some (d, j)
  | _ => none

def isRow (ow : OW) (d j : Nat) : Bool := match getOb ow d j with | some (.row _ _ _) => true | _ => false

/-- A row that is written no more. -/
def frzOb (ow : OW) (d j : Nat) : OW :=
  match getOb ow d j with
  | some (.row k ver l) => putOb ow d j (some (.frow k ver l))
  | _ => ow

/-- A thing of one cell, as data of a kind. -/
def toLeaf (k : Kd) (s : SV) (ow : OW) : Option (k.T × OW) :=
  match s with
  | .v k' x => if h : k' = k then some (castK h x, ow) else none
  | .lb b => (match k with | .bool => some (b, ow) | _ => none)
  | .nils => (match k with | .sl false _ => some ([], ow) | _ => none)
  | s => (match k with
    | .sl false e =>
      (match keyOf s, rowOf ow s with
      | some (d, j), some r => if h : r.1 = e then some (castL h r.2, frzOb ow d j) else none
      | _, _ => none)
    | _ => none)

def toCells : (k : Kd) → List SV → OW → Option (k.T × OW)
  | .cons a b, s :: r, ow =>
    (match toLeaf a s ow with
    | some x => (match toCells b r x.2 with | some y => some ((x.1, y.1), y.2) | none => none)
    | none => none)
  | .nil, [], ow => some ((), ow)
  | _, _, _ => none

def toPay (k : Kd) (s : SV) (ow : OW) : Option (k.T × OW) :=
  if k.isSt then (match s with | .agg l => toCells k l ow | _ => none) else toLeaf k s ow

/-- Where a row was frozen for a while: as it was. -/
def thawOb : Option OB → Option OB → Option OB
  | some (.row k v l), some (.frow _ _ _) => some (.row k v l)
  | _, n => n
def thawL : List (Option OB) → List (Option OB) → List (Option OB)
  | o :: os, n :: ns => thawOb o n :: thawL os ns
  | _, ns => ns
def thaw : OW → OW → OW
  | o :: os, n :: ns => thawL o n :: thaw os ns
  | _, ns => ns

end Go.Pev
