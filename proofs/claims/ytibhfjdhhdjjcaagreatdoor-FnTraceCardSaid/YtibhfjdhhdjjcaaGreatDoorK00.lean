/-
  PEV, part 1: a symbolic evaluator of loaded Go code over typed payloads. Nothing is proved here.
-/
import GoSem.Dispatch
import Derived.Calls
import Derived.Laws.Sem
import Derived.Deep.MidRow
import Derived.Deep.AppendSrc
import Derived.Laws.Slices
import Derived.Laws.Strings
import Derived.Laws.Concat
import Derived.Laws.BytesArg
import Derived.Laws.StructEq
import Derived.Great.FillDense
import Derived.Deep.Upon
import Derived.Laws.MakeOwn
set_option linter.unusedSimpArgs false
set_option linter.unusedVariables false
section
namespace Go.Pev
inductive Tree (α : Type) where
 | node (a : α) (kids : List (Tree α))
inductive Kd where
 | int (k : IntKind) | bool | str | err | any
 | sl (o : Bool) (e : Kd)
 | nil | cons (a b : Kd)
 | tree (a : Kd)
 deriving DecidableEq
@[reducible] def Kd.T : Kd → Type
 | .int _ => Int
 | .bool => Bool
 | .str => List UInt8
 | .err => Bool
 | .any => TypeId × (Int ⊕ List UInt8)
 | .sl _ e => List e.T
 | .nil => Unit
 | .cons a b => a.T × b.T
 | .tree a => Tree a.T
def Kd.z : (k : Kd) → k.T
 | .int _ => (0 : Int)
 | .bool => false
 | .str => ([] : List UInt8)
 | .err => false
 | .any => (0, .inl 0)
 | .sl _ _ => []
 | .nil => ()
 | .cons a b => (a.z, b.z)
 | .tree a => .node a.z []
def Kd.n : Kd → Nat
 | .nil => 0
 | .cons a b => a.n + b.n
 | _ => 1
def Kd.isSt : Kd → Bool
 | .nil | .cons _ _ => true
 | _ => false
def Kd.leafy : Kd → Bool
 | .nil => true
 | .cons a b => !a.isSt && b.leafy
 | _ => false
def Kd.allOwn : Kd → Bool
 | .sl o e => o && e.allOwn
 | .cons a b => a.allOwn && b.allOwn
 | .tree _ => false
 | _ => true
def Kd.noOwn : Kd → Bool
 | .sl o e => !o && e.noOwn
 | .cons a b => a.noOwn && b.noOwn
 | .tree a => a.noOwn
 | _ => true
def Kd.ch (k : Kd) : Kd := if k.isSt then k else .cons k .nil
def Kd.good (k : Kd) : Bool := k.noOwn && k.ch.leafy
inductive Sh where
 | pur (kd : Kd)
 | own (k : Kd)
 | row (k : Kd)
 | rows (s : Sh)
 | nrw (s : Sh)
 | box (l : Sh)
 | agg (l : Sh)
 | fn (f : Fn) (n : Nat) (l : Sh)
 | ign | nl
 | nil | cons (a b : Sh)
 deriving DecidableEq
@[reducible] def Sh.T : Sh → Type
 | .pur kd => kd.T
 | .own k => List k.T
 | .row k => List k.T
 | .rows s => List s.T
 | .nrw s => List s.T
 | .box l => l.T
 | .agg l => l.T
 | .fn _ _ l => l.T
 | .ign => Unit
 | .nl => Unit
 | .nil => Unit
 | .cons a b => a.T × b.T
@[reducible] def Sh.Out : Sh → Type
 | .pur _ => Unit
 | .own _ => Unit
 | .row k => List k.T
 | .rows _ => Unit
 | .nrw s => List s.T
 | .box l => l.T
 | .agg l => l.Out
 | .fn _ _ l => l.Out
 | .ign => Unit
 | .nl => Unit
 | .nil => Unit
 | .cons a b => a.Out × b.Out
def Sh.z : (s : Sh) → s.T
 | .pur kd => kd.z
 | .own _ => []
 | .row _ => []
 | .rows _ => []
 | .nrw _ => []
 | .box l => l.z
 | .agg l => l.z
 | .fn _ _ l => l.z
 | .ign => ()
 | .nl => ()
 | .nil => ()
 | .cons a b => (a.z, b.z)
def Sh.zo : (s : Sh) → s.Out
 | .pur _ => ()
 | .own _ => ()
 | .row _ => []
 | .rows _ => ()
 | .nrw _ => []
 | .box l => l.z
 | .agg l => l.zo
 | .fn _ _ l => l.zo
 | .ign => ()
 | .nl => ()
 | .nil => ()
 | .cons a b => (a.zo, b.zo)
def Sh.m : Sh → Nat
 | .own _ | .row _ | .rows _ | .nrw _ => 1
 | .box l => l.m + 1
 | .agg l => l.m
 | .fn _ _ l => l.m
 | .cons a b => a.m + b.m
 | _ => 0
def Sh.len : Sh → Nat
 | .cons _ b => b.len + 1
 | _ => 0
def Sh.fresh : Sh → Bool
 | .pur kd => kd.allOwn
 | .own k | .row k => k.allOwn
 | .rows s => s.fresh
 | .nrw s => s.fresh
 | .box l | .agg l | .fn _ _ l => l.fresh
 | .cons a b => a.fresh && b.fresh
 | _ => true
def Sh.freshOut : Sh → Bool
 | .row k => k.allOwn
 | .nrw s => s.fresh
 | .box l => l.fresh
 | .agg l | .fn _ _ l => l.freshOut
 | .cons a b => a.freshOut && b.freshOut
 | _ => true
def Sh.w : Sh → Nat
 | .cons _ b => b.w + 1
 | .nil => 0
 | _ => 1
def Sh.one : Sh → Bool
 | .cons _ _ | .nil => false
 | _ => true
def Sh.chn : Sh → Bool
 | .nil => true
 | .cons _ b => b.chn
 | _ => false
def Sh.elem : Sh → Bool
 | .pur kd => kd.noOwn && !kd.isSt
 | .own k => k.good
 | .rows s => s.elem
 | .nil => true
 | .cons a b => (a.one && b.chn) && a.elem && b.elem
 | _ => false
def Sh.kd : Sh → Kd
 | .pur k => k
 | .own k => .sl false k
 | .rows s => .sl false s.kd
 | .cons a b => .cons a.kd b.kd
 | _ => .nil
theorem Sh.kd_T : (s : Sh) → s.elem = true → s.kd.T = s.T
 | .pur _, _ => rfl
 | .own _, _ => rfl
 | .rows s, h => by
  have := Sh.kd_T s h
  simp only [Sh.kd, Kd.T, Sh.T, this]
 | .nil, _ => rfl
 | .cons a b, h => by
  simp only [Sh.elem, Bool.and_eq_true] at h
  have h1 := Sh.kd_T a h.1.2
  have h2 := Sh.kd_T b h.2
  simp only [Sh.kd, Kd.T, Sh.T, h1, h2]
 | .row _, h => by simp [Sh.elem] at h
 | .nrw _, h => by simp [Sh.elem] at h
 | .box _, h => by simp [Sh.elem] at h
 | .agg _, h => by simp [Sh.elem] at h
 | .fn _ _ _, h => by simp [Sh.elem] at h
 | .ign, h => by simp [Sh.elem] at h
 | .nl, h => by simp [Sh.elem] at h
def castD (s : Sh) (h : s.elem = true) (l : List s.T) : List s.kd.T := cast (congrArg List (Sh.kd_T s h).symm) l
inductive SV where
 | v (k : Kd) (x : k.T)
 | lb (b : Bool)
 | dead
 | agg (l : List SV)
 | nils
 | wh (d j ver : Nat) (path : List (Nat × Nat))
 | os (d j ver : Nat) (path : List (Nat × Nat)) (off len : Nat)
 | bp (d j c : Nat)
 | rp (d j ver : Nat) (path : List (Nat × Nat)) (e c : Nat)
 | ip (k : Kd) (x : k.T)
 | fn (f : Fn) (first capt : List SV)
 | tup (l : List SV)
inductive OB where
 | box (cells : List SV)
 | row (k : Kd) (ver : Nat) (l : List k.T)
 | frow (k : Kd) (ver : Nat) (l : List k.T)
 | nrow (s : Sh) (l : List s.T) (foc : Option (Nat × List SV))
 | lrow (n : Nat)
abbrev OW := List (List (Option OB))
structure St where
 sl : List SV
 ow : OW
inductive Cmd (β : Type) : Type 1 where
 | ret (b : β)
 | fail
 | chk (c : Bool) (k : Cmd β)
 | bnd {γ : Type} (z : γ) (m : Option γ) (f : γ → Cmd β)
 | amb (c : Bool) (f g : Cmd β)
 | ite (c : Bool) (f g : Cmd β)
open Classical in
noncomputable def agree {α : Type} (x y : Option α) : Option α := if x = y then x else none
@[simp] theorem agree_self {α : Type} (x : Option α) : agree x x = x := by simp [agree]
def tst (n : Nat) (c : Bool) : Bool := Nat.rec c (fun _ _ => c) n
def tso {α : Type} (n : Nat) (m : Option α) : Option α := Nat.rec m (fun _ _ => m) n
def br {α : Type} (n : Nat) (c : Bool) (x y : Option α) : Option α := cond (tst n c) x y
def bd {α β : Type} (n : Nat) (m : Option β) (f : β → Option α) : Option α := (tso n m).bind f
def jn {α β : Type} (n : Nat) (f : β → Option α) (y : β) : Option α := Nat.rec (f y) (fun _ _ => f y) n
theorem jn_eq {α β : Type} (n : Nat) (f : β → Option α) (y : β) : jn n f y = f y := by cases n <;> rfl
theorem br_eq {α : Type} (n : Nat) (c : Bool) (x y : Option α) : br n c x y = cond c x y := by cases n <;> rfl
theorem bd_eq {α β : Type} (n : Nat) (m : Option β) (f : β → Option α) : bd n m f = m.bind f := by cases n <;> rfl
noncomputable def Cmd.run {α β : Type} (n : Nat) : Cmd β → (β → Option α) → Option α
 | .ret b, k => k b
 | .fail, _ => none
 | .chk c t, k => br n c (t.run n k) none
 | .bnd _ m f, k => bd n m fun y => (f y).run n k
 | .amb c f g, k => br n c (agree (f.run n k) (g.run n k)) (g.run n k)
 | .ite c f g, k => br n c (f.run n k) (g.run n k)
def Cmd.bind {β γ : Type} : Cmd β → (β → Cmd γ) → Cmd γ
 | .ret b, k => k b
 | .fail, _ => .fail
 | .chk c t, k => .chk c (t.bind k)
 | .bnd z m f, k => .bnd z m fun y => (f y).bind k
 | .amb c f g, k => .amb c (f.bind k) (g.bind k)
 | .ite c f g, k => .ite c (f.bind k) (g.bind k)
def Cmd.ofOpt {β : Type} : Option β → Cmd β
 | some b => .ret b
 | none => .fail
def getOb (ow : OW) (d j : Nat) : Option OB :=
 match ow[d]? with
 | some l => (match l[j]? with | some o => o | none => none)
 | none => none
def putOb (ow : OW) (d j : Nat) (o : Option OB) : OW :=
 match ow[d]? with
 | some l => ow.set d (l.set j o)
 | none => ow
def newObs (ow : OW) (d : Nat) (l : List OB) : Option OW :=
 match l with
 | [] => some ow
 | _ => (match ow[d]? with
  | some [] => some (ow.set d (l.map some))
  | _ => none)
def chT : (k : Kd) → k.T → k.ch.T
 | .int _, x => (x, ())
 | .bool, x => (x, ())
 | .str, x => (x, ())
 | .err, x => (x, ())
 | .any, x => (x, ())
 | .sl _ _, x => (x, ())
 | .nil, x => x
 | .cons _ _, x => x
 | .tree _, x => (x, ())
def dropK : (k : Kd) → k.T → Nat → Option (Sigma Kd.T)
 | k, x, 0 => some ⟨k, x⟩
 | .cons _ b, x, c + 1 => dropK b x.2 c
 | _, _, _ + 1 => none
def setHead : (k : Kd) → k.T → (k' : Kd) → k'.T → Option k.T
 | k, x, .nil, _ => some x
 | .cons a b, x, .cons a' b', y => if h : a' = a then (match setHead b x.2 b' y.2 with | some r => some (h ▸ y.1, r) | none => none) else none
 | _, _, _, _ => none
def setAtCh : (k : Kd) → k.T → Nat → (k' : Kd) → k'.T → Option k.T
 | k, x, 0, k', y => setHead k x k' y
 | .cons _ b, x, c + 1, k', y => (match setAtCh b x.2 c k' y with | some r => some (x.1, r) | none => none)
 | _, _, _ + 1, _, _ => none
def unch : (k : Kd) → k.ch.T → k.T
 | .int _, x => x.1
 | .bool, x => x.1
 | .str, x => x.1
 | .err, x => x.1
 | .any, x => x.1
 | .sl _ _, x => x.1
 | .nil, x => x
 | .cons _ _, x => x
 | .tree _, x => x.1
def takeK : Kd → Nat → Option Kd
 | _, 0 => some .nil
 | .cons a b, n + 1 => (match takeK b n with | some r => some (.cons a r) | none => none)
 | _, _ + 1 => none
def cellsS : (k : Kd) → k.T → List SV
 | .cons a b, x => .v a x.1 :: cellsS b x.2
 | _, _ => []
def valS (k : Kd) (x : k.T) : SV := if k.isSt then .agg (cellsS k x) else .v k x
def subL {α : Type} (l : List α) (off len : Nat) : List α := (l.drop off).take len
section
variable (P : Program)
def undl (t : TypeId) : Option TypeDesc := P.underlying t
def isAggT (t : TypeId) : Bool := match undl P t with | some (.struct _) | some (.array _ _) => true | _ => false
def sizeT (t : TypeId) : Nat := P.cellsOf t
def bytesT (t : TypeId) : Nat := P.bytesOf t
def Kd.app : Kd → Kd → Kd
 | .cons a b, c => .cons a (b.app c)
 | _, c => c
def kdOf : Nat → TypeId → Option Kd
 | 0, _ => none
 | f + 1, t =>
  match undl P t with
  | some (.int k) => some (.int k)
  | some .bool => some .bool
  | some .string => some .str
  | some (.slice e) => (match kdOf f e with | some k => some (.sl false k) | none => none)
  | some (.struct fs) => fs.toList.foldr (fun x acc => match kdOf f x.type, acc with | some k, some r => some (k.ch.app r) | _, _ => none) (some .nil)
  | some (.interface ms) => if ms.size = 0 then some .any else some .err
  | _ => none
def Kd.own : Kd → Kd
 | .sl _ e => .sl true e.own
 | .cons a b => .cons a.own b.own
 | k => k
def elemT (t : TypeId) : Option TypeId := match undl P t with | some (.slice e) => some e | _ => none
def fieldT (t : TypeId) (j : Nat) : Option Field := match undl P t with | some (.struct fs) => fs[j]? | _ => none
end
def ofVal : Nat → Value → SV
 | _, .bool b => .lb b
 | _, .int k n => .v (.int k) n
 | _, .string s => .v .str s.data.toList
 | _, .slice none 0 0 => .nils
 | _, .nilIface => .v .err false
 | f + 1, .agg cs => .agg (cs.toList.map (ofVal f))
 | f + 1, .func g a b => .fn g (a.toList.map (ofVal f)) (b.toList.map (ofVal f))
 | _, _ => .dead
def castL {a b : Kd} (h : a = b) (l : List a.T) : List b.T := h ▸ l
def castS {a b : Sh} (h : a = b) (l : List a.T) : List b.T := h ▸ l
def castK {a b : Kd} (h : a = b) (x : a.T) : b.T := h ▸ x
def rowAt (ow : OW) (d j : Nat) (path : List (Nat × Nat)) : Option (Sigma fun k : Kd => List k.T) :=
 match path, getOb ow d j with
 | [], some (.row k _ l) => some ⟨k, l⟩
 | [], some (.frow k _ l) => some ⟨k, l⟩
 | _, _ => none
def rowW (ow : OW) (d j : Nat) (path : List (Nat × Nat)) : Option (Nat × Nat) :=
 match path, getOb ow d j with
 | [], some (.row k _ l) => some (k.n, l.length)
 | [], some (.frow k _ l) => some (k.n, l.length)
 | [], some (.nrow s l _) => some (s.w, l.length)
 | _, _ => none
def nrowAt (ow : OW) (d j : Nat) (path : List (Nat × Nat)) : Option (Sigma fun s : Sh => List s.T) :=
 match path, getOb ow d j with
 | [], some (.nrow s l none) => some ⟨s, l⟩
 | _, _ => none
def cellsP : (s : Sh) → s.T → List SV
 | .pur kd, x => [.v kd x]
 | .nil, _ => []
 | .cons a b, x => cellsP a x.1 ++ cellsP b x.2
 | _, _ => [.dead]
def rowOf (ow : OW) : SV → Option (Sigma fun k : Kd => List k.T)
 | .wh d j _ path => rowAt ow d j path
 | .os d j _ path off len => (match rowAt ow d j path with | some r => some ⟨r.1, subL r.2 off len⟩ | none => none)
 | _ => none
def keyOf : SV → Option (Nat × Nat)
 | .wh d j _ _ => some (d, j)
 | .os d j _ _ _ _ => some (d, j)
 | _ => none
def isRow (ow : OW) (d j : Nat) : Bool := match getOb ow d j with | some (.row _ _ _) => true | _ => false
def frzOb (ow : OW) (d j : Nat) : OW :=
 match getOb ow d j with
 | some (.row k ver l) => putOb ow d j (some (.frow k ver l))
 | _ => ow
def frzN (ow : OW) (d j : Nat) : OW :=
 match nrowAt ow d j [] with
 | some r => if hs : r.1.elem = true then putOb ow d j (some (.frow r.1.kd 0 (castD r.1 hs r.2))) else ow
 | none => ow
def toLeaf (k : Kd) (s : SV) (ow : OW) : Option (k.T × OW) :=
 match s with
 | .v k' x => if h : k' = k then some (castK h x, ow) else none
 | .lb b => (match k with | .bool => some (b, ow) | _ => none)
 | .nils => (match k with | .sl false _ => some ([], ow) | _ => none)
 | s => (match k with
  | .sl false e =>
   (match keyOf s, rowOf ow s with
   | some (d, j), some r => if h : r.1 = e then some (castL h r.2, frzOb ow d j) else none
   | some (d, j), none => (match rowOf (frzN ow d j) s with | some r => if h : r.1 = e then some (castL h r.2, frzN ow d j) else none | none => none)
   | _, _ => none)
  | _ => none)
def toCells : (k : Kd) → List SV → OW → Option (k.T × OW)
 | .cons a b, s :: r, ow =>
  (match toLeaf a s ow with
  | some x => (match toCells b r x.2 with | some y => some ((x.1, y.1), y.2) | none => none)
  | none => none)
 | .nil, [], ow => some ((), ow)
 | _, _, _ => none
def toPay (k : Kd) (s : SV) (ow : OW) : Option (k.T × OW) :=
 if k.isSt then (match s with | .agg l => toCells k l ow | _ => none) else toLeaf k s ow
def thawOb : Option OB → Option OB → Option OB
 | some (.row k v l), some (.frow _ _ _) => some (.row k v l)
 | some (.nrow s l none), some (.frow _ _ _) => some (.nrow s l none)
 | _, n => n
def thawL : List (Option OB) → List (Option OB) → List (Option OB)
 | o :: os, n :: ns => thawOb o n :: thawL os ns
 | _, ns => ns
def thaw : OW → OW → OW
 | o :: os, n :: ns => thawL o n :: thaw os ns
 | _, ns => ns
end Go.Pev
end

section
/-
 PEV, part 2: the evaluator of operations, regions, code and functions. Nothing is proved here.
-/
namespace Go.Pev
def takeRow (k : Kd) (v : SV) (ow : OW) : Option (List k.T × OW) :=
 match keyOf v, rowOf ow v with
 | some (d, j), some r => if isRow ow d j then (if h : r.1 = k then some (castL h r.2, putOb ow d j none) else none) else none
 | _, _ => none
def settleOb (s : Sh) (f : List SV → OW → Option (s.T × OW)) (ow : OW) (d j : Nat) : Option OW :=
 match getOb ow d j with
 | some (.nrow s' l foc) =>
  if s' = s then
   (match foc with
   | none => some ow
   | some p =>
    (match f p.2 ow with
    | some x =>
     (match getOb x.2 d j with
     | some (.nrow s2 l2 _) => if h : s2 = s then some (putOb x.2 d j (some (.nrow s ((castS h l2).set p.1 x.1) none))) else none
     | _ => none)
    | none => none))
  else none
 | _ => none
def takeRows (s : Sh) (v : SV) (ow : OW) : Option (List s.T × OW) :=
 match v with
 | .wh d j _ [] =>
  (match getOb ow d j with
  | some (.nrow s' l none) => if h : s' = s then some (castS h l, putOb ow d j none) else none
  | _ => none)
 | .os d j _ [] off len =>
  (match getOb ow d j with
  | some (.nrow s' l none) => if h : s' = s then some (subL (castS h l) off len, putOb ow d j none) else none
  | _ => none)
 | _ => none
def pk : (s : Sh) → List SV → OW → Option (s.T × OW)
 | .pur kd, [v], ow => toPay kd v ow
 | .own k, [v], ow => (match v with | .nils => if k.good then some ([], ow) else none | v => takeRow k v ow)
 | .row k, [v], ow => (match v with | .wh d j ver path => takeRow k (.wh d j ver path) ow | _ => none)
 | .rows s, [v], ow =>
  (match v with
  | .nils => if s.elem then some ([], ow) else none
  | v =>
   (match keyOf v with
   | some (d, j) => (match settleOb s (pk s) ow d j with | some ow1 => takeRows s v ow1 | none => none)
   | none => none))
 | .nrw s, [v], ow =>
  (match v with
  | .wh d j ver path => (match settleOb s (pk s) ow d j with | some ow1 => takeRows s (.wh d j ver path) ow1 | none => none)
  | _ => none)
 | .box l, [.bp d j c], ow =>
  (match getOb ow d j with
  | some (.box cells) => if c = 0 ∧ cells.length = l.len then pk l cells (putOb ow d j none) else none
  | _ => none)
 | .agg l, [.agg cs], ow => pk l cs ow
 | .fn f n l, [.fn g a b], ow => if f = g ∧ a.length = n then pk l (a ++ b) ow else none
 | .ign, [_], ow => some ((), ow)
 | .nl, [.nils], ow => some ((), ow)
 | .nil, [], ow => some ((), ow)
 | .cons a b, v :: r, ow =>
  (match pk a [v] ow with
  | some x => (match pk b r x.2 with | some y => some ((x.1, y.1), y.2) | none => none)
  | none => none)
 | _, _, _ => none
def settleV (ow : OW) (v : SV) : OW :=
 match keyOf v with
 | some (d, j) =>
  (match getOb ow d j with
  | some (.nrow s _ (some _)) => (match settleOb s (pk s) ow d j with | some ow1 => ow1 | none => ow)
  | _ => ow)
 | none => ow
def svLeaves : SV → List SV
 | .agg l => l
 | v => [v]
def settleVs (l : List SV) (ow : OW) : OW := (l.flatMap svLeaves).foldl settleV ow
def unpk (d : Nat) : (s : Sh) → s.T → Nat → List SV × List OB
 | .pur kd, x, _ => ([valS kd x], [])
 | .own k, l, j => ([.wh d j 0 []], [.row k 0 l])
 | .row k, l, j => ([.wh d j 0 []], [.row k 0 l])
 | .rows s, l, j => ([.wh d j 0 []], [.nrow s l none])
 | .nrw s, l, j => ([.wh d j 0 []], [.nrow s l none])
 | .box l, x, j => let r := unpk d l x (j + 1); ([.bp d j 0], .box r.1 :: r.2)
 | .agg l, x, j => let r := unpk d l x j; ([.agg r.1], r.2)
 | .fn f n l, x, j => let r := unpk d l x j; ([.fn f (r.1.take n) (r.1.drop n)], r.2)
 | .ign, _, _ => ([.dead], [])
 | .nl, _, _ => ([.nils], [])
 | .nil, _, _ => ([], [])
 | .cons a b, x, j => let r := unpk d a x.1 j; let s := unpk d b x.2 (j + r.2.length); (r.1 ++ s.1, r.2 ++ s.2)
def Sh.noOuts : Sh → Bool
 | .row _ | .nrw _ | .box _ => false
 | .agg l | .fn _ _ l => l.noOuts
 | .cons a b => a.noOuts && b.noOuts
 | _ => true
def unOut (d : Nat) (old : OW) : (s : Sh) → List SV → s.Out → OW × List OB → Option (OW × List OB)
 | .row k, [.wh dd j _ _], y, st =>
  (match getOb old dd j with
  | some (.row k' ver _) => if k' = k then some (putOb st.1 dd j (some (.row k (ver + 1) y)), st.2) else none
  | _ => none)
 | .nrw s, [.wh dd j _ _], y, st =>
  (match getOb old dd j with
  | some (.nrow s' _ none) => if s' = s then some (putOb st.1 dd j (some (.nrow s y none)), st.2) else none
  | _ => none)
 | .box l, [.bp dd j c], y, st =>
  (match getOb old dd j with
  | some (.box _) => if c = 0 then some (putOb st.1 dd j (some (.box (unpk d l y st.2.length).1)), st.2 ++ (unpk d l y st.2.length).2) else none
  | _ => none)
 | .agg l, [.agg cs], y, st => unOut d old l cs y st
 | .fn _ _ l, [.fn _ a b], y, st => unOut d old l (a ++ b) y st
 | .cons a b, v :: r, y, st => if a.noOuts then unOut d old b r y.2 st else (match unOut d old a [v] y.1 st with | some st => unOut d old b r y.2 st | none => none)
 | .pur _, [_], _, st => some st
 | .own _, [_], _, st => some st
 | .rows _, [_], _, st => some st
 | .ign, [_], _, st => some st
 | .nl, [_], _, st => some st
 | .nil, [], _, st => some st
 | _, _, _, _ => none
def outp : (s : Sh) → List SV → OW → Option (s.Out × OW)
 | .row k, l, ow => pk (.row k) l ow
 | .nrw s, l, ow => pk (.nrw s) l ow
 | .box s, l, ow => pk (.box s) l ow
 | .agg l, [.agg cs], ow => outp l cs ow
 | .fn f n l, [.fn g a b], ow => if f = g ∧ a.length = n then outp l (a ++ b) ow else none
 | .cons a b, v :: r, ow =>
  if a.noOuts then (match outp b r ow with | some y => some ((a.zo, y.1), y.2) | none => none) else
  (match outp a [v] ow with
  | some x => (match outp b r x.2 with | some y => some ((x.1, y.1), y.2) | none => none)
  | none => none)
 | .pur _, [_], ow => some ((), ow)
 | .own _, [_], ow => some ((), ow)
 | .rows _, [_], ow => some ((), ow)
 | .ign, [_], ow => some ((), ow)
 | .nl, [_], ow => some ((), ow)
 | .nil, [], ow => some ((), ow)
 | _, _, _ => none
structure Sig where
 args : Sh
 res : Sh
 den : args.T → Option (res.T × args.Out)
 al : List (Nat × Nat × Nat × List Nat)
def pathOf (ow : OW) : SV → List Nat → Option SV
 | s, [] => some s
 | .bp d j c, i :: r => (match getOb ow d j with | some (.box cells) => (match cells[c + i]? with | some s => pathOf ow s r | none => none) | _ => none)
 | _, _ => none
def caughtBy (ow : OW) (s : SV) (c : Nat) (p : List Nat) : Option SV :=
 match s with
 | .fn _ a b => (match (a ++ b)[c]? with | some s => pathOf ow s p | none => none)
 | _ => none
def boxAt (ow : OW) (d j : Nat) : Bool := match getOb ow d j with | some (.box _) => true | _ => false
def sameBp (ow : OW) : SV → SV → Bool
 | .bp d j c, .bp d' j' c' => d == d' && j == j' && c == c' && boxAt ow d j
 | _, _ => false
def alOk1 (sl : List SV) (ow : OW) (q : Nat × Nat × Nat × List Nat) : Bool :=
 match sl[q.1]?, sl[q.2.1]? with
 | some s, some t => (match caughtBy ow t q.2.2.1 q.2.2.2 with | some s' => sameBp ow s s' | none => false)
 | _, _ => false
def alOk (al : List (Nat × Nat × Nat × List Nat)) (sl : List SV) (ow : OW) : Bool := al.all (alOk1 sl ow)
def fixAl (ow : OW) : List (Nat × Nat × Nat × List Nat) → List SV → List SV
 | [], sl => sl
 | q :: r, sl => fixAl ow r (match sl[q.2.1]? with | some t => (match caughtBy ow t q.2.2.1 q.2.2.2 with | some s => sl.set q.1 s | none => sl) | none => sl)
def fixSt (al : List (Nat × Nat × Nat × List Nat)) (st : St) : St := ⟨fixAl st.ow al st.sl, st.ow⟩
structure InA where
 keys : List (Nat × Nat) := []
 draws : List (Nat × List (List Nat × Bool)) := []
structure Ctx where
 P : Program
 sigs : List (FuncId × List Sig)
 fuel : Nat
 deep : List (Nat × Sh)
 inl : List (FuncId × List (Nat × InA))
def Ctx.deepOf (C : Ctx) (d : Nat) : Option Sh := match C.deep.find? (fun x => x.1 == d) with | some x => some x.2 | none => none
def Ctx.sigsOf (C : Ctx) (f : FuncId) : List Sig := match C.sigs.find? (fun x => x.1 == f) with | some x => x.2 | none => []
structure Ann where
 loops : List (Nat × List (Nat × Sh)) := []
 joins : List (Nat × List (Nat × Kd)) := []
 keys : List (Nat × List (List Nat × Bool)) := []
 heads : List (Nat × List (Nat × Sh)) := []
 al : List (Nat × Nat × Nat × List Nat) := []
 lal : List (Nat × Nat × Nat × List Nat) := []
def cellOk : SV → Bool
 | .agg _ | .tup _ | .dead => false
 | _ => true
def cellsOfSV (P : Program) (t : TypeId) (s : SV) : Option (List SV) :=
 if isAggT P t then (match s with | .agg l => if l.length = sizeT P t && l.all cellOk then some l else none | _ => none)
 else if cellOk s && sizeT P t = 1 then some [s] else none
def valOfCells (P : Program) (t : TypeId) (l : List SV) : Option SV :=
 match undl P t with
 | none => none
 | some _ =>
  if isAggT P t then (if 0 < sizeT P t ∧ sizeT P t ≤ l.length then some (.agg (l.take (sizeT P t))) else none)
  else (match l with | s :: _ => some s | [] => none)
def evLoad (P : Program) (t : TypeId) (p : SV) (ow : OW) : Cmd SV :=
 match p with
 | .bp d j c => (match getOb ow d j with | some (.box cells) => .ofOpt (valOfCells P t (cells.drop c)) | _ => .fail)
 | .rp d j _ path e c =>
  (match rowAt ow d j path with
  | some r => .bnd r.1.z r.2[e]? fun x => (match dropK r.1.ch (chT r.1 x) c with | some y => .ofOpt (valOfCells P t (cellsS y.1 y.2)) | none => .fail)
  | none => (match nrowAt ow d j path with | some r => .bnd r.1.z r.2[e]? fun x => .ofOpt (valOfCells P t ((cellsP r.1 x).drop c)) | none => .fail))
 | .ip k x => .ofOpt (valOfCells P t (cellsS k x))
 | _ => .fail
def setCells (cells : List SV) (c : Nat) (new : List SV) : Option (List SV) :=
 if c + new.length ≤ cells.length then some (cells.take c ++ new ++ cells.drop (c + new.length)) else none
def kindsAt (k : Kd) (c n : Nat) : Option Kd := match dropK k.ch (chT k k.z) c with | some y => takeK y.1 n | none => none
def evStore (P : Program) (t : TypeId) (p s : SV) (ow : OW) : Cmd OW :=
 match cellsOfSV P t s with
 | none => .fail
 | some new =>
  (match p with
  | .bp d j c =>
   (match getOb ow d j with
   | some (.box cells) => (match setCells cells c new with | some cells' => .ret (putOb ow d j (some (.box cells'))) | none => .fail)
   | _ => .fail)
  | .rp d j _ [] e c =>
   (match getOb ow d j with
   | some (.row k ver l) =>
    (match kindsAt k c new.length with
    | some kt =>
     (match toCells kt new ow with
     | some y =>
      (match getOb y.2 d j with
      | some (.row k' ver' l') =>
       if h : k' = k then .bnd k.z (castL h l')[e]? fun x =>
        (match setAtCh k.ch (chT k x) c kt y.1 with
        | some x' => .ret (putOb y.2 d j (some (.row k ver' ((castL h l').set e (unch k x')))))
        | none => .fail)
       else .fail
      | _ => .fail)
     | none => .fail)
    | none => .fail)
   | _ => .fail)
  | _ => .fail)
def isBox (ow : OW) (d j : Nat) : Bool := match getOb ow d j with | some (.box _) => true | _ => false
def evFieldAddr (P : Program) (t : TypeId) (p : SV) (f : Nat) (ow : OW) : Cmd SV :=
 match fieldT P t f with
 | none => .fail
 | some fd => if sizeT P fd.type = 0 then .fail else
  (match p with
  | .bp d j c => if isBox ow d j then .ret (.bp d j (c + fd.offset)) else .fail
  | .rp d j ver path e c => (match rowW ow d j path with | some _ => .ret (.rp d j ver path e (c + fd.offset)) | none => .fail)
  | .ip k x => (match dropK k x fd.offset with | some y => .ret (.ip y.1 y.2) | none => .fail)
  | _ => .fail)
def sliceOf (P : Program) (t : TypeId) (n : Nat) : Bool :=
 match undl P t with
 | some (.slice e) => (match P.info? e with | some i => i.size == n | none => false)
 | _ => false
def evIndexAddr (P : Program) (t : TypeId) (x i : SV) (ow : OW) : Cmd SV :=
 match i with
 | .v (.int _) n =>
  (match x with
  | .v (.sl _ e) l => if e.ch.leafy && sliceOf P t e.n then .chk (decide (0 ≤ n)) (.bnd e.z l[n.toNat]? fun y => .ret (.ip e.ch (chT e y))) else .fail
  | .wh d j ver path => (match rowW ow d j path with | some r => if sliceOf P t r.1 then .chk (decide (0 ≤ n ∧ n < r.2)) (.ret (.rp d j ver path n.toNat 0)) else .fail | none => .fail)
  | .os d j ver path off len => (match rowW ow d j path with | some r => if sliceOf P t r.1 then .chk (decide (0 ≤ n ∧ n < len)) (.ret (.rp d j ver path (off + n.toNat) 0)) else .fail | none => .fail)
  | _ => .fail)
 | _ => .fail
def cutL {α : Type} (l : List α) (lo hi : Option Int) : List α :=
 match lo, hi with
 | none, none => l
 | some a, none => l.drop a.toNat
 | none, some b => l.take b.toNat
 | some a, some b => (l.take b.toNat).drop a.toNat
def cutOk (n : Nat) (lo hi : Option Int) : Bool :=
 match lo, hi with
 | none, none => true
 | some a, none => decide (0 ≤ a ∧ a ≤ n)
 | none, some b => decide (0 ≤ b ∧ b ≤ n)
 | some a, some b => decide (0 ≤ a ∧ a ≤ b ∧ b ≤ n)
def optInt : Option SV → Option (Option Int)
 | none => some none
 | some (.v (.int _) n) => some (some n)
 | _ => none
def isStrT (P : Program) (t : TypeId) : Bool := match undl P t with | some .string => true | _ => false
def evSlice (P : Program) (t : TypeId) (x : SV) (lo hi : Option SV) (ow : OW) : Cmd SV :=
 match optInt lo, optInt hi with
 | some a, some b =>
  (match x with
  | .v .str s => if isStrT P t then .chk (cutOk s.length a b) (.ret (.v .str (cutL s a b))) else .fail
  | .v (.sl o e) l => if sliceOf P t e.n then .chk (cutOk l.length a b) (.ret (.v (.sl o e) (cutL l a b))) else .fail
  | .wh d j ver path => (match rowW ow d j path with | some r => if sliceOf P t r.1 then .chk (cutOk r.2 a b) (.ret (.os d j ver path (a.getD 0).toNat ((b.getD r.2).toNat - (a.getD 0).toNat))) else .fail | none => .fail)
  | .os d j ver path off len => (match rowW ow d j path with | some r => if sliceOf P t r.1 then .chk (cutOk len a b) (.ret (.os d j ver path (off + (a.getD 0).toNat) ((b.getD len).toNat - (a.getD 0).toNat))) else .fail | none => .fail)
  | _ => .fail)
 | _, _ => .fail
def isSliceT (P : Program) (t : TypeId) : Bool := match undl P t with | some (.slice _) => true | _ => false
def lenOb (ow : OW) (d j : Nat) : Option Nat :=
 match getOb ow d j with
 | some (.lrow n) => some n
 | _ => none
def evLen (P : Program) (t : TypeId) (x : SV) (ow : OW) : Cmd SV :=
 match x with
 | .v .str s => if isStrT P t then .ret (.v (.int .i64) s.length) else .fail
 | x => if isSliceT P t then (match x with
  | .v (.sl _ _) l => .ret (.v (.int .i64) l.length)
  | .nils => .ret (.v (.int .i64) 0)
  | .wh d j _ path => (match rowW ow d j path with | some r => .ret (.v (.int .i64) r.2) | none => (match lenOb ow d j with | some n => .ret (.v (.int .i64) n) | none => .fail))
  | .os d j _ path _ len => (match rowW ow d j path with | some _ => .ret (.v (.int .i64) len) | none => .fail)
  | _ => .fail) else .fail
def maxBytes : Nat := 140737488355328
def appElems (k : Kd) (x : SV) (ow : OW) : Option (List k.T) :=
 match x with
 | .nils => some []
 | .v (.sl _ k') l => if h : k' = k then some (castL h l) else none
 | x => (match rowOf ow x with | some r => if h : r.1 = k then some (castL h r.2) else none | none => none)
def kindOf (ow : OW) (x : SV) : Option Kd :=
 match x with
 | .v (.sl _ k) _ => some k
 | x => (match rowOf ow x with | some r => some r.1 | none => none)
def elemOk (P : Program) (e : TypeId) (k : Kd) : Bool :=
 k.good && decide (0 < k.n) && decide (k.n = sizeT P e) && decide (0 < bytesT P e) && (match (P.info? e).bind (·.zero) with | some z => decide (z.cells.size = k.n) | none => false)
def zeroRep : Kd → List Value → Bool
 | .int k, [.int k' n] => k == k' && n == 0
 | .bool, [.bool b] => !b
 | .str, [.string s] => s.data.size == 0
 | .err, [.nilIface] => true
 | .sl false _, [.slice none 0 0] => true
 | .nil, [] => true
 | .cons a b, v :: r => !a.isSt && zeroRep a [v] && zeroRep b r
 | _, _ => false
def zeroOk (P : Program) (e : TypeId) (k : Kd) : Bool := match (P.info? e).bind (·.zero) with | some z => zeroRep k z.cells.toList | none => false
def goneOb (ow : OW) (d j : Nat) : OW :=
 match getOb ow d j with
 | some (.row _ _ l) => putOb ow d j (some (.lrow l.length))
 | some (.nrow _ l _) => putOb ow d j (some (.lrow l.length))
 | _ => putOb ow d j none
def evAppend (P : Program) (t : TypeId) (s x : SV) (ow : OW) (d : Nat) : Cmd (SV × OW) :=
 match elemT P t with
 | none => .fail
 | some e =>
  (match s with
  | .nils =>
   (match x with
   | .nils => if (P.info? e).isSome then .ret (.nils, ow) else .fail
   | x =>
    (match kindOf ow x with
    | some k => (match appElems k x ow with
     | some y => if elemOk P e k then .chk (decide (y.length * bytesT P e ≤ maxBytes))
      (match newObs ow d [.row k 0 y] with | some ow' => .ret (.wh d 0 0 [], ow') | none => .fail) else .fail
     | none => .fail)
    | none => .fail))
  | s =>
   (match keyOf s, rowOf ow s with
   | some (dd, j), some b => if isRow ow dd j then
    (match appElems b.1 x ow with
    | some y => if elemOk P e b.1 then .chk (decide ((b.2.length + y.length) * bytesT P e ≤ maxBytes))
     (match newObs (goneOb ow dd j) d [.row b.1 0 (b.2 ++ y)] with | some ow' => .ret (.wh d 0 0 [], ow') | none => .fail) else .fail
    | none => .fail) else .fail
   | _, _ => .fail))
def evMakeSlice (P : Program) (t : TypeId) (n c : SV) (ow : OW) (d : Nat) : Cmd (SV × OW) :=
 match elemT P t, n, c with
 | some e, .v (.int .i64) n, .v (.int .i64) c =>
  (match kdOf P 16 e with
  | some k => if elemOk P e k && zeroOk P e k then
   .chk (decide (0 ≤ n ∧ n ≤ c ∧ c * bytesT P e ≤ maxBytes)) (match newObs ow d [.row k 0 (List.replicate n.toNat k.z)] with | some ow' => .ret (.wh d 0 0 [], ow') | none => .fail) else .fail
  | none => .fail)
 | _, _, _ => .fail
def toPays (k : Kd) : List SV → OW → Option (List k.T × OW)
 | [], ow => some ([], ow)
 | s :: r, ow =>
  (match toPay k s ow with
  | some x => (match toPays k r x.2 with | some y => some (x.1 :: y.1, y.2) | none => none)
  | none => none)
def evBuildSlice (P : Program) (t : TypeId) (n : Nat) (parts : List (Nat × SV)) (ow : OW) (d : Nat) : Cmd (SV × OW) :=
 match elemT P t with
 | none => .fail
 | some e =>
  (match kdOf P 16 e with
  | none => .fail
  | some k =>
   if parts.map (·.1) = List.range n ∧ n * sizeT P e ≤ 16777216 ∧ elemOk P e k then
    (match toPays k (parts.map (·.2)) ow with
    | some y => (match newObs y.2 d [.row k 0 y.1] with | some ow' => .ret (.wh d 0 0 [], ow') | none => .fail)
    | none => .fail)
   else .fail)
def zeroCells (P : Program) (t : TypeId) : Option (List SV) :=
 match P.info? t with
 | some i => (match i.zero with
  | some v => if v.cells.size = i.size then some (v.cells.toList.map (ofVal 4)) else none
  | none => none)
 | none => none
def fillS (P : Program) (t : TypeId) : List SV → List (Nat × SV) → Option (List SV)
 | cells, [] => some cells
 | cells, (f, s) :: r =>
  (match fieldT P t f with
  | some fd => (match cellsOfSV P fd.type s with | some new => (match setCells cells fd.offset new with | some cells' => fillS P t cells' r | none => none) | none => none)
  | none => none)
def evBuild (P : Program) (t : TypeId) (parts : List (Nat × SV)) : Cmd SV :=
 match zeroCells P t, undl P t with
 | some cells, some (.struct fs) => if fs.toList.all (fun f => (P.info? f.type).isSome) then (match fillS P t cells parts with | some r => .ret (.agg r) | none => .fail) else .fail
 | _, _ => .fail
def evField (P : Program) (t : TypeId) (x : SV) (f : Nat) : Cmd SV :=
 match x, fieldT P t f with
 | .agg cs, some fd => .ofOpt (valOfCells P fd.type (cs.drop fd.offset))
 | _, _ => .fail
def evConvert (P : Program) (src dst : TypeId) (x : SV) (ow : OW) : Cmd SV :=
 match undl P src, undl P dst, x with
 | some (.int _), some (.int k), .v (.int _) n => .ret (.v (.int k) (k.wrap n))
 | some (.slice e), some .string, x =>
  (match undl P e with
  | some (.int .u8) =>
   (match x with
   | .nils => .ret (.v .str [])
   | .v (.sl _ (.int .u8)) l => .ret (.v .str (l.map fun n : Int => UInt8.ofNat n.toNat))
   | x => (match rowOf ow x with | some ⟨.int .u8, l⟩ => .ret (.v .str (l.map fun n : Int => UInt8.ofNat n.toNat)) | _ => .fail))
  | _ => .fail)
 | _, _, _ => .fail
def eqFieldsS (P : Program) : Nat → List Field → List SV → List SV → Option Bool
 | _, [], [], [] => some true
 | i, f :: fs, a :: r, b :: s =>
  if f.name != "_" && f.offset == i then
   (match a, b with
   | .v (.int k) a, .v (.int k') b => if k = k' then (match undl P f.type with | some (.int _) => (match eqFieldsS P (i + 1) fs r s with | some c => some ((a == b) && c) | none => none) | _ => none) else none
   | .v .str a, .v .str b => (match undl P f.type with | some .string => (match eqFieldsS P (i + 1) fs r s with | some c => some ((a == b) && c) | none => none) | _ => none)
   | .v .bool a, .v .bool b => (match undl P f.type with | some .bool => (match eqFieldsS P (i + 1) fs r s with | some c => some ((a == b) && c) | none => none) | _ => none)
   | _, _ => none)
  else none
 | _, _, _, _ => none
def boolOf : SV → Option Bool
 | .v .bool b => some b
 | .lb b => some b
 | _ => none
def binInt (op : BinOp) (k : IntKind) (a b : Int) : Cmd SV :=
 match op with
 | .add => .ret (.v (.int k) (k.wrap (a + b)))
 | .sub => .ret (.v (.int k) (k.wrap (a - b)))
 | .mul => .ret (.v (.int k) (k.wrap (a * b)))
 | .quo => .chk (!decide (b = 0)) (.ret (.v (.int k) (k.wrap (a.tdiv b))))
 | .rem => .chk (!decide (b = 0)) (.ret (.v (.int k) (a.tmod b)))
 | .and => .ret (.v (.int k) (k.wrap (BitVec.ofInt k.bits a &&& BitVec.ofInt k.bits b).toNat))
 | .or => .ret (.v (.int k) (k.wrap (BitVec.ofInt k.bits a ||| BitVec.ofInt k.bits b).toNat))
 | .xor => .ret (.v (.int k) (k.wrap (BitVec.ofInt k.bits a ^^^ BitVec.ofInt k.bits b).toNat))
 | .andNot => .ret (.v (.int k) (k.wrap (BitVec.ofInt k.bits a &&& ~~~BitVec.ofInt k.bits b).toNat))
 | .eql => .ret (.v .bool (a == b))
 | .neq => .ret (.v .bool (a != b))
 | .lss => .ret (.v .bool (decide (a < b)))
 | .leq => .ret (.v .bool (decide (a ≤ b)))
 | .gtr => .ret (.v .bool (decide (a > b)))
 | .geq => .ret (.v .bool (decide (a ≥ b)))
 | _ => .fail
def maxInt64 : Int := 9223372036854775807
def binStr (op : BinOp) (a b : List UInt8) : Cmd SV :=
 match op with
 | .add => .chk (decide (((a.length + b.length : Nat) : Int) ≤ maxInt64)) (.ret (.v .str (a ++ b)))
 | .eql => .ret (.v .bool (a == b))
 | .neq => .ret (.v .bool (!(a == b)))
 | _ => .fail
def isIfaceT (P : Program) (t : TypeId) : Bool := match undl P t with | some (.interface _) => true | _ => false
def isBoolT (P : Program) (t : TypeId) : Bool := match undl P t with | some .bool => true | _ => false
def eqOp (op : BinOp) (c : Bool) : Option Bool := match op with | .eql => some c | .neq => some (!c) | _ => none
def evEq (op : BinOp) (c : Bool) : Cmd SV := match eqOp op c with | some c => .ret (.v .bool c) | none => .fail
def evNilEq (op : BinOp) (e : Bool) : Cmd SV := match op with | .eql => .amb e (.ret (.lb true)) (.ret (.lb false)) | .neq => .amb e (.ret (.lb false)) (.ret (.lb true)) | _ => .fail
def emptyOf (ow : OW) (x : SV) : Option Bool :=
 match x with
 | .v (.sl _ _) l => some l.isEmpty
 | x => (match rowOf ow x with | some r => some r.2.isEmpty | none => none)
def evBin (P : Program) (op : BinOp) (t : TypeId) (cst : Bool) (x y : SV) (ow : OW) : Cmd SV :=
 match x, y with
 | .v (.int k) a, .v (.int k') b =>
  (match op with
  | .shl => .chk (decide (0 ≤ b)) (.ret (.v (.int k) (k.wrap (a * 2 ^ (min b.toNat k.bits)))))
  | .shr => .chk (decide (0 ≤ b)) (.ret (.v (.int k) (a.fdiv (2 ^ (min b.toNat k.bits)))))
  | op => if k = k' then binInt op k a b else .fail)
 | .v .str a, .v .str b => if isStrT P t then binStr op a b else .fail
 | .v .err a, .v .err b => if isIfaceT P t && cst then .chk (!(a && b)) (evEq op (a == b)) else .fail
 | .agg a, .agg b =>
  (match undl P t with
  | some (.struct fs) =>
   if P.stoodInHeld t || P.eqGuardType P.depth t then .fail else
   (match eqFieldsS P 0 fs.toList a b with
   | some c => evEq op c
   | none => .fail)
  | _ => .fail)
 | .nils, .nils => if isSliceT P t then (match eqOp op true with | some c => .ret (.lb c) | none => .fail) else .fail
 | x, .nils => if isSliceT P t then (match emptyOf ow x with | some e => evNilEq op e | none => .fail) else .fail
 | x, y =>
  (match boolOf x, boolOf y with
  | some a, some b => if isBoolT P t then evEq op (a == b) else .fail
  | _, _ => .fail)
def evUn (op : UnOp) (x : SV) : Cmd SV :=
 match op, x with
 | .not, .v .bool b => .ret (.v .bool (!b))
 | .not, .lb b => .ret (.lb (!b))
 | .neg, .v (.int k) n => .ret (.v (.int k) (k.wrap (0 - n)))
 | .xor, .v (.int k) n => .ret (.v (.int k) (k.wrap (BitVec.ofInt k.bits (if k.signed then -1 else k.max) ^^^ BitVec.ofInt k.bits n).toNat))
 | _, _ => .fail
def evPick (c a b : SV) : Cmd SV :=
 match c with
 | .lb c => .ret (if c then a else b)
 | .v .bool c =>
  (match boolOf a, boolOf b with
  | some x, some y => .ret (.v .bool (cond c x y))
  | _, _ => .fail)
 | _ => .fail
def evIndex (x i : SV) : Cmd SV :=
 match x, i with
 | .v .str s, .v (.int _) n => .chk (decide (0 ≤ n)) (.bnd 0 s[n.toNat]? fun b => .ret (.v (.int .u8) b.toNat))
 | _, _ => .fail
def min2 (k : IntKind) : List SV → Int → Option Int
 | [], a => some a
 | .v (.int k') y :: r, x => if k = k' then min2 k r (if (y : Int) < x then y else x) else none
 | _, _ => none
def max2 (k : IntKind) : List SV → Int → Option Int
 | [], a => some a
 | .v (.int k') y :: r, x => if k = k' then max2 k r (if (y : Int) > x then y else x) else none
 | _, _ => none
def pad (l : List SV) : SV := match l with | [a] => a | l => .tup l
def backOW (sg : Sig) (ow ow1 : OW) : OW := if sg.res.fresh && sg.args.freshOut then thaw ow ow1 else ow1
def evSig (sg : Sig) (args : List SV) (ow : OW) (d : Nat) : Option (Cmd (SV × OW)) :=
 if alOk sg.al args ow then
 match pk sg.args args ow with
 | none => none
 | some p => some (.bnd (sg.res.z, sg.args.zo) (sg.den p.1) fun y =>
  (match unOut d ow sg.args args y.2 (backOW sg ow p.2, (unpk d sg.res y.1 0).2) with
  | some q => (match newObs q.1 d q.2 with | some ow' => .ret (pad (unpk d sg.res y.1 0).1, ow') | none => .fail)
  | none => .fail))
 else none
def trySigs (args : List SV) (ow : OW) (d : Nat) : List Sig → Cmd (SV × OW)
 | [] => .fail
 | sg :: r => (match evSig sg args ow d with | some c => c | none => trySigs args ow d r)
def evIface (P : Program) (t : TypeId) (x : SV) : Cmd SV :=
 match undl P t, x with
 | some (.int .i64), .v (.int .i64) n => .ret (.v .any (t, .inl n))
 | some .string, .v .str s => .ret (.v .any (t, .inr s))
 | _, _ => .fail
def zeroInt (P : Program) (t : TypeId) : Bool := match (P.info? t).bind (·.zero) with | some (.int .i64 0) => true | _ => false
def zeroStr (P : Program) (t : TypeId) : Bool := match (P.info? t).bind (·.zero) with | some (.string s) => s.data.size == 0 | _ => false
def evAssert (P : Program) (t : TypeId) (x : SV) : Cmd SV :=
 match undl P t, x with
 | some (.int .i64), .v .any y => if zeroInt P t then .chk (!(y.1 == t) || y.2.isLeft) (.ret (.tup [.v (.int .i64) (cond (y.1 == t) (match y.2 with | .inl n => n | .inr _ => 0) 0), .v .bool (y.1 == t)])) else .fail
 | some .string, .v .any y => if zeroStr P t then .chk (!(y.1 == t) || y.2.isRight) (.ret (.tup [.v .str (cond (y.1 == t) (match y.2 with | .inr s => s | .inl _ => []) []), .v .bool (y.1 == t)])) else .fail
 | _, _ => .fail
def evNilCheck (x : SV) (ow : OW) : Cmd SV :=
 match x with
 | .bp d j c => if isBox ow d j then .ret (.bp d j c) else .fail
 | .rp d j ver path e c => (match rowW ow d j path with | some _ => .ret (.rp d j ver path e c) | none => .fail)
 | .ip k x => .ret (.ip k x)
 | .fn (.func f) a b => .ret (.fn (.func f) a b)
 | _ => .fail
def evRO (P : Program) (o : Op) (ρ : Operand → SV) (ow : OW) : Cmd SV :=
 match o with
 | .move x | .assign x => .ret (ρ x)
 | .pick c a b => evPick (ρ c) (ρ a) (ρ b)
 | .build t parts => evBuild P t (parts.toList.map fun x => (x.1, ρ x.2))
 | .load t a => evLoad P t (ρ a) ow
 | .nilCheck x => evNilCheck (ρ x) ow
 | .binOp op t x y _ => evBin P op t ((x matches .const _) || (y matches .const _)) (ρ x) (ρ y) ow
 | .unOp op _ x => evUn op (ρ x)
 | .convert s t x => evConvert P s t (ρ x) ow
 | .makeFunc f a b => .ret (.fn f (a.toList.map ρ) (b.toList.map ρ))
 | .makeInterface t x => evIface P t (ρ x)
 | .typeAssert x _ t true => evAssert P t (ρ x)
 | .slice t x lo hi none => evSlice P t (ρ x) (lo.map ρ) (hi.map ρ) ow
 | .fieldAddr t x f => evFieldAddr P t (ρ x) f ow
 | .field t x f => evField P t (ρ x) f
 | .indexAddr t x i => evIndexAddr P t (ρ x) (ρ i) ow
 | .index t x i => if isStrT P t then evIndex (ρ x) (ρ i) else .fail
 | .extract t i => (match ρ t with | .tup l => (match l[i]? with | some s => .ret s | none => .fail) | _ => .fail)
 | .call c =>
  (match c.callee with
  | .builtin .len => (match c.args.toList, c.argTypes.toList with | [x], t :: _ => evLen P t (ρ x) ow | _, _ => .fail)
  | .builtin .min => (match c.args.toList.map ρ with | .v (.int k) a :: r => (match min2 k r a with | some n => .ret (.v (.int k) n) | none => .fail) | _ => .fail)
  | .builtin .max => (match c.args.toList.map ρ with | .v (.int k) a :: r => (match max2 k r a with | some n => .ret (.v (.int k) n) | none => .fail) | _ => .fail)
  | _ => .fail)
 | _ => .fail
def isPurs : Sh → Bool
 | .nil => true
 | .cons (.pur _) b => isPurs b
 | _ => false
def callRO (args : List SV) (ow : OW) : List Sig → Cmd SV
 | [] => .fail
 | sg :: r =>
  if isPurs sg.args && isPurs sg.res && sg.res.fresh && sg.al.isEmpty then
   (match pk sg.args args ow with
   | some p => .bnd (sg.res.z, sg.args.zo) (sg.den p.1) fun y => .ret (pad (unpk 0 sg.res y.1 0).1)
   | none => callRO args ow r)
  else callRO args ow r
def evJ (C : Ctx) (o : Op) (ρ : Operand → SV) (ow : OW) : Cmd SV :=
 match o with
 | .call { callee := .value f, args, .. } => (match ρ f with | .fn (.func id) a b => callRO (a ++ args.toList.map ρ ++ b) ow (C.sigsOf id) | _ => .fail)
 | o => evRO C.P o ρ ow
def tgt (ow : OW) (p : SV) : Option (Nat × Nat × Nat × Nat × Sh) :=
 match p with
 | .rp d j _ [] e c => (match getOb ow d j with | some (.nrow s _ _) => some (d, j, e, c, s) | _ => none)
 | _ => none
def pureCells : Sh → List Bool
 | .cons a b => (match a with | .pur _ => true | _ => false) :: pureCells b
 | .nil => []
 | .pur _ => [true]
 | _ => [false]
def cellsOf (P : Program) (t : TypeId) : Nat := if isAggT P t then sizeT P t else 1
def evLoadN (P : Program) (t : TypeId) (p : SV) (d j e c : Nat) (s : Sh) (ow : OW) (dk : Nat) : Cmd (SV × OW) :=
 match settleOb s (pk s) ow d j with
 | none => .fail
 | some ow1 =>
  (match nrowAt ow1 d j [] with
  | none => .fail
  | some r =>
   if ((pureCells r.1).drop c |>.take (cellsOf P t)).all id then (evLoad P t p ow1).bind fun v => .ret (v, ow1)
   else .bnd r.1.z r.2[e]? fun x =>
    (match newObs (putOb ow1 d j (some (.nrow r.1 r.2 (some (e, List.replicate r.1.w .dead))))) dk (unpk dk r.1 x 0).2 with
    | some ow2 => (match valOfCells P t ((unpk dk r.1 x 0).1.drop c) with
     | some v => .ret (v, putOb ow2 d j (some (.nrow r.1 r.2 (some (e, (unpk dk r.1 x 0).1)))))
     | none => .fail)
    | none => .fail))
def pkAt : (s : Sh) → s.T → Nat → List SV → OW → Option (s.T × OW)
 | .cons a b, y, 0, v :: r, ow =>
  (match pk a [v] ow with
  | some x => (match pkAt b y.2 0 r x.2 with | some z => some ((x.1, z.1), z.2) | none => none)
  | none => none)
 | .cons a b, y, 0, [], ow => some (y, ow)
 | .cons a b, y, c + 1, new, ow => (match pkAt b y.2 c new ow with | some z => some ((y.1, z.1), z.2) | none => none)
 | .nil, y, 0, [], ow => some (y, ow)
 | .own k, _, 0, [v], ow => pk (.own k) [v] ow
 | .rows s, _, 0, [v], ow => pk (.rows s) [v] ow
 | _, _, _, _, _ => none
def hangsOn (ow : OW) (d j : Nat) (new : List SV) : Bool :=
 match getOb ow d j with
 | some (.nrow _ _ (some p)) => new.any fun v => match keyOf v with | some k => p.2.any (fun c => keyOf c == some k) | none => false
 | _ => false
def settleT (new : List SV) (s : Sh) (ow : OW) (d j : Nat) : Option OW := if hangsOn ow d j new then none else settleOb s (pk s) ow d j
theorem settleT_some {new : List SV} {s : Sh} {ow ow1 : OW} {d j : Nat} (h : settleT new s ow d j = some ow1) : settleOb s (pk s) ow d j = some ow1 := by
 unfold settleT at h
 split at h
 ·cases h
 ·exact h
def evStoreN (P : Program) (t : TypeId) (x : SV) (d j e c : Nat) (s : Sh) (ow : OW) : Cmd OW :=
 match cellsOfSV P t x with
 | none => .fail
 | some new =>
  (match settleT new s ow d j with
  | some ow1 =>
   (match nrowAt ow1 d j [] with
   | none => .fail
   | some r => .bnd r.1.z r.2[e]? fun y =>
    (match pkAt r.1 y c new ow1 with
    | some z =>
     (match nrowAt z.2 d j [] with
     | some r2 => if h : r2.1 = r.1 then .ret (putOb z.2 d j (some (.nrow r.1 ((castS h r2.2).set e z.1) none))) else .fail
     | none => .fail)
    | none => .fail))
  | none =>
   (match getOb ow d j with
   | some (.nrow s' l (some p)) =>
    .chk (decide (e = p.1)) (match setCells p.2 c new with | some cells' => .ret (putOb ow d j (some (.nrow s' l (some (p.1, cells'))))) | none => .fail)
   | _ => .fail))
def elemOkN (P : Program) (e : TypeId) (s : Sh) : Bool :=
 s.elem && decide (0 < s.w) && decide (s.w = sizeT P e) && decide (0 < bytesT P e) && (match (P.info? e).bind (·.zero) with | some z => decide (z.cells.size = s.w) | none => false)
def pks (P : Program) (e : TypeId) (s : Sh) : List SV → OW → Option (List s.T × OW)
 | [], ow => some ([], ow)
 | v :: r, ow =>
  (match cellsOfSV P e v with
  | some cs => (match pk s cs ow with
   | some x => (match pks P e s r x.2 with | some y => some (x.1 :: y.1, y.2) | none => none)
   | none => none)
  | none => none)
def evBuildN (P : Program) (t : TypeId) (n : Nat) (parts : List (Nat × SV)) (s : Sh) (ow : OW) (d : Nat) : Cmd (SV × OW) :=
 match elemT P t with
 | none => .fail
 | some e =>
  if parts.map (·.1) = List.range n ∧ n * sizeT P e ≤ 16777216 ∧ elemOkN P e s then
   (match pks P e s (parts.map (·.2)) ow with
   | some y => (match newObs y.2 d [.nrow s y.1 none] with | some ow' => .ret (.wh d 0 0 [], ow') | none => .fail)
   | none => .fail)
  else .fail
def isNil0 : List Value → Bool
 | [.slice none 0 0] => true
 | _ => false
def zeroN : Sh → List Value → Bool
 | .pur kd, [v] => zeroRep kd [v]
 | .own k, vs => isNil0 vs && k.good
 | .rows s, vs => isNil0 vs && s.elem
 | .nil, [] => true
 | .cons a b, v :: r => zeroN a [v] && zeroN b r
 | _, _ => false
def zeroOkN (P : Program) (e : TypeId) (s : Sh) : Bool := match (P.info? e).bind (·.zero) with | some z => zeroN s z.cells.toList | none => false
def evMakeN (P : Program) (t : TypeId) (n c : SV) (s : Sh) (ow : OW) (d : Nat) : Cmd (SV × OW) :=
 match elemT P t, n, c with
 | some e, .v (.int .i64) n, .v (.int .i64) c =>
  if elemOkN P e s && zeroOkN P e s then
   .chk (decide (0 ≤ n ∧ n ≤ c ∧ c * bytesT P e ≤ maxBytes)) (match newObs ow d [.nrow s (List.replicate n.toNat s.z) none] with | some ow' => .ret (.wh d 0 0 [], ow') | none => .fail)
  else .fail
 | _, _, _ => .fail
def evAppendN (P : Program) (t : TypeId) (s x : SV) (sh : Sh) (ow : OW) (d : Nat) : Cmd (SV × OW) :=
 match elemT P t with
 | none => .fail
 | some e =>
  (match pk (.rows sh) [s] ow with
  | some y1 => (match pk (.rows sh) [x] y1.2 with
   | some y2 =>
    if elemOkN P e sh then .chk (decide ((y1.1.length + y2.1.length) * bytesT P e ≤ maxBytes))
     (match newObs y2.2 d [.nrow sh (y1.1 ++ y2.1) none] with | some ow' => .ret (.wh d 0 0 [], ow') | none => .fail)
    else .fail
   | none => .fail)
  | none => .fail)
def sameRow (s x : SV) : Bool :=
 match s, x with
 | .os d j _ _ _ _, .os d' j' _ _ _ _ => d == d' && j == j'
 | _, _ => false
def evCutN (P : Program) (t : TypeId) (s x : SV) (sh : Sh) (ow : OW) (d : Nat) : Cmd (SV × OW) :=
 match s, x, elemT P t with
 | .os d1 j1 _ [] o1 n1, .os d2 j2 _ [] o2 n2, some e =>
  if d1 = d2 ∧ j1 = j2 then
   (match settleOb sh (pk sh) ow d1 j1 with
   | some ow1 =>
    (match nrowAt ow1 d1 j1 [] with
    | some r =>
     if h : r.1 = sh then
      if elemOkN P e sh then .chk (decide (o1 + n1 ≤ o2)) (.chk (decide ((n1 + n2) * bytesT P e ≤ maxBytes))
       (match newObs (putOb ow1 d1 j1 none) d [.nrow sh (subL (castS h r.2) o1 n1 ++ subL (castS h r.2) o2 n2) none] with | some ow' => .ret (.wh d 0 0 [], ow') | none => .fail))
      else .fail
     else .fail
    | none => .fail)
   | none => .fail)
  else .fail
 | _, _, _ => .fail
def nShape (ow : OW) (x : SV) : Option Sh :=
 match keyOf x with
 | some (d, j) => (match getOb ow d j with | some (.nrow s _ _) => some s | _ => none)
 | none => none
def nShape2 (ow : OW) (s x : SV) : Option Sh := match nShape ow s with | some sh => some sh | none => nShape ow x
def evOp0 (C : Ctx) (o : Op) (ρ : Operand → SV) (ow : OW) (d : Nat) : Cmd (SV × OW) :=
 match o with
 | .alloc t => (match zeroCells C.P t with | some cells => (match newObs ow d [.box cells] with | some ow' => .ret (.bp d 0 0, ow') | none => .fail) | none => .fail)
 | .box t x => (match cellsOfSV C.P t (ρ x) with | some cells => (match newObs ow d [.box cells] with | some ow' => .ret (.bp d 0 0, ow') | none => .fail) | none => .fail)
 | .buildSlice t n parts => evBuildSlice C.P t n (parts.toList.map fun x => (x.1, ρ x.2)) ow d
 | .store t a x => (evStore C.P t (ρ a) (ρ x) ow).bind fun ow' => .ret (.tup [], ow')
 | .makeSlice t n c => evMakeSlice C.P t (ρ n) (ρ c) ow d
 | .call { callee := .builtin .append, args, argTypes } => (match args.toList, argTypes.toList with | [s, x], [t, tx] => if isSliceT C.P tx then evAppend C.P t (ρ s) (ρ x) ow d else .fail | _, _ => .fail)
 | .call { callee := .value f, args, .. } => (match ρ f with | .fn (.func id) a b => trySigs (a ++ args.toList.map ρ ++ b) (settleVs (a ++ args.toList.map ρ ++ b) ow) d (C.sigsOf id) | _ => .fail)
 | o => (evRO C.P o ρ ow).bind fun s => .ret (s, ow)
def evOp (C : Ctx) (o : Op) (ρ : Operand → SV) (ow : OW) (d : Nat) : Cmd (SV × OW) :=
 match o with
 | .load t a => (match tgt ow (ρ a) with | some q => evLoadN C.P t (ρ a) q.1 q.2.1 q.2.2.1 q.2.2.2.1 q.2.2.2.2 ow d | none => evOp0 C (.load t a) ρ ow d)
 | .store t a x => (match tgt ow (ρ a) with | some q => (evStoreN C.P t (ρ x) q.1 q.2.1 q.2.2.1 q.2.2.2.1 q.2.2.2.2 ow).bind fun ow' => .ret (.tup [], ow') | none => evOp0 C (.store t a x) ρ ow d)
 | .buildSlice t n parts => (match C.deepOf d with | some s => evBuildN C.P t n (parts.toList.map fun x => (x.1, ρ x.2)) s ow d | none => evOp0 C (.buildSlice t n parts) ρ ow d)
 | .makeSlice t n c => (match C.deepOf d with | some s => evMakeN C.P t (ρ n) (ρ c) s ow d | none => evOp0 C (.makeSlice t n c) ρ ow d)
 | .call c =>
  (match c.callee, c.args.toList, c.argTypes.toList with
  | .builtin .append, [s, x], [t, tx] => (match nShape2 ow (ρ s) (ρ x) with | some sh => if isSliceT C.P tx then (if sameRow (ρ s) (ρ x) then evCutN C.P t (ρ s) (ρ x) sh ow d else evAppendN C.P t (ρ s) (ρ x) sh ow d) else .fail | none => evOp0 C (.call c) ρ ow d)
  | _, _, _ => evOp0 C (.call c) ρ ow d)
 | o => evOp0 C o ρ ow d
def opd (sl : List SV) : Operand → SV
 | .tmp t => (match sl[t]? with | some s => s | none => .dead)
 | .const v => ofVal 4 v
 | .global _ => .dead
 | .func f => .fn (.func f) [] []
def setSl (sl : List SV) (d : Option Tmp) (s : SV) : List SV := match d with | some d => sl.set d s | none => sl
def isSrc (ops : Array Oper) (i : Nat) : Bool := ops.toList.any fun o => match o.guard with | some (j, _) => j == i | none => false
def split {α : Type} (n : Nat) (src : Bool) (s : SV) (k : SV → Option α) : Option α :=
 if src then (match s with | .v .bool b => br n b (k (.lb true)) (k (.lb false)) | s => k s) else k s
def wants (ops : Array Oper) (o : Oper) (sl : List SV) : Option Bool :=
 match o.guard with
 | none => some true
 | some (j, want) =>
  (match (ops[j]?).bind (·.dst) with
  | none => some false
  | some g => (match sl[g]? with | some (.lb b) => some (b == want) | some (.tup []) => some false | _ => none))
def looks (ops : Array Oper) (o : Oper) : List Tmp :=
 (o.op.operands.toList.filterMap fun | .tmp t => some t | _ => none) ++ (match o.guard with | some (g, _) => ((ops[g]?).bind (·.dst)).toList | none => [])
def apartS (ops : Array Oper) (x y : Oper) : Bool :=
 (match x.dst with | some d => !(looks ops y).contains d && y.dst != some d | none => true) &&
 (match y.dst with | some d => !(looks ops x).contains d | none => true)
def apartSAt (ops : Array Oper) (i j : Nat) : Bool := match ops[i]?, ops[j]? with | some x, some y => apartS ops x y | _, _ => false
def maskOf (ms : List Nat) (o : Oper) : Nat := o.after.toList.foldl (fun m e => if Region.binds .any e then m ||| (1 <<< e.on) ||| ms.getD e.on 0 else m) 0
def masksOf (ops : List Oper) (ms : List Nat) : List Nat := match ops with | [] => ms | o :: r => masksOf r (ms ++ [maskOf ms o])
def upOk : Nat → List Oper → Bool
 | _, [] => true
 | j, o :: r => o.after.toList.all (fun e => !Region.binds .any e || decide (e.on < j)) && upOk (j + 1) r
def anyOk (ops : Array Oper) (apart : Nat → Nat → Bool) : Bool :=
 let ms := masksOf ops.toList []
 upOk 0 ops.toList && (List.range ops.size).all fun j => (List.range j).all fun i => (ms.getD j 0).testBit i || apart i j
def splitC (src : Bool) (s : SV) : Cmd SV :=
 if src then (match s with | .v .bool b => .ite b (.ret (.lb true)) (.ret (.lb false)) | s => .ret s) else .ret s
def Cmd.noAmb {β : Type} : Cmd β → Cmd β
 | .ret b => .ret b
 | .fail => .fail
 | .chk c t => .chk c t.noAmb
 | .bnd z m f => .bnd z m fun y => (f y).noAmb
 | .amb _ _ _ => .fail
 | .ite c f g => .ite c f.noAmb g.noAmb
def dummyL : List (Option OB) := List.replicate 16 none
def maskOW (K : List Nat) : Nat → OW → OW
 | _, [] => []
 | i, l :: r => (if K.contains i then l else dummyL) :: maskOW K (i + 1) r
def mergeOW (K : List Nat) : Nat → OW → OW → OW
 | _, [], _ => []
 | i, a :: r, s => (if K.contains i then s.headD a else a) :: mergeOW K (i + 1) r s.tail
def smallOW (ow : OW) : Bool := ow.all fun l => decide (l.length ≤ 16)
def svIn (K : List Nat) : Nat → SV → Bool
 | 0, _ => false
 | _ + 1, .wh d _ _ _ => K.contains d
 | _ + 1, .os d _ _ _ _ _ => K.contains d
 | _ + 1, .rp d _ _ _ _ _ => K.contains d
 | _ + 1, .bp d _ _ => K.contains d
 | f + 1, .agg l => l.all (svIn K f)
 | f + 1, .tup l => l.all (svIn K f)
 | f + 1, .fn _ a b => a.all (svIn K f) && b.all (svIn K f)
 | _ + 1, _ => true
def obCells : OB → List SV
 | .box cells => cells
 | .nrow _ _ (some p) => p.2
 | _ => []
def obIn (K : List Nat) : Option OB → Bool
 | some o => (obCells o).all (svIn K 8)
 | none => true
def frameOW (K : List Nat) : Nat → OW → Bool
 | _, [] => true
 | i, l :: r => (if K.contains i then l.all (obIn K) else l.all (·.isNone) && l.length == 16) && frameOW K (i + 1) r
def okM (K : List Nat) (ow : OW) : Bool := frameOW K 0 ow && smallOW ow
def slotOp : Op → Option Operand
 | .move x | .assign x => some x
 | _ => none
def evLight (P : Program) (o : Op) (ρ : Operand → SV) (ow : OW) : Option SV :=
 match o with
 | .load t a => (match ρ a with | .bp d j c => (match getOb ow d j with | some (.box cells) => valOfCells P t (cells.drop c) | _ => none) | _ => none)
 | .fieldAddr t a f => (match ρ a, fieldT P t f with | .bp d j c, some fd => if sizeT P fd.type = 0 then none else if isBox ow d j then some (.bp d j (c + fd.offset)) else none | _, _ => none)
 | .nilCheck a => (match ρ a with | .bp d j c => if isBox ow d j then some (.bp d j c) else none | _ => none)
 | _ => none
def callNew (args : List SV) (ow : OW) (d : Nat) : List Sig → Cmd (SV × OW)
 | [] => .fail
 | sg :: r =>
  if isPurs sg.args && sg.res.fresh && sg.al.isEmpty then
   (match pk sg.args args ow with
   | some p => .bnd (sg.res.z, sg.args.zo) (sg.den p.1) fun y => (match newObs ow d (unpk d sg.res y.1 0).2 with | some ow' => .ret (pad (unpk d sg.res y.1 0).1, ow') | none => .fail)
   | none => callNew args ow d r)
  else callNew args ow d r
def isCall : Op → Bool
 | .call { callee := .value _, .. } => true
 | _ => false
def isNew (C : Ctx) (o : Op) (ρ : Operand → SV) : Bool :=
 match o with
 | .call { callee := .value f, .. } => (match ρ f with | .fn (.func id) _ _ => (C.sigsOf id).any fun sg => !isPurs sg.res | _ => false)
 | _ => false
def evNew (C : Ctx) (o : Op) (ρ : Operand → SV) (ow : OW) (d : Nat) : Cmd (SV × OW) :=
 match o with
 | .call { callee := .value f, args, .. } => (match ρ f with | .fn (.func id) a b => callNew (a ++ args.toList.map ρ ++ b) ow d (C.sigsOf id) | _ => .fail)
 | _ => .fail
def evM (C : Ctx) (E : Cmd (SV × OW)) (o : Op) (q : List Nat × Bool) (ρ : Operand → SV) (owm : OW) (d : Nat) : Cmd (SV × Option (List Nat × OW)) :=
 if q.2 then E.bind fun x => if okM q.1 x.2 && svIn q.1 8 x.1 then .ret (x.1, some (q.1, x.2)) else .fail
 else match slotOp o with
  | some x => .ret (ρ x, none)
  | none => (match evLight C.P o ρ owm with
   | some s => .ret (s, none)
   | none =>
    if isNew C o ρ then (evNew C o ρ owm d).bind fun x => if okM q.1 x.2 && svIn q.1 8 x.1 && q.1.contains d then .ret (x.1, some ([d], x.2)) else .fail
    else (evJ C o ρ owm).bind fun s => if okM q.1 owm && svIn q.1 8 s then .ret (s, none) else .fail)
def putM (ow : OW) : Option (List Nat × OW) → OW
 | some s => mergeOW s.1 0 ow s.2
 | none => ow
def wOf (d : Nat) (o : Op) (q : List Nat × Bool) : List Nat := if q.2 then q.1 else if isCall o then [d] else []
def disjK (a b : List Nat) : Bool := a.all fun d => !b.contains d
def apartM (dk : Oper → Nat) (ops : Array Oper) (ks : List (List Nat × Bool)) (i j : Nat) : Bool :=
 apartSAt ops i j && (match ks[i]?, ks[j]?, ops[i]?, ops[j]? with
  | some x, some y, some a, some b => disjK (wOf (dk a) a.op x) y.1 && disjK (wOf (dk b) b.op y) x.1 && disjK (wOf (dk a) a.op x) (wOf (dk b) b.op y)
  | _, _, _, _ => false)
def dkF (o : Oper) : Nat := o.dst.getD 0
def evOpsC (C : Ctx) (key : Option Nat → Nat) (ops : Array Oper) : List (Oper × Nat) → St → Cmd St
 | [], st => .ret st
 | (o, i) :: r, st =>
  match wants ops o st.sl with
  | none => .fail
  | some false => evOpsC C key ops r ⟨setSl st.sl o.dst (.tup []), st.ow⟩
  | some true => (evOp C o.op (opd st.sl) st.ow (key o.dst)).bind fun x => (splitC (isSrc ops i) x.1).bind fun s => evOpsC C key ops r ⟨setSl st.sl o.dst s, x.2⟩
def evJsC (C : Ctx) (ops : Array Oper) (ow : OW) : List (Oper × Nat) → List SV → Cmd (List SV)
 | [], sl => .ret sl
 | (o, i) :: r, sl =>
  match wants ops o sl with
  | none => .fail
  | some false => evJsC C ops ow r (setSl sl o.dst (.tup []))
  | some true => (evJ C o.op (opd sl) ow).noAmb.bind fun x => (splitC (isSrc ops i) x).bind fun s => evJsC C ops ow r (setSl sl o.dst s)
def evOpsMC (C : Ctx) (key : Option Nat → Nat) (ops : Array Oper) (ks : List (List Nat × Bool)) : List (Oper × Nat) → St → Cmd St
 | [], st => .ret st
 | (o, i) :: r, st =>
  match wants ops o st.sl with
  | none => .fail
  | some false => evOpsMC C key ops ks r ⟨setSl st.sl o.dst (.tup []), st.ow⟩
  | some true =>
   (match ks[i]? with
   | some q => if smallOW st.ow then (evM C (evOp C o.op (opd st.sl) (maskOW q.1 0 st.ow) (key o.dst)) o.op q (opd st.sl) (maskOW q.1 0 st.ow) (key o.dst)).noAmb.bind fun x => (splitC (isSrc ops i) x.1).bind fun s => evOpsMC C key ops ks r ⟨setSl st.sl o.dst s, putM st.ow x.2⟩ else .fail
   | none => .fail)
def inlKey (A : InA) (d : Nat) (dst : Option Nat) : Nat := match A.keys.find? (fun z => dst == some z.1) with | some z => z.2 | none => d
inductive Way where
 | normal
 | exit (i : Nat)
 | ret
def evCodeC (C : Ctx) (A : InA) (key : Option Nat → Nat) : Code → Nat → St → Cmd (Way × St)
 | .skip, _, st => .ret (.normal, st)
 | .region id ops draw, _, st =>
  if draw then (match A.draws.find? (fun x => x.1 == id) with | some (_, ks) => if anyOk ops (apartM (fun o => key o.dst) ops ks) then (evOpsMC C key ops ks ops.toList.zipIdx st).bind fun st => .ret (.normal, st) else .fail | none => if anyOk ops (apartSAt ops) then (evJsC C ops st.ow ops.toList.zipIdx st.sl).bind fun sl => .ret (.normal, ⟨sl, st.ow⟩) else .fail)
  else (evOpsC C key ops ops.toList.zipIdx st).bind fun st => .ret (.normal, st)
 | .seq a b, bid, st => (evCodeC C A key a bid st).bind fun x => match x.1 with | .normal => evCodeC C A key b bid x.2 | w => .ret (w, x.2)
 | .cond c a b, bid, st =>
  (match opd st.sl c with
  | .lb t => if t then evCodeC C A key a bid st else evCodeC C A key b bid st
  | .v .bool t => .ite t (evCodeC C A key a bid st) (evCodeC C A key b bid st)
  | _ => .fail)
 | .block id c, _, st => (evCodeC C A key c id st).bind fun x => match x.1 with | .exit i => if i == id then .ret (.normal, x.2) else .ret (.exit i, x.2) | w => .ret (w, x.2)
 | .exit id, _, st => .ret (.exit id, st)
 | .ret, _, st => .ret (.ret, st)
 | _, _, _ => .fail
def resSV (P : Program) (st : St) : List ResultVar → Cmd (List SV)
 | [] => .ret []
 | .tmp t :: r => (resSV P st r).bind fun l => .ret (opd st.sl (.tmp t) :: l)
 | .cell a t :: r => (evLoad P t (opd st.sl (.tmp a)) st.ow).bind fun s => (resSV P st r).bind fun l => .ret (s :: l)
def evInl (C : Ctx) (fn : Func) (args : List SV) (ow : OW) (A : InA) (d : Nat) : Cmd (SV × OW) :=
 match fn.body with
 | none => .fail
 | some c =>
  if args.length ≤ fn.ntmps then
   (evCodeC C A (inlKey A d) c 0 ⟨args ++ List.replicate (fn.ntmps - args.length) .dead, ow⟩).bind fun x => match x.1 with
   | .exit _ => .fail
   | _ => (resSV C.P x.2 fn.results.toList).bind fun l => .ret (pad l, x.2.ow)
  else .fail
def inlOf (C : Ctx) (f : SV) : Option (FuncId × Func × List SV × List SV) :=
 match f with
 | .fn (.func id) a b => if C.inl.any (fun x => x.1 == id) then (match C.P.funcs[id]? with | some fn => if !(fn.name == "runtime.NumGoroutine") && !fn.body.isNone then some (id, fn, a, b) else none | none => none) else none
 | _ => none
def inlA (C : Ctx) (f : FuncId) (d : Nat) : InA := match C.inl.find? (fun x => x.1 == f) with | some x => (match x.2.find? (fun y => y.1 == d) with | some y => y.2 | none => {}) | none => {}
def evOpI (C : Ctx) (o : Op) (ρ : Operand → SV) (ow : OW) (d : Nat) : Cmd (SV × OW) :=
 match o with
 | .call { callee := .value f, args, .. } => (match inlOf C (ρ f) with | some q => evInl C q.2.1 (q.2.2.1 ++ args.toList.map ρ ++ q.2.2.2) ow (inlA C q.1 d) d | none => evOp C o ρ ow d)
 | o => evOp C o ρ ow d
noncomputable def evOps {α : Type} (C : Ctx) (ops : Array Oper) : List (Oper × Nat) → St → (St → Option α) → Option α
 | [], st, k => k st
 | (o, i) :: r, st, k =>
  match wants ops o st.sl with
  | none => none
  | some false => evOps C ops r ⟨setSl st.sl o.dst (.tup []), st.ow⟩ k
  | some true => (evOpI C o.op (opd st.sl) st.ow (o.dst.getD 0)).run C.fuel fun x => split C.fuel (isSrc ops i) x.1 fun s => evOps C ops r ⟨setSl st.sl o.dst s, x.2⟩ k
noncomputable def evJs {α : Type} (C : Ctx) (ops : Array Oper) (ow : OW) : List (Oper × Nat) → List SV → (List SV → Option α) → Option α
 | [], sl, k => k sl
 | (o, i) :: r, sl, k =>
  match wants ops o sl with
  | none => none
  | some false => evJs C ops ow r (setSl sl o.dst (.tup [])) k
  | some true => (evJ C o.op (opd sl) ow).run C.fuel fun x => split C.fuel (isSrc ops i) x fun s => evJs C ops ow r (setSl sl o.dst s) k
noncomputable def Cmd.runA {α β : Type} (n : Nat) : Cmd β → (β → Option α) → Option α
 | .ret b, k => k b
 | .fail, _ => none
 | .chk c t, k => br n c (t.runA n k) none
 | .bnd _ m f, k => bd n m fun y => (f y).runA n k
 | .amb _ _ _, _ => none
 | .ite c f g, k => br n c (f.runA n k) (g.runA n k)
noncomputable def evJsA {α : Type} (C : Ctx) (ops : Array Oper) (ow : OW) : List (Oper × Nat) → List SV → (List SV → Option α) → Option α
 | [], sl, k => k sl
 | (o, i) :: r, sl, k =>
  match wants ops o sl with
  | none => none
  | some false => evJsA C ops ow r (setSl sl o.dst (.tup [])) k
  | some true => (evJ C o.op (opd sl) ow).runA C.fuel fun x => split C.fuel (isSrc ops i) x fun s => evJsA C ops ow r (setSl sl o.dst s) k
noncomputable def evOpsM {α : Type} (C : Ctx) (ops : Array Oper) (ks : List (List Nat × Bool)) : List (Oper × Nat) → St → (St → Option α) → Option α
 | [], st, k => k st
 | (o, i) :: r, st, k =>
  match wants ops o st.sl with
  | none => none
  | some false => evOpsM C ops ks r ⟨setSl st.sl o.dst (.tup []), st.ow⟩ k
  | some true =>
   (match ks[i]? with
   | some q => if smallOW st.ow then (evM C (evOpI C o.op (opd st.sl) (maskOW q.1 0 st.ow) (dkF o)) o.op q (opd st.sl) (maskOW q.1 0 st.ow) (dkF o)).runA C.fuel fun x => split C.fuel (isSrc ops i) x.1 fun s => evOpsM C ops ks r ⟨setSl st.sl o.dst s, putM st.ow x.2⟩ k else none
   | none => none)
def keptT : List (Nat × Kd) → Type
 | [] => Unit
 | (_, k) :: r => k.T × keptT r
def keptSl : (l : List (Nat × Kd)) → keptT l → List SV → List SV
 | [], _, sl => sl
 | (d, k) :: r, x, sl => (keptSl r x.2 sl).set d (.v k x.1)
def joinLeaf (k : Kd) (s : SV) : Option k.T :=
 match s with
 | .v k' x => if h : k' = k then some (castK h x) else none
 | .lb b => (match k with | .bool => some b | _ => none)
 | .nils => (match k with | .sl false _ => some [] | _ => none)
 | _ => none
def packKept : (l : List (Nat × Kd)) → List SV → Option (keptT l)
 | [], _ => some ()
 | (d, k) :: r, sl =>
  (match joinLeaf k (opd sl (.tmp d)) with
  | some x => (match packKept r sl with | some y => some (x, y) | none => none)
  | none => none)
structure Ks (α : Type) where
 normal : St → Option α
 exit : Nat → St → Option α
 ret : St → Option α
def slotsSh : List (Nat × Sh) → Sh
 | [] => .nil
 | (_, s) :: r => .cons s (slotsSh r)
def mkSt (nt : Nat) : (l : List (Nat × Sh)) → (slotsSh l).T → St
 | [], _ => ⟨List.replicate nt .dead, List.replicate nt []⟩
 | (s, sh) :: r, x =>
  let st := mkSt nt r x.2
  let u := unpk s sh x.1 0
  ⟨st.sl.set s (u.1.headD .dead), st.ow.set s (u.2.map some)⟩
def okLive (nt : Nat) : List (Nat × Sh) → Bool
 | [] => true
 | (s, _) :: r => decide (s < nt) && !(r.map (·.1)).contains s && okLive nt r
def iter {A R : Type} (b : (A → Option R) → A → Option R) : Nat → A → Option R
 | 0, _ => none
 | n + 1, x => b (iter b n) x
noncomputable def evLoop {α : Type} (nt : Nat) (live : List (Nat × Sh)) (al : List (Nat × Nat × Nat × List Nat)) (F : St → (St → Option α) → Option α) (n : Nat) (x : (slotsSh live).T) : Option α :=
 iter (fun G x => F (fixSt al (mkSt nt live x)) fun st => if alOk al st.sl st.ow then (match pk (slotsSh live) (live.map fun p => opd st.sl (.tmp p.1)) st.ow with | some y => G y.1 | none => none) else none) n x
noncomputable def evReg {α : Type} (C : Ctx) (ann : Ann) (id : Nat) (ops : Array Oper) (draw : Bool) (st : St) (k : St → Option α) : Option α :=
  (match ann.joins.find? (fun x => x.1 == id) with
  | some (_, kept) =>
   if draw then (if anyOk ops (apartSAt ops) then
    (evJsA C ops st.ow ops.toList.zipIdx st.sl fun sl => packKept kept sl).bind fun p =>
    k ⟨keptSl kept p (ops.toList.foldl (fun sl o => setSl sl o.dst .dead) st.sl), st.ow⟩
   else none) else
    (evJs C ops st.ow ops.toList.zipIdx st.sl fun sl => packKept kept sl).bind fun p =>
    k ⟨keptSl kept p (ops.toList.foldl (fun sl o => setSl sl o.dst .dead) st.sl), st.ow⟩
  | none =>
   if draw then
    (match ann.keys.find? (fun x => x.1 == id) with
    | some (_, ks) => if anyOk ops (apartM dkF ops ks) then evOpsM C ops ks ops.toList.zipIdx st k else none
    | none => if anyOk ops (apartSAt ops) then evJsA C ops st.ow ops.toList.zipIdx st.sl fun sl => k ⟨sl, st.ow⟩ else none)
   else evOps C ops ops.toList.zipIdx st k)
noncomputable def evCode {α : Type} (C : Ctx) (ann : Ann) (nt : Nat) : Code → Nat → St → Ks α → Option α
 | .skip, _, st, K => K.normal st
 | .region id ops draw, _, st, K =>
  (match ann.heads.find? (fun x => x.1 == id) with
  | some (_, live) => if okLive nt live then (match pk (slotsSh live) (live.map fun p => opd st.sl (.tmp p.1)) st.ow with
   | some y => jn C.fuel (fun x => evReg C ann id ops draw (mkSt nt live x) K.normal) y.1
   | none => none) else none
  | none => evReg C ann id ops draw st K.normal)
 | .seq a b, bid, st, K => evCode C ann nt a bid st { K with normal := fun st' => evCode C ann nt b bid st' K }
 | .cond c a b, bid, st, K =>
  (match opd st.sl c with
  | .lb t => if t then evCode C ann nt a bid st K else evCode C ann nt b bid st K
  | .v .bool t => br C.fuel t (evCode C ann nt a bid st K) (evCode C ann nt b bid st K)
  | _ => none)
 | .block id c, _, st, K => evCode C ann nt c id st { K with exit := fun i st' => if i == id then K.normal st' else K.exit i st' }
 | .loop c, bid, st, K =>
  (match ann.loops.find? (fun x => x.1 == bid) with
  | none => none
  | some (_, live) => if okLive nt live then (match pk (slotsSh live) (live.map fun p => opd st.sl (.tmp p.1)) st.ow with
   | some y => evLoop nt live ((ann.al ++ ann.lal).filter fun q => alOk1 st.sl st.ow q && ((live.map (·.1)).contains q.1 && (live.map (·.1)).contains q.2.1)) (fun st' k => evCode C ann nt c bid st' { K with normal := k }) C.fuel y.1
   | none => none) else none)
 | .exit id, _, st, K => K.exit id st
 | .ret, _, st, K => K.ret st
 | _, _, _, _ => none
def mkArg (nt : Nat) : (s : Sh) → s.T → Nat → St
 | .cons a b, x, i =>
  let st := mkArg nt b x.2 (i + 1)
  let u := unpk i a x.1 0
  ⟨st.sl.set i (u.1.headD .dead), st.ow.set i (u.2.map some)⟩
 | _, _, _ => ⟨List.replicate nt .dead, List.replicate nt []⟩
def freeArg : Sh → Nat → Bool
 | .cons a _, 0 => a.noOuts
 | .cons _ b, i + 1 => freeArg b i
 | _, _ => true
def dstOk (fr : Nat → Bool) : Code → Bool
 | .region _ ops _ => ops.toList.all fun o => match o.dst with | some d => fr d | none => true
 | .seq a b => dstOk fr a && dstOk fr b
 | .cond _ a b => dstOk fr a && dstOk fr b
 | .block _ c => dstOk fr c
 | .loop c => dstOk fr c
 | _ => true
def Sh.chain : Sh → Bool
 | .nil => true
 | .cons _ b => b.chain
 | _ => false
noncomputable def evFin (C : Ctx) (fn : Func) (args res : Sh) (st : St) : Option (res.T × args.Out) :=
 (resSV C.P st fn.results.toList).run C.fuel fun l =>
  (match pk res l (settleVs l st.ow) with
  | some x => (match outp args (st.sl.take args.len) x.2 with | some y => some (x.1, y.1) | none => none)
  | none => none)
noncomputable def evFunc (C : Ctx) (ann : Ann) (fn : Func) (args res : Sh) (x : args.T) : Option (res.T × args.Out) :=
 match fn.body with
 | none => none
 | some c =>
  if args.chain && decide (args.len ≤ fn.ntmps) && dstOk (freeArg args) c then
  evCode C ann fn.ntmps c 0 (fixSt ann.al (mkArg fn.ntmps args x 0))
   { normal := evFin C fn args res, exit := fun _ _ => none, ret := evFin C fn args res }
  else none
end Go.Pev
end

section
/-
 PEV, part 3: what the evaluator's values say of memory.
-/
namespace Go.Pev
def rowCells (h : Array Obj) (b : Nat) : Option (Array Value) :=
 match h[b]? with
 | some (.cells c _ _) => some c
 | _ => none
def sub (r : Array Value) (o n : Nat) : List Value := (r.toList.drop o).take n
def ElemsR {α : Type} (R : α → List Value → Prop) (n : Nat) (l : List α) (r : Array Value) (o : Nat) : Prop :=
 o + l.length * n ≤ r.size ∧ ∀ i (hi : i < l.length), R l[i] (sub r (o + i * n) n)
def anyV : Int ⊕ List UInt8 → Value
 | .inl n => .int .i64 n
 | .inr s => .string ⟨s.toArray⟩
def Rep (h : Array Obj) (ok : Nat → Prop) : (k : Kd) → k.T → List Value → Prop
 | .int kk, n, cs => cs = [.int kk n]
 | .bool, b, cs => cs = [.bool b]
 | .str, s, cs => cs = [.string ⟨s.toArray⟩]
 | .err, b, cs => (b = false ∧ cs = [.nilIface]) ∨ (b = true ∧ ∃ t v, cs = [.iface t v])
 | .any, y, cs => cs = [.iface y.1 (anyV y.2)]
 | .sl true _, _, _ => False
 | .sl false e, l, cs => ∃ a c, cs = [.slice a l.length c] ∧ l.length ≤ c ∧
   (l = [] ∨ ∃ b o r, a = some ⟨b, o, none⟩ ∧ ok b ∧ rowCells h b = some r ∧ ElemsR (fun x cs => Rep h ok e x cs) e.n l r o)
 | .nil, _, cs => cs = []
 | .cons a b, x, cs => ∃ c1 c2, cs = c1 ++ c2 ∧ Rep h ok a x.1 c1 ∧ Rep h ok b x.2 c2
 | .tree _, _, _ => False
theorem Rep.length {h : Array Obj} {ok : Nat → Prop} : (k : Kd) → {x : k.T} → {cs : List Value} → Rep h ok k x cs → cs.length = k.n
 | .int _, _, _, e => by cases e; rfl
 | .bool, _, _, e => by cases e; rfl
 | .str, _, _, e => by cases e; rfl
 | .err, _, _, e => by rcases e with ⟨_, rfl⟩ | ⟨_, _, _, rfl⟩ <;> rfl
 | .any, _, _, e => by cases e; rfl
 | .sl true _, _, _, e => e.elim
 | .sl false _, _, _, e => by obtain ⟨_, _, rfl, _⟩ := e; rfl
 | .nil, _, _, e => by cases e; rfl
 | .cons a b, _, _, e => by
  obtain ⟨c1, c2, rfl, e1, e2⟩ := e
  simp [Kd.n, Rep.length a e1, Rep.length b e2]
 | .tree _, _, _, e => e.elim
theorem Rep.mono {h h' : Array Obj} {ok ok' : Nat → Prop} (hm : ∀ b r, ok b → rowCells h b = some r → ok' b ∧ rowCells h' b = some r) :
  (k : Kd) → {x : k.T} → {cs : List Value} → Rep h ok k x cs → Rep h' ok' k x cs
 | .int _, _, _, e => e
 | .bool, _, _, e => e
 | .str, _, _, e => e
 | .err, _, _, e => e
 | .any, _, _, e => e
 | .sl true _, _, _, e => e
 | .sl false k, _, _, e => by
  obtain ⟨a, c, rfl, hl, e⟩ := e
  refine ⟨a, c, rfl, hl, ?_⟩
  rcases e with e | ⟨b, o, r, ha, hb, hr, hs, he⟩
  ·exact .inl e
  ·obtain ⟨hb', hr'⟩ := hm b r hb hr
   exact .inr ⟨b, o, r, ha, hb', hr', hs, fun i hi => Rep.mono hm k (he i hi)⟩
 | .nil, _, _, e => e
 | .cons a b, _, _, e => by
  obtain ⟨c1, c2, rfl, e1, e2⟩ := e
  exact ⟨c1, c2, rfl, Rep.mono hm a e1, Rep.mono hm b e2⟩
 | .tree _, _, _, e => e
theorem Rep.any_heap {h h' : Array Obj} {ok ok' : Nat → Prop} : (k : Kd) → k.allOwn = true → {x : k.T} → {cs : List Value} → Rep h ok k x cs → Rep h' ok' k x cs
 | .int _, _, _, _, e => e
 | .bool, _, _, _, e => e
 | .str, _, _, _, e => e
 | .err, _, _, _, e => e
 | .any, _, _, _, e => e
 | .sl true _, _, _, _, e => e
 | .sl false _, hk, _, _, _ => by simp [Kd.allOwn] at hk
 | .nil, _, _, _, e => e
 | .cons a b, hk, _, _, e => by
  simp [Kd.allOwn] at hk
  obtain ⟨c1, c2, rfl, e1, e2⟩ := e
  exact ⟨c1, c2, rfl, Rep.any_heap a hk.1 e1, Rep.any_heap b hk.2 e2⟩
 | .tree _, _, _, _, e => e
theorem ElemsR.mono {α : Type} {R R' : α → List Value → Prop} {n : Nat} {l : List α} {r : Array Value} {o : Nat} (hR : ∀ x cs, R x cs → R' x cs) (e : ElemsR R n l r o) : ElemsR R' n l r o :=
 ⟨e.1, fun i hi => hR _ _ (e.2 i hi)⟩
def PayR (h : Array Obj) (ok : Nat → Prop) (k : Kd) (x : k.T) (v : Value) : Prop :=
 Rep h ok k x v.cells.toList ∧ (k.isSt = true → (∃ cs, v = .agg cs) ∧ k.leafy = true) ∧ (k.isSt = false → v.oneCell' = true)
def RowR (h : Array Obj) (ok : Nat → Prop) (k : Kd) (l : List k.T) (v : Value) (fp : List Nat) : Prop :=
 k.good = true ∧ ∃ a c, v = .slice a l.length c ∧ l.length ≤ c ∧ ((a = none ∧ l = [] ∧ c = 0 ∧ fp = []) ∨
  ∃ b o r et, a = some ⟨b, o, none⟩ ∧ fp = [b] ∧ h[b]? = some (.cells r et (0, 0)) ∧ ElemsR (fun x cs => Rep h ok k x cs) k.n l r o ∧ o + c * k.n ≤ r.size)
def ShR (h : Array Obj) (ok : Nat → Prop) : (s : Sh) → s.T → List Value → List Nat → Prop
 | .pur kd, x, vs, fp => ∃ v, vs = [v] ∧ fp = [] ∧ PayR h ok kd x v
 | .own k, l, vs, fp => ∃ v, vs = [v] ∧ RowR h ok k l v fp
 | .row k, l, vs, fp => ∃ v, vs = [v] ∧ RowR h ok k l v fp
 | .rows s, l, vs, fp => ∃ v, vs = [v] ∧ s.elem = true ∧ ∃ a c, v = .slice a l.length c ∧ l.length ≤ c ∧ ((a = none ∧ l = [] ∧ c = 0 ∧ fp = []) ∨
   ∃ (b o : Nat) (r : Array Value) (et : TypeId) (fps : List (List Nat)), a = some ⟨b, o, none⟩ ∧ fp = b :: fps.flatten ∧ h[b]? = some (.cells r et (0, 0)) ∧ o + c * s.w ≤ r.size ∧ l.length ≤ fps.length ∧ (∀ b' ∈ fps.flatten, ∃ r et, h[b']? = some (Obj.cells r et (0, 0))) ∧
    ∀ i (hi : i < l.length) (hf : i < fps.length), ShR h ok s l[i] (sub r (o + i * s.w) s.w) fps[i])
 | .nrw s, l, vs, fp => ∃ v, vs = [v] ∧ s.elem = true ∧ ∃ a c, v = .slice a l.length c ∧ l.length ≤ c ∧ ((a = none ∧ l = [] ∧ c = 0 ∧ fp = []) ∨
   ∃ (b o : Nat) (r : Array Value) (et : TypeId) (fps : List (List Nat)), a = some ⟨b, o, none⟩ ∧ fp = b :: fps.flatten ∧ h[b]? = some (.cells r et (0, 0)) ∧ o + c * s.w ≤ r.size ∧ l.length ≤ fps.length ∧ (∀ b' ∈ fps.flatten, ∃ r et, h[b']? = some (Obj.cells r et (0, 0))) ∧
    ∀ i (hi : i < l.length) (hf : i < fps.length), ShR h ok s l[i] (sub r (o + i * s.w) s.w) fps[i])
 | .box l, x, vs, fp => ∃ b o r et fp', vs = [.pointer (some ⟨b, o, none⟩)] ∧ fp = b :: fp' ∧ h[b]? = some (.cells r et (0, 0)) ∧ o + l.len ≤ r.size ∧ ShR h ok l x (sub r o l.len) fp'
 | .agg l, x, vs, fp => ∃ cs, vs = [.agg cs.toArray] ∧ ShR h ok l x cs fp
 | .fn f n l, x, vs, fp => ∃ xs ys, vs = [.func f xs.toArray ys.toArray] ∧ xs.length = n ∧ ShR h ok l x (xs ++ ys) fp
 | .ign, _, vs, fp => ∃ v, vs = [v] ∧ fp = []
 | .nl, _, vs, fp => vs = [.slice none 0 0] ∧ fp = []
 | .nil, _, vs, fp => vs = [] ∧ fp = []
 | .cons a b, x, vs, fp => ∃ v r f1 f2, vs = v :: r ∧ fp = f1 ++ f2 ∧ ShR h ok a x.1 [v] f1 ∧ ShR h ok b x.2 r f2
theorem mem_fps {fps : List (List Nat)} {i : Nat} (hi : i < fps.length) {b : Nat} (hb : b ∈ fps[i]) : b ∈ fps.flatten := List.mem_flatten.2 ⟨_, List.getElem_mem hi, hb⟩
theorem PayR.mono {h h' : Array Obj} {ok ok' : Nat → Prop} (hm : ∀ b r, ok b → rowCells h b = some r → ok' b ∧ rowCells h' b = some r) {k : Kd} {x : k.T} {v : Value} (e : PayR h ok k x v) : PayR h' ok' k x v :=
 ⟨Rep.mono hm _ e.1, e.2⟩
theorem RowR.mono {h h' : Array Obj} {ok ok' : Nat → Prop} (hm : ∀ b r, ok b → rowCells h b = some r → ok' b ∧ rowCells h' b = some r) {k : Kd} {l : List k.T} {v : Value} {fp : List Nat} (hf : ∀ b ∈ fp, h'[b]? = h[b]?) (e : RowR h ok k l v fp) : RowR h' ok' k l v fp := by
 obtain ⟨hk, a, c, hv, hlc, e⟩ := e
 refine ⟨hk, a, c, hv, hlc, ?_⟩
 rcases e with e | ⟨b, o, r, et, ha, rfl, hb, hel, hs⟩
 ·exact .inl e
 ·exact .inr ⟨b, o, r, et, ha, rfl, by rw [hf b (by simp), hb], hel.mono fun x cs hx => Rep.mono hm _ hx, hs⟩
theorem ShR.mono {h h' : Array Obj} {ok ok' : Nat → Prop} (hm : ∀ b r, ok b → rowCells h b = some r → ok' b ∧ rowCells h' b = some r) : (s : Sh) → {x : s.T} → {vs : List Value} → {fp : List Nat} → (∀ b ∈ fp, h'[b]? = h[b]?) → ShR h ok s x vs fp → ShR h' ok' s x vs fp
 | .pur _, _, _, _, _, e => by obtain ⟨v, h1, h2, e⟩ := e; exact ⟨v, h1, h2, e.mono hm⟩
 | .own _, _, _, _, hf, e => by obtain ⟨v, h1, e⟩ := e; exact ⟨v, h1, e.mono hm hf⟩
 | .row _, _, _, _, hf, e => by obtain ⟨v, h1, e⟩ := e; exact ⟨v, h1, e.mono hm hf⟩
 | .rows s, _, _, _, hf, e | .nrw s, _, _, _, hf, e => by
  obtain ⟨v, hv, hs, a, c, ha, hl, e⟩ := e
  refine ⟨v, hv, hs, a, c, ha, hl, ?_⟩
  rcases e with e | ⟨b, o, r, et, fps, ha, rfl, hr, hc, hn, hj, he⟩
  ·exact .inl e
  ·exact .inr ⟨b, o, r, et, fps, ha, rfl, by rw [hf b (by simp), hr], hc, hn, fun b' hb' => by rw [hf b' (by simp only [List.mem_cons]; exact .inr hb')]; exact hj b' hb', fun i hi hi' => ShR.mono hm s (fun b' hb' => hf b' (by simp only [List.mem_cons]; exact .inr (mem_fps hi' hb'))) (he i hi hi')⟩
 | .box l, _, _, _, hf, e => by
  obtain ⟨b, o, r, et, fp', h1, rfl, h3, h4, e⟩ := e
  exact ⟨b, o, r, et, fp', h1, rfl, by rw [hf b (by simp), h3], h4, ShR.mono hm l (fun b' hb => hf b' (by simp [hb])) e⟩
 | .agg l, _, _, _, hf, e => by obtain ⟨cs, h1, e⟩ := e; exact ⟨cs, h1, ShR.mono hm l hf e⟩
 | .fn _ _ l, _, _, _, hf, e => by obtain ⟨xs, ys, h1, h2, e⟩ := e; exact ⟨xs, ys, h1, h2, ShR.mono hm l hf e⟩
 | .ign, _, _, _, _, e => e
 | .nl, _, _, _, _, e => e
 | .nil, _, _, _, _, e => e
 | .cons a b, _, _, _, hf, e => by
  obtain ⟨v, r, f1, f2, h1, rfl, e1, e2⟩ := e
  exact ⟨v, r, f1, f2, h1, rfl, ShR.mono hm a (fun b' hb => hf b' (by simp [hb])) e1, ShR.mono hm b (fun b' hb => hf b' (by simp [hb])) e2⟩
abbrev Gh := Nat → Nat → Nat → Option (Nat × Nat)
def nameOf (ow : OW) (d j : Nat) : Option (Option OB) := (ow[d]?).bind fun l => l[j]?
theorem getOb_eq (ow : OW) (d j : Nat) : getOb ow d j = (nameOf ow d j).bind id := by
 unfold getOb nameOf
 cases ow[d]? with
 | none => rfl
 | some l => cases h : l[j]? <;> simp [h]
theorem nameOf_of_getOb {ow : OW} {d j : Nat} {o : OB} (h : getOb ow d j = some o) : nameOf ow d j = some (some o) := by
 rw [getOb_eq] at h
 cases hn : nameOf ow d j with
 | none => simp [hn] at h
 | some x => simp [hn] at h; rw [h]
def isOwn : Option (Option OB) → Prop
 | some (some (.box _)) => True
 | some (some (.row _ _ _)) => True
 | some (some (.nrow _ _ _)) => True
 | _ => False
def Own (G : Gh) (ow : OW) (b : Nat) : Prop :=
 ∃ d j i o, isOwn (nameOf ow d j) ∧ G d j i = some (b, o)
def HandV (h : Array Obj) (G : Gh) (n : Nat) (d j off len : Nat) (val : Value) : Prop :=
 ∃ a c, val = .slice a len c ∧ len ≤ c ∧ ((G d j 0 = none ∧ a = none ∧ c = 0) ∨
  ∃ b o o' r, G d j 0 = some (b, o) ∧ a = some ⟨b, o', none⟩ ∧ rowCells h b = some r ∧ (0 < c → o' = o + off * n) ∧ o' + c * n ≤ r.size)
def HandR (h : Array Obj) (G : Gh) (ow : OW) (d j off : Nat) (len : Option Nat) (val : Value) : Prop :=
 match nameOf ow d j with
 | none => False
 | some none => val.oneCell' = true
 | some (some (.box _)) => False
 | some (some (.row k _ l)) => off + len.getD l.length ≤ l.length ∧ HandV h G k.n d j off (len.getD l.length) val
 | some (some (.frow k _ l)) => off + len.getD l.length ≤ l.length ∧ HandV h G k.n d j off (len.getD l.length) val
 | some (some (.nrow k l _)) => off + len.getD l.length ≤ l.length ∧ HandV h G k.w d j off (len.getD l.length) val
 | some (some (.lrow n)) => ∃ a c, val = .slice a (len.getD n) c
inductive SvRep (h : Array Obj) (ok : Nat → Prop) (G : Gh) (ow : OW) : SV → Value → Prop where
 | v {k : Kd} {x : k.T} {val : Value} : k.isSt = false → Rep h ok k x [val] → SvRep h ok G ow (.v k x) val
 | lb (b : Bool) : SvRep h ok G ow (.lb b) (.bool b)
 | dead (val : Value) : SvRep h ok G ow .dead val
 | nils : SvRep h ok G ow .nils (.slice none 0 0)
 | agg {l : List SV} {vs : List Value} : l.length = vs.length → (∀ i (h1 : i < l.length) (h2 : i < vs.length), SvRep h ok G ow l[i] vs[i]) → SvRep h ok G ow (.agg l) (.agg vs.toArray)
 | tup {l : List SV} {vs : List Value} : l.length = vs.length → (∀ i (h1 : i < l.length) (h2 : i < vs.length), SvRep h ok G ow l[i] vs[i]) → SvRep h ok G ow (.tup l) (.tuple vs.toArray)
 | fn {f : Fn} {a b : List SV} {xs ys : List Value} : a.length = xs.length → b.length = ys.length → (∀ i (h1 : i < a.length) (h2 : i < xs.length), SvRep h ok G ow a[i] xs[i]) →
   (∀ i (h1 : i < b.length) (h2 : i < ys.length), SvRep h ok G ow b[i] ys[i]) → SvRep h ok G ow (.fn f a b) (.func f xs.toArray ys.toArray)
 | wh {d j ver : Nat} {val : Value} : HandR h G ow d j 0 none val → SvRep h ok G ow (.wh d j ver []) val
 | os {d j ver off len : Nat} {val : Value} : HandR h G ow d j off (some len) val → SvRep h ok G ow (.os d j ver [] off len) val
 | bp {d j c : Nat} {val : Value} : (match nameOf ow d j with
   | none => False
   | some none => val.oneCell' = true
   | some (some (.box _)) => ∃ b o, G d j 0 = some (b, o) ∧ val = .pointer (some ⟨b, o + c, none⟩)
   | _ => False) → SvRep h ok G ow (.bp d j c) val
 | rp {d j ver e c : Nat} {val : Value} : (match nameOf ow d j with
   | none => False
   | some none => val.oneCell' = true
   | some (some (.row k _ l)) => e < l.length ∧ ∃ b o, G d j 0 = some (b, o) ∧ val = .pointer (some ⟨b, o + e * k.n + c, none⟩)
   | some (some (.frow k _ l)) => e < l.length ∧ ∃ b o, G d j 0 = some (b, o) ∧ val = .pointer (some ⟨b, o + e * k.n + c, none⟩)
   | some (some (.nrow k l _)) => e < l.length ∧ ∃ b o, G d j 0 = some (b, o) ∧ val = .pointer (some ⟨b, o + e * k.w + c, none⟩)
   | some (some (.lrow _)) => val.oneCell' = true
   | _ => False) → SvRep h ok G ow (.rp d j ver [] e c) val
 | ip {k : Kd} {x : k.T} {b o : Nat} {r : Array Value} : k.leafy = true → ok b → rowCells h b = some r → o + k.n ≤ r.size → Rep h ok k x (sub r o k.n) → SvRep h ok G ow (.ip k x) (.pointer (some ⟨b, o, none⟩))
def ObRep (h : Array Obj) (ok : Nat → Prop) (G : Gh) (ow : OW) (d j : Nat) : OB → Prop
 | .box cells => (∀ i, G d j (i + 1) = none) ∧ ∃ b o r et, G d j 0 = some (b, o) ∧ h[b]? = some (.cells r et (0, 0)) ∧ o + cells.length ≤ r.size ∧ ∀ i (hi : i < cells.length) (hr : o + i < r.size), SvRep h ok G ow cells[i] r[o + i]
 | .row k _ l => (∀ i, G d j (i + 1) = none) ∧ k.good = true ∧ (match G d j 0 with
   | none => l = []
   | some (b, o) => ∃ r et, h[b]? = some (.cells r et (0, 0)) ∧ ElemsR (fun x cs => Rep h ok k x cs) k.n l r o)
 | .frow k _ l => k.good = true ∧ (match G d j 0 with
   | none => l = []
   | some (b, o) => l = [] ∨ (ok b ∧ ∃ r, rowCells h b = some r ∧ ElemsR (fun x cs => Rep h ok k x cs) k.n l r o))
 | .nrow s l foc => s.elem = true ∧ ∃ fps : List (List Nat), (∀ i, G d j (i + 1) = (fps.flatten[i]?).map fun b => (b, 0)) ∧ (match G d j 0 with
   | none => l = [] ∧ foc = none ∧ fps = []
   | some (b, o) => ∃ r et, h[b]? = some (.cells r et (0, 0)) ∧ o + l.length * s.w ≤ r.size ∧ l.length ≤ fps.length ∧ (∀ b' ∈ fps.flatten, ∃ r et, h[b']? = some (Obj.cells r et (0, 0))) ∧
    (∀ i (hi : i < l.length) (hf : i < fps.length), (∀ cells, foc ≠ some (i, cells)) → ShR h ok s l[i] (sub r (o + i * s.w) s.w) fps[i]) ∧
    ∀ e cells, foc = some (e, cells) → e < l.length ∧ cells.length = s.w ∧ ∀ c (hc : c < cells.length) (hr : o + e * s.w + c < r.size), SvRep h ok G ow cells[c] r[o + e * s.w + c])
 | .lrow _ => True
def okF (F : Nat → Prop) (G : Gh) (ow : OW) (b : Nat) : Prop := ¬ F b ∧ ¬ Own G ow b
structure HRep (F : Nat → Prop) (G : Gh) (ow : OW) (h : Array Obj) : Prop where
 obs : ∀ d j o, nameOf ow d j = some (some o) → ObRep h (okF F G ow) G ow d j o
 apart : ∀ d j i d' j' i' b o o', isOwn (nameOf ow d j) → isOwn (nameOf ow d' j') → G d j i = some (b, o) → G d' j' i' = some (b, o') → d = d' ∧ j = j' ∧ i = i'
 notF : ∀ b, Own G ow b → ¬ F b
def Sv (F : Nat → Prop) (G : Gh) (ow : OW) (h : Array Obj) (s : SV) (v : Value) : Prop := SvRep h (okF F G ow) G ow s v
def Svs (F : Nat → Prop) (G : Gh) (ow : OW) (h : Array Obj) (l : List SV) (vs : List Value) : Prop :=
 l.length = vs.length ∧ ∀ i (h1 : i < l.length) (h2 : i < vs.length), Sv F G ow h l[i] vs[i]
structure Kept (I : Nat → Prop) (w0 w : World) : Prop where
 size : w0.heap.size ≤ w.heap.size
 heap : ∀ b, b < w0.heap.size → ¬ I b → w.heap[b]? = w0.heap[b]?
 cells : ∀ (b : Nat) (r : Array Value) (et : TypeId) (f : Nat × Nat), w0.heap[b]? = some (Obj.cells r et f) → ∃ r' : Array Value, w.heap[b]? = some (Obj.cells r' et f) ∧ r'.size = r.size
 os : w.os = w0.os
 output : w.output = w0.output
 tape : w.tape = w0.tape
structure Inv (F I : Nat → Prop) (w0 : World) (st : St) (a : Act) (w : World) : Prop where
 ex : ∃ G, Svs F G st.ow w.heap st.sl a.tmps.toList ∧ HRep F G st.ow w.heap ∧ ∀ b, Own G st.ow b → I b ∨ w0.heap.size ≤ b
 kept : Kept I w0 w
 defers : a.defers = []
 wide : ∀ b, F b → b < w0.heap.size
 lens : st.ow.length = st.sl.length
end Go.Pev
end

section
/-
 PEV, part 4: operations that only read: what the evaluator says of them, the machine does.
-/
namespace Go.Pev
def Cmd.can {β : Type} : Cmd β → (β → Prop) → Prop
 | .ret b, Q => Q b
 | .fail, _ => False
 | .chk c t, Q => c = true ∧ t.can Q
 | .bnd _ m f, Q => ∃ y, m = some y ∧ (f y).can Q
 | .amb c f g, Q => if c = true then f.can Q ∧ g.can Q else g.can Q
 | .ite c f g, Q => if c = true then f.can Q else g.can Q
theorem agree_some {α : Type} {x y : Option α} {r : α} (h : agree x y = some r) : x = some r ∧ y = some r := by
 unfold agree at h
 split at h
 ·rename_i e; exact ⟨h, e ▸ h⟩
 ·cases h
theorem Cmd.can_of_run {α β : Type} {n : Nat} {k : β → Option α} {r : α} : (c : Cmd β) → c.run n k = some r → c.can fun b => k b = some r
 | .ret _, h => h
 | .fail, h => by cases h
 | .chk c t, h => by
  rw [Cmd.run, br_eq] at h
  cases c with
  | false => cases h
  | true => exact ⟨rfl, Cmd.can_of_run t h⟩
 | .bnd _ m f, h => by
  rw [Cmd.run, bd_eq] at h
  cases m with
  | none => cases h
  | some y => exact ⟨y, rfl, Cmd.can_of_run (f y) h⟩
 | .amb c f g, h => by
  rw [Cmd.run, br_eq] at h
  cases c with
  | false => exact Cmd.can_of_run g h
  | true =>
   obtain ⟨h1, h2⟩ := agree_some (x := f.run n k) (y := g.run n k) h
   exact ⟨Cmd.can_of_run f h1, Cmd.can_of_run g h2⟩
 | .ite c f g, h => by
  rw [Cmd.run, br_eq] at h
  cases c with
  | false => exact Cmd.can_of_run g h
  | true => exact Cmd.can_of_run f h
theorem Cmd.can_bind {β γ : Type} {Q : γ → Prop} {f : β → Cmd γ} : (c : Cmd β) → (c.bind f).can Q → c.can fun b => (f b).can Q
 | .ret _, h => h
 | .fail, h => h
 | .chk _ t, h => ⟨h.1, Cmd.can_bind t h.2⟩
 | .bnd _ _ g, h => by obtain ⟨y, hy, h⟩ := h; exact ⟨y, hy, Cmd.can_bind (g y) h⟩
 | .amb c f g, h => by
  cases c with
  | false => exact Cmd.can_bind g h
  | true => exact ⟨Cmd.can_bind f h.1, Cmd.can_bind g h.2⟩
 | .ite c f g, h => by
  cases c with
  | false => exact Cmd.can_bind g h
  | true => exact Cmd.can_bind f h
theorem Cmd.can_ofOpt {β : Type} {Q : β → Prop} {o : Option β} (h : (Cmd.ofOpt o).can Q) : ∃ b, o = some b ∧ Q b := by
 cases o with
 | none => exact h.elim
 | some b => exact ⟨b, rfl, h⟩
theorem sub_length {r : Array Value} {o n : Nat} (h : o + n ≤ r.size) : (sub r o n).length = n := by simp [sub]; omega
theorem sub_getElem {r : Array Value} {o n i : Nat} (h : i < n) : (sub r o n)[i]? = r[o + i]? := by
 simp [sub, h]
theorem sub_sub {r : Array Value} {o n p m : Nat} (h : p + m ≤ n) : sub r (o + p) m = ((sub r o n).drop p).take m := by
 simp only [sub, List.drop_take, List.drop_drop, List.take_take]
 congr 1
 omega
theorem rowCells_cell {w : World} {b : Nat} {r : Array Value} (h : rowCells w.heap b = some r) (i : Nat) : w.cell? ⟨b, i, none⟩ = r[i]? := by
 unfold rowCells at h
 unfold World.cell?
 split at h
 ·rename_i c _ _ e; cases h; simp [e]
 ·cases h
theorem rowCells_of {h : Array Obj} {b : Nat} {r : Array Value} {e : TypeId} {f : Nat × Nat} (hb : h[b]? = some (.cells r e f)) : rowCells h b = some r := by simp [rowCells, hb]
theorem rangeAt_sub {w : World} {b o n : Nat} {r : Array Value} (h : rowCells w.heap b = some r) : w.rangeAt b o (sub r o n) := by
 intro j v hv
 rw [rowCells_cell h]
 have hj : j < n := by
  rcases Nat.lt_or_ge j n with h' | h'
  ·exact h'
  ·rw [List.getElem?_eq_none (by simp [sub]; omega)] at hv; cases hv
 rw [sub_getElem hj] at hv
 exact hv
def valOf (agg : Bool) (cs : List Value) : Value := if agg then .agg cs.toArray else cs.headD undef
theorem isAggT_run {P : Program} {t : TypeId} {d : TypeDesc} (hu : P.underlying t = some d) (w : World) : (isAgg t).run P w = .ok (isAggT P t) w := by
 unfold isAgg isAggT undl
 rw [Sem.run_bind, run_underlying hu w]
 cases d <;> simp [hu]
theorem sizeT_run {P : Program} {t : TypeId} {i : TypeInfo} (hi : P.info? t = some i) (w : World) : (sizeOf t).run P w = .ok (sizeT P t) w := by
 simp [sizeOf, typeInfo, hi, sizeT, Program.cellsOf]
theorem info_of_underlying {P : Program} {t : TypeId} {d : TypeDesc} (hu : P.underlying t = some d) : ∃ i, P.info? t = some i := by
 unfold Program.underlying at hu
 cases h : P.info? t with
 | none => simp [h] at hu
 | some i => exact ⟨i, rfl⟩
theorem run_load_cells {P : Program} {w : World} {t : TypeId} {d : TypeDesc} {b o n : Nat} {r : Array Value} (hu : P.underlying t = some d) (hr : rowCells w.heap b = some r)
  (hn : n = if isAggT P t then sizeT P t else 1) (hs : o + n ≤ r.size) : (Instr.loadAt t (.pointer (some ⟨b, o, none⟩))).run P w = .ok (valOf (isAggT P t) (sub r o n)) w := by
 obtain ⟨i, hi⟩ := info_of_underlying hu
 cases ha : isAggT P t with
 | true =>
  simp only [ha, if_true] at hn
  rw [run_loadAt_mid w b o t (sub r o n) d (rangeAt_sub hr) hu (by unfold isAggT undl at ha; rw [hu] at ha; cases d <;> simp_all [TypeDesc.isRow]) (by rw [sub_length hs, hi, hn]; simp [sizeT, Program.cellsOf, hi])]
  simp [valOf]
 | false =>
  simp only [ha, Bool.false_eq_true, if_false] at hn
  subst hn
  have hc : w.cell? ⟨b, o, none⟩ = some (r[o]'(by omega)) := by rw [rowCells_cell hr]; simp
  have hv : sub r o 1 = [r[o]'(by omega)] := by
   apply List.ext_getElem?
   intro j
   cases j with
   | zero => rw [sub_getElem (by omega)]; simp
   | succ j => simp [sub]; omega
  simp [Instr.loadAt, Instr.sureAddr, loadVar, isAggT_run hu, ha, valOf, run_load, hc, hv, Result.andThen]
section
variable {F : Nat → Prop} {G : Gh} {ow : OW} {w : World} {P : Program}
theorem Svs.nil : Svs F G ow w.heap [] [] := ⟨rfl, fun i h => by simp at h⟩
theorem Svs.cons {s : SV} {l : List SV} {v : Value} {vs : List Value} (h : Sv F G ow w.heap s v) (hs : Svs F G ow w.heap l vs) : Svs F G ow w.heap (s :: l) (v :: vs) :=
 ⟨by simp [hs.1], fun i h1 h2 => by
  cases i with
  | zero => exact h
  | succ i => exact hs.2 i (by simpa using h1) (by simpa using h2)⟩
theorem Svs.uncons {s : SV} {l : List SV} {vs : List Value} (hs : Svs F G ow w.heap (s :: l) vs) : ∃ v vs', vs = v :: vs' ∧ Sv F G ow w.heap s v ∧ Svs F G ow w.heap l vs' := by
 obtain ⟨hl, h⟩ := hs
 cases vs with
 | nil => simp at hl
 | cons v vs' => exact ⟨v, vs', rfl, h 0 (by simp) (by simp), by simpa using hl, fun i h1 h2 => h (i + 1) (by simpa using h1) (by simpa using h2)⟩
theorem Svs.drop {l : List SV} {vs : List Value} (hs : Svs F G ow w.heap l vs) (n : Nat) : Svs F G ow w.heap (l.drop n) (vs.drop n) :=
 ⟨by simp [hs.1], fun i h1 h2 => by simp only [List.getElem_drop]; exact hs.2 _ _ _⟩
theorem Svs.take {l : List SV} {vs : List Value} (hs : Svs F G ow w.heap l vs) (n : Nat) : Svs F G ow w.heap (l.take n) (vs.take n) :=
 ⟨by simp [hs.1], fun i h1 h2 => by simp only [List.getElem_take]; exact hs.2 _ _ _⟩
theorem Svs.append {l l' : List SV} {vs vs' : List Value} (hs : Svs F G ow w.heap l vs) (hs' : Svs F G ow w.heap l' vs') : Svs F G ow w.heap (l ++ l') (vs ++ vs') := by
 refine ⟨by simp [hs.1, hs'.1], fun i h1 h2 => ?_⟩
 rcases Nat.lt_or_ge i l.length with h | h
 ·rw [List.getElem_append_left h, List.getElem_append_left (hs.1 ▸ h)]
  exact hs.2 _ _ _
 ·rw [List.getElem_append_right h, List.getElem_append_right (hs.1 ▸ h)]
  simp only [hs.1]
  exact hs'.2 _ _ _
theorem Svs.agg {l : List SV} {vs : List Value} (hs : Svs F G ow w.heap l vs) : Sv F G ow w.heap (.agg l) (.agg vs.toArray) := .agg hs.1 hs.2
theorem Sv.agg_inv {l : List SV} {v : Value} (h : Sv F G ow w.heap (.agg l) v) : ∃ vs, v = .agg vs.toArray ∧ Svs F G ow w.heap l vs := by
 cases h with
 | agg h1 h2 => exact ⟨_, rfl, h1, h2⟩
theorem Sv.tup_inv {l : List SV} {v : Value} (h : Sv F G ow w.heap (.tup l) v) : ∃ vs, v = .tuple vs.toArray ∧ Svs F G ow w.heap l vs := by
 cases h with
 | tup h1 h2 => exact ⟨_, rfl, h1, h2⟩
theorem svs_cellsS : (k : Kd) → {x : k.T} → {cs : List Value} → (k.leafy = true) → Rep w.heap (okF F G ow) k x cs → Svs F G ow w.heap (cellsS k x) cs
 | .nil, _, _, _, e => by cases e; exact .nil
 | .cons a b, x, cs, hk, e => by
  obtain ⟨c1, c2, rfl, e1, e2⟩ := e
  simp only [Kd.leafy, Bool.and_eq_true, Bool.not_eq_true'] at hk
  have hl := Rep.length a e1
  have h1 : a.n = 1 := by cases a <;> simp_all [Kd.n, Kd.isSt]
  obtain ⟨v, rfl⟩ : ∃ v, c1 = [v] := by
   match c1, hl with
   | [v], _ => exact ⟨v, rfl⟩
   | [], hl => simp [h1] at hl
   | _ :: _ :: _, hl => simp [h1] at hl
  exact .cons (.v hk.1 e1) (svs_cellsS b hk.2 e2)
 | .int _, _, _, hk, _ => by cases hk
 | .bool, _, _, hk, _ => by cases hk
 | .str, _, _, hk, _ => by cases hk
 | .err, _, _, hk, _ => by cases hk
 | .any, _, _, hk, _ => by cases hk
 | .sl _ _, _, _, hk, _ => by cases hk
 | .tree _, _, _, hk, _ => by cases hk
theorem ch_rep {h : Array Obj} {ok : Nat → Prop} : (k : Kd) → {x : k.T} → {cs : List Value} → Rep h ok k x cs → Rep h ok k.ch (chT k x) cs
 | .int _, _, cs, e => ⟨cs, [], by simp, e, rfl⟩
 | .bool, _, cs, e => ⟨cs, [], by simp, e, rfl⟩
 | .str, _, cs, e => ⟨cs, [], by simp, e, rfl⟩
 | .err, _, cs, e => ⟨cs, [], by simp, e, rfl⟩
 | .any, _, cs, e => ⟨cs, [], by simp, e, rfl⟩
 | .sl _ _, _, cs, e => ⟨cs, [], by simp, e, rfl⟩
 | .nil, _, _, e => e
 | .cons _ _, _, _, e => e
 | .tree _, _, cs, e => ⟨cs, [], by simp, e, rfl⟩
theorem ch_n (k : Kd) : k.ch.n = k.n := by cases k <;> simp [Kd.ch, Kd.isSt, Kd.n]
theorem dropK_rep {h : Array Obj} {ok : Nat → Prop} : (k : Kd) → k.leafy = true → {x : k.T} → {cs : List Value} → (c : Nat) → {y : Sigma Kd.T} → dropK k x c = some y → Rep h ok k x cs →
  c + y.1.n = k.n ∧ y.1.leafy = true ∧ Rep h ok y.1 y.2 (cs.drop c)
 | k, hk, x, cs, 0, y, hy, e => by
  have : y = ⟨k, x⟩ := by unfold dropK at hy; cases k <;> simp_all
  subst this
  exact ⟨by simp, hk, by simpa using e⟩
 | .cons a b, hk, x, cs, c + 1, y, hy, e => by
  obtain ⟨c1, c2, rfl, e1, e2⟩ := e
  simp only [Kd.leafy, Bool.and_eq_true, Bool.not_eq_true'] at hk
  have hl := Rep.length a e1
  have h1 : a.n = 1 := by cases a <;> simp_all [Kd.n, Kd.isSt]
  obtain ⟨v, rfl⟩ : ∃ v, c1 = [v] := by
   match c1, hl with
   | [v], _ => exact ⟨v, rfl⟩
   | [], hl => simp [h1] at hl
   | _ :: _ :: _, hl => simp [h1] at hl
  obtain ⟨r1, r2, r3⟩ := dropK_rep b hk.2 c (by simpa [dropK] using hy) e2
  exact ⟨by simp only [Kd.n, h1]; omega, r2, by simpa using r3⟩
 | .nil, _, _, _, _ + 1, _, hy, _ => by simp [dropK] at hy
 | .int _, hk, _, _, _ + 1, _, _, _ => by cases hk
 | .bool, hk, _, _, _ + 1, _, _, _ => by cases hk
 | .str, hk, _, _, _ + 1, _, _, _ => by cases hk
 | .err, hk, _, _, _ + 1, _, _, _ => by cases hk
 | .any, hk, _, _, _ + 1, _, _, _ => by cases hk
 | .sl _ _, hk, _, _, _ + 1, _, _, _ => by cases hk
 | .tree _, hk, _, _, _ + 1, _, _, _ => by cases hk
theorem cellsS_length : (k : Kd) → k.leafy = true → (x : k.T) → (cellsS k x).length = k.n
 | .nil, _, _ => rfl
 | .cons a b, hk, x => by
  simp only [Kd.leafy, Bool.and_eq_true, Bool.not_eq_true'] at hk
  have h1 : a.n = 1 := by cases a <;> simp_all [Kd.n, Kd.isSt]
  simp [cellsS, Kd.n, h1, cellsS_length b hk.2]; omega
 | .int _, hk, _ => by cases hk
 | .bool, hk, _ => by cases hk
 | .str, hk, _ => by cases hk
 | .err, hk, _ => by cases hk
 | .any, hk, _ => by cases hk
 | .sl _ _, hk, _ => by cases hk
 | .tree _, hk, _ => by cases hk
theorem sv_valOfCells {t : TypeId} {l : List SV} {vs : List Value} {s : SV} (hl : Svs F G ow w.heap l vs) (h : valOfCells P t l = some s) :
  (∃ d, P.underlying t = some d) ∧ (0 < if isAggT P t then sizeT P t else 1) ∧ (if isAggT P t then sizeT P t else 1) ≤ l.length ∧ Sv F G ow w.heap s (valOf (isAggT P t) (vs.take (if isAggT P t then sizeT P t else 1))) := by
 unfold valOfCells at h
 split at h
 ·cases h
 rename_i d hu
 refine ⟨⟨d, hu⟩, ?_⟩
 cases ha : isAggT P t with
 | true =>
  simp only [ha, if_true] at h ⊢
  split at h
  ·rename_i hle
   cases h
   refine ⟨hle.1, hle.2, ?_⟩
   simp only [valOf, if_true]
   exact (hl.take _).agg
  ·cases h
 | false =>
  simp only [ha, Bool.false_eq_true, if_false] at h ⊢
  cases l with
  | nil => cases h
  | cons a r =>
   cases h
   obtain ⟨v, vs', rfl, hv, _⟩ := hl.uncons
   exact ⟨by simp, by simp, by simpa [valOf] using hv⟩
theorem rp_inv (hh : HRep F G ow w.heap) {d j e c : Nat} {path : List (Nat × Nat)} {r : Sigma fun k : Kd => List k.T} (hr : rowAt ow d j path = some r) (hlt : e < r.2.length) {pv : Value}
  (hp : match nameOf ow d j with
   | none => False
   | some none => pv.oneCell' = true
   | some (some (.row k _ l)) => e < l.length ∧ ∃ b o, G d j 0 = some (b, o) ∧ pv = .pointer (some ⟨b, o + e * k.n + c, none⟩)
   | some (some (.frow k _ l)) => e < l.length ∧ ∃ b o, G d j 0 = some (b, o) ∧ pv = .pointer (some ⟨b, o + e * k.n + c, none⟩)
   | some (some (.nrow k l _)) => e < l.length ∧ ∃ b o, G d j 0 = some (b, o) ∧ pv = .pointer (some ⟨b, o + e * k.w + c, none⟩)
   | some (some (.lrow _)) => pv.oneCell' = true
   | _ => False) :
  ∃ b o rw_, G d j 0 = some (b, o) ∧ pv = .pointer (some ⟨b, o + e * r.1.n + c, none⟩) ∧ rowCells w.heap b = some rw_ ∧ r.1.good = true ∧ ElemsR (fun x cs => Rep w.heap (okF F G ow) r.1 x cs) r.1.n r.2 rw_ o := by
 unfold rowAt at hr
 split at hr
 ·rename_i k ver l hg
  cases hr
  have hn := nameOf_of_getOb hg
  simp only [hn] at hp
  obtain ⟨_, b, o, hG, rfl⟩ := hp
  obtain ⟨_, hgood, ho⟩ := hh.obs d j _ hn
  simp only [hG] at ho
  obtain ⟨rw_, et, hb, hel⟩ := ho
  exact ⟨b, o, rw_, hG, rfl, rowCells_of hb, hgood, hel⟩
 ·rename_i k ver l hg
  cases hr
  have hn := nameOf_of_getOb hg
  simp only [hn] at hp
  obtain ⟨_, b, o, hG, rfl⟩ := hp
  obtain ⟨hgood, ho⟩ := hh.obs d j _ hn
  simp only [hG] at ho
  rcases ho with rfl | ⟨_, rw_, hb, hel⟩
  ·simp at hlt
  ·exact ⟨b, o, rw_, hG, rfl, hb, hgood, hel⟩
 ·cases hr
theorem svs_cellsP : (s : Sh) → s.elem = true → {x : s.T} → {vs : List Value} → {fp : List Nat} → ShR w.heap (okF F G ow) s x vs fp → Svs F G ow w.heap (cellsP s x) vs
 | .pur kd, hs, x, vs, fp, e => by
  obtain ⟨v, rfl, _, hr, _, hc⟩ := e
  have hk : kd.isSt = false := by simpa using (Bool.and_eq_true _ _ ▸ hs : kd.noOwn = true ∧ (!kd.isSt) = true).2
  have : v.cells = #[v] := by have := hc hk; cases v <;> simp_all [Value.cells, Value.oneCell']
  rw [this] at hr
  exact .cons (.v hk hr) .nil
 | .own _, _, _, _, _, e => by obtain ⟨v, rfl, _⟩ := e; exact .cons (.dead v) .nil
 | .rows _, _, _, _, _, e => by obtain ⟨v, rfl, _⟩ := e; exact .cons (.dead v) .nil
 | .nil, _, _, _, _, e => by rw [e.1]; exact .nil
 | .cons a b, hs, _, _, _, e => by
  simp only [Sh.elem, Bool.and_eq_true] at hs
  obtain ⟨v, r, f1, f2, rfl, rfl, e1, e2⟩ := e
  exact (svs_cellsP a hs.1.2 e1).append (svs_cellsP b hs.2 e2)
 | .row _, hs, _, _, _, _ => by simp [Sh.elem] at hs
 | .nrw _, hs, _, _, _, _ => by simp [Sh.elem] at hs
 | .box _, hs, _, _, _, _ => by simp [Sh.elem] at hs
 | .agg _, hs, _, _, _, _ => by simp [Sh.elem] at hs
 | .fn _ _ _, hs, _, _, _, _ => by simp [Sh.elem] at hs
 | .ign, hs, _, _, _, _ => by simp [Sh.elem] at hs
 | .nl, hs, _, _, _, _ => by simp [Sh.elem] at hs
theorem nrowAt_some {d j : Nat} {path : List (Nat × Nat)} {r : Sigma fun s : Sh => List s.T} (h : nrowAt ow d j path = some r) : path = [] ∧ nameOf ow d j = some (some (.nrow r.1 r.2 none)) := by
 unfold nrowAt at h
 split at h
 ·rename_i s l e; cases h; exact ⟨rfl, nameOf_of_getOb e⟩
 ·cases h
theorem evLoad_sound {t : TypeId} (hh : HRep F G ow w.heap) {p : SV} {pv : Value} (hp : Sv F G ow w.heap p pv) {Q : SV → Prop} (h : (evLoad P t p ow).can Q) :
  ∃ s v, Q s ∧ (Instr.loadAt t pv).run P w = .ok v w ∧ Sv F G ow w.heap s v := by
 unfold evLoad at h
 split at h
 ·rename_i d j c
  split at h
  ·rename_i cells hg
   obtain ⟨s, hs, hq⟩ := Cmd.can_ofOpt h
   have hn := nameOf_of_getOb hg
   obtain ⟨_, b, o, r, et, hG, hb, hsz, hc⟩ := hh.obs d j _ hn
   cases hp with
   | bp hp =>
   simp only [hn] at hp
   obtain ⟨b', o', hG', rfl⟩ := hp
   rw [hG] at hG'; cases hG'
   have hall : Svs F G ow w.heap cells (sub r o cells.length) := ⟨by rw [sub_length hsz], fun i h1 h2 => by
    have := hc i h1 (by omega)
    have e : (sub r o cells.length)[i] = r[o + i] := by
     have := sub_getElem (r := r) (o := o) h1
     rw [List.getElem?_eq_getElem h2, Array.getElem?_eq_getElem (by omega)] at this
     exact Option.some.inj this
    rw [e]; exact this⟩
   obtain ⟨⟨d', hu⟩, hpos, hle, hsv⟩ := sv_valOfCells (hall.drop c) hs
   simp only [List.length_drop] at hle
   refine ⟨s, _, hq, run_load_cells hu (rowCells_of hb) rfl (by omega), ?_⟩
   rw [sub_sub (n := cells.length) (by omega)]
   exact hsv
  ·exact h.elim
 ·rename_i d j ver path e c
  split at h
  ·rename_i r hr
   obtain ⟨x, hx, h⟩ := h
   dsimp only at h
   split at h
   ·rename_i y hy
    obtain ⟨s, hs, hq⟩ := Cmd.can_ofOpt h
    cases hp with
    | rp hp =>
    obtain ⟨hlt, rfl⟩ := List.getElem?_eq_some_iff.1 hx
    obtain ⟨b, o, rw_, hG, rfl, hrow, hgood, hel⟩ := rp_inv hh hr hlt hp
    have hk := (Bool.and_eq_true _ _ ▸ hgood : r.1.noOwn = true ∧ r.1.ch.leafy = true).2
    have h1 := ch_rep r.1 (hel.2 e hlt)
    obtain ⟨e1, e2, e3⟩ := dropK_rep r.1.ch hk c hy h1
    rw [ch_n] at e1
    obtain ⟨⟨d', hu⟩, hpos, hle, hsv⟩ := sv_valOfCells (svs_cellsS y.1 e2 e3) hs
    rw [cellsS_length y.1 e2] at hle
    have hb : (e + 1) * r.1.n ≤ r.2.length * r.1.n := Nat.mul_le_mul_right _ hlt
    have hsz := hel.1
    rw [Nat.add_mul, Nat.one_mul] at hb
    refine ⟨s, _, hq, run_load_cells hu hrow rfl (by omega), ?_⟩
    rw [sub_sub (n := r.1.n) (by omega)]
    exact hsv
   ·exact h.elim
  ·split at h
   ·rename_i r hr
    obtain ⟨rfl, hn⟩ := nrowAt_some hr
    obtain ⟨x, hx, h⟩ := h
    obtain ⟨s, hs, hq⟩ := Cmd.can_ofOpt h
    cases hp with
    | rp hp =>
    obtain ⟨hlt, rfl⟩ := List.getElem?_eq_some_iff.1 hx
    simp only [hn] at hp
    obtain ⟨_, b, o, hG, rfl⟩ := hp
    obtain ⟨hel, fps, _, hob⟩ := hh.obs d j _ hn
    simp only [hG] at hob
    obtain ⟨rw_, et, hb, hsz, hlf, _, hele, _⟩ := hob
    have hS := svs_cellsP r.1 hel (hele e hlt (by omega) (fun cells hc => by cases hc))
    have hb2 : (e + 1) * r.1.w ≤ r.2.length * r.1.w := Nat.mul_le_mul_right _ hlt
    rw [Nat.add_mul, Nat.one_mul] at hb2
    have hlc : (cellsP r.1 r.2[e]).length = r.1.w := by rw [hS.1, sub_length (by omega)]
    obtain ⟨⟨d', hu⟩, hpos, hle, hsv⟩ := sv_valOfCells (hS.drop c) hs
    simp only [List.length_drop] at hle
    refine ⟨s, _, hq, run_load_cells hu (rowCells_of hb) rfl (by omega), ?_⟩
    rw [sub_sub (n := r.1.w) (by omega)]
    exact hsv
   ·exact h.elim
 ·rename_i k x
  obtain ⟨s, hs, hq⟩ := Cmd.can_ofOpt h
  cases hp with
  | @ip _ _ b o r hk hok hr hsz he =>
  obtain ⟨⟨d', hu⟩, _, hle, hsv⟩ := sv_valOfCells (svs_cellsS k hk he) hs
  rw [cellsS_length k hk] at hle
  refine ⟨s, _, hq, run_load_cells hu hr rfl (by omega), ?_⟩
  have := sub_sub (r := r) (o := o) (n := k.n) (p := 0) (m := if isAggT P t then sizeT P t else 1) (by omega)
  simp only [Nat.add_zero, List.drop_zero] at this
  rw [this]
  exact hsv
 ·exact h.elim
end
end Go.Pev
end

section
/-
 PEV, part 5: addresses, slices, lengths, strings.
-/
namespace Go.Pev
section
variable {F : Nat → Prop} {G : Gh} {ow : OW} {w : World} {P : Program}
theorem fieldT_some {t : TypeId} {j : Nat} {fd : Field} (h : fieldT P t j = some fd) : ∃ fs, P.underlying t = some (.struct fs) ∧ fs[j]? = some fd := by
 unfold fieldT undl at h
 split at h
 ·rename_i fs e; exact ⟨fs, e, h⟩
 ·cases h
theorem run_fieldAt {t : TypeId} {j : Nat} {fd : Field} (h : fieldT P t j = some fd) (hz : ¬ sizeT P fd.type = 0) (b o : Nat) :
  (Instr.fieldAt t (.pointer (some ⟨b, o, none⟩)) j).run P w = .ok (.pointer (some ⟨b, o + fd.offset, none⟩)) w := by
 obtain ⟨fs, hu, hf⟩ := fieldT_some h
 obtain ⟨i, hi⟩ : ∃ i, P.info? fd.type = some i := by
  cases hq : P.info? fd.type with
  | none => simp [sizeT, Program.cellsOf, hq] at hz
  | some i => exact ⟨i, rfl⟩
 have hs : ¬ i.size = 0 := by simpa [sizeT, Program.cellsOf, hi] using hz
 simp [Instr.fieldAt, run_underlying hu, hf, Instr.sureAddr, fieldPlace, sizeOf, typeInfo, hi, hs, Addr.add_mid]
theorem isBox_some {d j : Nat} (h : isBox ow d j = true) : ∃ cells, nameOf ow d j = some (some (.box cells)) := by
 unfold isBox at h
 split at h
 ·rename_i cells e; exact ⟨cells, nameOf_of_getOb e⟩
 ·cases h
theorem rowAt_some {d j : Nat} {path : List (Nat × Nat)} {r : Sigma fun k : Kd => List k.T} (h : rowAt ow d j path = some r) :
  path = [] ∧ ∃ ver, nameOf ow d j = some (some (.row r.1 ver r.2)) ∨ nameOf ow d j = some (some (.frow r.1 ver r.2)) := by
 unfold rowAt at h
 split at h
 ·rename_i k ver l e; cases h; exact ⟨rfl, ver, .inl (nameOf_of_getOb e)⟩
 ·rename_i k ver l e; cases h; exact ⟨rfl, ver, .inr (nameOf_of_getOb e)⟩
 ·cases h
theorem rowW_some {d j : Nat} {path : List (Nat × Nat)} {r : Nat × Nat} (h : rowW ow d j path = some r) :
  path = [] ∧ ((∃ k v l, nameOf ow d j = some (some (.row k v l)) ∧ r = (k.n, l.length)) ∨ (∃ k v l, nameOf ow d j = some (some (.frow k v l)) ∧ r = (k.n, l.length)) ∨ ∃ k l f, nameOf ow d j = some (some (.nrow k l f)) ∧ r = (k.w, l.length)) := by
 unfold rowW at h
 split at h
 ·rename_i k ver l e; cases h; exact ⟨rfl, .inl ⟨k, ver, l, nameOf_of_getOb e, rfl⟩⟩
 ·rename_i k ver l e; cases h; exact ⟨rfl, .inr (.inl ⟨k, ver, l, nameOf_of_getOb e, rfl⟩)⟩
 ·rename_i k l f e; cases h; exact ⟨rfl, .inr (.inr ⟨k, l, f, nameOf_of_getOb e, rfl⟩)⟩
 ·cases h
theorem evFieldAddr_sound {t : TypeId} {p : SV} {pv : Value} {f : Nat} (hp : Sv F G ow w.heap p pv) {Q : SV → Prop} (h : (evFieldAddr P t p f ow).can Q) :
  ∃ s v, Q s ∧ (Instr.fieldAt t pv f).run P w = .ok v w ∧ Sv F G ow w.heap s v := by
 unfold evFieldAddr at h
 split at h
 ·exact h.elim
 rename_i fd hf
 split at h
 ·exact h.elim
 rename_i hz
 split at h
 ·rename_i d j c
  split at h
  ·rename_i hb
   obtain ⟨cells, hn⟩ := isBox_some hb
   cases hp with
   | bp hp =>
   simp only [hn] at hp
   obtain ⟨b, o, hG, rfl⟩ := hp
   exact ⟨_, _, h, run_fieldAt hf hz _ _, .bp (by simp only [hn]; exact ⟨b, o, hG, by rw [Nat.add_assoc]⟩)⟩
  ·exact h.elim
 ·rename_i d j ver path e c
  split at h
  ·rename_i r hr
   obtain ⟨rfl, hn⟩ := rowW_some hr
   cases hp with
   | rp hp =>
   rcases hn with ⟨k, v', l, hn, rfl⟩ | ⟨k, v', l, hn, rfl⟩ | ⟨k, l, v', hn, rfl⟩ <;>
   ·simp only [hn] at hp
    obtain ⟨he, b, o, hG, rfl⟩ := hp
    exact ⟨_, _, h, run_fieldAt hf hz _ _, .rp (by simp only [hn]; exact ⟨he, b, o, hG, by rw [Nat.add_assoc]⟩)⟩
  ·exact h.elim
 ·rename_i k x
  split at h
  ·rename_i y hy
   cases hp with
   | @ip _ _ b o r hk hok hr hsz he =>
   obtain ⟨e1, e2, e3⟩ := dropK_rep k hk fd.offset hy he
   refine ⟨_, _, h, run_fieldAt hf hz _ _, .ip e2 hok hr (by omega) ?_⟩
   have := sub_sub (r := r) (o := o) (n := k.n) (p := fd.offset) (m := y.1.n) (by omega)
   rw [this, List.take_of_length_le (by simp [sub_length hsz]; omega)]
   exact e3
  ·exact h.elim
 ·exact h.elim
theorem sliceOf_some {t : TypeId} {n : Nat} (h : sliceOf P t n = true) : ∃ e i, P.underlying t = some (.slice e) ∧ P.info? e = some i ∧ i.size = n := by
 unfold sliceOf undl at h
 split at h
 ·rename_i e he
  split at h
  ·rename_i i hi; exact ⟨e, i, he, hi, by simpa using h⟩
  ·cases h
 ·cases h
theorem run_indexAt {t : TypeId} {n : Nat} (ht : sliceOf P t n = true) (b o len c : Nat) (k : IntKind) (i : Int) (h0 : 0 ≤ i) (h1 : i < len) :
  (Instr.indexAt t (.slice (some ⟨b, o, none⟩) len c) (.int k i)).run P w = .ok (.pointer (some ⟨b, o + i.toNat * n, none⟩)) w := by
 obtain ⟨e, ti, hu, hi, rfl⟩ := sliceOf_some ht
 simp [Instr.indexAt, asIntOf, run_underlying hu, h0, h1, sizeOf, typeInfo, hi, Addr.add_mid]
theorem evIndexAddr_sound {t : TypeId} {x i : SV} {xv iv : Value} (hx : Sv F G ow w.heap x xv) (hi : Sv F G ow w.heap i iv) {Q : SV → Prop} (h : (evIndexAddr P t x i ow).can Q) :
  ∃ s v, Q s ∧ (Instr.indexAt t xv iv).run P w = .ok v w ∧ Sv F G ow w.heap s v := by
 unfold evIndexAddr at h
 split at h
 ·rename_i kk n
  cases hi with
  | v _ hi =>
  cases hi
  split at h
  ·rename_i oo e l
   split at h
   ·rename_i hc
    simp only [Bool.and_eq_true] at hc
    obtain ⟨h0, y, hy, h⟩ := h
    have h0 : 0 ≤ n := by simpa using h0
    obtain ⟨hlt, rfl⟩ := List.getElem?_eq_some_iff.1 hy
    cases hx with
    | v hk hx =>
    cases oo with
    | true => exact hx.elim
    | false =>
    obtain ⟨a, c, hcs, hlc, hx⟩ := hx
    simp only [List.cons.injEq, and_true] at hcs
    subst hcs
    rcases hx with rfl | ⟨b, o, r, rfl, hok, hr, hel⟩
    ·simp at hlt
    have hb : (n.toNat + 1) * e.n ≤ l.length * e.n := Nat.mul_le_mul_right _ hlt
    rw [Nat.add_mul, Nat.one_mul] at hb
    have hsz := hel.1
    refine ⟨_, _, h, run_indexAt hc.2 b o l.length c kk n h0 (by omega), ?_⟩
    refine .ip hc.1 hok hr (by rw [ch_n]; omega) ?_
    rw [ch_n]
    exact ch_rep e (hel.2 n.toNat hlt)
   ·exact h.elim
  ·rename_i d j ver path
   split at h
   ·rename_i r hr
    split at h
    ·rename_i hs
     obtain ⟨hc, h⟩ := h
     simp only [decide_eq_true_eq] at hc
     have hc0 : (0 : Int) ≤ n := hc.1
     have hc1 : n < (r.2 : Int) := hc.2
     have hc2 : n.toNat < r.2 := (Int.toNat_lt hc0).2 hc1
     obtain ⟨rfl, hn⟩ := rowW_some hr
     cases hx with
     | wh hx =>
     rcases hn with ⟨k, v', l, hn, rfl⟩ | ⟨k, v', l, hn, rfl⟩ | ⟨k, l, v', hn, rfl⟩ <;>
     ·simp only [HandR, hn, Option.getD_none, Nat.zero_add] at hx
      obtain ⟨_, a, c, rfl, hlc, hx⟩ := hx
      rcases hx with ⟨_, _, h1⟩ | ⟨b, o, o', rw_, hG, rfl, hrow, ho, _⟩
      ·omega
      ·have ho := ho (by omega)
       subst ho
       simp only [Nat.zero_mul, Nat.add_zero]
       exact ⟨_, _, h, run_indexAt hs b o _ c kk n hc0 hc1, .rp (by simp only [hn]; exact ⟨hc2, b, o, hG, by simp⟩)⟩
    ·exact h.elim
   ·exact h.elim
  ·rename_i d j ver path off len
   split at h
   ·rename_i r hr
    split at h
    ·rename_i hs
     obtain ⟨hc, h⟩ := h
     simp only [decide_eq_true_eq] at hc
     have hc0 : (0 : Int) ≤ n := hc.1
     have hc1 : n < (len : Int) := hc.2
     have hc2 : n.toNat < len := (Int.toNat_lt hc0).2 hc1
     obtain ⟨rfl, hn⟩ := rowW_some hr
     cases hx with
     | os hx =>
     rcases hn with ⟨k, v', l, hn, rfl⟩ | ⟨k, v', l, hn, rfl⟩ | ⟨k, l, v', hn, rfl⟩ <;>
     ·simp only [HandR, hn, Option.getD_some] at hx
      obtain ⟨hle, a, c, rfl, hlc, hx⟩ := hx
      rcases hx with ⟨_, _, h1⟩ | ⟨b, o, o', rw_, hG, rfl, hrow, ho, _⟩
      ·omega
      ·have ho := ho (by omega)
       subst ho
       exact ⟨_, _, h, run_indexAt hs b _ len c kk n hc0 hc1, .rp (by simp only [hn]; exact ⟨by omega, b, o, hG, by rw [Nat.add_mul, Nat.add_assoc]; rfl⟩)⟩
    ·exact h.elim
   ·exact h.elim
  ·exact h.elim
 ·exact h.elim
end
end Go.Pev
end

section
/-
 PEV, part 6: slices, lengths, strings, comparisons.
-/
namespace Go.Pev
section
variable {F : Nat → Prop} {G : Gh} {ow : OW} {w : World} {P : Program}
theorem Sv.int_inv {k : IntKind} {n : Int} {v : Value} (h : Sv F G ow w.heap (.v (.int k) n) v) : v = .int k n := by
 cases h with
 | v _ h => cases h; rfl
theorem Sv.str_inv {s : List UInt8} {v : Value} (h : Sv F G ow w.heap (.v .str s) v) : v = .string ⟨s.toArray⟩ := by
 cases h with
 | v _ h => cases h; rfl
theorem Sv.bool_inv {b : Bool} {v : Value} (h : Sv F G ow w.heap (.v .bool b) v) : v = .bool b := by
 cases h with
 | v _ h => cases h; rfl
theorem Sv.lb_inv {b : Bool} {v : Value} (h : Sv F G ow w.heap (.lb b) v) : v = .bool b := by cases h; rfl
theorem Sv.int (k : IntKind) (n : Int) : Sv F G ow w.heap (.v (.int k) n) (.int k n) := .v rfl rfl
theorem Sv.str (s : List UInt8) : Sv F G ow w.heap (.v .str s) (.string ⟨s.toArray⟩) := .v rfl rfl
theorem Sv.bool (b : Bool) : Sv F G ow w.heap (.v .bool b) (.bool b) := .v rfl rfl
theorem Sv.sl_inv {o : Bool} {e : Kd} {l : List e.T} {v : Value} (h : Sv F G ow w.heap (.v (.sl o e) l) v) :
  o = false ∧ ∃ a c, v = .slice a l.length c ∧ l.length ≤ c ∧
   (l = [] ∨ ∃ b of r, a = some ⟨b, of, none⟩ ∧ okF F G ow b ∧ rowCells w.heap b = some r ∧ ElemsR (fun x cs => Rep w.heap (okF F G ow) e x cs) e.n l r of) := by
 cases h with
 | v _ h =>
 cases o with
 | true => exact h.elim
 | false =>
 obtain ⟨a, c, hcs, h⟩ := h
 simp only [List.cons.injEq, and_true] at hcs
 exact ⟨rfl, a, c, hcs, h⟩
theorem optInt_some {x : Option SV} {v : Option Value} (hx : ∀ s, x = some s → ∃ u, v = some u ∧ Sv F G ow w.heap s u) (hn : x = none → v = none) {a : Option Int} (h : optInt x = some a) :
  (v = none ∧ a = none) ∨ ∃ k n, v = some (.int k n) ∧ a = some n := by
 unfold optInt at h
 split at h
 ·cases h; exact .inl ⟨hn rfl, rfl⟩
 ·rename_i k n
  cases h
  obtain ⟨u, rfl, hu⟩ := hx _ rfl
  exact .inr ⟨k, n, by rw [hu.int_inv], rfl⟩
 ·cases h
theorem cutOk_spec {n : Nat} {a b : Option Int} (h : cutOk n a b = true) :
  (∀ x, a = some x → 0 ≤ x) ∧ (∀ x, b = some x → 0 ≤ x) ∧ (a.getD 0).toNat ≤ (b.getD n).toNat ∧ (b.getD n).toNat ≤ n := by
 cases a <;> cases b <;> simp [cutOk] at h ⊢ <;> omega
theorem cutL_eq {α : Type} (l : List α) (a b : Option Int) : cutL l a b = (l.take (b.getD l.length).toNat).drop (a.getD 0).toNat := by
 cases a <;> cases b <;> simp [cutL]
theorem run_sliceBounds {s : Bool} {len c : Nat} {lo hi : Option Value} {a b : Option Int} (hl : (lo = none ∧ a = none) ∨ ∃ k n, lo = some (.int k n) ∧ a = some n)
  (hh : (hi = none ∧ b = none) ∨ ∃ k n, hi = some (.int k n) ∧ b = some n) (hc : len ≤ c) (h : cutOk len a b = true) :
  (Instr.sliceBounds s len c lo hi none).run P w = .ok ((a.getD 0).toNat, (b.getD len).toNat, c) w := by
 obtain ⟨h1, h2, h3, h4⟩ := cutOk_spec h
 rcases hl with ⟨rfl, rfl⟩ | ⟨kl, l, rfl, rfl⟩ <;> rcases hh with ⟨rfl, rfl⟩ | ⟨kh, u, rfl, rfl⟩
 ·simp [Instr.sliceBounds]
 ·have := h2 u rfl
  simp at h3 h4
  simp [Instr.sliceBounds, run_sliceBound, this, show u ≤ (c : Int) by omega]
 ·have := h1 l rfl
  simp at h3 h4
  simp [Instr.sliceBounds, run_sliceBound, this, show l ≤ (len : Int) by omega]
 ·have e1 := h1 l rfl
  have e2 := h2 u rfl
  simp at h3 h4
  simp [Instr.sliceBounds, run_sliceBound, e2, show u ≤ (c : Int) by omega, run_sliceBound w kl l u.toNat .sliceB e1 (by omega)]
theorem run_slice_str {t : TypeId} (ht : isStrT P t = true) {s : List UInt8} {lo hi : Option Value} {a b : Option Int} (hl : (lo = none ∧ a = none) ∨ ∃ k n, lo = some (.int k n) ∧ a = some n)
  (hh : (hi = none ∧ b = none) ∨ ∃ k n, hi = some (.int k n) ∧ b = some n) (h : cutOk s.length a b = true) :
  (Instr.sliceAt t (.string ⟨s.toArray⟩) lo hi none).run P w = .ok (.string ⟨(cutL s a b).toArray⟩) w := by
 have hu : P.underlying t = some .string := by
  unfold isStrT undl at ht
  split at ht
  ·assumption
  ·cases ht
 rw [run_sliceAt_string w t _ _ _ _ hu]
 have hsz : (ByteArray.mk s.toArray).size = s.length := by simp [ByteArray.size]
 simp only [Instr.slice, Sem.run_bind, run_underlying hu, Result.andThen_ok]
 simp only [Option.isSome_none, Bool.false_eq_true, if_false, Sem.run_pure, Sem.run_bind, hsz]
 rw [run_sliceBounds hl hh (Nat.le_refl _) h]
 simp only [Result.andThen_ok]
 congr 2
 rw [cutL_eq]
 apply ByteArray.ext
 simp [ByteArray.data_extract, List.drop_take]
theorem run_slice_sl {t : TypeId} {n : Nat} (ht : sliceOf P t n = true) {ad : Option Addr} {len c : Nat} (hc : len ≤ c) {lo hi : Option Value} {a b : Option Int}
  (hl : (lo = none ∧ a = none) ∨ ∃ k n, lo = some (.int k n) ∧ a = some n) (hh : (hi = none ∧ b = none) ∨ ∃ k n, hi = some (.int k n) ∧ b = some n) (h : cutOk len a b = true) :
  (Instr.sliceAt t (.slice ad len c) lo hi none).run P w =
   .ok (.slice (if c = (a.getD 0).toNat then ad else ad.map (·.add ((a.getD 0).toNat * n))) ((b.getD len).toNat - (a.getD 0).toNat) (c - (a.getD 0).toNat)) w := by
 obtain ⟨e, ti, hu, hi', rfl⟩ := sliceOf_some ht
 have he : P.elem t = e := by simp [Program.elem, hu]
 have hu' : P.underlying t = some (.slice (P.elem t)) := by rw [he]; exact hu
 rw [run_sliceAt_slice w t _ _ _ _ hu', run_slice_any w t ad len c hu', run_sliceBounds hl hh hc h]
 simp only [Result.andThen_ok, sizeOf, typeInfo, he]
 simp [hi', sliced]
theorem HandV.slice {h : Array Obj} {n d j off len : Nat} {v : Value} (hv : HandV h G n d j off len v) {l u : Nat} (hl : l ≤ u) (hu : u ≤ len) {a : Option Addr} {c : Nat} (he : v = .slice a len c) :
  HandV h G n d j (off + l) (u - l) (.slice (if c = l then a else a.map (·.add (l * n))) (u - l) (c - l)) := by
 obtain ⟨a', c', he', hc, hv⟩ := hv
 rw [he] at he'; cases he'
 refine ⟨_, _, rfl, by omega, ?_⟩
 rcases hv with ⟨h0, rfl, h2⟩ | ⟨b, o, o', r, hG, rfl, hr, ho, hs⟩
 ·exact .inl ⟨h0, by split <;> rfl, by omega⟩
 ·by_cases hcl : c = l
  ·refine .inr ⟨b, o, o', r, hG, by simp [hcl], hr, fun h => by omega, ?_⟩
   subst hcl
   simp
   omega
  ·refine .inr ⟨b, o, o' + l * n, r, hG, by simp only [hcl, if_false, Option.map_some, Addr.add_mid], hr, fun _ => ?_, ?_⟩
   ·rw [ho (by omega), Nat.add_mul, Nat.add_assoc]
   ·have : l * n + (c - l) * n = c * n := by rw [← Nat.add_mul]; congr 1; omega
    omega
theorem evSlice_sound {t : TypeId} {x : SV} {lo hi : Option SV} {xv : Value} {lov hiv : Option Value} (hx : Sv F G ow w.heap x xv)
  (hlo : ∀ s, lo = some s → ∃ u, lov = some u ∧ Sv F G ow w.heap s u) (hlo' : lo = none → lov = none) (hhi : ∀ s, hi = some s → ∃ u, hiv = some u ∧ Sv F G ow w.heap s u) (hhi' : hi = none → hiv = none)
  {Q : SV → Prop} (h : (evSlice P t x lo hi ow).can Q) : ∃ s v, Q s ∧ (Instr.sliceAt t xv lov hiv none).run P w = .ok v w ∧ Sv F G ow w.heap s v := by
 unfold evSlice at h
 split at h
 ·rename_i a b ha hb
  have hl := optInt_some hlo hlo' ha
  have hh := optInt_some hhi hhi' hb
  split at h
  ·rename_i s
   split at h
   ·rename_i ht
    obtain ⟨hc, h⟩ := h
    rw [hx.str_inv]
    exact ⟨_, _, h, run_slice_str ht hl hh hc, .str _⟩
   ·exact h.elim
  ·rename_i o e l
   split at h
   ·rename_i ht
    obtain ⟨hc, h⟩ := h
    obtain ⟨rfl, ad, c, rfl, hle, hx⟩ := hx.sl_inv
    refine ⟨_, _, h, run_slice_sl ht hle hl hh hc, ?_⟩
    obtain ⟨_, _, h3, h4⟩ := cutOk_spec hc
    have hlen : (cutL l a b).length = (b.getD l.length).toNat - (a.getD 0).toNat := by rw [cutL_eq]; simp; omega
    refine .v rfl ⟨_, _, by rw [hlen], by rw [hlen]; omega, ?_⟩
    rcases hx with rfl | ⟨bb, o, r, rfl, hok, hr, hel⟩
    ·exact .inl (by rw [cutL_eq]; simp)
    ·by_cases hcl : c = (a.getD 0).toNat
     ·exact .inl (List.eq_nil_of_length_eq_zero (by omega))
     ·refine .inr ⟨bb, o + (a.getD 0).toNat * e.n, r, by simp [hcl, Addr.add_mid], hok, hr, ?_⟩
      have hsz := hel.1
      refine ⟨?_, fun i hi => ?_⟩
      ·have : ((a.getD 0).toNat + (cutL l a b).length) * e.n ≤ l.length * e.n := Nat.mul_le_mul_right _ (by omega)
       rw [Nat.add_mul] at this
       omega
      ·have e1 : (cutL l a b)[i] = l[(a.getD 0).toNat + i]'(by omega) := by simp only [cutL_eq]; simp
       rw [e1]
       have := hel.2 ((a.getD 0).toNat + i) (by omega)
       rw [Nat.add_mul, ← Nat.add_assoc] at this
       exact this
   ·exact h.elim
  ·rename_i d j ver path
   split at h
   ·rename_i r hr
    obtain ⟨rn, rl⟩ := r
    dsimp only at h
    split at h
    ·rename_i ht
     obtain ⟨hc, h⟩ := h
     obtain ⟨rfl, hn⟩ := rowW_some hr
     obtain ⟨_, _, h3, h4⟩ := cutOk_spec hc
     cases hx with
     | wh hx =>
     rcases hn with ⟨k, v', l, hn, hr'⟩ | ⟨k, v', l, hn, hr'⟩ | ⟨k, l, v', hn, hr'⟩ <;> cases hr' <;>
     ·simp only [HandR, hn, Option.getD_none] at hx
      obtain ⟨hle, hx⟩ := hx
      obtain ⟨ad, c, rfl, hlc, _⟩ := id hx
      refine ⟨_, _, h, run_slice_sl ht hlc hl hh hc, .os ?_⟩
      simp only [HandR, hn, Option.getD_some]
      have := hx.slice h3 h4 rfl
      rw [Nat.zero_add] at this
      exact ⟨by omega, this⟩
    ·exact h.elim
   ·exact h.elim
  ·rename_i d j ver path off len
   split at h
   ·rename_i r hr
    obtain ⟨rn, rl⟩ := r
    dsimp only at h
    split at h
    ·rename_i ht
     obtain ⟨hc, h⟩ := h
     obtain ⟨rfl, hn⟩ := rowW_some hr
     obtain ⟨_, _, h3, h4⟩ := cutOk_spec hc
     cases hx with
     | os hx =>
     rcases hn with ⟨k, v', l, hn, hr'⟩ | ⟨k, v', l, hn, hr'⟩ | ⟨k, l, v', hn, hr'⟩ <;> cases hr' <;>
     ·simp only [HandR, hn, Option.getD_some] at hx
      obtain ⟨hle, hx⟩ := hx
      obtain ⟨ad, c, rfl, hlc, _⟩ := id hx
      refine ⟨_, _, h, run_slice_sl ht hlc hl hh hc, .os ?_⟩
      simp only [HandR, hn, Option.getD_some]
      exact ⟨by omega, hx.slice h3 h4 rfl⟩
    ·exact h.elim
   ·exact h.elim
  ·exact h.elim
 ·exact h.elim
theorem evLen_sound {t ty : TypeId} {ts : List TypeId} {x : SV} {xv : Value} (hx : Sv F G ow w.heap x xv) {Q : SV → Prop} (h : (evLen P t x ow).can Q) :
  ∃ s v, Q s ∧ (Builtin.len_ (t :: ts).toArray ty #[xv]).run P w = .ok v w ∧ Sv F G ow w.heap s v := by
 unfold evLen at h
 split at h
 ·rename_i s
  split at h
  ·rename_i ht
   have hu : P.underlying t = some .string := by
    unfold isStrT undl at ht
    split at ht
    ·assumption
    ·cases ht
   rw [hx.str_inv]
   have hsz : (ByteArray.mk s.toArray).size = s.length := by simp [ByteArray.size]
   exact ⟨_, _, h, by simp [Builtin.len_, run_underlying hu, goInt, hsz], .int _ _⟩
  ·exact h.elim
 ·split at h
  ·rename_i ht
   obtain ⟨e, hu⟩ : ∃ e, P.underlying t = some (.slice e) := by
    unfold isSliceT undl at ht
    split at ht
    ·exact ⟨_, by assumption⟩
    ·cases ht
   have key : ∀ a n c, (Builtin.len_ (t :: ts).toArray ty #[.slice a n c]).run P w = .ok (.int .i64 n) w := fun a n c => by simp [Builtin.len_, run_underlying hu, goInt]
   split at h
   ·obtain ⟨_, _, _, rfl, _⟩ := hx.sl_inv
    exact ⟨_, _, h, key _ _ _, .int _ _⟩
   ·cases hx
    exact ⟨_, _, h, key _ _ _, .int _ _⟩
   ·split at h
    ·rename_i r hr
     obtain ⟨rfl, hn⟩ := rowW_some hr
     cases hx with
     | wh hx =>
     rcases hn with ⟨k, v', l, hn, rfl⟩ | ⟨k, v', l, hn, rfl⟩ | ⟨k, l, v', hn, rfl⟩ <;>
     ·simp only [HandR, hn, Option.getD_none] at hx
      obtain ⟨_, _, _, rfl, _⟩ := hx
      exact ⟨_, _, h, key _ _ _, .int _ _⟩
    ·split at h
     ·rename_i n hl
      cases hx with
      | wh hx =>
      unfold lenOb at hl
      split at hl
      ·rename_i m hg
       cases hl
       simp only [HandR, nameOf_of_getOb hg, Option.getD_none] at hx
       obtain ⟨_, _, rfl⟩ := hx
       exact ⟨_, _, h, key _ _ _, .int _ _⟩
      ·cases hl
     ·exact h.elim
   ·split at h
    ·rename_i r hr
     obtain ⟨rfl, hn⟩ := rowW_some hr
     cases hx with
     | os hx =>
     rcases hn with ⟨k, v', l, hn, rfl⟩ | ⟨k, v', l, hn, rfl⟩ | ⟨k, l, v', hn, rfl⟩ <;>
     ·simp only [HandR, hn, Option.getD_some] at hx
      obtain ⟨_, _, _, rfl, _⟩ := hx
      exact ⟨_, _, h, key _ _ _, .int _ _⟩
    ·exact h.elim
   ·exact h.elim
  ·exact h.elim
theorem isStrT_some {t : TypeId} (ht : isStrT P t = true) : P.underlying t = some .string := by
 unfold isStrT undl at ht
 split at ht
 ·assumption
 ·cases ht
theorem evIndex_sound {t : TypeId} (ht : isStrT P t = true) {x i : SV} {xv iv : Value} (hx : Sv F G ow w.heap x xv) (hi : Sv F G ow w.heap i iv) {Q : SV → Prop} (h : (evIndex x i).can Q) :
  ∃ s v, Q s ∧ (Instr.index t xv iv).run P w = .ok v w ∧ Sv F G ow w.heap s v := by
 unfold evIndex at h
 split at h
 ·rename_i s k n
  obtain ⟨hc, b, hb, h⟩ := h
  have hc : (0 : Int) ≤ n := by simpa using hc
  rw [hx.str_inv, hi.int_inv]
  refine ⟨_, _, h, ?_, .int _ _⟩
  obtain ⟨hlt, rfl⟩ := List.getElem?_eq_some_iff.1 hb
  have : (ByteArray.mk s.toArray)[n.toNat]? = some (s[n.toNat]) := by
   rw [ByteArray.getElem?_lt' _ _ (by simpa [ByteArray.size] using hlt)]
   rfl
  simp [Instr.index, asIntOf, run_underlying (isStrT_some ht), hc, this]
 ·exact h.elim
theorem run_bytes_conv {src dst e : TypeId} (hs : P.underlying src = some (.slice e)) (he : P.underlying e = some (.int .u8)) (hd : P.underlying dst = some .string) {b o c : Nat} {l : List Int} {r : Array Value}
  (hr : rowCells w.heap b = some r) (hel : ElemsR (fun (x : Int) cs => cs = [Value.int .u8 x]) 1 l r o) :
  (convert src dst (.slice (some ⟨b, o, none⟩) l.length c)).run P w = .ok (.string ⟨(l.map fun n : Int => UInt8.ofNat n.toNat).toArray⟩) w := by
 rw [run_convert_bytes_arg w src e hs he b o l.length c l rfl (fun i hi => ?_) dst hd]
 ·rfl
 ·rw [rowCells_cell hr]
  have := hel.2 i hi
  have hsz := hel.1
  have e1 := sub_getElem (r := r) (o := o + i * 1) (n := 1) (i := 0) (by omega)
  rw [this] at e1
  simp only [List.getElem?_cons_zero, Nat.mul_one, Nat.add_zero] at e1
  rw [← e1]
  simp [List.getD, hi]
theorem ElemsR.part {α : Type} {R : α → List Value → Prop} {n : Nat} {l : List α} {r : Array Value} {o : Nat} (h : ElemsR R n l r o) {off len : Nat} (hle : off + len ≤ l.length) : ElemsR R n (subL l off len) r (o + off * n) := by
 have hl : (subL l off len).length = len := by simp [subL]; omega
 refine ⟨?_, fun i hi => ?_⟩
 ·have := h.1
  have e : (off + len) * n ≤ l.length * n := Nat.mul_le_mul_right _ hle
  rw [Nat.add_mul] at e
  rw [hl]
  omega
 ·have := h.2 (off + i) (by omega)
  rw [Nat.add_mul, ← Nat.add_assoc] at this
  have e : (subL l off len)[i] = l[off + i]'(by omega) := by simp [subL]
  rw [e]
  exact this
theorem rowOf_sound (hh : HRep F G ow w.heap) {x : SV} {xv : Value} (hx : Sv F G ow w.heap x xv) {r : Sigma fun k : Kd => List k.T} (hr : rowOf ow x = some r) :
  ∃ d j ver l0, keyOf x = some (d, j) ∧ (nameOf ow d j = some (some (.row r.1 ver l0)) ∨ nameOf ow d j = some (some (.frow r.1 ver l0))) ∧ r.1.good = true ∧ ∃ a c, xv = .slice a r.2.length c ∧ r.2.length ≤ c ∧
   (r.2 = [] ∨ ∃ b o rw_, (∃ o', G d j 0 = some (b, o')) ∧ a = some ⟨b, o, none⟩ ∧ rowCells w.heap b = some rw_ ∧ ElemsR (fun x cs => Rep w.heap (okF F G ow) r.1 x cs) r.1.n r.2 rw_ o ∧ (isRow ow d j = false → okF F G ow b)) := by
 have key : ∀ {d j off : Nat} {len : Option Nat} {k : Kd} {l0 : List k.T}, HandR w.heap G ow d j off len xv → rowAt ow d j [] = some ⟨k, l0⟩ →
   ∃ ver, (nameOf ow d j = some (some (.row k ver l0)) ∨ nameOf ow d j = some (some (.frow k ver l0))) ∧ k.good = true ∧ off + len.getD l0.length ≤ l0.length ∧ ∃ a c, xv = .slice a (len.getD l0.length) c ∧ len.getD l0.length ≤ c ∧
   (subL l0 off (len.getD l0.length) = [] ∨ ∃ b o rw_, (∃ o', G d j 0 = some (b, o')) ∧ a = some ⟨b, o, none⟩ ∧ rowCells w.heap b = some rw_ ∧ ElemsR (fun x cs => Rep w.heap (okF F G ow) k x cs) k.n (subL l0 off (len.getD l0.length)) rw_ o ∧ (isRow ow d j = false → okF F G ow b)) := by
  intro d j off len k l0 hx hr
  unfold rowAt at hr
  split at hr
  ·rename_i k' ver l' _ hg
   cases hr
   have hn := nameOf_of_getOb hg
   simp only [HandR, hn] at hx
   obtain ⟨hle, a, c, rfl, hlc, hx⟩ := hx
   obtain ⟨_, hgood, ho⟩ := hh.obs d j _ hn
   refine ⟨ver, .inl hn, hgood, hle, a, c, rfl, hlc, ?_⟩
   rcases hx with ⟨_, _, h1⟩ | ⟨b, o, o', rw_, hG, rfl, hrow, ho', _⟩
   ·exact .inl (by simp [subL]; omega)
   ·by_cases hc0 : 0 < c
    ·have ho' := ho' hc0
     subst ho'
     simp only [hG] at ho
     obtain ⟨r2, et, hb, hel⟩ := ho
     have := rowCells_of hb
     rw [hrow] at this; cases this
     exact .inr ⟨b, _, rw_, ⟨o, hG⟩, rfl, hrow, hel.part hle, fun hf => by simp [isRow, hg] at hf⟩
    ·exact .inl (by simp [subL]; omega)
  ·rename_i k' ver l' _ hg
   cases hr
   have hn := nameOf_of_getOb hg
   simp only [HandR, hn] at hx
   obtain ⟨hle, a, c, rfl, hlc, hx⟩ := hx
   obtain ⟨hgood, ho⟩ := hh.obs d j _ hn
   refine ⟨ver, .inr hn, hgood, hle, a, c, rfl, hlc, ?_⟩
   rcases hx with ⟨_, _, h1⟩ | ⟨b, o, o', rw_, hG, rfl, hrow, ho', _⟩
   ·exact .inl (by simp [subL]; omega)
   ·by_cases hc0 : 0 < c
    ·have ho' := ho' hc0
     subst ho'
     simp only [hG] at ho
     rcases ho with rfl | ⟨hok, r2, hb, hel⟩
     ·exact .inl (by simp [subL])
     rw [hrow] at hb; cases hb
     exact .inr ⟨b, _, rw_, ⟨o, hG⟩, rfl, hrow, hel.part hle, fun _ => hok⟩
    ·exact .inl (by simp [subL]; omega)
  ·cases hr
 unfold rowOf at hr
 split at hr
 ·rename_i d j ver path
  have hp := (rowAt_some hr).1
  subst hp
  cases hx with
  | wh hx =>
  obtain ⟨ver', hn, hgood, hle, a, c, hxv, hlc, h⟩ := key hx hr
  have e : subL r.2 0 r.2.length = r.2 := by simp [subL]
  simp only [Option.getD_none, e] at hxv hlc h
  exact ⟨d, j, ver', r.2, rfl, hn, hgood, a, c, hxv, hlc, h⟩
 ·rename_i d j ver path off len
  split at hr
  ·rename_i r' hr'
   cases hr
   have hp := (rowAt_some hr').1
   subst hp
   cases hx with
   | os hx =>
   obtain ⟨ver', hn, hgood, hle, a, c, hxv, hlc, h⟩ := key hx hr'
   simp only [Option.getD_some] at hxv hlc h hle
   have e : (subL r'.2 off len).length = len := by simp [subL]; omega
   refine ⟨d, j, ver', r'.2, rfl, hn, hgood, a, c, ?_, ?_, h⟩ <;> simp only [e] <;> assumption
  ·cases hr
 ·cases hr
theorem evConvert_sound {src dst : TypeId} {x : SV} {xv : Value} (hh : HRep F G ow w.heap) (hx : Sv F G ow w.heap x xv) {Q : SV → Prop} (h : (evConvert P src dst x ow).can Q) :
  ∃ s v, Q s ∧ (convert src dst xv).run P w = .ok v w ∧ Sv F G ow w.heap s v := by
 unfold evConvert undl at h
 split at h
 ·rename_i k1 k k2 n hs hd
  rw [hx.int_inv]
  exact ⟨_, _, h, by simp [convert, run_underlying hs, run_underlying hd, Conv.intToInt], .int _ _⟩
 ·rename_i e hs hd
  split at h
  ·rename_i he
   have nilc : ∀ l c, (convert src dst (.slice none l c)).run P w = .ok (.string ByteArray.empty) w := fun l c => run_convert_bytes_nil w src e hs he l c dst hd
   have emp : ∀ a c, (convert src dst (.slice a 0 c)).run P w = .ok (.string ⟨#[]⟩) w := fun a c => by
    cases a with
    | none => exact nilc _ _
    | some a =>
     rw [run_convert_bytes_string w src dst e _ 0 c hs he hd, run_bytesToString w a 0 c [] (by simpa using run_loadCells_list (P := P) w a [] (fun j v hj => by simp at hj))]
     rfl
   split at h
   ·cases hx
    exact ⟨_, _, h, emp _ _, .str _⟩
   ·rename_i o l
    obtain ⟨rfl, a, c, rfl, _, hx⟩ := hx.sl_inv
    rcases hx with rfl | ⟨b, of, r, rfl, _, hr, hel⟩
    ·exact ⟨_, _, h, emp _ _, .str _⟩
    ·exact ⟨_, _, h, run_bytes_conv hs he hd hr hel, .str _⟩
   ·split at h
    ·rename_i l hrow
     obtain ⟨d, j, ver, l0, _, _, _, a, c, rfl, _, hx⟩ := rowOf_sound hh hx hrow
     rcases hx with hx | ⟨b, of, r, _, rfl, hr, hel, _⟩
     ·simp only at hx
      subst hx
      exact ⟨_, _, h, emp _ _, .str _⟩
     ·exact ⟨_, _, h, run_bytes_conv hs he hd hr hel, .str _⟩
    ·exact h.elim
  ·exact h.elim
 ·exact h.elim
end
end Go.Pev
end

section
/-
  PEV, part 7: arithmetic, comparisons, structs, interfaces.
-/
namespace Go.Pev
section
variable {F : Nat → Prop} {G : Gh} {ow : OW} {w : World} {P : Program}
theorem run_eqGuard_of (op : BinOp) (t : TypeId) (xo yo : Operand) (a b : Value)
    (h : (match a, b with
      | .nilIface, .nilIface => do
        if (xo matches .const _) || (yo matches .const _) then return
        if ← Op.eqGuardIn Op.maxDepth t a b then unsupported (.noEntry "binop/eql: two nil values of an interface type with methods, neither of them the literal nil")
      | .agg _, .agg _ => do
        if !(← program).eqGuardType (← program).depth t then return
        if ← Op.eqGuardIn Op.maxDepth t a b then unsupported (.noEntry "binop/eql: two nil values of an interface type with methods, in a part of a struct or an array")
      | _, _ => pure () : Sem Unit).run P w = .ok () w) : (eqGuard op t xo yo a b).run P w = .ok () w := by
  cases op <;> simp only [eqGuard, Bool.not_true, Bool.not_false, Bool.false_eq_true, if_false, if_true] <;> first | exact h | rfl
theorem run_eqGuard_plain (op : BinOp) (t : TypeId) (xo yo : Operand) (a b : Value) (h1 : ¬ (a = .nilIface ∧ b = .nilIface)) (h2 : ∀ xs ys, ¬ (a = .agg xs ∧ b = .agg ys)) :
    (eqGuard op t xo yo a b).run P w = .ok () w := by
  apply run_eqGuard_of
  split
  · exact absurd ⟨rfl, rfl⟩ h1
  · exact absurd ⟨rfl, rfl⟩ (h2 _ _)
  · rfl
theorem run_bin {op : BinOp} {t : TypeId} {xo yo : Operand} {a b v : Value} (hg : (eqGuard op t xo yo a b).run P w = .ok () w) (hb : (binOp op t a b).run P w = .ok v w) :
    (do eqGuard op t xo yo a b; binOp op t a b : Sem Value).run P w = .ok v w := by
  rw [Sem.run_bind, hg, Result.andThen_ok, hb]
theorem binInt_sound {op : BinOp} {t : TypeId} {k : IntKind} {a b : Int} {Q : SV → Prop} (h : (binInt op k a b).can Q) :
    ∃ s v, Q s ∧ (binOp op t (.int k a) (.int k b)).run P w = .ok v w ∧ Sv F G ow w.heap s v := by
  cases op <;> simp only [binInt] at h <;> first
    | exact ⟨_, _, h, by simp [binOp, Op.intArith, Op.intBits, Op.intCmp], .int _ _⟩
    | exact ⟨_, _, h, by simp [binOp, Op.intArith, Op.intBits, Op.intCmp], .bool _⟩
    | exact h.elim
    | (obtain ⟨hc, h⟩ := h
       have hc : ¬ b = 0 := by simpa using hc
       exact ⟨_, _, h, by simp [binOp, Op.intDiv, hc], .int _ _⟩)
theorem binStr_sound {op : BinOp} {t : TypeId} {a b : List UInt8} {Q : SV → Prop} (h : (binStr op a b).can Q) :
    ∃ s v, Q s ∧ (binOp op t (.string ⟨a.toArray⟩) (.string ⟨b.toArray⟩)).run P w = .ok v w ∧ Sv F G ow w.heap s v := by
  cases op <;> simp only [binStr] at h <;> first
    | exact h.elim
    | exact ⟨_, _, h, by simp [binOp, Op.stringOp], .bool _⟩
    | (obtain ⟨hc, h⟩ := h
       have hc : ((a.length + b.length : Nat) : Int) ≤ 9223372036854775807 := of_decide_eq_true hc
       refine ⟨_, _, h, ?_, .str _⟩
       have e : (binOp .add t (.string ⟨a.toArray⟩) (.string ⟨b.toArray⟩)).run P w = (Op.stringOp .add ⟨a.toArray⟩ ⟨b.toArray⟩).run P w := by simp only [binOp]
       rw [e, run_string_add_sum, ByteArray.mk_append_mk]
       have h1 : (ByteArray.mk a.toArray).size = a.length := by simp [ByteArray.size]
       have h2 : (ByteArray.mk b.toArray).size = b.length := by simp [ByteArray.size]
       rw [h1, h2]
       omega)
theorem run_equal_of {t : TypeId} {a b : Value} {c : Bool} (h : ∀ d, (Op.equalIn (d + 1) t a b).run P w = .ok c w) : (Op.equal t a b).run P w = .ok c w := h 9999
theorem run_equalIn_nil {t e : TypeId} (ht : P.underlying t = some (.slice e)) (a : Option Addr) (n c d : Nat) : (Op.equalIn (d + 1) t (.slice a n c) (.slice none 0 0)).run P w = .ok a.isNone w := by
  cases a <;> simp [Op.equalIn, run_underlying ht]
theorem run_equalIn_00 {t : TypeId} {ms} (ht : P.underlying t = some (.interface ms)) (d : Nat) : (Op.equalIn (d + 1) t .nilIface .nilIface).run P w = .ok true w := by
  simp [Op.equalIn, run_underlying ht]
theorem run_equalIn_01 {t : TypeId} {ms} (ht : P.underlying t = some (.interface ms)) (d : Nat) (ty : TypeId) (v : Value) : (Op.equalIn (d + 1) t .nilIface (.iface ty v)).run P w = .ok false w := by
  simp [Op.equalIn, run_underlying ht]
theorem run_equalIn_10 {t : TypeId} {ms} (ht : P.underlying t = some (.interface ms)) (d : Nat) (ty : TypeId) (v : Value) : (Op.equalIn (d + 1) t (.iface ty v) .nilIface).run P w = .ok false w := by
  simp [Op.equalIn, run_underlying ht]
theorem evEq_sound {op : BinOp} {t : TypeId} {a b : Value} {c : Bool} {Q : SV → Prop} (h : (evEq op c).can Q) (he : (Op.equal t a b).run P w = .ok c w)
    (hp : ∀ op, op = .eql ∨ op = .neq → binOp op t a b = (do let r ← Op.equal t a b; pure (.bool (if op = .eql then r else !r)))) :
    ∃ s v, Q s ∧ (binOp op t a b).run P w = .ok v w ∧ Sv F G ow w.heap s v := by
  unfold evEq eqOp at h
  cases op <;> first
    | exact h.elim
    | exact ⟨_, _, h, by rw [hp _ (.inl rfl)]; simp [he], .bool _⟩
    | exact ⟨_, _, h, by rw [hp _ (.inr rfl)]; simp [he], .bool _⟩
theorem boolOf_inv {s : SV} {v : Value} {b : Bool} (h : Sv F G ow w.heap s v) (hb : boolOf s = some b) : v = .bool b := by
  unfold boolOf at hb
  split at hb
  · cases hb; exact h.bool_inv
  · cases hb; exact h.lb_inv
  · cases hb
theorem eqFieldsS_sound {xs ys : List Value} : (fs : List Field) → (i : Nat) → {a b : List SV} → {c : Bool} → eqFieldsS P i fs a b = some c → (d : Nat) → Svs F G ow w.heap a (xs.drop i) → Svs F G ow w.heap b (ys.drop i) →
    (Op.eqFields (d + 1) xs.toArray ys.toArray fs).run P w = .ok c w
  | [], _, [], [], _, h, _, _, _ => by cases h; rfl
  | [], _, _ :: _, _, _, h, _, _, _ => by simp [eqFieldsS] at h
  | [], _, [], _ :: _, _, h, _, _, _ => by simp [eqFieldsS] at h
  | _ :: _, _, [], _, _, h, _, _, _ => by simp [eqFieldsS] at h
  | _ :: _, _, _ :: _, [], _, h, _, _, _ => by simp [eqFieldsS] at h
  | f :: fs, i, a :: r, b :: s, c, h, d, ha, hb => by
    obtain ⟨x, xs', ex, hx, hxs⟩ := ha.uncons
    obtain ⟨y, ys', ey, hy, hys⟩ := hb.uncons
    have e1 : xs.drop (i + 1) = xs' := by rw [← List.drop_drop, ex]; rfl
    have e2 : ys.drop (i + 1) = ys' := by rw [← List.drop_drop, ey]; rfl
    rw [← e1] at hxs
    rw [← e2] at hys
    have g1 : xs[i]? = some x := by have := congrArg (·[0]?) ex; simpa using this
    have g2 : ys[i]? = some y := by have := congrArg (·[0]?) ey; simpa using this
    simp only [eqFieldsS] at h
    split at h
    · rename_i hf
      simp only [Bool.and_eq_true, bne_iff_ne, ne_eq, beq_iff_eq] at hf
      obtain ⟨hn, ho⟩ := hf
      have pp : ∀ (d' : TypeDesc), P.underlying f.type = some d' → d'.isRow = false → ∀ (zs : List Value) z, zs[i]? = some z → (part f.type zs.toArray f.offset).run P w = .ok z w := by
        intro d' hu hr zs z hz
        have hag : isAggT P f.type = false := by unfold isAggT undl; rw [hu]; cases d' <;> simp_all [TypeDesc.isRow]
        simp [part, isAggT_run hu, hag, ho, hz]
      have step : ∀ (d' : TypeDesc), P.underlying f.type = some d' → d'.isRow = false → ∀ e, (Op.equalIn (d + 1) f.type x y).run P w = .ok e w → ∀ c', eqFieldsS P (i + 1) fs r s = some c' →
          (Op.eqFields (d + 1) xs.toArray ys.toArray (f :: fs)).run P w = .ok (e && c') w := by
        intro d' hu hr e he c' hc'
        have ih := eqFieldsS_sound fs (i + 1) hc' d hxs hys
        simp only [Op.eqFields, ne_eq, hn, not_false_eq_true, if_true, Sem.run_bind, pp d' hu hr xs x g1, pp d' hu hr ys y g2, Result.andThen_ok, he]
        cases e
        · simp
        · simpa using ih
      split at h
      · rename_i k a k' b
        rw [hx.int_inv, hy.int_inv] at step
        split at h
        · rename_i hk
          subst hk
          split at h
          · rename_i k2 hu
            split at h
            · rename_i c' hc'
              cases h
              exact step _ hu rfl _ (run_equalIn_int w d f.type k k2 a b hu) _ hc'
            · cases h
          · cases h
        · cases h
      · rename_i a b
        rw [hx.str_inv, hy.str_inv] at step
        split at h
        · rename_i hu
          split at h
          · rename_i c' hc'
            cases h
            exact step _ hu rfl _ (by rw [run_equalIn_string w d f.type _ _ hu]; simp) _ hc'
          · cases h
        · cases h
      · rename_i a b
        rw [hx.bool_inv, hy.bool_inv] at step
        split at h
        · rename_i hu
          split at h
          · rename_i c' hc'
            cases h
            exact step _ hu rfl _ (run_equalIn_bool' w d f.type a b hu) _ hc'
          · cases h
        · cases h
      · cases h
    · cases h
theorem isIfaceT_some {t : TypeId} (h : isIfaceT P t = true) : ∃ ms, P.underlying t = some (.interface ms) := by
  unfold isIfaceT undl at h
  split at h
  · exact ⟨_, by assumption⟩
  · cases h
theorem isBoolT_some {t : TypeId} (h : isBoolT P t = true) : P.underlying t = some .bool := by
  unfold isBoolT undl at h
  split at h
  · assumption
  · cases h
theorem isSliceT_some {t : TypeId} (h : isSliceT P t = true) : ∃ e, P.underlying t = some (.slice e) := by
  unfold isSliceT undl at h
  split at h
  · exact ⟨_, by assumption⟩
  · cases h
theorem evNilEq_sound {op : BinOp} {t e' : TypeId} (ht : P.underlying t = some (.slice e')) {a : Option Addr} {n c : Nat} {e : Bool} {Q : SV → Prop} (h : (evNilEq op e).can Q) (ha : e = false → a.isSome = true) :
    ∃ s v, Q s ∧ (binOp op t (.slice a n c) (.slice none 0 0)).run P w = .ok v w ∧ Sv F G ow w.heap s v := by
  have he : (Op.equal t (.slice a n c) (.slice none 0 0)).run P w = .ok a.isNone w := run_equal_of fun d => run_equalIn_nil ht a n c d
  unfold evNilEq at h
  split at h
  · have hr : (binOp .eql t (.slice a n c) (.slice none 0 0)).run P w = .ok (.bool a.isNone) w := by simp [binOp, he]
    cases a with
    | none =>
      cases e with
      | true => exact ⟨_, _, h.1, hr, .lb _⟩
      | false => simp at ha
    | some a =>
      cases e with
      | true => exact ⟨_, _, h.2, hr, .lb _⟩
      | false => exact ⟨_, _, h, hr, .lb _⟩
  · have hr : (binOp .neq t (.slice a n c) (.slice none 0 0)).run P w = .ok (.bool !a.isNone) w := by simp [binOp, he]
    cases a with
    | none =>
      cases e with
      | true => exact ⟨_, _, h.1, hr, .lb _⟩
      | false => simp at ha
    | some a =>
      cases e with
      | true => exact ⟨_, _, h.2, hr, .lb _⟩
      | false => exact ⟨_, _, h, hr, .lb _⟩
  · exact h.elim
theorem emptyOf_sound (hh : HRep F G ow w.heap) {x : SV} {xv : Value} (hx : Sv F G ow w.heap x xv) {e : Bool} (h : emptyOf ow x = some e) : ∃ a n c, xv = .slice a n c ∧ (e = false → a.isSome = true) := by
  unfold emptyOf at h
  split at h
  · cases h
    obtain ⟨_, a, c, rfl, _, hx⟩ := hx.sl_inv
    refine ⟨_, _, _, rfl, fun he => ?_⟩
    rcases hx with rfl | ⟨_, _, _, rfl, _⟩
    · simp at he
    · rfl
  · split at h
    · rename_i r hr
      cases h
      obtain ⟨_, _, _, _, _, _, _, a, c, rfl, _, hx⟩ := rowOf_sound hh hx hr
      refine ⟨_, _, _, rfl, fun he => ?_⟩
      rcases hx with hx | ⟨_, _, _, _, rfl, _⟩
      · simp [hx] at he
      · rfl
    · cases h
theorem evBin_sound {op : BinOp} {t : TypeId} {cst : Bool} {xo yo : Operand} (hcst : cst = ((xo matches .const _) || (yo matches .const _))) {x y : SV} {xv yv : Value} (hh : HRep F G ow w.heap)
    (hx : Sv F G ow w.heap x xv) (hy : Sv F G ow w.heap y yv) {Q : SV → Prop} (h : (evBin P op t cst x y ow).can Q) :
    ∃ s v, Q s ∧ (do eqGuard op t xo yo xv yv; binOp op t xv yv : Sem Value).run P w = .ok v w ∧ Sv F G ow w.heap s v := by
  unfold evBin at h
  split at h
  · rename_i k a k' b
    rw [hx.int_inv, hy.int_inv]
    have hg : (eqGuard op t xo yo (.int k a) (.int k' b)).run P w = .ok () w := run_eqGuard_plain _ _ _ _ _ _ (by simp) (by simp)
    split at h
    · obtain ⟨hc, h⟩ := h
      have hc : ¬ b < (0 : Int) := Int.not_lt.2 (of_decide_eq_true hc)
      exact ⟨_, _, h, run_bin hg (by simp [binOp, Op.shift, hc]), .int _ _⟩
    · obtain ⟨hc, h⟩ := h
      have hc : ¬ b < (0 : Int) := Int.not_lt.2 (of_decide_eq_true hc)
      exact ⟨_, _, h, run_bin hg (by simp [binOp, Op.shift, hc]), .int _ _⟩
    · split at h
      · rename_i hk
        subst hk
        obtain ⟨s, v, hq, hr, hs⟩ := binInt_sound (F := F) (G := G) (ow := ow) (w := w) (P := P) (t := t) h
        exact ⟨s, v, hq, run_bin hg hr, hs⟩
      · exact h.elim
  · rename_i a b
    split at h
    · rw [hx.str_inv, hy.str_inv]
      obtain ⟨s, v, hq, hr, hs⟩ := binStr_sound (F := F) (G := G) (ow := ow) (w := w) (P := P) (t := t) h
      exact ⟨s, v, hq, run_bin (run_eqGuard_plain _ _ _ _ _ _ (by simp) (by simp)) hr, hs⟩
    · exact h.elim
  · rename_i a b
    split at h
    · rename_i hc
      simp only [Bool.and_eq_true] at hc
      obtain ⟨ms, hu⟩ := isIfaceT_some hc.1
      obtain ⟨hab, h⟩ := h
      have hcc := hc.2
      rw [hcst] at hcc
      cases hx with
      | v _ hx =>
      cases hy with
      | v _ hy =>
      rcases hx with ⟨rfl, hx⟩ | ⟨rfl, tx, vx, hx⟩ <;> rcases hy with ⟨rfl, hy⟩ | ⟨rfl, ty, vy, hy⟩ <;> cases hx <;> cases hy
      · obtain ⟨s, v, hq, hr, hs⟩ := evEq_sound (F := F) (G := G) (ow := ow) (w := w) (P := P) (t := t) (a := .nilIface) (b := .nilIface) h (run_equal_of fun d => run_equalIn_00 hu d)
          (fun op ho => by rcases ho with rfl | rfl <;> simp [binOp])
        refine ⟨s, v, hq, run_bin (run_eqGuard_of _ _ _ _ _ _ ?_) hr, hs⟩
        simp only []
        rw [if_pos (by simpa using hcc)]
        rfl
      · obtain ⟨s, v, hq, hr, hs⟩ := evEq_sound (F := F) (G := G) (ow := ow) (w := w) (P := P) (t := t) (a := .nilIface) (b := .iface ty vy) h (run_equal_of fun d => run_equalIn_01 hu d ty vy)
          (fun op ho => by rcases ho with rfl | rfl <;> simp [binOp])
        exact ⟨s, v, hq, run_bin (run_eqGuard_plain _ _ _ _ _ _ (by simp) (by simp)) hr, hs⟩
      · obtain ⟨s, v, hq, hr, hs⟩ := evEq_sound (F := F) (G := G) (ow := ow) (w := w) (P := P) (t := t) (a := .iface tx vx) (b := .nilIface) h (run_equal_of fun d => run_equalIn_10 hu d tx vx)
          (fun op ho => by rcases ho with rfl | rfl <;> simp [binOp])
        exact ⟨s, v, hq, run_bin (run_eqGuard_plain _ _ _ _ _ _ (by simp) (by simp)) hr, hs⟩
      · simp at hab
    · exact h.elim
  · rename_i a b
    split at h
    · rename_i fs hu
      split at h
      · exact h.elim
      rename_i hst
      simp only [Bool.or_eq_true, not_or, Bool.not_eq_true] at hst
      split at h
      · rename_i c hc
        obtain ⟨xs, rfl, hxs⟩ := hx.agg_inv
        obtain ⟨ys, rfl, hys⟩ := hy.agg_inv
        have hf : P.fieldsOf t = fs := by simp [Program.fieldsOf, undl] at hu ⊢; rw [hu]
        have hu' : P.underlying t = some (.struct (P.fieldsOf t)) := by rw [hf]; exact hu
        have he : (Op.equal t (.agg xs.toArray) (.agg ys.toArray)).run P w = .ok c w := by
          show (Op.equalIn (9998 + 1 + 1) t _ _).run P w = _
          generalize (9998 : Nat) = d
          rw [run_equalIn_struct w (d + 1) t _ _ hu' hst.1, hf]
          exact eqFieldsS_sound fs.toList 0 hc d (by simpa using hxs) (by simpa using hys)
        obtain ⟨s, v, hq, hr, hs⟩ := evEq_sound (F := F) (G := G) (ow := ow) (w := w) (P := P) (t := t) h he (fun op ho => by rcases ho with rfl | rfl <;> simp [binOp])
        exact ⟨s, v, hq, run_bin (run_eqGuard_agg w op t xo yo _ _ hst.2) hr, hs⟩
      · exact h.elim
    · exact h.elim
  · split at h
    · rename_i ht
      obtain ⟨e, hu⟩ := isSliceT_some ht
      split at h
      · rename_i c hc
        cases hx
        cases hy
        have he : (Op.equal t (.slice none 0 0) (.slice none 0 0)).run P w = .ok true w := run_equal_of fun d => run_equalIn_nil hu none 0 0 d
        have hg : (eqGuard op t xo yo (.slice none 0 0) (.slice none 0 0)).run P w = .ok () w := run_eqGuard_plain _ _ _ _ _ _ (by simp) (by simp)
        cases op <;> simp [eqOp] at hc
        · subst hc; exact ⟨_, _, h, run_bin hg (by simp [binOp, he]), .lb _⟩
        · subst hc; exact ⟨_, _, h, run_bin hg (by simp [binOp, he]), .lb _⟩
      · exact h.elim
    · exact h.elim
  · split at h
    · rename_i ht
      obtain ⟨e, hu⟩ := isSliceT_some ht
      split at h
      · rename_i c hc
        cases hy
        obtain ⟨a, n, cc, rfl, ha⟩ := emptyOf_sound hh hx hc
        obtain ⟨s, v, hq, hr, hs⟩ := evNilEq_sound (F := F) (G := G) (ow := ow) (w := w) hu h ha
        exact ⟨s, v, hq, run_bin (run_eqGuard_plain _ _ _ _ _ _ (by simp) (by simp)) hr, hs⟩
      · exact h.elim
    · exact h.elim
  · split at h
    · rename_i a b ha hb
      split at h
      · rename_i ht
        have hu := isBoolT_some ht
        rw [boolOf_inv hx ha, boolOf_inv hy hb]
        obtain ⟨s, v, hq, hr, hs⟩ := evEq_sound (F := F) (G := G) (ow := ow) (w := w) (P := P) (t := t) (a := .bool a) (b := .bool b) h (run_equal_of fun d => run_equalIn_bool' w d t a b hu)
          (fun op ho => by rcases ho with rfl | rfl <;> simp [binOp])
        exact ⟨s, v, hq, run_bin (run_eqGuard_plain _ _ _ _ _ _ (by simp) (by simp)) hr, hs⟩
      · exact h.elim
    · exact h.elim
theorem evUn_sound {op : UnOp} {x : SV} {xv : Value} (hx : Sv F G ow w.heap x xv) {Q : SV → Prop} (h : (evUn op x).can Q) : ∃ s v, Q s ∧ (Op.unary op xv).run P w = .ok v w ∧ Sv F G ow w.heap s v := by
  unfold evUn at h
  split at h
  · rw [hx.bool_inv]; exact ⟨_, _, h, by simp [Op.unary], .bool _⟩
  · rw [hx.lb_inv]; exact ⟨_, _, h, by simp [Op.unary], .lb _⟩
  · rw [hx.int_inv]; exact ⟨_, _, h, by simp [Op.unary, Op.intArith], .int _ _⟩
  · rw [hx.int_inv]; exact ⟨_, _, h, by simp [Op.unary, Op.intBits], .int _ _⟩
  · exact h.elim
theorem evPick_sound {c a b : SV} {cv av bv : Value} (hc : Sv F G ow w.heap c cv) (ha : Sv F G ow w.heap a av) (hb : Sv F G ow w.heap b bv) {Q : SV → Prop} (h : (evPick c a b).can Q) :
    ∃ s v, Q s ∧ (do pure (if ← asBool cv then av else bv) : Sem Value).run P w = .ok v w ∧ Sv F G ow w.heap s v := by
  unfold evPick at h
  split at h
  · rename_i t
    rw [hc.lb_inv]
    cases t
    · exact ⟨_, bv, h, by simp [asBool], hb⟩
    · exact ⟨_, av, h, by simp [asBool], ha⟩
  · rename_i t
    split at h
    · rename_i x y hx hy
      rw [hc.bool_inv, boolOf_inv ha hx, boolOf_inv hb hy]
      cases t
      · exact ⟨_, _, h, by simp [asBool], .bool _⟩
      · exact ⟨_, _, h, by simp [asBool], .bool _⟩
    · exact h.elim
  · exact h.elim
end
end Go.Pev
end

section
/-
 PEV, part 8: structs, interfaces; all the operations that only read.
-/
namespace Go.Pev
section
variable {F : Nat → Prop} {G : Gh} {ow : OW} {w : World} {P : Program}
theorem one_of {s : SV} {v : Value} (h : Sv F G ow w.heap s v) (hs : cellOk s = true) : v.oneCell' = true := by
 cases h with
 | @v k x val hk hx =>
  cases k with
  | int _ => cases hx; rfl
  | bool => cases hx; rfl
  | str => cases hx; rfl
  | err => rcases hx with ⟨_, hx⟩ | ⟨_, _, _, hx⟩ <;> cases hx <;> rfl
  | any => cases hx; rfl
  | sl o e =>
   cases o with
   | true => exact hx.elim
   | false => obtain ⟨_, _, hx, _⟩ := hx; cases hx; rfl
  | nil => cases hk
  | cons _ _ => cases hk
  | tree _ => exact hx.elim
 | lb => rfl
 | dead => cases hs
 | nils => rfl
 | agg => cases hs
 | tup => cases hs
 | fn => rfl
 | wh h =>
  unfold HandR at h
  split at h
  ·exact h.elim
  ·exact h
  ·exact h.elim
  ·obtain ⟨_, _, _, rfl, _⟩ := h; rfl
  ·obtain ⟨_, _, _, rfl, _⟩ := h; rfl
  ·obtain ⟨_, _, _, rfl, _⟩ := h; rfl
  ·obtain ⟨_, _, rfl⟩ := h; rfl
 | os h =>
  unfold HandR at h
  split at h
  ·exact h.elim
  ·exact h
  ·exact h.elim
  ·obtain ⟨_, _, _, rfl, _⟩ := h; rfl
  ·obtain ⟨_, _, _, rfl, _⟩ := h; rfl
  ·obtain ⟨_, _, _, rfl, _⟩ := h; rfl
  ·obtain ⟨_, _, rfl⟩ := h; rfl
 | bp h =>
  split at h
  ·exact h.elim
  ·exact h
  ·obtain ⟨_, _, _, rfl⟩ := h; rfl
  ·exact h.elim
 | rp h =>
  split at h
  ·exact h.elim
  ·exact h
  ·obtain ⟨_, _, _, _, rfl⟩ := h; rfl
  ·obtain ⟨_, _, _, _, rfl⟩ := h; rfl
  ·obtain ⟨_, _, _, _, rfl⟩ := h; rfl
  ·exact h
  ·exact h.elim
 | ip => rfl
theorem cells_of_one {v : Value} (h : v.oneCell' = true) : v.cells = #[v] := by cases v <;> simp_all [Value.cells, Value.oneCell']
theorem cellsOfSV_sound {t : TypeId} {s : SV} {v : Value} (hs : Sv F G ow w.heap s v) {new : List SV} (h : cellsOfSV P t s = some new) :
  ∃ vs, v.cells = vs.toArray ∧ Svs F G ow w.heap new vs ∧ (∀ u ∈ vs, u.oneCell' = true) ∧ vs.length = sizeT P t := by
 unfold cellsOfSV at h
 split at h
 ·split at h
  ·split at h
   ·rename_i l hl
    simp only [Bool.and_eq_true, decide_eq_true_eq] at hl
    cases h
    obtain ⟨vs, rfl, hvs⟩ := hs.agg_inv
    refine ⟨vs, rfl, hvs, fun u hu => ?_, by rw [← hvs.1, hl.1]⟩
    obtain ⟨i, hi, rfl⟩ := List.getElem_of_mem hu
    have h1 : i < new.length := by rw [hvs.1]; exact hi
    exact one_of (hvs.2 i h1 hi) (List.all_eq_true.1 hl.2 _ (List.getElem_mem h1))
   ·cases h
  ·cases h
 ·split at h
  ·rename_i hc
   simp only [Bool.and_eq_true, decide_eq_true_eq] at hc
   cases h
   have h1 := one_of hs hc.1
   exact ⟨[v], cells_of_one h1, .cons hs .nil, by simpa using h1, by simp [hc.2]⟩
  ·cases h
theorem ofVal_sound : (n : Nat) → (v : Value) → Sv F G ow w.heap (ofVal n v) v := by
 intro n
 induction n with
 | zero =>
  intro v
  unfold ofVal
  split
  ·exact .lb _
  ·exact .int _ _
  ·rename_i s; exact .v rfl (by simp [Rep])
  ·exact .nils
  ·exact .v rfl (.inl ⟨rfl, rfl⟩)
  ·rename_i e; cases e
  ·rename_i e; cases e
  ·exact .dead _
 | succ n ih =>
  intro v
  unfold ofVal
  split
  ·exact .lb _
  ·exact .int _ _
  ·rename_i s; exact .v rfl (by simp [Rep])
  ·exact .nils
  ·exact .v rfl (.inl ⟨rfl, rfl⟩)
  ·rename_i f cs e
   cases e
   have : Sv F G ow w.heap (.agg (cs.toList.map (ofVal n))) (.agg cs.toList.toArray) := .agg (by simp) (fun i h1 h2 => by simp only [List.getElem_map]; exact ih _)
   simpa using this
  ·rename_i f g a b e
   cases e
   have : Sv F G ow w.heap (.fn g (a.toList.map (ofVal n)) (b.toList.map (ofVal n))) (.func g a.toList.toArray b.toList.toArray) :=
    .fn (by simp) (by simp) (fun i h1 h2 => by simp only [List.getElem_map]; exact ih _) (fun i h1 h2 => by simp only [List.getElem_map]; exact ih _)
   simpa using this
  ·exact .dead _
theorem zeroCells_sound {t : TypeId} {cells : List SV} (h : zeroCells P t = some cells) : ∃ i v, P.info? t = some i ∧ i.zero = some v ∧ v.cells.size = i.size ∧ Svs F G ow w.heap cells v.cells.toList := by
 unfold zeroCells at h
 split at h
 ·rename_i i hi
  split at h
  ·rename_i v hv
   split at h
   ·rename_i hs
    cases h
    exact ⟨i, v, hi, hv, hs, by simp, fun j h1 h2 => by simp only [List.getElem_map]; exact ofVal_sound 4 _⟩
   ·cases h
  ·cases h
 ·cases h
theorem run_zeroValue {t : TypeId} {i : TypeInfo} {v : Value} (hi : P.info? t = some i) (hz : i.zero = some v) : (zeroValue t).run P w = .ok v w := by
 simp [zeroValue, typeInfo, hi, hz]
theorem setCells_foldl {cells new : List SV} {cs vs : List Value} (hc : Svs F G ow w.heap cells cs) (hn : Svs F G ow w.heap new vs) {off : Nat} {r : List SV} (h : setCells cells off new = some r) :
  off + vs.length ≤ cs.length ∧ Svs F G ow w.heap r (cs.take off ++ vs ++ cs.drop (off + vs.length)) ∧
  vs.toArray.zipIdx.foldl (fun a (x : Value × Nat) => a.setIfInBounds (off + x.2) x.1) cs.toArray = (cs.take off ++ vs ++ cs.drop (off + vs.length)).toArray := by
 unfold setCells at h
 split at h
 ·rename_i hle
  cases h
  have hle' : off + vs.length ≤ cs.length := by rw [← hc.1, ← hn.1]; exact hle
  refine ⟨hle', ?_, ?_⟩
  ·rw [hn.1]
   exact ((hc.take off).append hn).append (hc.drop _)
  ·obtain ⟨h1, h2⟩ := Great.foldl_set off vs 0 cs.toArray
   have e : vs.toArray.zipIdx.foldl (fun a (x : Value × Nat) => a.setIfInBounds (off + x.2) x.1) cs.toArray = (vs.zipIdx 0).foldl (fun a (x : Value × Nat) => a.setIfInBounds (off + x.2) x.1) cs.toArray := by
    rw [← Array.foldl_toList]; simp
   rw [e]
   apply Array.ext_getElem?
   intro k
   rw [h2 k]
   simp only [Nat.add_zero, List.size_toArray, List.getElem?_toArray]
   by_cases hk : k < off
   ·rw [if_neg (by omega), List.append_assoc, List.getElem?_append_left (by simp; omega), List.getElem?_take_of_lt hk]
   ·by_cases hk2 : k < off + vs.length
    ·rw [if_pos (by omega), List.getElem?_append_left (by simp; omega), List.getElem?_append_right (by simp; omega)]
     simp [Nat.min_eq_left (show off ≤ cs.length by omega)]
    ·rw [if_neg (by omega), List.getElem?_append_right (by simp; omega)]
     simp only [List.length_append, List.length_take, List.getElem?_drop]
     congr 1
     omega
 ·cases h
theorem fillS_sound {t : TypeId} {fs : Array Field} (hu : P.underlying t = some (.struct fs)) : (ps : List (Nat × SV)) → {cells r : List SV} → fillS P t cells ps = some r → {cs : List Value} → Svs F G ow w.heap cells cs →
  {vps : List (Nat × Value)} → ps.map (·.1) = vps.map (·.1) → Svs F G ow w.heap (ps.map (·.2)) (vps.map (·.2)) →
  ∃ vs, Instr.fill ((fs.map fun f => (f.offset, sizeT P f.type))[·]?) cs.toArray vps = some vs.toArray ∧ Svs F G ow w.heap r vs
 | [], _, _, h, cs, hc, vps, h1, _ => by
  cases h
  cases vps with
  | nil => exact ⟨cs, rfl, hc⟩
  | cons _ _ => simp at h1
 | (f, s) :: ps, cells, r, h, cs, hc, vps, h1, h2 => by
  cases vps with
  | nil => simp at h1
  | cons p vps =>
  obtain ⟨f', v⟩ := p
  simp only [List.map_cons, List.cons.injEq] at h1
  obtain ⟨rfl, h1⟩ := h1
  obtain ⟨v', vs', e, hv, hvs⟩ := h2.uncons
  simp only [List.map_cons, List.cons.injEq] at e
  obtain ⟨rfl, rfl⟩ := e
  simp only [fillS] at h
  split at h
  ·rename_i fd hfd
   split at h
   ·rename_i new hnew
    split at h
    ·rename_i cells' hcells'
     obtain ⟨vs, hcs, hn, _, hlen⟩ := cellsOfSV_sound hv hnew
     obtain ⟨hle, hsv, hfold⟩ := setCells_foldl hc hn hcells'
     obtain ⟨vr, hr, hvr⟩ := fillS_sound hu ps h hsv h1 hvs
     refine ⟨vr, ?_, hvr⟩
     obtain ⟨fs', hu', hf'⟩ := fieldT_some hfd
     rw [hu] at hu'
     cases hu'
     have hp : (fs.map fun f => (f.offset, sizeT P f.type))[f]? = some (fd.offset, sizeT P fd.type) := by simp [hf']
     unfold Instr.fill
     simp only [hp, hcs, List.size_toArray]
     rw [if_neg (by simp [hlen]; omega), hfold]
     exact hr
    ·cases h
   ·cases h
  ·cases h
theorem run_places (l : List Field) (h : l.all (fun f => (P.info? f.type).isSome) = true) : (l.mapM fun f => (do pure (f.offset, ← sizeOf f.type) : Sem (Nat × Nat))).run P w = .ok (l.map fun f => (f.offset, sizeT P f.type)) w := by
 induction l with
 | nil => rfl
 | cons f l ih =>
  simp only [List.all_cons, Bool.and_eq_true] at h
  obtain ⟨i, hi⟩ := Option.isSome_iff_exists.1 h.1
  simp only [List.mapM_cons, Sem.run_bind, sizeT_run hi, Result.andThen_ok, Sem.run_pure, ih h.2, List.map_cons]
theorem evBuild_sound {t : TypeId} {ps : List (Nat × SV)} {vps : List (Nat × Value)} (h1 : ps.map (·.1) = vps.map (·.1)) (h2 : Svs F G ow w.heap (ps.map (·.2)) (vps.map (·.2))) {Q : SV → Prop} (h : (evBuild P t ps).can Q) :
  ∃ s v, Q s ∧ (Instr.build t vps.toArray).run P w = .ok v w ∧ Sv F G ow w.heap s v := by
 unfold evBuild undl at h
 split at h
 ·rename_i cells fs hz hu
  split at h
  ·rename_i hall
   split at h
   ·rename_i r hr
    obtain ⟨i, z, hi, hiz, _, hzs⟩ := zeroCells_sound (F := F) (G := G) (ow := ow) (w := w) hz
    obtain ⟨vs, hvs, hsv⟩ := fillS_sound hu ps hr hzs h1 h2
    refine ⟨_, .agg vs.toArray, h, ?_, hsv.agg⟩
    simp only [Instr.build, Sem.run_bind, run_zeroValue hi hiz, Result.andThen_ok, run_underlying hu]
    have e : (fs.mapM fun f => (do pure (f.offset, ← sizeOf f.type) : Sem (Nat × Nat))).run P w = .ok (fs.map fun f => (f.offset, sizeT P f.type)) w := by
     rw [Array.mapM_eq_mapM_toList, Sem.run_map, run_places _ hall]
     simp only [Result.andThen_ok]
     congr 1
     apply Array.ext'
     simp
    rw [e]
    simp only [Result.andThen_ok]
    simp only [Array.toArray_toList] at hvs
    rw [hvs]
    rfl
   ·exact h.elim
  ·exact h.elim
 ·exact h.elim
theorem run_part {t : TypeId} {d : TypeDesc} (hu : P.underlying t = some d) {cs : List Value} {off : Nat} (hle : (if isAggT P t then sizeT P t else 1) ≤ (cs.drop off).length) :
  (part t cs.toArray off).run P w = .ok (valOf (isAggT P t) ((cs.drop off).take (if isAggT P t then sizeT P t else 1))) w := by
 obtain ⟨i, hi⟩ := info_of_underlying hu
 cases ha : isAggT P t with
 | true =>
  simp only [part, Sem.run_bind, isAggT_run hu, ha, Result.andThen_ok, if_true, sizeT_run hi, Sem.run_pure, valOf]
  congr 2
  apply Array.ext'
  simp
 | false =>
  simp only [ha, Bool.false_eq_true, if_false, List.length_drop] at hle
  have hc : cs[off]? = some (cs[off]'(by omega)) := List.getElem?_eq_getElem (by omega)
  have e : (cs.drop off).take 1 = [cs[off]'(by omega)] := by rw [List.drop_eq_getElem_cons (by omega)]; rfl
  simp [part, isAggT_run hu, ha, hc, valOf, e]
theorem evField_sound {t : TypeId} {x : SV} {xv : Value} {f : Nat} (hx : Sv F G ow w.heap x xv) {Q : SV → Prop} (h : (evField P t x f).can Q) :
  ∃ s v, Q s ∧ (Instr.field t xv f).run P w = .ok v w ∧ Sv F G ow w.heap s v := by
 unfold evField at h
 split at h
 ·rename_i cs fd hf
  obtain ⟨s, hs, hq⟩ := Cmd.can_ofOpt h
  obtain ⟨vs, rfl, hvs⟩ := hx.agg_inv
  obtain ⟨fs, hu, hf'⟩ := fieldT_some hf
  obtain ⟨⟨d, hd⟩, _, hle, hsv⟩ := sv_valOfCells (hvs.drop fd.offset) hs
  rw [(hvs.drop fd.offset).1] at hle
  refine ⟨s, _, hq, ?_, hsv⟩
  simp only [Instr.field, Sem.run_bind, run_underlying hu, Result.andThen_ok, hf', asAgg, Sem.run_pure]
  exact run_part hd hle
 ·exact h.elim
theorem evIface_sound {t : TypeId} {x : SV} {xv : Value} (hx : Sv F G ow w.heap x xv) {Q : SV → Prop} (h : (evIface P t x).can Q) :
  ∃ s v, Q s ∧ (Instr.makeInterface t xv).run P w = .ok v w ∧ Sv F G ow w.heap s v := by
 unfold evIface undl at h
 split at h
 ·rename_i n hu
  rw [hx.int_inv]
  exact ⟨_, .iface t (.int .i64 n), h, by simp [Instr.makeInterface, run_underlying hu], .v rfl rfl⟩
 ·rename_i s hu
  rw [hx.str_inv]
  exact ⟨_, .iface t (.string ⟨s.toArray⟩), h, by simp [Instr.makeInterface, run_underlying hu], .v rfl rfl⟩
 ·exact h.elim
theorem zeroInt_some {t : TypeId} (h : zeroInt P t = true) : ∃ i, P.info? t = some i ∧ i.zero = some (.int .i64 0) := by
 unfold zeroInt at h
 split at h
 ·rename_i e
  simp only [Option.bind_eq_some_iff] at e
  exact e
 ·cases h
theorem zeroStr_some {t : TypeId} (h : zeroStr P t = true) : ∃ i, P.info? t = some i ∧ i.zero = some (.string ⟨#[]⟩) := by
 unfold zeroStr at h
 split at h
 ·rename_i s e
  simp only [Option.bind_eq_some_iff] at e
  obtain ⟨i, hi, hz⟩ := e
  refine ⟨i, hi, ?_⟩
  rw [hz]
  obtain ⟨d⟩ := s
  simp at h
  rw [h]
 ·cases h
theorem evAssert_sound {xt t : TypeId} {x : SV} {xv : Value} (hx : Sv F G ow w.heap x xv) {Q : SV → Prop} (h : (evAssert P t x).can Q) :
  ∃ s v, Q s ∧ (Instr.typeAssert xv xt t true).run P w = .ok v w ∧ Sv F G ow w.heap s v := by
 unfold evAssert undl at h
 split at h
 ·rename_i y hu
  split at h
  ·rename_i hz
   obtain ⟨i, hi, hiz⟩ := zeroInt_some hz
   obtain ⟨hc, h⟩ := h
   cases hx with
   | v _ hx =>
   cases hx
   obtain ⟨ty, u⟩ := y
   by_cases ht : ty = t
   ·subst ht
    cases u with
    | inl n =>
     refine ⟨_, .tuple #[.int .i64 n, .bool true], h, by simp [Instr.typeAssert, run_underlying hu, anyV], ?_⟩
     simp only [beq_self_eq_true, cond_true]
     exact .tup rfl (Svs.cons (.int _ _) (.cons (.bool _) .nil)).2
    | inr s => simp at hc
   ·refine ⟨_, .tuple #[.int .i64 0, .bool false], h, by simp [Instr.typeAssert, run_underlying hu, ht, run_zeroValue hi hiz], ?_⟩
    have : (ty == t) = false := by simpa using ht
    simp only [this, cond_false]
    exact .tup rfl (Svs.cons (.int _ _) (.cons (.bool _) .nil)).2
  ·exact h.elim
 ·rename_i y hu
  split at h
  ·rename_i hz
   obtain ⟨i, hi, hiz⟩ := zeroStr_some hz
   obtain ⟨hc, h⟩ := h
   cases hx with
   | v _ hx =>
   cases hx
   obtain ⟨ty, u⟩ := y
   by_cases ht : ty = t
   ·subst ht
    cases u with
    | inr n =>
     refine ⟨_, .tuple #[.string ⟨n.toArray⟩, .bool true], h, by simp [Instr.typeAssert, run_underlying hu, anyV], ?_⟩
     simp only [beq_self_eq_true, cond_true]
     exact .tup rfl (Svs.cons (.str _) (.cons (.bool _) .nil)).2
    | inl s => simp at hc
   ·refine ⟨_, .tuple #[.string ⟨#[]⟩, .bool false], h, by simp [Instr.typeAssert, run_underlying hu, ht, run_zeroValue hi hiz], ?_⟩
    have : (ty == t) = false := by simpa using ht
    simp only [this, cond_false]
    exact .tup rfl (Svs.cons (.str []) (.cons (.bool _) .nil)).2
  ·exact h.elim
 ·exact h.elim
theorem min2_sound {k : IntKind} : (l : List SV) → {vs : List Value} → Svs F G ow w.heap l vs → {a n : Int} → min2 k l a = some n → (vs.foldlM Builtin.min2 (.int k a)).run P w = .ok (.int k n) w
 | [], vs, hl, a, n, h => by
  cases h
  have : vs = [] := List.eq_nil_of_length_eq_zero hl.1.symm
  subst this; rfl
 | s :: r, vs, hl, a, n, h => by
  obtain ⟨v, vs', rfl, hv, hvs⟩ := hl.uncons
  unfold min2 at h
  split at h
  ·rename_i e; cases e
  ·rename_i k' y r' e
   cases e
   split at h
   ·rename_i hk
    subst hk
    rw [hv.int_inv]
    simp only [List.foldlM_cons, Sem.run_bind, Builtin.min2, Sem.run_pure, Result.andThen_ok]
    exact min2_sound r hvs h
   ·cases h
  ·cases h
theorem max2_sound {k : IntKind} : (l : List SV) → {vs : List Value} → Svs F G ow w.heap l vs → {a n : Int} → max2 k l a = some n → (vs.foldlM Builtin.max2 (.int k a)).run P w = .ok (.int k n) w
 | [], vs, hl, a, n, h => by
  cases h
  have : vs = [] := List.eq_nil_of_length_eq_zero hl.1.symm
  subst this; rfl
 | s :: r, vs, hl, a, n, h => by
  obtain ⟨v, vs', rfl, hv, hvs⟩ := hl.uncons
  unfold max2 at h
  split at h
  ·rename_i e; cases e
  ·rename_i k' y r' e
   cases e
   split at h
   ·rename_i hk
    subst hk
    rw [hv.int_inv]
    simp only [List.foldlM_cons, Sem.run_bind, Builtin.max2, Sem.run_pure, Result.andThen_ok]
    exact max2_sound r hvs h
   ·cases h
  ·cases h
def Rho (F : Nat → Prop) (G : Gh) (ow : OW) (h : Array Obj) (ρ : Operand → SV) (ρv : Operand → Value) : Prop := ∀ x, Sv F G ow h (ρ x) (ρv x)
theorem Rho.svs {ρ : Operand → SV} {ρv : Operand → Value} (hρ : Rho F G ow w.heap ρ ρv) (l : List Operand) : Svs F G ow w.heap (l.map ρ) (l.map ρv) :=
 ⟨by simp, fun i h1 h2 => by simp only [List.getElem_map]; exact hρ _⟩
theorem value_run {P : Program} {w : World} {s : Sem Value} {v : Value} (h : s.run P w = .ok v w) : (do pure (Next.value (← s)) : Sem Next).run P w = .ok (.value v) w := by
 rw [Sem.run_bind, h]; rfl
theorem evNilCheck_sound {x : SV} {xv : Value} (hx : Sv F G ow w.heap x xv) {Q : SV → Prop} (h : (evNilCheck x ow).can Q) :
  ∃ s, Q s ∧ Sv F G ow w.heap s xv ∧ ((∃ a, xv = .pointer (some a)) ∨ ∃ f a b, xv = .func (.func f) a b) := by
 unfold evNilCheck at h
 split at h
 ·split at h
  ·rename_i hb
   obtain ⟨cells, hn⟩ := isBox_some hb
   refine ⟨_, h, hx, .inl ?_⟩
   cases hx with
   | bp hp =>
   simp only [hn] at hp
   obtain ⟨b, o, _, rfl⟩ := hp
   exact ⟨_, rfl⟩
  ·exact h.elim
 ·split at h
  ·rename_i r hr
   obtain ⟨rfl, hn⟩ := rowW_some hr
   refine ⟨_, h, hx, .inl ?_⟩
   cases hx with
   | rp hp =>
   rcases hn with ⟨k, v', l, hn, rfl⟩ | ⟨k, v', l, hn, rfl⟩ | ⟨k, l, v', hn, rfl⟩ <;>
   ·simp only [hn] at hp
    obtain ⟨_, b, o, _, rfl⟩ := hp
    exact ⟨_, rfl⟩
  ·exact h.elim
 ·refine ⟨_, h, hx, .inl ?_⟩
  cases hx
  exact ⟨_, rfl⟩
 ·refine ⟨_, h, hx, .inr ?_⟩
  cases hx
  exact ⟨_, _, _, rfl⟩
 ·exact h.elim
theorem evRO_sound {o : Op} {op : Oper} (ho : op.op = o) {ρ : Operand → SV} {ρv : Operand → Value} (hh : HRep F G ow w.heap) (hρ : Rho F G ow w.heap ρ ρv) {Q : SV → Prop} (h : (evRO P o ρ ow).can Q) :
  ∃ s v, Q s ∧ (execOp ρv op).run P w = .ok (.value v) w ∧ Sv F G ow w.heap s v := by
 have fin : ∀ {c : Sem Value}, (∃ s v, Q s ∧ c.run P w = .ok v w ∧ Sv F G ow w.heap s v) → (execOp ρv op).run P w = (do pure (Next.value (← c)) : Sem Next).run P w →
   ∃ s v, Q s ∧ (execOp ρv op).run P w = .ok (.value v) w ∧ Sv F G ow w.heap s v := by
  intro c hc he
  obtain ⟨s, v, hq, hr, hs⟩ := hc
  exact ⟨s, v, hq, by rw [he, value_run hr], hs⟩
 unfold evRO at h
 split at h
 ·exact ⟨_, _, h, by simp [execOp, ho], hρ _⟩
 ·exact ⟨_, _, h, by simp [execOp, ho], hρ _⟩
 ·exact fin (evPick_sound (P := P) (hρ _) (hρ _) (hρ _) h) (by simp [execOp, ho])
 ·rename_i t parts
  refine fin (evBuild_sound (vps := parts.toList.map fun x => (x.1, ρv x.2)) (by simp) (by simp only [List.map_map]; exact (by simpa [Function.comp_def] using hρ.svs (parts.toList.map (·.2)))) h) ?_
  simp only [execOp, ho]
  congr 4
  apply Array.ext'
  simp
 ·exact fin (evLoad_sound (P := P) hh (hρ _) h) (by simp only [execOp, ho])
 ·obtain ⟨s, hq, hs, hv⟩ := evNilCheck_sound (hρ _) h
  refine ⟨s, _, hq, ?_, hs⟩
  rcases hv with ⟨a, ha⟩ | ⟨f, a, b, ha⟩
  ·simp [execOp, ho, ha]
  ·simp [execOp, ho, ha]
 ·exact fin (evBin_sound rfl hh (hρ _) (hρ _) h) (by simp only [execOp, ho])
 ·exact fin (evUn_sound (P := P) (hρ _) h) (by simp only [execOp, ho])
 ·exact fin (evConvert_sound (P := P) hh (hρ _) h) (by simp only [execOp, ho])
 ·rename_i f a b
  refine fin (c := Instr.makeFunc f (a.map ρv) (b.map ρv)) ⟨_, _, h, rfl, ?_⟩ (by simp only [execOp, ho])
  have := SvRep.fn (f := f) (hρ.svs a.toList).1 (hρ.svs b.toList).1 (hρ.svs a.toList).2 (hρ.svs b.toList).2
  have e : ∀ a : Array Operand, (a.toList.map ρv).toArray = a.map ρv := fun a => by apply Array.ext'; simp
  rw [e, e] at this
  exact this
 ·exact fin (evIface_sound (P := P) (hρ _) h) (by simp only [execOp, ho])
 ·rename_i x xt t
  exact fin (evAssert_sound (P := P) (xt := xt) (hρ _) h) (by simp only [execOp, ho])
 ·rename_i t x lo hi
  refine fin (evSlice_sound (P := P) (lov := lo.map ρv) (hiv := hi.map ρv) (hρ _) ?_ ?_ ?_ ?_ h) (by simp only [execOp, ho]; rfl)
  ·intro s hs; cases lo with
   | none => cases hs
   | some x => cases hs; exact ⟨_, rfl, hρ _⟩
  ·intro hs; cases lo with
   | none => rfl
   | some x => cases hs
  ·intro s hs; cases hi with
   | none => cases hs
   | some x => cases hs; exact ⟨_, rfl, hρ _⟩
  ·intro hs; cases hi with
   | none => rfl
   | some x => cases hs
 ·exact fin (evFieldAddr_sound (P := P) (hρ _) h) (by simp only [execOp, ho])
 ·exact fin (evField_sound (P := P) (hρ _) h) (by simp only [execOp, ho])
 ·exact fin (evIndexAddr_sound (P := P) (hρ _) (hρ _) h) (by simp only [execOp, ho])
 ·split at h
  ·rename_i ht
   exact fin (evIndex_sound (P := P) ht (hρ _) (hρ _) h) (by simp only [execOp, ho])
  ·exact h.elim
 ·rename_i t i
  split at h
  ·rename_i l hl
   split at h
   ·rename_i s hs
    have := hρ t
    rw [hl] at this
    obtain ⟨vs, hv, hvs⟩ := this.tup_inv
    obtain ⟨hi, rfl⟩ := List.getElem?_eq_some_iff.1 hs
    have hi2 : i < vs.length := by rw [← hvs.1]; exact hi
    exact fin (c := Instr.extract (ρv t) i) ⟨_, vs[i], h, by simp [Instr.extract, hv, hi2], hvs.2 i hi hi2⟩ (by simp only [execOp, ho])
   ·exact h.elim
  ·exact h.elim
 ·rename_i c
  split at h
  ·rename_i hc
   split at h
   ·rename_i x t ts hx ht
    obtain ⟨s, v, hq, hr, hs⟩ := evLen_sound (P := P) (ty := op.type) (ts := ts) (hρ x) h
    refine ⟨s, v, hq, ?_, hs⟩
    have e1 : c.args.map ρv = #[ρv x] := by apply Array.ext'; simp [hx]
    have e2 : c.argTypes = (t :: ts).toArray := by apply Array.ext'; simp [ht]
    simp only [execOp, ho, resolve, hc, Sem.run_bind, Sem.run_pure, Result.andThen_ok, invoke, builtin, e1, e2, hr]
   ·exact h.elim
  ·rename_i hc
   split at h
   ·rename_i k a r hx
    split at h
    ·rename_i n hn
     have hs := hρ.svs c.args.toList
     rw [hx] at hs
     obtain ⟨v, vs, hv, h1, h2⟩ := hs.uncons
     rw [h1.int_inv] at hv
     refine ⟨_, .int k n, h, ?_, .int _ _⟩
     have e1 : (c.args.map ρv).toList = .int k a :: vs := by simpa using hv
     simp only [execOp, ho, resolve, hc, Sem.run_bind, Sem.run_pure, Result.andThen_ok, invoke, builtin, Builtin.min_, e1, min2_sound r h2 hn]
    ·exact h.elim
   ·exact h.elim
  ·rename_i hc
   split at h
   ·rename_i k a r hx
    split at h
    ·rename_i n hn
     have hs := hρ.svs c.args.toList
     rw [hx] at hs
     obtain ⟨v, vs, hv, h1, h2⟩ := hs.uncons
     rw [h1.int_inv] at hv
     refine ⟨_, .int k n, h, ?_, .int _ _⟩
     have e1 : (c.args.map ρv).toList = .int k a :: vs := by simpa using hv
     simp only [execOp, ho, resolve, hc, Sem.run_bind, Sem.run_pure, Result.andThen_ok, invoke, builtin, Builtin.max_, e1, max2_sound r h2 hn]
    ·exact h.elim
   ·exact h.elim
  ·exact h.elim
 ·exact h.elim
end
end Go.Pev
end

section
/-
 PEV, part 9: steps that write: what stays.
-/
namespace Go.Pev
def EC : Option (Option OB) → Option (Option OB) → Prop
 | none, _ => True
 | some _, some none => True
 | some (some (.box _)), some (some (.box _)) => True
 | some (some (.row k _ l)), some (some (.row k' _ l')) => k = k' ∧ l.length = l'.length
 | some (some (.row k _ l)), some (some (.frow k' _ l')) => k = k' ∧ l.length = l'.length
 | some (some (.frow k _ l)), some (some (.frow k' _ l')) => k = k' ∧ l.length = l'.length
 | some (some (.row _ _ l)), some (some (.lrow n)) => l.length = n
 | some (some (.nrow k l _)), some (some (.nrow k' l' _)) => k = k' ∧ l.length = l'.length
 | some (some (.nrow k l _)), some (some (.frow k' _ l')) => k.w = k'.n ∧ l.length = l'.length
 | some (some (.nrow _ l _)), some (some (.lrow n)) => l.length = n
 | some (some (.lrow n)), some (some (.lrow m)) => n = m
 | _, _ => False
theorem EC.refl (x : Option (Option OB)) : EC x x := by
 match x with
 | none => trivial
 | some none => trivial
 | some (some (.box _)) => trivial
 | some (some (.row _ _ _)) => exact ⟨rfl, rfl⟩
 | some (some (.frow _ _ _)) => exact ⟨rfl, rfl⟩
 | some (some (.nrow _ _ _)) => exact ⟨rfl, rfl⟩
 | some (some (.lrow _)) => exact rfl
theorem EC.dead {x : Option (Option OB)} : EC x (some none) := by
 match x with
 | none => trivial
 | some none => trivial
 | some (some (.box _)) => trivial
 | some (some (.row _ _ _)) => trivial
 | some (some (.frow _ _ _)) => trivial
 | some (some (.nrow _ _ _)) => trivial
 | some (some (.lrow _)) => trivial
theorem ShR.length {h : Array Obj} {ok : Nat → Prop} : (s : Sh) → {x : s.T} → {vs : List Value} → {fp : List Nat} → ShR h ok s x vs fp → vs.length = s.w
 | .pur _, _, _, _, e => by obtain ⟨_, rfl, _⟩ := e; rfl
 | .own _, _, _, _, e => by obtain ⟨_, rfl, _⟩ := e; rfl
 | .row _, _, _, _, e => by obtain ⟨_, rfl, _⟩ := e; rfl
 | .rows _, _, _, _, e | .nrw _, _, _, _, e => by obtain ⟨_, rfl, _⟩ := e; rfl
 | .box _, _, _, _, e => by obtain ⟨_, _, _, _, _, rfl, _⟩ := e; rfl
 | .agg _, _, _, _, e => by obtain ⟨_, rfl, _⟩ := e; rfl
 | .fn _ _ _, _, _, _, e => by obtain ⟨_, _, rfl, _⟩ := e; rfl
 | .ign, _, _, _, e => by obtain ⟨_, rfl, _⟩ := e; rfl
 | .nl, _, _, _, e => by rw [e.1]; rfl
 | .nil, _, _, _, e => by rw [e.1]; rfl
 | .cons a b, _, _, _, e => by
  obtain ⟨v, r, f1, f2, rfl, rfl, e1, e2⟩ := e
  simp [Sh.w, ShR.length b e2]
theorem RowR.cells {h : Array Obj} {ok : Nat → Prop} {k : Kd} {l : List k.T} {v : Value} {fp : List Nat} (e : RowR h ok k l v fp) : ∀ b ∈ fp, ∃ r et, h[b]? = some (Obj.cells r et (0, 0)) := by
 obtain ⟨_, a, c, _, _, e⟩ := e
 rcases e with ⟨_, _, _, rfl⟩ | ⟨b, o, r, et, _, rfl, hb, _, _⟩
 ·intro b hb; simp at hb
 ·intro b' hb'
  have : b' = b := by simpa using hb'
  subst this
  exact ⟨r, et, hb⟩
theorem ShR.cells {h : Array Obj} {ok : Nat → Prop} : (s : Sh) → {x : s.T} → {vs : List Value} → {fp : List Nat} → ShR h ok s x vs fp → ∀ b ∈ fp, ∃ r et, h[b]? = some (Obj.cells r et (0, 0))
 | .pur _, _, _, _, e => by obtain ⟨_, _, rfl, _⟩ := e; intro b hb; simp at hb
 | .own _, _, _, _, e => by obtain ⟨_, _, e⟩ := e; exact e.cells
 | .row _, _, _, _, e => by obtain ⟨_, _, e⟩ := e; exact e.cells
 | .rows s, _, _, _, e | .nrw s, _, _, _, e => by
  obtain ⟨v, rfl, _, a, c, rfl, hl, e⟩ := e
  rcases e with ⟨_, _, _, rfl⟩ | ⟨b, o, r, et, fps, ha, rfl, hr, hc, hn, hj, he⟩
  ·intro b hb; simp at hb
  ·intro b' hb'
   rcases List.mem_cons.1 hb' with rfl | hb'
   ·exact ⟨r, et, hr⟩
   ·exact hj b' hb'
 | .box l, _, _, _, e => by
  obtain ⟨b, o, r, et, fp', rfl, rfl, hb, _, e⟩ := e
  intro b' hb'
  rcases List.mem_cons.1 hb' with rfl | hb'
  ·exact ⟨r, et, hb⟩
  ·exact ShR.cells l e b' hb'
 | .agg l, _, _, _, e => by obtain ⟨_, _, e⟩ := e; exact ShR.cells l e
 | .fn _ _ l, _, _, _, e => by obtain ⟨_, _, _, _, e⟩ := e; exact ShR.cells l e
 | .ign, _, _, _, e => by obtain ⟨_, _, rfl⟩ := e; intro b hb; simp at hb
 | .nl, _, _, _, e => by rw [e.2]; intro b hb; simp at hb
 | .nil, _, _, _, e => by rw [e.2]; intro b hb; simp at hb
 | .cons a b, _, _, _, e => by
  obtain ⟨v, r, f1, f2, rfl, rfl, e1, e2⟩ := e
  intro b' hb'
  rcases List.mem_append.1 hb' with hb' | hb'
  ·exact ShR.cells a e1 b' hb'
  ·exact ShR.cells b e2 b' hb'
theorem nrow_cells {h : Array Obj} {ok : Nat → Prop} {G : Gh} {ow : OW} {d j : Nat} {k : Sh} {l : List k.T} {foc : Option (Nat × List SV)} (e : ObRep h ok G ow d j (.nrow k l foc)) {i b o : Nat} (hg : G d j i = some (b, o)) : ∃ r et, h[b]? = some (Obj.cells r et (0, 0)) := by
 obtain ⟨_, fps, hG, e⟩ := e
 cases i with
 | zero =>
  simp only [hg] at e
  obtain ⟨r, et, hr, _⟩ := e
  exact ⟨r, et, hr⟩
 | succ i =>
  rw [hG] at hg
  cases hb : fps.flatten[i]? with
  | none => rw [hb] at hg; cases hg
  | some b' =>
   rw [hb] at hg
   simp only [Option.map_some, Option.some.injEq, Prod.mk.injEq] at hg
   obtain ⟨rfl, _⟩ := hg
   cases hm : G d j 0 with
   | none =>
    simp only [hm] at e
    rw [e.2.2] at hb
    simp at hb
   | some p =>
    simp only [hm] at e
    obtain ⟨r, et, hr, hs, hl, hj, _⟩ := e
    exact hj _ (List.mem_of_getElem? hb)
section
variable {F : Nat → Prop} {G G' : Gh} {ow ow' : OW} {h h' : Array Obj}
theorem own_iff {b : Nat} : Own G ow b ↔ ∃ d j i o, isOwn (nameOf ow d j) ∧ G d j i = some (b, o) := Iff.rfl
theorem HandR.mono {d j off : Nat} {len : Option Nat} {v : Value} (hG : nameOf ow d j ≠ none → G' d j 0 = G d j 0) (hE : EC (nameOf ow d j) (nameOf ow' d j))
  (hsz : ∀ b r, rowCells h b = some r → ∃ r', rowCells h' b = some r' ∧ r'.size = r.size) (hv : HandR h G ow d j off len v) : HandR h' G' ow' d j off len v := by
 have hand : ∀ {n off len : Nat}, G' d j 0 = G d j 0 → HandV h G n d j off len v → HandV h' G' n d j off len v := by
  intro n off len hg hv
  obtain ⟨a, c, rfl, hlc, hv⟩ := hv
  refine ⟨a, c, rfl, hlc, ?_⟩
  rcases hv with ⟨h0, h1⟩ | ⟨b, o, o', r, hG, ha, hr, ho, hs⟩
  ·exact .inl ⟨by rw [hg, h0], h1⟩
  ·obtain ⟨r', hr', hrs⟩ := hsz b r hr
   exact .inr ⟨b, o, o', r', by rw [hg, hG], ha, hr', ho, by rw [hrs]; exact hs⟩
 have one : ∀ {n off len : Nat}, HandV h G n d j off len v → v.oneCell' = true := by
  intro n off len hv
  obtain ⟨a, c, rfl, _⟩ := hv
  rfl
 unfold HandR at hv ⊢
 generalize nameOf ow d j = x at hG hE hv
 generalize nameOf ow' d j = y at hE
 match x, y, hE, hv with
 | some none, some none, _, hv => exact hv
 | some (some (.row k _ l)), some none, _, hv => exact one hv.2
 | some (some (.frow k _ l)), some none, _, hv => exact one hv.2
 | some (some (.nrow k l _)), some none, _, hv => exact one hv.2
 | some (some (.lrow n)), some none, _, hv => obtain ⟨_, _, rfl⟩ := hv; rfl
 | some (some (.row k _ l)), some (some (.row k' _ l')), hE, hv =>
  obtain ⟨rfl, e⟩ := hE
  dsimp only at hv ⊢
  rw [← e]
  exact ⟨hv.1, hand (hG (by simp)) hv.2⟩
 | some (some (.row k _ l)), some (some (.frow k' _ l')), hE, hv =>
  obtain ⟨rfl, e⟩ := hE
  dsimp only at hv ⊢
  rw [← e]
  exact ⟨hv.1, hand (hG (by simp)) hv.2⟩
 | some (some (.frow k _ l)), some (some (.frow k' _ l')), hE, hv =>
  obtain ⟨rfl, e⟩ := hE
  dsimp only at hv ⊢
  rw [← e]
  exact ⟨hv.1, hand (hG (by simp)) hv.2⟩
 | some (some (.nrow k l _)), some (some (.nrow k' l' _)), hE, hv =>
  obtain ⟨rfl, e⟩ := hE
  dsimp only at hv ⊢
  rw [← e]
  exact ⟨hv.1, hand (hG (by simp)) hv.2⟩
 | some (some (.nrow k l _)), some (some (.frow k' _ l')), hE, hv =>
  obtain ⟨e0, e⟩ := hE
  dsimp only at hv ⊢
  rw [← e, ← e0]
  exact ⟨hv.1, hand (hG (by simp)) hv.2⟩
 | some (some (.row k _ l)), some (some (.lrow n)), hE, hv =>
  obtain rfl : l.length = n := hE
  obtain ⟨_, a, c, rfl, _⟩ := hv
  exact ⟨a, c, rfl⟩
 | some (some (.nrow k l _)), some (some (.lrow n)), hE, hv =>
  obtain rfl : l.length = n := hE
  obtain ⟨_, a, c, rfl, _⟩ := hv
  exact ⟨a, c, rfl⟩
 | some (some (.lrow n)), some (some (.lrow m)), hE, hv =>
  obtain rfl : n = m := hE
  exact hv
theorem SvRep.mono {ok ok' : Nat → Prop} (hG : ∀ d j, nameOf ow d j ≠ none → G' d j 0 = G d j 0) (hE : ∀ d j, EC (nameOf ow d j) (nameOf ow' d j))
  (hok : ∀ b r, ok b → rowCells h b = some r → ok' b ∧ rowCells h' b = some r) (hsz : ∀ b r, rowCells h b = some r → ∃ r', rowCells h' b = some r' ∧ r'.size = r.size)
  {s : SV} {v : Value} (e : SvRep h ok G ow s v) : SvRep h' ok' G' ow' s v := by
 induction e with
 | v hk hx => exact .v hk (Rep.mono hok _ hx)
 | lb b => exact .lb b
 | dead v => exact .dead v
 | nils => exact .nils
 | agg hl _ ih => exact .agg hl ih
 | tup hl _ ih => exact .tup hl ih
 | fn h1 h2 _ _ ih1 ih2 => exact .fn h1 h2 ih1 ih2
 | wh hv => exact .wh (hv.mono (hG _ _) (hE _ _) hsz)
 | os hv => exact .os (hv.mono (hG _ _) (hE _ _) hsz)
 | @bp d j c val hv =>
  refine .bp ?_
  have hg := hG d j
  have he := hE d j
  generalize nameOf ow d j = x at hg he hv
  generalize nameOf ow' d j = y at he
  match x, y, he, hv with
  | some none, some none, _, hv => exact hv
  | some (some (.box _)), some none, _, hv => obtain ⟨_, _, _, rfl⟩ := hv; rfl
  | some (some (.box _)), some (some (.box _)), _, hv => obtain ⟨b, o, hb, rfl⟩ := hv; exact ⟨b, o, by rw [hg (by simp), hb], rfl⟩
 | @rp d j ver e c val hv =>
  refine .rp ?_
  have hg := hG d j
  have he := hE d j
  generalize nameOf ow d j = x at hg he hv
  generalize nameOf ow' d j = y at he
  match x, y, he, hv with
  | some none, some none, _, hv => exact hv
  | some (some (.row _ _ _)), some none, _, hv => obtain ⟨_, _, _, _, rfl⟩ := hv; rfl
  | some (some (.frow _ _ _)), some none, _, hv => obtain ⟨_, _, _, _, rfl⟩ := hv; rfl
  | some (some (.nrow _ _ _)), some none, _, hv => obtain ⟨_, _, _, _, rfl⟩ := hv; rfl
  | some (some (.lrow _)), some none, _, hv => exact hv
  | some (some (.row k _ l)), some (some (.row k' _ l')), he, hv =>
   obtain ⟨rfl, e⟩ := he
   obtain ⟨hl, b, o, hb, rfl⟩ := hv
   exact ⟨by omega, b, o, by rw [hg (by simp), hb], rfl⟩
  | some (some (.row k _ l)), some (some (.frow k' _ l')), he, hv =>
   obtain ⟨rfl, e⟩ := he
   obtain ⟨hl, b, o, hb, rfl⟩ := hv
   exact ⟨by omega, b, o, by rw [hg (by simp), hb], rfl⟩
  | some (some (.frow k _ l)), some (some (.frow k' _ l')), he, hv =>
   obtain ⟨rfl, e⟩ := he
   obtain ⟨hl, b, o, hb, rfl⟩ := hv
   exact ⟨by omega, b, o, by rw [hg (by simp), hb], rfl⟩
  | some (some (.nrow k l _)), some (some (.nrow k' l' _)), he, hv =>
   obtain ⟨rfl, e⟩ := he
   obtain ⟨hl, b, o, hb, rfl⟩ := hv
   exact ⟨by omega, b, o, by rw [hg (by simp), hb], rfl⟩
  | some (some (.nrow k l _)), some (some (.frow k' _ l')), he, hv =>
   obtain ⟨e0, e⟩ := he
   obtain ⟨hl, b, o, hb, rfl⟩ := hv
   exact ⟨by omega, b, o, by rw [hg (by simp), hb], by rw [← e0]⟩
  | some (some (.row k _ l)), some (some (.lrow n)), he, hv =>
   obtain ⟨hl, b, o, hb, rfl⟩ := hv
   rfl
  | some (some (.nrow k l _)), some (some (.lrow n)), he, hv =>
   obtain ⟨hl, b, o, hb, rfl⟩ := hv
   rfl
  | some (some (.lrow n)), some (some (.lrow m)), he, hv => exact hv
 | ip hk hb hr hs hx =>
  obtain ⟨hb', hr'⟩ := hok _ _ hb hr
  exact .ip hk hb' hr' hs (Rep.mono hok _ hx)
theorem ObRep.mono {ok ok' : Nat → Prop} (hG : ∀ d j, nameOf ow d j ≠ none → G' d j 0 = G d j 0) (hE : ∀ d j, EC (nameOf ow d j) (nameOf ow' d j))
  (hok : ∀ b r, ok b → rowCells h b = some r → ok' b ∧ rowCells h' b = some r) (hsz : ∀ b r, rowCells h b = some r → ∃ r', rowCells h' b = some r' ∧ r'.size = r.size)
  {d j : Nat} {o : OB} (hGd : G' d j = G d j) (hb : isOwn (some (some o)) → ∀ i b c, G d j i = some (b, c) → h'[b]? = h[b]?) (e : ObRep h ok G ow d j o) : ObRep h' ok' G' ow' d j o := by
 cases o with
 | box cells =>
  obtain ⟨h0, b, o, r, et, hg, hr, hs, hc⟩ := e
  exact ⟨by rw [hGd]; exact h0, b, o, r, et, by rw [hGd, hg], by rw [hb trivial 0 b o hg, hr], hs, fun i hi hr => (hc i hi hr).mono hG hE hok hsz⟩
 | row k ver l =>
  obtain ⟨h0, hk, e⟩ := e
  refine ⟨by rw [hGd]; exact h0, hk, ?_⟩
  rw [hGd]
  cases hg : G d j 0 with
  | none => simpa [hg] using e
  | some p =>
   obtain ⟨b, o⟩ := p
   simp only [hg] at e
   obtain ⟨r, et, hr, he⟩ := e
   exact ⟨r, et, by rw [hb trivial 0 b o hg, hr], he.mono fun x cs hx => Rep.mono hok _ hx⟩
 | frow k ver l =>
  obtain ⟨hk, e⟩ := e
  refine ⟨hk, ?_⟩
  rw [hGd]
  cases hg : G d j 0 with
  | none => simpa [hg] using e
  | some p =>
   obtain ⟨b, o⟩ := p
   simp only [hg] at e
   rcases e with e | ⟨hb, r, hr, he⟩
   ·exact .inl e
   ·obtain ⟨hb', hr'⟩ := hok b r hb hr
    exact .inr ⟨hb', r, hr', he.mono fun x cs hx => Rep.mono hok _ hx⟩
 | nrow k l foc =>
  obtain ⟨hk, fps, h1, e⟩ := e
  refine ⟨hk, fps, by rw [hGd]; exact h1, ?_⟩
  rw [hGd]
  have hfp : ∀ b ∈ fps.flatten, h'[b]? = h[b]? := fun b hbm => by
   obtain ⟨i, hi, rfl⟩ := List.mem_iff_getElem.1 hbm
   exact hb trivial (i + 1) _ 0 (by rw [h1, List.getElem?_eq_getElem hi]; rfl)
  cases hg : G d j 0 with
  | none => simpa [hg] using e
  | some p =>
   obtain ⟨b, o⟩ := p
   simp only [hg] at e
   obtain ⟨r, et, hr, hs, hl, hj, he, hf⟩ := e
   exact ⟨r, et, by rw [hb trivial 0 b o hg, hr], hs, hl, fun b' hb' => by rw [hfp b' hb']; exact hj b' hb', fun i hi hi' hne => ShR.mono hok k (fun b' hb' => hfp b' (mem_fps hi' hb')) (he i hi hi' hne), fun e' cells hc => by
    obtain ⟨q1, q2, q4⟩ := hf e' cells hc
    exact ⟨q1, q2, fun c hc hr => (q4 c hc hr).mono hG hE hok hsz⟩⟩
 | lrow n => trivial
end
structure Tr (F : Nat → Prop) (G : Gh) (ow : OW) (w : World) (G' : Gh) (ow' : OW) (w' : World) : Prop where
 hrep : HRep F G' ow' w'.heap
 sv : ∀ s v, Sv F G ow w.heap s v → Sv F G' ow' w'.heap s v
 kept : Kept (Own G ow) w w'
 own : ∀ b, Own G' ow' b → Own G ow b ∨ w.heap.size ≤ b
 len : ow'.length = ow.length
theorem Kept.refl (I : Nat → Prop) (w : World) : Kept I w w := ⟨Nat.le_refl _, fun _ _ _ => rfl, fun b r et f h => ⟨r, h, rfl⟩, rfl, rfl, rfl⟩
theorem Kept.trans {I J : Nat → Prop} {w w' w'' : World} (h1 : Kept I w w') (h2 : Kept J w' w'') (hJ : ∀ b, J b → I b ∨ w.heap.size ≤ b) : Kept I w w'' :=
 ⟨Nat.le_trans h1.size h2.size, fun b hb hI => by
  rw [h2.heap b (Nat.lt_of_lt_of_le hb h1.size) (fun hj => by rcases hJ b hj with h | h; exact hI h; omega), h1.heap b hb hI], fun b r et f h => by
  obtain ⟨r1, e1, s1⟩ := h1.cells b r et f h
  obtain ⟨r2, e2, s2⟩ := h2.cells b r1 et f e1
  exact ⟨r2, e2, by omega⟩, by rw [h2.os, h1.os], by rw [h2.output, h1.output], by rw [h2.tape, h1.tape]⟩
theorem Tr.refl {F : Nat → Prop} {G : Gh} {ow : OW} {w : World} (h : HRep F G ow w.heap) : Tr F G ow w G ow w :=
 ⟨h, fun _ _ h => h, .refl _ _, fun _ h => .inl h, rfl⟩
theorem Tr.trans {F : Nat → Prop} {G G' G'' : Gh} {ow ow' ow'' : OW} {w w' w'' : World} (h1 : Tr F G ow w G' ow' w') (h2 : Tr F G' ow' w' G'' ow'' w'') : Tr F G ow w G'' ow'' w'' :=
 ⟨h2.hrep, fun s v h => h2.sv s v (h1.sv s v h), h1.kept.trans h2.kept h1.own, fun b hb => by
  rcases h2.own b hb with h | h
  ·exact h1.own b h
  ·exact .inr (Nat.le_trans h1.kept.size h), by rw [h2.len, h1.len]⟩
section
variable {F : Nat → Prop} {G G' : Gh} {ow ow' : OW} {w w' : World}
theorem Own.lt (hh : HRep F G ow w.heap) {b : Nat} (hb : Own G ow b) : b < w.heap.size := by
 obtain ⟨d, j, i, o, hn, hg⟩ := own_iff.1 hb
 have key : ∀ ob, nameOf ow d j = some (some ob) → isOwn (some (some ob)) → b < w.heap.size := by
  intro ob hob hi
  have := hh.obs d j ob hob
  cases ob with
  | box cells =>
   obtain ⟨h0, b', o', r, et, hg', hr, _⟩ := this
   cases i with
   | zero =>
    rw [hg] at hg'; cases hg'
    exact (Array.getElem?_eq_some_iff.1 hr).1
   | succ i => rw [h0] at hg; cases hg
  | row k ver l =>
   obtain ⟨h0, _, this⟩ := this
   cases i with
   | zero =>
    simp only [hg] at this
    obtain ⟨r, et, hr, _⟩ := this
    exact (Array.getElem?_eq_some_iff.1 hr).1
   | succ i => rw [h0] at hg; cases hg
  | nrow k l foc =>
   obtain ⟨r, et, hr⟩ := nrow_cells this hg
   exact (Array.getElem?_eq_some_iff.1 hr).1
  | frow _ _ _ => exact hi.elim
  | lrow _ => exact hi.elim
 generalize hx : nameOf ow d j = x at hn
 match x, hn with
 | some (some ob), hn => exact key ob hx hn
theorem rowCells_lt {h : Array Obj} {b : Nat} {r : Array Value} (hr : rowCells h b = some r) : b < h.size := by
 unfold rowCells at hr
 split at hr
 ·rename_i e; exact (Array.getElem?_eq_some_iff.1 e).1
 ·cases hr
theorem ok_kept (hk : Kept (Own G ow) w w') (ho : ∀ b, Own G' ow' b → Own G ow b ∨ w.heap.size ≤ b) (b : Nat) (r : Array Value) (hb : okF F G ow b) (hr : rowCells w.heap b = some r) :
  okF F G' ow' b ∧ rowCells w'.heap b = some r := by
 have hlt := rowCells_lt hr
 refine ⟨⟨hb.1, fun h => ?_⟩, ?_⟩
 ·rcases ho b h with h | h
  ·exact hb.2 h
  ·omega
 ·unfold rowCells
  rw [hk.heap b hlt hb.2]
  exact hr
theorem size_kept (hk : Kept (Own G ow) w w') (hsz : ∀ b r, Own G ow b → rowCells w.heap b = some r → ∃ r', rowCells w'.heap b = some r' ∧ r'.size = r.size) (b : Nat) (r : Array Value) (hr : rowCells w.heap b = some r) :
  ∃ r', rowCells w'.heap b = some r' ∧ r'.size = r.size := by
 by_cases hb : Own G ow b
 ·exact hsz b r hb hr
 ·exact ⟨r, by unfold rowCells; rw [hk.heap b (rowCells_lt hr) hb]; exact hr, rfl⟩
theorem tr_of (hh : HRep F G ow w.heap) (hF : ∀ b, F b → b < w.heap.size) (hG : ∀ d j, nameOf ow d j ≠ none → G' d j 0 = G d j 0) (hE : ∀ d j, EC (nameOf ow d j) (nameOf ow' d j))
  (hk : Kept (Own G ow) w w') (ho : ∀ b, Own G' ow' b → Own G ow b ∨ w.heap.size ≤ b)
  (hsz : ∀ b r, Own G ow b → rowCells w.heap b = some r → ∃ r', rowCells w'.heap b = some r' ∧ r'.size = r.size)
  (hob : ∀ d j o, nameOf ow' d j = some (some o) →
   (nameOf ow d j = some (some o) ∧ G' d j = G d j ∧ (isOwn (some (some o)) → ∀ i b c, G d j i = some (b, c) → w'.heap[b]? = w.heap[b]?)) ∨
   ((∀ s v, Sv F G ow w.heap s v → Sv F G' ow' w'.heap s v) → (∀ b r, okF F G ow b → rowCells w.heap b = some r → okF F G' ow' b ∧ rowCells w'.heap b = some r) → ObRep w'.heap (okF F G' ow') G' ow' d j o))
  (hap : ∀ d j i d' j' i' b o o', isOwn (nameOf ow' d j) → isOwn (nameOf ow' d' j') → G' d j i = some (b, o) → G' d' j' i' = some (b, o') → d = d' ∧ j = j' ∧ i = i')
  (hl : ow'.length = ow.length) : Tr F G ow w G' ow' w' := by
 have hok := ok_kept (F := F) hk ho
 have hs := size_kept hk hsz
 have hsv : ∀ s v, Sv F G ow w.heap s v → Sv F G' ow' w'.heap s v := fun s v e => SvRep.mono hG hE hok hs e
 refine ⟨⟨fun d j o hn => ?_, hap, fun b hb => ?_⟩, hsv, hk, ho, hl⟩
 ·rcases hob d j o hn with ⟨h1, h0, h2⟩ | h1
  ·exact ObRep.mono hG hE hok hs h0 h2 (hh.obs d j o h1)
  ·exact h1 hsv hok
 ·rcases ho b hb with h | h
  ·exact hh.notF b h
  ·intro hf
   have := hF b hf
   omega
theorem nameOf_putOb {d j : Nat} {o : Option OB} {d' j' : Nat} (hn : nameOf ow d j ≠ none) : nameOf (putOb ow d j o) d' j' = if d' = d ∧ j' = j then some o else nameOf ow d' j' := by
 unfold nameOf at hn ⊢
 unfold putOb
 cases hd : ow[d]? with
 | none => simp [hd] at hn
 | some l =>
  simp only [hd, Option.bind_some] at hn
  have hlt := (List.getElem?_eq_some_iff.1 hd).1
  have hj : j < l.length := by
   rcases Nat.lt_or_ge j l.length with h | h
   ·exact h
   ·exact absurd (List.getElem?_eq_none h) hn
  by_cases h1 : d' = d
  ·subst h1
   simp only [List.getElem?_set_self hlt, Option.bind_some, true_and]
   by_cases h2 : j' = j
   ·subst h2; simp [hj]
   ·simp [h2, hd, List.getElem?_set_ne (Ne.symm h2)]
  ·simp [h1, List.getElem?_set_ne (Ne.symm h1)]
theorem length_putOb {d j : Nat} {o : Option OB} : (putOb ow d j o).length = ow.length := by
 unfold putOb; split <;> simp
theorem newObs_some {d : Nat} {l : List OB} {ow' : OW} (h : newObs ow d l = some ow') :
  ow'.length = ow.length ∧ (l = [] ∨ ow[d]? = some []) ∧ ∀ d' j, nameOf ow' d' j = if d' = d ∧ l ≠ [] then l[j]?.map some else nameOf ow d' j := by
 unfold newObs at h
 split at h
 ·cases h; exact ⟨rfl, .inl rfl, fun d' j => by simp⟩
 ·rename_i hl
  split at h
  ·rename_i hd
   cases h
   refine ⟨by simp, .inr hd, fun d' j => ?_⟩
   have hlt := (List.getElem?_eq_some_iff.1 hd).1
   have hl' : l ≠ [] := fun e => hl e
   unfold nameOf
   by_cases h1 : d' = d
   ·subst h1; simp [List.getElem?_set_self hlt, hl']
   ·simp [h1, List.getElem?_set_ne (Ne.symm h1)]
  ·cases h
theorem nameOf_empty {d : Nat} (h : ow[d]? = some []) (j : Nat) : nameOf ow d j = none := by simp [nameOf, h]
theorem heap_alloc_old (w : World) (o : Obj) {b : Nat} (hb : b < w.heap.size) : (w.alloc o).heap[b]? = w.heap[b]? := by
 show (w.heap.push o)[b]? = _
 rw [Array.getElem?_push]
 rw [if_neg (by omega)]
theorem heap_alloc_new (w : World) (o : Obj) : (w.alloc o).heap[w.heap.size]? = some o := by
 show (w.heap.push o)[w.heap.size]? = some o
 simp
theorem kept_alloc (I : Nat → Prop) (w : World) (o : Obj) : Kept I w (w.alloc o) :=
 ⟨by simp, fun b hb _ => heap_alloc_old w o hb, fun b r et f h => ⟨r, by rw [heap_alloc_old w o (Array.getElem?_eq_some_iff.1 h).1]; exact h, rfl⟩, rfl, rfl, rfl⟩
theorem kept_drew (I : Nat → Prop) (w : World) : Kept I w w.drew := ⟨Nat.le_refl _, fun _ _ _ => rfl, fun b r et f h => ⟨r, h, rfl⟩, rfl, rfl, rfl⟩
def Gh.new (G : Gh) (d : Nat) (p : Nat → Nat → Option (Nat × Nat)) : Gh := fun d' j => if d' = d then p j else G d' j
def loc1 (p : Option (Nat × Nat)) : Nat → Nat → Option (Nat × Nat) := fun _ i => if i = 0 then p else none
theorem tr_alloc (hh : HRep F G ow w.heap) (hF : ∀ b, F b → b < w.heap.size) {d : Nat} {ob : OB} (hn : newObs ow d [ob] = some ow') {w1 : World} (h1 : w1.heap = w.heap) (hos : w1.os = w.os) (hout : w1.output = w.output) (htape : w1.tape = w.tape) (c : Obj) (o : Nat)
  (hob : (∀ s v, Sv F G ow w.heap s v → Sv F (G.new d (loc1 (some (w.heap.size, o)))) ow' (w1.alloc c).heap s v) →
   (∀ b r, okF F G ow b → rowCells w.heap b = some r → okF F (G.new d (loc1 (some (w.heap.size, o)))) ow' b ∧ rowCells (w1.alloc c).heap b = some r) → ObRep (w1.alloc c).heap (okF F (G.new d (loc1 (some (w.heap.size, o)))) ow') (G.new d (loc1 (some (w.heap.size, o)))) ow' d 0 ob) :
  Tr F G ow w (G.new d (loc1 (some (w.heap.size, o)))) ow' (w1.alloc c) := by
 obtain ⟨hl, he, hnm⟩ := newObs_some hn
 have he : ow[d]? = some [] := by rcases he with h | h; cases h; exact h
 have hnm' : ∀ d' j, nameOf ow' d' j = if d' = d then [ob][j]?.map some else nameOf ow d' j := fun d' j => by rw [hnm]; simp
 have hGn : ∀ d' j, nameOf ow d' j ≠ none → (G.new d (loc1 (some (w.heap.size, o)))) d' j = G d' j := fun d' j hx => by
  unfold Gh.new
  rw [if_neg]
  intro e
  rw [e, nameOf_empty he] at hx
  exact hx rfl
 have hk : Kept (Own G ow) w (w1.alloc c) := ⟨by simp [h1], fun b hb _ => by rw [heap_alloc_old w1 c (by rw [h1]; exact hb), h1], fun b r et f h => ⟨r, by rw [heap_alloc_old w1 c (by rw [h1]; exact (Array.getElem?_eq_some_iff.1 h).1), h1]; exact h, rfl⟩, hos, hout, htape⟩
 have key0 : ∀ d' j, d' ≠ d → (G.new d (loc1 (some (w.heap.size, o)))) d' j = G d' j := fun d' j hd => by simp [Gh.new, hd]
 have keyd : ∀ {j i b' o'}, (G.new d (loc1 (some (w.heap.size, o)))) d j i = some (b', o') → i = 0 ∧ b' = w.heap.size := fun {j i b' o'} h => by
  simp only [Gh.new, if_true, loc1] at h
  split at h
  ·rename_i e; cases h; exact ⟨e, rfl⟩
  ·cases h
 have hj0 : ∀ j, isOwn (nameOf ow' d j) → j = 0 := fun j hx => by
  rw [hnm', if_pos rfl] at hx
  cases j with
  | zero => rfl
  | succ j => simp [isOwn] at hx
 refine tr_of hh hF (fun d' j hx => congrFun (hGn d' j hx) 0) (fun d' j => ?_) hk (fun b hb => ?_) (fun b r _ hr => ⟨r, ?_, rfl⟩) (fun d' j ob' hx => ?_) (fun d1 j1 i1 d2 j2 i2 b o1 o2 h1 h2 g1 g2 => ?_) hl
 ·by_cases hd : d' = d
  ·subst hd; rw [nameOf_empty he]; trivial
  ·rw [hnm', if_neg hd]; exact .refl _
 ·obtain ⟨d', j, i, o', hx, hg⟩ := own_iff.1 hb
  by_cases hd : d' = d
  ·subst hd
   rw [(keyd hg).2]
   exact .inr (Nat.le_refl _)
  ·rw [hnm', if_neg hd] at hx
   rw [key0 d' j hd] at hg
   exact .inl (own_iff.2 ⟨d', j, i, o', hx, hg⟩)
 ·unfold rowCells
  rw [heap_alloc_old w1 c (by rw [h1]; exact rowCells_lt hr), h1]
  exact hr
 ·by_cases hd : d' = d
  ·subst hd
   right
   intro hsv hok
   cases j with
   | zero =>
    rw [hnm', if_pos rfl] at hx
    simp at hx
    subst hx
    exact hob hsv hok
   | succ j =>
    rw [hnm', if_pos rfl] at hx
    simp at hx
  ·left
   rw [hnm', if_neg hd] at hx
   refine ⟨hx, key0 d' j hd, fun hi i b cc hg => ?_⟩
   have : Own G ow b := own_iff.2 ⟨d', j, i, cc, by rw [hx]; exact hi, hg⟩
   rw [heap_alloc_old w1 c (by rw [h1]; exact Own.lt hh this), h1]
 ·have lt : ∀ {d' j' i' b' o'}, d' ≠ d → isOwn (nameOf ow' d' j') → (G.new d (loc1 (some (w.heap.size, o)))) d' j' i' = some (b', o') → b' < w.heap.size := by
   intro d' j' i' b' o' hd hi hg
   rw [key0 d' j' hd] at hg
   rw [hnm', if_neg hd] at hi
   exact Own.lt hh (own_iff.2 ⟨d', j', i', o', hi, hg⟩)
  by_cases e1 : d1 = d
  ·by_cases e2 : d2 = d
   ·subst e1; subst e2
    exact ⟨rfl, by rw [hj0 j1 h1, hj0 j2 h2], by rw [(keyd g1).1, (keyd g2).1]⟩
   ·have := lt e2 h2 g2
    rw [e1] at g1
    have := (keyd g1).2
    omega
  ·by_cases e2 : d2 = d
   ·have := lt e1 h1 g1
    rw [e2] at g2
    have := (keyd g2).2
    omega
   ·rw [key0 d1 j1 e1] at g1
    rw [key0 d2 j2 e2] at g2
    rw [hnm', if_neg e1] at h1
    rw [hnm', if_neg e2] at h2
    exact hh.apart d1 j1 i1 d2 j2 i2 b o1 o2 h1 h2 g1 g2
end
end Go.Pev
end

section
/-
 PEV, part 9b: rows that are written no more.
-/
namespace Go.Pev
structure FrzData (s : Sh) (l : List s.T) (k : Kd) (l' : List k.T) : Prop where
 good : k.good = true
 wide : s.w = k.n
 len : l.length = l'.length
 rep : ∀ (h : Array Obj) (ok : Nat → Prop) (i : Nat) (h1 : i < l.length) (h2 : i < l'.length) (vs : List Value) (fp : List Nat), ShR h ok s l[i] vs fp → (∀ b ∈ fp, ok b) → Rep h ok k l'[i] vs
def Frz (o n : Option (Option OB)) : Prop :=
 (∃ k ver l, o = some (some (.row k ver l)) ∧ n = some (some (.frow k ver l))) ∨ ∃ s l k l', o = some (some (.nrow s l none)) ∧ n = some (some (.frow k 0 l')) ∧ FrzData s l k l'
theorem Frz.own {o n : Option (Option OB)} (h : Frz o n) : isOwn o := by
 rcases h with ⟨k, ver, l, rfl, _⟩ | ⟨s, l, k, l', rfl, _⟩ <;> trivial
theorem Frz.not {o n : Option (Option OB)} (h : Frz o n) : ¬ isOwn n ∧ n ≠ some none ∧ ∃ k ver l, n = some (some (.frow k ver l)) := by
 rcases h with ⟨k, ver, l, _, rfl⟩ | ⟨s, l, k, l', _, rfl, _⟩ <;> exact ⟨fun h => h.elim, by simp, _, _, _, rfl⟩
theorem Frz.ec {o n : Option (Option OB)} (h : Frz o n) : EC o n := by
 rcases h with ⟨k, ver, l, rfl, rfl⟩ | ⟨s, l, k, l', rfl, rfl, hd⟩
 ·exact ⟨rfl, rfl⟩
 ·exact ⟨hd.wide, hd.len⟩
theorem Frz.rep {o n : OB} (hz : Frz (some (some o)) (some (some n))) {h h' : Array Obj} {ok ok' : Nat → Prop} {G G' : Gh} {ow ow' : OW} {d j : Nat} (hGd : G' d j 0 = G d j 0) (hok : ∀ b r, ok b → rowCells h b = some r → ok' b ∧ rowCells h' b = some r)
  (hpl : ∀ i b o, G d j i = some (b, o) → ok' b ∧ h'[b]? = h[b]?) (e : ObRep h ok G ow d j o) : ObRep h' ok' G' ow' d j n := by
 rcases hz with ⟨k, ver, l, h1, h2⟩ | ⟨s, l, k, l', h1, h2, hd⟩
 ·cases h1; cases h2
  obtain ⟨_, hk, ho⟩ := e
  refine ⟨hk, ?_⟩
  rw [hGd]
  cases hg : G d j 0 with
  | none => simpa [hg] using ho
  | some p =>
   obtain ⟨b, o⟩ := p
   simp only [hg] at ho
   obtain ⟨r, et, hb, hel⟩ := ho
   obtain ⟨k1, k2⟩ := hpl 0 b o hg
   exact .inr ⟨k1, r, rowCells_of (by rw [k2]; exact hb), hel.mono fun x cs hx => Rep.mono hok _ hx⟩
 ·cases h1; cases h2
  obtain ⟨_, fps, hG, ho⟩ := e
  refine ⟨hd.good, ?_⟩
  rw [hGd]
  cases hg : G d j 0 with
  | none =>
   simp only [hg] at ho
   have := hd.len
   rw [ho.1] at this
   exact List.eq_nil_of_length_eq_zero this.symm
  | some p =>
   obtain ⟨b, o⟩ := p
   simp only [hg] at ho
   obtain ⟨r, et, hb, hsz, hlf, hj, hele, _⟩ := ho
   obtain ⟨k1, k2⟩ := hpl 0 b o hg
   have hin : ∀ x ∈ fps.flatten, ok' x ∧ h'[x]? = h[x]? := fun x hx => by
    obtain ⟨i, hi, e⟩ := List.mem_iff_getElem.1 hx
    exact hpl (i + 1) x 0 (by rw [hG, List.getElem?_eq_getElem hi, e]; rfl)
   refine .inr ⟨k1, r, rowCells_of (by rw [k2]; exact hb), by rw [← hd.len, ← hd.wide]; exact hsz, fun i hi => ?_⟩
   have hi' : i < l.length := by rw [hd.len]; exact hi
   have hf : i < fps.length := by omega
   rw [← hd.wide]
   exact hd.rep h' ok' i hi' hi _ _ (ShR.mono hok s (fun x hx => (hin x (mem_fps hf hx)).2) (hele i hi' hf (fun cells hc => by cases hc))) (fun x hx => (hin x (mem_fps hf hx)).1)
theorem castList_length {A B : Type} (e : A = B) (l : List A) : (cast (congrArg List e) l).length = l.length := by subst e; rfl
theorem castList_get {A B : Type} (e : A = B) (l : List A) (i : Nat) (h : i < (cast (congrArg List e) l).length) (h' : i < l.length) : (cast (congrArg List e) l)[i] = cast e l[i] := by subst e; rfl
theorem cast_prod {A A' B B' : Type} (ha : A = A') (hb : B = B') (h : (A × B) = (A' × B')) (x : A × B) : cast h x = (cast ha x.1, cast hb x.2) := by subst ha; subst hb; rfl
theorem kd_one : (s : Sh) → s.one = true → s.elem = true → s.kd.isSt = false
 | .pur kd, _, h => by
  have : kd.isSt = false := by simpa using (Bool.and_eq_true _ _ ▸ h : kd.noOwn = true ∧ (!kd.isSt) = true).2
  exact this
 | .own _, _, _ => rfl
 | .rows _, _, _ => rfl
 | .nil, h, _ => by simp [Sh.one] at h
 | .cons _ _, h, _ => by simp [Sh.one] at h
 | .row _, _, h => by simp [Sh.elem] at h
 | .nrw _, _, h => by simp [Sh.elem] at h
 | .box _, _, h => by simp [Sh.elem] at h
 | .agg _, _, h => by simp [Sh.elem] at h
 | .fn _ _ _, _, h => by simp [Sh.elem] at h
 | .ign, _, h => by simp [Sh.elem] at h
 | .nl, _, h => by simp [Sh.elem] at h
theorem notSt_n {k : Kd} (h : k.isSt = false) : k.n = 1 := by cases k <;> simp_all [Kd.n, Kd.isSt]
theorem kd_n : (s : Sh) → s.elem = true → s.w = s.kd.n
 | .pur kd, h => by
  have : kd.isSt = false := kd_one (.pur kd) rfl h
  simp [Sh.w, Sh.kd, notSt_n this]
 | .own _, _ => rfl
 | .rows _, _ => rfl
 | .nil, _ => rfl
 | .cons a b, h => by
  simp only [Sh.elem, Bool.and_eq_true] at h
  have h1 := notSt_n (kd_one a h.1.1.1 h.1.2)
  have h2 := kd_n b h.2
  simp only [Sh.w, Sh.kd, Kd.n, h1, ← h2]
  omega
 | .row _, h => by simp [Sh.elem] at h
 | .nrw _, h => by simp [Sh.elem] at h
 | .box _, h => by simp [Sh.elem] at h
 | .agg _, h => by simp [Sh.elem] at h
 | .fn _ _ _, h => by simp [Sh.elem] at h
 | .ign, h => by simp [Sh.elem] at h
 | .nl, h => by simp [Sh.elem] at h
theorem good_noOwn {k : Kd} (h : k.good = true) : k.noOwn = true := (Bool.and_eq_true _ _ ▸ h : k.noOwn = true ∧ k.ch.leafy = true).1
theorem kd_noOwn : (s : Sh) → s.elem = true → s.kd.noOwn = true
 | .pur kd, h => (Bool.and_eq_true _ _ ▸ h : kd.noOwn = true ∧ (!kd.isSt) = true).1
 | .own k, h => by simpa [Sh.kd, Kd.noOwn] using good_noOwn h
 | .rows s, h => by simpa [Sh.kd, Kd.noOwn] using kd_noOwn s h
 | .nil, _ => rfl
 | .cons a b, h => by
  simp only [Sh.elem, Bool.and_eq_true] at h
  simp [Sh.kd, Kd.noOwn, kd_noOwn a h.1.2, kd_noOwn b h.2]
 | .row _, h => by simp [Sh.elem] at h
 | .nrw _, h => by simp [Sh.elem] at h
 | .box _, h => by simp [Sh.elem] at h
 | .agg _, h => by simp [Sh.elem] at h
 | .fn _ _ _, h => by simp [Sh.elem] at h
 | .ign, h => by simp [Sh.elem] at h
 | .nl, h => by simp [Sh.elem] at h
theorem kd_leafy : (s : Sh) → s.elem = true → s.chn = true → s.kd.leafy = true
 | .nil, _, _ => rfl
 | .cons a b, h, hc => by
  simp only [Sh.elem, Bool.and_eq_true] at h
  simp [Sh.kd, Kd.leafy, kd_one a h.1.1.1 h.1.2, kd_leafy b h.2 hc]
 | .pur _, _, h => by simp [Sh.chn] at h
 | .own _, _, h => by simp [Sh.chn] at h
 | .rows _, _, h => by simp [Sh.chn] at h
 | .row _, _, h => by simp [Sh.chn] at h
 | .nrw _, _, h => by simp [Sh.chn] at h
 | .box _, _, h => by simp [Sh.chn] at h
 | .agg _, _, h => by simp [Sh.chn] at h
 | .fn _ _ _, _, h => by simp [Sh.chn] at h
 | .ign, _, h => by simp [Sh.chn] at h
 | .nl, _, h => by simp [Sh.chn] at h
theorem shR_rep {h : Array Obj} {ok : Nat → Prop} : (s : Sh) → (hs : s.elem = true) → {x : s.T} → {vs : List Value} → {fp : List Nat} → ShR h ok s x vs fp → (∀ b ∈ fp, ok b) → Rep h ok s.kd (cast (Sh.kd_T s hs).symm x) vs
 | .pur kd, hs, x, vs, fp, e, _ => by
  obtain ⟨v, rfl, _, hr, _, hc⟩ := e
  have hk : kd.isSt = false := kd_one (.pur kd) rfl hs
  have : v.cells = #[v] := by have := hc hk; cases v <;> simp_all [Value.cells, Value.oneCell']
  rw [this] at hr
  exact hr
 | .own k, hs, x, vs, fp, e, hok => by
  obtain ⟨v, rfl, _, a, c, rfl, hlc, e⟩ := e
  refine ⟨a, c, rfl, hlc, ?_⟩
  rcases e with ⟨_, rfl, _, _⟩ | ⟨b, o, r, et, rfl, rfl, hb, hel, _⟩
  ·exact .inl rfl
  ·exact .inr ⟨b, o, r, rfl, hok b (by simp), rowCells_of hb, hel⟩
 | .rows s, hs, x, vs, fp, e, hok => by
  obtain ⟨v, rfl, hel, a, c, rfl, hlc, e⟩ := e
  have hcl := castList_length (Sh.kd_T s hel).symm x
  refine ⟨a, c, by rw [show (cast (Sh.kd_T (.rows s) hs).symm x) = cast (congrArg List (Sh.kd_T s hel).symm) x from rfl, hcl], by rw [show (cast (Sh.kd_T (.rows s) hs).symm x) = cast (congrArg List (Sh.kd_T s hel).symm) x from rfl, hcl]; exact hlc, ?_⟩
  rw [show (cast (Sh.kd_T (.rows s) hs).symm x) = cast (congrArg List (Sh.kd_T s hel).symm) x from rfl]
  rcases e with ⟨_, rfl, _, _⟩ | ⟨b, o, r, et, fps, rfl, rfl, hb, hc, hl, hj, he⟩
  ·exact .inl (List.eq_nil_of_length_eq_zero (by rw [hcl]; rfl))
  ·have hle : x.length * s.w ≤ c * s.w := Nat.mul_le_mul_right _ hlc
   refine .inr ⟨b, o, r, rfl, hok b (by simp), rowCells_of hb, by rw [hcl, ← kd_n s hel]; omega, fun i hi => ?_⟩
   have hi' : i < x.length := by rw [← hcl]; exact hi
   rw [castList_get _ _ _ hi hi', ← kd_n s hel]
   exact shR_rep s hel (he i hi' (by omega)) (fun b' hb' => hok b' (List.mem_cons_of_mem _ (mem_fps (by omega) hb')))
 | .nil, hs, x, vs, fp, e, _ => e.1
 | .cons a b, hs, x, vs, fp, e, hok => by
  have h := hs
  simp only [Sh.elem, Bool.and_eq_true] at h
  obtain ⟨v, r, f1, f2, rfl, rfl, e1, e2⟩ := e
  have e : cast (Sh.kd_T (.cons a b) hs).symm x = ((cast (Sh.kd_T a h.1.2).symm x.1, cast (Sh.kd_T b h.2).symm x.2) : a.kd.T × b.kd.T) := cast_prod _ _ _ x
  rw [e]
  exact ⟨[v], r, rfl, shR_rep a h.1.2 e1 (fun b' hb' => hok b' (by simp [hb'])), shR_rep b h.2 e2 (fun b' hb' => hok b' (by simp [hb']))⟩
 | .row _, h, _, _, _, _, _ => by simp [Sh.elem] at h
 | .nrw _, h, _, _, _, _, _ => by simp [Sh.elem] at h
 | .box _, h, _, _, _, _, _ => by simp [Sh.elem] at h
 | .agg _, h, _, _, _, _, _ => by simp [Sh.elem] at h
 | .fn _ _ _, h, _, _, _, _, _ => by simp [Sh.elem] at h
 | .ign, h, _, _, _, _, _ => by simp [Sh.elem] at h
 | .nl, h, _, _, _, _, _ => by simp [Sh.elem] at h
theorem kd_good (s : Sh) (h : s.elem = true) : s.kd.good = true := by
 have h1 := kd_noOwn s h
 unfold Kd.good
 rw [h1, Bool.true_and]
 cases hc : s.chn with
 | true =>
  have hl := kd_leafy s h hc
  have : s.kd.isSt = true := by cases s <;> simp_all [Sh.chn, Sh.kd, Kd.isSt]
  rw [Kd.ch, if_pos this]
  exact hl
 | false =>
  by_cases ho : s.one = true
  ·have := kd_one s ho h
   rw [Kd.ch, if_neg (by simp [this])]
   simp [Kd.leafy, this]
  ·cases s with
   | cons a b =>
    simp only [Sh.elem, Bool.and_eq_true] at h
    rw [Sh.chn, h.1.1.2] at hc
    cases hc
   | nil => simp [Sh.chn] at hc
   | _ => simp [Sh.one] at ho
theorem frz_data (s : Sh) (h : s.elem = true) (l : List s.T) : FrzData s l s.kd (castD s h l) := by
 have hcl := castList_length (Sh.kd_T s h).symm l
 refine ⟨kd_good s h, kd_n s h, hcl.symm, fun hp ok i h1 h2 vs fp e hok => ?_⟩
 unfold castD
 rw [castList_get _ _ _ h2 h1]
 exact shR_rep s h e hok
end Go.Pev
end

section
/-
 PEV, part 10: new things; data taken out of what is owned.
-/
namespace Go.Pev
def Res (P : Program) (F : Nat → Prop) (G : Gh) (ow : OW) (w : World) (Q : SV × OW → Prop) (c : Sem Value) : Prop :=
 ∃ s ow' v w' G', Q (s, ow') ∧ c.run P w = .ok v w' ∧ Tr F G ow w G' ow' w' ∧ Sv F G' ow' w'.heap s v
section
variable {F : Nat → Prop} {G : Gh} {ow ow' : OW} {w : World} {P : Program}
theorem nameOf_new {d : Nat} {ob : OB} (hn : newObs ow d [ob] = some ow') : nameOf ow' d 0 = some (some ob) := by
 obtain ⟨_, _, h⟩ := newObs_some hn
 rw [h]; simp
theorem res_box (hh : HRep F G ow w.heap) (hF : ∀ b, F b → b < w.heap.size) {d : Nat} {cells : List SV} {vs : List Value} (hc : Svs F G ow w.heap cells vs) (hn : newObs ow d [.box cells] = some ow') (et : TypeId) :
  Tr F G ow w (G.new d (loc1 (some (w.heap.size, 0)))) ow' (w.alloc (.cells vs.toArray et)) ∧ Sv F (G.new d (loc1 (some (w.heap.size, 0)))) ow' (w.alloc (.cells vs.toArray et)).heap (.bp d 0 0) (.pointer (some ⟨w.heap.size, 0, none⟩)) := by
 have hg : (G.new d (loc1 (some (w.heap.size, 0)))) d 0 0 = some (w.heap.size, 0) := by simp [Gh.new, loc1]
 have hg1 : ∀ i, (G.new d (loc1 (some (w.heap.size, 0)))) d 0 (i + 1) = none := by simp [Gh.new, loc1]
 refine ⟨tr_alloc hh hF hn rfl rfl rfl rfl _ 0 fun hsv _ => ?_, ?_⟩
 ·exact ⟨hg1, w.heap.size, 0, vs.toArray, et, hg, heap_alloc_new _ _, by simp [hc.1], fun i hi hr => by
   have := hsv _ _ (hc.2 i hi (hc.1 ▸ hi))
   simpa [Sv] using this⟩
 ·refine .bp ?_
  rw [nameOf_new hn]
  exact ⟨_, _, hg, rfl⟩
theorem evAlloc_sound {t : TypeId} {d : Nat} (hh : HRep F G ow w.heap) (hF : ∀ b, F b → b < w.heap.size) {cells : List SV} (hz : zeroCells P t = some cells) (hn : newObs ow d [.box cells] = some ow') {Q : SV × OW → Prop} (hq : Q (.bp d 0 0, ow')) :
  Res P F G ow w Q (Instr.alloc t true (.tuple #[])) := by
 obtain ⟨i, z, hi, hiz, _, hzs⟩ := zeroCells_sound (F := F) (G := G) (ow := ow) (w := w) hz
 obtain ⟨h1, h2⟩ := res_box hh hF hzs hn t
 rw [Array.toArray_toList] at h1 h2
 exact ⟨_, _, _, _, _, hq, by simp [Instr.alloc, run_zeroValue hi hiz, newVar, newRow], h1, h2⟩
theorem evBox_sound {t : TypeId} {d : Nat} {x : SV} {xv : Value} (hh : HRep F G ow w.heap) (hF : ∀ b, F b → b < w.heap.size) (hx : Sv F G ow w.heap x xv) {cells : List SV} (hz : cellsOfSV P t x = some cells) (hn : newObs ow d [.box cells] = some ow')
  {Q : SV × OW → Prop} (hq : Q (.bp d 0 0, ow')) : Res P F G ow w Q (Instr.box t xv) := by
 obtain ⟨vs, hv, hvs, _, _⟩ := cellsOfSV_sound hx hz
 obtain ⟨h1, h2⟩ := res_box hh hF hvs hn t
 exact ⟨_, _, _, _, _, hq, by simp [Instr.box, newVar, newRow, hv], h1, h2⟩
theorem frz_tr (hh : HRep F G ow w.heap) (hF : ∀ b, F b → b < w.heap.size) (d j : Nat) : Tr F G ow w G (frzOb ow d j) w := by
 unfold frzOb
 split
 ·rename_i k ver l hg
  have hn := nameOf_of_getOb hg
  have hnn : nameOf ow d j ≠ none := by rw [hn]; simp
  have hnm := fun d' j' => nameOf_putOb (o := some (.frow k ver l)) (d' := d') (j' := j') hnn
  have hown : ∀ {d' j'}, isOwn (nameOf (putOb ow d j (some (.frow k ver l))) d' j') → ¬ (d' = d ∧ j' = j) ∧ isOwn (nameOf ow d' j') := by
   intro d' j' hi
   rw [hnm] at hi
   split at hi
   ·exact hi.elim
   ·exact ⟨by assumption, hi⟩
  have hle : ∀ b, Own G (putOb ow d j (some (.frow k ver l))) b → Own G ow b := by
   intro b hb
   obtain ⟨d', j', i', o', hi, hg'⟩ := own_iff.1 hb
   exact own_iff.2 ⟨d', j', i', o', (hown hi).2, hg'⟩
  refine tr_of hh hF (fun _ _ _ => rfl) (fun d' j' => ?_) (.refl _ _) (fun b hb => .inl (hle b hb)) (fun b r _ hr => ⟨r, hr, rfl⟩) (fun d' j' o hx => ?_) (fun d1 j1 i1 d2 j2 i2 b o1 o2 h1 h2 => hh.apart d1 j1 i1 d2 j2 i2 b o1 o2 (hown h1).2 (hown h2).2) length_putOb
  ·rw [hnm]
   split
   ·rename_i e; rw [e.1, e.2, hn]; exact ⟨rfl, rfl⟩
   ·exact .refl _
  ·rw [hnm] at hx
   split at hx
   ·rename_i e
    obtain ⟨rfl, rfl⟩ := e
    cases hx
    right
    intro _ hok
    obtain ⟨h00, hk, ho⟩ := hh.obs d' j' _ hn
    refine ⟨hk, ?_⟩
    cases hgg : G d' j' 0 with
    | none => simpa [hgg] using ho
    | some p =>
     obtain ⟨b, o⟩ := p
     simp only [hgg] at ho
     obtain ⟨r, et, hr, he⟩ := ho
     have hob : Own G ow b := own_iff.2 ⟨d', j', 0, o, by rw [hn]; trivial, hgg⟩
     refine .inr ⟨⟨hh.notF b hob, fun hb => ?_⟩, r, rowCells_of hr, he.mono fun x cs hx => Rep.mono hok _ hx⟩
     obtain ⟨d2, j2, i2, o2, hi, hg2⟩ := own_iff.1 hb
     obtain ⟨h1, h2⟩ := hown hi
     have := hh.apart d' j' 0 d2 j2 i2 b o o2 (by rw [hn]; trivial) h2 hgg hg2
     exact h1 ⟨this.1.symm, this.2.1.symm⟩
   ·exact .inl ⟨hx, rfl, fun _ _ _ _ _ => rfl⟩
 ·exact .refl hh
theorem frzTo_tr (hh : HRep F G ow w.heap) (hF : ∀ b, F b → b < w.heap.size) {d j : Nat} {o n : OB} (hn : nameOf ow d j = some (some o)) (hz : Frz (some (some o)) (some (some n))) : Tr F G ow w G (putOb ow d j (some n)) w := by
 have hnn : nameOf ow d j ≠ none := by rw [hn]; simp
 have hnm := fun d' j' => nameOf_putOb (o := some n) (d' := d') (j' := j') hnn
 have hown : ∀ {d' j'}, isOwn (nameOf (putOb ow d j (some n)) d' j') → ¬ (d' = d ∧ j' = j) ∧ isOwn (nameOf ow d' j') := by
  intro d' j' hi
  rw [hnm] at hi
  split at hi
  ·exact absurd hi hz.not.1
  ·exact ⟨by assumption, hi⟩
 have hle : ∀ b, Own G (putOb ow d j (some n)) b → Own G ow b := by
  intro b hb
  obtain ⟨d', j', i', o', hi, hg'⟩ := own_iff.1 hb
  exact own_iff.2 ⟨d', j', i', o', (hown hi).2, hg'⟩
 refine tr_of hh hF (fun _ _ _ => rfl) (fun d' j' => ?_) (.refl _ _) (fun b hb => .inl (hle b hb)) (fun b r _ hr => ⟨r, hr, rfl⟩) (fun d' j' o' hx => ?_) (fun d1 j1 i1 d2 j2 i2 b o1 o2 h1 h2 => hh.apart d1 j1 i1 d2 j2 i2 b o1 o2 (hown h1).2 (hown h2).2) length_putOb
 ·rw [hnm]
  split
  ·rename_i e; rw [e.1, e.2, hn]; exact hz.ec
  ·exact .refl _
 ·rw [hnm] at hx
  split at hx
  ·rename_i e
   obtain ⟨rfl, rfl⟩ := e
   cases hx
   right
   intro _ hok
   refine hz.rep rfl hok (fun i b o1 hg => ⟨?_, rfl⟩) (hh.obs d' j' _ hn)
   have hob : Own G ow b := own_iff.2 ⟨d', j', i, o1, by rw [hn]; exact hz.own, hg⟩
   refine ⟨hh.notF b hob, fun hb => ?_⟩
   obtain ⟨d2, j2, i2, o2, hi, hg2⟩ := own_iff.1 hb
   obtain ⟨h1, h2⟩ := hown hi
   have := hh.apart d' j' i d2 j2 i2 b o1 o2 (by rw [hn]; exact hz.own) h2 hg hg2
   exact h1 ⟨this.1.symm, this.2.1.symm⟩
  ·exact .inl ⟨hx, rfl, fun _ _ _ _ _ => rfl⟩
theorem frzN_cases (d j : Nat) : frzN ow d j = ow ∨ ∃ s l l', nameOf ow d j = some (some (.nrow s l none)) ∧ Frz (some (some (.nrow s l none))) (some (some (.frow s.kd 0 l'))) ∧ frzN ow d j = putOb ow d j (some (.frow s.kd 0 l')) := by
 unfold frzN
 split
 ·rename_i r hr
  obtain ⟨_, hn⟩ := nrowAt_some hr
  split
  ·rename_i hs
   exact .inr ⟨r.1, r.2, _, hn, .inr ⟨r.1, r.2, r.1.kd, _, rfl, rfl, frz_data r.1 hs r.2⟩, rfl⟩
  ·exact .inl rfl
 ·exact .inl rfl
theorem frzN_tr (hh : HRep F G ow w.heap) (hF : ∀ b, F b → b < w.heap.size) (d j : Nat) : Tr F G ow w G (frzN ow d j) w := by
 rcases frzN_cases (ow := ow) d j with e | ⟨s, l, l', hn, hz, e⟩
 ·rw [e]; exact .refl hh
 ·rw [e]; exact frzTo_tr hh hF hn hz
theorem ok_tr {G' : Gh} {w' : World} (h : Tr F G ow w G' ow' w') (b : Nat) (r : Array Value) (hb : okF F G ow b) (hr : rowCells w.heap b = some r) : okF F G' ow' b ∧ rowCells w'.heap b = some r :=
 ok_kept h.kept h.own b r hb hr
theorem toLeaf_sound (hh : HRep F G ow w.heap) (hF : ∀ b, F b → b < w.heap.size) {k : Kd} {s : SV} {v : Value} (hs : Sv F G ow w.heap s v) {x : k.T} (h : toLeaf k s ow = some (x, ow')) :
  Tr F G ow w G ow' w ∧ Rep w.heap (okF F G ow') k x [v] := by
 unfold toLeaf at h
 split at h
 ·rename_i k' y
  split at h
  ·rename_i e
   subst e
   cases h
   cases hs with
   | v _ hy => exact ⟨.refl hh, hy⟩
  ·cases h
 ·split at h
  ·cases h
   cases hs
   exact ⟨.refl hh, rfl⟩
  ·cases h
 ·split at h
  ·cases h
   cases hs
   exact ⟨.refl hh, ⟨_, _, rfl, Nat.le_refl _, .inl rfl⟩⟩
  ·cases h
 ·split at h
  ·rename_i e
   split at h
   ·rename_i d j r hkey hrow
    split at h
    ·rename_i he
     subst he
     simp only [Option.some.injEq, Prod.mk.injEq] at h
     obtain ⟨h1, rfl⟩ := h
     have ht := frz_tr hh hF d j
     refine ⟨ht, ?_⟩
     obtain ⟨d', j', ver, l0, hk', hn, hgood, a, c, rfl, hlc, hx⟩ := rowOf_sound hh hs hrow
     rw [hkey] at hk'
     cases hk'
     have h1 : x = r.2 := by rw [← h1]; rfl
     subst h1
     refine ⟨a, c, rfl, hlc, ?_⟩
     rcases hx with hx | ⟨b, o, rw_, ⟨o', hg⟩, ha, hr, hel, hok⟩
     ·exact .inl hx
     ·refine .inr ⟨b, o, rw_, ha, ?_, hr, hel.mono fun x cs hx => Rep.mono (ok_tr ht) _ hx⟩
      rcases hn with hn | hn
      ·have hob : Own G ow b := own_iff.2 ⟨d, j, 0, o', by rw [hn]; trivial, hg⟩
       refine ⟨hh.notF b hob, fun hb => ?_⟩
       obtain ⟨d2, j2, i2, o2, hi, hg2⟩ := own_iff.1 hb
       have hgo : getOb ow d j = some (.row r.1 ver l0) := by rw [getOb_eq, hn]; rfl
       unfold frzOb at hi
       simp only [hgo] at hi
       rw [nameOf_putOb (by rw [hn]; simp)] at hi
       split at hi
       ·exact hi.elim
       ·rename_i hne
        have := hh.apart d j 0 d2 j2 i2 b o' o2 (by rw [hn]; trivial) hi hg hg2
        exact hne ⟨this.1.symm, this.2.1.symm⟩
      ·have hir : isRow ow d j = false := by unfold isRow; rw [getOb_eq, hn]; rfl
       exact (ok_tr ht b rw_ (hok hir) hr).1
    ·cases h
   ·rename_i d j hkey hrow0
    split at h
    ·rename_i r hrow
     split at h
     ·rename_i he
      subst he
      simp only [Option.some.injEq, Prod.mk.injEq] at h
      obtain ⟨h1, rfl⟩ := h
      have ht := frzN_tr hh hF d j
      refine ⟨ht, ?_⟩
      obtain ⟨d', j', ver, l0, hk', hn, hgood, a, c, rfl, hlc, hx⟩ := rowOf_sound ht.hrep (ht.sv _ _ hs) hrow
      rw [hkey] at hk'
      cases hk'
      have h1 : x = r.2 := by rw [← h1]; rfl
      subst h1
      refine ⟨a, c, rfl, hlc, ?_⟩
      rcases hx with hx | ⟨b, o, rw_, _, ha, hr, hel, hok⟩
      ·exact .inl hx
      ·refine .inr ⟨b, o, rw_, ha, hok ?_, hr, hel⟩
       rcases frzN_cases (ow := ow) d j with e | ⟨s1, l1, l1', hn1, _, e⟩
       ·rw [e] at hrow
        rw [hrow] at hrow0
        cases hrow0
       ·unfold isRow
        rw [e, getOb_eq, nameOf_putOb (by rw [hn1]; simp)]
        simp
     ·cases h
    ·cases h
   ·cases h
  ·cases h
theorem toCells_sound (hF : ∀ b, F b → b < w.heap.size) : (k : Kd) → {ow ow' : OW} → (hh : HRep F G ow w.heap) → {l : List SV} → {vs : List Value} → Svs F G ow w.heap l vs → {x : k.T} → toCells k l ow = some (x, ow') →
  Tr F G ow w G ow' w ∧ Rep w.heap (okF F G ow') k x vs
 | .cons a b, ow, ow', hh, l, vs, hl, x, h => by
  cases l with
  | nil => simp [toCells] at h
  | cons s r =>
   simp only [toCells] at h
   obtain ⟨v, vs', rfl, hv, hvs⟩ := hl.uncons
   split at h
   ·rename_i y hy
    split at h
    ·rename_i z hz
     cases h
     obtain ⟨t1, r1⟩ := toLeaf_sound (x := y.1) (ow' := y.2) hh hF hv hy
     obtain ⟨t2, r2⟩ := toCells_sound hF b (x := z.1) (ow' := z.2) t1.hrep ⟨hvs.1, fun i h1 h2 => t1.sv _ _ (hvs.2 i h1 h2)⟩ hz
     exact ⟨t1.trans t2, [v], vs', rfl, Rep.mono (ok_tr t2) _ r1, r2⟩
    ·cases h
   ·cases h
 | .nil, ow, ow', hh, l, vs, hl, x, h => by
  cases l with
  | nil =>
   simp only [toCells, Option.some.injEq, Prod.mk.injEq] at h
   obtain ⟨_, rfl⟩ := h
   have : vs = [] := List.eq_nil_of_length_eq_zero hl.1.symm
   subst this
   exact ⟨.refl hh, rfl⟩
  | cons s r => simp [toCells] at h
 | .int _, _, _, _, _, _, _, _, h => by simp [toCells] at h
 | .bool, _, _, _, _, _, _, _, h => by simp [toCells] at h
 | .str, _, _, _, _, _, _, _, h => by simp [toCells] at h
 | .err, _, _, _, _, _, _, _, h => by simp [toCells] at h
 | .any, _, _, _, _, _, _, _, h => by simp [toCells] at h
 | .sl _ _, _, _, _, _, _, _, _, h => by simp [toCells] at h
 | .tree _, _, _, _, _, _, _, _, h => by simp [toCells] at h
theorem toLeaf_one {k : Kd} {s : SV} {x : k.T} (h : toLeaf k s ow = some (x, ow')) : cellOk s = true := by
 unfold toLeaf at h
 split at h
 ·rfl
 ·rfl
 ·rfl
 ·split at h
  ·split at h
   ·rename_i hkey _
    unfold keyOf at hkey
    split at hkey
    ·rfl
    ·rfl
    ·cases hkey
   ·rename_i hkey _
    unfold keyOf at hkey
    split at hkey
    ·rfl
    ·rfl
    ·cases hkey
   ·cases h
  ·cases h
theorem toPay_sound (hh : HRep F G ow w.heap) (hF : ∀ b, F b → b < w.heap.size) {k : Kd} {s : SV} {v : Value} (hs : Sv F G ow w.heap s v) {x : k.T} (h : toPay k s ow = some (x, ow')) :
  Tr F G ow w G ow' w ∧ Rep w.heap (okF F G ow') k x v.cells.toList ∧ (if k.isSt then ∃ cs, v = .agg cs else v.oneCell' = true) := by
 unfold toPay at h
 split at h
 ·rename_i hk
  split at h
  ·rename_i l
   obtain ⟨vs, rfl, hvs⟩ := hs.agg_inv
   obtain ⟨t, r⟩ := toCells_sound hF k hh hvs h
   exact ⟨t, r, by simp [hk]⟩
  ·cases h
 ·rename_i hk
  obtain ⟨t, r⟩ := toLeaf_sound hh hF hs h
  have h1 := one_of hs (toLeaf_one h)
  exact ⟨t, by rw [cells_of_one h1]; exact r, by simp [hk, h1]⟩
theorem toPays_sound (hF : ∀ b, F b → b < w.heap.size) {k : Kd} : (l : List SV) → {ow ow' : OW} → (hh : HRep F G ow w.heap) → {vs : List Value} → Svs F G ow w.heap l vs → {xs : List k.T} → toPays k l ow = some (xs, ow') →
  Tr F G ow w G ow' w ∧ xs.length = vs.length ∧ ∀ i (h1 : i < xs.length) (h2 : i < vs.length), Rep w.heap (okF F G ow') k xs[i] (vs[i]).cells.toList
 | [], ow, ow', hh, vs, hl, xs, h => by
  simp only [toPays, Option.some.injEq, Prod.mk.injEq] at h
  obtain ⟨rfl, rfl⟩ := h
  exact ⟨.refl hh, hl.1, fun i h1 => by simp at h1⟩
 | s :: r, ow, ow', hh, vs, hl, xs, h => by
  simp only [toPays] at h
  obtain ⟨v, vs', rfl, hv, hvs⟩ := hl.uncons
  split at h
  ·rename_i y hy
   split at h
   ·rename_i z hz
    cases h
    obtain ⟨t1, r1, _⟩ := toPay_sound (x := y.1) (ow' := y.2) hh hF hv hy
    obtain ⟨t2, e, r2⟩ := toPays_sound hF r (xs := z.1) (ow' := z.2) t1.hrep ⟨hvs.1, fun i h1 h2 => t1.sv _ _ (hvs.2 i h1 h2)⟩ hz
    refine ⟨t1.trans t2, by simp [e], fun i h1 h2 => ?_⟩
    cases i with
    | zero => exact Rep.mono (ok_tr t2) _ r1
    | succ i => exact r2 i (by simpa using h1) (by simpa using h2)
   ·cases h
  ·cases h
theorem ElemsR.congr {α : Type} {R : α → List Value → Prop} {n : Nat} {l : List α} {r r' : Array Value} {o o' : Nat} (h : ElemsR R n l r o) (hs : o' + l.length * n ≤ r'.size) (he : sub r' o' (l.length * n) = sub r o (l.length * n)) : ElemsR R n l r' o' := by
 refine ⟨hs, fun i hi => ?_⟩
 have hb : i * n + n ≤ l.length * n := by
  have : (i + 1) * n ≤ l.length * n := Nat.mul_le_mul_right _ hi
  rw [Nat.add_mul, Nat.one_mul] at this
  exact this
 rw [sub_sub hb, he, ← sub_sub hb]
 exact h.2 i hi
theorem ElemsR.append {α : Type} {R : α → List Value → Prop} {n : Nat} {l l' : List α} {r : Array Value} {o : Nat} (h : ElemsR R n l r o) (h' : ElemsR R n l' r (o + l.length * n)) : ElemsR R n (l ++ l') r o := by
 refine ⟨by have := h'.1; simp [Nat.add_mul]; omega, fun i hi => ?_⟩
 by_cases hl : i < l.length
 ·rw [List.getElem_append_left hl]
  exact h.2 i hl
 ·rw [List.getElem_append_right (by omega)]
  have := h'.2 (i - l.length) (by simp at hi; omega)
  rw [Nat.add_assoc, ← Nat.add_mul, show l.length + (i - l.length) = i by omega] at this
  exact this
theorem elemOk_some {e : TypeId} {k : Kd} (h : elemOk P e k = true) : k.good = true ∧ 0 < k.n ∧ k.n = sizeT P e ∧ 0 < bytesT P e ∧ ∃ i z, P.info? e = some i ∧ i.zero = some z ∧ i.size = k.n ∧ bytesT P e = i.bytes ∧ z.cells.size = k.n := by
 unfold elemOk at h
 simp only [Bool.and_eq_true, decide_eq_true_eq] at h
 obtain ⟨⟨⟨⟨h1, h2⟩, h3⟩, h4⟩, h5⟩ := h
 refine ⟨h1, h2, h3, h4, ?_⟩
 split at h5
 ·rename_i z hz
  simp only [Option.bind_eq_some_iff] at hz
  obtain ⟨i, hi, hz⟩ := hz
  exact ⟨i, z, hi, hz, by rw [h3]; simp [sizeT, Program.cellsOf, hi], by simp [bytesT, Program.bytesOf, hi], of_decide_eq_true h5⟩
 ·cases h5
theorem res_row (hh : HRep F G ow w.heap) (hF : ∀ b, F b → b < w.heap.size) {d : Nat} {k : Kd} {l : List k.T} {r : Array Value} (hk : k.good = true) (hel : ElemsR (fun x cs => Rep w.heap (okF F G ow) k x cs) k.n l r 0) (hn : newObs ow d [.row k 0 l] = some ow') (et : TypeId) {c : Nat} (hlc : l.length ≤ c) (hc : c * k.n ≤ r.size)
  {w1 : World} (h1 : w1.heap = w.heap) (hos : w1.os = w.os) (hout : w1.output = w.output) (htape : w1.tape = w.tape) :
  Tr F G ow w (G.new d (loc1 (some (w.heap.size, 0)))) ow' (w1.alloc (.cells r et)) ∧ Sv F (G.new d (loc1 (some (w.heap.size, 0)))) ow' (w1.alloc (.cells r et)).heap (.wh d 0 0 []) (.slice (some ⟨w.heap.size, 0, none⟩) l.length c) := by
 have hg : (G.new d (loc1 (some (w.heap.size, 0)))) d 0 0 = some (w.heap.size, 0) := by simp [Gh.new, loc1]
 have hg1 : ∀ i, (G.new d (loc1 (some (w.heap.size, 0)))) d 0 (i + 1) = none := by simp [Gh.new, loc1]
 have hnew : (w1.alloc (.cells r et)).heap[w.heap.size]? = some (.cells r et) := by rw [← h1]; exact heap_alloc_new _ _
 refine ⟨tr_alloc hh hF hn h1 hos hout htape _ 0 fun hsv hok => ⟨hg1, hk, ?_⟩, .wh ?_⟩
 ·simp only [hg]
  exact ⟨r, et, hnew, hel.mono fun x cs hx => Rep.mono hok _ hx⟩
 ·simp only [HandR, nameOf_new hn, Option.getD_none]
  exact ⟨by omega, _, _, rfl, hlc, .inr ⟨w.heap.size, 0, 0, r, hg, rfl, rowCells_of hnew, fun _ => by simp, by simpa using hc⟩⟩
end
end Go.Pev
end
