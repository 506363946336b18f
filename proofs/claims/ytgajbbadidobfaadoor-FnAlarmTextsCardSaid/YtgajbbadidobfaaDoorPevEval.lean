/-
  PEV, part 2: the evaluator of operations, regions, code and functions. Nothing is proved here.
-/
import Derived.Test.YtgajbbadidobfaaDoorPevDef
set_option linter.unusedVariables false
set_option linter.unusedSimpArgs false
namespace Go.Pev

/-! ### Shapes: what goes into a call, out of it, round a loop -/

inductive Sh where
  | pur (kd : Kd)
  | own (k : Kd)
  | row (k : Kd)
  | box (l : Sh)
  | agg (l : Sh)
  | fn (f : Fn) (n : Nat) (l : Sh)
  | ign | nl
  | nil | cons (a b : Sh)

@[reducible] def Sh.T : Sh → Type
  | .pur kd => kd.T
  | .own k => List k.T
  | .row k => List k.T
  | .box l => l.T
  | .agg l => l.T
  | .fn _ _ l => l.T
  | .ign => Unit
  | .nl => Unit
  | .nil => Unit
  | .cons a b => a.T × b.T

@[reducible] def Sh.Out : Sh → Type
  | .pur _ => Unit
  | .own _ => Unit
  | .row k => List k.T
  | .box l => l.T
  | .agg l => l.Out
  | .fn _ _ l => l.Out
  | .ign => Unit
  | .nl => Unit
  | .nil => Unit
  | .cons a b => a.Out × b.Out

def Sh.z : (s : Sh) → s.T
  | .pur kd => kd.z
  | .own _ => []
  | .row _ => []
  | .box l => l.z
  | .agg l => l.z
  | .fn _ _ l => l.z
  | .ign => ()
  | .nl => ()
  | .nil => ()
  | .cons a b => (a.z, b.z)

def Sh.zo : (s : Sh) → s.Out
  | .pur _ => ()
  | .own _ => ()
  | .row _ => []
  | .box l => l.z
  | .agg l => l.zo
  | .fn _ _ l => l.zo
  | .ign => ()
  | .nl => ()
  | .nil => ()
  | .cons a b => (a.zo, b.zo)

/-- How many owned things. -/
def Sh.m : Sh → Nat
  | .own _ | .row _ => 1
  | .box l => l.m + 1
  | .agg l => l.m
  | .fn _ _ l => l.m
  | .cons a b => a.m + b.m
  | _ => 0

def Sh.len : Sh → Nat
  | .cons _ b => b.len + 1
  | _ => 0

/-- Nothing in it is shared memory. -/
def Sh.fresh : Sh → Bool
  | .pur kd => kd.allOwn
  | .own k | .row k => k.allOwn
  | .box l | .agg l | .fn _ _ l => l.fresh
  | .cons a b => a.fresh && b.fresh
  | _ => true

/-- What is written back into it is not shared memory. -/
def Sh.freshOut : Sh → Bool
  | .row k => k.allOwn
  | .box l => l.fresh
  | .agg l | .fn _ _ l => l.freshOut
  | .cons a b => a.freshOut && b.freshOut
  | _ => true

/-- The row of one's own that a value is, taken. -/
def takeRow (k : Kd) (v : SV) (ow : OW) : Option (List k.T × OW) :=
  match keyOf v, rowOf ow v with
  | some (d, j), some r => if isRow ow d j then (if h : r.1 = k then some (castL h r.2, putOb ow d j none) else none) else none
  | _, _ => none

def pk : (s : Sh) → List SV → OW → Option (s.T × OW)
  | .pur kd, [v], ow => toPay kd v ow
  | .own k, [v], ow => (match v with | .nils => if k.good then some ([], ow) else none | v => takeRow k v ow)
  | .row k, [v], ow => (match v with | .wh d j ver path => takeRow k (.wh d j ver path) ow | _ => none)
  | .box l, [.bp d j c], ow =>
    (match getOb ow d j with
    | some (.box cells) => if c = 0 ∧ cells.length = l.len then pk l cells (putOb ow d j none) else none
    | _ => none)
  | .agg l, [.agg cs], ow => pk l cs ow
  | .fn f n l, [.fn g a b], ow => if f = g ∧ a.length = n then pk l (a ++ b) ow else none
  | .ign, [_], ow => some ((), ow)
  | .nl, [.nils], ow => some ((), ow)
  | .nil, [], ow => some ((), ow)
  | .cons a b, v :: r, ow =>
    (match pk a [v] ow with
    | some x => (match pk b r x.2 with | some y => some ((x.1, y.1), y.2) | none => none)
    | none => none)
  | _, _, _ => none

/-- Data as values, with what is owned under a key. -/
def unpk (d : Nat) : (s : Sh) → s.T → Nat → List SV × List OB
  | .pur kd, x, _ => ([valS kd x], [])
  | .own k, l, j => ([.wh d j 0 []], [.row k 0 l])
  | .row k, l, j => ([.wh d j 0 []], [.row k 0 l])
  | .box l, x, j => let r := unpk d l x (j + 1); ([.bp d j 0], .box r.1 :: r.2)
  | .agg l, x, j => let r := unpk d l x j; ([.agg r.1], r.2)
  | .fn f n l, x, j => let r := unpk d l x j; ([.fn f (r.1.take n) (r.1.drop n)], r.2)
  | .ign, _, _ => ([.dead], [])
  | .nl, _, _ => ([.nils], [])
  | .nil, _, _ => ([], [])
  | .cons a b, x, j => let r := unpk d a x.1 j; let s := unpk d b x.2 (j + r.2.length); (r.1 ++ s.1, r.2 ++ s.2)

/-- What a call wrote, put back: 'old' is what was owned ahead of the call. -/
def unOut (d : Nat) (old : OW) : (s : Sh) → List SV → s.Out → OW × List OB → Option (OW × List OB)
  | .row k, [.wh dd j _ _], y, st =>
    (match getOb old dd j with
    | some (.row k' ver _) => if k' = k then some (putOb st.1 dd j (some (.row k (ver + 1) y)), st.2) else none
    | _ => none)
  | .box l, [.bp dd j c], y, st =>
    (match getOb old dd j with
    | some (.box _) => if c = 0 then some (putOb st.1 dd j (some (.box (unpk d l y st.2.length).1)), st.2 ++ (unpk d l y st.2.length).2) else none
    | _ => none)
  | .agg l, [.agg cs], y, st => unOut d old l cs y st
  | .fn _ _ l, [.fn _ a b], y, st => unOut d old l (a ++ b) y st
  | .cons a b, v :: r, y, st => (match unOut d old a [v] y.1 st with | some st => unOut d old b r y.2 st | none => none)
  | .pur _, [_], _, st => some st
  | .own _, [_], _, st => some st
  | .ign, [_], _, st => some st
  | .nl, [_], _, st => some st
  | .nil, [], _, st => some st
  | _, _, _, _ => none

/-- At a function's end: what its arguments hold. -/
def outp : (s : Sh) → List SV → OW → Option (s.Out × OW)
  | .row k, l, ow => pk (.row k) l ow
  | .box s, l, ow => pk (.box s) l ow
  | .agg l, [.agg cs], ow => outp l cs ow
  | .fn f n l, [.fn g a b], ow => if f = g ∧ a.length = n then outp l (a ++ b) ow else none
  | .cons a b, v :: r, ow =>
    (match outp a [v] ow with
    | some x => (match outp b r x.2 with | some y => some ((x.1, y.1), y.2) | none => none)
    | none => none)
  | .pur _, [_], ow => some ((), ow)
  | .own _, [_], ow => some ((), ow)
  | .ign, [_], ow => some ((), ow)
  | .nl, [_], ow => some ((), ow)
  | .nil, [], ow => some ((), ow)
  | _, _, _ => none

structure Sig where
  args : Sh
  res : Sh
  den : args.T → Option (res.T × args.Out)

structure Ctx where
  P : Program
  sigs : List (FuncId × List Sig)
  fuel : Nat

def Ctx.sigsOf (C : Ctx) (f : FuncId) : List Sig := match C.sigs.find? (fun x => x.1 == f) with | some x => x.2 | none => []

structure Ann where
  loops : List (Nat × List (Nat × Sh)) := []
  joins : List (Nat × List (Nat × Kd)) := []
  keys : List (Nat × List (List Nat × Bool)) := []

/-! ### Operations -/

/-- A value of one cell. -/
def cellOk : SV → Bool
  | .agg _ | .tup _ | .dead => false
  | _ => true

def cellsOfSV (P : Program) (t : TypeId) (s : SV) : Option (List SV) :=
  if isAggT P t then (match s with | .agg l => if l.length = sizeT P t && l.all cellOk then some l else none | _ => none)
  else if cellOk s && sizeT P t = 1 then some [s] else none

def valOfCells (P : Program) (t : TypeId) (l : List SV) : Option SV :=
  match undl P t with
  | none => none
  | some _ =>
    if isAggT P t then (if 0 < sizeT P t ∧ sizeT P t ≤ l.length then some (.agg (l.take (sizeT P t))) else none)
    else (match l with | s :: _ => some s | [] => none)

def evLoad (P : Program) (t : TypeId) (p : SV) (ow : OW) : Cmd SV :=
  match p with
  | .bp d j c => (match getOb ow d j with | some (.box cells) => .ofOpt (valOfCells P t (cells.drop c)) | _ => .fail)
  | .rp d j _ path e c =>
    (match rowAt ow d j path with
    | some r => .bnd r.1.z r.2[e]? fun x => (match dropK r.1.ch (chT r.1 x) c with | some y => .ofOpt (valOfCells P t (cellsS y.1 y.2)) | none => .fail)
    | none => .fail)
  | .ip k x => .ofOpt (valOfCells P t (cellsS k x))
  | _ => .fail

def setCells (cells : List SV) (c : Nat) (new : List SV) : Option (List SV) :=
  if c + new.length ≤ cells.length then some (cells.take c ++ new ++ cells.drop (c + new.length)) else none

/-- The kinds of some cells of an element. -/
def kindsAt (k : Kd) (c n : Nat) : Option Kd := match dropK k.ch (chT k k.z) c with | some y => takeK y.1 n | none => none

def evStore (P : Program) (t : TypeId) (p s : SV) (ow : OW) : Cmd OW :=
  match cellsOfSV P t s with
  | none => .fail
  | some new =>
    (match p with
    | .bp d j c =>
      (match getOb ow d j with
      | some (.box cells) => (match setCells cells c new with | some cells' => .ret (putOb ow d j (some (.box cells'))) | none => .fail)
      | _ => .fail)
    | .rp d j _ [] e c =>
      (match getOb ow d j with
      | some (.row k ver l) =>
        (match kindsAt k c new.length with
        | some kt =>
          (match toCells kt new ow with
          | some y =>
            (match getOb y.2 d j with
            | some (.row k' ver' l') =>
              if h : k' = k then .bnd k.z (castL h l')[e]? fun x =>
                (match setAtCh k.ch (chT k x) c kt y.1 with
                | some x' => .ret (putOb y.2 d j (some (.row k ver' ((castL h l').set e (unch k x')))))
                | none => .fail)
              else .fail
            | _ => .fail)
          | none => .fail)
        | none => .fail)
      | _ => .fail)
    | _ => .fail)

def isBox (ow : OW) (d j : Nat) : Bool := match getOb ow d j with | some (.box _) => true | _ => false

def evFieldAddr (P : Program) (t : TypeId) (p : SV) (f : Nat) (ow : OW) : Cmd SV :=
  match fieldT P t f with
  | none => .fail
  | some fd => if sizeT P fd.type = 0 then .fail else
    (match p with
    | .bp d j c => if isBox ow d j then .ret (.bp d j (c + fd.offset)) else .fail
    | .rp d j ver path e c => (match rowAt ow d j path with | some _ => .ret (.rp d j ver path e (c + fd.offset)) | none => .fail)
    | .ip k x => (match dropK k x fd.offset with | some y => .ret (.ip y.1 y.2) | none => .fail)
    | _ => .fail)

/-- A slice type whose elements have so many cells. -/
def sliceOf (P : Program) (t : TypeId) (n : Nat) : Bool :=
  match undl P t with
  | some (.slice e) => (match P.info? e with | some i => i.size == n | none => false)
  | _ => false

def evIndexAddr (P : Program) (t : TypeId) (x i : SV) (ow : OW) : Cmd SV :=
  match i with
  | .v (.int _) n =>
    (match x with
    | .v (.sl _ e) l => if e.ch.leafy && sliceOf P t e.n then .chk (decide (0 ≤ n)) (.bnd e.z l[n.toNat]? fun y => .ret (.ip e.ch (chT e y))) else .fail
    | .wh d j ver path => (match rowAt ow d j path with | some r => if sliceOf P t r.1.n then .chk (decide (0 ≤ n ∧ n < r.2.length)) (.ret (.rp d j ver path n.toNat 0)) else .fail | none => .fail)
    | .os d j ver path off len => (match rowAt ow d j path with | some r => if sliceOf P t r.1.n then .chk (decide (0 ≤ n ∧ n < len)) (.ret (.rp d j ver path (off + n.toNat) 0)) else .fail | none => .fail)
    | _ => .fail)
  | _ => .fail

def cutL {α : Type} (l : List α) (lo hi : Option Int) : List α :=
  match lo, hi with
  | none, none => l
  | some a, none => l.drop a.toNat
  | none, some b => l.take b.toNat
  | some a, some b => (l.take b.toNat).drop a.toNat

def cutOk (n : Nat) (lo hi : Option Int) : Bool :=
  match lo, hi with
  | none, none => true
  | some a, none => decide (0 ≤ a ∧ a ≤ n)
  | none, some b => decide (0 ≤ b ∧ b ≤ n)
  | some a, some b => decide (0 ≤ a ∧ a ≤ b ∧ b ≤ n)

def optInt : Option SV → Option (Option Int)
  | none => some none
  | some (.v (.int _) n) => some (some n)
  | _ => none

def isStrT (P : Program) (t : TypeId) : Bool := match undl P t with | some .string => true | _ => false

def evSlice (P : Program) (t : TypeId) (x : SV) (lo hi : Option SV) (ow : OW) : Cmd SV :=
  match optInt lo, optInt hi with
  | some a, some b =>
    (match x with
    | .v .str s => if isStrT P t then .chk (cutOk s.length a b) (.ret (.v .str (cutL s a b))) else .fail
    | .v (.sl o e) l => if sliceOf P t e.n then .chk (cutOk l.length a b) (.ret (.v (.sl o e) (cutL l a b))) else .fail
    | .wh d j ver path => (match rowAt ow d j path with | some r => if sliceOf P t r.1.n then .chk (cutOk r.2.length a b) (.ret (.os d j ver path (a.getD 0).toNat ((b.getD r.2.length).toNat - (a.getD 0).toNat))) else .fail | none => .fail)
    | .os d j ver path off len => (match rowAt ow d j path with | some r => if sliceOf P t r.1.n then .chk (cutOk len a b) (.ret (.os d j ver path (off + (a.getD 0).toNat) ((b.getD len).toNat - (a.getD 0).toNat))) else .fail | none => .fail)
    | _ => .fail)
  | _, _ => .fail

def isSliceT (P : Program) (t : TypeId) : Bool := match undl P t with | some (.slice _) => true | _ => false

def evLen (P : Program) (t : TypeId) (x : SV) (ow : OW) : Cmd SV :=
  match x with
  | .v .str s => if isStrT P t then .ret (.v (.int .i64) s.length) else .fail
  | x => if isSliceT P t then (match x with
    | .v (.sl _ _) l => .ret (.v (.int .i64) l.length)
    | .nils => .ret (.v (.int .i64) 0)
    | .wh d j _ path => (match rowAt ow d j path with | some r => .ret (.v (.int .i64) r.2.length) | none => .fail)
    | .os d j _ path _ len => (match rowAt ow d j path with | some _ => .ret (.v (.int .i64) len) | none => .fail)
    | _ => .fail) else .fail

def maxBytes : Nat := 140737488355328

/-- What is appended, as elements of a kind. -/
def appElems (k : Kd) (x : SV) (ow : OW) : Option (List k.T) :=
  match x with
  | .nils => some []
  | .v (.sl _ k') l => if h : k' = k then some (castL h l) else none
  | x => (match rowOf ow x with | some r => if h : r.1 = k then some (castL h r.2) else none | none => none)

/-- A row's kind. -/
def kindOf (ow : OW) (x : SV) : Option Kd :=
  match x with
  | .v (.sl _ k) _ => some k
  | x => (match rowOf ow x with | some r => some r.1 | none => none)

/-- Has the type a zero, and elements of so many cells and some bytes? -/
def elemOk (P : Program) (e : TypeId) (k : Kd) : Bool :=
  k.good && decide (0 < k.n) && decide (k.n = sizeT P e) && decide (0 < bytesT P e) && (match (P.info? e).bind (·.zero) with | some z => decide (z.cells.size = k.n) | none => false)

/-- A zero's cells, as a kind's. -/
def zeroRep : Kd → List Value → Bool
  | .int k, [.int k' n] => k == k' && n == 0
  | .bool, [.bool b] => !b
  | .str, [.string s] => s.data.size == 0
  | .err, [.nilIface] => true
  | .sl false _, [.slice none 0 0] => true
  | .nil, [] => true
  | .cons a b, v :: r => !a.isSt && zeroRep a [v] && zeroRep b r
  | _, _ => false

def zeroOk (P : Program) (e : TypeId) (k : Kd) : Bool := match (P.info? e).bind (·.zero) with | some z => zeroRep k z.cells.toList | none => false

def evAppend (P : Program) (t : TypeId) (s x : SV) (ow : OW) (d : Nat) : Cmd (SV × OW) :=
  match elemT P t with
  | none => .fail
  | some e =>
    (match s with
    | .nils =>
      (match x with
      | .nils => if (P.info? e).isSome then .ret (.nils, ow) else .fail
      | x =>
        (match kindOf ow x with
        | some k => (match appElems k x ow with
          | some y => if elemOk P e k then .chk (decide (y.length * bytesT P e ≤ maxBytes))
            (match newObs ow d [.row k 0 y] with | some ow' => .ret (.wh d 0 0 [], ow') | none => .fail) else .fail
          | none => .fail)
        | none => .fail))
    | s =>
      (match keyOf s, rowOf ow s with
      | some (dd, j), some b => if isRow ow dd j then
        (match appElems b.1 x ow with
        | some y => if elemOk P e b.1 then .chk (decide ((b.2.length + y.length) * bytesT P e ≤ maxBytes))
          (match newObs (putOb ow dd j none) d [.row b.1 0 (b.2 ++ y)] with | some ow' => .ret (.wh d 0 0 [], ow') | none => .fail) else .fail
        | none => .fail) else .fail
      | _, _ => .fail))

def evMakeSlice (P : Program) (t : TypeId) (n c : SV) (ow : OW) (d : Nat) : Cmd (SV × OW) :=
  match elemT P t, n, c with
  | some e, .v (.int .i64) n, .v (.int .i64) c =>
    (match kdOf P 16 e with
    | some k => if elemOk P e k && zeroOk P e k then
      .chk (decide (0 ≤ n ∧ n ≤ c ∧ c * bytesT P e ≤ maxBytes)) (match newObs ow d [.row k 0 (List.replicate n.toNat k.z)] with | some ow' => .ret (.wh d 0 0 [], ow') | none => .fail) else .fail
    | none => .fail)
  | _, _, _ => .fail

def toPays (k : Kd) : List SV → OW → Option (List k.T × OW)
  | [], ow => some ([], ow)
  | s :: r, ow =>
    (match toPay k s ow with
    | some x => (match toPays k r x.2 with | some y => some (x.1 :: y.1, y.2) | none => none)
    | none => none)

def evBuildSlice (P : Program) (t : TypeId) (n : Nat) (parts : List (Nat × SV)) (ow : OW) (d : Nat) : Cmd (SV × OW) :=
  match elemT P t with
  | none => .fail
  | some e =>
    (match kdOf P 16 e with
    | none => .fail
    | some k =>
      if parts.map (·.1) = List.range n ∧ n * sizeT P e ≤ 16777216 ∧ elemOk P e k then
        (match toPays k (parts.map (·.2)) ow with
        | some y => (match newObs y.2 d [.row k 0 y.1] with | some ow' => .ret (.wh d 0 0 [], ow') | none => .fail)
        | none => .fail)
      else .fail)

def zeroCells (P : Program) (t : TypeId) : Option (List SV) :=
  match P.info? t with
  | some i => (match i.zero with
    | some v => if v.cells.size = i.size then some (v.cells.toList.map (ofVal 4)) else none
    | none => none)
  | none => none

def fillS (P : Program) (t : TypeId) : List SV → List (Nat × SV) → Option (List SV)
  | cells, [] => some cells
  | cells, (f, s) :: r =>
    (match fieldT P t f with
    | some fd => (match cellsOfSV P fd.type s with | some new => (match setCells cells fd.offset new with | some cells' => fillS P t cells' r | none => none) | none => none)
    | none => none)

def evBuild (P : Program) (t : TypeId) (parts : List (Nat × SV)) : Cmd SV :=
  match zeroCells P t, undl P t with
  | some cells, some (.struct fs) => if fs.toList.all (fun f => (P.info? f.type).isSome) then (match fillS P t cells parts with | some r => .ret (.agg r) | none => .fail) else .fail
  | _, _ => .fail

def evField (P : Program) (t : TypeId) (x : SV) (f : Nat) : Cmd SV :=
  match x, fieldT P t f with
  | .agg cs, some fd => .ofOpt (valOfCells P fd.type (cs.drop fd.offset))
  | _, _ => .fail

def evConvert (P : Program) (src dst : TypeId) (x : SV) (ow : OW) : Cmd SV :=
  match undl P src, undl P dst, x with
  | some (.int _), some (.int k), .v (.int _) n => .ret (.v (.int k) (k.wrap n))
  | some (.slice e), some .string, x =>
    (match undl P e with
    | some (.int .u8) =>
      (match x with
      | .nils => .ret (.v .str [])
      | .v (.sl _ (.int .u8)) l => .ret (.v .str (l.map fun n : Int => UInt8.ofNat n.toNat))
      | x => (match rowOf ow x with | some ⟨.int .u8, l⟩ => .ret (.v .str (l.map fun n : Int => UInt8.ofNat n.toNat)) | _ => .fail))
    | _ => .fail)
  | _, _, _ => .fail

/-- Cells of a struct, field by field. -/
def eqFieldsS (P : Program) : Nat → List Field → List SV → List SV → Option Bool
  | _, [], [], [] => some true
  | i, f :: fs, a :: r, b :: s =>
    if f.name != "_" && f.offset == i then
      (match a, b with
      | .v (.int k) a, .v (.int k') b => if k = k' then (match undl P f.type with | some (.int _) => (match eqFieldsS P (i + 1) fs r s with | some c => some ((a == b) && c) | none => none) | _ => none) else none
      | .v .str a, .v .str b => (match undl P f.type with | some .string => (match eqFieldsS P (i + 1) fs r s with | some c => some ((a == b) && c) | none => none) | _ => none)
      | .v .bool a, .v .bool b => (match undl P f.type with | some .bool => (match eqFieldsS P (i + 1) fs r s with | some c => some ((a == b) && c) | none => none) | _ => none)
      | _, _ => none)
    else none
  | _, _, _, _ => none

def boolOf : SV → Option Bool
  | .v .bool b => some b
  | .lb b => some b
  | _ => none

def binInt (op : BinOp) (k : IntKind) (a b : Int) : Cmd SV :=
  match op with
  | .add => .ret (.v (.int k) (k.wrap (a + b)))
  | .sub => .ret (.v (.int k) (k.wrap (a - b)))
  | .mul => .ret (.v (.int k) (k.wrap (a * b)))
  | .quo => .chk (!decide (b = 0)) (.ret (.v (.int k) (k.wrap (a.tdiv b))))
  | .rem => .chk (!decide (b = 0)) (.ret (.v (.int k) (a.tmod b)))
  | .and => .ret (.v (.int k) (k.wrap (BitVec.ofInt k.bits a &&& BitVec.ofInt k.bits b).toNat))
  | .or => .ret (.v (.int k) (k.wrap (BitVec.ofInt k.bits a ||| BitVec.ofInt k.bits b).toNat))
  | .xor => .ret (.v (.int k) (k.wrap (BitVec.ofInt k.bits a ^^^ BitVec.ofInt k.bits b).toNat))
  | .andNot => .ret (.v (.int k) (k.wrap (BitVec.ofInt k.bits a &&& ~~~BitVec.ofInt k.bits b).toNat))
  | .eql => .ret (.v .bool (a == b))
  | .neq => .ret (.v .bool (a != b))
  | .lss => .ret (.v .bool (decide (a < b)))
  | .leq => .ret (.v .bool (decide (a ≤ b)))
  | .gtr => .ret (.v .bool (decide (a > b)))
  | .geq => .ret (.v .bool (decide (a ≥ b)))
  | _ => .fail

def maxInt64 : Int := 9223372036854775807

def binStr (op : BinOp) (a b : List UInt8) : Cmd SV :=
  match op with
  | .add => .chk (decide (((a.length + b.length : Nat) : Int) ≤ maxInt64)) (.ret (.v .str (a ++ b)))
  | .eql => .ret (.v .bool (a == b))
  | .neq => .ret (.v .bool (!(a == b)))
  | _ => .fail

def isIfaceT (P : Program) (t : TypeId) : Bool := match undl P t with | some (.interface _) => true | _ => false
def isBoolT (P : Program) (t : TypeId) : Bool := match undl P t with | some .bool => true | _ => false

/-- Equal or not. -/
def eqOp (op : BinOp) (c : Bool) : Option Bool := match op with | .eql => some c | .neq => some (!c) | _ => none
def evEq (op : BinOp) (c : Bool) : Cmd SV := match eqOp op c with | some c => .ret (.v .bool c) | none => .fail
def evNilEq (op : BinOp) (e : Bool) : Cmd SV := match op with | .eql => .amb e (.ret (.lb true)) (.ret (.lb false)) | .neq => .amb e (.ret (.lb false)) (.ret (.lb true)) | _ => .fail

/-- Is the slice empty? -/
def emptyOf (ow : OW) (x : SV) : Option Bool :=
  match x with
  | .v (.sl _ _) l => some l.isEmpty
  | x => (match rowOf ow x with | some r => some r.2.isEmpty | none => none)

def evBin (P : Program) (op : BinOp) (t : TypeId) (cst : Bool) (x y : SV) (ow : OW) : Cmd SV :=
  match x, y with
  | .v (.int k) a, .v (.int k') b =>
    (match op with
    | .shl => .chk (decide (0 ≤ b)) (.ret (.v (.int k) (k.wrap (a * 2 ^ (min b.toNat k.bits)))))
    | .shr => .chk (decide (0 ≤ b)) (.ret (.v (.int k) (a.fdiv (2 ^ (min b.toNat k.bits)))))
    | op => if k = k' then binInt op k a b else .fail)
  | .v .str a, .v .str b => if isStrT P t then binStr op a b else .fail
  | .v .err a, .v .err b => if isIfaceT P t && cst then .chk (!(a && b)) (evEq op (a == b)) else .fail
  | .agg a, .agg b =>
    (match undl P t with
    | some (.struct fs) =>
      if P.stoodInHeld t || P.eqGuardType P.depth t then .fail else
      (match eqFieldsS P 0 fs.toList a b with
      | some c => evEq op c
      | none => .fail)
    | _ => .fail)
  | .nils, .nils => if isSliceT P t then (match eqOp op true with | some c => .ret (.lb c) | none => .fail) else .fail
  | x, .nils => if isSliceT P t then (match emptyOf ow x with | some e => evNilEq op e | none => .fail) else .fail
  | x, y =>
    (match boolOf x, boolOf y with
    | some a, some b => if isBoolT P t then evEq op (a == b) else .fail
    | _, _ => .fail)

def evUn (op : UnOp) (x : SV) : Cmd SV :=
  match op, x with
  | .not, .v .bool b => .ret (.v .bool (!b))
  | .not, .lb b => .ret (.lb (!b))
  | .neg, .v (.int k) n => .ret (.v (.int k) (k.wrap (0 - n)))
  | .xor, .v (.int k) n => .ret (.v (.int k) (k.wrap (BitVec.ofInt k.bits (if k.signed then -1 else k.max) ^^^ BitVec.ofInt k.bits n).toNat))
  | _, _ => .fail

def evPick (c a b : SV) : Cmd SV :=
  match c with
  | .lb c => .ret (if c then a else b)
  | .v .bool c =>
    (match boolOf a, boolOf b with
    | some x, some y => .ret (.v .bool (cond c x y))
    | _, _ => .fail)
  | _ => .fail

def evIndex (x i : SV) : Cmd SV :=
  match x, i with
  | .v .str s, .v (.int _) n => .chk (decide (0 ≤ n)) (.bnd 0 s[n.toNat]? fun b => .ret (.v (.int .u8) b.toNat))
  | _, _ => .fail

def min2 (k : IntKind) : List SV → Int → Option Int
  | [], a => some a
  | .v (.int k') y :: r, x => if k = k' then min2 k r (if (y : Int) < x then y else x) else none
  | _, _ => none
def max2 (k : IntKind) : List SV → Int → Option Int
  | [], a => some a
  | .v (.int k') y :: r, x => if k = k' then max2 k r (if (y : Int) > x then y else x) else none
  | _, _ => none

def pad (l : List SV) : SV := match l with | [a] => a | l => .tup l

/-- What stays one's own behind a call. -/
def backOW (sg : Sig) (ow ow1 : OW) : OW := if sg.res.fresh && sg.args.freshOut then thaw ow ow1 else ow1

/-- A call of a function whose contract is known. -/
def evSig (sg : Sig) (args : List SV) (ow : OW) (d : Nat) : Option (Cmd (SV × OW)) :=
  match pk sg.args args ow with
  | none => none
  | some p => some (.bnd (sg.res.z, sg.args.zo) (sg.den p.1) fun y =>
    (match unOut d ow sg.args args y.2 (backOW sg ow p.2, (unpk d sg.res y.1 0).2) with
    | some q => (match newObs q.1 d q.2 with | some ow' => .ret (pad (unpk d sg.res y.1 0).1, ow') | none => .fail)
    | none => .fail))

def trySigs (args : List SV) (ow : OW) (d : Nat) : List Sig → Cmd (SV × OW)
  | [] => .fail
  | sg :: r => (match evSig sg args ow d with | some c => c | none => trySigs args ow d r)

def evIface (P : Program) (t : TypeId) (x : SV) : Cmd SV :=
  match undl P t, x with
  | some (.int .i64), .v (.int .i64) n => .ret (.v .any (t, .inl n))
  | some .string, .v .str s => .ret (.v .any (t, .inr s))
  | _, _ => .fail

/-- What a failed assertion gives. -/
def zeroInt (P : Program) (t : TypeId) : Bool := match (P.info? t).bind (·.zero) with | some (.int .i64 0) => true | _ => false
def zeroStr (P : Program) (t : TypeId) : Bool := match (P.info? t).bind (·.zero) with | some (.string s) => s.data.size == 0 | _ => false

def evAssert (P : Program) (t : TypeId) (x : SV) : Cmd SV :=
  match undl P t, x with
  | some (.int .i64), .v .any y => if zeroInt P t then .chk (!(y.1 == t) || y.2.isLeft) (.ret (.tup [.v (.int .i64) (cond (y.1 == t) (match y.2 with | .inl n => n | .inr _ => 0) 0), .v .bool (y.1 == t)])) else .fail
  | some .string, .v .any y => if zeroStr P t then .chk (!(y.1 == t) || y.2.isRight) (.ret (.tup [.v .str (cond (y.1 == t) (match y.2 with | .inr s => s | .inl _ => []) []), .v .bool (y.1 == t)])) else .fail
  | _, _ => .fail

def evNilCheck (x : SV) (ow : OW) : Cmd SV :=
  match x with
  | .bp d j c => if isBox ow d j then .ret (.bp d j c) else .fail
  | .rp d j ver path e c => (match rowAt ow d j path with | some _ => .ret (.rp d j ver path e c) | none => .fail)
  | .ip k x => .ret (.ip k x)
  | .fn (.func f) a b => .ret (.fn (.func f) a b)
  | _ => .fail

/-- Operations that only read. -/
def evRO (P : Program) (o : Op) (ρ : Operand → SV) (ow : OW) : Cmd SV :=
  match o with
  | .move x | .assign x => .ret (ρ x)
  | .pick c a b => evPick (ρ c) (ρ a) (ρ b)
  | .build t parts => evBuild P t (parts.toList.map fun x => (x.1, ρ x.2))
  | .load t a => evLoad P t (ρ a) ow
  | .nilCheck x => evNilCheck (ρ x) ow
  | .binOp op t x y _ => evBin P op t ((x matches .const _) || (y matches .const _)) (ρ x) (ρ y) ow
  | .unOp op _ x => evUn op (ρ x)
  | .convert s t x => evConvert P s t (ρ x) ow
  | .makeFunc f a b => .ret (.fn f (a.toList.map ρ) (b.toList.map ρ))
  | .makeInterface t x => evIface P t (ρ x)
  | .typeAssert x _ t true => evAssert P t (ρ x)
  | .slice t x lo hi none => evSlice P t (ρ x) (lo.map ρ) (hi.map ρ) ow
  | .fieldAddr t x f => evFieldAddr P t (ρ x) f ow
  | .field t x f => evField P t (ρ x) f
  | .indexAddr t x i => evIndexAddr P t (ρ x) (ρ i) ow
  | .index t x i => if isStrT P t then evIndex (ρ x) (ρ i) else .fail
  | .extract t i => (match ρ t with | .tup l => (match l[i]? with | some s => .ret s | none => .fail) | _ => .fail)
  | .call c =>
    (match c.callee with
    | .builtin .len => (match c.args.toList, c.argTypes.toList with | [x], t :: _ => evLen P t (ρ x) ow | _, _ => .fail)
    | .builtin .min => (match c.args.toList.map ρ with | .v (.int k) a :: r => (match min2 k r a with | some n => .ret (.v (.int k) n) | none => .fail) | _ => .fail)
    | .builtin .max => (match c.args.toList.map ρ with | .v (.int k) a :: r => (match max2 k r a with | some n => .ret (.v (.int k) n) | none => .fail) | _ => .fail)
    | _ => .fail)
  | _ => .fail

def isPurs : Sh → Bool
  | .nil => true
  | .cons (.pur _) b => isPurs b
  | _ => false

/-- A call that makes and takes nothing but data, and hands back no memory. -/
def callRO (args : List SV) (ow : OW) : List Sig → Cmd SV
  | [] => .fail
  | sg :: r =>
    if isPurs sg.args && isPurs sg.res && sg.res.fresh then
      (match pk sg.args args ow with
      | some p => .bnd (sg.res.z, sg.args.zo) (sg.den p.1) fun y => .ret (pad (unpk 0 sg.res y.1 0).1)
      | none => callRO args ow r)
    else callRO args ow r

/-- Operations of a region that is joined at its end. -/
def evJ (C : Ctx) (o : Op) (ρ : Operand → SV) (ow : OW) : Cmd SV :=
  match o with
  | .call { callee := .value f, args, .. } => (match ρ f with | .fn (.func id) a b => callRO (a ++ args.toList.map ρ ++ b) ow (C.sigsOf id) | _ => .fail)
  | o => evRO C.P o ρ ow

def evOp (C : Ctx) (o : Op) (ρ : Operand → SV) (ow : OW) (d : Nat) : Cmd (SV × OW) :=
  match o with
  | .alloc t => (match zeroCells C.P t with | some cells => (match newObs ow d [.box cells] with | some ow' => .ret (.bp d 0 0, ow') | none => .fail) | none => .fail)
  | .box t x => (match cellsOfSV C.P t (ρ x) with | some cells => (match newObs ow d [.box cells] with | some ow' => .ret (.bp d 0 0, ow') | none => .fail) | none => .fail)
  | .buildSlice t n parts => evBuildSlice C.P t n (parts.toList.map fun x => (x.1, ρ x.2)) ow d
  | .store t a x => (evStore C.P t (ρ a) (ρ x) ow).bind fun ow' => .ret (.tup [], ow')
  | .makeSlice t n c => evMakeSlice C.P t (ρ n) (ρ c) ow d
  | .call { callee := .builtin .append, args, argTypes } => (match args.toList, argTypes.toList with | [s, x], [t, tx] => if isSliceT C.P tx then evAppend C.P t (ρ s) (ρ x) ow d else .fail | _, _ => .fail)
  | .call { callee := .value f, args, .. } => (match ρ f with | .fn (.func id) a b => trySigs (a ++ args.toList.map ρ ++ b) ow d (C.sigsOf id) | _ => .fail)
  | o => (evRO C.P o ρ ow).bind fun s => .ret (s, ow)

/-! ### Regions -/

def opd (sl : List SV) : Operand → SV
  | .tmp t => (match sl[t]? with | some s => s | none => .dead)
  | .const v => ofVal 4 v
  | .global _ => .dead
  | .func f => .fn (.func f) [] []

def setSl (sl : List SV) (d : Option Tmp) (s : SV) : List SV := match d with | some d => sl.set d s | none => sl

/-- The operations by whose outcome others are guarded. -/
def isSrc (ops : Array Oper) (i : Nat) : Bool := ops.toList.any fun o => match o.guard with | some (j, _) => j == i | none => false

/-- Where others hang on it, a truth is parted at once. -/
def split {α : Type} (n : Nat) (src : Bool) (s : SV) (k : SV → Option α) : Option α :=
  if src then (match s with | .v .bool b => br n b (k (.lb true)) (k (.lb false)) | s => k s) else k s

/-- Is the operation wanted? -/
def wants (ops : Array Oper) (o : Oper) (sl : List SV) : Option Bool :=
  match o.guard with
  | none => some true
  | some (j, want) =>
    (match (ops[j]?).bind (·.dst) with
    | none => some false
    | some g => (match sl[g]? with | some (.lb b) => some (b == want) | some (.tup []) => some false | _ => none))

noncomputable def evOps {α : Type} (C : Ctx) (ops : Array Oper) : List (Oper × Nat) → St → (St → Option α) → Option α
  | [], st, k => k st
  | (o, i) :: r, st, k =>
    match wants ops o st.sl with
    | none => none
    | some false => evOps C ops r ⟨setSl st.sl o.dst (.tup []), st.ow⟩ k
    | some true => (evOp C o.op (opd st.sl) st.ow (o.dst.getD 0)).run C.fuel fun x => split C.fuel (isSrc ops i) x.1 fun s => evOps C ops r ⟨setSl st.sl o.dst s, x.2⟩ k

/-- Over slots alone: nothing else is turned. -/
noncomputable def evJs {α : Type} (C : Ctx) (ops : Array Oper) (ow : OW) : List (Oper × Nat) → List SV → (List SV → Option α) → Option α
  | [], sl, k => k sl
  | (o, i) :: r, sl, k =>
    match wants ops o sl with
    | none => none
    | some false => evJs C ops ow r (setSl sl o.dst (.tup [])) k
    | some true => (evJ C o.op (opd sl) ow).run C.fuel fun x => split C.fuel (isSrc ops i) x fun s => evJs C ops ow r (setSl sl o.dst s) k

/-! #### Regions whose order is open -/

/-- What stands for things that a step does not look at. -/
def dummyL : List (Option OB) := List.replicate 64 none

/-- What is owned under some keys; of the others nothing is known. -/
def maskOW (K : List Nat) : Nat → OW → OW
  | _, [] => []
  | i, l :: r => (if K.contains i then l else dummyL) :: maskOW K (i + 1) r

/-- What was turned under some keys, put back. -/
def mergeOW (K : List Nat) : Nat → OW → OW → OW
  | _, [], _ => []
  | i, a :: r, s => (if K.contains i then s.headD a else a) :: mergeOW K (i + 1) r s.tail

def smallOW (ow : OW) : Bool := ow.all fun l => decide (l.length ≤ 64)

/-- All handles in it have their keys among these. -/
def svIn (K : List Nat) : Nat → SV → Bool
  | 0, _ => false
  | _ + 1, .wh d _ _ _ => K.contains d
  | _ + 1, .os d _ _ _ _ _ => K.contains d
  | _ + 1, .rp d _ _ _ _ _ => K.contains d
  | _ + 1, .bp d _ _ => K.contains d
  | f + 1, .agg l => l.all (svIn K f)
  | f + 1, .tup l => l.all (svIn K f)
  | f + 1, .fn _ a b => a.all (svIn K f) && b.all (svIn K f)
  | _ + 1, _ => true

def obIn (K : List Nat) : Option OB → Bool
  | some (.box cells) => cells.all (svIn K 8)
  | _ => true

/-- Nothing else was turned, and nothing there hangs on anything else. -/
def frameOW (K : List Nat) : Nat → OW → Bool
  | _, [] => true
  | i, l :: r => (if K.contains i then l.all (obIn K) else l.all (·.isNone) && l.length == 64) && frameOW K (i + 1) r

def okM (K : List Nat) (ow : OW) : Bool := frameOW K 0 ow && smallOW ow

/-- An operation of a region whose order is open: the keys that it looks at, and whether it turns anything there. -/
def evM (C : Ctx) (o : Op) (q : List Nat × Bool) (ρ : Operand → SV) (owm : OW) (d : Nat) : Cmd (SV × Option OW) :=
  if q.2 then (evOp C o ρ owm d).bind fun x => if okM q.1 x.2 && svIn q.1 8 x.1 then .ret (x.1, some x.2) else .fail
  else (evJ C o ρ owm).bind fun s => if okM q.1 owm && svIn q.1 8 s then .ret (s, none) else .fail

def putM (K : List Nat) (ow : OW) : Option OW → OW
  | some s => mergeOW K 0 ow s
  | none => ow

/-- The slots that an operation looks at. -/
def looks (ops : Array Oper) (o : Oper) : List Tmp :=
  (o.op.operands.toList.filterMap fun | .tmp t => some t | _ => none) ++ (match o.guard with | some (g, _) => ((ops[g]?).bind (·.dst)).toList | none => [])

def apartS (ops : Array Oper) (x y : Oper) : Bool :=
  (match x.dst with | some d => !(looks ops y).contains d && y.dst != some d | none => true) &&
  (match y.dst with | some d => !(looks ops x).contains d | none => true)

/-- Each two operations that no edge puts in order are apart. -/
def drawOk (ops : Array Oper) (apart : Nat → Nat → Bool) : Bool :=
  let b := Region.before ops
  (List.range ops.size).all fun j => (List.range j).all fun i => (b.getD j 0).testBit i || apart i j

def apartSAt (ops : Array Oper) (i j : Nat) : Bool := match ops[i]?, ops[j]? with | some x, some y => apartS ops x y | _, _ => false
def apartM (ops : Array Oper) (ks : List (List Nat × Bool)) (i j : Nat) : Bool :=
  apartSAt ops i j && (match ks[i]?, ks[j]? with | some x, some y => (!x.2 && !y.2) || x.1.all (fun d => !y.1.contains d) | _, _ => false)

noncomputable def Cmd.runA {α β : Type} (n : Nat) : Cmd β → (β → Option α) → Option α
  | .ret b, k => k b
  | .fail, _ => none
  | .chk c t, k => br n c (t.runA n k) none
  | .bnd _ m f, k => bd n m fun y => (f y).runA n k
  | .amb _ _ _, _ => none

/-- What must be before an operation, as bits. -/
def maskOf (ms : List Nat) (o : Oper) : Nat := o.after.toList.foldl (fun m e => if Region.binds .any e then m ||| (1 <<< e.on) ||| ms.getD e.on 0 else m) 0
def masksOf (ops : List Oper) (ms : List Nat) : List Nat := match ops with | [] => ms | o :: r => masksOf r (ms ++ [maskOf ms o])

def upOk : Nat → List Oper → Bool
  | _, [] => true
  | j, o :: r => o.after.toList.all (fun e => !Region.binds .any e || decide (e.on < j)) && upOk (j + 1) r

/-- Each two operations that nothing puts in order are apart. -/
def anyOk (ops : Array Oper) (apart : Nat → Nat → Bool) : Bool :=
  let ms := masksOf ops.toList []
  upOk 0 ops.toList && (List.range ops.size).all fun j => (List.range j).all fun i => (ms.getD j 0).testBit i || apart i j

noncomputable def evJsA {α : Type} (C : Ctx) (ops : Array Oper) (ow : OW) : List (Oper × Nat) → List SV → (List SV → Option α) → Option α
  | [], sl, k => k sl
  | (o, i) :: r, sl, k =>
    match wants ops o sl with
    | none => none
    | some false => evJsA C ops ow r (setSl sl o.dst (.tup [])) k
    | some true => (evJ C o.op (opd sl) ow).runA C.fuel fun x => split C.fuel (isSrc ops i) x fun s => evJsA C ops ow r (setSl sl o.dst s) k

noncomputable def evOpsM {α : Type} (C : Ctx) (ops : Array Oper) (ks : List (List Nat × Bool)) : List (Oper × Nat) → St → (St → Option α) → Option α
  | [], st, k => k st
  | (o, i) :: r, st, k =>
    match wants ops o st.sl with
    | none => none
    | some false => evOpsM C ops ks r ⟨setSl st.sl o.dst (.tup []), st.ow⟩ k
    | some true =>
      (match ks[i]? with
      | some q => if smallOW st.ow then (evM C o.op q (opd st.sl) (maskOW q.1 0 st.ow) (o.dst.getD 0)).runA C.fuel fun x => split C.fuel (isSrc ops i) x.1 fun s => evOpsM C ops ks r ⟨setSl st.sl o.dst s, putM q.1 st.ow x.2⟩ k else none
      | none => none)

def keptT : List (Nat × Kd) → Type
  | [] => Unit
  | (_, k) :: r => k.T × keptT r
def keptSl : (l : List (Nat × Kd)) → keptT l → List SV → List SV
  | [], _, sl => sl
  | (d, k) :: r, x, sl => (keptSl r x.2 sl).set d (.v k x.1)
/-- What a region that is joined leaves. -/
def joinLeaf (k : Kd) (s : SV) : Option k.T :=
  match s with
  | .v k' x => if h : k' = k then some (castK h x) else none
  | .lb b => (match k with | .bool => some b | _ => none)
  | .nils => (match k with | .sl false _ => some [] | _ => none)
  | _ => none

def packKept : (l : List (Nat × Kd)) → List SV → Option (keptT l)
  | [], _ => some ()
  | (d, k) :: r, sl =>
    (match joinLeaf k (opd sl (.tmp d)) with
    | some x => (match packKept r sl with | some y => some (x, y) | none => none)
    | none => none)

structure Ks (α : Type) where
  normal : St → Option α
  exit : Nat → St → Option α
  ret : St → Option α

/-- The live slots, as a shape. -/
def slotsSh : List (Nat × Sh) → Sh
  | [] => .nil
  | (_, s) :: r => .cons s (slotsSh r)

/-- A state with these slots alone: each one's owned things under its own key. -/
def mkSt (nt : Nat) : (l : List (Nat × Sh)) → (slotsSh l).T → St
  | [], _ => ⟨List.replicate nt .dead, List.replicate nt []⟩
  | (s, sh) :: r, x =>
    let st := mkSt nt r x.2
    let u := unpk s sh x.1 0
    ⟨st.sl.set s (u.1.headD .dead), st.ow.set s (u.2.map some)⟩

def okLive (nt : Nat) : List (Nat × Sh) → Bool
  | [] => true
  | (s, _) :: r => decide (s < nt) && !(r.map (·.1)).contains s && okLive nt r

/-- Rounds. -/
def iter {A R : Type} (b : (A → Option R) → A → Option R) : Nat → A → Option R
  | 0, _ => none
  | n + 1, x => b (iter b n) x

noncomputable def evLoop {α : Type} (nt : Nat) (live : List (Nat × Sh)) (F : St → (St → Option α) → Option α) (n : Nat) (x : (slotsSh live).T) : Option α :=
  iter (fun G x => F (mkSt nt live x) fun st => (match pk (slotsSh live) (live.map fun p => opd st.sl (.tmp p.1)) st.ow with | some y => G y.1 | none => none)) n x

noncomputable def evCode {α : Type} (C : Ctx) (ann : Ann) (nt : Nat) : Code → Nat → St → Ks α → Option α
  | .skip, _, st, K => K.normal st
  | .region id ops draw, _, st, K =>
    (match ann.joins.find? (fun x => x.1 == id) with
    | some (_, kept) =>
      if draw then (if anyOk ops (apartSAt ops) then
        (evJsA C ops st.ow ops.toList.zipIdx st.sl fun sl => packKept kept sl).bind fun p =>
        K.normal ⟨keptSl kept p (ops.toList.foldl (fun sl o => setSl sl o.dst .dead) st.sl), st.ow⟩
      else none) else
        (evJs C ops st.ow ops.toList.zipIdx st.sl fun sl => packKept kept sl).bind fun p =>
        K.normal ⟨keptSl kept p (ops.toList.foldl (fun sl o => setSl sl o.dst .dead) st.sl), st.ow⟩
    | none =>
      if draw then
        (match ann.keys.find? (fun x => x.1 == id) with
        | some (_, ks) => if anyOk ops (apartM ops ks) then evOpsM C ops ks ops.toList.zipIdx st K.normal else none
        | none => if anyOk ops (apartSAt ops) then evJsA C ops st.ow ops.toList.zipIdx st.sl fun sl => K.normal ⟨sl, st.ow⟩ else none)
      else evOps C ops ops.toList.zipIdx st K.normal)
  | .seq a b, bid, st, K => evCode C ann nt a bid st { K with normal := fun st' => evCode C ann nt b bid st' K }
  | .cond c a b, bid, st, K =>
    (match opd st.sl c with
    | .lb t => if t then evCode C ann nt a bid st K else evCode C ann nt b bid st K
    | .v .bool t => br C.fuel t (evCode C ann nt a bid st K) (evCode C ann nt b bid st K)
    | _ => none)
  | .block id c, _, st, K => evCode C ann nt c id st { K with exit := fun i st' => if i == id then K.normal st' else K.exit i st' }
  | .loop c, bid, st, K =>
    (match ann.loops.find? (fun x => x.1 == bid) with
    | none => none
    | some (_, live) => if okLive nt live then (match pk (slotsSh live) (live.map fun p => opd st.sl (.tmp p.1)) st.ow with
      | some y => evLoop nt live (fun st' k => evCode C ann nt c bid st' { K with normal := k }) C.fuel y.1
      | none => none) else none)
  | .exit id, _, st, K => K.exit id st
  | .ret, _, st, K => K.ret st
  | _, _, _, _ => none

/-! ### Functions -/

/-- The state that a function begins with: each argument's owned things under its own key. -/
def mkArg (nt : Nat) : (s : Sh) → s.T → Nat → St
  | .cons a b, x, i =>
    let st := mkArg nt b x.2 (i + 1)
    let u := unpk i a x.1 0
    ⟨st.sl.set i (u.1.headD .dead), st.ow.set i (u.2.map some)⟩
  | _, _, _ => ⟨List.replicate nt .dead, List.replicate nt []⟩

/-- Nothing is written back into it. -/
def noOut : Sh → Bool
  | .pur _ | .own _ | .ign | .nl => true
  | _ => false

/-- Slots that may be written: an argument's, where nothing is written back into it. -/
def freeArg : Sh → Nat → Bool
  | .cons a _, 0 => noOut a
  | .cons _ b, i + 1 => freeArg b i
  | _, _ => true

/-- No operation writes a slot that must stay. -/
def dstOk (fr : Nat → Bool) : Code → Bool
  | .region _ ops _ => ops.toList.all fun o => match o.dst with | some d => fr d | none => true
  | .seq a b => dstOk fr a && dstOk fr b
  | .cond _ a b => dstOk fr a && dstOk fr b
  | .block _ c => dstOk fr c
  | .loop c => dstOk fr c
  | _ => true

/-- A list of shapes. -/
def Sh.chain : Sh → Bool
  | .nil => true
  | .cons _ b => b.chain
  | _ => false

def resSV (P : Program) (st : St) : List ResultVar → Cmd (List SV)
  | [] => .ret []
  | .tmp t :: r => (resSV P st r).bind fun l => .ret (opd st.sl (.tmp t) :: l)
  | .cell a t :: r => (evLoad P t (opd st.sl (.tmp a)) st.ow).bind fun s => (resSV P st r).bind fun l => .ret (s :: l)

noncomputable def evFin (C : Ctx) (fn : Func) (args res : Sh) (st : St) : Option (res.T × args.Out) :=
  (resSV C.P st fn.results.toList).run C.fuel fun l =>
    (match pk res l st.ow with
    | some x => (match outp args (st.sl.take args.len) x.2 with | some y => some (x.1, y.1) | none => none)
    | none => none)

noncomputable def evFunc (C : Ctx) (ann : Ann) (fn : Func) (args res : Sh) (x : args.T) : Option (res.T × args.Out) :=
  match fn.body with
  | none => none
  | some c =>
    if args.chain && decide (args.len ≤ fn.ntmps) && dstOk (freeArg args) c then
    evCode C ann fn.ntmps c 0 (mkArg fn.ntmps args x 0)
      { normal := evFin C fn args res, exit := fun _ _ => none, ret := evFin C fn args res }
    else none

end Go.Pev
