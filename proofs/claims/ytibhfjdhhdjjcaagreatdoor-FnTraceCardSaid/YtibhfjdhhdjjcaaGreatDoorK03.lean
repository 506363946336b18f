/-
  PEV, part 30: from what a statement says of its arguments to the evaluator's data.
-/
import Derived.Test.YtibhfjdhhdjjcaaGreatDoorK02
import Derived.Below
import Derived.Carry
import Derived.WideShapes
import Derived.Lib.LaidTab
import Derived.ChangeArms
import Derived.Shelf.Strings.Fields
import Derived.Shelf.Strings.SplitShaped
import Derived.Shelf.LaysM
import Derived.Test.YtibhfjdhhdjjcaaGreatDoorProg
import Derived.KernelRfl
import Derived.Shelf.Spec.SlicesGrow
import Derived.Shelf.Bits.Mul64
set_option linter.unusedSimpArgs false
set_option linter.unusedVariables false
section
namespace Go.Pev
open Go Go.RowKit
def Kd.WF : (k : Kd) → k.T → Prop
 | .int k, n => k.min ≤ n ∧ n ≤ k.max
 | .str, s => s.length ≤ 140737488351232
 | .sl _ e, l => l.length ≤ 140737488351232 ∧ ∀ x ∈ l, e.WF x
 | .cons a b, x => a.WF x.1 ∧ b.WF x.2
 | _, _ => True
section
variable {P : Program}
def fldOk (P : Program) (kd : TypeId → Option Kd) (ok : TypeId → Bool) : List Field → Nat → Nat → Bool
 | [], off, n => off == n
 | x :: r, off, n => ok x.type && x.offset == off && (match kd x.type with | some k => k.ch.n == P.cellsOf x.type && k.ch.leafy && fldOk P kd ok r (off + P.cellsOf x.type) n | none => false)
def kdOk (P : Program) : Nat → TypeId → Bool
 | 0, _ => false
 | f + 1, t =>
  match undl P t with
  | some (.int _) | some .bool | some .string => true
  | some (.slice e) => (match kdOf P f e with | some k => k.n == P.cellsOf e && decide (0 < k.n) && decide (0 < P.bytesOf e) && kdOk P f e | none => false)
  | some (.struct fs) => fldOk P (kdOf P f) (kdOk P f) fs.toList 0 (P.cellsOf t)
  | _ => false
theorem Rep.ch {h : Array Obj} {ok : Nat → Prop} : (k : Kd) → {x : k.T} → {cs : List Value} → Rep h ok k x cs → Rep h ok k.ch (chT k x) cs
 | .int _, _, cs, e => ⟨cs, [], by simp, e, rfl⟩
 | .bool, _, cs, e => ⟨cs, [], by simp, e, rfl⟩
 | .str, _, cs, e => ⟨cs, [], by simp, e, rfl⟩
 | .err, _, cs, e => ⟨cs, [], by simp, e, rfl⟩
 | .any, _, cs, e => ⟨cs, [], by simp, e, rfl⟩
 | .sl _ _, _, cs, e => ⟨cs, [], by simp, e, rfl⟩
 | .nil, _, _, e => e
 | .cons _ _, _, _, e => e
 | .tree _, _, cs, e => ⟨cs, [], by simp, e, rfl⟩
theorem Kd.WF.ch : (k : Kd) → {x : k.T} → k.WF x → k.ch.WF (chT k x)
 | .int _, _, e => ⟨e, trivial⟩
 | .bool, _, e => ⟨e, trivial⟩
 | .str, _, e => ⟨e, trivial⟩
 | .err, _, e => ⟨e, trivial⟩
 | .any, _, e => ⟨e, trivial⟩
 | .sl _ _, _, e => ⟨e, trivial⟩
 | .nil, _, e => e
 | .cons _ _, _, e => e
 | .tree _, _, e => ⟨e, trivial⟩
theorem Rep.app {h : Array Obj} {ok : Nat → Prop} : (a : Kd) → a.leafy = true → {b : Kd} → {x : a.T} → {y : b.T} → {c1 c2 : List Value} → Rep h ok a x c1 → Rep h ok b y c2 → a.WF x → b.WF y → ∃ z : (a.app b).T, Rep h ok (a.app b) z (c1 ++ c2) ∧ (a.app b).WF z
 | .nil, _, b, x, y, c1, c2, e1, e2, w1, w2 => by
  have e1 : c1 = [] := e1
  subst e1
  exact ⟨y, e2, w2⟩
 | .cons a r, hl, b, x, y, c1, c2, e1, e2, w1, w2 => by
  simp only [Kd.leafy, Bool.and_eq_true] at hl
  obtain ⟨d1, d2, rfl, e3, e4⟩ := e1
  obtain ⟨z, e5, w5⟩ := Rep.app r hl.2 e4 e2 w1.2 w2
  exact ⟨(x.1, z), ⟨d1, d2 ++ c2, by simp, e3, e5⟩, w1.1, w5⟩
 | .int _, hl, _, _, _, _, _, _, _, _, _ => by cases hl
 | .bool, hl, _, _, _, _, _, _, _, _, _ => by cases hl
 | .str, hl, _, _, _, _, _, _, _, _, _ => by cases hl
 | .err, hl, _, _, _, _, _, _, _, _, _ => by cases hl
 | .any, hl, _, _, _, _, _, _, _, _, _ => by cases hl
 | .sl _ _, hl, _, _, _, _, _, _, _, _, _ => by cases hl
 | .tree _, hl, _, _, _, _, _, _, _, _, _ => by cases hl
theorem mapM_get {α β : Type} {g : α → Option β} : {l : List α} → {r : List β} → l.mapM g = some r → r.length = l.length ∧ ∀ i (h1 : i < l.length) (h2 : i < r.length), g l[i] = some r[i]
 | [], r, h => by cases h; exact ⟨rfl, fun i h => by simp at h⟩
 | a :: l, r, h => by
  simp only [List.mapM_cons, Option.bind_eq_bind, Option.bind_eq_some_iff, Option.pure_def, Option.some.injEq] at h
  obtain ⟨b, hb, r', hr, rfl⟩ := h
  obtain ⟨h1, h2⟩ := mapM_get hr
  refine ⟨by simp [h1], fun i h3 h4 => ?_⟩
  cases i with
  | zero => exact hb
  | succ i => exact h2 i (by simpa using h3) (by simpa using h4)
theorem weightsAll_mem {H : Type} {e : TypeId} : {l : List (DataW H)} → {d : DataW H} → d ∈ l → {q : Nat → Bool} → (DataW.weightsAll P e l).all q = true → (d.weights P e).all q = true
 | a :: l, d, hd, q, h => by
  simp only [DataW.weightsAll, List.all_append, Bool.and_eq_true] at h
  rcases List.mem_cons.1 hd with rfl | hd
  ·exact h.1
  ·exact weightsAll_mem hd h.2
theorem cell_some {w : World} {a : Addr} {v : Value} (h : w.cell? a = some v) : a.spot = none ∧ ∃ r, rowCells w.heap a.block = some r ∧ r[a.off]? = some v := by
 unfold World.cell? at h
 split at h
 ·rename_i c t f hc
  split at h
  ·cases h
  ·rename_i hs
   refine ⟨by simpa using hs, c, by unfold rowCells; rw [hc], h⟩
 ·cases h
theorem cells_sub {w : World} {b o n : Nat} {vs : List Value} {r : Array Value} (hr : rowCells w.heap b = some r) (h : w.cells? 0 ⟨b, o, none⟩ n = some vs) : vs = sub r o n ∧ o + n ≤ r.size ∨ n = 0 ∧ vs = [] := by
 unfold World.cells? at h
 rw [if_pos (Nat.zero_le _)] at h
 obtain ⟨h1, h2⟩ := mapM_get h
 simp only [List.length_range] at h1
 by_cases hn : n = 0
 ·subst hn
  right
  exact ⟨rfl, List.eq_nil_of_length_eq_zero h1⟩
 left
 have key : ∀ i, i < n → r[o + i]? = vs[i]? := by
  intro i hi
  have h3 : i < vs.length := by omega
  have := h2 i (by simpa using hi) h3
  simp only [List.getElem_range] at this
  obtain ⟨_, r', hr', hv⟩ := cell_some this
  have hb : (Addr.add ⟨b, o, none⟩ i).block = b := by unfold Addr.add; split <;> rfl
  have ho : (Addr.add ⟨b, o, none⟩ i).off = o + i := by unfold Addr.add; split <;> simp_all
  rw [hb, hr] at hr'
  cases hr'
  rw [ho] at hv
  rw [hv, List.getElem?_eq_getElem h3]
 have hsz : o + n ≤ r.size := by
  have := key (n - 1) (by omega)
  rw [List.getElem?_eq_getElem (show n - 1 < vs.length by omega)] at this
  have := (Array.getElem?_eq_some_iff.1 this).1
  omega
 refine ⟨?_, hsz⟩
 apply List.ext_getElem?
 intro i
 unfold sub
 rw [List.getElem?_take, List.getElem?_drop]
 by_cases hi : i < n
 ·rw [if_pos hi, ← key i hi]; simp
 ·rw [if_neg hi, List.getElem?_eq_none (by omega)]
theorem trod_rep {H : Type} {enc : TypeId × Value → H} {w : World} {spare : Nat → Bool} {held : Bool} : (fuel f : Nat) → {t : TypeId} → {cs : List Value} → {d : DataW H} → {ps : List MemPlace} → {k : Kd} → DataW.trod enc P w 0 spare held fuel t cs = some (d, ps) → kdOf P f t = some k → kdOk P f t = true →
  (d.weights P t).all (· ≤ reachBytes) = true → ∃ x : k.T, Rep w.heap (fun _ => True) k x cs ∧ k.WF x
 | 0, _, _, _, _, _, _, h, _, _, _ => by simp [DataW.trod] at h
 | _ + 1, 0, _, _, _, _, _, _, hk, _, _ => by simp [kdOf] at hk
 | fuel + 1, f + 1, t, cs, d, ps, k, h, hk, ho, hw => by
  simp only [kdOf, kdOk, undl] at hk ho
  cases hu : P.underlying t with
  | none => rw [hu] at hk; cases hk
  | some td =>
   rw [hu] at hk ho
   cases td with
   | bool =>
    simp only [Option.some.injEq] at hk
    subst hk
    obtain ⟨b, rfl, _⟩ := DataW.trod_bool hu h
    exact ⟨b, rfl, trivial⟩
   | int kk =>
    simp only [Option.some.injEq] at hk
    subst hk
    obtain ⟨n, rfl, _, hwf⟩ := DataW.trod_int hu h
    refine ⟨n, rfl, ?_⟩
    simpa [Lit.wf, Kd.WF] using hwf
   | string =>
    simp only [Option.some.injEq] at hk
    subst hk
    obtain ⟨s, rfl, hd, _⟩ := DataW.trod_string hu h
    cases hd
    refine ⟨s.data.toList, rfl, ?_⟩
    simp only [DataW.weights, List.all_cons, List.all_nil, Bool.and_true, decide_eq_true_eq] at hw
    exact hw
   | slice e =>
    cases he : kdOf P f e with
    | none => simp [he] at hk
    | some ke =>
     simp only [he, Option.some.injEq] at hk
     subst hk
     simp only [he, Bool.and_eq_true, beq_iff_eq, decide_eq_true_eq] at ho
     obtain ⟨⟨⟨hn, hpos⟩, hby⟩, hoe⟩ := ho
     rcases DataW.trod_slice hu h with ⟨rfl, _⟩ | ⟨a, len, cap, elems, rest, n, hfu, rfl, hd, _, hlc, _, hel, hall, _, _⟩
     ·exact ⟨[], ⟨none, 0, rfl, Nat.le_refl _, .inl rfl⟩, by simp, fun x hx => by simp at hx⟩
     ·cases hfu
      cases hd
      simp only [DataW.weights, hu, List.all_cons, List.all_append, Bool.and_eq_true, decide_eq_true_eq, List.length_map] at hw
      obtain ⟨hwl, hwe, _⟩ := hw
      have hlen : len ≤ 140737488351232 := by
       have : elems.length + rest.length ≤ (elems.length + rest.length) * P.bytesOf e := Nat.le_mul_of_pos_right _ hby
       unfold reachBytes at hwl
       omega
      cases len with
      | zero => exact ⟨[], ⟨some a, cap, rfl, Nat.zero_le _, .inl rfl⟩, by simp, fun x hx => by simp at hx⟩
      | succ len =>
       have helt : ∀ i, i < len + 1 → ∃ vs x, w.cells? 0 (a.add (i * P.cellsOf e)) (P.cellsOf e) = some vs ∧ Rep w.heap (fun _ => True) ke x vs ∧ ke.WF x := by
        intro i hi
        have h1 := hall i hi
        rw [List.getElem?_eq_getElem (show i < elems.length by omega)] at h1
        obtain ⟨vs, h2, h3⟩ := Option.bind_eq_some_iff.1 h1
        obtain ⟨x, h4, h5⟩ := trod_rep fuel f (d := elems[i].1) (ps := elems[i].2) h3 he hoe (weightsAll_mem (List.mem_map.2 ⟨elems[i], List.getElem_mem _, rfl⟩) hwe)
        exact ⟨vs, x, h2, h4, h5⟩
       obtain ⟨b, o, sp⟩ := a
       obtain ⟨vs0, _, hc0, _, _⟩ := helt 0 (by omega)
       have hsp : sp = none ∧ ∃ r, rowCells w.heap b = some r := by
        unfold World.cells? at hc0
        rw [if_pos (Nat.zero_le _)] at hc0
        obtain ⟨h1, h2⟩ := mapM_get hc0
        have := h2 0 (by simp; omega) (by rw [h1]; simp; omega)
        obtain ⟨h3, r, h4, _⟩ := cell_some this
        simp [Addr.add] at h3 h4
        exact ⟨h3, r, h4⟩
       obtain ⟨rfl, r, hr⟩ := hsp
       have hadd : ∀ i, Addr.add ⟨b, o, none⟩ i = ⟨b, o + i, none⟩ := fun i => by unfold Addr.add; split <;> simp_all
       have hch : ∀ i : Fin (len + 1), ∃ x, Rep w.heap (fun _ => True) ke x (sub r (o + i.1 * ke.n) ke.n) ∧ ke.WF x ∧ o + i.1 * ke.n + ke.n ≤ r.size := by
        intro i
        obtain ⟨vs, x, h1, h2, h3⟩ := helt i.1 i.2
        rw [hadd, ← hn] at h1
        rcases cells_sub hr h1 with ⟨rfl, h4⟩ | ⟨h4, _⟩
        ·exact ⟨x, h2, h3, h4⟩
        ·omega
       refine ⟨List.ofFn fun i => (hch i).choose, ⟨some ⟨b, o, none⟩, cap, by simp, by simp; omega, .inr ⟨b, o, r, rfl, trivial, hr, ?_, fun i hi => ?_⟩⟩, by simp; omega, fun x hx => ?_⟩
       ·have := (hch ⟨len, by omega⟩).choose_spec.2.2
        simp only [List.length_ofFn]
        rw [Nat.succ_mul]
        simp only at this
        omega
       ·simp only [List.length_ofFn] at hi
        simp only [List.getElem_ofFn]
        exact (hch ⟨i, hi⟩).choose_spec.1
       ·obtain ⟨i, rfl⟩ := List.mem_ofFn.1 hx
        exact (hch i).choose_spec.2.1
   | struct fs =>
    obtain ⟨xs, n, hfu, hd, hcl, hxl, hall⟩ := DataW.trod_struct hu h
    cases hfu
    cases hd
    simp only [DataW.weights, hu] at hw
    simp only at hk ho
    have key : ∀ (l : List Field) (i off : Nat) (kl : Kd), fs.toList.drop i = l → l.foldr (fun x acc => match kdOf P f x.type, acc with | some k, some r => some (k.ch.app r) | _, _ => none) (some .nil) = some kl →
      fldOk P (kdOf P f) (kdOk P f) l off (P.cellsOf t) = true → (DataW.weightsEach P (l.map (·.type)) ((xs.map (·.1)).drop i)).all (· ≤ reachBytes) = true → ∃ y : kl.T, Rep w.heap (fun _ => True) kl y (cs.drop off) ∧ kl.WF y := by
     intro l
     induction l with
     | nil =>
      intro i off kl _ hkl hfo _
      simp only [List.foldr_nil, Option.some.injEq] at hkl
      subst hkl
      simp only [fldOk, beq_iff_eq] at hfo
      refine ⟨(), ?_, trivial⟩
      show cs.drop off = []
      exact List.drop_eq_nil_of_le (by omega)
     | cons fd l ih =>
      intro i off kl hl hkl hfo hwe
      simp only [List.foldr_cons] at hkl
      cases hk1 : kdOf P f fd.type with
      | none => rw [hk1] at hkl; simp at hkl
      | some k1 =>
       rw [hk1] at hkl
       split at hkl
       ·rename_i k1' r hk1' hr
        cases hk1'
        cases hkl
        simp only [fldOk, hk1, Bool.and_eq_true, beq_iff_eq] at hfo
        obtain ⟨⟨hok1, hoff⟩, ⟨hkn, hlf⟩, hrest⟩ := hfo
        have hi : fs.toList[i]? = some fd := by
         have := congrArg (fun z => z[0]?) hl
         simpa [List.getElem?_drop] using this
        have hilt : i < xs.length := by
         have := (List.getElem?_eq_some_iff.1 hi).1
         simp at this
         omega
        have htr := hall i fd (by simpa using hi)
        rw [List.getElem?_eq_getElem hilt, hoff] at htr
        have hdr : (xs.map (·.1)).drop i = xs[i].1 :: (xs.map (·.1)).drop (i + 1) := by
         rw [List.drop_eq_getElem_cons (by simpa using hilt)]
         simp
        rw [hdr] at hwe
        simp only [List.map_cons, DataW.weightsEach, List.all_append, Bool.and_eq_true] at hwe
        obtain ⟨x, e1, w1⟩ := trod_rep fuel f (d := xs[i].1) (ps := xs[i].2) htr hk1 hok1 hwe.1
        obtain ⟨y, e2, w2⟩ := ih (i + 1) (off + P.cellsOf fd.type) r (by
         have := congrArg List.tail hl
         simpa using this) hr hrest hwe.2
        obtain ⟨z, e3, w3⟩ := Rep.app k1.ch hlf e1.ch e2 w1.ch w2
        refine ⟨z, ?_, w3⟩
        have hsplit : (cs.drop off).take (P.cellsOf fd.type) ++ cs.drop (off + P.cellsOf fd.type) = cs.drop off := by
         rw [← List.drop_drop, List.take_append_drop]
        rw [hsplit] at e3
        exact e3
       ·cases hkl
    obtain ⟨y, e1, w1⟩ := key fs.toList 0 0 k (by simp) hk ho (by simpa using hw)
    exact ⟨y, by simpa using e1, w1⟩
   | interface ms => simp at ho
   | _ => simp at hk
def WFs : (l : List Kd) → (purs l).T → Prop
 | [], _ => True
 | k :: r, x => k.WF x.1 ∧ WFs r x.2
def argOk (P : Program) (t : TypeId) (k : Kd) : Bool :=
 (match kdOf P 16 t with | some k' => decide (k' = k) | none => false) && kdOk P 16 t && (!k.isSt || k.leafy)
theorem app_isSt : (a : Kd) → {b : Kd} → b.isSt = true → (a.app b).isSt = true
 | .cons _ _, _, _ => rfl
 | .nil, _, h => h
 | .int _, _, h => h
 | .bool, _, h => h
 | .str, _, h => h
 | .err, _, h => h
 | .any, _, h => h
 | .sl _ _, _, h => h
 | .tree _, _, h => h
theorem payR_of' {f : Nat} {w : World} {base : Nat} {t : TypeId} {k' : Kd} {x : k'.T} {v : Value} (hk1 : kdOf P (f + 1) t = some k') (ho : kdOk P (f + 1) t = true) (hl : (!k'.isSt || k'.leafy) = true) (hr : Rep w.heap (fun _ => True) k' x v.cells.toList) (hv : Value.okWide P w .any base t v) : PayR w.heap (fun _ => True) k' x v := by
  simp only [kdOf, kdOk, undl] at hk1 ho
  cases hu : P.underlying t with
  | none => rw [hu] at hk1; cases hk1
  | some td =>
   rw [hu] at hk1 ho
   simp only [Value.okWide, hu] at hv
   cases td with
   | bool =>
    simp only [Option.some.injEq] at hk1
    subst hk1
    exact ⟨hr, (fun h => by cases h), fun _ => by simp only [Cell.okWide, hu] at hv; cases v <;> simp_all [Cell.ok, Value.oneCell']⟩
   | int kk =>
    simp only [Option.some.injEq] at hk1
    subst hk1
    exact ⟨hr, (fun h => by cases h), fun _ => by simp only [Cell.okWide, hu] at hv; cases v <;> simp_all [Cell.ok, Value.oneCell']⟩
   | string =>
    simp only [Option.some.injEq] at hk1
    subst hk1
    exact ⟨hr, (fun h => by cases h), fun _ => by simp only [Cell.okWide, hu] at hv; cases v <;> simp_all [Cell.ok, Value.oneCell']⟩
   | slice e =>
    cases he : kdOf P f e with
    | none => simp [he] at hk1
    | some ke =>
     simp only [he, Option.some.injEq] at hk1
     subst hk1
     exact ⟨hr, (fun h => by cases h), fun _ => by simp only [Cell.okWide, hu] at hv; cases v <;> simp_all [Cell.ok, Value.oneCell']⟩
   | struct fs =>
    obtain ⟨cs, rfl, _⟩ := hv
    have hst : k'.isSt = true := by
     have key : ∀ (l : List Field) (kl : Kd), l.foldr (fun x acc => match kdOf P f x.type, acc with | some k, some r => some (k.ch.app r) | _, _ => none) (some .nil) = some kl → kl.isSt = true := by
      intro l
      induction l with
      | nil => intro kl h; cases h; rfl
      | cons fd l ih =>
       intro kl h
       simp only [List.foldr_cons] at h
       split at h
       ·rename_i k1 r _ hr
        cases h
        exact app_isSt _ (ih r hr)
       ·cases h
     exact key fs.toList k' hk1
    refine ⟨hr, fun _ => ⟨⟨cs, rfl⟩, ?_⟩, fun h => ?_⟩
    ·simpa [hst] using hl
    ·rw [hst] at h; cases h
   | interface ms => simp at ho
   | _ => simp at hk1
theorem payR_of {w : World} {base : Nat} {t : TypeId} {k : Kd} {x : k.T} {v : Value} (ha : argOk P t k = true) (hr : Rep w.heap (fun _ => True) k x v.cells.toList) (hv : Value.okWide P w .any base t v) : PayR w.heap (fun _ => True) k x v := by
 simp only [argOk, Bool.and_eq_true] at ha
 obtain ⟨⟨hk, ho⟩, hl⟩ := ha
 cases hk1 : kdOf P 16 t with
 | none => rw [hk1] at hk; cases hk
 | some k' =>
  rw [hk1] at hk
  obtain rfl := of_decide_eq_true hk
  exact payR_of' (f := 15) hk1 ho hl hr hv
theorem args_rep {H : Type} {enc : TypeId × Value → H} {w : World} {base : Nat} : (ts : List TypeId) → (ks : List Kd) → {vs : List Value} → {ds : List (DataW H)} → {ps : List MemPlace} → DataW.TrodAll enc P w 0 (fun _ => true) true ts vs ds ps →
  ts.length = ks.length → (ts.zip ks).all (fun p => argOk P p.1 p.2) = true → (∀ (j : Nat) t v, ts[j]? = some t → vs[j]? = some v → Value.okWide P w .any base t v) → (DataW.weightsEach P ts ds).all (· ≤ reachBytes) = true →
  ∃ x : (purs ks).T, ShR w.heap (fun _ => True) (purs ks) x vs [] ∧ WFs ks x
 | [], ks, vs, ds, ps, h, hl, _, _, _ => by
  cases ks with
  | cons _ _ => simp at hl
  | nil =>
   cases vs with
   | nil => exact ⟨(), ⟨rfl, rfl⟩, trivial⟩
   | cons _ _ => cases ds <;> exact h.elim
 | t :: ts, ks, vs, ds, ps, h, hl, hk, hv, hw => by
  cases ks with
  | nil => simp at hl
  | cons k ks =>
   cases vs with
   | nil => cases ds <;> exact h.elim
   | cons v vs =>
    cases ds with
    | nil => exact h.elim
    | cons d ds =>
     obtain ⟨p, q, ⟨fuel, h1⟩, h2, _⟩ := h
     simp only [List.zip_cons_cons, List.all_cons, Bool.and_eq_true] at hk
     simp only [DataW.weightsEach, List.all_append, Bool.and_eq_true] at hw
     have ha := hk.1
     simp only [argOk, Bool.and_eq_true] at ha
     obtain ⟨⟨hk1, hk2⟩, _⟩ := ha
     cases hk3 : kdOf P 16 t with
     | none => rw [hk3] at hk1; cases hk1
     | some k' =>
      rw [hk3] at hk1
      obtain rfl := of_decide_eq_true hk1
      obtain ⟨x, e1, w1⟩ := trod_rep fuel 16 h1 hk3 hk2 hw.1
      obtain ⟨y, e2, w2⟩ := args_rep ts ks h2 (by simpa using hl) hk.2 (fun j t v ht hv' => hv (j + 1) t v ht hv') hw.2
      exact ⟨(x, y), shR_cons_mk (payR_of hk.1 e1 (hv 0 t v rfl rfl)) e2, w1, w2⟩
theorem law_calls {L : List (Nat × Obj)} {f : FuncId} {ks : List Kd} {den : Nat → (purs ks).T → Option ((Bool × Unit) × (purs ks).Out)} (hs : ∀ k, SigHolds P L f ⟨purs ks, .cons (.pur .bool) .nil, den k, []⟩)
  (hden : ∀ x, WFs ks x → ∃ k o, den k x = some ((true, ()), o)) {w : World} (hL : Laid L (fun _ => False) w.heap) {vs : List Value} {x : (purs ks).T} (hx : ShR w.heap (fun _ => True) (purs ks) x vs []) (hw : WFs ks x) :
  Calls P f vs.toArray w fun e w' => e = .returned (.bool true) ∧ Below w.heap.size w w' := by
 obtain ⟨k, o, hd⟩ := hden x hw
 have hx' : ShR w.heap (fun b => ¬ FP (fun _ => False) [] b) (purs ks) x vs [] := ShR.mono (fun b r _ hr => ⟨fun h => by rcases h with h | h; exact h; simp at h, hr⟩) _ (fun _ _ => rfl) hx
 refine ((hs k).2 w (fun _ => False) x vs [] _ (fun _ h => h.elim) (fun p hp => ⟨fun h => by simp at h, (hL p hp).2⟩) List.nodup_nil (fun _ h => by simp at h) hx' hd AlR.nil).mono fun e w' ⟨rs, fp1, fp2, he, hr, _, _, _, hk⟩ => ?_
 obtain ⟨v, r, rfl, p, h2⟩ := shR_cons hr
 obtain ⟨rfl, _⟩ := shR_nil h2
 obtain rfl := payR_bool p
 refine ⟨he, below_kept ⟨hk.size, fun b hb _ => hk.heap b hb (fun h => by simp at h), hk.cells, hk.os, hk.output, hk.tape⟩⟩
theorem trodAll_back {H : Type} {enc : TypeId × Value → H} {w w' : World} (hl : laidOutB P = true) (hb : Below w.heap.size w w') : (ts : List TypeId) → ts.all (fun t => P.readableRec t && decide (t < P.types.size)) = true → {vs : List Value} → {ds : List (DataW H)} → {ps : List MemPlace} →
  DataW.TrodAll enc P w 0 (fun _ => true) true ts vs ds ps → DataW.TrodAll enc P w' 0 (fun b => decide (b < w.heap.size)) true ts vs ds ps
 | [], _, vs, ds, ps, h => by
  cases vs <;> cases ds <;> first | exact h | exact h.elim
 | t :: ts, ht, vs, ds, ps, h => by
  cases vs with
  | nil => cases ds <;> exact h.elim
  | cons v vs =>
   cases ds with
   | nil => exact h.elim
   | cons d ds =>
    simp only [List.all_cons, Bool.and_eq_true, decide_eq_true_eq] at ht
    obtain ⟨p, q, h1, h2, rfl⟩ := h
    have hlt : ∀ x ∈ p, x.block < w.heap.size := by
     obtain ⟨m, hm⟩ := h1
     exact DataW.trod_lt m _ _ _ hm
    exact ⟨p, q, Below.trod hl ht.1.1 ht.1.2 h1 hb hlt, trodAll_back hl hb ts ht.2 h2, rfl⟩
theorem trodAll_len {H : Type} {enc : TypeId × Value → H} {w : World} {base : Nat} {sp : Nat → Bool} {held : Bool} : (ts : List TypeId) → {vs : List Value} → {ds : List (DataW H)} → {ps : List MemPlace} → DataW.TrodAll enc P w base sp held ts vs ds ps → ds.length = ts.length
 | [], vs, ds, ps, h => by cases vs <;> cases ds <;> first | rfl | exact h.elim
 | t :: ts, vs, ds, ps, h => by
  cases vs with
  | nil => cases ds <;> exact h.elim
  | cons v vs =>
   cases ds with
   | nil => exact h.elim
   | cons d ds =>
    obtain ⟨p, q, _, h2, _⟩ := h
    simp [trodAll_len ts h2]
theorem list_one {α : Type} {l : List α} (h : l.length = 1) : ∃ a, l = [a] := by
 match l, h with
 | [a], _ => exact ⟨a, rfl⟩
theorem Laid.append {L L' : List (Nat × Obj)} {I : Nat → Prop} {h : Array Obj} (h1 : Laid L I h) (h2 : Laid L' I h) : Laid (L ++ L') I h := fun p hp => by
 rcases List.mem_append.1 hp with hp | hp
 ·exact h1 p hp
 ·exact h2 p hp
theorem Laid.nil {I : Nat → Prop} {h : Array Obj} : Laid [] I h := fun _ hp => by cases hp
theorem var_obj {w : World} {name : String} {cs : Array Value} {g : Nat} (hg : P.globalNamed name = some g) (h : w.var? P name = some cs) : ∃ t fr, w.heap[g]? = some (.cells cs t fr) := by
 unfold World.var? at h
 rw [hg] at h
 simp only [Option.bind_some] at h
 split at h
 ·rename_i c t fr hc
  cases h
  exact ⟨t, fr, hc⟩
 ·cases h
end
end Go.Pev
end

section
/- Contracts of the library's functions at this dump, laid (out of the kit's shelf, by its own tools, trimmed). -/
namespace Go.Proofs
open Go.Shelf
def Tryz.lays157_ren : Go.Shelf.Ren := ⟨fun | 157 => 234 | 229 => 250 | 199 => 251 | 261 => 258 | 311 => 261 | 312 => 262 | n => n, fun | 9 => 9 | 31 => 22 | 3 => 3 | 5 => 5 | 4 => 4 | 119 => 264 | 0 => 0 | 40 => 266 | 152 => 269 | 21 => 21 | 154 => 271 | 51 => 272 | 141 => 274 | 196 => 280 | 193 => 277 | 198 => 283 | 49 => 281 | 194 => 278 | 201 => 286 | 226 => 288 | 46 => 201 | 227 => 289 | n => n, fun | 0 => 0 | 6 => 1 | n => n⟩
theorem Tryz.lays157 : Go.Proofs.Lays.n157 Tryz.prog Tryz.lays157_ren := {
 mixed := by kernel_rfl
 f157 := Tryz.func234.trans (congrArg some (by kernel_rfl))
 f199 := Tryz.func251.trans (congrArg some (by kernel_rfl))
 f229 := Tryz.func250.trans (congrArg some (by kernel_rfl))
 f261 := Tryz.func258.trans (congrArg some (by kernel_rfl))
 f311 := Tryz.func261.trans (congrArg some (by kernel_rfl))
 f312 := Tryz.func262.trans (congrArg some (by kernel_rfl))
 t0 := Tryz.underlying0
 a0 := Tryz.isAgg0
 z0 := Tryz.sizeOf0
 v0 := Tryz.zeroValue0
 t3 := Tryz.underlying3
 a3 := Tryz.isAgg3
 z3 := Tryz.sizeOf3
 v3 := Tryz.zeroValue3
 t4 := Tryz.underlying4
 a4 := Tryz.isAgg4
 z4 := Tryz.sizeOf4
 v4 := Tryz.zeroValue4
 t5 := Tryz.underlying5
 a5 := Tryz.isAgg5
 z5 := Tryz.sizeOf5
 v5 := Tryz.zeroValue5
 t9 := Tryz.underlying9
 a9 := Tryz.isAgg9
 z9 := Tryz.sizeOf9
 v9 := Tryz.zeroValue9
 t21 := Tryz.underlying21
 a21 := Tryz.isAgg21
 z21 := Tryz.sizeOf21
 v21 := Tryz.zeroValue21
 t31 := Tryz.underlying22
 a31 := Tryz.isAgg22
 z31 := Tryz.sizeOf22
 v31 := Tryz.zeroValue22
 t40 := Tryz.underlying266
 a40 := Tryz.isAgg266
 z40 := Tryz.sizeOf266
 v40 := Tryz.zeroValue266
 t46 := Tryz.underlying201
 a46 := Tryz.isAgg201
 z46 := Tryz.sizeOf201
 v46 := Tryz.zeroValue201
 t49 := Tryz.underlying281
 a49 := Tryz.isAgg281
 z49 := Tryz.sizeOf281
 v49 := Tryz.zeroValue281
 t51 := Tryz.underlying272
 a51 := Tryz.isAgg272
 z51 := Tryz.sizeOf272
 v51 := Tryz.zeroValue272
 t119 := Tryz.underlying264
 a119 := Tryz.isAgg264
 z119 := Tryz.sizeOf264
 t141 := Tryz.underlying274
 a141 := Tryz.isAgg274
 z141 := Tryz.sizeOf274
 v141 := Tryz.zeroValue274
 t152 := Tryz.underlying269
 a152 := Tryz.isAgg269
 z152 := Tryz.sizeOf269
 v152 := Tryz.zeroValue269
 t154 := Tryz.underlying271
 a154 := Tryz.isAgg271
 z154 := Tryz.sizeOf271
 v154 := Tryz.zeroValue271
 t193 := Tryz.underlying277
 a193 := Tryz.isAgg277
 z193 := Tryz.sizeOf277
 v193 := Tryz.zeroValue277
 t194 := Tryz.underlying278
 a194 := Tryz.isAgg278
 z194 := Tryz.sizeOf278
 v194 := Tryz.zeroValue278
 t196 := Tryz.underlying280
 a196 := Tryz.isAgg280
 z196 := Tryz.sizeOf280
 v196 := Tryz.zeroValue280
 t198 := Tryz.underlying283
 a198 := Tryz.isAgg283
 z198 := Tryz.sizeOf283
 v198 := Tryz.zeroValue283
 t201 := Tryz.underlying286
 a201 := Tryz.isAgg286
 z201 := Tryz.sizeOf286
 v201 := Tryz.zeroValue286
 t226 := Tryz.underlying288
 a226 := Tryz.isAgg288
 z226 := Tryz.sizeOf288
 v226 := Tryz.zeroValue288
 t227 := Tryz.underlying289
 a227 := Tryz.isAgg289
 z227 := Tryz.sizeOf289
 v227 := Tryz.zeroValue289
 g0 := by kernel_rfl
 g6 := by kernel_rfl }
open Go.RowKit Go.Lib in
theorem Tryz.strings_Fields (s : ByteArray) (w : World) (hs : s.size < 4294967281) (hascii : ∀ (j : Nat) b, s.data.toList[j]? = some b → b.toNat < 128) (htab : Lib.TabIs Tryz.prog w "strings.asciiSpace" .u8 Lib.asciiSpaceTab) :
  Calls Tryz.prog 234 #[.string s] w fun e w' =>
   e = .returned (.slice (some ⟨w.heap.size, 0, none⟩) (Lib.fields s.data.toList).length (Lib.fields s.data.toList).length) ∧ w' = w.alloc (.cells ((Lib.fields s.data.toList).map fun l => Value.string ⟨l.toArray⟩).toArray 9) := Any.strings_Fields Tryz.lays157 (by kernel_rfl) (by kernel_rfl) s w hs hascii htab
end Go.Proofs
end

section
/-
 strings.Fields, as a contract.
-/
open Go.Proofs
namespace Go.Pev.F.Lb
def NeedSp (L : List (Nat × Obj)) : Prop := ∃ t fr, (0, Obj.cells (Go.Lib.asciiSpaceTab.map fun z => Value.int .u8 z).toArray t fr) ∈ L
def Fields.A : Sh := .cons (.pur .str) .nil
def Fields.R : Sh := .cons (.own .str) .nil
noncomputable def Fields (_ : Nat) : (List UInt8 × Unit) → Option ((List (List UInt8) × Unit) × (Unit × Unit)) := fun x =>
 if x.1.length < 4294967281 ∧ x.1.all (fun b => decide (b.toNat < 128)) = true then some ((Go.Lib.fields x.1, ()), ((), ())) else none
noncomputable def Fields.sg (k : Nat) : Sig := ⟨Fields.A, Fields.R, Fields k, []⟩
theorem sp_of {L : List (Nat × Obj)} {w : World} (h : NeedSp L) (hL : Laid L (fun _ => False) w.heap) : Go.Lib.TabIs Tryz.prog w "strings.asciiSpace" .u8 Go.Lib.asciiSpaceTab := by
 obtain ⟨t, fr, hm⟩ := h
 have h1 := (hL _ hm).2
 have hg : Tryz.prog.globalNamed "strings.asciiSpace" = some 0 := by kernel_rfl
 unfold Go.Lib.TabIs World.var?
 rw [hg]
 simp only [Option.bind_some]
 simp only at h1
 rw [h1]
theorem strs_elems (h : Array Obj) (ok : Nat → Prop) (l : List (List UInt8)) : ElemsR (fun x cs => Rep h ok .str x cs) Kd.str.n l (l.map fun x => Value.string ⟨x.toArray⟩).toArray 0 := by
 refine ⟨by simp [Kd.n], fun i hi => ?_⟩
 show sub _ _ 1 = _
 simp only [sub, Kd.n, Nat.mul_one, Nat.zero_add]
 rw [List.drop_eq_getElem_cons (by simpa using hi)]
 simp
theorem Fields.ok {L : List (Nat × Obj)} (h : NeedSp L) (k : Nat) : SigHolds Tryz.prog L 234 (Fields.sg k) :=
 sig_pur Tryz.func234 (by kernel_rfl) (by kernel_rfl) rfl fun w x vs y F _ hLd hsh hy => by
  obtain ⟨(s : List UInt8), ⟨⟩⟩ := x
  obtain ⟨v1, r, rfl, p1, hsh⟩ := shR_cons hsh
  obtain ⟨rfl, _⟩ := shR_nil hsh
  obtain rfl := payR_str p1
  simp only [Fields] at hy
  split at hy
  ·rename_i hc
   obtain ⟨h1, h2⟩ := hc
   cases hy
   refine (Tryz.strings_Fields ⟨s.toArray⟩ w (by simpa [ByteArray.size] using h1) (fun j b hb => of_decide_eq_true (List.all_eq_true.1 h2 b (List.mem_of_getElem? hb))) (sp_of h hLd)).mono fun e w' ⟨he, hw⟩ => ?_
   subst hw
   refine ⟨[_], [w.heap.size], he, ⟨_, [], [w.heap.size], [], rfl, rfl, ⟨_, rfl, rfl, _, _, rfl, Nat.le_refl _, .inr ⟨w.heap.size, 0, _, _, rfl, rfl, heap_alloc_new _ _, strs_elems _ _ _, ?_⟩⟩, rfl, rfl⟩, by simp, fun b hb => by simp at hb; omega, kept_alloc _ _ _⟩
   simp [Kd.n]
  ·cases hy
theorem NeedSp.mono {L L' : List (Nat × Obj)} (h : NeedSp L) (hs : ∀ p ∈ L, p ∈ L') : NeedSp L' := by
 obtain ⟨t, fr, hm⟩ := h
 exact ⟨t, fr, hs _ hm⟩
theorem needSp_of {w : World} (h : Go.Lib.TabIs Tryz.prog w "strings.asciiSpace" .u8 Go.Lib.asciiSpaceTab) : ∃ L, NeedSp L ∧ Laid L (fun _ => False) w.heap := by
 obtain ⟨t, fr, hc⟩ := var_obj (g := 0) (by kernel_rfl) h
 refine ⟨[(_, .cells _ t fr)], ⟨t, fr, List.mem_singleton.2 rfl⟩, fun p hp => ?_⟩
 rw [List.mem_singleton] at hp
 subst hp
 exact ⟨fun h => h, hc⟩
end Go.Pev.F.Lb
end

section
/-
 slices.Grow of nil, as a contract, at whatever element.
-/
namespace Go.Pev
open Go Go.Proofs Go.Shelf Go.RowKit
def Grow.A : Sh := .cons .nl (.cons (.pur (.int .i64)) .nil)
def Grow.R (k : Kd) : Sh := .cons (.own k) .nil
noncomputable def Grow (k : Kd) (bytes : Nat) : (Unit × Int × Unit) → Option ((List k.T × Unit) × (Unit × Unit × Unit)) := fun x => if 0 ≤ x.2.1 ∧ x.2.1 * bytes ≤ 140737488355328 then some (([], ()), ((), (), ())) else none
theorem grow_ok {P : Program} {ρ : Ren} {L : List (Nat × Obj)} (hL : Lays8.n4 P ρ) {k : Kd} {e : TypeId} (he : ρ.t 25 = e) (hok : elemOk P e k = true) {f : FuncId} (hf : ρ.f 4 = f) {fn : Func} (hfn : P.funcs[f]? = some fn) (hname : (fn.name == "runtime.NumGoroutine") = false) (hbody : fn.body.isNone = false) :
  SigHolds P L f ⟨Grow.A, Grow.R k, Grow k (bytesT P e), []⟩ := by
 refine ⟨⟨fn, hfn, hname, hbody⟩, fun w F x vs fp y hF _ _ _ hsh hy _ => ?_⟩
 obtain ⟨⟨⟩, (n : Int), ⟨⟩⟩ := x
 obtain ⟨v1, r, f1, f2, rfl, rfl, ⟨h1, rfl⟩, h2⟩ := hsh
 obtain ⟨v2, r, rfl, p2, h3⟩ := shR_cons h2
 obtain ⟨rfl, rfl⟩ := shR_nil h3
 cases h1
 obtain rfl := payR_int p2
 simp only [Grow] at hy
 split at hy
 ·rename_i hc
  obtain ⟨hn0, hn1⟩ := hc
  have hn0 : 0 ≤ n := hn0
  have hn1 : n * (bytesT P e : Int) ≤ 140737488355328 := hn1
  cases hy
  obtain ⟨hgood, hpos, _, hbpos, i, z, hi, hz, hsz, hbe, hzs⟩ := elemOk_some hok
  subst he
  subst hf
  have hbp : 0 < bytesT P (ρ.t 25) := hbpos
  rw [hbe] at hn1 hbp
  have hn2 : n ≤ 140737488355328 := by
   have h1 : n * 1 ≤ n * (i.bytes : Int) := Int.mul_le_mul_of_nonneg_left (by omega) hn0
   rw [Int.mul_one] at h1
   exact Int.le_trans h1 hn1
  by_cases h0 : n = 0
  ·subst h0
   refine (Any8.slices_Grow_room hL none 0 0 0 w (by omega) (by omega) (by omega) (by omega)).mono fun e' w' ⟨he, hw⟩ => ?_
   subst hw
   refine ⟨[_], [], [], he, ⟨_, [], [], [], rfl, rfl, ⟨_, rfl, hgood, none, 0, rfl, Nat.le_refl _, .inl ⟨rfl, rfl, rfl, rfl⟩⟩, rfl, rfl⟩, ⟨_, _, [], [], rfl, rfl, .inl ⟨rfl, rfl⟩, _, _, [], [], rfl, rfl, .inl ⟨rfl, rfl⟩, rfl, rfl⟩, List.nodup_nil, fun b hb => by simp at hb, .refl _ _⟩
  ·obtain ⟨m, rfl⟩ : ∃ m : Nat, n = (m : Int) := ⟨n.toNat, by omega⟩
   have hbig : (0 + m) * i.bytes ≤ 140737488355328 := by
    have : ((m * i.bytes : Nat) : Int) ≤ 140737488355328 := by rw [Int.natCast_mul]; exact hn1
    rw [Nat.zero_add]
    omega
   refine (Any8.slices_Grow_grow hL i z hi hz (by omega) none 0 0 m [] w (by omega) (by omega) hbig (by omega) (by simp) (fun _ => rfl) (fun a ha => by cases ha)).mono fun e' w' ⟨he, hw⟩ => ?_
   subst hw
   have hg := grownCap_ge w (0 + m) 0 (ρ.t 25)
   have hnew : (w.drew.alloc (.cells ([].toArray ++ Builtin.zeroCells z.cells (0 + m - 0) ++ Builtin.zeroCells z.cells (grownCap w (0 + m) 0 (ρ.t 25) - (0 + m))) (ρ.t 25))).heap[w.heap.size]? = some (.cells ([].toArray ++ Builtin.zeroCells z.cells (0 + m - 0) ++ Builtin.zeroCells z.cells (grownCap w (0 + m) 0 (ρ.t 25) - (0 + m))) (ρ.t 25) (0, 0)) := heap_alloc_new w.drew _
   refine ⟨[_], [w.heap.size], [], he, ⟨_, [], [w.heap.size], [], rfl, rfl, ⟨_, rfl, hgood, _, _, rfl, by simp, .inr ⟨w.heap.size, 0, _, _, rfl, rfl, hnew, ⟨by simp, fun i hi => by simp at hi⟩, ?_⟩⟩, rfl, rfl⟩,
    ⟨_, _, [], [], rfl, rfl, .inl ⟨rfl, rfl⟩, _, _, [], [], rfl, rfl, .inl ⟨rfl, rfl⟩, rfl, rfl⟩, by simp, fun b hb => .inr (by simp at hb; omega), (kept_drew _ _).trans (kept_alloc (fun _ => False) _ _) (fun _ h => h.elim)⟩
   simp only [Array.size_append, List.size_toArray, List.length_nil, zeroCells_size, hzs]
   rw [Nat.zero_add, Nat.zero_add, Nat.zero_add, Nat.sub_zero, ← Nat.add_mul]
   rw [Nat.zero_add] at hg
   exact Nat.mul_le_mul_right _ (by omega)
 ·cases hy
end Go.Pev
end

section
/-
 Printed by gen.py: the contracts of slices.Grow at the seat's elements.
-/
open Go.Proofs Go.Pev Go.Shelf
namespace Go.Pev.F.Lb
set_option maxRecDepth 100000
def slices_Grow_string_string.ren : Ren := ⟨fun | 4 => 233 | n => n, fun | 0 => 0 | 3 => 3 | 4 => 4 | 9 => 9 | 20 => 20 | 22 => 22 | 25 => 9 | n => n, fun n => n⟩
theorem slices_Grow_string_string.lays : Go.Proofs.Lays8.n4 Tryz.prog slices_Grow_string_string.ren := {
 mixed := by kernel_rfl
 f4 := ⟨"slices.Grow[[]string,string]", by kernel_rfl, Tryz.func233.trans (congrArg some (by kernel_rfl))⟩
 t0 := Tryz.underlying0
 a0 := Tryz.isAgg0
 z0 := Tryz.sizeOf0
 v0 := Tryz.zeroValue0
 t3 := Tryz.underlying3
 a3 := Tryz.isAgg3
 z3 := Tryz.sizeOf3
 v3 := Tryz.zeroValue3
 t4 := Tryz.underlying4
 a4 := Tryz.isAgg4
 z4 := Tryz.sizeOf4
 v4 := Tryz.zeroValue4
 t9 := Tryz.underlying9
 a9 := Tryz.isAgg9
 z9 := Tryz.sizeOf9
 v9 := Tryz.zeroValue9
 t20 := Tryz.underlying20
 a20 := Tryz.isAgg20
 z20 := Tryz.sizeOf20
 v20 := Tryz.zeroValue20
 t22 := Tryz.underlying22
 a22 := Tryz.isAgg22
 z22 := Tryz.sizeOf22
 v22 := Tryz.zeroValue22 }
def slices_Grow_string_string.A : Sh := Grow.A
def slices_Grow_string_string.R : Sh := Grow.R .str
noncomputable def slices_Grow_string_string (_ : Nat) : (Unit × Int × Unit) → Option (((List (List UInt8)) × Unit) × (Unit × Unit × Unit)) := Grow .str 16
noncomputable def slices_Grow_string_string.sg (k : Nat) : Sig := ⟨slices_Grow_string_string.A, slices_Grow_string_string.R, slices_Grow_string_string k, []⟩
theorem slices_Grow_string_string.ok {L : List (Nat × Obj)} (k : Nat) : SigHolds Tryz.prog L 233 (slices_Grow_string_string.sg k) :=
 have h := grow_ok (L := L) slices_Grow_string_string.lays (k := .str) (e := 9) rfl (by kernel_rfl) (f := 233) rfl Tryz.func233 (by kernel_rfl) (by kernel_rfl)
 have hb : bytesT Tryz.prog 9 = 16 := by kernel_rfl
 by rw [hb] at h; exact h
end Go.Pev.F.Lb
end

section
/- Contracts of the library's functions at this dump, laid (out of the kit's shelf, by its own tools, trimmed). -/
namespace Go.Proofs
open Go.Shelf
def Tryz.lays264_ren : Go.Shelf.Ren := ⟨fun | 264 => 247 | n => n, fun | 53 => 234 | 46 => 201 | n => n, fun | n => n⟩
theorem Tryz.lays264 : Go.Proofs.Lays.n264 Tryz.prog Tryz.lays264_ren := {
 mixed := by kernel_rfl
 f264 := Tryz.func247.trans (congrArg some (by kernel_rfl))
 t46 := Tryz.underlying201
 a46 := Tryz.isAgg201
 z46 := Tryz.sizeOf201
 v46 := Tryz.zeroValue201
 t53 := Tryz.underlying234
 a53 := Tryz.isAgg234
 z53 := Tryz.sizeOf234
 v53 := Tryz.zeroValue234 }
open Go.RowKit Go.Lib in
theorem Tryz.bits_Mul64 (x y : Nat) (hx : x < 18446744073709551616) (hy : y < 18446744073709551616) (w : World) :
  Calls Tryz.prog 247 #[.int .u64 x, .int .u64 y] w fun e w' => e = .returned (.tuple #[.int .u64 ((x * y / 18446744073709551616 : Nat) : Int), .int .u64 ((x * y % 18446744073709551616 : Nat) : Int)]) ∧ w' = w := Any.bits_Mul64 Tryz.lays264 x y hx hy w
end Go.Proofs
end

section
/-
 math/bits.Mul64, as a contract.
-/
open Go.Proofs
namespace Go.Pev.F.Lb
def Mul64.A : Sh := .cons (.pur (.int .u64)) (.cons (.pur (.int .u64)) .nil)
def Mul64.R : Sh := .cons (.pur (.int .u64)) (.cons (.pur (.int .u64)) .nil)
noncomputable def Mul64 (_ : Nat) : (Int × Int × Unit) → Option ((Int × Int × Unit) × (Unit × Unit × Unit)) := fun x => if (0 ≤ x.1 ∧ x.1 < 18446744073709551616) ∧ 0 ≤ x.2.1 ∧ x.2.1 < 18446744073709551616 then some ((x.1 * x.2.1 / 18446744073709551616, x.1 * x.2.1 % 18446744073709551616, ()), ((), (), ())) else none
noncomputable def Mul64.sg (k : Nat) : Sig := ⟨Mul64.A, Mul64.R, Mul64 k, []⟩
theorem Mul64.ok {L : List (Nat × Obj)} (k : Nat) : SigHolds Tryz.prog L 247 (Mul64.sg k) :=
 sig_pur Tryz.func247 (by kernel_rfl) (by kernel_rfl) rfl fun w x vs y F hF hLd hsh hy => by
  obtain ⟨a, b, ⟨⟩⟩ := x
  obtain ⟨v1, r, rfl, p1, hsh⟩ := shR_cons hsh
  obtain ⟨v2, r, rfl, p2, hsh⟩ := shR_cons hsh
  obtain ⟨rfl, _⟩ := shR_nil hsh
  obtain rfl := payR_int p1
  obtain rfl := payR_int p2
  simp only [Mul64] at hy
  split at hy
  ·rename_i hc
   obtain ⟨⟨a0, a1⟩, b0, b1⟩ := hc
   cases hy
   obtain ⟨x, rfl⟩ := Int.eq_ofNat_of_zero_le a0
   obtain ⟨y, rfl⟩ := Int.eq_ofNat_of_zero_le b0
   refine (Tryz.bits_Mul64 x y (by omega) (by omega) w).mono fun e w' ⟨he, hw⟩ => ?_
   subst hw
   refine ⟨[_, _], [], he, ?_, List.nodup_nil, fun b hb => by simp at hb, kept_refl _⟩
   have e1 : ((x : Int) * (y : Int) / 18446744073709551616) = ((x * y / 18446744073709551616 : Nat) : Int) := by
    rw [← Int.natCast_mul]; omega
   have e2 : ((x : Int) * (y : Int) % 18446744073709551616) = ((x * y % 18446744073709551616 : Nat) : Int) := by
    rw [← Int.natCast_mul]; omega
   simp only [e1, e2]
   exact shR_cons_mk payR_int_mk (shR_cons_mk payR_int_mk ⟨rfl, rfl⟩)
  ·cases hy
end Go.Pev.F.Lb
end
