/-
  PEV, part 31: contexts of contracts; contracts of functions that take data and give data.
-/
import Derived.Test.YtgajbbadidobfaaDoorPevDraw
import Derived.Below
import Derived.Sort.Grow
import Derived.Deep.Draws
namespace Go.Pev
open Go Go.RowKit

def AllOk (P : Program) (L : List (Nat × Obj)) (f : FuncId) (l : List Sig) : Prop := ∀ sg ∈ l, SigHolds P L f sg
theorem allok_nil {P : Program} {L : List (Nat × Obj)} {f : FuncId} : AllOk P L f [] := fun _ h => by cases h
theorem allok_cons {P : Program} {L : List (Nat × Obj)} {f : FuncId} {sg : Sig} {l : List Sig} (h : SigHolds P L f sg) (hl : AllOk P L f l) : AllOk P L f (sg :: l) := fun s hs => by
  rcases List.mem_cons.1 hs with rfl | hs
  · exact h
  · exact hl s hs

theorem holds_nil {P : Program} {L : List (Nat × Obj)} {k : Nat} : Ctx.Holds ⟨P, [], k⟩ L := fun f sg h => by simp [Ctx.sigsOf] at h
theorem holds_cons {P : Program} {L : List (Nat × Obj)} {k : Nat} {f : FuncId} {l : List Sig} {r : List (FuncId × List Sig)} (h : AllOk P L f l) (hr : Ctx.Holds ⟨P, r, k⟩ L) : Ctx.Holds ⟨P, (f, l) :: r, k⟩ L := fun g sg hs => by
  unfold Ctx.sigsOf at hs
  simp only [List.find?_cons] at hs
  by_cases e : f = g
  · subst e
    simp only [beq_self_eq_true] at hs
    exact h sg hs
  · have : (f == g) = false := by simpa using e
    rw [this] at hs
    exact hr g sg hs

theorem sig_zero {P : Program} {L : List (Nat × Obj)} {f : FuncId} {fn : Func} {A R : Sh} {b : (A.T → Option (R.T × A.Out)) → A.T → Option (R.T × A.Out)} (hf : P.funcs[f]? = some fn) (hname : (fn.name == "runtime.NumGoroutine") = false) (hbody : fn.body.isNone = false) :
    SigHolds P L f ⟨A, R, iter b 0⟩ := ⟨⟨fn, hf, hname, hbody⟩, fun _ _ _ _ _ _ _ _ _ _ _ h => by cases h⟩

/-! ### Data's values -/

theorem shR_cons {h : Array Obj} {ok : Nat → Prop} {k : Kd} {b : Sh} {x : Sh.T (.cons (.pur k) b)} {vs : List Value} {fp : List Nat} (e : ShR h ok (.cons (.pur k) b) x vs fp) : ∃ v r, vs = v :: r ∧ PayR h ok k x.1 v ∧ ShR h ok b x.2 r fp := by
  obtain ⟨v, r, f1, f2, rfl, rfl, ⟨v', h1, rfl, h2⟩, h3⟩ := e
  cases h1
  exact ⟨v, r, rfl, h2, h3⟩

theorem shR_nil {h : Array Obj} {ok : Nat → Prop} {x : Sh.T .nil} {vs : List Value} {fp : List Nat} (e : ShR h ok .nil x vs fp) : vs = [] ∧ fp = [] := e

theorem shR_cons_mk {h : Array Obj} {ok : Nat → Prop} {k : Kd} {b : Sh} {x : Sh.T (.cons (.pur k) b)} {v : Value} {r : List Value} {fp : List Nat} (h1 : PayR h ok k x.1 v) (h2 : ShR h ok b x.2 r fp) : ShR h ok (.cons (.pur k) b) x (v :: r) fp :=
  ⟨v, r, [], fp, rfl, rfl, ⟨v, rfl, rfl, h1⟩, h2⟩

theorem one_cells {v c : Value} (h : v.oneCell' = true) (hc : v.cells.toList = [c]) : v = c := by
  rw [cells_of_one h] at hc
  simpa using hc

theorem payR_int {h : Array Obj} {ok : Nat → Prop} {k : IntKind} {n : Int} {v : Value} (e : PayR h ok (.int k) n v) : v = .int k n := one_cells (e.2.2 rfl) e.1
theorem payR_str {h : Array Obj} {ok : Nat → Prop} {s : List UInt8} {v : Value} (e : PayR h ok .str s v) : v = .string ⟨s.toArray⟩ := one_cells (e.2.2 rfl) e.1
theorem payR_bool {h : Array Obj} {ok : Nat → Prop} {b : Bool} {v : Value} (e : PayR h ok .bool b v) : v = .bool b := one_cells (e.2.2 rfl) e.1

theorem payR_int_mk {h : Array Obj} {ok : Nat → Prop} {k : IntKind} {n : Int} : PayR h ok (.int k) n (.int k n) := ⟨rfl, (fun h => by cases h), fun _ => rfl⟩
theorem payR_str_mk {h : Array Obj} {ok : Nat → Prop} {s : List UInt8} : PayR h ok .str s (.string ⟨s.toArray⟩) := ⟨rfl, (fun h => by cases h), fun _ => rfl⟩
theorem payR_bool_mk {h : Array Obj} {ok : Nat → Prop} {b : Bool} : PayR h ok .bool b (.bool b) := ⟨rfl, (fun h => by cases h), fun _ => rfl⟩

/-- Slices of data: what they hold. -/
theorem payR_sl {h : Array Obj} {ok : Nat → Prop} {e : Kd} {l : List e.T} {v : Value} (p : PayR h ok (.sl false e) l v) : ∃ a c, v = .slice a l.length c ∧ l.length ≤ c ∧
    (l = [] ∨ ∃ b o r, a = some ⟨b, o, none⟩ ∧ ok b ∧ rowCells h b = some r ∧ ElemsR (fun x cs => Rep h ok e x cs) e.n l r o) := by
  obtain ⟨⟨a, c, h1, h2, h3⟩, _, h4⟩ := p
  exact ⟨a, c, one_cells (h4 rfl) h1, h2, h3⟩

def purs : List Kd → Sh
  | [] => .nil
  | k :: r => .cons (.pur k) (purs r)

theorem isPurs_purs : (l : List Kd) → isPurs (purs l) = true
  | [] => rfl
  | _ :: r => isPurs_purs r

theorem outR_purs {h h' : Array Obj} {ok ok' : Nat → Prop} : (s : Sh) → isPurs s = true → {x : s.T} → {o : s.Out} → {vs : List Value} → {fp : List Nat} → ShR h ok s x vs fp → OutR h' ok' s o vs []
  | .nil, _, _, _, vs, fp, e => ⟨e.1, rfl⟩
  | .cons (.pur k) b, hs, x, o, vs, fp, e => by
    obtain ⟨v, r, f1, f2, rfl, _, ⟨_, h1, _, _⟩, h3⟩ := e
    exact ⟨v, r, [], [], rfl, rfl, ⟨⟨v, rfl⟩, rfl⟩, outR_purs b (by simpa [isPurs] using hs) h3⟩
  | .cons (.own _) _, hs, _, _, _, _, _ => by simp [isPurs] at hs
  | .cons (.row _) _, hs, _, _, _, _, _ => by simp [isPurs] at hs
  | .cons (.box _) _, hs, _, _, _, _, _ => by simp [isPurs] at hs
  | .cons (.agg _) _, hs, _, _, _, _, _ => by simp [isPurs] at hs
  | .cons (.fn _ _ _) _, hs, _, _, _, _, _ => by simp [isPurs] at hs
  | .cons .ign _, hs, _, _, _, _, _ => by simp [isPurs] at hs
  | .cons .nl _, hs, _, _, _, _, _ => by simp [isPurs] at hs
  | .cons .nil _, hs, _, _, _, _, _ => by simp [isPurs] at hs
  | .cons (.cons _ _) _, hs, _, _, _, _, _ => by simp [isPurs] at hs
  | .pur _, hs, _, _, _, _, _ => by simp [isPurs] at hs
  | .own _, hs, _, _, _, _, _ => by simp [isPurs] at hs
  | .row _, hs, _, _, _, _, _ => by simp [isPurs] at hs
  | .box _, hs, _, _, _, _, _ => by simp [isPurs] at hs
  | .agg _, hs, _, _, _, _, _ => by simp [isPurs] at hs
  | .fn _ _ _, hs, _, _, _, _, _ => by simp [isPurs] at hs
  | .ign, hs, _, _, _, _, _ => by simp [isPurs] at hs
  | .nl, hs, _, _, _, _, _ => by simp [isPurs] at hs

/-- A contract out of a law of calls: the results take new blocks fp1 alone. -/
theorem sig_pur {P : Program} {L : List (Nat × Obj)} {f : FuncId} {fn : Func} {A R : Sh} {den : A.T → Option (R.T × A.Out)} (hf : P.funcs[f]? = some fn) (hname : (fn.name == "runtime.NumGoroutine") = false) (hbody : fn.body.isNone = false)
    (hA : isPurs A = true) (hc : ∀ (w : World) (x : A.T) (vs : List Value) (y : R.T × A.Out) (F : Nat → Prop), (∀ b, F b → b < w.heap.size) → Laid L (fun _ => False) w.heap → ShR w.heap (fun b => ¬ F b) A x vs [] → den x = some y →
      Calls P f vs.toArray w fun e w' => ∃ rs fp, e = .returned (retV rs) ∧ ShR w'.heap (fun b => ¬ FP F fp b) R y.1 rs fp ∧ fp.Nodup ∧ (∀ b ∈ fp, w.heap.size ≤ b) ∧ Kept (fun _ => False) w w') : SigHolds P L f ⟨A, R, den⟩ := by
  refine ⟨⟨fn, hf, hname, hbody⟩, fun w F x vs fp y hF hL _ _ hsh hy => ?_⟩
  obtain ⟨rfl, _⟩ := isPurs_fp A hA hsh
  have hsh' : ShR w.heap (fun b => ¬ F b) A x vs [] := ShR.mono (fun b r hb hr => ⟨fun h => hb (.inl h), hr⟩) _ (fun _ _ => rfl) hsh
  refine (hc w x vs y F hF (fun p hp => ⟨fun h => h, (hL p hp).2⟩) hsh' hy).mono fun e w' ⟨rs, fp, h1, h2, h3, h4, h5⟩ => ?_
  have h5' : Kept (· ∈ ([] : List Nat)) w w' := ⟨h5.size, fun b hb _ => h5.heap b hb (fun h => h), h5.cells, h5.os, h5.output, h5.tape⟩
  refine ⟨rs, fp, [], h1, by simpa using h2, ?_, by simpa using h3, fun b hb => .inr (h4 b (by simpa using hb)), h5'⟩
  exact outR_purs A hA hsh

theorem kept_refl (w : World) : Kept (fun _ => False) w w := .refl _ _

theorem kept_grow (w : World) (k : Nat) (os : Array Obj) : Kept (fun _ => False) w (Sort.grow (w.drewN k) os) := by
  have hb : ∀ b, b < w.heap.size → (Sort.grow (w.drewN k) os).heap[b]? = w.heap[b]? := fun b hb => by
    show (w.heap ++ os)[b]? = _
    rw [Array.getElem?_append_left hb]
  refine ⟨?_, fun b h _ => hb b h, fun b r et f h => ⟨r, by rw [hb b (Array.getElem?_eq_some_iff.1 h).1]; exact h, rfl⟩, rfl, rfl, rfl⟩
  show w.heap.size ≤ (w.heap ++ os).size
  simp

theorem kept_drewN (w : World) (k : Nat) : Kept (fun _ => False) w (w.drewN k) := ⟨Nat.le_refl _, fun _ _ _ => rfl, fun _ r _ _ h => ⟨r, h, rfl⟩, rfl, rfl, rfl⟩

theorem kept_below {w w' : World} (h : Below w.heap.size w w') : Kept (fun _ => False) w w' :=
  ⟨h.size, fun b hb _ => h.block b hb, fun b r et f hr => ⟨r, by rw [h.block b (Array.getElem?_eq_some_iff.1 hr).1]; exact hr, rfl⟩, h.os, h.output, h.tape⟩

theorem below_kept {w w' : World} (h : Kept (fun _ => False) w w') : Below w.heap.size w w' :=
  ⟨h.os, h.tape, h.output, h.size, fun k hk => h.heap k hk fun h => h⟩
end Go.Pev
