/-
  strconv.ParseInt at base 10 and 64 bits, as a contract.
-/
import Derived.Test.YtgajbbadidobfaaDoorPevRow
import Derived.Test.YtgajbbadidobfaaDoorShelfErr
import Derived.LaidHandle
import Derived.LaidSub
import Derived.KernelRfl
open Go.Proofs
namespace Go.Pev.F.Lb

/-- The two errors are laid. -/
def NeedErr (L : List (Nat × Obj)) : Prop := (∃ tp p t fr, (2, Obj.cells #[.iface tp p] t fr) ∈ L) ∧ ∃ tp p t fr, (3, Obj.cells #[.iface tp p] t fr) ∈ L

theorem NeedErr.mono {L L' : List (Nat × Obj)} (h : NeedErr L) (hs : ∀ p ∈ L, p ∈ L') : NeedErr L' := by
  obtain ⟨⟨tp, p, t, fr, h1⟩, tp', p', t', fr', h2⟩ := h
  exact ⟨⟨tp, p, t, fr, hs _ h1⟩, tp', p', t', fr', hs _ h2⟩

theorem var_of {L : List (Nat × Obj)} {w : World} {name : String} {g : Nat} (hg : Tryd.prog.globalNamed name = some g) {cs : Array Value} {t : TypeId} {fr : Nat × Nat} (hm : (g, Obj.cells cs t fr) ∈ L) (hL : Laid L (fun _ => False) w.heap) : w.var? Tryd.prog name = some cs := by
  have h1 := (hL _ hm).2
  unfold World.var?
  rw [hg]
  simp only [Option.bind_some]
  simp only at h1
  rw [h1]

def ParseInt.A : Sh := .cons (.pur .str) (.cons (.pur (.int .i64)) (.cons (.pur (.int .i64)) .nil))
def ParseInt.R : Sh := .cons (.pur (.int .i64)) (.cons (.pur .err) .nil)
noncomputable def ParseInt (_ : Nat) : (List UInt8 × Int × Int × Unit) → Option ((Int × Bool × Unit) × (Unit × Unit × Unit × Unit)) := fun x =>
  if x.2.1 = 10 ∧ x.2.2.1 = 64 ∧ x.1.length ≤ 281474976710656 then
    (match Go.Lib.parseIntB 64 x.1 with
    | .ok v => some ((v, false, ()), ((), (), (), ()))
    | Go.Lib.NumEnd.syntax => some ((0, true, ()), ((), (), (), ()))
    | .range => some ((Go.Lib.intSat 64 x.1, true, ()), ((), (), (), ())))
  else none
noncomputable def ParseInt.sg (k : Nat) : Sig := ⟨ParseInt.A, ParseInt.R, ParseInt k⟩

theorem kept_bytesWorld (w : World) (e : TypeId) (s : ByteArray) : Kept (fun _ => False) w (Go.Lib.bytesWorld w e s) := by
  have h : ∀ b, b < w.heap.size → (Go.Lib.bytesWorld w e s).heap[b]? = w.heap[b]? := by
    intro b hb
    unfold Go.Lib.bytesWorld World.freeze
    simp only
    show (Array.modify _ _ _)[b]? = _
    rw [Array.getElem?_modify]
    have : ¬ w.heap.size = b := by omega
    simp only [this, if_false]
    exact heap_alloc_old _ _ hb
  refine ⟨?_, fun b hb _ => h b hb, fun b r et f hr => ⟨r, by rw [h b (Array.getElem?_eq_some_iff.1 hr).1]; exact hr, rfl⟩, rfl, rfl, rfl⟩
  unfold Go.Lib.bytesWorld World.freeze
  simp

theorem payR_err_mk {h : Array Obj} {ok : Nat → Prop} {t : TypeId} {v : Value} : PayR h ok .err true (.iface t v) := ⟨.inr ⟨rfl, t, v, rfl⟩, (fun h => by cases h), fun _ => rfl⟩
theorem payR_noerr_mk {h : Array Obj} {ok : Nat → Prop} : PayR h ok .err false .nilIface := ⟨.inl ⟨rfl, rfl⟩, (fun h => by cases h), fun _ => rfl⟩

theorem ParseInt.ok {L : List (Nat × Obj)} (h : NeedErr L) (k : Nat) : SigHolds Tryd.prog L 74 (ParseInt.sg k) :=
  sig_pur Tryd.func74 (by kernel_rfl) (by kernel_rfl) rfl fun w x vs y F _ hLd hsh hy => by
    obtain ⟨s, a, b, ⟨⟩⟩ := x
    obtain ⟨v1, r, rfl, p1, hsh⟩ := shR_cons hsh
    obtain ⟨v2, r, rfl, p2, hsh⟩ := shR_cons hsh
    obtain ⟨v3, r, rfl, p3, hsh⟩ := shR_cons hsh
    obtain ⟨rfl, _⟩ := shR_nil hsh
    obtain rfl := payR_str p1
    obtain rfl := payR_int p2
    obtain rfl := payR_int p3
    obtain ⟨⟨tp, p, t, fr, m1⟩, tp', p', t', fr', m2⟩ := h
    have e1 := var_of (name := "strconv.ErrSyntax") (by kernel_rfl) m1 hLd
    have e2 := var_of (name := "strconv.ErrRange") (by kernel_rfl) m2 hLd
    simp only [ParseInt] at hy
    split at hy
    · rename_i hc
      obtain ⟨rfl, rfl, hl⟩ := hc
      split at hy
      · rename_i v hv
        cases hy
        refine (Tryd.strconv_ParseInt_10_at64_ok ⟨s.toArray⟩ (by simp [ByteArray.size]; omega) v hv w).mono fun e w' ⟨he, hw⟩ => ?_
        refine ⟨[_, _], [], he, shR_cons_mk payR_int_mk (shR_cons_mk payR_noerr_mk ⟨rfl, rfl⟩), List.nodup_nil, fun b hb => by simp at hb, ?_⟩
        rcases hw with rfl | ⟨t, rfl⟩
        · exact kept_refl _
        · exact kept_bytesWorld _ _ _
      · rename_i hv
        cases hy
        refine (Tryd.strconv_ParseInt_10_at64_syntax_var ⟨s.toArray⟩ (by simp [ByteArray.size]; omega) hv tp p w e1).mono fun e w' ⟨N, he, _, _, hw⟩ => ?_
        exact ⟨[_, _], [], he, shR_cons_mk payR_int_mk (shR_cons_mk payR_err_mk ⟨rfl, rfl⟩), List.nodup_nil, fun b hb => by simp at hb, kept_below hw⟩
      · rename_i hv
        cases hy
        refine (Tryd.strconv_ParseInt_10_at64_range_var ⟨s.toArray⟩ (by simp [ByteArray.size]; omega) hv tp' p' w e2).mono fun e w' ⟨N, he, _, _, hw⟩ => ?_
        exact ⟨[_, _], [], he, shR_cons_mk payR_int_mk (shR_cons_mk payR_err_mk ⟨rfl, rfl⟩), List.nodup_nil, fun b hb => by simp at hb, kept_below hw⟩
    · cases hy

/-- What stands in an error variable. -/
theorem err_laid {w : World} {name : String} {d : DataW Unit} {tn : String} (h : laidMet Tryd.prog [(name, .iface tn d)] w) {g : Nat} (hg : Tryd.prog.globalNamed name = some g) {t : TypeId} (hty : (Tryd.prog.globals[g]?).map (·.type) = some t) {ms : Array (String × TypeId)} (hu : Tryd.prog.underlying t = some (.interface ms)) :
    ∃ tp p t fr, w.heap[g]? = some (.cells #[.iface tp p] t fr) := by
  obtain ⟨ps, ⟨g', t', cs, fuel, p, q, hg', ht', hvar, hd, _, _⟩, _⟩ := h
  obtain rfl := Option.some.inj (hg.symm.trans hg')
  obtain rfl := Option.some.inj (hty.symm.trans ht')
  have : ∃ tp p, cs = #[.iface tp p] := by
    cases fuel with
    | zero => simp [DataW.trod] at hd
    | succ fuel =>
      simp only [DataW.trod, hu] at hd
      obtain ⟨l⟩ := cs
      simp only at hd
      rcases l with _ | ⟨v, _ | ⟨v', r⟩⟩
      · simp at hd
      · cases v <;> simp at hd
        exact ⟨_, _, rfl⟩
      · simp at hd
  obtain ⟨tp, p, rfl⟩ := this
  obtain ⟨t, fr, hc⟩ := var_obj hg hvar
  exact ⟨tp, p, t, fr, hc⟩

theorem needErr_of {w : World} {l : List (String × DataW Unit)} (hL : laidMetH Tryd.prog l w) {tn1 tn2 : String} {d1 d2 : DataW Unit} (h1 : (l.filter fun x => x.1 == "strconv.ErrSyntax").filter (fun x => x.2.handleName?.isNone) = [("strconv.ErrSyntax", .iface tn1 d1)])
    (h2 : (l.filter fun x => x.1 == "strconv.ErrRange").filter (fun x => x.2.handleName?.isNone) = [("strconv.ErrRange", .iface tn2 d2)]) : ∃ L, NeedErr L ∧ Laid L (fun _ => False) w.heap := by
  have l1 := (laidMetH_iff.1 (hL.filter fun x => x.1 == "strconv.ErrSyntax")).1
  have l2 := (laidMetH_iff.1 (hL.filter fun x => x.1 == "strconv.ErrRange")).1
  rw [h1] at l1
  rw [h2] at l2
  obtain ⟨tp, p, t, fr, c1⟩ := err_laid l1 (g := 2) (t := 110) (by kernel_rfl) (by kernel_rfl) Tryd.underlying110
  obtain ⟨tp', p', t', fr', c2⟩ := err_laid l2 (g := 3) (t := 110) (by kernel_rfl) (by kernel_rfl) Tryd.underlying110
  refine ⟨[(_, _), (_, _)], ⟨⟨tp, p, t, fr, List.mem_cons_self⟩, tp', p', t', fr', List.mem_cons_of_mem _ List.mem_cons_self⟩, fun q hq => ⟨fun h => h, ?_⟩⟩
  rcases List.mem_cons.1 hq with rfl | hq
  · exact c1
  · rw [List.mem_singleton] at hq
    subst hq
    exact c2
end Go.Pev.F.Lb
