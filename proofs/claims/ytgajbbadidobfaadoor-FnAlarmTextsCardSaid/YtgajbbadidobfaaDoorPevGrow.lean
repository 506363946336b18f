/-
  slices.Grow of nil, as a contract, at whatever element.
-/
import Derived.Test.YtgajbbadidobfaaDoorPevPur
import Derived.Shelf.Spec.SlicesGrow
set_option linter.unusedVariables false
namespace Go.Pev
open Go Go.Proofs Go.Shelf Go.RowKit

def Grow.A : Sh := .cons .nl (.cons (.pur (.int .i64)) .nil)
def Grow.R (k : Kd) : Sh := .cons (.own k) .nil
noncomputable def Grow (k : Kd) (bytes : Nat) : (Unit × Int × Unit) → Option ((List k.T × Unit) × (Unit × Unit × Unit)) := fun x => if 0 ≤ x.2.1 ∧ x.2.1 * bytes ≤ 140737488355328 then some (([], ()), ((), (), ())) else none

theorem grow_ok {P : Program} {ρ : Ren} {L : List (Nat × Obj)} (hL : Lays8.n4 P ρ) {k : Kd} {e : TypeId} (he : ρ.t 25 = e) (hok : elemOk P e k = true) {f : FuncId} (hf : ρ.f 4 = f) {fn : Func} (hfn : P.funcs[f]? = some fn) (hname : (fn.name == "runtime.NumGoroutine") = false) (hbody : fn.body.isNone = false) :
    SigHolds P L f ⟨Grow.A, Grow.R k, Grow k (bytesT P e)⟩ := by
  refine ⟨⟨fn, hfn, hname, hbody⟩, fun w F x vs fp y hF _ _ _ hsh hy => ?_⟩
  obtain ⟨⟨⟩, (n : Int), ⟨⟩⟩ := x
  obtain ⟨v1, r, f1, f2, rfl, rfl, ⟨h1, rfl⟩, h2⟩ := hsh
  obtain ⟨v2, r, rfl, p2, h3⟩ := shR_cons h2
  obtain ⟨rfl, rfl⟩ := shR_nil h3
  cases h1
  obtain rfl := payR_int p2
  simp only [Grow] at hy
  split at hy
  · rename_i hc
    obtain ⟨hn0, hn1⟩ := hc
    have hn0 : 0 ≤ n := hn0
    have hn1 : n * (bytesT P e : Int) ≤ 140737488355328 := hn1
    cases hy
    obtain ⟨hgood, hpos, _, hbpos, i, z, hi, hz, hsz, hbe, hzs⟩ := elemOk_some hok
    subst he
    subst hf
    have hbp : 0 < bytesT P (ρ.t 25) := hbpos
    rw [hbe] at hn1 hbp
    have hn2 : n ≤ 140737488355328 := by
      have h1 : n * 1 ≤ n * (i.bytes : Int) := Int.mul_le_mul_of_nonneg_left (by omega) hn0
      rw [Int.mul_one] at h1
      exact Int.le_trans h1 hn1
    by_cases h0 : n = 0
    · subst h0
      refine (Any8.slices_Grow_room hL none 0 0 0 w (by omega) (by omega) (by omega) (by omega)).mono fun e' w' ⟨he, hw⟩ => ?_
      subst hw
      refine ⟨[_], [], [], he, ⟨_, [], [], [], rfl, rfl, ⟨_, rfl, hgood, none, 0, rfl, Nat.le_refl _, .inl ⟨rfl, rfl, rfl, rfl⟩⟩, rfl, rfl⟩, ⟨_, _, [], [], rfl, rfl, ⟨⟨_, rfl⟩, rfl⟩, _, _, [], [], rfl, rfl, ⟨⟨_, rfl⟩, rfl⟩, rfl, rfl⟩, List.nodup_nil, fun b hb => by simp at hb, .refl _ _⟩
    · obtain ⟨m, rfl⟩ : ∃ m : Nat, n = (m : Int) := ⟨n.toNat, by omega⟩
      have hbig : (0 + m) * i.bytes ≤ 140737488355328 := by
        have : ((m * i.bytes : Nat) : Int) ≤ 140737488355328 := by rw [Int.natCast_mul]; exact hn1
        rw [Nat.zero_add]
        omega
      refine (Any8.slices_Grow_grow hL i z hi hz (by omega) none 0 0 m [] w (by omega) (by omega) hbig (by omega) (by simp) (fun _ => rfl) (fun a ha => by cases ha)).mono fun e' w' ⟨he, hw⟩ => ?_
      subst hw
      have hg := grownCap_ge w (0 + m) 0 (ρ.t 25)
      have hnew : (w.drew.alloc (.cells ([].toArray ++ Builtin.zeroCells z.cells (0 + m - 0) ++ Builtin.zeroCells z.cells (grownCap w (0 + m) 0 (ρ.t 25) - (0 + m))) (ρ.t 25))).heap[w.heap.size]? = some (.cells ([].toArray ++ Builtin.zeroCells z.cells (0 + m - 0) ++ Builtin.zeroCells z.cells (grownCap w (0 + m) 0 (ρ.t 25) - (0 + m))) (ρ.t 25) (0, 0)) := heap_alloc_new w.drew _
      refine ⟨[_], [w.heap.size], [], he, ⟨_, [], [w.heap.size], [], rfl, rfl, ⟨_, rfl, hgood, _, _, rfl, by simp, .inr ⟨w.heap.size, 0, _, _, rfl, rfl, hnew, ⟨by simp, fun i hi => by simp at hi⟩, ?_⟩⟩, rfl, rfl⟩,
        ⟨_, _, [], [], rfl, rfl, ⟨⟨_, rfl⟩, rfl⟩, _, _, [], [], rfl, rfl, ⟨⟨_, rfl⟩, rfl⟩, rfl, rfl⟩, by simp, fun b hb => .inr (by simp at hb; omega), (kept_drew _ _).trans (kept_alloc (fun _ => False) _ _) (fun _ h => h.elim)⟩
      simp only [Array.size_append, List.size_toArray, List.length_nil, zeroCells_size, hzs]
      rw [Nat.zero_add, Nat.zero_add, Nat.zero_add, Nat.sub_zero, ← Nat.add_mul]
      rw [Nat.zero_add] at hg
      exact Nat.mul_le_mul_right _ (by omega)
  · cases hy
end Go.Pev
