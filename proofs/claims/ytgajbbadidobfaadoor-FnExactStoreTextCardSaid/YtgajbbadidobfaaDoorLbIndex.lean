/-
  internal/stringslite.Index at one byte, as a contract.
-/
import Derived.Test.YtgajbbadidobfaaDoorPevRow
import Derived.Test.YtgajbbadidobfaaDoorShelfIndex
import Derived.KernelRfl
open Go.Proofs
namespace Go.Pev.F.Lb

def Index.A : Sh := .cons (.pur .str) (.cons (.pur .str) .nil)
def Index.R : Sh := .cons (.pur (.int .i64)) .nil
noncomputable def Index (_ : Nat) : (List UInt8 × List UInt8 × Unit) → Option ((Int × Unit) × (Unit × Unit × Unit)) := fun x => match x.2.1 with
  | [c] => some ((Go.Lib.indexByte x.1 c, ()), ((), (), ()))
  | _ => none
noncomputable def Index.sg (k : Nat) : Sig := ⟨Index.A, Index.R, Index k⟩

theorem Index.ok {L : List (Nat × Obj)} (k : Nat) : SigHolds Tryd.prog L 97 (Index.sg k) :=
  sig_pur Tryd.func97 (by kernel_rfl) (by kernel_rfl) rfl fun w x vs y F _ _ hsh hy => by
    obtain ⟨s, b, ⟨⟩⟩ := x
    obtain ⟨v1, r, rfl, p1, hsh⟩ := shR_cons hsh
    obtain ⟨v2, r, rfl, p2, hsh⟩ := shR_cons hsh
    obtain ⟨rfl, _⟩ := shR_nil hsh
    obtain rfl := payR_str p1
    obtain rfl := payR_str p2
    rcases b with _ | ⟨c, _ | ⟨d, b⟩⟩
    · simp [Index] at hy
    · cases hy
      refine (Tryd.stringslite_Index_one ⟨s.toArray⟩ c w).mono fun e w' ⟨he, hw⟩ => ?_
      subst hw
      exact ⟨[_], [], he, shR_cons_mk payR_int_mk ⟨rfl, rfl⟩, List.nodup_nil, fun b hb => by simp at hb, kept_refl _⟩
    · simp [Index] at hy
end Go.Pev.F.Lb
