/- Contracts of the library's functions at this dump, laid (out of the kit's shelf, by its own tools, trimmed). -/
import Derived.Shelf.Bits.Mul64
import Derived.Shelf.LaysM
import Derived.Test.YtcpeneclncpgaaaGreatDoorProg
import Derived.Test.YtcpeneclncpgaaaGreatDoorK02
import Derived.KernelRfl
set_option linter.unusedSimpArgs false
set_option linter.unusedVariables false
section
namespace Go.Proofs
open Go.Shelf
def Tryz.lays264_ren : Go.Shelf.Ren := ⟨fun | 264 => 139 | n => n, fun | 53 => 98 | 46 => 100 | n => n, fun | n => n⟩
theorem Tryz.lays264 : Go.Proofs.Lays.n264 Tryz.prog Tryz.lays264_ren := {
  mixed := by kernel_rfl
  f264 := Tryz.func139.trans (congrArg some (by kernel_rfl))
  t46 := Tryz.underlying100
  a46 := Tryz.isAgg100
  z46 := Tryz.sizeOf100
  v46 := Tryz.zeroValue100
  t53 := Tryz.underlying98
  a53 := Tryz.isAgg98
  z53 := Tryz.sizeOf98
  v53 := Tryz.zeroValue98 }
open Go.RowKit Go.Lib in
theorem Tryz.bits_Mul64 (x y : Nat) (hx : x < 18446744073709551616) (hy : y < 18446744073709551616) (w : World) :
    Calls Tryz.prog 139 #[.int .u64 x, .int .u64 y] w fun e w' => e = .returned (.tuple #[.int .u64 ((x * y / 18446744073709551616 : Nat) : Int), .int .u64 ((x * y % 18446744073709551616 : Nat) : Int)]) ∧ w' = w := Any.bits_Mul64 Tryz.lays264 x y hx hy w
end Go.Proofs
end

section
/-
  math/bits.Mul64, as a contract.
-/
open Go.Proofs
namespace Go.Pev.F.Lb
def Mul64.A : Sh := .cons (.pur (.int .u64)) (.cons (.pur (.int .u64)) .nil)
def Mul64.R : Sh := .cons (.pur (.int .u64)) (.cons (.pur (.int .u64)) .nil)
noncomputable def Mul64 (_ : Nat) : (Int × Int × Unit) → Option ((Int × Int × Unit) × (Unit × Unit × Unit)) := fun x => if (0 ≤ x.1 ∧ x.1 < 18446744073709551616) ∧ 0 ≤ x.2.1 ∧ x.2.1 < 18446744073709551616 then some ((x.1 * x.2.1 / 18446744073709551616, x.1 * x.2.1 % 18446744073709551616, ()), ((), (), ())) else none
noncomputable def Mul64.sg (k : Nat) : Sig := ⟨Mul64.A, Mul64.R, Mul64 k⟩
theorem Mul64.ok {L : List (Nat × Obj)} (k : Nat) : SigHolds Tryz.prog L 139 (Mul64.sg k) :=
  sig_pur Tryz.func139 (by kernel_rfl) (by kernel_rfl) rfl fun w x vs y F hF hLd hsh hy => by
    obtain ⟨a, b, ⟨⟩⟩ := x
    obtain ⟨v1, r, rfl, p1, hsh⟩ := shR_cons hsh
    obtain ⟨v2, r, rfl, p2, hsh⟩ := shR_cons hsh
    obtain ⟨rfl, _⟩ := shR_nil hsh
    obtain rfl := payR_int p1
    obtain rfl := payR_int p2
    simp only [Mul64] at hy
    split at hy
    · rename_i hc
      obtain ⟨⟨a0, a1⟩, b0, b1⟩ := hc
      cases hy
      obtain ⟨x, rfl⟩ := Int.eq_ofNat_of_zero_le a0
      obtain ⟨y, rfl⟩ := Int.eq_ofNat_of_zero_le b0
      refine (Tryz.bits_Mul64 x y (by omega) (by omega) w).mono fun e w' ⟨he, hw⟩ => ?_
      subst hw
      refine ⟨[_, _], [], he, ?_, List.nodup_nil, fun b hb => by simp at hb, kept_refl _⟩
      have e1 : ((x : Int) * (y : Int) / 18446744073709551616) = ((x * y / 18446744073709551616 : Nat) : Int) := by
        rw [← Int.natCast_mul]; omega
      have e2 : ((x : Int) * (y : Int) % 18446744073709551616) = ((x * y % 18446744073709551616 : Nat) : Int) := by
        rw [← Int.natCast_mul]; omega
      simp only [e1, e2]
      exact shR_cons_mk payR_int_mk (shR_cons_mk payR_int_mk ⟨rfl, rfl⟩)
    · cases hy
end Go.Pev.F.Lb
end
