/-
  Printed by gen.py: the contracts of slices.Grow at the seat's elements.
-/
import Derived.Test.YtgajbbadidobfaaDoorProg
import Derived.Test.YtgajbbadidobfaaDoorPevGrow
import Derived.KernelRfl
open Go.Proofs Go.Pev Go.Shelf
namespace Go.Pev.F.Lb
set_option maxRecDepth 100000
def slices_Grow_string_string.ren : Ren := ⟨fun | 4 => 136 | n => n, fun | 0 => 0 | 3 => 3 | 4 => 4 | 9 => 9 | 20 => 20 | 22 => 36 | 25 => 9 | n => n, fun n => n⟩
theorem slices_Grow_string_string.lays : Go.Proofs.Lays8.n4 Tryd.prog slices_Grow_string_string.ren := {
  mixed := by kernel_rfl
  f4 := ⟨"slices.Grow[[]string,string]", by kernel_rfl, Tryd.func136.trans (congrArg some (by kernel_rfl))⟩
  t0 := Tryd.underlying0
  a0 := Tryd.isAgg0
  z0 := Tryd.sizeOf0
  v0 := Tryd.zeroValue0
  t3 := Tryd.underlying3
  a3 := Tryd.isAgg3
  z3 := Tryd.sizeOf3
  v3 := Tryd.zeroValue3
  t4 := Tryd.underlying4
  a4 := Tryd.isAgg4
  z4 := Tryd.sizeOf4
  v4 := Tryd.zeroValue4
  t9 := Tryd.underlying9
  a9 := Tryd.isAgg9
  z9 := Tryd.sizeOf9
  v9 := Tryd.zeroValue9
  t20 := Tryd.underlying20
  a20 := Tryd.isAgg20
  z20 := Tryd.sizeOf20
  v20 := Tryd.zeroValue20
  t22 := Tryd.underlying36
  a22 := Tryd.isAgg36
  z22 := Tryd.sizeOf36
  v22 := Tryd.zeroValue36 }
def slices_Grow_string_string.A : Sh := Grow.A
def slices_Grow_string_string.R : Sh := Grow.R .str
noncomputable def slices_Grow_string_string (_ : Nat) : (Unit × Int × Unit) → Option (((List (List UInt8)) × Unit) × (Unit × Unit × Unit)) := Grow .str 16
noncomputable def slices_Grow_string_string.sg (k : Nat) : Sig := ⟨slices_Grow_string_string.A, slices_Grow_string_string.R, slices_Grow_string_string k⟩
theorem slices_Grow_string_string.ok {L : List (Nat × Obj)} (k : Nat) : SigHolds Tryd.prog L 136 (slices_Grow_string_string.sg k) :=
  have h := grow_ok (L := L) slices_Grow_string_string.lays (k := .str) (e := 9) rfl (by kernel_rfl) (f := 136) rfl Tryd.func136 (by kernel_rfl) (by kernel_rfl)
  have hb : bytesT Tryd.prog 9 = 16 := by kernel_rfl
  by rw [hb] at h; exact h
end Go.Pev.F.Lb
