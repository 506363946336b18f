/- Contracts of the library's functions at this dump, laid (out of the kit's shelf, by its own tools, trimmed). -/
import Derived.Shelf.Strings.Fields
import Derived.Shelf.Strings.SplitShaped
import Derived.Shelf.LaysM
import Derived.Test.YtgajbbadidobfaaDoorProg
namespace Go.Proofs
open Go.Shelf
def Tryd.lays157_ren : Go.Shelf.Ren := ⟨fun | 157 => 151 | 229 => 157 | 199 => 158 | 261 => 159 | 311 => 160 | 312 => 161 | n => n, fun | 9 => 9 | 31 => 36 | 3 => 3 | 5 => 5 | 4 => 4 | 119 => 192 | 0 => 0 | 40 => 194 | 152 => 197 | 21 => 21 | 154 => 199 | 51 => 176 | 141 => 201 | 196 => 205 | 193 => 202 | 198 => 208 | 49 => 206 | 194 => 203 | 201 => 211 | 226 => 213 | 46 => 78 | 227 => 214 | n => n, fun | 0 => 4 | 6 => 7 | n => n⟩
theorem Tryd.lays157 : Go.Proofs.Lays.n157 Tryd.prog Tryd.lays157_ren := {
  mixed := by kernel_rfl
  f157 := Tryd.func151.trans (congrArg some (by kernel_rfl))
  f199 := Tryd.func158.trans (congrArg some (by kernel_rfl))
  f229 := Tryd.func157.trans (congrArg some (by kernel_rfl))
  f261 := Tryd.func159.trans (congrArg some (by kernel_rfl))
  f311 := Tryd.func160.trans (congrArg some (by kernel_rfl))
  f312 := Tryd.func161.trans (congrArg some (by kernel_rfl))
  t0 := Tryd.underlying0
  a0 := Tryd.isAgg0
  z0 := Tryd.sizeOf0
  v0 := Tryd.zeroValue0
  t3 := Tryd.underlying3
  a3 := Tryd.isAgg3
  z3 := Tryd.sizeOf3
  v3 := Tryd.zeroValue3
  t4 := Tryd.underlying4
  a4 := Tryd.isAgg4
  z4 := Tryd.sizeOf4
  v4 := Tryd.zeroValue4
  t5 := Tryd.underlying5
  a5 := Tryd.isAgg5
  z5 := Tryd.sizeOf5
  v5 := Tryd.zeroValue5
  t9 := Tryd.underlying9
  a9 := Tryd.isAgg9
  z9 := Tryd.sizeOf9
  v9 := Tryd.zeroValue9
  t21 := Tryd.underlying21
  a21 := Tryd.isAgg21
  z21 := Tryd.sizeOf21
  v21 := Tryd.zeroValue21
  t31 := Tryd.underlying36
  a31 := Tryd.isAgg36
  z31 := Tryd.sizeOf36
  v31 := Tryd.zeroValue36
  t40 := Tryd.underlying194
  a40 := Tryd.isAgg194
  z40 := Tryd.sizeOf194
  v40 := Tryd.zeroValue194
  t46 := Tryd.underlying78
  a46 := Tryd.isAgg78
  z46 := Tryd.sizeOf78
  v46 := Tryd.zeroValue78
  t49 := Tryd.underlying206
  a49 := Tryd.isAgg206
  z49 := Tryd.sizeOf206
  v49 := Tryd.zeroValue206
  t51 := Tryd.underlying176
  a51 := Tryd.isAgg176
  z51 := Tryd.sizeOf176
  v51 := Tryd.zeroValue176
  t119 := Tryd.underlying192
  a119 := Tryd.isAgg192
  z119 := Tryd.sizeOf192
  t141 := Tryd.underlying201
  a141 := Tryd.isAgg201
  z141 := Tryd.sizeOf201
  v141 := Tryd.zeroValue201
  t152 := Tryd.underlying197
  a152 := Tryd.isAgg197
  z152 := Tryd.sizeOf197
  v152 := Tryd.zeroValue197
  t154 := Tryd.underlying199
  a154 := Tryd.isAgg199
  z154 := Tryd.sizeOf199
  v154 := Tryd.zeroValue199
  t193 := Tryd.underlying202
  a193 := Tryd.isAgg202
  z193 := Tryd.sizeOf202
  v193 := Tryd.zeroValue202
  t194 := Tryd.underlying203
  a194 := Tryd.isAgg203
  z194 := Tryd.sizeOf203
  v194 := Tryd.zeroValue203
  t196 := Tryd.underlying205
  a196 := Tryd.isAgg205
  z196 := Tryd.sizeOf205
  v196 := Tryd.zeroValue205
  t198 := Tryd.underlying208
  a198 := Tryd.isAgg208
  z198 := Tryd.sizeOf208
  v198 := Tryd.zeroValue208
  t201 := Tryd.underlying211
  a201 := Tryd.isAgg211
  z201 := Tryd.sizeOf211
  v201 := Tryd.zeroValue211
  t226 := Tryd.underlying213
  a226 := Tryd.isAgg213
  z226 := Tryd.sizeOf213
  v226 := Tryd.zeroValue213
  t227 := Tryd.underlying214
  a227 := Tryd.isAgg214
  z227 := Tryd.sizeOf214
  v227 := Tryd.zeroValue214
  g0 := by kernel_rfl
  g6 := by kernel_rfl }
open Go.RowKit Go.Lib in
/-- strings.Fields, the table by 'Lib.TabIs' (as strings.TrimSpace's contract). 'hg': the table's number, by its name: at a dump 'by kernel_rfl'. (LAID: no walk: one application.) -/
theorem Tryd.strings_Fields (s : ByteArray) (w : World) (hs : s.size < 4294967281) (hascii : ∀ (j : Nat) b, s.data.toList[j]? = some b → b.toNat < 128) (htab : Lib.TabIs Tryd.prog w "strings.asciiSpace" .u8 Lib.asciiSpaceTab) :
    Calls Tryd.prog 151 #[.string s] w fun e w' =>
      e = .returned (.slice (some ⟨w.heap.size, 0, none⟩) (Lib.fields s.data.toList).length (Lib.fields s.data.toList).length) ∧ w' = w.alloc (.cells ((Lib.fields s.data.toList).map fun l => Value.string ⟨l.toArray⟩).toArray 9) := Any.strings_Fields Tryd.lays157 (by kernel_rfl) (by kernel_rfl) s w hs hascii htab
end Go.Proofs
