/- Facts of the law FnFlowRight, parted for memory. -/
import Derived.Test.YtjjmipjhddlncaaGreatDoorRows
import Derived.JoinedOf
import Derived.SevenTiedAt
import Derived.KernelRfl
import Derived.Test.YtjjmipjhddlncaaGreatDoorR08
import Derived.Test.YtjjmipjhddlncaaGreatDoorR09
import Derived.Test.YtjjmipjhddlncaaGreatDoorR10
import Derived.Test.YtjjmipjhddlncaaGreatDoorR11
import Derived.Test.YtjjmipjhddlncaaGreatDoorR12
import Derived.Test.YtjjmipjhddlncaaGreatDoorR13
import Derived.Test.YtjjmipjhddlncaaGreatDoorR14
import Derived.Test.YtjjmipjhddlncaaGreatDoorR15
import Derived.Test.YtjjmipjhddlncaaGreatDoorR16
set_option linter.all false
set_option maxRecDepth 100000
namespace Go.Proofs.YtjjmipjhddlncaaGreatDoor.fnFlowRight
theorem jfa {a b:Bool} (h:a=true) (c:b=true):(a&& b)=true:=by rw[h,c];rfl
theorem jf:joinedFacts Tryz.pinned.checked.prog 4 Tryz.f4 Rows.fnFlowRightSpec Rows.fnFlowRightRow=true:=jfa (jfa (jfa (jfa (jfa (jfa (jfa (jfa (jfa (jfa (jfa (jfa (jfa (jfa (jfa (jfa (jfa (jfa (jfa (jfa (jfa (jfa (jfa (jfa (jfa (jfa (jfa (jfa (jfa (jfa (jfa (jf0) jf1) jf2) jf3) jf4) jf5) jf6) jf7) jf8) jf9) jf10) jf11) jf12) jf13) jf14) jf15) jf16) jf17) jf18) jf19) jf20) jf21) jf22) jf23) jf24) jf25) jf26) jf27) jf28) jf29) jf30) jf31
theorem jfg:false=Rows.fnFlowRightRow.goesBy Tryz.pinned.checked.prog:=by
 have a:Rows.fnFlowRightRow.start= .entering:=rfl;have b:Rows.fnFlowRightRow.func= "loop.example/g00719/laws.FnFlowRight" :=rfl;unfold OpenClaim.goesBy Program.goesAt Program.goesFrom;rw[a,b,jfn,Option.any_some];unfold Program.goes;rw[jfc,jfh,Bool.and_false];rfl
