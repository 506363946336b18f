/- Facts of the law FnFlowAlarm, parted for memory. -/
import Derived.Test.YtjjmipjhddlncaaGreatDoorRows
import Derived.JoinedOf
import Derived.SevenTiedAt
import Derived.KernelRfl
import Derived.Test.YtjjmipjhddlncaaGreatDoorA08
import Derived.Test.YtjjmipjhddlncaaGreatDoorA09
import Derived.Test.YtjjmipjhddlncaaGreatDoorA10
import Derived.Test.YtjjmipjhddlncaaGreatDoorA11
import Derived.Test.YtjjmipjhddlncaaGreatDoorA12
import Derived.Test.YtjjmipjhddlncaaGreatDoorA13
import Derived.Test.YtjjmipjhddlncaaGreatDoorA14
import Derived.Test.YtjjmipjhddlncaaGreatDoorA15
import Derived.Test.YtjjmipjhddlncaaGreatDoorA16
set_option linter.all false
set_option maxRecDepth 100000
namespace Go.Proofs.YtjjmipjhddlncaaGreatDoor.fnFlowAlarm
theorem jfa {a b:Bool} (h:a=true) (c:b=true):(a&& b)=true:=by rw[h,c];rfl
theorem jf:joinedFacts Tryz.pinned.checked.prog 3 Tryz.f3 Rows.fnFlowAlarmSpec Rows.fnFlowAlarmRow=true:=jfa (jfa (jfa (jfa (jfa (jfa (jfa (jfa (jfa (jfa (jfa (jfa (jfa (jfa (jfa (jfa (jfa (jfa (jfa (jfa (jfa (jfa (jfa (jfa (jfa (jfa (jfa (jfa (jfa (jfa (jfa (jf0) jf1) jf2) jf3) jf4) jf5) jf6) jf7) jf8) jf9) jf10) jf11) jf12) jf13) jf14) jf15) jf16) jf17) jf18) jf19) jf20) jf21) jf22) jf23) jf24) jf25) jf26) jf27) jf28) jf29) jf30) jf31
theorem jfg:false=Rows.fnFlowAlarmRow.goesBy Tryz.pinned.checked.prog:=by
 have a:Rows.fnFlowAlarmRow.start= .entering:=rfl;have b:Rows.fnFlowAlarmRow.func= "loop.example/g00719/laws.FnFlowAlarm" :=rfl;unfold OpenClaim.goesBy Program.goesAt Program.goesFrom;rw[a,b,jfn,Option.any_some];unfold Program.goes;rw[jfc,jfh,Bool.and_false];rfl
