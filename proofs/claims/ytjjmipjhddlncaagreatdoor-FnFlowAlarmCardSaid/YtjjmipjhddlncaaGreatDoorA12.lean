/- Facts of the law FnFlowAlarm, parted for memory. -/
import Derived.Test.YtjjmipjhddlncaaGreatDoorRows
import Derived.JoinedOf
import Derived.SevenTiedAt
import Derived.KernelRfl
set_option linter.all false
set_option maxRecDepth 100000
namespace Go.Proofs.YtjjmipjhddlncaaGreatDoor.fnFlowAlarm
theorem jf11:((Rows.fnFlowAlarmRow.recurses==Tryz.pinned.checked.prog.recurses 3))=true:=by kernel_rfl
