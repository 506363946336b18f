/- Facts of the law FnFlowRight, parted for memory. -/
import Derived.Test.YtjjmipjhddlncaaGreatDoorRows
import Derived.JoinedOf
import Derived.SevenTiedAt
import Derived.KernelRfl
set_option linter.all false
set_option maxRecDepth 100000
namespace Go.Proofs.YtjjmipjhddlncaaGreatDoor.fnFlowRight
theorem jf11:((Rows.fnFlowRightRow.recurses==Tryz.pinned.checked.prog.recurses 4))=true:=by kernel_rfl
