/- Facts of the law FnFlowRight, parted for memory. -/
import Derived.Test.YtjjmipjhddlncaaGreatDoorRows
import Derived.JoinedOf
import Derived.SevenTiedAt
import Derived.KernelRfl
set_option linter.all false
set_option maxRecDepth 100000
namespace Go.Proofs.YtjjmipjhddlncaaGreatDoor.fnFlowRight
theorem jfh:(Tryz.pinned.checked.prog.funcs.any Func.goes)=false:=by kernel_rfl
