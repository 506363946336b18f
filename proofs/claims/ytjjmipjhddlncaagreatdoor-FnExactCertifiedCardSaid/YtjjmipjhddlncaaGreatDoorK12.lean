/- Facts of the law FnExactCertified, parted for memory. -/
import Derived.Test.YtjjmipjhddlncaaGreatDoorRows
import Derived.JoinedOf
import Derived.SevenTiedAt
import Derived.KernelRfl
set_option linter.all false
set_option maxRecDepth 100000
namespace Go.Proofs.YtjjmipjhddlncaaGreatDoor.fnExactCertified
theorem jf11:((Rows.fnExactCertifiedRow.recurses==Tryz.pinned.checked.prog.recurses 5))=true:=by kernel_rfl
