/- Facts of the law FnExactCertified, parted for memory. -/
import Derived.Test.YtjjmipjhddlncaaGreatDoorRows
import Derived.JoinedOf
import Derived.SevenTiedAt
import Derived.KernelRfl
set_option linter.all false
set_option maxRecDepth 100000
namespace Go.Proofs.YtjjmipjhddlncaaGreatDoor.fnExactCertified
theorem jf12:((Rows.fnExactCertifiedRow.named==Tryz.pinned.checked.prog.varsNamed 5))=true:=by kernel_rfl
