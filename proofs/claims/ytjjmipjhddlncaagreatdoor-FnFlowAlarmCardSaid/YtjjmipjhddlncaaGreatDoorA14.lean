/- Facts of the law FnFlowAlarm, parted for memory. -/
import Derived.Test.YtjjmipjhddlncaaGreatDoorRows
import Derived.JoinedOf
import Derived.SevenTiedAt
import Derived.KernelRfl
set_option linter.all false
set_option maxRecDepth 100000
namespace Go.Proofs.YtjjmipjhddlncaaGreatDoor.fnFlowAlarm
theorem jfm:Tryz.pinned.checked.prog.mainIs=some ((true,"a00fd0112d39b832c1aeb4cc39b2ccba2584884c09470c0818d4a2667a7121ea").1,(true,"a00fd0112d39b832c1aeb4cc39b2ccba2584884c09470c0818d4a2667a7121ea").2.toList):=by kernel_rfl
theorem jfl:false=Tryz.pinned.checked.prog.looks []:=by kernel_rfl
theorem jfn:Tryz.pinned.checked.prog.funcNamed "loop.example/g00719/laws.FnFlowAlarm" =some 3:=by kernel_rfl
theorem jfw:([22]:List Nat).all (λt=> !Tryz.prog.wantsStandIn t)=true:=by kernel_rfl
