/- A part of the evaluation. -/
import Derived.Test.YtfeeemnjpmcafaaGreatDoorInfD
import Derived.KernelRfl
namespace Go.Proofs.YtfeeemnjpmcafaaGreatDoor
open Go Go.Ev
theorem run2 : endsS sub2 (evO evT baseO 100000 (.call sub2.f sub2.args) ⟨.leaf, [], heapL sub2.ins, sub2.nx⟩) = true := by kernel_rfl
end Go.Proofs.YtfeeemnjpmcafaaGreatDoor
