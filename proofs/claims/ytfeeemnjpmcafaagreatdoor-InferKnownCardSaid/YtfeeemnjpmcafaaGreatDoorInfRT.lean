/- A part of the evaluation. -/
import Derived.Test.YtfeeemnjpmcafaaGreatDoorInfD
import Derived.KernelRfl
namespace Go.Proofs.YtfeeemnjpmcafaaGreatDoor
open Go Go.Ev
theorem runTop : endsT laid (evO evT (subO [sub0, sub1, sub2, sub3, sub4, sub5, sub6, sub10] baseO) 100000 (.call 3 []) ⟨.leaf, [], heapOf laid, 64⟩) = true := by kernel_rfl
end Go.Proofs.YtfeeemnjpmcafaaGreatDoor
