/- A part of the evaluation. -/
import Derived.Test.YtfeeemnjpmcafaaGreatDoorInfD
import Derived.KernelRfl
namespace Go.Proofs.YtfeeemnjpmcafaaGreatDoor
open Go Go.Ev
theorem run4 : endsS sub4 (evO evT baseO 100000 (.call sub4.f sub4.args) ⟨.leaf, [], heapL sub4.ins, sub4.nx⟩) = true := by kernel_rfl
end Go.Proofs.YtfeeemnjpmcafaaGreatDoor
