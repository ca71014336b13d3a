/- A part of the evaluation. -/
import Derived.Test.YtfeeemnjpmcafaaGreatDoorInfD
import Derived.KernelRfl
namespace Go.Proofs.YtfeeemnjpmcafaaGreatDoor
open Go Go.Ev
theorem run7 : endsS sub7 (evO evT baseO 100000 (.call sub7.f sub7.args) ⟨.leaf, [], heapL sub7.ins, sub7.nx⟩) = true := by kernel_rfl
end Go.Proofs.YtfeeemnjpmcafaaGreatDoor
