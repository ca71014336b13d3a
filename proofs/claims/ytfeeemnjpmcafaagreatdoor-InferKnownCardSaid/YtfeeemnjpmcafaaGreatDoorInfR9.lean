/- A part of the evaluation. -/
import Derived.Test.YtfeeemnjpmcafaaGreatDoorInfD
import Derived.KernelRfl
namespace Go.Proofs.YtfeeemnjpmcafaaGreatDoor
open Go Go.Ev
theorem run9 : endsS sub9 (evO evT baseO 100000 (.call sub9.f sub9.args) ⟨.leaf, [], heapL sub9.ins, sub9.nx⟩) = true := by kernel_rfl
end Go.Proofs.YtfeeemnjpmcafaaGreatDoor
