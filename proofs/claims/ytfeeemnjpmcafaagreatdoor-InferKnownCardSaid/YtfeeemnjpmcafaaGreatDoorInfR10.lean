/- A part of the evaluation. -/
import Derived.Test.YtfeeemnjpmcafaaGreatDoorInfD
import Derived.KernelRfl
namespace Go.Proofs.YtfeeemnjpmcafaaGreatDoor
open Go Go.Ev
theorem run10 : endsS sub10 (evO evT (subO [sub7, sub8, sub9] baseO) 100000 (.call sub10.f sub10.args) ⟨.leaf, [], heapL sub10.ins, sub10.nx⟩) = true := by kernel_rfl
end Go.Proofs.YtfeeemnjpmcafaaGreatDoor
