/- Closed facts of the program that the evaluation leans on. -/
import Derived.Test.YtfeeemnjpmcafaaGreatDoorInfD
import Derived.KernelRfl
namespace Go.Proofs.YtfeeemnjpmcafaaGreatDoor
open Go Go.Ev
theorem ev_fns : okFns evMask Tryz.prog.funcs.toList 0 = true := by kernel_rfl
theorem ev_mixed : Tryz.prog.follows .mixedOrders = true := by kernel_rfl
theorem ev_laid : okG 3 laid = true := by kernel_rfl
end Go.Proofs.YtfeeemnjpmcafaaGreatDoor
