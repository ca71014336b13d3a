/- The tie: the names. -/
import Derived.Test.YtfeeemnjpmcafaaGreatDoorTa
namespace Go.Proofs.YtfeeemnjpmcafaaGreatDoor
open Go Go.Ev
set_option maxRecDepth 100000
theorem tt6 : varsNamedLaterB Tryz.prog (varsId Tryz.prog) tieList = true := by
  rw [varsId_eq]
  kernel_rfl
end Go.Proofs.YtfeeemnjpmcafaaGreatDoor
