/- The tie: the run of the variables' door ends, and what is read behind it. -/
import Derived.Test.YtfeeemnjpmcafaaGreatDoorTa
namespace Go.Proofs.YtfeeemnjpmcafaaGreatDoor
open Go Go.Ev
set_option maxRecDepth 100000
theorem tt7 (os : Os) (tape : Tape) : varsDone Tryz.prog 400 (varsId Tryz.prog) os tape = true := by
  rw [varsId_eq]
  kernel_rfl
theorem tt8 (os : Os) (tape : Tape) : (DataW.laidRun Tryz.prog (varsWorld Tryz.prog 400 (varsId Tryz.prog) os tape).memory 8 (tieList.map (·.1))).map (·.1) = some tieList := by
  rw [varsId_eq]
  kernel_rfl
end Go.Proofs.YtfeeemnjpmcafaaGreatDoor
