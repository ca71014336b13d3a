/- The tie: no place is read twice. -/
import Derived.Test.YtfeeemnjpmcafaaGreatDoorTa
namespace Go.Proofs.YtfeeemnjpmcafaaGreatDoor
open Go Go.Ev
set_option maxRecDepth 100000
theorem tt9 (os : Os) (tape : Tape) : (DataW.laidRun Tryz.prog (varsWorld Tryz.prog 400 (varsId Tryz.prog) os tape).memory 8 (tieList.map (·.1))).map (fun x => decide x.2.Nodup && laidRowsB Tryz.prog (varsWorld Tryz.prog 400 (varsId Tryz.prog) os tape).memory x.2) = some true := by
  rw [varsId_eq]
  kernel_rfl
end Go.Proofs.YtfeeemnjpmcafaaGreatDoor
