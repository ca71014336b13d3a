/- The tie: the run of the variables' door. -/
import Derived.Test.YtcnnmlmedbjklaaGreatDoorTa
namespace Go.Proofs.YtcnnmlmedbjklaaGreatDoor
open Go Go.Ev
set_option maxRecDepth 100000
theorem tt7 (os : Os) (tape : Tape) : doorLeaves Tryz.prog 77 8 65 tieList os tape = some (tieList.filter fun x => x.2.handleName?.isNone, (funcsListed tieList).map (·.2.funcsOut)) := by
  unfold doorLeaves
  rw [varsId_eq]
  kernel_rfl
end Go.Proofs.YtcnnmlmedbjklaaGreatDoor
