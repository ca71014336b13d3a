/- hallmarklaw30.LowerTests: the row's closed facts. -/
import Derived.Test.YtcnnmlmedbjklaaGreatDoorLowH
import Derived.Test.YtcnnmlmedbjklaaGreatDoorCl2
namespace Go.Proofs.YtcnnmlmedbjklaaGreatDoor.PLowerTests
open Go Go.ChangeShapes Go.WideShapes Go.ChangeAt Go.RowKit
theorem closedThree : laidOutB Tryz.prog = true ∧ mapsRowed Tryz.prog = true ∧ Tryz.prog.plainKeys = true := Go.ClosedOfChecked.closed_of_checked Tryz.checked tyEq tyRest tyKeys
theorem row_facts : joinedFacts Tryz.prog 3 Tryz.f3 Rows.lowerTestsSpec Rows.lowerTestsRow = true := by
  unfold joinedFacts
  rw [closedThree.1, closedThree.2.1, closedThree.2.2, cell_inPlace, cell_unfollowed, cell_recurses, cell_named]
  kernel_rfl
end Go.Proofs.YtcnnmlmedbjklaaGreatDoor.PLowerTests
