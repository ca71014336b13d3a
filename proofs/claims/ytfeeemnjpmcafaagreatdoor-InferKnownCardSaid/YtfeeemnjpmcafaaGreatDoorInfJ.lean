/- hallmarklaw28.InferKnown: the row's closed facts. -/
import Derived.Test.YtfeeemnjpmcafaaGreatDoorInfL
import Derived.Test.YtfeeemnjpmcafaaGreatDoorCl2
namespace Go.Proofs.YtfeeemnjpmcafaaGreatDoor
open Go Go.ChangeShapes Go.WideShapes Go.ChangeAt Go.RowKit
theorem row_facts : joinedFacts Tryz.prog 3 Tryz.f3 Rows.inferKnownSpec Rows.inferKnownRow = true := by
  unfold joinedFacts
  rw [closedThree.1, closedThree.2.1, closedThree.2.2, cell_inPlace, cell_unfollowed, cell_recurses, cell_named]
  kernel_rfl
end Go.Proofs.YtfeeemnjpmcafaaGreatDoor
