/- hallmarklaw28.InferKnown: its number. -/
import Derived.Test.YtfeeemnjpmcafaaGreatDoorRows
import Derived.Test.YtfeeemnjpmcafaaGreatDoorCl0
namespace Go.Proofs.YtfeeemnjpmcafaaGreatDoor
open Go Go.Ev
theorem row_number : Tryz.prog.funcNamed "hallmark/hallmarklaw28.InferKnown" = some 3 := funcNamed_fast (by kernel_rfl)
theorem row_named : Tryz.pinned.checked.prog.funcNamed Rows.inferKnownRow.func = some 3 := row_number
end Go.Proofs.YtfeeemnjpmcafaaGreatDoor
