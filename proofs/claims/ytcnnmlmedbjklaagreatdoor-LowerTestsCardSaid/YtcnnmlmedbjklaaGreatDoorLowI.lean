/- hallmarklaw30.LowerTests: its number. -/
import Derived.Test.YtcnnmlmedbjklaaGreatDoorRows
import Derived.Test.YtcnnmlmedbjklaaGreatDoorCl0
namespace Go.Proofs.YtcnnmlmedbjklaaGreatDoor.PLowerTests
open Go Go.Ev
theorem row_number : Tryz.prog.funcNamed "hallmark/hallmarklaw30.LowerTests" = some 3 := funcNamed_fast (by kernel_rfl)
theorem row_named : Tryz.pinned.checked.prog.funcNamed Rows.lowerTestsRow.func = some 3 := row_number
end Go.Proofs.YtcnnmlmedbjklaaGreatDoor.PLowerTests
