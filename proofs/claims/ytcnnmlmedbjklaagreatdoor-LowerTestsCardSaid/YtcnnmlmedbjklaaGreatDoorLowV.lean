/- hallmarklaw30.LowerTests: the row, proved. -/
import Derived.Test.YtcnnmlmedbjklaaGreatDoorLowI
import Derived.Test.YtcnnmlmedbjklaaGreatDoorLowJ
namespace Go.Proofs.YtcnnmlmedbjklaaGreatDoor.PLowerTests
open Go Go.ChangeShapes Go.WideShapes Go.ChangeAt Go.RowKit
theorem row_instance : decide (Tryz.f3.isInstance Tryz.pinned.checked.prog Rows.lowerTestsRow.origin Rows.lowerTestsRow.targs) = true := by kernel_rfl
theorem row_wrapper : Tryz.f3.isWrapper Tryz.pinned.checked.prog Rows.lowerTestsRow.wrapper Rows.lowerTestsRow.mainSum := by unfold Func.isWrapper; first | (rw [if_pos (by decide +kernel)]; kernel_rfl) | (rw [if_neg (by decide +kernel)]; exact ⟨rfl, rfl⟩)
theorem lowerTests_holds : Rows.LowerTestsSaid :=
  OpenClaim.holds_of_wide 3 Tryz.f3 rfl rfl rfl rfl rfl rfl rfl ⟨rfl, rfl, rfl, rfl, rfl⟩ rfl rfl rfl rfl rfl row_named Tryz.func3 row_facts
    (of_decide_eq_true row_instance) row_wrapper
    (fun os started H enc _ => lifted os started H enc)
#print axioms lowerTests_holds
end Go.Proofs.YtcnnmlmedbjklaaGreatDoor.PLowerTests
