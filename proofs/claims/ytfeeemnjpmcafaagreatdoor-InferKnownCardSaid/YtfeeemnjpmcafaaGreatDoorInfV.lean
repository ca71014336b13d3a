/- hallmarklaw28.InferKnown: the row, proved. -/
import Derived.Test.YtfeeemnjpmcafaaGreatDoorInfI
import Derived.Test.YtfeeemnjpmcafaaGreatDoorInfJ
namespace Go.Proofs.YtfeeemnjpmcafaaGreatDoor
open Go Go.ChangeShapes Go.WideShapes Go.ChangeAt Go.RowKit
theorem row_instance : decide (Tryz.f3.isInstance Tryz.pinned.checked.prog Rows.inferKnownRow.origin Rows.inferKnownRow.targs) = true := by kernel_rfl
theorem row_wrapper : Tryz.f3.isWrapper Tryz.pinned.checked.prog Rows.inferKnownRow.wrapper Rows.inferKnownRow.mainSum := by unfold Func.isWrapper; first | (rw [if_pos (by decide +kernel)]; kernel_rfl) | (rw [if_neg (by decide +kernel)]; exact ⟨rfl, rfl⟩)
theorem inferKnown_holds : Rows.InferKnownSaid :=
  OpenClaim.holds_of_wide 3 Tryz.f3 rfl rfl rfl rfl rfl rfl rfl ⟨rfl, rfl, rfl, rfl, rfl⟩ rfl rfl rfl rfl rfl row_named Tryz.func3 row_facts
    (of_decide_eq_true row_instance) row_wrapper
    (fun os started H enc _ => lifted os started H enc)
#print axioms inferKnown_holds
end Go.Proofs.YtfeeemnjpmcafaaGreatDoor
