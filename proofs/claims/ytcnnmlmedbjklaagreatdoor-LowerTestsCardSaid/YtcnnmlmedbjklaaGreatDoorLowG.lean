/- hallmarklaw30.LowerTests returns true for every code, whatever the heap, and leaves the code as it was: the row. -/
import Derived.Test.YtcnnmlmedbjklaaGreatDoorLowF
namespace Go.Proofs.YtcnnmlmedbjklaaGreatDoor.PLowerTests
open Go Go.ChangeShapes Go.WideShapes Go.ChangeAt Go.RowKit
set_option linter.unusedVariables false

theorem law_calls {x : S28} {W : World} {cs : List Value} (hk : k28.K W x cs) (hs : Small x) (hM : MaxAt W) :
    Calls Tryz.prog 3 #[.agg cs.toArray] W fun e W' => e = .returned (.bool true) ∧ Below W.heap.size W W' := by
  obtain ⟨A7, c7, A8, c8, A9, c9, A10, c10, rfl, l7, g7, l8, g8, l9, g9, l10, g10⟩ := k28_open hk
  obtain ⟨k, hk⟩ := law_true hs
  exact hallmarklaw30_LowerTests.calls k _ _ _ _ _ _ _ A7 c7 _ A8 c8 _ A9 c9 _ A10 c10 _ true W hM g7 l7 g8 l8 g9 l9 g10 l10 hk

theorem row_met (os : Os) (args : Array Value) : laidMetH Tryz.prog Rows.lowerTestsRow.laid ((World.laidAll Tryz.prog os Rows.lowerTestsRow.laid).forCall (fun _ _ => 0) ⟨#[], args, []⟩).memory := by
  rw [MakeChecks.laidMetH_plain _ _ _ (by kernel_rfl)]
  exact laidMet_laidAll _ (by kernel_rfl) (by kernel_rfl)
end Go.Proofs.YtcnnmlmedbjklaaGreatDoor.PLowerTests
