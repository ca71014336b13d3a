/- lives. -/
import Derived.Test.YtcnnmlmedbjklaaGreatDoorLow0
import Derived.Test.YtcnnmlmedbjklaaGreatDoorLowA
import Derived.Test.YtcnnmlmedbjklaaGreatDoorLowK
namespace Go.Proofs.YtcnnmlmedbjklaaGreatDoor.PLowerTests
open Go.RowKit Go.Proofs.YtcnnmlmedbjklaaGreatDoorW.PrintWords Go.Proofs.YtcnnmlmedbjklaaGreatDoorW.PrintLast Go.Proofs.YtcnnmlmedbjklaaGreatDoorW.PrintMore
def hallmarklaw30_lives.f : Option (Bool) := some true
theorem hallmarklaw30_lives.calls (r : Bool) (w : World) (h : hallmarklaw30_lives.f = some r) :
    Calls Tryz.prog 4 #[] w fun e w' => e = .returned (.bool r) ∧ Below w.heap.size w w' := by
  obtain rfl := Option.some.inj h
  refine (lives_calls w).mono ?_
  rintro e w' ⟨rfl, h1, h2, h3, h4, h5⟩
  exact ⟨rfl, ⟨h3, h4, h5, h1, h2⟩⟩
end Go.Proofs.YtcnnmlmedbjklaaGreatDoor.PLowerTests
