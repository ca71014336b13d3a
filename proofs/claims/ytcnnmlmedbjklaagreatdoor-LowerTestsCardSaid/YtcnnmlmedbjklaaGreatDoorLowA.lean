/- The cell of the one variable that strings.Contains reads, carried along a walk. -/
import Derived.Test.YtcnnmlmedbjklaaGreatDoorWWords
import Derived.Below
namespace Go.Proofs.YtcnnmlmedbjklaaGreatDoor.PLowerTests
open Go Go.RowKit
def MaxAt (w : World) : Prop := ∃ m, w.cell? ⟨0, 0, none⟩ = some (.int .i64 m)
theorem maxAt_drewN {w : World} {n : Nat} (h : MaxAt w) : MaxAt (w.drewN n) := h
theorem maxAt_drew1 {w : World} (h : MaxAt w) : MaxAt w.drew := h
theorem maxAt_below {w w' : World} (h : MaxAt w) (b : Below w.heap.size w w') : MaxAt w' := by
  obtain ⟨m, hm⟩ := h
  refine ⟨m, ?_⟩
  have h0 : 0 < w.heap.size := by
    refine Nat.pos_of_ne_zero fun h0 => ?_
    have : w.heap[0]? = none := Array.getElem?_eq_none (by omega)
    simp [World.cell?, this] at hm
  have hb := b.block 0 h0
  simpa [World.cell?, hb] using hm
theorem maxAt_alloc {w : World} {o : Obj} (h : MaxAt w) : MaxAt (w.alloc o) := maxAt_below h ((Below.refl w.heap.size w).alloc (Nat.le_refl _) o)
end Go.Proofs.YtcnnmlmedbjklaaGreatDoor.PLowerTests
