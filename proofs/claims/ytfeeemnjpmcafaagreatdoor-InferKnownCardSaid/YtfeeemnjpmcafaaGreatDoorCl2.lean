/- hallmarklaw28.InferKnown: the cells that hang on what it comes to. -/
import Derived.Test.YtfeeemnjpmcafaaGreatDoorCl1
import Derived.Test.YtfeeemnjpmcafaaGreatDoorRows
namespace Go.Proofs.YtfeeemnjpmcafaaGreatDoor
open Go Go.Ev
set_option maxRecDepth 100000
theorem cell_inPlace : Tryz.prog.inPlace 3 = Rows.inferKnownRow.inPlace := by
  unfold Program.inPlace
  rw [reached]
  exact fmFast_eq (h := fun fn => if fn.ours || fn.body.isNone || fn.name == "runtime.NumGoroutine" then some fn.name else none) (by kernel_rfl)
theorem cell_unfollowed : Tryz.prog.unfollowed 3 = true := by
  unfold Program.unfollowed
  rw [reached]
  exact List.any_eq_true.2 ⟨9, by decide +kernel, by kernel_rfl⟩
theorem cell_recurses : Tryz.prog.recurses 3 = true := by
  unfold Program.recurses
  rw [cell_unfollowed]
  rfl
def globalsMet : List Nat := [1, 2, 3, 3, 3, 0, 1, 2, 4, 8, 9, 5, 6, 7]
theorem cell_globals : (reachedBack.reverse.flatMap fun g => ((Tryz.prog.funcs[g]?).bind (·.body)).elim [] Code.globalsNamed) = globalsMet := by
  rw [← flatFast_eq (P := Tryz.prog) (h := fun fn => fn.body.elim [] Code.globalsNamed) (L := reachedBack.reverse) (r := globalsMet) (by kernel_rfl)]
  congr 1
  funext g
  cases Tryz.prog.funcs[g]? <;> rfl
theorem cell_reads : (reachedBack.reverse.filterMap fun g => (Tryz.prog.funcs[g]?).bind fun fn => if fn.body.isNone then entryReads.lookup fn.name else none) = ["internal/bytealg.MaxLen"] :=
  fmFast_eq (h := fun fn => if fn.body.isNone then entryReads.lookup fn.name else none) (by kernel_rfl)
theorem cell_named : Tryz.prog.varsNamed 3 = Rows.inferKnownRow.named := by
  unfold Program.varsNamed
  rw [reached, cell_globals, cell_reads]
  kernel_rfl
end Go.Proofs.YtfeeemnjpmcafaaGreatDoor
