/- lives: a closed computation of 56,423 steps of the model, done once by the evaluator in the kernel: it says true, whatever the world. -/
import Derived.Test.YtcnnmlmedbjklaaGreatDoorEv2
import Derived.Test.YtcnnmlmedbjklaaGreatDoorProg
import Derived.KernelRfl
namespace Go.Proofs.YtcnnmlmedbjklaaGreatDoor
open Go Go.Ev
/-- the functions that it comes to: one bit each -/
noncomputable def livesMask : Nat := 353808977327019501772651644118771354967147606604384838323008181824333768350709218990733586922075395486918012663015846442760258077674194603530725551486751763845545191184
noncomputable def tyT : PT TypeInfo := PT.ofL 20 Tryz.prog.types.toList
noncomputable def fnT : PT Func := PT.ofL 20 Tryz.prog.funcs.toList
noncomputable def livesT : Tabs := maskT livesMask Tryz.prog tyT fnT
theorem lives_fns : okFns livesMask Tryz.prog.funcs.toList 0 = true := by kernel_rfl
theorem lives_mixed : Tryz.prog.follows .mixedOrders = true := by kernel_rfl
theorem lives_run : isT (ev livesT 100000 (.call 4 []) ⟨.leaf, [], .leaf, 64⟩) = true := by kernel_rfl
theorem lives_calls (w : World) : Calls Tryz.prog 4 #[] w fun e w' => e = .returned (.bool true) ∧ w.heap.size ≤ w'.heap.size ∧ (∀ p, p < w.heap.size → w'.heap[p]? = w.heap[p]?) ∧ w'.os = w.os ∧ w'.tape = w.tape ∧ w'.output = w.output :=
  closed_true (T := livesT) mask_tabs (mask_fns lives_fns) lives_mixed lives_run w
end Go.Proofs.YtcnnmlmedbjklaaGreatDoor
