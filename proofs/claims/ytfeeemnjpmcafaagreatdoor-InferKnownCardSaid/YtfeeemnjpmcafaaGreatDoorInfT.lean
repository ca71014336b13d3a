/- hallmarklaw28.InferKnown: evaluated once, true in every world in which the laid variable is as the program lays it. -/
import Derived.Test.YtfeeemnjpmcafaaGreatDoorInfS
import Derived.Test.YtfeeemnjpmcafaaGreatDoorInfF
import Derived.Test.YtfeeemnjpmcafaaGreatDoorInfRT
import Derived.Test.YtfeeemnjpmcafaaGreatDoorInfR0
import Derived.Test.YtfeeemnjpmcafaaGreatDoorInfR1
import Derived.Test.YtfeeemnjpmcafaaGreatDoorInfR2
import Derived.Test.YtfeeemnjpmcafaaGreatDoorInfR3
import Derived.Test.YtfeeemnjpmcafaaGreatDoorInfR4
import Derived.Test.YtfeeemnjpmcafaaGreatDoorInfR5
import Derived.Test.YtfeeemnjpmcafaaGreatDoorInfR6
import Derived.Test.YtfeeemnjpmcafaaGreatDoorInfR7
import Derived.Test.YtfeeemnjpmcafaaGreatDoorInfR8
import Derived.Test.YtfeeemnjpmcafaaGreatDoorInfR9
import Derived.Test.YtfeeemnjpmcafaaGreatDoorInfR10
namespace Go.Proofs.YtfeeemnjpmcafaaGreatDoor
open Go Go.Ev
theorem idx_law : IdxLaw evT 186 171 := ⟨fun s sub m w hs hm => idx_calls s sub m w hs hm, fun s x w => byte_calls s x w⟩
theorem copy_law : CopyLaw evT 169 154 := ⟨fun b w h => used_calls b w h, fun b w h h2 h3 => fresh_calls b w h h2 h3⟩
theorem base_ok : OrcOk evT baseO := strO_ok idx_law (copyO_ok copy_law noO_ok)
theorem ev_tabs : TOk evT := mask_tabs
theorem ev_funcs : FnsOk evT := mask_fns ev_fns
theorem sr0 : SubRun evT sub0 := ⟨baseO, 100000, base_ok, run0⟩
theorem sr1 : SubRun evT sub1 := ⟨baseO, 100000, base_ok, run1⟩
theorem sr2 : SubRun evT sub2 := ⟨baseO, 100000, base_ok, run2⟩
theorem sr3 : SubRun evT sub3 := ⟨baseO, 100000, base_ok, run3⟩
theorem sr4 : SubRun evT sub4 := ⟨baseO, 100000, base_ok, run4⟩
theorem sr5 : SubRun evT sub5 := ⟨baseO, 100000, base_ok, run5⟩
theorem sr6 : SubRun evT sub6 := ⟨baseO, 100000, base_ok, run6⟩
theorem sr7 : SubRun evT sub7 := ⟨baseO, 100000, base_ok, run7⟩
theorem sr8 : SubRun evT sub8 := ⟨baseO, 100000, base_ok, run8⟩
theorem sr9 : SubRun evT sub9 := ⟨baseO, 100000, base_ok, run9⟩
theorem in10 : ∀ e ∈ [sub7, sub8, sub9], SubRun evT e := by
  intro e he
  simp only [List.mem_cons, List.not_mem_nil, or_false] at he
  rcases he with rfl | rfl | rfl
  · exact sr7
  · exact sr8
  · exact sr9
theorem sr10 : SubRun evT sub10 := ⟨subO [sub7, sub8, sub9] baseO, 100000, subO_ok ev_tabs ev_funcs ev_mixed base_ok in10, run10⟩
theorem inTop : ∀ e ∈ [sub0, sub1, sub2, sub3, sub4, sub5, sub6, sub10], SubRun evT e := by
  intro e he
  simp only [List.mem_cons, List.not_mem_nil, or_false] at he
  rcases he with rfl | rfl | rfl | rfl | rfl | rfl | rfl | rfl
  · exact sr0
  · exact sr1
  · exact sr2
  · exact sr3
  · exact sr4
  · exact sr5
  · exact sr6
  · exact sr10
theorem known_calls (w : World) (hw : LaidIn laid w) (hm : ∃ m, w.cell? ⟨3, 0, none⟩ = some (.int .i64 m)) :
    Calls Tryz.prog 3 #[] w fun e w' => e = .returned (.bool true) ∧ w.heap.size ≤ w'.heap.size ∧ (∀ p, p < w.heap.size → w'.heap[p]? = w.heap[p]?) ∧ w'.os = w.os ∧ w'.tape = w.tape ∧ w'.output = w.output :=
  closed_true (T := evT) ev_tabs ev_funcs ev_mixed (subO_ok ev_tabs ev_funcs ev_mixed base_ok inTop) ev_laid runTop w hw hm
end Go.Proofs.YtfeeemnjpmcafaaGreatDoor
