/- hallmarklaw30.LowerTests returns true for every code and leaves the code as it was, whatever the heap in which the listed package-level variables read as the program's own text lays them: the tied card. -/
import Derived.Test.YtcnnmlmedbjklaaGreatDoorLowV
import Derived.Test.YtcnnmlmedbjklaaGreatDoorTy
import Derived.Test.YtcnnmlmedbjklaaGreatDoorCards
import Derived.SevenTiedAt
namespace Go.Proofs.YtcnnmlmedbjklaaGreatDoor
open Go
set_option maxRecDepth 100000
theorem goes_none {P : Program} {f : FuncId} (h : (P.funcs.toList.any Func.goes) = false) : P.goes f = false := by
  unfold Program.goes
  have h2 : P.funcs.any Func.goes = false := by rw [← Array.any_toList]; exact h
  rw [h2, Bool.and_false, Bool.or_false, Bool.eq_false_iff]
  intro h3
  obtain ⟨g, _, hg⟩ := List.any_eq_true.1 h3
  cases hf : P.funcs[g]? with
  | none => rw [hf] at hg; cases hg
  | some fn =>
    rw [hf] at hg
    have h4 : (P.funcs.toList.any Func.goes) = true := List.any_eq_true.2 ⟨fn, by rw [← Array.getElem?_toList] at hf; exact List.mem_of_getElem? hf, hg⟩
    rw [h] at h4
    cases h4
theorem card_words : Rows.lowerTestsRow.wfByText (OpenSpec.ofChange Rows.lowerTestsSpec) = true := by kernel_rfl
theorem card_main : Tryz.prog.mainIs = some (true, ("056de992ddc31865cd0d75e5cb82df1af90e74374e7df2bda2158427924ce158" : String).toList) := by kernel_rfl
theorem card_looks : true = Tryz.prog.looks [] := by kernel_rfl
theorem card_stand : ([28].all fun u => !Tryz.prog.wantsStandIn u) = true := by kernel_rfl
theorem card_still : (Tryz.prog.funcs.toList.any Func.goes) = false := by kernel_rfl
theorem card_from : Tryz.prog.goesFrom "hallmark/hallmarklaw30.LowerTests" = false := by
  unfold Program.goesFrom
  rw [PLowerTests.row_number, Option.any_some]
  exact goes_none card_still
theorem card_at : Tryz.prog.goesAt .entering "hallmark/hallmarklaw30.LowerTests" = false := by
  unfold Program.goesAt
  rw [card_from]
  rfl
theorem card_goes : false = Rows.lowerTestsRow.goesBy Tryz.pinned.checked.prog := card_at.symm
theorem LowerTests_card : Rows.LowerTestsCardSaid :=
  Claim7.holds_tied_plain_at .later [] [.pinned, .data, .data, .data, .data, .data, .sentinel, .sentinel] true (true, "056de992ddc31865cd0d75e5cb82df1af90e74374e7df2bda2158427924ce158") true
    PLowerTests.lowerTests_holds (fun _ h => by cases h) card_words (fun _ h => by cases h) lowerTests_row_tie rfl ⟨rfl, rfl⟩ card_main rfl
    (fun f fn hf hfn => by
      obtain rfl : f = 3 := Option.some.inj (PLowerTests.row_named.symm.trans hf) |>.symm
      obtain rfl : fn = Tryz.f3 := (Option.some.inj (Tryz.func3.symm.trans hfn)).symm
      exact ⟨card_looks, fun j t ht => by
        rw [Tryz.params3] at ht
        have hm : t ∈ [28] := by simpa using Array.mem_of_getElem? ht
        exact (show Tryz.prog.wantsStandIn t = false by simpa using List.all_eq_true.1 card_stand t hm)⟩)
    card_goes
#print axioms LowerTests_card
end Go.Proofs.YtcnnmlmedbjklaaGreatDoor
