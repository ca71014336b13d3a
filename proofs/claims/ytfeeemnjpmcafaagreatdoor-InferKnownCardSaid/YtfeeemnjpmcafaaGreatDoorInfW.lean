/- hallmarklaw28.InferKnown returns true, whatever the heap in which the listed package-level variables read as the program's own text lays them: the tied card. -/
import Derived.Test.YtfeeemnjpmcafaaGreatDoorInfV
import Derived.Test.YtfeeemnjpmcafaaGreatDoorTy
import Derived.Test.YtfeeemnjpmcafaaGreatDoorCards
import Derived.SevenTiedAt
namespace Go.Proofs.YtfeeemnjpmcafaaGreatDoor
open Go
set_option maxRecDepth 100000
theorem goes_none {P : Program} {f : FuncId} (h : (P.funcs.toList.any Func.goes) = false) : P.goes f = false := by
  unfold Program.goes
  have h2 : P.funcs.any Func.goes = false := by rw [← Array.any_toList]; exact h
  rw [h2, Bool.and_false, Bool.or_false, Bool.eq_false_iff]
  intro h3
  obtain ⟨g, _, hg⟩ := List.any_eq_true.1 h3
  cases hf : P.funcs[g]? with
  | none => rw [hf] at hg; cases hg
  | some fn =>
    rw [hf] at hg
    have h4 : (P.funcs.toList.any Func.goes) = true := List.any_eq_true.2 ⟨fn, by rw [← Array.getElem?_toList] at hf; exact List.mem_of_getElem? hf, hg⟩
    rw [h] at h4
    cases h4
theorem card_words : Rows.inferKnownRow.wfByText (OpenSpec.ofChange Rows.inferKnownSpec) = true := by kernel_rfl
theorem card_main : Tryz.prog.mainIs = some (true, ("1c61d551ca5e0775a63066c9921aafb07bd3caaba83f219acd03b5418d9707be" : String).toList) := by kernel_rfl
theorem card_looks : true = Tryz.prog.looks [] := by kernel_rfl
theorem card_still : (Tryz.prog.funcs.toList.any Func.goes) = false := by kernel_rfl
theorem card_from : Tryz.prog.goesFrom "hallmark/hallmarklaw28.InferKnown" = false := by
  unfold Program.goesFrom
  rw [row_number, Option.any_some]
  exact goes_none card_still
theorem card_at : Tryz.prog.goesAt .entering "hallmark/hallmarklaw28.InferKnown" = false := by
  unfold Program.goesAt
  rw [card_from]
  rfl
theorem card_goes : false = Rows.inferKnownRow.goesBy Tryz.pinned.checked.prog := card_at.symm
theorem InferKnown_card : Rows.InferKnownCardSaid :=
  Claim7.holds_tied_plain_at .later [] [.pinned, .data, .data, .data, .data, .data, .data, .sentinel, .sentinel] true (true, "1c61d551ca5e0775a63066c9921aafb07bd3caaba83f219acd03b5418d9707be") true
    inferKnown_holds (fun _ h => by cases h) card_words (fun _ h => by cases h) inferKnown_row_tie rfl ⟨rfl, rfl⟩ card_main rfl
    (fun f fn hf hfn => by
      obtain rfl : f = 3 := Option.some.inj (row_named.symm.trans hf) |>.symm
      obtain rfl : fn = Tryz.f3 := (Option.some.inj (Tryz.func3.symm.trans hfn)).symm
      exact ⟨card_looks, fun j t ht => by
        rw [Tryz.params3] at ht
        cases j <;> cases ht⟩)
    card_goes
#print axioms InferKnown_card
end Go.Proofs.YtfeeemnjpmcafaaGreatDoor
