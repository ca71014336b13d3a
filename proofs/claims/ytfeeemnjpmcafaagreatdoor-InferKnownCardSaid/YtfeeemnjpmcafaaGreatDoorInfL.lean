/- hallmarklaw28.InferKnown returns true, whatever the heap in which the listed variables are laid: the call that the row speaks of. -/
import Derived.Test.YtfeeemnjpmcafaaGreatDoorRows
import Derived.Test.YtfeeemnjpmcafaaGreatDoorInfT
import Derived.Test.YtfeeemnjpmcafaaGreatDoorEvLaid
import Derived.WalkKit
import Derived.ProofKit
import Derived.Lay
import Derived.LaidMore
import Derived.LaidSub
import Derived.OpenShut
import Derived.ChangeOld
import Derived.Shelf.Vars
import Derived.Below
import Derived.ClosedOfChecked
import Derived.SizedLaws
import Derived.MakeChecks
namespace Go.Proofs.YtfeeemnjpmcafaaGreatDoor
open Go Go.Ev Go.ChangeShapes Go.WideShapes Go.ChangeAt Go.RowKit
set_option maxRecDepth 100000
section
variable {H : Type} {enc : TypeId × Value → H}
/-- The plain wrap of a row that lists variables, the world's shape and what the variables read as kept. -/
theorem handed_and_laid {a : Assume} {C : Checked} {os : Os} {f : FuncId} {fn : Func} {s : ChangeSpec} {conds : List PathCond} {apart fresh handsOn again : Bool} {X : World → Array Value → Prop}
    (own : ownKnob C.prog.godebug = none) (started : os.Started) (noInit : C.prog.inits.idxOf? f = none) (hfn : C.prog.funcs[f]? = some fn)
    (witness : ∃ (w : World) (tape : Tape) (i : Input), w.os = os ∧ (w.forCall tape i).Shaped C.prog ∧ i.vars = [] ∧ Input.okWide C.prog (w.forCall tape i) .any w.heap.size f i ∧
      ((s.pre enc C.prog fn conds apart (w.forCall tape i).memory i.args ∧ X (w.forCall tape i).memory i.args) ∧ sizedMet enc C.prog fn (OpenSpec.ofChange s) apart (w.forCall tape i).memory i.args) ∧ a.holds C.prog (lone (Frame.enter C.prog f i.args .normal) [] (w.forCall tape i)))
    (contract : ∀ (W : World) (args : Array Value) (ds gs : List (DataW H)) (before : List MemPlace),
      DataW.Whole enc C.prog fn.params.toList s.vars apart W args.toList ds gs before → X W.memory args → W.ShapedOpen C.prog →
      Calls C.prog f args W fun e W' => ∃ v, e = .returned v ∧ s.post enc C.prog fn apart fresh handsOn again W args v W') :
    ReturnsInHanded a C os f .any (fun w args => (s.pre enc C.prog fn conds apart w args ∧ X w args) ∧ sizedMet enc C.prog fn (OpenSpec.ofChange s) apart w args) (s.post enc C.prog fn apart fresh handsOn again) := by
  refine returnsInHanded_of_calls own started noInit witness ?_
  intro w tape i _ hsh _ hok hpre hholds
  obtain ⟨_, _, _, fn', hfn', _, _, _, _, hval⟩ := hok
  have e : fn' = fn := Option.some.inj (hfn'.symm.trans hfn)
  subst e
  obtain ⟨⟨⟨ds, gs, before, hw, hc⟩, hx⟩, hz⟩ := hpre
  have hw' := DataW.Whole.of_heap (w' := w.forCall tape i) (by rfl) hw
  refine (contract (w.forCall tape i) i.args ds gs before hw' hx hsh).mono fun e W' ⟨v, he, hp⟩ => ?_
  subst he
  exact ChangeSpec.post_blind hp
end
theorem own : ownKnob Tryz.prog.godebug = none := by kernel_rfl
theorem tyEq : Tryz.prog.types = Tryz.src.types := by kernel_rfl
theorem tyRest : (Tryz.prog.globals.all (fun g => decide (g.type < Tryz.prog.types.size)) && Tryz.prog.funcs.all (fun f => f.params.all fun t => decide (t < Tryz.prog.types.size))) = true := by kernel_rfl
theorem tyKeys : Go.ClosedOfChecked.keysListB Tryz.prog = true := by kernel_rfl
theorem closedThree : laidOutB Tryz.prog = true ∧ mapsRowed Tryz.prog = true ∧ Tryz.prog.plainKeys = true := Go.ClosedOfChecked.closed_of_checked Tryz.checked tyEq tyRest tyKeys
theorem max_of_shaped {w : World} (h : w.ShapedOpen Tryz.prog) : ∃ m, w.cell? ⟨3, 0, none⟩ = some (.int .i64 m) :=
  Go.Proofs.cell_of_shapedOpen_int (zero := #[.int .i64 0]) (t := 3) h (of_decide_eq_true (by kernel_rfl)) (by kernel_rfl) rfl (by kernel_rfl) (by kernel_rfl) Tryz.underlying3
def quads : List Quad := [([44], 13, 1, 0), ([61], 36, 2, 2), ([124, 61], 37, 2, 2), ([43, 61], 38, 2, 2), ([45, 61], 39, 2, 2), ([42, 61], 40, 2, 2), ([47, 61], 41, 2, 2), ([37, 61], 42, 2, 2), ([47, 47, 61], 43, 2, 2), ([47, 47], 27, 3, 1), ([111, 114], 26, 4, 0), ([97, 110, 100], 25, 5, 0), ([61, 61], 19, 6, 2), ([33, 61], 20, 6, 2), ([60], 21, 6, 2), ([60, 61], 22, 6, 2), ([62], 23, 6, 2), ([62, 61], 24, 6, 2), ([43], 14, 7, 0), ([45], 15, 7, 0), ([42], 16, 8, 0), ([47], 17, 8, 0), ([37], 18, 8, 0)]
theorem quads_datum : ("hallmark/syntax.bindings", (.agg (quads.map quadData) : DataW Unit)) ∈ Rows.inferKnownRow.laid := by
  refine List.mem_of_getElem? (i := 2) ?_
  rfl
theorem quads_cells : quads.flatMap quadCells = laidCells := by rfl
theorem laid_in {w : World} (h : w.ShapedOpen Tryz.prog) (hl : laidMet Tryz.prog Rows.inferKnownRow.laid w) : Ev.LaidIn laid w := by
  have h1 := quads_laid (P := Tryz.prog) (g := 0) (t := 164) (sT := 123) (t0 := 9) (t1 := 3) (t2 := 3) (t3 := 3) (zero := ⟨(quads.map fun _ => [Value.string ⟨#[]⟩, .int .i64 0, .int .i64 0, .int .i64 0]).flatten⟩) (k := 23)
    (Lib.laidMet.reads hl quads_datum) h (by kernel_rfl) (of_decide_eq_true (by kernel_rfl)) (by kernel_rfl) (by kernel_rfl) (by kernel_rfl) (by kernel_rfl) Tryz.underlying164 Tryz.underlying123 rfl rfl rfl rfl
    Tryz.underlying9 Tryz.underlying3 Tryz.underlying3 Tryz.underlying3 (by kernel_rfl) (by kernel_rfl) (by kernel_rfl) (by kernel_rfl) (by kernel_rfl)
  rw [quads_cells] at h1
  exact h1
theorem row_met (os : Os) (args : Array Value) : laidMetH Tryz.prog Rows.inferKnownRow.laid ((World.laidAll Tryz.prog os Rows.inferKnownRow.laid).forCall (fun _ _ => 0) ⟨#[], args, []⟩).memory := by
  rw [MakeChecks.laidMetH_plain _ _ _ (by kernel_rfl)]
  exact laidMet_laidAll _ (by kernel_rfl) (by kernel_rfl)
theorem lifted (os : Os) (started : os.Started) (H : Type) (enc : TypeId × Value → H) :
    ReturnsInHanded {} Tryz.checked os 3 .any (fun w args => (Rows.inferKnownSpec.pre enc Tryz.prog Tryz.f3 [] false w args ∧ laidMetH Tryz.prog Rows.inferKnownRow.laid w) ∧ sizedMet enc Tryz.prog Tryz.f3 (OpenSpec.ofChange Rows.inferKnownSpec) false w args)
      (Rows.inferKnownSpec.post enc Tryz.prog Tryz.f3 false true false false) := by
  refine handed_and_laid (C := Tryz.checked) (X := fun w _ => laidMetH Tryz.prog Rows.inferKnownRow.laid w) own started (by kernel_rfl) Tryz.func3
    (ChangeSpec.witness_shaped (enc := enc) (C := Tryz.checked) (os := os) (X := fun w _ => laidMetH Tryz.prog Rows.inferKnownRow.laid w) false (World.laidAll Tryz.prog os Rows.inferKnownRow.laid) #[] 8 (World.laidAll_os _ _ _)
      (World.shaped_of_ZipB (by kernel_rfl) (by kernel_rfl)) (by kernel_rfl) (by kernel_rfl) (by kernel_rfl) (row_met os _)) ?_
  intro W args ds gs before hW hX hsh
  have hW' := hW
  obtain ⟨p, q, hA0, hV, rfl, _, _⟩ := hW
  have hA : DataW.TrodAll enc Tryz.prog W 0 (fun _ => true) true Tryz.f3.params.toList args.toList ds p := hA0
  rw [Tryz.params3] at hA
  obtain ⟨rfl, rfl, rfl⟩ := trodAll_none hA
  obtain ⟨rfl, rfl⟩ := trodVars_none hV
  rw [MakeChecks.laidMetH_plain _ _ _ (by kernel_rfl)] at hX
  have hL : laidMet Tryz.prog Rows.inferKnownRow.laid W := laidMet.of_heap (by rfl) hX
  refine (known_calls W (laid_in hsh hL) (max_of_shaped hsh)).mono fun e W' ⟨he, h1, h2, h3, h4, h5⟩ => ?_
  subst he
  have bel : Below W.heap.size W W' := ⟨h3, h4, h5, h1, h2⟩
  exact ⟨_, rfl, _, _, _, [], _, [], hW', trodAll_mk1 (shut_bool Tryz.underlying4 _), trodAll_mk0, rfl, bel.frame _, fun h => by cases h⟩
end Go.Proofs.YtfeeemnjpmcafaaGreatDoor
