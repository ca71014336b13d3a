/- What a value and a code read as. -/
import Derived.Test.YtcnnmlmedbjklaaGreatDoorLowD
namespace Go.Proofs.YtcnnmlmedbjklaaGreatDoor.PLowerTests
open Go Go.RowKit Go.Proofs.YtcnnmlmedbjklaaGreatDoorW.PrintWords Go.Proofs.YtcnnmlmedbjklaaGreatDoorW.PrintLast Go.Proofs.YtcnnmlmedbjklaaGreatDoorW.PrintMore
section
set_option linter.unusedSimpArgs false
variable {H : Type} {enc : TypeId × Value → H} {w : World} {base : Nat} {sp : Nat → Bool} {held : Bool}
theorem fits_agg {P : Program} {t : TypeId} {fs : Array Field} {parts : List (DataW H)} (ht : P.underlying t = some (.struct fs)) (h : Fits P t (.agg parts)) {j : Nat} {t' : TypeId} {d : DataW H} (h1 : (fs.toList.map (·.type))[j]? = some t') (h2 : parts[j]? = some d) : Fits P t' d :=
  fun n hn => h n (by simp only [DataW.weights, ht]; exact DataW.weights_mem_each h1 h2 n hn)
theorem fits_str {P : Program} {t : TypeId} {s : ByteArray} (h : Fits P t (.lit (.string s.data.toList) : DataW H)) : s.size ≤ 140737488351232 := by
  have := h s.data.toList.length (by simp [DataW.weights])
  rw [Array.length_toList] at this
  exact this
theorem len5 {α : Type} {l : List α} (h : l.length = 5) : ∃ v0 v1 v2 v3 v4, l = [v0, v1, v2, v3, v4] := by
  match l, h with
  | [v0, v1, v2, v3, v4], _ => exact ⟨v0, v1, v2, v3, v4, rfl⟩
theorem len7 {α : Type} {l : List α} (h : l.length = 7) : ∃ v0 v1 v2 v3 v4 v5 v6, l = [v0, v1, v2, v3, v4, v5, v6] := by
  match l, h with
  | [v0, v1, v2, v3, v4, v5, v6], _ => exact ⟨v0, v1, v2, v3, v4, v5, v6, rfl⟩
theorem len11 {α : Type} {l : List α} (h : l.length = 11) : ∃ v0 v1 v2 v3 v4 v5 v6 v7 v8 v9 v10, l = [v0, v1, v2, v3, v4, v5, v6, v7, v8, v9, v10] := by
  match l, h with
  | [v0, v1, v2, v3, v4, v5, v6, v7, v8, v9, v10], _ => exact ⟨v0, v1, v2, v3, v4, v5, v6, v7, v8, v9, v10, rfl⟩
theorem c3 : Tryz.prog.cellsOf 3 = 1 := by kernel_rfl
theorem c9 : Tryz.prog.cellsOf 9 = 1 := by kernel_rfl
theorem c22 : Tryz.prog.cellsOf 22 = 1 := by kernel_rfl
theorem c23 : Tryz.prog.cellsOf 23 = 1 := by kernel_rfl
theorem c26 : Tryz.prog.cellsOf 26 = 1 := by kernel_rfl
theorem c25 : Tryz.prog.cellsOf 25 = 5 := by kernel_rfl
theorem c28 : Tryz.prog.cellsOf 28 = 11 := by kernel_rfl
theorem b9 : 0 < Tryz.prog.bytesOf 9 := of_decide_eq_true (by kernel_rfl)
theorem b25 : 0 < Tryz.prog.bytesOf 25 := of_decide_eq_true (by kernel_rfl)
theorem b28 : 0 < Tryz.prog.bytesOf 28 := of_decide_eq_true (by kernel_rfl)
theorem u22 : Tryz.prog.underlying 22 = some (.slice 25) := Tryz.underlying22
theorem u23 : Tryz.prog.underlying 23 = some (.slice 9) := Tryz.underlying23
theorem u26 : Tryz.prog.underlying 26 = some (.slice 28) := Tryz.underlying26

theorem read_strings {m : Nat} {cs : List Value} {y : DataW H × List MemPlace} (h : DataW.trod enc Tryz.prog w base sp held m 23 cs = some y) (hw : Fits Tryz.prog 23 y.1) :
    ∃ (A : Option Addr) (c : Nat) (xs : List ByteArray), cs = [.slice A xs.length c] ∧ xs.length ≤ c ∧ Kd.string.C w A xs.length xs := by
  obtain ⟨A, c, xs, h1, h2, h3, _, _⟩ := read_slice (k := Kd.string) (Q := fun _ => True) u23 c9 b9 (fun m' _ cs y h _ => by
    obtain ⟨s, rfl, _, _⟩ := DataW.trod_string Tryz.underlying9 h
    exact ⟨s, rfl, trivial⟩) h hw
  exact ⟨A, c, xs, h1, h2, h3⟩

theorem read25 : ∀ (m : Nat) (cs : List Value) (y : DataW H × List MemPlace), DataW.trod enc Tryz.prog w base sp held m 25 cs = some y → Fits Tryz.prog 25 y.1 → ∃ x : S25, k25.K w x cs := by
  intro m
  induction m using Nat.strongRecOn with
  | _ m ih =>
  intro cs y h hw
  obtain ⟨ys, n, rfl, rfl, hlen, hyl, hf⟩ := DataW.trod_struct Tryz.underlying25 h
  rw [c25] at hlen
  obtain ⟨v0, v1, v2, v3, v4, rfl⟩ := len5 hlen
  obtain ⟨y0, y1, y2, y3, y4, rfl⟩ := len5 hyl
  have q0 : DataW.trod enc Tryz.prog w base sp held n 3 (([v0, v1, v2, v3, v4].drop 0).take (Tryz.prog.cellsOf 3)) = some y0 := hf 0 _ rfl
  have q1 : DataW.trod enc Tryz.prog w base sp held n 9 (([v0, v1, v2, v3, v4].drop 1).take (Tryz.prog.cellsOf 9)) = some y1 := hf 1 _ rfl
  have q2 : DataW.trod enc Tryz.prog w base sp held n 9 (([v0, v1, v2, v3, v4].drop 2).take (Tryz.prog.cellsOf 9)) = some y2 := hf 2 _ rfl
  have q3 : DataW.trod enc Tryz.prog w base sp held n 22 (([v0, v1, v2, v3, v4].drop 3).take (Tryz.prog.cellsOf 22)) = some y3 := hf 3 _ rfl
  have q4 : DataW.trod enc Tryz.prog w base sp held n 23 (([v0, v1, v2, v3, v4].drop 4).take (Tryz.prog.cellsOf 23)) = some y4 := hf 4 _ rfl
  rw [c3] at q0
  simp only [List.drop_zero, List.drop_succ_cons, List.take_succ_cons, List.take_zero] at q0
  have f0 : Fits Tryz.prog 3 y0.1 := fits_agg (t' := 3) (d := y0.1) Tryz.underlying25 hw (j := 0) rfl rfl
  rw [c9] at q1
  simp only [List.drop_zero, List.drop_succ_cons, List.take_succ_cons, List.take_zero] at q1
  have f1 : Fits Tryz.prog 9 y1.1 := fits_agg (t' := 9) (d := y1.1) Tryz.underlying25 hw (j := 1) rfl rfl
  rw [c9] at q2
  simp only [List.drop_zero, List.drop_succ_cons, List.take_succ_cons, List.take_zero] at q2
  have f2 : Fits Tryz.prog 9 y2.1 := fits_agg (t' := 9) (d := y2.1) Tryz.underlying25 hw (j := 2) rfl rfl
  rw [c22] at q3
  simp only [List.drop_zero, List.drop_succ_cons, List.take_succ_cons, List.take_zero] at q3
  have f3 : Fits Tryz.prog 22 y3.1 := fits_agg (t' := 22) (d := y3.1) Tryz.underlying25 hw (j := 3) rfl rfl
  rw [c23] at q4
  simp only [List.drop_zero, List.drop_succ_cons, List.take_succ_cons, List.take_zero] at q4
  have f4 : Fits Tryz.prog 23 y4.1 := fits_agg (t' := 23) (d := y4.1) Tryz.underlying25 hw (j := 4) rfl rfl
  obtain ⟨i0, e0, _, _⟩ := DataW.trod_int Tryz.underlying3 q0
  obtain ⟨s1, e1, _, _⟩ := DataW.trod_string Tryz.underlying9 q1
  obtain ⟨s2, e2, _, _⟩ := DataW.trod_string Tryz.underlying9 q2
  obtain ⟨A3, k3, x3, e3, l3, g3, _, _⟩ := read_slice (k := k25) (Q := fun _ => True) u22 c25 b25 (fun m' hm cs y h hw => by
    obtain ⟨x, hx⟩ := ih m' (by omega) cs y h hw
    exact ⟨x, hx, trivial⟩) q3 f3
  obtain ⟨A4, k4, x4, e4, l4, g4⟩ := read_strings q4 f4
  obtain rfl := List.head_eq_of_cons_eq e0
  obtain rfl := List.head_eq_of_cons_eq e1
  obtain rfl := List.head_eq_of_cons_eq e2
  obtain rfl := List.head_eq_of_cons_eq e3
  obtain rfl := List.head_eq_of_cons_eq e4
  exact ⟨⟨i0, s1, s2, x3, x4⟩, k25_mk w ⟨i0, s1, s2, x3, x4⟩ l3 g3 l4 g4⟩

theorem read28 : ∀ (m : Nat) (cs : List Value) (y : DataW H × List MemPlace), DataW.trod enc Tryz.prog w base sp held m 28 cs = some y → Fits Tryz.prog 28 y.1 → ∃ x : S28, k28.K w x cs ∧ Small x := by
  intro m
  induction m using Nat.strongRecOn with
  | _ m ih =>
  intro cs y h hw
  obtain ⟨ys, n, rfl, rfl, hlen, hyl, hf⟩ := DataW.trod_struct Tryz.underlying28 h
  rw [c28] at hlen
  obtain ⟨v0, v1, v2, v3, v4, v5, v6, v7, v8, v9, v10, rfl⟩ := len11 hlen
  obtain ⟨y0, y1, y2, y3, y4, y5, y6, rfl⟩ := len7 hyl
  have q0 : DataW.trod enc Tryz.prog w base sp held n 3 (([v0, v1, v2, v3, v4, v5, v6, v7, v8, v9, v10].drop 0).take (Tryz.prog.cellsOf 3)) = some y0 := hf 0 _ rfl
  have q1 : DataW.trod enc Tryz.prog w base sp held n 3 (([v0, v1, v2, v3, v4, v5, v6, v7, v8, v9, v10].drop 1).take (Tryz.prog.cellsOf 3)) = some y1 := hf 1 _ rfl
  have q2 : DataW.trod enc Tryz.prog w base sp held n 3 (([v0, v1, v2, v3, v4, v5, v6, v7, v8, v9, v10].drop 2).take (Tryz.prog.cellsOf 3)) = some y2 := hf 2 _ rfl
  have q3 : DataW.trod enc Tryz.prog w base sp held n 9 (([v0, v1, v2, v3, v4, v5, v6, v7, v8, v9, v10].drop 3).take (Tryz.prog.cellsOf 9)) = some y3 := hf 3 _ rfl
  have q4 : DataW.trod enc Tryz.prog w base sp held n 25 (([v0, v1, v2, v3, v4, v5, v6, v7, v8, v9, v10].drop 4).take (Tryz.prog.cellsOf 25)) = some y4 := hf 4 _ rfl
  have q5 : DataW.trod enc Tryz.prog w base sp held n 23 (([v0, v1, v2, v3, v4, v5, v6, v7, v8, v9, v10].drop 9).take (Tryz.prog.cellsOf 23)) = some y5 := hf 5 _ rfl
  have q6 : DataW.trod enc Tryz.prog w base sp held n 26 (([v0, v1, v2, v3, v4, v5, v6, v7, v8, v9, v10].drop 10).take (Tryz.prog.cellsOf 26)) = some y6 := hf 6 _ rfl
  rw [c3] at q0
  simp only [List.drop_zero, List.drop_succ_cons, List.take_succ_cons, List.take_zero] at q0
  have f0 : Fits Tryz.prog 3 y0.1 := fits_agg (t' := 3) (d := y0.1) Tryz.underlying28 hw (j := 0) rfl rfl
  rw [c3] at q1
  simp only [List.drop_zero, List.drop_succ_cons, List.take_succ_cons, List.take_zero] at q1
  have f1 : Fits Tryz.prog 3 y1.1 := fits_agg (t' := 3) (d := y1.1) Tryz.underlying28 hw (j := 1) rfl rfl
  rw [c3] at q2
  simp only [List.drop_zero, List.drop_succ_cons, List.take_succ_cons, List.take_zero] at q2
  have f2 : Fits Tryz.prog 3 y2.1 := fits_agg (t' := 3) (d := y2.1) Tryz.underlying28 hw (j := 2) rfl rfl
  rw [c9] at q3
  simp only [List.drop_zero, List.drop_succ_cons, List.take_succ_cons, List.take_zero] at q3
  have f3 : Fits Tryz.prog 9 y3.1 := fits_agg (t' := 9) (d := y3.1) Tryz.underlying28 hw (j := 3) rfl rfl
  rw [c25] at q4
  simp only [List.drop_zero, List.drop_succ_cons, List.take_succ_cons, List.take_zero] at q4
  have f4 : Fits Tryz.prog 25 y4.1 := fits_agg (t' := 25) (d := y4.1) Tryz.underlying28 hw (j := 4) rfl rfl
  rw [c23] at q5
  simp only [List.drop_zero, List.drop_succ_cons, List.take_succ_cons, List.take_zero] at q5
  have f5 : Fits Tryz.prog 23 y5.1 := fits_agg (t' := 23) (d := y5.1) Tryz.underlying28 hw (j := 5) rfl rfl
  rw [c26] at q6
  simp only [List.drop_zero, List.drop_succ_cons, List.take_succ_cons, List.take_zero] at q6
  have f6 : Fits Tryz.prog 26 y6.1 := fits_agg (t' := 26) (d := y6.1) Tryz.underlying28 hw (j := 6) rfl rfl
  obtain ⟨i0, e0, _, _⟩ := DataW.trod_int Tryz.underlying3 q0
  obtain ⟨i1, e1, _, _⟩ := DataW.trod_int Tryz.underlying3 q1
  obtain ⟨i2, e2, _, _⟩ := DataW.trod_int Tryz.underlying3 q2
  obtain ⟨s3, e3, d3, _⟩ := DataW.trod_string Tryz.underlying9 q3
  obtain ⟨x4, hx4⟩ := read25 n _ _ q4 f4
  obtain ⟨A5, k5, x5, e5, l5, g5⟩ := read_strings q5 f5
  obtain ⟨A6, k6, x6, e6, l6, g6, hsm, hln⟩ := read_slice (k := k28) (Q := Small) u26 c28 b28 (fun m' hm cs y h hw => ih m' (by omega) cs y h hw) q6 f6
  obtain ⟨A7, k7, A8, k8, e4, l7, g7, l8, g8⟩ := k25_open hx4
  have hs3 : s3.size ≤ 140737488351232 := by
    have := f3
    rw [d3] at this
    exact fits_str this
  obtain rfl := List.head_eq_of_cons_eq e0
  obtain rfl := List.head_eq_of_cons_eq e1
  obtain rfl := List.head_eq_of_cons_eq e2
  obtain rfl := List.head_eq_of_cons_eq e3
  obtain rfl := List.head_eq_of_cons_eq e5
  obtain rfl := List.head_eq_of_cons_eq e6
  simp only [List.cons.injEq, and_true] at e4
  obtain ⟨rfl, rfl, rfl, rfl, rfl⟩ := e4
  exact ⟨⟨i0, i1, i2, s3, x4, x5, x6⟩, k28_mk w ⟨i0, i1, i2, s3, x4, x5, x6⟩ l7 g7 l8 g8 l5 g5 l6 g6, Small.intro _ hs3 hln hsm⟩
end
end Go.Proofs.YtcnnmlmedbjklaaGreatDoor.PLowerTests
