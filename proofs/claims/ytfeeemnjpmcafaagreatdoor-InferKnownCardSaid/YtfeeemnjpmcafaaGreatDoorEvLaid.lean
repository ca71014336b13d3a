/- A package variable that is a row of quadruples (a text and three numbers), as the program lays it: its cells. -/
import Derived.Test.YtfeeemnjpmcafaaGreatDoorEv2
import Derived.Lib.LaidU8
namespace Go.Ev
open Go
abbrev Quad := List UInt8 × Int × Int × Int
def quadData (r : Quad) : DataW Unit := .agg [.lit (.string r.1), .lit (.int .i64 r.2.1), .lit (.int .i64 r.2.2.1), .lit (.int .i64 r.2.2.2)]
def quadCells (r : Quad) : List Value := [.string ⟨r.1.toArray⟩, .int .i64 r.2.1, .int .i64 r.2.2.1, .int .i64 r.2.2.2]
theorem quad_one {P : Program} {w : World} {t t0 t1 t2 t3 : TypeId} {f0 f1 f2 f3 : Field} {fuel : Nat} {cs : List Value} {p : List MemPlace} {r : Quad}
    (ht : P.underlying t = some (.struct #[f0, f1, f2, f3])) (e0 : (f0.type, f0.offset) = (t0, 0)) (e1 : (f1.type, f1.offset) = (t1, 1)) (e2 : (f2.type, f2.offset) = (t2, 2)) (e3 : (f3.type, f3.offset) = (t3, 3))
    (u0 : P.underlying t0 = some .string) (u1 : P.underlying t1 = some (.int .i64)) (u2 : P.underlying t2 = some (.int .i64)) (u3 : P.underlying t3 = some (.int .i64))
    (c0 : P.cellsOf t0 = 1) (c1 : P.cellsOf t1 = 1) (c2 : P.cellsOf t2 = 1) (c3 : P.cellsOf t3 = 1) (hc : P.cellsOf t = 4)
    (h : DataW.trod (fun _ => ()) P w 0 (fun _ => true) false fuel t cs = some (quadData r, p)) : cs = quadCells r := by
  obtain ⟨xs, n, rfl, hx, hl, hxl, hall⟩ := DataW.trod_struct ht h
  rw [hc] at hl
  simp only [Prod.mk.injEq] at e0 e1 e2 e3
  obtain ⟨x0, x1, x2, x3, rfl⟩ : ∃ x0 x1 x2 x3, xs = [x0, x1, x2, x3] := by
    match xs, hxl with
    | [x0, x1, x2, x3], _ => exact ⟨x0, x1, x2, x3, rfl⟩
  obtain ⟨v0, v1, v2, v3, rfl⟩ : ∃ v0 v1 v2 v3, cs = [v0, v1, v2, v3] := by
    match cs, hl with
    | [v0, v1, v2, v3], _ => exact ⟨v0, v1, v2, v3, rfl⟩
  have h0 := hall 0 f0 rfl
  have h1 := hall 1 f1 rfl
  have h2 := hall 2 f2 rfl
  have h3 := hall 3 f3 rfl
  rw [e0.1, e0.2, c0] at h0
  rw [e1.1, e1.2, c1] at h1
  rw [e2.1, e2.2, c2] at h2
  rw [e3.1, e3.2, c3] at h3
  obtain ⟨s0, q0, r0, _⟩ := DataW.trod_string u0 h0
  obtain ⟨z1, q1, r1, _⟩ := DataW.trod_int u1 h1
  obtain ⟨z2, q2, r2, _⟩ := DataW.trod_int u2 h2
  obtain ⟨z3, q3, r3, _⟩ := DataW.trod_int u3 h3
  have hd := congrArg Prod.fst hx
  simp only [quadData, List.map_cons, List.map_nil, r0, r1, r2, r3, DataW.agg.injEq, List.cons.injEq, DataW.lit.injEq, Lit.string.injEq, Lit.int.injEq, true_and, and_true] at hd
  obtain ⟨d0, d1, d2, d3⟩ := hd
  simp only [List.drop_zero, List.drop_succ_cons, List.take_succ_cons, List.take_zero, List.cons.injEq, and_true] at q0 q1 q2 q3
  subst q0 q1 q2 q3
  unfold quadCells
  rw [d0, d1, d2, d3]
theorem quads_join : ∀ (rows : List Quad) (cs : List Value), cs.length = 4 * rows.length → (∀ i r, rows[i]? = some r → (cs.drop (i * 4)).take 4 = quadCells r) → cs = rows.flatMap quadCells := by
  intro rows
  induction rows with
  | nil => intro cs hl _; simpa using hl
  | cons r rows ih =>
    intro cs hl h
    have h0 := h 0 r rfl
    simp only [Nat.zero_mul, List.drop_zero] at h0
    have hr := ih (cs.drop 4) (by simp at hl ⊢; omega) fun i x hx => by
      rw [List.drop_drop, show 4 + i * 4 = (i + 1) * 4 by omega]
      exact h (i + 1) x (by simpa using hx)
    rw [List.flatMap_cons, ← hr, ← h0, List.take_append_drop]
theorem quads_laid {P : Program} {w : World} {n : String} {g : Nat} {t sT t0 t1 t2 t3 : TypeId} {f0 f1 f2 f3 : Field} {rows : List Quad} {zero : Array Value} {k : Nat}
    (hr : Lib.VarReads P w n (.agg (rows.map quadData))) (hs : w.ShapedOpen P) (hn : P.globalNamed n = some g) (hlt : g < P.globals.size) (hty : (P.globals[g]?).map (·.type) = some t)
    (h0 : ((begin P (fun _ _ => 0) default).world.heap[g]?).bind Obj.row? = some (zero, t)) (hz : zero.size = 4 * rows.length) (hk : rows.length = k)
    (hu : P.underlying t = some (.array k sT)) (ht : P.underlying sT = some (.struct #[f0, f1, f2, f3])) (e0 : (f0.type, f0.offset) = (t0, 0)) (e1 : (f1.type, f1.offset) = (t1, 1)) (e2 : (f2.type, f2.offset) = (t2, 2)) (e3 : (f3.type, f3.offset) = (t3, 3))
    (u0 : P.underlying t0 = some .string) (u1 : P.underlying t1 = some (.int .i64)) (u2 : P.underlying t2 = some (.int .i64)) (u3 : P.underlying t3 = some (.int .i64))
    (c0 : P.cellsOf t0 = 1) (c1 : P.cellsOf t1 = 1) (c2 : P.cellsOf t2 = 1) (c3 : P.cellsOf t3 = 1) (hc : P.cellsOf sT = 4) : LaidIn [(g, rows.flatMap quadCells, t)] w := by
  obtain ⟨g', t', cs, fuel, p, q1, q2, q3, q4⟩ := hr
  obtain rfl := Option.some.inj (hn.symm.trans q1)
  obtain rfl := Option.some.inj (hty.symm.trans q2)
  obtain ⟨cs', k1, k2, _⟩ := hs.1 g zero t hlt h0
  have hcs : cs' = cs := by
    unfold World.var? at q3
    rw [hn, Option.bind_some, k1] at q3
    exact Option.some.inj q3
  subst hcs
  have hcells : cs'.toList = rows.flatMap quadCells := by
    refine quads_join rows _ (by rw [Array.length_toList, k2, hz]) fun i r hir => ?_
    have hi : i < rows.length := by
      obtain ⟨h, _⟩ := List.getElem?_eq_some_iff.1 hir
      exact h
    obtain ⟨fuel', d, q, hd, he⟩ := Lib.array_elem hu q4 i (by omega)
    rw [List.getElem?_map, hir] at hd
    obtain rfl := Option.some.inj hd
    rw [hc] at he
    exact quad_one ht e0 e1 e2 e3 u0 u1 u2 u3 c0 c1 c2 c3 hc he
  intro x hx
  obtain rfl := List.mem_singleton.1 hx
  show w.heap[g]? = some (.cells (rows.flatMap quadCells).toArray t (0, 0))
  rw [← hcells]
  exact k1
end Go.Ev
