/- What a code reads as before the call: its tree, with sizes that any machine holds. -/
import Derived.Test.YtcnnmlmedbjklaaGreatDoorLowR
import Derived.ChangeArms
import Derived.DataElems
import Derived.SizedLaws
namespace Go.Proofs.YtcnnmlmedbjklaaGreatDoor.PLowerTests
open Go Go.RowKit Go.Proofs.YtcnnmlmedbjklaaGreatDoorW.PrintWords Go.Proofs.YtcnnmlmedbjklaaGreatDoorW.PrintLast Go.Proofs.YtcnnmlmedbjklaaGreatDoorW.PrintMore
section
variable {H : Type} {enc : TypeId × Value → H} {w : World} {base : Nat} {sp : Nat → Bool} {held : Bool}

/-- no text and no list of it is beyond what any machine holds -/
def Fits (P : Program) (t : TypeId) (d : DataW H) : Prop := ∀ n ∈ d.weights P t, n ≤ reachBytes

theorem pick_list {α : Type} {R : Nat → α → Prop} : ∀ n : Nat, (∀ i, i < n → ∃ x, R i x) → ∃ xs : List α, xs.length = n ∧ ∀ i x, xs[i]? = some x → R i x
  | 0, _ => ⟨[], rfl, fun i x h => by cases h⟩
  | n + 1, h => by
    obtain ⟨xs, hl, hx⟩ := pick_list n (fun i hi => h i (by omega))
    obtain ⟨x, hR⟩ := h n (by omega)
    refine ⟨xs ++ [x], by simp [hl], fun i y hy => ?_⟩
    rw [List.getElem?_append] at hy
    split at hy
    · exact hx i y hy
    · rename_i hlt
      have : i = n := by
        have := (List.getElem?_eq_some_iff.1 hy).1
        simp at this; omega
      subst this
      simp [hl] at hy
      exact hy ▸ hR

theorem weights_all {P : Program} {e : TypeId} : ∀ {l : List (DataW H)} {d : DataW H}, d ∈ l → ∀ n ∈ d.weights P e, n ∈ DataW.weightsAll P e l
  | a :: l, d, h, n, hn => by
    simp only [DataW.weightsAll, List.mem_append]
    rcases List.mem_cons.1 h with rfl | h
    · exact Or.inl hn
    · exact Or.inr (weights_all h n hn)

/-- A list, out of its elements. -/
theorem read_slice {α : Type} {k : Kd α} {Q : α → Prop} {P : Program} {t e : TypeId} {m : Nat} {cs : List Value} {y : DataW H × List MemPlace} (ht : P.underlying t = some (.slice e)) (hsz : P.cellsOf e = k.sz) (hb : 0 < P.bytesOf e)
    (hE : ∀ m' < m, ∀ (cs : List Value) (y : DataW H × List MemPlace), DataW.trod enc P w base sp held m' e cs = some y → Fits P e y.1 → ∃ x, k.K w x cs ∧ Q x)
    (h : DataW.trod enc P w base sp held m t cs = some y) (hw : Fits P t y.1) :
    ∃ (A : Option Addr) (c : Nat) (xs : List α), cs = [.slice A xs.length c] ∧ xs.length ≤ c ∧ k.C w A xs.length xs ∧ (∀ x ∈ xs, Q x) ∧ xs.length ≤ 140737488351232 := by
  rcases DataW.trod_slice ht h with ⟨rfl, _⟩ | ⟨a, len, cap, elems, rest, n, rfl, rfl, rfl, hbase, hl, hc, hlen, hel, _, _⟩
  · exact ⟨none, 0, [], rfl, Nat.le_refl _, Kd.C_nil k w, fun x hx => (by cases hx), by simp⟩
  · have hmem : ∀ n' ∈ DataW.weights P t (.slice (elems.map (·.1)) (rest.map (·.1))), n' ≤ reachBytes := hw
    simp only [DataW.weights, ht] at hmem
    have hlen' : len ≤ 140737488351232 := by
      have h1 := hmem _ (List.mem_cons_self)
      simp only [List.length_map] at h1
      have h2 : reachBytes = 140737488351232 := rfl
      have h3 : elems.length + rest.length ≤ (elems.length + rest.length) * P.bytesOf e := Nat.le_mul_of_pos_right _ hb
      omega
    obtain ⟨xs, hxl, hxs⟩ := pick_list (R := fun i (x : α) => Q x ∧ ∃ c, c.length = k.sz ∧ k.K w x c ∧ ∀ j u, c[j]? = some u → w.cell? (a.add (i * k.sz + j)) = some u) len (fun i hi => by
      have hi' := hel i hi
      have hy : elems[i]? = some elems[i] := List.getElem?_eq_getElem (by omega)
      rw [hy, Option.bind_eq_some_iff] at hi'
      obtain ⟨cs', hcs, htr⟩ := hi'
      have hfit : Fits P e (elems[i]).1 := fun n' hn' => hmem n' (List.mem_cons_of_mem _ (List.mem_append_left _ (weights_all (List.mem_map.2 ⟨elems[i], List.getElem_mem _, rfl⟩) n' hn')))
      obtain ⟨x, hK, hQ⟩ := hE n (by omega) cs' elems[i] htr hfit
      refine ⟨x, hQ, cs', k.K_len hK, hK, fun j u hu => ?_⟩
      obtain ⟨_, hlen2, hget⟩ := World.cells?_some hcs
      have hj : j < P.cellsOf e := by
        have := (List.getElem?_eq_some_iff.1 hu).1
        omega
      have := hget j hj
      rw [Addr.add_add, hsz, hu] at this
      exact this)
    subst hxl
    refine ⟨some a, cap, xs, rfl, hl, ⟨rfl, by unfold maxLen at hc; omega, fun _ => ⟨a, rfl, fun j p hp => ?_⟩⟩, fun x hx => ?_, hlen'⟩
    · obtain ⟨_, c, h1, h2, h3⟩ := hxs j p hp
      exact ⟨c, h1, h2, h3⟩
    · obtain ⟨i, hi⟩ := List.getElem?_of_mem hx
      exact (hxs i x hi).1
end
end Go.Proofs.YtcnnmlmedbjklaaGreatDoor.PLowerTests
