/- A word between blanks stands in a text of words between blanks just where it is one of them. -/
import Derived.Lib.IndexMore
import Derived.Lib.IndexLaws
namespace Go.Proofs.YtcnnmlmedbjklaaGreatDoor.PLowerTests
open Go Go.Lib
/-- words, each between blanks -/
def glue (ws : List (List UInt8)) : List UInt8 := 32 :: ws.flatMap fun w => w ++ [32]

theorem glue_cons (w : List UInt8) (ws : List (List UInt8)) : glue (w :: ws) = 32 :: (w ++ glue ws) := by simp [glue]

theorem contains_iff (s sub : List UInt8) : Lib.contains s sub = true ↔ ∃ p q, s = p ++ (sub ++ q) := by
  unfold Lib.contains
  rw [decide_eq_true_iff]
  rcases index_spec s sub with ⟨h, hn⟩ | ⟨i, h, hi, ho, _⟩
  · constructor
    · intro h0; omega
    · rintro ⟨p, q, rfl⟩
      have := hn p.length (by simp)
      unfold occAt at this
      rw [List.drop_left] at this
      rw [List.isPrefixOf_iff_prefix.2 ⟨q, rfl⟩] at this
      cases this
  · constructor
    · intro _
      unfold occAt at ho
      obtain ⟨q, hq⟩ := List.isPrefixOf_iff_prefix.1 ho
      exact ⟨s.take i, q, by rw [hq]; exact (List.take_append_drop i s).symm⟩
    · intro _; omega

theorem split_blank : ∀ {w p g t : List UInt8}, 32 ∉ w → w ++ g = p ++ 32 :: t → ∃ r, p = w ++ r ∧ g = r ++ 32 :: t
  | [], p, g, t, _, h => ⟨p, rfl, h⟩
  | a :: w, [], g, t, hw, h => by
    simp only [List.cons_append, List.nil_append, List.cons.injEq] at h
    exact absurd (by simp [h.1]) hw
  | a :: w, b :: p, g, t, hw, h => by
    simp only [List.cons_append, List.cons.injEq] at h
    obtain ⟨r, h1, h2⟩ := split_blank (fun hm => hw (List.mem_cons_of_mem _ hm)) h.2
    exact ⟨r, by simp [h.1, h1], h2⟩
theorem same_word : ∀ {w n r t : List UInt8}, 32 ∉ w → 32 ∉ n → w ++ 32 :: r = n ++ 32 :: t → w = n
  | [], [], _, _, _, _, _ => rfl
  | [], b :: n, r, t, _, hn, h => by
    simp only [List.nil_append, List.cons_append, List.cons.injEq] at h
    exact absurd (by simp [h.1]) hn
  | a :: w, [], r, t, hw, _, h => by
    simp only [List.nil_append, List.cons_append, List.cons.injEq] at h
    exact absurd (by simp [h.1]) hw
  | a :: w, b :: n, r, t, hw, hn, h => by
    simp only [List.cons_append, List.cons.injEq] at h
    rw [h.1, same_word (fun hm => hw (List.mem_cons_of_mem _ hm)) (fun hm => hn (List.mem_cons_of_mem _ hm)) h.2]

theorem mem_of_glue {name : List UInt8} (hn : 32 ∉ name) (h0 : name ≠ []) : ∀ {ws : List (List UInt8)} {p q : List UInt8}, (∀ w ∈ ws, 32 ∉ w) → glue ws = p ++ (32 :: (name ++ [32]) ++ q) → name ∈ ws
  | [], p, q, _, h => by
    have hl := congrArg List.length h
    have : 0 < name.length := List.length_pos_iff.2 h0
    simp [glue] at hl
    omega
  | w :: ws, [], q, hws, h => by
    rw [glue_cons] at h
    have h' : w ++ 32 :: (ws.flatMap fun w => w ++ [32]) = name ++ 32 :: q := by simpa [glue] using h
    rw [same_word (hws w (by simp)) hn h']
    simp
  | w :: ws, b :: p, q, hws, h => by
    rw [glue_cons] at h
    have h' : w ++ glue ws = p ++ 32 :: (name ++ [32] ++ q) := by
      simp only [List.cons_append, List.cons.injEq] at h
      exact h.2
    obtain ⟨r, _, h2⟩ := split_blank (hws w (by simp)) h'
    exact List.mem_cons_of_mem _ (mem_of_glue hn h0 (fun w hw => hws w (by simp [hw])) (p := r) (q := q) h2)
theorem glue_of_mem {name : List UInt8} : ∀ {ws : List (List UInt8)}, name ∈ ws → ∃ p q, glue ws = p ++ (32 :: (name ++ [32]) ++ q)
  | w :: ws, h => by
    rcases List.mem_cons.1 h with rfl | h
    · exact ⟨[], ws.flatMap fun w => w ++ [32], by simp [glue]⟩
    · obtain ⟨p, q, e⟩ := glue_of_mem h
      exact ⟨32 :: w ++ p, q, by rw [glue_cons, e]; simp⟩
theorem contains_glue {name : List UInt8} {ws : List (List UInt8)} (hn : 32 ∉ name) (h0 : name ≠ []) (hws : ∀ w ∈ ws, 32 ∉ w) : Lib.contains (glue ws) (32 :: (name ++ [32])) = decide (name ∈ ws) := by
  rw [Bool.eq_iff_iff, contains_iff, decide_eq_true_iff]
  exact ⟨fun ⟨p, q, h⟩ => mem_of_glue hn h0 hws h, glue_of_mem⟩
/-- no blank is in a text: what strings.Contains of one byte says -/
theorem no_blank (l : List UInt8) : (decide (0 ≤ Lib.indexByte l 32) = true) ↔ 32 ∈ l := by
  rw [decide_eq_true_iff]
  have hg := indexByte_ge l 32
  constructor
  · intro h
    have := indexByte_some (l := l) (c := 32) (o := (Lib.indexByte l 32).toNat) (by omega)
    exact List.mem_of_getElem? this.1
  · intro h
    refine Int.not_lt.1 fun hl => ?_
    obtain ⟨k, hk⟩ := List.getElem?_of_mem h
    exact indexByte_none (l := l) (c := 32) (by omega) k hk
end Go.Proofs.YtcnnmlmedbjklaaGreatDoor.PLowerTests
