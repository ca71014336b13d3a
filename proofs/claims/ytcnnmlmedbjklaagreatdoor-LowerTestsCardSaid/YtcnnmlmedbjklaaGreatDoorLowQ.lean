/- The plain law: the program's count of tests is the document's, for every code whose texts and lists have a size that any machine holds. -/
import Derived.Test.YtcnnmlmedbjklaaGreatDoorLow7
import Derived.Test.YtcnnmlmedbjklaaGreatDoorLowB
import Derived.Test.YtcnnmlmedbjklaaGreatDoorWNEv
namespace Go.Proofs.YtcnnmlmedbjklaaGreatDoor.PLowerTests
open Go.RowKit Go.Proofs.YtcnnmlmedbjklaaGreatDoorW.PrintWords Go.Proofs.YtcnnmlmedbjklaaGreatDoorW.PrintLast Go.Proofs.YtcnnmlmedbjklaaGreatDoorW.PrintMore
set_option linter.unusedVariables false
set_option linter.unusedSimpArgs false

def emptyL : List UInt8 := [101, 109, 112, 116, 121]
def errorL : List UInt8 := [101, 114, 114, 111, 114]
def pathL : List UInt8 := [112, 97, 116, 104]
def opsB (op : Int) : Bool := decide (op = 5 ∨ (7 ≤ op ∧ op ≤ 9) ∨ op = 11 ∨ (14 ≤ op ∧ op ≤ 18))
def callB (l : List UInt8) (n : Int) : Bool := if l = emptyL ∨ l = errorL then false else if l = pathL ∧ n = 1 then false else builtinB l n
def faultB (op : Int) (l : List UInt8) (n : Int) : Bool := opsB op || (decide (op = 33) && callB l n)

theorem lower_j1 (k : Nat) (s : ByteArray) (n : Int) (hs : s.size ≤ 140737488351232) (b : Bool) (hb : b = decide (s.toList = emptyL ∨ s.toList = errorL)) : lower_faults.j1 (k + 1) s n s b = some (callB s.toList n) := by
  subst hb
  simp only [lower_faults.j1]
  unfold callB
  by_cases h : s.toList = emptyL ∨ s.toList = errorL
  · rw [if_pos h, if_pos (decide_eq_true h)]
  · rw [if_neg h, if_neg (by rw [decide_eq_false h]; decide)]
    have hf : (scope_Builtin.f s n).bind (fun t => some t) = some (builtinB s.toList n) := by
      unfold scope_Builtin.f
      rw [if_pos hs]
      rfl
    by_cases hp : s.toList = ([112, 97, 116, 104] : List UInt8)
    · rw [if_pos hp]
      by_cases h1 : n = 1
      · rw [if_pos h1, if_pos (show s.toList = pathL ∧ n = 1 from And.intro hp h1)]
      · rw [if_neg h1, if_neg (show ¬ (s.toList = pathL ∧ n = 1) from fun h => h1 h.2)]
        exact hf
    · rw [if_neg hp, if_neg (show ¬ (s.toList = pathL ∧ n = 1) from fun h => hp h.1)]
      exact hf
theorem lower_j0 (k : Nat) (s : ByteArray) (n op : Int) (hs : s.size ≤ 140737488351232) (b : Bool) : lower_faults.j0 (k + 2) s n op b = some (b || (decide (op = 33) && callB s.toList n)) := by
  simp only [lower_faults.j0]
  cases b with
  | true => rfl
  | false =>
    rw [if_neg (by decide)]
    by_cases h : op = 33
    · rw [if_pos h, decide_eq_true h]
      by_cases he : s.toList = ([101, 109, 112, 116, 121] : List UInt8)
      · rw [if_pos he, lower_j1 k s n hs _ (by rw [he]; decide)]
        simp
      · rw [if_neg he, lower_j1 k s n hs _ (by
          unfold emptyL errorL
          simp only [he, false_or]
          by_cases h2 : s.toList = ([101, 114, 114, 111, 114] : List UInt8)
          · rw [decide_eq_true h2, beq_iff_eq.mpr h2]
          · rw [decide_eq_false h2, beq_eq_false_iff_ne.mpr h2])]
        simp
    · rw [if_neg h, decide_eq_false h]
      rfl
theorem lower_faults_eq (k : Nat) (op : Int) (s : ByteArray) (n : Int) (hs : s.size ≤ 140737488351232) : lower_faults.f (k + 2) op s n = some (faultB op s.toList n) := by
  unfold lower_faults.f
  simp only [lower_j0 k s n op hs]
  unfold faultB
  have e : ∀ m : Int, op = m → (op == m) = true := fun m h => beq_iff_eq.mpr h
  have key : ∀ b : Bool, b = opsB op → some (b || (decide (op = 33) && callB s.toList n)) = some (opsB op || (decide (op = 33) && callB s.toList n)) := fun b h => by rw [h]
  have t : ∀ m : Int, op = m → opsB m = true → (op == m) = opsB op := fun m h hm => by rw [e m h, h, hm]
  by_cases h5 : op = 5
  · rw [if_pos h5]; exact key _ (t 5 h5 rfl)
  rw [if_neg h5]
  by_cases h7 : op = 7
  · rw [if_pos h7]; exact key _ (t 7 h7 rfl)
  rw [if_neg h7]
  by_cases h8 : op = 8
  · rw [if_pos h8]; exact key _ (t 8 h8 rfl)
  rw [if_neg h8]
  by_cases h9 : op = 9
  · rw [if_pos h9]; exact key _ (t 9 h9 rfl)
  rw [if_neg h9]
  by_cases h11 : op = 11
  · rw [if_pos h11]; exact key _ (t 11 h11 rfl)
  rw [if_neg h11]
  by_cases h14 : op = 14
  · rw [if_pos h14]; exact key _ (t 14 h14 rfl)
  rw [if_neg h14]
  by_cases h15 : op = 15
  · rw [if_pos h15]; exact key _ (t 15 h15 rfl)
  rw [if_neg h15]
  by_cases h16 : op = 16
  · rw [if_pos h16]; exact key _ (t 16 h16 rfl)
  rw [if_neg h16]
  by_cases h17 : op = 17
  · rw [if_pos h17]; exact key _ (t 17 h17 rfl)
  rw [if_neg h17]
  refine key _ ?_
  by_cases h18 : op = 18
  · exact t 18 h18 rfl
  · rw [beq_eq_false_iff_ne.mpr h18]
    unfold opsB
    exact (decide_eq_false (by omega)).symm

theorem ref_j0 (k : Nat) (s : ByteArray) (n op : Int) (hn : 0 ≤ n) (b : Bool) : hallmarkref30_Faults.j0 (k + 1) op s n b = some (b || (decide (op = 33) && callB s.toList n)) := by
  simp only [hallmarkref30_Faults.j0, ref_builtin, Option.bind_some]
  cases b with
  | true => rfl
  | false =>
    rw [if_neg (by decide)]
    by_cases h : op = 33
    · rw [if_pos h, decide_eq_true h]
      simp only [Bool.false_or, Bool.true_and]
      unfold callB
      by_cases he : s.toList = ([101, 109, 112, 116, 121] : List UInt8)
      · rw [if_pos he, if_pos (show s.toList = emptyL ∨ s.toList = errorL from .inl he)]
        by_cases h0 : n = 0
        · rw [if_pos h0]
        · rw [if_neg h0, if_neg (by rw [he]; decide), if_neg (by rw [he]; decide), he]
          congr 1
          unfold builtinB
          rw [if_neg h0]
          split
          · decide
          · split
            · decide
            · rfl
      · rw [if_neg he]
        by_cases h2 : s.toList = ([101, 114, 114, 111, 114] : List UInt8)
        · rw [if_pos h2, if_pos (show s.toList = emptyL ∨ s.toList = errorL from .inr h2)]
          by_cases h0 : n < 2
          · rw [if_pos h0]
          · rw [if_neg h0, if_neg (by rw [h2]; decide), h2]
            congr 1
            unfold builtinB
            rw [if_neg (by omega), if_neg (by omega)]
            split
            · decide
            · rfl
        · rw [if_neg h2, if_neg (show ¬ (s.toList = emptyL ∨ s.toList = errorL) from fun h => h.elim he h2)]
          by_cases h3 : s.toList = ([112, 97, 116, 104] : List UInt8)
          · rw [if_pos h3]
            by_cases h1 : n = 1
            · rw [if_pos h1, if_pos (show s.toList = pathL ∧ n = 1 from ⟨h3, h1⟩)]
            · rw [if_neg h1, if_neg (show ¬ (s.toList = pathL ∧ n = 1) from fun h => h1 h.2)]
          · rw [if_neg h3, if_neg (show ¬ (s.toList = pathL ∧ n = 1) from fun h => h3 h.1)]
    · rw [if_neg h, decide_eq_false h]
      rfl
theorem ref_faults_eq (k : Nat) (op : Int) (s : ByteArray) (n : Int) (hn : 0 ≤ n) : hallmarkref30_Faults.f (k + 1) op s n = some (faultB op s.toList n) := by
  unfold hallmarkref30_Faults.f
  simp only [ref_j0 k s n op hn]
  unfold faultB
  have key : ∀ b : Bool, b = opsB op → some (b || (decide (op = 33) && callB s.toList n)) = some (opsB op || (decide (op = 33) && callB s.toList n)) := fun b h => by rw [h]
  unfold opsB at key ⊢
  by_cases h5 : op = 5
  · rw [if_pos h5]; exact key _ (decide_eq_true (by omega)).symm
  rw [if_neg h5]
  by_cases h7 : op ≥ 7
  · rw [if_pos h7]
    by_cases h9 : op ≤ 9
    · rw [if_pos h9]; exact key _ (decide_eq_true (by omega)).symm
    rw [if_neg h9]
    by_cases h11 : op = 11
    · rw [if_pos h11]; exact key _ (decide_eq_true (by omega)).symm
    rw [if_neg h11]
    by_cases h14 : op ≥ 14
    · rw [if_pos h14]; exact key _ (decide_eq_decide.2 (by omega))
    · rw [if_neg h14]; exact key _ (decide_eq_false (by omega)).symm
  · rw [if_neg h7]
    by_cases h11 : op = 11
    · rw [if_pos h11]; exact key _ (decide_eq_true (by omega)).symm
    rw [if_neg h11]
    by_cases h14 : op ≥ 14
    · rw [if_pos h14]; exact key _ (decide_eq_decide.2 (by omega))
    · rw [if_neg h14]; exact key _ (decide_eq_false (by omega)).symm

def choosesB (op : Int) : Bool := decide (25 ≤ op ∧ op ≤ 28)
theorem ref_chooses_eq (op : Int) : hallmarkref30_Chooses.f op = some (choosesB op) := by
  unfold hallmarkref30_Chooses.f choosesB
  by_cases h : op ≥ 25
  · rw [if_pos h]; congr 1; exact decide_eq_decide.2 (by omega)
  · rw [if_neg h]; congr 1; exact (decide_eq_false (by omega)).symm
theorem lower_chooses_eq (k : Nat) (op : Int) : lower_chooses.f (k + 5) op = some (choosesB op) := by
  unfold lower_chooses.f slices_Contains_int_int.f slices_Index_int_int.f choosesB
  simp only [slices_Index_int_int.l0]
  by_cases h28 : op = 28
  · subst h28; kernel_rfl
  by_cases h25 : op = 25
  · subst h25; kernel_rfl
  by_cases h26 : op = 26
  · subst h26; kernel_rfl
  by_cases h27 : op = 27
  · subst h27; kernel_rfl
  rw [decide_eq_false (show ¬ (25 ≤ op ∧ op ≤ 28) by omega)]
  have w1 : wrap64 (0 + 1) = 1 := by kernel_rfl
  have w2 : wrap64 (1 + 1) = 2 := by kernel_rfl
  have w3 : wrap64 (2 + 1) = 3 := by kernel_rfl
  have w4 : wrap64 (3 + 1) = 4 := by kernel_rfl
  have r0 : rd [28, 25, 26, 27] 0 = 28 := by kernel_rfl
  have r1 : rd [28, 25, 26, 27] 1 = 25 := by kernel_rfl
  have r2 : rd [28, 25, 26, 27] 2 = 26 := by kernel_rfl
  have r3 : rd [28, 25, 26, 27] 3 = 27 := by kernel_rfl
  simp only [w1, w2, w3, w4, r0, r1, r2, r3, h28, h25, h26, h27, if_false]
  simp
end Go.Proofs.YtcnnmlmedbjklaaGreatDoor.PLowerTests
