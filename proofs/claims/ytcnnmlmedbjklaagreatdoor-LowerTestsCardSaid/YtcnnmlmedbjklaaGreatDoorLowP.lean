/- scope.plain and scope.Builtin, walked. -/
import Derived.Test.YtcnnmlmedbjklaaGreatDoorLow0
import Derived.Test.YtcnnmlmedbjklaaGreatDoorLowA
import Derived.Test.YtcnnmlmedbjklaaGreatDoorLowS
import Derived.Test.YtcnnmlmedbjklaaGreatDoorLowC
namespace Go.Proofs.YtcnnmlmedbjklaaGreatDoor.PLowerTests
open Go.RowKit Go.Proofs.YtcnnmlmedbjklaaGreatDoorW.PrintWords Go.Proofs.YtcnnmlmedbjklaaGreatDoorW.PrintLast Go.Proofs.YtcnnmlmedbjklaaGreatDoorW.PrintMore
set_option maxHeartbeats 8000000 in
set_option maxRecDepth 100000 in
theorem plain_calls (s : ByteArray) (w : World) :
    Calls Tryz.prog 38 #[.string s] w fun e w' => e = .returned (.bool (!(s.toList == ([] : List UInt8)) && !(decide (0 ≤ Lib.indexByte s.data.toList 32)))) ∧ w' = w := by
  by_cases c : s.toList = ([] : List UInt8)
  · have c1 : (s.toList == ([] : List UInt8)) = true := beq_iff_eq.mpr c
    have c2 : (s.toList != ([] : List UInt8)) = false := bne_eq_false_iff_eq.mpr c
    go_enter Tryz.func38, Tryz.ntmps38
    go_wp2
    go_ret
    exact ⟨by rw [c1]; rfl, rfl⟩
  · have c1 : (s.toList == ([] : List UInt8)) = false := beq_eq_false_iff_ne.mpr c
    have c2 : (s.toList != ([] : List UInt8)) = true := bne_iff_ne.mpr c
    go_enter Tryz.func38, Tryz.ntmps38
    go_wp2_with (first | (go_at_call 39; refine (contains_one_calls s 32 _).mono ?_; rintro e w' ⟨rfl, rfl⟩))
    go_ret
    exact ⟨by rw [c1]; rfl, rfl⟩
def noneW : List (List UInt8) := [[101, 109, 112, 116, 121], [101, 114, 114, 111, 114], [108, 101, 110, 103, 116, 104], [117, 116, 102, 56, 98, 121, 116, 101, 108, 101, 110, 103, 116, 104], [110, 111, 116], [107, 101, 121, 115], [116, 121, 112, 101], [116, 111, 115, 116, 114, 105, 110, 103], [116, 111, 110, 117, 109, 98, 101, 114], [116, 111, 106, 115, 111, 110], [102, 114, 111, 109, 106, 115, 111, 110], [97, 115, 99, 105, 105, 95, 100, 111, 119, 110, 99, 97, 115, 101], [97, 115, 99, 105, 105, 95, 117, 112, 99, 97, 115, 101], [101, 120, 112, 108, 111, 100, 101], [105, 109, 112, 108, 111, 100, 101], [114, 101, 118, 101, 114, 115, 101], [115, 111, 114, 116], [109, 105, 110], [109, 97, 120], [117, 110, 105, 113, 117, 101], [97, 100, 100], [102, 108, 97, 116, 116, 101, 110], [116, 114, 97, 110, 115, 112, 111, 115, 101], [97, 98, 115], [116, 111, 97, 114, 114, 97, 121]]
def oneW : List (List UInt8) := [[101, 114, 114, 111, 114], [112, 97, 116, 104], [104, 97, 115], [99, 111, 110, 116, 97, 105, 110, 115], [115, 116, 97, 114, 116, 115, 119, 105, 116, 104], [101, 110, 100, 115, 119, 105, 116, 104], [108, 116, 114, 105, 109, 115, 116, 114], [114, 116, 114, 105, 109, 115, 116, 114], [115, 112, 108, 105, 116], [106, 111, 105, 110], [105, 110, 100, 105, 99, 101, 115], [95, 115, 111, 114, 116, 95, 98, 121], [95, 103, 114, 111, 117, 112, 95, 98, 121], [95, 117, 110, 105, 113, 117, 101, 95, 98, 121], [95, 109, 105, 110, 95, 98, 121], [95, 109, 97, 120, 95, 98, 121], [103, 101, 116, 112, 97, 116, 104], [100, 101, 108, 112, 97, 116, 104, 115]]
def twoW : List (List UInt8) := [[114, 97, 110, 103, 101], [115, 101, 116, 112, 97, 116, 104]]

/-- is there something built in of that name, with so many arguments? -/
def builtinB (l : List UInt8) (n : Int) : Bool := if n = 0 then decide (l ∈ noneW) else if n = 1 then decide (l ∈ oneW) else if n = 2 then decide (l ∈ twoW) else false

theorem words_clean : ∀ l ∈ noneW ++ oneW ++ twoW, l ≠ [] ∧ 32 ∉ l := by decide
theorem builtin_plain {s : ByteArray} {n : Int} (hp : (!(s.toList == ([] : List UInt8)) && !(decide (0 ≤ Lib.indexByte s.data.toList 32))) = false) : builtinB s.toList n = false := by
  have hno : ¬ (s.toList ≠ [] ∧ 32 ∉ s.toList) := by
    rintro ⟨h1, h2⟩
    rw [ByteArray.toList_eq] at h1 h2
    have h3 : decide (0 ≤ Lib.indexByte s.data.toList 32) = false := by
      cases hd : decide (0 ≤ Lib.indexByte s.data.toList 32) with
      | false => rfl
      | true => exact absurd ((no_blank _).1 hd) h2
    rw [h3, ByteArray.toList_eq, beq_eq_false_iff_ne.mpr h1] at hp
    cases hp
  have h0 : s.toList ∉ noneW := fun h => hno (words_clean _ (by simp [h]))
  have h1 : s.toList ∉ oneW := fun h => hno (words_clean _ (by simp [h]))
  have h2 : s.toList ∉ twoW := fun h => hno (words_clean _ (by simp [h]))
  unfold builtinB
  rw [decide_eq_false h0, decide_eq_false h1, decide_eq_false h2]
  split
  · rfl
  split
  · rfl
  split <;> rfl
theorem plain_parts {s : ByteArray} (hp : (!(s.toList == ([] : List UInt8)) && !(decide (0 ≤ Lib.indexByte s.data.toList 32))) = true) : s.data.toList ≠ [] ∧ 32 ∉ s.data.toList := by
  rw [Bool.and_eq_true, Bool.not_eq_true', Bool.not_eq_true', ByteArray.toList_eq] at hp
  refine ⟨beq_eq_false_iff_ne.1 hp.1, fun h => ?_⟩
  have := (no_blank s.data.toList).2 h
  rw [hp.2] at this
  cases this
theorem blanks (s : ByteArray) : ((⟨#[32]⟩ : ByteArray) ++ s ++ (⟨#[32]⟩ : ByteArray)).data.toList = 32 :: (s.data.toList ++ [32]) := by simp
theorem contains_none {s : ByteArray} (hp : s.data.toList ≠ [] ∧ 32 ∉ s.data.toList) : Lib.contains (glue noneW) (((⟨#[32]⟩ : ByteArray) ++ s ++ (⟨#[32]⟩ : ByteArray)).data.toList) = decide (s.toList ∈ noneW) := by
  rw [blanks, contains_glue hp.2 hp.1 (fun w hw => (words_clean w (by simp [hw])).2), ByteArray.toList_eq]
theorem contains_one {s : ByteArray} (hp : s.data.toList ≠ [] ∧ 32 ∉ s.data.toList) : Lib.contains (glue oneW) (((⟨#[32]⟩ : ByteArray) ++ s ++ (⟨#[32]⟩ : ByteArray)).data.toList) = decide (s.toList ∈ oneW) := by
  rw [blanks, contains_glue hp.2 hp.1 (fun w hw => (words_clean w (by simp [hw])).2), ByteArray.toList_eq]
theorem contains_two {s : ByteArray} (hp : s.data.toList ≠ [] ∧ 32 ∉ s.data.toList) : Lib.contains (glue twoW) (((⟨#[32]⟩ : ByteArray) ++ s ++ (⟨#[32]⟩ : ByteArray)).data.toList) = decide (s.toList ∈ twoW) := by
  rw [blanks, contains_glue hp.2 hp.1 (fun w hw => (words_clean w (by simp [hw])).2), ByteArray.toList_eq]

set_option maxHeartbeats 8000000 in
set_option maxRecDepth 100000 in
theorem builtin_calls (s : ByteArray) (n : Int) (w : World) (hs : s.size ≤ 140737488351232) (hM : MaxAt w) :
    Calls Tryz.prog 18 #[.string s, .int .i64 n] w fun e w' => e = .returned (.bool (builtinB s.toList n)) ∧ w' = w := by
  obtain ⟨m, hm⟩ := hM
  cases hp : (!(s.toList == ([] : List UInt8)) && !(decide (0 ≤ Lib.indexByte s.data.toList 32))) with
  | false =>
    go_enter Tryz.func18, Tryz.ntmps18
    go_wp2_with (first | (go_at_call 38; refine (plain_calls s _).mono ?_; rintro e w' ⟨rfl, rfl⟩; rw [hp]))
    go_ret
    exact ⟨by rw [builtin_plain hp]; rfl, rfl⟩
  | true =>
    have hq := plain_parts hp
    by_cases c0 : n = 0
    · have c01 : (n == 0) = true := beq_iff_eq.mpr c0
      have hv : builtinB s.toList n = decide (s.toList ∈ noneW) := if_pos c0
      rw [hv, ← contains_none hq]
      clear hv
      go_enter Tryz.func18, Tryz.ntmps18
      go_wp2_with (first | (go_at_call 38; refine (plain_calls s _).mono ?_; rintro e w' ⟨rfl, rfl⟩; rw [hp]) | (go_at_call 39; refine (contains_calls _ _ m _ (by decide) hm).mono ?_; rintro e w' ⟨rfl, rfl⟩))
      go_ret
      exact ⟨rfl, rfl⟩
    · have c01 : (n == 0) = false := beq_eq_false_iff_ne.mpr c0
      by_cases c1 : n = 1
      · have c11 : (n == 1) = true := beq_iff_eq.mpr c1
        have hv : builtinB s.toList n = decide (s.toList ∈ oneW) := (if_neg c0).trans (if_pos c1)
        rw [hv, ← contains_one hq]
        clear hv
        go_enter Tryz.func18, Tryz.ntmps18
        go_wp2_with (first | (go_at_call 38; refine (plain_calls s _).mono ?_; rintro e w' ⟨rfl, rfl⟩; rw [hp]) | (go_at_call 39; refine (contains_calls _ _ m _ (by decide) hm).mono ?_; rintro e w' ⟨rfl, rfl⟩))
        go_ret
        exact ⟨rfl, rfl⟩
      · have c11 : (n == 1) = false := beq_eq_false_iff_ne.mpr c1
        by_cases c2 : n = 2
        · have c21 : (n == 2) = true := beq_iff_eq.mpr c2
          have hv : builtinB s.toList n = decide (s.toList ∈ twoW) := (if_neg c0).trans ((if_neg c1).trans (if_pos c2))
          rw [hv, ← contains_two hq]
          clear hv
          go_enter Tryz.func18, Tryz.ntmps18
          go_wp2_with (first | (go_at_call 38; refine (plain_calls s _).mono ?_; rintro e w' ⟨rfl, rfl⟩; rw [hp]) | (go_at_call 39; refine (contains_calls _ _ m _ (by decide) hm).mono ?_; rintro e w' ⟨rfl, rfl⟩))
          go_ret
          exact ⟨rfl, rfl⟩
        · have c21 : (n == 2) = false := beq_eq_false_iff_ne.mpr c2
          have hv : builtinB s.toList n = false := (if_neg c0).trans ((if_neg c1).trans (if_neg c2))
          rw [hv]
          go_enter Tryz.func18, Tryz.ntmps18
          go_wp2_with (first | (go_at_call 38; refine (plain_calls s _).mono ?_; rintro e w' ⟨rfl, rfl⟩; rw [hp]))
          go_ret
          exact ⟨rfl, rfl⟩
end Go.Proofs.YtcnnmlmedbjklaaGreatDoor.PLowerTests
