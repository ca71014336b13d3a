/- printed by the kit's print, over two contracts of this claim's own -/
import Derived.Test.YtcnnmlmedbjklaaGreatDoorLow0
import Derived.Test.YtcnnmlmedbjklaaGreatDoorLowB
namespace Go.Proofs.YtcnnmlmedbjklaaGreatDoor.PLowerTests
open Go.RowKit Go.Proofs.YtcnnmlmedbjklaaGreatDoorW.PrintWords Go.Proofs.YtcnnmlmedbjklaaGreatDoorW.PrintLast Go.Proofs.YtcnnmlmedbjklaaGreatDoorW.PrintMore
attribute [local go_sem] max2_int min2_int max_two min_two max_three min_three max_four min_four   -- for this text's walks alone
set_option linter.unusedVariables false
set_option linter.unusedSimpArgs false

/-! ### lower_faults: function 9 -/
mutual
def lower_faults.j0 : Nat → ByteArray → Int → Int → Bool → Option (Bool)
  | 0, _, _, _, _ => none
  | k + 1, x1, x2, x7, x8 => if x8 = true then (some true) else (if x7 = 33 then (if x1.toList = ([101, 109, 112, 116, 121] : List UInt8) then (lower_faults.j1 k x1 x2 x1 (x1.toList == ([101, 109, 112, 116, 121] : List UInt8))) else (lower_faults.j1 k x1 x2 x1 (x1.toList == ([101, 114, 114, 111, 114] : List UInt8)))) else (some false))
def lower_faults.j1 : Nat → ByteArray → Int → ByteArray → Bool → Option (Bool)
  | 0, _, _, _, _ => none
  | k + 1, x1, x2, x21, x22 => if x22 = true then (some false) else (if x21.toList = ([112, 97, 116, 104] : List UInt8) then (if x2 = 1 then (some false) else ((scope_Builtin.f x1 x2).bind fun t107 => (some t107))) else ((scope_Builtin.f x1 x2).bind fun t108 => (some t108)))
end
def lower_faults.f (k : Nat) (a0 : Int) (a1 : ByteArray) (a2 : Int) : Option (Bool) := if a0 = 5 then (lower_faults.j0 k a1 a2 a0 (a0 == 5)) else (if a0 = 7 then (lower_faults.j0 k a1 a2 a0 (a0 == 7)) else (if a0 = 8 then (lower_faults.j0 k a1 a2 a0 (a0 == 8)) else (if a0 = 9 then (lower_faults.j0 k a1 a2 a0 (a0 == 9)) else (if a0 = 11 then (lower_faults.j0 k a1 a2 a0 (a0 == 11)) else (if a0 = 14 then (lower_faults.j0 k a1 a2 a0 (a0 == 14)) else (if a0 = 15 then (lower_faults.j0 k a1 a2 a0 (a0 == 15)) else (if a0 = 16 then (lower_faults.j0 k a1 a2 a0 (a0 == 16)) else (if a0 = 17 then (lower_faults.j0 k a1 a2 a0 (a0 == 17)) else (lower_faults.j0 k a1 a2 a0 (a0 == 18))))))))))
theorem lower_faults.mono_l : ∀ k, (∀ y0 y1 y2 y3, LeO (lower_faults.j0 k y0 y1 y2 y3) (lower_faults.j0 (k + 1) y0 y1 y2 y3)) ∧ (∀ y0 y1 y2 y3, LeO (lower_faults.j1 k y0 y1 y2 y3) (lower_faults.j1 (k + 1) y0 y1 y2 y3))
  | 0 => ⟨fun _ _ _ _ r h => by simp [lower_faults.j0] at h, fun _ _ _ _ r h => by simp [lower_faults.j1] at h⟩
  | k + 1 => by
    obtain ⟨ih0, ih1⟩ := lower_faults.mono_l k
    refine ⟨?_, ?_⟩
    · intro y0 y1 y2 y3
      unfold lower_faults.j0
      repeat' first
      | (with_reducible exact ih0 _ _ _ _)
      | (with_reducible exact ih1 _ _ _ _)
      | (with_reducible exact LeO.refl _)
      | (with_reducible exact LeO.none _)
      | (with_reducible refine LeO.ite ?_ ?_)
      | (with_reducible refine LeO.bind ?_ (fun _ => ?_))
      | exact ih0 _ _ _ _
      | exact ih1 _ _ _ _
      | exact LeO.none _
      | refine LeO.ite ?_ ?_
      | refine LeO.bind ?_ (fun _ => ?_)
    · intro y0 y1 y2 y3
      unfold lower_faults.j1
      repeat' first
      | (with_reducible exact ih0 _ _ _ _)
      | (with_reducible exact ih1 _ _ _ _)
      | (with_reducible exact LeO.refl _)
      | (with_reducible exact LeO.none _)
      | (with_reducible refine LeO.ite ?_ ?_)
      | (with_reducible refine LeO.bind ?_ (fun _ => ?_))
      | exact ih0 _ _ _ _
      | exact ih1 _ _ _ _
      | exact LeO.none _
      | refine LeO.ite ?_ ?_
      | refine LeO.bind ?_ (fun _ => ?_)
theorem lower_faults.mono : ∀ a0 a1 a2 k, LeO (lower_faults.f k a0 a1 a2) (lower_faults.f (k + 1) a0 a1 a2) := by
  intro a0 a1 a2 k
  obtain ⟨ih0, ih1⟩ := lower_faults.mono_l k
  unfold lower_faults.f
  repeat' first
      | (with_reducible exact ih0 _ _ _ _)
      | (with_reducible exact ih1 _ _ _ _)
      | (with_reducible exact LeO.refl _)
      | (with_reducible exact LeO.none _)
      | (with_reducible refine LeO.ite ?_ ?_)
      | (with_reducible refine LeO.bind ?_ (fun _ => ?_))
      | exact ih0 _ _ _ _
      | exact ih1 _ _ _ _
      | exact LeO.none _
      | refine LeO.ite ?_ ?_
      | refine LeO.bind ?_ (fun _ => ?_)
set_option maxHeartbeats 8000000 in
set_option maxRecDepth 100000 in
theorem lower_faults.calls (k : Nat) (a0 : Int) (a1 : ByteArray) (a2 : Int) (r : Bool) (w : World) (hM : MaxAt w) (h : lower_faults.f k a0 a1 a2 = some r) :
    Calls Tryz.prog 9 #[.int .i64 a0, .string a1, .int .i64 a2] w fun e w' => e = .returned (.bool r) ∧ Drawn0 w w' := by
  have HMX := Aside0.mk hM
  clear hM
  have H : (if a0 = 5 then (lower_faults.j0 k a1 a2 a0 (a0 == 5)) else (if a0 = 7 then (lower_faults.j0 k a1 a2 a0 (a0 == 7)) else (if a0 = 8 then (lower_faults.j0 k a1 a2 a0 (a0 == 8)) else (if a0 = 9 then (lower_faults.j0 k a1 a2 a0 (a0 == 9)) else (if a0 = 11 then (lower_faults.j0 k a1 a2 a0 (a0 == 11)) else (if a0 = 14 then (lower_faults.j0 k a1 a2 a0 (a0 == 14)) else (if a0 = 15 then (lower_faults.j0 k a1 a2 a0 (a0 == 15)) else (if a0 = 16 then (lower_faults.j0 k a1 a2 a0 (a0 == 16)) else (if a0 = 17 then (lower_faults.j0 k a1 a2 a0 (a0 == 17)) else (lower_faults.j0 k a1 a2 a0 (a0 == 18))))))))))) = some r := h
  clear h
  have HC4 := Aside0.mk H
  clear H
  go_enter Tryz.func9, Tryz.ntmps9
  go_upto_if 8 with (fail)
  go_cut [8] (fun v8 wc => ∃ (kq : Nat) (x8_3 : Bool), v8 = .bool x8_3 ∧ Aside0 (lower_faults.j0 kq a1 a2 a0 x8_3 = some r) ∧ Aside0 (kq ≤ k) ∧ Drawn0 w wc)
  case first =>
    have H := HC4.out
    clear HC4
    by_cases c5 : a0 = 5
    · rw [if_pos c5] at H
      have c5b0 : (a0 == 5) = true := beq_iff_eq.mpr c5
      have c5b1 : (a0 != 5) = false := bne_eq_false_iff_eq.mpr c5
      clear c5
      (first | rw [c5b0] | (simp only [i64_w, i32_w]; rw [c5b0]) | skip)
      have H' := Aside0.mk H
      clear H
      go_wp2
      go_meet
      case rel => exact ⟨_, ((a0 == 5)), (by first | rfl | (simp; done) | (simp [*]; done)), H', ⟨by first | omega | exact Nat.le_refl _⟩, by repeat (first | exact Drawn0.refl _ | apply Drawn0.step)⟩
    · rw [if_neg c5] at H
      have c5b0 : (a0 == 5) = false := beq_eq_false_iff_ne.mpr c5
      have c5b1 : (a0 != 5) = true := bne_iff_ne.mpr c5
      (first | rw [c5b0] | (simp only [i64_w, i32_w]; rw [c5b0]) | skip)
      by_cases c6 : a0 = 7
      · rw [if_pos c6] at H
        have c6b0 : (a0 == 7) = true := beq_iff_eq.mpr c6
        have c6b1 : (a0 != 7) = false := bne_eq_false_iff_eq.mpr c6
        clear c6
        have H' := Aside0.mk H
        clear H
        go_wp2
        go_meet
        case rel => exact ⟨_, ((a0 == 7)), (by first | rfl | (simp; done) | (simp [*]; done)), H', ⟨by first | omega | exact Nat.le_refl _⟩, by repeat (first | exact Drawn0.refl _ | apply Drawn0.step)⟩
      · rw [if_neg c6] at H
        have c6b0 : (a0 == 7) = false := beq_eq_false_iff_ne.mpr c6
        have c6b1 : (a0 != 7) = true := bne_iff_ne.mpr c6
        by_cases c7 : a0 = 8
        · rw [if_pos c7] at H
          have c7b0 : (a0 == 8) = true := beq_iff_eq.mpr c7
          have c7b1 : (a0 != 8) = false := bne_eq_false_iff_eq.mpr c7
          clear c7
          have H' := Aside0.mk H
          clear H
          go_wp2
          go_meet
          case rel => exact ⟨_, ((a0 == 8)), (by first | rfl | (simp; done) | (simp [*]; done)), H', ⟨by first | omega | exact Nat.le_refl _⟩, by repeat (first | exact Drawn0.refl _ | apply Drawn0.step)⟩
        · rw [if_neg c7] at H
          have c7b0 : (a0 == 8) = false := beq_eq_false_iff_ne.mpr c7
          have c7b1 : (a0 != 8) = true := bne_iff_ne.mpr c7
          by_cases c8 : a0 = 9
          · rw [if_pos c8] at H
            have c8b0 : (a0 == 9) = true := beq_iff_eq.mpr c8
            have c8b1 : (a0 != 9) = false := bne_eq_false_iff_eq.mpr c8
            clear c8
            have H' := Aside0.mk H
            clear H
            go_wp2
            go_meet
            case rel => exact ⟨_, ((a0 == 9)), (by first | rfl | (simp; done) | (simp [*]; done)), H', ⟨by first | omega | exact Nat.le_refl _⟩, by repeat (first | exact Drawn0.refl _ | apply Drawn0.step)⟩
          · rw [if_neg c8] at H
            have c8b0 : (a0 == 9) = false := beq_eq_false_iff_ne.mpr c8
            have c8b1 : (a0 != 9) = true := bne_iff_ne.mpr c8
            by_cases c9 : a0 = 11
            · rw [if_pos c9] at H
              have c9b0 : (a0 == 11) = true := beq_iff_eq.mpr c9
              have c9b1 : (a0 != 11) = false := bne_eq_false_iff_eq.mpr c9
              clear c9
              have H' := Aside0.mk H
              clear H
              go_wp2
              go_meet
              case rel => exact ⟨_, ((a0 == 11)), (by first | rfl | (simp; done) | (simp [*]; done)), H', ⟨by first | omega | exact Nat.le_refl _⟩, by repeat (first | exact Drawn0.refl _ | apply Drawn0.step)⟩
            · rw [if_neg c9] at H
              have c9b0 : (a0 == 11) = false := beq_eq_false_iff_ne.mpr c9
              have c9b1 : (a0 != 11) = true := bne_iff_ne.mpr c9
              by_cases c10 : a0 = 14
              · rw [if_pos c10] at H
                have c10b0 : (a0 == 14) = true := beq_iff_eq.mpr c10
                have c10b1 : (a0 != 14) = false := bne_eq_false_iff_eq.mpr c10
                clear c10
                have H' := Aside0.mk H
                clear H
                go_wp2
                go_meet
                case rel => exact ⟨_, ((a0 == 14)), (by first | rfl | (simp; done) | (simp [*]; done)), H', ⟨by first | omega | exact Nat.le_refl _⟩, by repeat (first | exact Drawn0.refl _ | apply Drawn0.step)⟩
              · rw [if_neg c10] at H
                have c10b0 : (a0 == 14) = false := beq_eq_false_iff_ne.mpr c10
                have c10b1 : (a0 != 14) = true := bne_iff_ne.mpr c10
                by_cases c11 : a0 = 15
                · rw [if_pos c11] at H
                  have c11b0 : (a0 == 15) = true := beq_iff_eq.mpr c11
                  have c11b1 : (a0 != 15) = false := bne_eq_false_iff_eq.mpr c11
                  clear c11
                  have H' := Aside0.mk H
                  clear H
                  go_wp2
                  go_meet
                  case rel => exact ⟨_, ((a0 == 15)), (by first | rfl | (simp; done) | (simp [*]; done)), H', ⟨by first | omega | exact Nat.le_refl _⟩, by repeat (first | exact Drawn0.refl _ | apply Drawn0.step)⟩
                · rw [if_neg c11] at H
                  have c11b0 : (a0 == 15) = false := beq_eq_false_iff_ne.mpr c11
                  have c11b1 : (a0 != 15) = true := bne_iff_ne.mpr c11
                  by_cases c12 : a0 = 16
                  · rw [if_pos c12] at H
                    have c12b0 : (a0 == 16) = true := beq_iff_eq.mpr c12
                    have c12b1 : (a0 != 16) = false := bne_eq_false_iff_eq.mpr c12
                    clear c12
                    have H' := Aside0.mk H
                    clear H
                    go_wp2
                    go_meet
                    case rel => exact ⟨_, ((a0 == 16)), (by first | rfl | (simp; done) | (simp [*]; done)), H', ⟨by first | omega | exact Nat.le_refl _⟩, by repeat (first | exact Drawn0.refl _ | apply Drawn0.step)⟩
                  · rw [if_neg c12] at H
                    have c12b0 : (a0 == 16) = false := beq_eq_false_iff_ne.mpr c12
                    have c12b1 : (a0 != 16) = true := bne_iff_ne.mpr c12
                    by_cases c13 : a0 = 17
                    · rw [if_pos c13] at H
                      have c13b0 : (a0 == 17) = true := beq_iff_eq.mpr c13
                      have c13b1 : (a0 != 17) = false := bne_eq_false_iff_eq.mpr c13
                      clear c13
                      have H' := Aside0.mk H
                      clear H
                      go_wp2
                      go_meet
                      case rel => exact ⟨_, ((a0 == 17)), (by first | rfl | (simp; done) | (simp [*]; done)), H', ⟨by first | omega | exact Nat.le_refl _⟩, by repeat (first | exact Drawn0.refl _ | apply Drawn0.step)⟩
                    · rw [if_neg c13] at H
                      have c13b0 : (a0 == 17) = false := beq_eq_false_iff_ne.mpr c13
                      have c13b1 : (a0 != 17) = true := bne_iff_ne.mpr c13
                      have H' := Aside0.mk H
                      clear H
                      go_wp2
                      go_meet
                      case rel => exact ⟨_, ((a0 == 18)), (by first | rfl | (simp; done) | (simp [*]; done)), H', ⟨by first | omega | exact Nat.le_refl _⟩, by repeat (first | exact Drawn0.refl _ | apply Drawn0.step)⟩
  case rest =>
    clear HC4
    try clear c1
    try clear p2
    try clear c5
    try clear c5b0
    try clear c5b1
    try clear c6
    try clear c6b0
    try clear c6b1
    try clear c7
    try clear c7b0
    try clear c7b1
    try clear c8
    try clear c8b0
    try clear c8b1
    try clear c9
    try clear c9b0
    try clear c9b1
    try clear c10
    try clear c10b0
    try clear c10b1
    try clear c11
    try clear c11b0
    try clear c11b1
    try clear c12
    try clear c12b0
    try clear c12b1
    try clear c13
    try clear c13b0
    try clear c13b1
    obtain ⟨kq, x8_3, rfl, HA, HJ3, ⟨mc3, rfl⟩⟩ := hcut
    cases kq with
    | zero => exact absurd HA.out (by simp [lower_faults.j0])
    | succ kj3 =>
      have H := HA.out
      clear HA
      simp only [lower_faults.j0] at H
      by_cases c14 : x8_3 = true
      · subst c14
        have H1 : (some true) = some r := by rw [if_pos rfl] at H; exact H
        clear H
        have H := H1
        clear H1
        obtain rfl := Option.some.inj H
        go_wp2
        go_ret
        exact ⟨by first | rfl | (simp; done) | (simp [*]; done), by repeat (first | exact Drawn0.refl _ | apply Drawn0.step)⟩
      · replace c14 := Bool.eq_false_iff.mpr c14
        subst c14
        have H1 : (if a0 = 33 then (if a1.toList = ([101, 109, 112, 116, 121] : List UInt8) then (lower_faults.j1 kj3 a1 a2 a1 (a1.toList == ([101, 109, 112, 116, 121] : List UInt8))) else (lower_faults.j1 kj3 a1 a2 a1 (a1.toList == ([101, 114, 114, 111, 114] : List UInt8)))) else (some false)) = some r := by rw [if_neg (show ¬ (false = true) by decide)] at H; exact H
        clear H
        have H := H1
        clear H1
        by_cases c15 : a0 = 33
        · rw [if_pos c15] at H
          have c15b0 : (a0 == 33) = true := beq_iff_eq.mpr c15
          have c15b1 : (a0 != 33) = false := bne_eq_false_iff_eq.mpr c15
          clear c15
          have HC16 := Aside0.mk H
          clear H
          go_upto_if 22 with (fail)
          go_cut [22] (fun v22 wc => ∃ (kq : Nat) (x22_15 : Bool), v22 = .bool x22_15 ∧ Aside0 (lower_faults.j1 kq a1 a2 a1 x22_15 = some r) ∧ Aside0 (kq ≤ kj3) ∧ Drawn0 w wc)
          case first =>
            have H := HC16.out
            clear HC16
            by_cases c17 : a1.toList = ([101, 109, 112, 116, 121] : List UInt8)
            · rw [if_pos c17] at H
              have c17b0 : (a1.toList == ([101, 109, 112, 116, 121] : List UInt8)) = true := beq_iff_eq.mpr c17
              have c17b1 : (a1.toList != ([101, 109, 112, 116, 121] : List UInt8)) = false := bne_eq_false_iff_eq.mpr c17
              clear c17
              (first | rw [c17b0] | (simp only [i64_w, i32_w]; rw [c17b0]) | skip)
              have H' := Aside0.mk H
              clear H
              go_wp2
              go_meet
              case rel => exact ⟨_, ((a1.toList == ([101, 109, 112, 116, 121] : List UInt8))), (by first | rfl | (simp; done) | (simp [*]; done)), H', ⟨by have := HJ3.out; first | omega | exact Nat.le_refl _⟩, by repeat (first | exact Drawn0.refl _ | apply Drawn0.step)⟩
            · rw [if_neg c17] at H
              have c17b0 : (a1.toList == ([101, 109, 112, 116, 121] : List UInt8)) = false := beq_eq_false_iff_ne.mpr c17
              have c17b1 : (a1.toList != ([101, 109, 112, 116, 121] : List UInt8)) = true := bne_iff_ne.mpr c17
              (first | rw [c17b0] | (simp only [i64_w, i32_w]; rw [c17b0]) | skip)
              have H' := Aside0.mk H
              clear H
              go_wp2
              go_meet
              case rel => exact ⟨_, ((a1.toList == ([101, 114, 114, 111, 114] : List UInt8))), (by first | rfl | (simp; done) | (simp [*]; done)), H', ⟨by have := HJ3.out; first | omega | exact Nat.le_refl _⟩, by repeat (first | exact Drawn0.refl _ | apply Drawn0.step)⟩
          case rest =>
            clear HC16
            try clear c1
            try clear p2
            try clear c3
            try clear c5
            try clear c5b0
            try clear c5b1
            try clear c6
            try clear c6b0
            try clear c6b1
            try clear c7
            try clear c7b0
            try clear c7b1
            try clear c8
            try clear c8b0
            try clear c8b1
            try clear c9
            try clear c9b0
            try clear c9b1
            try clear c10
            try clear c10b0
            try clear c10b1
            try clear c11
            try clear c11b0
            try clear c11b1
            try clear c12
            try clear c12b0
            try clear c12b1
            try clear c13
            try clear c13b0
            try clear c13b1
            try clear c14
            try clear c15
            try clear c15b0
            try clear c15b1
            try clear c17
            try clear c17b0
            try clear c17b1
            try clear p2
            obtain ⟨kq, x22_15, rfl, HA, HJ15, ⟨mc15, rfl⟩⟩ := hcut
            cases kq with
            | zero => exact absurd HA.out (by simp [lower_faults.j1])
            | succ kj15 =>
              have H := HA.out
              clear HA
              simp only [lower_faults.j1] at H
              by_cases c18 : x22_15 = true
              · subst c18
                have H1 : (some false) = some r := by rw [if_pos rfl] at H; exact H
                clear H
                have H := H1
                clear H1
                obtain rfl := Option.some.inj H
                go_wp2
                go_ret
                exact ⟨by first | rfl | (simp; done) | (simp [*]; done), by repeat (first | exact Drawn0.refl _ | apply Drawn0.step)⟩
              · replace c18 := Bool.eq_false_iff.mpr c18
                subst c18
                have H1 : (if a1.toList = ([112, 97, 116, 104] : List UInt8) then (if a2 = 1 then (some false) else ((scope_Builtin.f a1 a2).bind fun t107 => (some t107))) else ((scope_Builtin.f a1 a2).bind fun t108 => (some t108))) = some r := by rw [if_neg (show ¬ (false = true) by decide)] at H; exact H
                clear H
                have H := H1
                clear H1
                by_cases c19 : a1.toList = ([112, 97, 116, 104] : List UInt8)
                · rw [if_pos c19] at H
                  have c19b0 : (a1.toList == ([112, 97, 116, 104] : List UInt8)) = true := beq_iff_eq.mpr c19
                  have c19b1 : (a1.toList != ([112, 97, 116, 104] : List UInt8)) = false := bne_eq_false_iff_eq.mpr c19
                  clear c19
                  by_cases c20 : a2 = 1
                  · rw [if_pos c20] at H
                    have c20b0 : (a2 == 1) = true := beq_iff_eq.mpr c20
                    have c20b1 : (a2 != 1) = false := bne_eq_false_iff_eq.mpr c20
                    clear c20
                    obtain rfl := Option.some.inj H
                    go_wp2
                    go_ret
                    exact ⟨by first | rfl | (simp; done) | (simp [*]; done), by repeat (first | exact Drawn0.refl _ | apply Drawn0.step)⟩
                  · rw [if_neg c20] at H
                    have c20b0 : (a2 == 1) = false := beq_eq_false_iff_ne.mpr c20
                    have c20b1 : (a2 != 1) = true := bne_iff_ne.mpr c20
                    replace H := Option.bind_eq_some_iff.mp H
                    obtain ⟨t107, A210, H⟩ := H
                    replace H : (some t107) = some r := H
                    have A21 := Aside0.mk A210
                    clear A210
                    obtain rfl := Option.some.inj H
                    go_wp2_with (first | (go_at_call 18; (with_reducible refine (scope_Builtin.calls a1 a2 t107 _ (by repeat (first | exact HMX.out | apply maxAt_drewN | apply maxAt_drew1 | apply maxAt_alloc)) A21.out).mono ?_); rintro e w' ⟨rfl, ⟨nd, rfl⟩⟩))
                    go_ret
                    exact ⟨by first | rfl | (simp; done) | (simp [*]; done), by repeat (first | exact Drawn0.refl _ | apply Drawn0.step)⟩
                · rw [if_neg c19] at H
                  have c19b0 : (a1.toList == ([112, 97, 116, 104] : List UInt8)) = false := beq_eq_false_iff_ne.mpr c19
                  have c19b1 : (a1.toList != ([112, 97, 116, 104] : List UInt8)) = true := bne_iff_ne.mpr c19
                  replace H := Option.bind_eq_some_iff.mp H
                  obtain ⟨t108, A220, H⟩ := H
                  replace H : (some t108) = some r := H
                  have A22 := Aside0.mk A220
                  clear A220
                  obtain rfl := Option.some.inj H
                  go_wp2_with (first | ((with_reducible refine gate_callee (f := 18) rfl ?_); refine goesL_ (some 36) rfl rfl Tryz.func18 (by kernel_rfl) rfl #[.string a1, .int .i64 a2] rfl (by (try simp only [List.map_toArray, List.map_cons, List.map_nil]); first | done | rfl | (simp only [List.length_drop, List.length_take]; rfl)) ?_; (with_reducible refine (scope_Builtin.calls a1 a2 t108 _ (by repeat (first | exact HMX.out | apply maxAt_drewN | apply maxAt_drew1 | apply maxAt_alloc)) A22.out).mono ?_); rintro e w' ⟨rfl, ⟨nd, rfl⟩⟩; refine ⟨_, rfl, ?_⟩))
                  go_ret
                  exact ⟨by first | rfl | (simp; done) | (simp [*]; done), by repeat (first | exact Drawn0.refl _ | apply Drawn0.step)⟩
        · rw [if_neg c15] at H
          have c15b0 : (a0 == 33) = false := beq_eq_false_iff_ne.mpr c15
          have c15b1 : (a0 != 33) = true := bne_iff_ne.mpr c15
          obtain rfl := Option.some.inj H
          go_wp2
          go_ret
          exact ⟨by first | rfl | (simp; done) | (simp [*]; done), by repeat (first | exact Drawn0.refl _ | apply Drawn0.step)⟩

end Go.Proofs.YtcnnmlmedbjklaaGreatDoor.PLowerTests
