/- printed by the kit's print, over two contracts of this claim's own -/
import Derived.Test.YtcnnmlmedbjklaaGreatDoorLow0
import Derived.Test.YtcnnmlmedbjklaaGreatDoorLow4
namespace Go.Proofs.YtcnnmlmedbjklaaGreatDoor.PLowerTests
open Go.RowKit Go.Proofs.YtcnnmlmedbjklaaGreatDoorW.PrintWords Go.Proofs.YtcnnmlmedbjklaaGreatDoorW.PrintLast Go.Proofs.YtcnnmlmedbjklaaGreatDoorW.PrintMore
attribute [local go_sem] max2_int min2_int max_two min_two max_three min_three max_four min_four   -- for this text's walks alone
set_option linter.unusedVariables false
set_option linter.unusedSimpArgs false

/-! ### hallmarkref30_Faults: function 11 -/
def hallmarkref30_Faults.j0 : Nat → Int → ByteArray → Int → Bool → Option (Bool)
  | 0, _, _, _, _ => none
  | k + 1, x0, x1, x2, x28 => if x28 = true then (some true) else (if x0 = 33 then (if x1.toList = ([101, 109, 112, 116, 121] : List UInt8) then (if x2 = 0 then (some false) else (if x1.toList = ([101, 114, 114, 111, 114] : List UInt8) then (if x2 < 2 then (some false) else (if x1.toList = ([112, 97, 116, 104] : List UInt8) then (if x2 = 1 then (some false) else ((hallmarkref19_Builtin.f x1 x2).bind fun t122 => (some t122))) else ((hallmarkref19_Builtin.f x1 x2).bind fun t123 => (some t123)))) else (if x1.toList = ([112, 97, 116, 104] : List UInt8) then (if x2 = 1 then (some false) else ((hallmarkref19_Builtin.f x1 x2).bind fun t124 => (some t124))) else ((hallmarkref19_Builtin.f x1 x2).bind fun t125 => (some t125))))) else (if x1.toList = ([101, 114, 114, 111, 114] : List UInt8) then (if x2 < 2 then (some false) else (if x1.toList = ([112, 97, 116, 104] : List UInt8) then (if x2 = 1 then (some false) else ((hallmarkref19_Builtin.f x1 x2).bind fun t126 => (some t126))) else ((hallmarkref19_Builtin.f x1 x2).bind fun t127 => (some t127)))) else (if x1.toList = ([112, 97, 116, 104] : List UInt8) then (if x2 = 1 then (some false) else ((hallmarkref19_Builtin.f x1 x2).bind fun t128 => (some t128))) else ((hallmarkref19_Builtin.f x1 x2).bind fun t129 => (some t129))))) else (some false))
def hallmarkref30_Faults.f (k : Nat) (a0 : Int) (a1 : ByteArray) (a2 : Int) : Option (Bool) := if a0 = 5 then (hallmarkref30_Faults.j0 k a0 a1 a2 true) else (if a0 ≥ 7 then (if a0 ≤ 9 then (hallmarkref30_Faults.j0 k a0 a1 a2 true) else (if a0 = 11 then (hallmarkref30_Faults.j0 k a0 a1 a2 true) else (if a0 ≥ 14 then (hallmarkref30_Faults.j0 k a0 a1 a2 (decide (a0 ≤ 18))) else (hallmarkref30_Faults.j0 k a0 a1 a2 false)))) else (if a0 = 11 then (hallmarkref30_Faults.j0 k a0 a1 a2 true) else (if a0 ≥ 14 then (hallmarkref30_Faults.j0 k a0 a1 a2 (decide (a0 ≤ 18))) else (hallmarkref30_Faults.j0 k a0 a1 a2 false))))
theorem hallmarkref30_Faults.mono_l : ∀ k, (∀ y0 y1 y2 y3, LeO (hallmarkref30_Faults.j0 k y0 y1 y2 y3) (hallmarkref30_Faults.j0 (k + 1) y0 y1 y2 y3))
  | 0 => fun _ _ _ _ r h => by simp [hallmarkref30_Faults.j0] at h
  | k + 1 => by
    have ih0 := hallmarkref30_Faults.mono_l k
    · intro y0 y1 y2 y3
      unfold hallmarkref30_Faults.j0
      repeat' first
      | (with_reducible exact ih0 _ _ _ _)
      | (with_reducible exact LeO.refl _)
      | (with_reducible exact LeO.none _)
      | (with_reducible refine LeO.ite ?_ ?_)
      | (with_reducible refine LeO.bind ?_ (fun _ => ?_))
      | exact ih0 _ _ _ _
      | exact LeO.none _
      | refine LeO.ite ?_ ?_
      | refine LeO.bind ?_ (fun _ => ?_)
theorem hallmarkref30_Faults.mono : ∀ a0 a1 a2 k, LeO (hallmarkref30_Faults.f k a0 a1 a2) (hallmarkref30_Faults.f (k + 1) a0 a1 a2) := by
  intro a0 a1 a2 k
  have ih0 := hallmarkref30_Faults.mono_l k
  unfold hallmarkref30_Faults.f
  repeat' first
      | (with_reducible exact ih0 _ _ _ _)
      | (with_reducible exact LeO.refl _)
      | (with_reducible exact LeO.none _)
      | (with_reducible refine LeO.ite ?_ ?_)
      | (with_reducible refine LeO.bind ?_ (fun _ => ?_))
      | exact ih0 _ _ _ _
      | exact LeO.none _
      | refine LeO.ite ?_ ?_
      | refine LeO.bind ?_ (fun _ => ?_)
set_option maxHeartbeats 8000000 in
set_option maxRecDepth 100000 in
theorem hallmarkref30_Faults.calls (k : Nat) (a0 : Int) (a1 : ByteArray) (a2 : Int) (r : Bool) (w : World) (h : hallmarkref30_Faults.f k a0 a1 a2 = some r) :
    Calls Tryz.prog 11 #[.int .i64 a0, .string a1, .int .i64 a2] w fun e w' => e = .returned (.bool r) ∧ Drawn0 w w' := by
  have H : (if a0 = 5 then (hallmarkref30_Faults.j0 k a0 a1 a2 true) else (if a0 ≥ 7 then (if a0 ≤ 9 then (hallmarkref30_Faults.j0 k a0 a1 a2 true) else (if a0 = 11 then (hallmarkref30_Faults.j0 k a0 a1 a2 true) else (if a0 ≥ 14 then (hallmarkref30_Faults.j0 k a0 a1 a2 (decide (a0 ≤ 18))) else (hallmarkref30_Faults.j0 k a0 a1 a2 false)))) else (if a0 = 11 then (hallmarkref30_Faults.j0 k a0 a1 a2 true) else (if a0 ≥ 14 then (hallmarkref30_Faults.j0 k a0 a1 a2 (decide (a0 ≤ 18))) else (hallmarkref30_Faults.j0 k a0 a1 a2 false))))) = some r := h
  clear h
  have HC4 := Aside0.mk H
  clear H
  go_enter Tryz.func11, Tryz.ntmps11
  go_upto_region 1 with (fail)
  go_cut [28] (fun v28 wc => ∃ (kq : Nat) (x28_3 : Bool), v28 = .bool x28_3 ∧ Aside0 (hallmarkref30_Faults.j0 kq a0 a1 a2 x28_3 = some r) ∧ Aside0 (kq ≤ k) ∧ Drawn0 w wc)
  case first =>
    have H := HC4.out
    clear HC4
    by_cases c5 : a0 = 5
    · rw [if_pos c5] at H
      have c5b0 : (a0 == 5) = true := beq_iff_eq.mpr c5
      have c5b1 : (a0 != 5) = false := bne_eq_false_iff_eq.mpr c5
      clear c5
      (first | rw [c5b0] | (simp only [i64_w, i32_w]; rw [c5b0]) | skip)
      have H' := Aside0.mk H
      clear H
      go_wp2
      go_meet
      case rel => exact ⟨_, (true), (by first | rfl | (simp; done) | (simp [*]; done)), H', ⟨by first | omega | exact Nat.le_refl _⟩, by repeat (first | exact Drawn0.refl _ | apply Drawn0.step)⟩
    · rw [if_neg c5] at H
      have c5b0 : (a0 == 5) = false := beq_eq_false_iff_ne.mpr c5
      have c5b1 : (a0 != 5) = true := bne_iff_ne.mpr c5
      (first | rw [c5b0] | (simp only [i64_w, i32_w]; rw [c5b0]) | skip)
      by_cases c6 : a0 ≥ 7
      · rw [if_pos c6] at H
        have c6b0 : decide (7 ≤ a0) = true := decide_eq_true c6
        clear c6
        by_cases c7 : a0 ≤ 9
        · rw [if_pos c7] at H
          have c7b0 : decide (a0 ≤ 9) = true := decide_eq_true c7
          clear c7
          have H' := Aside0.mk H
          clear H
          go_wp2
          go_meet
          case rel => exact ⟨_, (true), (by first | rfl | (simp; done) | (simp [*]; done)), H', ⟨by first | omega | exact Nat.le_refl _⟩, by repeat (first | exact Drawn0.refl _ | apply Drawn0.step)⟩
        · rw [if_neg c7] at H
          have c7b0 : decide (a0 ≤ 9) = false := decide_eq_false c7
          clear c7
          by_cases c8 : a0 = 11
          · rw [if_pos c8] at H
            have c8b0 : (a0 == 11) = true := beq_iff_eq.mpr c8
            have c8b1 : (a0 != 11) = false := bne_eq_false_iff_eq.mpr c8
            clear c8
            have H' := Aside0.mk H
            clear H
            go_wp2
            go_meet
            case rel => exact ⟨_, (true), (by first | rfl | (simp; done) | (simp [*]; done)), H', ⟨by first | omega | exact Nat.le_refl _⟩, by repeat (first | exact Drawn0.refl _ | apply Drawn0.step)⟩
          · rw [if_neg c8] at H
            have c8b0 : (a0 == 11) = false := beq_eq_false_iff_ne.mpr c8
            have c8b1 : (a0 != 11) = true := bne_iff_ne.mpr c8
            by_cases c9 : a0 ≥ 14
            · rw [if_pos c9] at H
              have c9b0 : decide (14 ≤ a0) = true := decide_eq_true c9
              clear c9
              have H' := Aside0.mk H
              clear H
              go_wp2
              go_meet
              case rel => exact ⟨_, (decide (a0 ≤ 18)), (by first | rfl | (simp; done) | (simp [*]; done)), H', ⟨by first | omega | exact Nat.le_refl _⟩, by repeat (first | exact Drawn0.refl _ | apply Drawn0.step)⟩
            · rw [if_neg c9] at H
              have c9b0 : decide (14 ≤ a0) = false := decide_eq_false c9
              clear c9
              have H' := Aside0.mk H
              clear H
              go_wp2
              go_meet
              case rel => exact ⟨_, (false), (by first | rfl | (simp; done) | (simp [*]; done)), H', ⟨by first | omega | exact Nat.le_refl _⟩, by repeat (first | exact Drawn0.refl _ | apply Drawn0.step)⟩
      · rw [if_neg c6] at H
        have c6b0 : decide (7 ≤ a0) = false := decide_eq_false c6
        clear c6
        by_cases c10 : a0 = 11
        · rw [if_pos c10] at H
          have c10b0 : (a0 == 11) = true := beq_iff_eq.mpr c10
          have c10b1 : (a0 != 11) = false := bne_eq_false_iff_eq.mpr c10
          clear c10
          have H' := Aside0.mk H
          clear H
          go_wp2
          go_meet
          case rel => exact ⟨_, (true), (by first | rfl | (simp; done) | (simp [*]; done)), H', ⟨by first | omega | exact Nat.le_refl _⟩, by repeat (first | exact Drawn0.refl _ | apply Drawn0.step)⟩
        · rw [if_neg c10] at H
          have c10b0 : (a0 == 11) = false := beq_eq_false_iff_ne.mpr c10
          have c10b1 : (a0 != 11) = true := bne_iff_ne.mpr c10
          by_cases c11 : a0 ≥ 14
          · rw [if_pos c11] at H
            have c11b0 : decide (14 ≤ a0) = true := decide_eq_true c11
            clear c11
            have H' := Aside0.mk H
            clear H
            go_wp2
            go_meet
            case rel => exact ⟨_, (decide (a0 ≤ 18)), (by first | rfl | (simp; done) | (simp [*]; done)), H', ⟨by first | omega | exact Nat.le_refl _⟩, by repeat (first | exact Drawn0.refl _ | apply Drawn0.step)⟩
          · rw [if_neg c11] at H
            have c11b0 : decide (14 ≤ a0) = false := decide_eq_false c11
            clear c11
            have H' := Aside0.mk H
            clear H
            go_wp2
            go_meet
            case rel => exact ⟨_, (false), (by first | rfl | (simp; done) | (simp [*]; done)), H', ⟨by first | omega | exact Nat.le_refl _⟩, by repeat (first | exact Drawn0.refl _ | apply Drawn0.step)⟩
  case rest =>
    clear HC4
    try clear c1
    try clear p2
    try clear c5
    try clear c5b0
    try clear c5b1
    try clear c6
    try clear c6b0
    try clear c7
    try clear c7b0
    try clear c8
    try clear c8b0
    try clear c8b1
    try clear c9
    try clear c9b0
    try clear c10
    try clear c10b0
    try clear c10b1
    try clear c11
    try clear c11b0
    obtain ⟨kq, x28_3, rfl, HA, HJ3, ⟨mc3, rfl⟩⟩ := hcut
    cases kq with
    | zero => exact absurd HA.out (by simp [hallmarkref30_Faults.j0])
    | succ kj3 =>
      have H := HA.out
      clear HA
      simp only [hallmarkref30_Faults.j0] at H
      by_cases c12 : x28_3 = true
      · subst c12
        have H1 : (some true) = some r := by rw [if_pos rfl] at H; exact H
        clear H
        have H := H1
        clear H1
        obtain rfl := Option.some.inj H
        go_wp2
        go_ret
        exact ⟨by first | rfl | (simp; done) | (simp [*]; done), by repeat (first | exact Drawn0.refl _ | apply Drawn0.step)⟩
      · replace c12 := Bool.eq_false_iff.mpr c12
        subst c12
        have H1 : (if a0 = 33 then (if a1.toList = ([101, 109, 112, 116, 121] : List UInt8) then (if a2 = 0 then (some false) else (if a1.toList = ([101, 114, 114, 111, 114] : List UInt8) then (if a2 < 2 then (some false) else (if a1.toList = ([112, 97, 116, 104] : List UInt8) then (if a2 = 1 then (some false) else ((hallmarkref19_Builtin.f a1 a2).bind fun t122 => (some t122))) else ((hallmarkref19_Builtin.f a1 a2).bind fun t123 => (some t123)))) else (if a1.toList = ([112, 97, 116, 104] : List UInt8) then (if a2 = 1 then (some false) else ((hallmarkref19_Builtin.f a1 a2).bind fun t124 => (some t124))) else ((hallmarkref19_Builtin.f a1 a2).bind fun t125 => (some t125))))) else (if a1.toList = ([101, 114, 114, 111, 114] : List UInt8) then (if a2 < 2 then (some false) else (if a1.toList = ([112, 97, 116, 104] : List UInt8) then (if a2 = 1 then (some false) else ((hallmarkref19_Builtin.f a1 a2).bind fun t126 => (some t126))) else ((hallmarkref19_Builtin.f a1 a2).bind fun t127 => (some t127)))) else (if a1.toList = ([112, 97, 116, 104] : List UInt8) then (if a2 = 1 then (some false) else ((hallmarkref19_Builtin.f a1 a2).bind fun t128 => (some t128))) else ((hallmarkref19_Builtin.f a1 a2).bind fun t129 => (some t129))))) else (some false)) = some r := by rw [if_neg (show ¬ (false = true) by decide)] at H; exact H
        clear H
        have H := H1
        clear H1
        by_cases c13 : a0 = 33
        · rw [if_pos c13] at H
          have c13b0 : (a0 == 33) = true := beq_iff_eq.mpr c13
          have c13b1 : (a0 != 33) = false := bne_eq_false_iff_eq.mpr c13
          clear c13
          by_cases c14 : a1.toList = ([101, 109, 112, 116, 121] : List UInt8)
          · rw [if_pos c14] at H
            have c14b0 : (a1.toList == ([101, 109, 112, 116, 121] : List UInt8)) = true := beq_iff_eq.mpr c14
            have c14b1 : (a1.toList != ([101, 109, 112, 116, 121] : List UInt8)) = false := bne_eq_false_iff_eq.mpr c14
            clear c14
            by_cases c15 : a2 = 0
            · rw [if_pos c15] at H
              have c15b0 : (a2 == 0) = true := beq_iff_eq.mpr c15
              have c15b1 : (a2 != 0) = false := bne_eq_false_iff_eq.mpr c15
              clear c15
              obtain rfl := Option.some.inj H
              go_wp2
              go_ret
              exact ⟨by first | rfl | (simp; done) | (simp [*]; done), by repeat (first | exact Drawn0.refl _ | apply Drawn0.step)⟩
            · rw [if_neg c15] at H
              have c15b0 : (a2 == 0) = false := beq_eq_false_iff_ne.mpr c15
              have c15b1 : (a2 != 0) = true := bne_iff_ne.mpr c15
              by_cases c16 : a1.toList = ([101, 114, 114, 111, 114] : List UInt8)
              · rw [if_pos c16] at H
                have c16b0 : (a1.toList == ([101, 114, 114, 111, 114] : List UInt8)) = true := beq_iff_eq.mpr c16
                have c16b1 : (a1.toList != ([101, 114, 114, 111, 114] : List UInt8)) = false := bne_eq_false_iff_eq.mpr c16
                clear c16
                by_cases c17 : a2 < 2
                · rw [if_pos c17] at H
                  have c17b0 : decide (a2 < 2) = true := decide_eq_true c17
                  clear c17
                  obtain rfl := Option.some.inj H
                  go_wp2
                  go_ret
                  exact ⟨by first | rfl | (simp; done) | (simp [*]; done), by repeat (first | exact Drawn0.refl _ | apply Drawn0.step)⟩
                · rw [if_neg c17] at H
                  have c17b0 : decide (a2 < 2) = false := decide_eq_false c17
                  clear c17
                  by_cases c18 : a1.toList = ([112, 97, 116, 104] : List UInt8)
                  · rw [if_pos c18] at H
                    have c18b0 : (a1.toList == ([112, 97, 116, 104] : List UInt8)) = true := beq_iff_eq.mpr c18
                    have c18b1 : (a1.toList != ([112, 97, 116, 104] : List UInt8)) = false := bne_eq_false_iff_eq.mpr c18
                    clear c18
                    by_cases c19 : a2 = 1
                    · rw [if_pos c19] at H
                      have c19b0 : (a2 == 1) = true := beq_iff_eq.mpr c19
                      have c19b1 : (a2 != 1) = false := bne_eq_false_iff_eq.mpr c19
                      clear c19
                      obtain rfl := Option.some.inj H
                      go_wp2
                      go_ret
                      exact ⟨by first | rfl | (simp; done) | (simp [*]; done), by repeat (first | exact Drawn0.refl _ | apply Drawn0.step)⟩
                    · rw [if_neg c19] at H
                      have c19b0 : (a2 == 1) = false := beq_eq_false_iff_ne.mpr c19
                      have c19b1 : (a2 != 1) = true := bne_iff_ne.mpr c19
                      replace H := Option.bind_eq_some_iff.mp H
                      obtain ⟨t122, A200, H⟩ := H
                      replace H : (some t122) = some r := H
                      have A20 := Aside0.mk A200
                      clear A200
                      obtain rfl := Option.some.inj H
                      go_wp2_with (first | ((with_reducible refine gate_callee (f := 20) rfl ?_); refine goesL_ (some 57) rfl rfl Tryz.func20 (by kernel_rfl) rfl #[.string a1, .int .i64 a2] rfl (by (try simp only [List.map_toArray, List.map_cons, List.map_nil]); first | done | rfl | (simp only [List.length_drop, List.length_take]; rfl)) ?_; (with_reducible refine (hallmarkref19_Builtin.calls a1 a2 t122 _ A20.out).mono ?_); rintro e w' ⟨rfl, ⟨nd, rfl⟩⟩; refine ⟨_, rfl, ?_⟩))
                      go_ret
                      exact ⟨by first | rfl | (simp; done) | (simp [*]; done), by repeat (first | exact Drawn0.refl _ | apply Drawn0.step)⟩
                  · rw [if_neg c18] at H
                    have c18b0 : (a1.toList == ([112, 97, 116, 104] : List UInt8)) = false := beq_eq_false_iff_ne.mpr c18
                    have c18b1 : (a1.toList != ([112, 97, 116, 104] : List UInt8)) = true := bne_iff_ne.mpr c18
                    replace H := Option.bind_eq_some_iff.mp H
                    obtain ⟨t123, A210, H⟩ := H
                    replace H : (some t123) = some r := H
                    have A21 := Aside0.mk A210
                    clear A210
                    obtain rfl := Option.some.inj H
                    go_wp2_with (first | ((with_reducible refine gate_callee (f := 20) rfl ?_); refine goesL_ (some 57) rfl rfl Tryz.func20 (by kernel_rfl) rfl #[.string a1, .int .i64 a2] rfl (by (try simp only [List.map_toArray, List.map_cons, List.map_nil]); first | done | rfl | (simp only [List.length_drop, List.length_take]; rfl)) ?_; (with_reducible refine (hallmarkref19_Builtin.calls a1 a2 t123 _ A21.out).mono ?_); rintro e w' ⟨rfl, ⟨nd, rfl⟩⟩; refine ⟨_, rfl, ?_⟩))
                    go_ret
                    exact ⟨by first | rfl | (simp; done) | (simp [*]; done), by repeat (first | exact Drawn0.refl _ | apply Drawn0.step)⟩
              · rw [if_neg c16] at H
                have c16b0 : (a1.toList == ([101, 114, 114, 111, 114] : List UInt8)) = false := beq_eq_false_iff_ne.mpr c16
                have c16b1 : (a1.toList != ([101, 114, 114, 111, 114] : List UInt8)) = true := bne_iff_ne.mpr c16
                by_cases c22 : a1.toList = ([112, 97, 116, 104] : List UInt8)
                · rw [if_pos c22] at H
                  have c22b0 : (a1.toList == ([112, 97, 116, 104] : List UInt8)) = true := beq_iff_eq.mpr c22
                  have c22b1 : (a1.toList != ([112, 97, 116, 104] : List UInt8)) = false := bne_eq_false_iff_eq.mpr c22
                  clear c22
                  by_cases c23 : a2 = 1
                  · rw [if_pos c23] at H
                    have c23b0 : (a2 == 1) = true := beq_iff_eq.mpr c23
                    have c23b1 : (a2 != 1) = false := bne_eq_false_iff_eq.mpr c23
                    clear c23
                    obtain rfl := Option.some.inj H
                    go_wp2
                    go_ret
                    exact ⟨by first | rfl | (simp; done) | (simp [*]; done), by repeat (first | exact Drawn0.refl _ | apply Drawn0.step)⟩
                  · rw [if_neg c23] at H
                    have c23b0 : (a2 == 1) = false := beq_eq_false_iff_ne.mpr c23
                    have c23b1 : (a2 != 1) = true := bne_iff_ne.mpr c23
                    replace H := Option.bind_eq_some_iff.mp H
                    obtain ⟨t124, A240, H⟩ := H
                    replace H : (some t124) = some r := H
                    have A24 := Aside0.mk A240
                    clear A240
                    obtain rfl := Option.some.inj H
                    go_wp2_with (first | ((with_reducible refine gate_callee (f := 20) rfl ?_); refine goesL_ (some 57) rfl rfl Tryz.func20 (by kernel_rfl) rfl #[.string a1, .int .i64 a2] rfl (by (try simp only [List.map_toArray, List.map_cons, List.map_nil]); first | done | rfl | (simp only [List.length_drop, List.length_take]; rfl)) ?_; (with_reducible refine (hallmarkref19_Builtin.calls a1 a2 t124 _ A24.out).mono ?_); rintro e w' ⟨rfl, ⟨nd, rfl⟩⟩; refine ⟨_, rfl, ?_⟩))
                    go_ret
                    exact ⟨by first | rfl | (simp; done) | (simp [*]; done), by repeat (first | exact Drawn0.refl _ | apply Drawn0.step)⟩
                · rw [if_neg c22] at H
                  have c22b0 : (a1.toList == ([112, 97, 116, 104] : List UInt8)) = false := beq_eq_false_iff_ne.mpr c22
                  have c22b1 : (a1.toList != ([112, 97, 116, 104] : List UInt8)) = true := bne_iff_ne.mpr c22
                  replace H := Option.bind_eq_some_iff.mp H
                  obtain ⟨t125, A250, H⟩ := H
                  replace H : (some t125) = some r := H
                  have A25 := Aside0.mk A250
                  clear A250
                  obtain rfl := Option.some.inj H
                  go_wp2_with (first | ((with_reducible refine gate_callee (f := 20) rfl ?_); refine goesL_ (some 57) rfl rfl Tryz.func20 (by kernel_rfl) rfl #[.string a1, .int .i64 a2] rfl (by (try simp only [List.map_toArray, List.map_cons, List.map_nil]); first | done | rfl | (simp only [List.length_drop, List.length_take]; rfl)) ?_; (with_reducible refine (hallmarkref19_Builtin.calls a1 a2 t125 _ A25.out).mono ?_); rintro e w' ⟨rfl, ⟨nd, rfl⟩⟩; refine ⟨_, rfl, ?_⟩))
                  go_ret
                  exact ⟨by first | rfl | (simp; done) | (simp [*]; done), by repeat (first | exact Drawn0.refl _ | apply Drawn0.step)⟩
          · rw [if_neg c14] at H
            have c14b0 : (a1.toList == ([101, 109, 112, 116, 121] : List UInt8)) = false := beq_eq_false_iff_ne.mpr c14
            have c14b1 : (a1.toList != ([101, 109, 112, 116, 121] : List UInt8)) = true := bne_iff_ne.mpr c14
            by_cases c26 : a1.toList = ([101, 114, 114, 111, 114] : List UInt8)
            · rw [if_pos c26] at H
              have c26b0 : (a1.toList == ([101, 114, 114, 111, 114] : List UInt8)) = true := beq_iff_eq.mpr c26
              have c26b1 : (a1.toList != ([101, 114, 114, 111, 114] : List UInt8)) = false := bne_eq_false_iff_eq.mpr c26
              clear c26
              by_cases c27 : a2 < 2
              · rw [if_pos c27] at H
                have c27b0 : decide (a2 < 2) = true := decide_eq_true c27
                clear c27
                obtain rfl := Option.some.inj H
                go_wp2
                go_ret
                exact ⟨by first | rfl | (simp; done) | (simp [*]; done), by repeat (first | exact Drawn0.refl _ | apply Drawn0.step)⟩
              · rw [if_neg c27] at H
                have c27b0 : decide (a2 < 2) = false := decide_eq_false c27
                clear c27
                by_cases c28 : a1.toList = ([112, 97, 116, 104] : List UInt8)
                · rw [if_pos c28] at H
                  have c28b0 : (a1.toList == ([112, 97, 116, 104] : List UInt8)) = true := beq_iff_eq.mpr c28
                  have c28b1 : (a1.toList != ([112, 97, 116, 104] : List UInt8)) = false := bne_eq_false_iff_eq.mpr c28
                  clear c28
                  by_cases c29 : a2 = 1
                  · rw [if_pos c29] at H
                    have c29b0 : (a2 == 1) = true := beq_iff_eq.mpr c29
                    have c29b1 : (a2 != 1) = false := bne_eq_false_iff_eq.mpr c29
                    clear c29
                    obtain rfl := Option.some.inj H
                    go_wp2
                    go_ret
                    exact ⟨by first | rfl | (simp; done) | (simp [*]; done), by repeat (first | exact Drawn0.refl _ | apply Drawn0.step)⟩
                  · rw [if_neg c29] at H
                    have c29b0 : (a2 == 1) = false := beq_eq_false_iff_ne.mpr c29
                    have c29b1 : (a2 != 1) = true := bne_iff_ne.mpr c29
                    replace H := Option.bind_eq_some_iff.mp H
                    obtain ⟨t126, A300, H⟩ := H
                    replace H : (some t126) = some r := H
                    have A30 := Aside0.mk A300
                    clear A300
                    obtain rfl := Option.some.inj H
                    go_wp2_with (first | ((with_reducible refine gate_callee (f := 20) rfl ?_); refine goesL_ (some 57) rfl rfl Tryz.func20 (by kernel_rfl) rfl #[.string a1, .int .i64 a2] rfl (by (try simp only [List.map_toArray, List.map_cons, List.map_nil]); first | done | rfl | (simp only [List.length_drop, List.length_take]; rfl)) ?_; (with_reducible refine (hallmarkref19_Builtin.calls a1 a2 t126 _ A30.out).mono ?_); rintro e w' ⟨rfl, ⟨nd, rfl⟩⟩; refine ⟨_, rfl, ?_⟩))
                    go_ret
                    exact ⟨by first | rfl | (simp; done) | (simp [*]; done), by repeat (first | exact Drawn0.refl _ | apply Drawn0.step)⟩
                · rw [if_neg c28] at H
                  have c28b0 : (a1.toList == ([112, 97, 116, 104] : List UInt8)) = false := beq_eq_false_iff_ne.mpr c28
                  have c28b1 : (a1.toList != ([112, 97, 116, 104] : List UInt8)) = true := bne_iff_ne.mpr c28
                  replace H := Option.bind_eq_some_iff.mp H
                  obtain ⟨t127, A310, H⟩ := H
                  replace H : (some t127) = some r := H
                  have A31 := Aside0.mk A310
                  clear A310
                  obtain rfl := Option.some.inj H
                  go_wp2_with (first | ((with_reducible refine gate_callee (f := 20) rfl ?_); refine goesL_ (some 57) rfl rfl Tryz.func20 (by kernel_rfl) rfl #[.string a1, .int .i64 a2] rfl (by (try simp only [List.map_toArray, List.map_cons, List.map_nil]); first | done | rfl | (simp only [List.length_drop, List.length_take]; rfl)) ?_; (with_reducible refine (hallmarkref19_Builtin.calls a1 a2 t127 _ A31.out).mono ?_); rintro e w' ⟨rfl, ⟨nd, rfl⟩⟩; refine ⟨_, rfl, ?_⟩))
                  go_ret
                  exact ⟨by first | rfl | (simp; done) | (simp [*]; done), by repeat (first | exact Drawn0.refl _ | apply Drawn0.step)⟩
            · rw [if_neg c26] at H
              have c26b0 : (a1.toList == ([101, 114, 114, 111, 114] : List UInt8)) = false := beq_eq_false_iff_ne.mpr c26
              have c26b1 : (a1.toList != ([101, 114, 114, 111, 114] : List UInt8)) = true := bne_iff_ne.mpr c26
              by_cases c32 : a1.toList = ([112, 97, 116, 104] : List UInt8)
              · rw [if_pos c32] at H
                have c32b0 : (a1.toList == ([112, 97, 116, 104] : List UInt8)) = true := beq_iff_eq.mpr c32
                have c32b1 : (a1.toList != ([112, 97, 116, 104] : List UInt8)) = false := bne_eq_false_iff_eq.mpr c32
                clear c32
                by_cases c33 : a2 = 1
                · rw [if_pos c33] at H
                  have c33b0 : (a2 == 1) = true := beq_iff_eq.mpr c33
                  have c33b1 : (a2 != 1) = false := bne_eq_false_iff_eq.mpr c33
                  clear c33
                  obtain rfl := Option.some.inj H
                  go_wp2
                  go_ret
                  exact ⟨by first | rfl | (simp; done) | (simp [*]; done), by repeat (first | exact Drawn0.refl _ | apply Drawn0.step)⟩
                · rw [if_neg c33] at H
                  have c33b0 : (a2 == 1) = false := beq_eq_false_iff_ne.mpr c33
                  have c33b1 : (a2 != 1) = true := bne_iff_ne.mpr c33
                  replace H := Option.bind_eq_some_iff.mp H
                  obtain ⟨t128, A340, H⟩ := H
                  replace H : (some t128) = some r := H
                  have A34 := Aside0.mk A340
                  clear A340
                  obtain rfl := Option.some.inj H
                  go_wp2_with (first | ((with_reducible refine gate_callee (f := 20) rfl ?_); refine goesL_ (some 57) rfl rfl Tryz.func20 (by kernel_rfl) rfl #[.string a1, .int .i64 a2] rfl (by (try simp only [List.map_toArray, List.map_cons, List.map_nil]); first | done | rfl | (simp only [List.length_drop, List.length_take]; rfl)) ?_; (with_reducible refine (hallmarkref19_Builtin.calls a1 a2 t128 _ A34.out).mono ?_); rintro e w' ⟨rfl, ⟨nd, rfl⟩⟩; refine ⟨_, rfl, ?_⟩))
                  go_ret
                  exact ⟨by first | rfl | (simp; done) | (simp [*]; done), by repeat (first | exact Drawn0.refl _ | apply Drawn0.step)⟩
              · rw [if_neg c32] at H
                have c32b0 : (a1.toList == ([112, 97, 116, 104] : List UInt8)) = false := beq_eq_false_iff_ne.mpr c32
                have c32b1 : (a1.toList != ([112, 97, 116, 104] : List UInt8)) = true := bne_iff_ne.mpr c32
                replace H := Option.bind_eq_some_iff.mp H
                obtain ⟨t129, A350, H⟩ := H
                replace H : (some t129) = some r := H
                have A35 := Aside0.mk A350
                clear A350
                obtain rfl := Option.some.inj H
                go_wp2_with (first | ((with_reducible refine gate_callee (f := 20) rfl ?_); refine goesL_ (some 57) rfl rfl Tryz.func20 (by kernel_rfl) rfl #[.string a1, .int .i64 a2] rfl (by (try simp only [List.map_toArray, List.map_cons, List.map_nil]); first | done | rfl | (simp only [List.length_drop, List.length_take]; rfl)) ?_; (with_reducible refine (hallmarkref19_Builtin.calls a1 a2 t129 _ A35.out).mono ?_); rintro e w' ⟨rfl, ⟨nd, rfl⟩⟩; refine ⟨_, rfl, ?_⟩))
                go_ret
                exact ⟨by first | rfl | (simp; done) | (simp [*]; done), by repeat (first | exact Drawn0.refl _ | apply Drawn0.step)⟩
        · rw [if_neg c13] at H
          have c13b0 : (a0 == 33) = false := beq_eq_false_iff_ne.mpr c13
          have c13b1 : (a0 != 33) = true := bne_iff_ne.mpr c13
          obtain rfl := Option.some.inj H
          go_wp2
          go_ret
          exact ⟨by first | rfl | (simp; done) | (simp [*]; done), by repeat (first | exact Drawn0.refl _ | apply Drawn0.step)⟩

/-! ### hallmarkref30_Chooses: function 12 -/
def hallmarkref30_Chooses.f (a0 : Int) : Option (Bool) := if a0 ≥ 25 then (some (decide (a0 ≤ 28))) else (some false)
set_option maxHeartbeats 8000000 in
set_option maxRecDepth 100000 in
theorem hallmarkref30_Chooses.calls (a0 : Int) (r : Bool) (w : World) (h : hallmarkref30_Chooses.f a0 = some r) :
    Calls Tryz.prog 12 #[.int .i64 a0] w fun e w' => e = .returned (.bool r) ∧ Drawn0 w w' := by
  have H : (if a0 ≥ 25 then (some (decide (a0 ≤ 28))) else (some false)) = some r := h
  clear h
  by_cases c2 : a0 ≥ 25
  · rw [if_pos c2] at H
    have c2b0 : decide (25 ≤ a0) = true := decide_eq_true c2
    clear c2
    obtain rfl := Option.some.inj H
    go_enter Tryz.func12, Tryz.ntmps12
    go_wp2
    go_ret
    exact ⟨by first | rfl | (simp; done) | (simp [*]; done), by repeat (first | exact Drawn0.refl _ | apply Drawn0.step)⟩
  · rw [if_neg c2] at H
    have c2b0 : decide (25 ≤ a0) = false := decide_eq_false c2
    clear c2
    obtain rfl := Option.some.inj H
    go_enter Tryz.func12, Tryz.ntmps12
    go_wp2
    go_ret
    exact ⟨by first | rfl | (simp; done) | (simp [*]; done), by repeat (first | exact Drawn0.refl _ | apply Drawn0.step)⟩

end Go.Proofs.YtcnnmlmedbjklaaGreatDoor.PLowerTests
