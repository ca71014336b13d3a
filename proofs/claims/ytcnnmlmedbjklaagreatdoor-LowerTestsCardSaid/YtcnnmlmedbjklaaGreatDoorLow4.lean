/- printed by the kit's print, over two contracts of this claim's own -/
import Derived.Test.YtcnnmlmedbjklaaGreatDoorLow0
namespace Go.Proofs.YtcnnmlmedbjklaaGreatDoor.PLowerTests
open Go.RowKit Go.Proofs.YtcnnmlmedbjklaaGreatDoorW.PrintWords Go.Proofs.YtcnnmlmedbjklaaGreatDoorW.PrintLast Go.Proofs.YtcnnmlmedbjklaaGreatDoorW.PrintMore
attribute [local go_sem] max2_int min2_int max_two min_two max_three min_three max_four min_four   -- for this text's walks alone
set_option linter.unusedVariables false
set_option linter.unusedSimpArgs false

/-! ### hallmarkref19_Builtin: function 20 -/
def hallmarkref19_Builtin.f (a0 : ByteArray) (a1 : Int) : Option (Bool) := if a1 = 0 then (if a0.toList = ([101, 109, 112, 116, 121] : List UInt8) then (some true) else (if a0.toList = ([101, 114, 114, 111, 114] : List UInt8) then (some true) else (if a0.toList = ([108, 101, 110, 103, 116, 104] : List UInt8) then (some true) else (if a0.toList = ([117, 116, 102, 56, 98, 121, 116, 101, 108, 101, 110, 103, 116, 104] : List UInt8) then (some true) else (if a0.toList = ([110, 111, 116] : List UInt8) then (some true) else (if a0.toList = ([107, 101, 121, 115] : List UInt8) then (some true) else (if a0.toList = ([116, 121, 112, 101] : List UInt8) then (some true) else (if a0.toList = ([116, 111, 115, 116, 114, 105, 110, 103] : List UInt8) then (some true) else (if a0.toList = ([116, 111, 110, 117, 109, 98, 101, 114] : List UInt8) then (some true) else (if a0.toList = ([116, 111, 106, 115, 111, 110] : List UInt8) then (some true) else (if a0.toList = ([102, 114, 111, 109, 106, 115, 111, 110] : List UInt8) then (some true) else (if a0.toList = ([97, 115, 99, 105, 105, 95, 100, 111, 119, 110, 99, 97, 115, 101] : List UInt8) then (some true) else (if a0.toList = ([97, 115, 99, 105, 105, 95, 117, 112, 99, 97, 115, 101] : List UInt8) then (some true) else (if a0.toList = ([101, 120, 112, 108, 111, 100, 101] : List UInt8) then (some true) else (if a0.toList = ([105, 109, 112, 108, 111, 100, 101] : List UInt8) then (some true) else (if a0.toList = ([114, 101, 118, 101, 114, 115, 101] : List UInt8) then (some true) else (if a0.toList = ([115, 111, 114, 116] : List UInt8) then (some true) else (if a0.toList = ([109, 105, 110] : List UInt8) then (some true) else (if a0.toList = ([109, 97, 120] : List UInt8) then (some true) else (if a0.toList = ([117, 110, 105, 113, 117, 101] : List UInt8) then (some true) else (if a0.toList = ([97, 100, 100] : List UInt8) then (some true) else (if a0.toList = ([102, 108, 97, 116, 116, 101, 110] : List UInt8) then (some true) else (if a0.toList = ([116, 114, 97, 110, 115, 112, 111, 115, 101] : List UInt8) then (some true) else (if a0.toList = ([97, 98, 115] : List UInt8) then (some true) else (if a0.toList = ([116, 111, 97, 114, 114, 97, 121] : List UInt8) then (some true) else (some false)))))))))))))))))))))))))) else (if a1 = 1 then (if a0.toList = ([101, 114, 114, 111, 114] : List UInt8) then (some true) else (if a0.toList = ([112, 97, 116, 104] : List UInt8) then (some true) else (if a0.toList = ([104, 97, 115] : List UInt8) then (some true) else (if a0.toList = ([99, 111, 110, 116, 97, 105, 110, 115] : List UInt8) then (some true) else (if a0.toList = ([115, 116, 97, 114, 116, 115, 119, 105, 116, 104] : List UInt8) then (some true) else (if a0.toList = ([101, 110, 100, 115, 119, 105, 116, 104] : List UInt8) then (some true) else (if a0.toList = ([108, 116, 114, 105, 109, 115, 116, 114] : List UInt8) then (some true) else (if a0.toList = ([114, 116, 114, 105, 109, 115, 116, 114] : List UInt8) then (some true) else (if a0.toList = ([115, 112, 108, 105, 116] : List UInt8) then (some true) else (if a0.toList = ([106, 111, 105, 110] : List UInt8) then (some true) else (if a0.toList = ([105, 110, 100, 105, 99, 101, 115] : List UInt8) then (some true) else (if a0.toList = ([95, 115, 111, 114, 116, 95, 98, 121] : List UInt8) then (some true) else (if a0.toList = ([95, 103, 114, 111, 117, 112, 95, 98, 121] : List UInt8) then (some true) else (if a0.toList = ([95, 117, 110, 105, 113, 117, 101, 95, 98, 121] : List UInt8) then (some true) else (if a0.toList = ([95, 109, 105, 110, 95, 98, 121] : List UInt8) then (some true) else (if a0.toList = ([95, 109, 97, 120, 95, 98, 121] : List UInt8) then (some true) else (if a0.toList = ([103, 101, 116, 112, 97, 116, 104] : List UInt8) then (some true) else (if a0.toList = ([100, 101, 108, 112, 97, 116, 104, 115] : List UInt8) then (some true) else (some false))))))))))))))))))) else (if a1 = 2 then (if a0.toList = ([114, 97, 110, 103, 101] : List UInt8) then (some true) else (some (a0.toList == ([115, 101, 116, 112, 97, 116, 104] : List UInt8)))) else (some false)))
set_option maxHeartbeats 8000000 in
set_option maxRecDepth 100000 in
theorem hallmarkref19_Builtin.calls (a0 : ByteArray) (a1 : Int) (r : Bool) (w : World) (h : hallmarkref19_Builtin.f a0 a1 = some r) :
    Calls Tryz.prog 20 #[.string a0, .int .i64 a1] w fun e w' => e = .returned (.bool r) ∧ Drawn0 w w' := by
  have H : (if a1 = 0 then (if a0.toList = ([101, 109, 112, 116, 121] : List UInt8) then (some true) else (if a0.toList = ([101, 114, 114, 111, 114] : List UInt8) then (some true) else (if a0.toList = ([108, 101, 110, 103, 116, 104] : List UInt8) then (some true) else (if a0.toList = ([117, 116, 102, 56, 98, 121, 116, 101, 108, 101, 110, 103, 116, 104] : List UInt8) then (some true) else (if a0.toList = ([110, 111, 116] : List UInt8) then (some true) else (if a0.toList = ([107, 101, 121, 115] : List UInt8) then (some true) else (if a0.toList = ([116, 121, 112, 101] : List UInt8) then (some true) else (if a0.toList = ([116, 111, 115, 116, 114, 105, 110, 103] : List UInt8) then (some true) else (if a0.toList = ([116, 111, 110, 117, 109, 98, 101, 114] : List UInt8) then (some true) else (if a0.toList = ([116, 111, 106, 115, 111, 110] : List UInt8) then (some true) else (if a0.toList = ([102, 114, 111, 109, 106, 115, 111, 110] : List UInt8) then (some true) else (if a0.toList = ([97, 115, 99, 105, 105, 95, 100, 111, 119, 110, 99, 97, 115, 101] : List UInt8) then (some true) else (if a0.toList = ([97, 115, 99, 105, 105, 95, 117, 112, 99, 97, 115, 101] : List UInt8) then (some true) else (if a0.toList = ([101, 120, 112, 108, 111, 100, 101] : List UInt8) then (some true) else (if a0.toList = ([105, 109, 112, 108, 111, 100, 101] : List UInt8) then (some true) else (if a0.toList = ([114, 101, 118, 101, 114, 115, 101] : List UInt8) then (some true) else (if a0.toList = ([115, 111, 114, 116] : List UInt8) then (some true) else (if a0.toList = ([109, 105, 110] : List UInt8) then (some true) else (if a0.toList = ([109, 97, 120] : List UInt8) then (some true) else (if a0.toList = ([117, 110, 105, 113, 117, 101] : List UInt8) then (some true) else (if a0.toList = ([97, 100, 100] : List UInt8) then (some true) else (if a0.toList = ([102, 108, 97, 116, 116, 101, 110] : List UInt8) then (some true) else (if a0.toList = ([116, 114, 97, 110, 115, 112, 111, 115, 101] : List UInt8) then (some true) else (if a0.toList = ([97, 98, 115] : List UInt8) then (some true) else (if a0.toList = ([116, 111, 97, 114, 114, 97, 121] : List UInt8) then (some true) else (some false)))))))))))))))))))))))))) else (if a1 = 1 then (if a0.toList = ([101, 114, 114, 111, 114] : List UInt8) then (some true) else (if a0.toList = ([112, 97, 116, 104] : List UInt8) then (some true) else (if a0.toList = ([104, 97, 115] : List UInt8) then (some true) else (if a0.toList = ([99, 111, 110, 116, 97, 105, 110, 115] : List UInt8) then (some true) else (if a0.toList = ([115, 116, 97, 114, 116, 115, 119, 105, 116, 104] : List UInt8) then (some true) else (if a0.toList = ([101, 110, 100, 115, 119, 105, 116, 104] : List UInt8) then (some true) else (if a0.toList = ([108, 116, 114, 105, 109, 115, 116, 114] : List UInt8) then (some true) else (if a0.toList = ([114, 116, 114, 105, 109, 115, 116, 114] : List UInt8) then (some true) else (if a0.toList = ([115, 112, 108, 105, 116] : List UInt8) then (some true) else (if a0.toList = ([106, 111, 105, 110] : List UInt8) then (some true) else (if a0.toList = ([105, 110, 100, 105, 99, 101, 115] : List UInt8) then (some true) else (if a0.toList = ([95, 115, 111, 114, 116, 95, 98, 121] : List UInt8) then (some true) else (if a0.toList = ([95, 103, 114, 111, 117, 112, 95, 98, 121] : List UInt8) then (some true) else (if a0.toList = ([95, 117, 110, 105, 113, 117, 101, 95, 98, 121] : List UInt8) then (some true) else (if a0.toList = ([95, 109, 105, 110, 95, 98, 121] : List UInt8) then (some true) else (if a0.toList = ([95, 109, 97, 120, 95, 98, 121] : List UInt8) then (some true) else (if a0.toList = ([103, 101, 116, 112, 97, 116, 104] : List UInt8) then (some true) else (if a0.toList = ([100, 101, 108, 112, 97, 116, 104, 115] : List UInt8) then (some true) else (some false))))))))))))))))))) else (if a1 = 2 then (if a0.toList = ([114, 97, 110, 103, 101] : List UInt8) then (some true) else (some (a0.toList == ([115, 101, 116, 112, 97, 116, 104] : List UInt8)))) else (some false)))) = some r := h
  clear h
  by_cases c3 : a1 = 0
  · rw [if_pos c3] at H
    have c3b0 : (a1 == 0) = true := beq_iff_eq.mpr c3
    have c3b1 : (a1 != 0) = false := bne_eq_false_iff_eq.mpr c3
    clear c3
    by_cases c4 : a0.toList = ([101, 109, 112, 116, 121] : List UInt8)
    · rw [if_pos c4] at H
      have c4b0 : (a0.toList == ([101, 109, 112, 116, 121] : List UInt8)) = true := beq_iff_eq.mpr c4
      have c4b1 : (a0.toList != ([101, 109, 112, 116, 121] : List UInt8)) = false := bne_eq_false_iff_eq.mpr c4
      clear c4
      obtain rfl := Option.some.inj H
      go_enter Tryz.func20, Tryz.ntmps20
      go_wp2
      go_ret
      exact ⟨by first | rfl | (simp; done) | (simp [*]; done), by repeat (first | exact Drawn0.refl _ | apply Drawn0.step)⟩
    · rw [if_neg c4] at H
      have c4b0 : (a0.toList == ([101, 109, 112, 116, 121] : List UInt8)) = false := beq_eq_false_iff_ne.mpr c4
      have c4b1 : (a0.toList != ([101, 109, 112, 116, 121] : List UInt8)) = true := bne_iff_ne.mpr c4
      by_cases c5 : a0.toList = ([101, 114, 114, 111, 114] : List UInt8)
      · rw [if_pos c5] at H
        have c5b0 : (a0.toList == ([101, 114, 114, 111, 114] : List UInt8)) = true := beq_iff_eq.mpr c5
        have c5b1 : (a0.toList != ([101, 114, 114, 111, 114] : List UInt8)) = false := bne_eq_false_iff_eq.mpr c5
        clear c5
        obtain rfl := Option.some.inj H
        go_enter Tryz.func20, Tryz.ntmps20
        go_wp2
        go_ret
        exact ⟨by first | rfl | (simp; done) | (simp [*]; done), by repeat (first | exact Drawn0.refl _ | apply Drawn0.step)⟩
      · rw [if_neg c5] at H
        have c5b0 : (a0.toList == ([101, 114, 114, 111, 114] : List UInt8)) = false := beq_eq_false_iff_ne.mpr c5
        have c5b1 : (a0.toList != ([101, 114, 114, 111, 114] : List UInt8)) = true := bne_iff_ne.mpr c5
        by_cases c6 : a0.toList = ([108, 101, 110, 103, 116, 104] : List UInt8)
        · rw [if_pos c6] at H
          have c6b0 : (a0.toList == ([108, 101, 110, 103, 116, 104] : List UInt8)) = true := beq_iff_eq.mpr c6
          have c6b1 : (a0.toList != ([108, 101, 110, 103, 116, 104] : List UInt8)) = false := bne_eq_false_iff_eq.mpr c6
          clear c6
          obtain rfl := Option.some.inj H
          go_enter Tryz.func20, Tryz.ntmps20
          go_wp2
          go_ret
          exact ⟨by first | rfl | (simp; done) | (simp [*]; done), by repeat (first | exact Drawn0.refl _ | apply Drawn0.step)⟩
        · rw [if_neg c6] at H
          have c6b0 : (a0.toList == ([108, 101, 110, 103, 116, 104] : List UInt8)) = false := beq_eq_false_iff_ne.mpr c6
          have c6b1 : (a0.toList != ([108, 101, 110, 103, 116, 104] : List UInt8)) = true := bne_iff_ne.mpr c6
          by_cases c7 : a0.toList = ([117, 116, 102, 56, 98, 121, 116, 101, 108, 101, 110, 103, 116, 104] : List UInt8)
          · rw [if_pos c7] at H
            have c7b0 : (a0.toList == ([117, 116, 102, 56, 98, 121, 116, 101, 108, 101, 110, 103, 116, 104] : List UInt8)) = true := beq_iff_eq.mpr c7
            have c7b1 : (a0.toList != ([117, 116, 102, 56, 98, 121, 116, 101, 108, 101, 110, 103, 116, 104] : List UInt8)) = false := bne_eq_false_iff_eq.mpr c7
            clear c7
            obtain rfl := Option.some.inj H
            go_enter Tryz.func20, Tryz.ntmps20
            go_wp2
            go_ret
            exact ⟨by first | rfl | (simp; done) | (simp [*]; done), by repeat (first | exact Drawn0.refl _ | apply Drawn0.step)⟩
          · rw [if_neg c7] at H
            have c7b0 : (a0.toList == ([117, 116, 102, 56, 98, 121, 116, 101, 108, 101, 110, 103, 116, 104] : List UInt8)) = false := beq_eq_false_iff_ne.mpr c7
            have c7b1 : (a0.toList != ([117, 116, 102, 56, 98, 121, 116, 101, 108, 101, 110, 103, 116, 104] : List UInt8)) = true := bne_iff_ne.mpr c7
            by_cases c8 : a0.toList = ([110, 111, 116] : List UInt8)
            · rw [if_pos c8] at H
              have c8b0 : (a0.toList == ([110, 111, 116] : List UInt8)) = true := beq_iff_eq.mpr c8
              have c8b1 : (a0.toList != ([110, 111, 116] : List UInt8)) = false := bne_eq_false_iff_eq.mpr c8
              clear c8
              obtain rfl := Option.some.inj H
              go_enter Tryz.func20, Tryz.ntmps20
              go_wp2
              go_ret
              exact ⟨by first | rfl | (simp; done) | (simp [*]; done), by repeat (first | exact Drawn0.refl _ | apply Drawn0.step)⟩
            · rw [if_neg c8] at H
              have c8b0 : (a0.toList == ([110, 111, 116] : List UInt8)) = false := beq_eq_false_iff_ne.mpr c8
              have c8b1 : (a0.toList != ([110, 111, 116] : List UInt8)) = true := bne_iff_ne.mpr c8
              by_cases c9 : a0.toList = ([107, 101, 121, 115] : List UInt8)
              · rw [if_pos c9] at H
                have c9b0 : (a0.toList == ([107, 101, 121, 115] : List UInt8)) = true := beq_iff_eq.mpr c9
                have c9b1 : (a0.toList != ([107, 101, 121, 115] : List UInt8)) = false := bne_eq_false_iff_eq.mpr c9
                clear c9
                obtain rfl := Option.some.inj H
                go_enter Tryz.func20, Tryz.ntmps20
                go_wp2
                go_ret
                exact ⟨by first | rfl | (simp; done) | (simp [*]; done), by repeat (first | exact Drawn0.refl _ | apply Drawn0.step)⟩
              · rw [if_neg c9] at H
                have c9b0 : (a0.toList == ([107, 101, 121, 115] : List UInt8)) = false := beq_eq_false_iff_ne.mpr c9
                have c9b1 : (a0.toList != ([107, 101, 121, 115] : List UInt8)) = true := bne_iff_ne.mpr c9
                by_cases c10 : a0.toList = ([116, 121, 112, 101] : List UInt8)
                · rw [if_pos c10] at H
                  have c10b0 : (a0.toList == ([116, 121, 112, 101] : List UInt8)) = true := beq_iff_eq.mpr c10
                  have c10b1 : (a0.toList != ([116, 121, 112, 101] : List UInt8)) = false := bne_eq_false_iff_eq.mpr c10
                  clear c10
                  obtain rfl := Option.some.inj H
                  go_enter Tryz.func20, Tryz.ntmps20
                  go_wp2
                  go_ret
                  exact ⟨by first | rfl | (simp; done) | (simp [*]; done), by repeat (first | exact Drawn0.refl _ | apply Drawn0.step)⟩
                · rw [if_neg c10] at H
                  have c10b0 : (a0.toList == ([116, 121, 112, 101] : List UInt8)) = false := beq_eq_false_iff_ne.mpr c10
                  have c10b1 : (a0.toList != ([116, 121, 112, 101] : List UInt8)) = true := bne_iff_ne.mpr c10
                  by_cases c11 : a0.toList = ([116, 111, 115, 116, 114, 105, 110, 103] : List UInt8)
                  · rw [if_pos c11] at H
                    have c11b0 : (a0.toList == ([116, 111, 115, 116, 114, 105, 110, 103] : List UInt8)) = true := beq_iff_eq.mpr c11
                    have c11b1 : (a0.toList != ([116, 111, 115, 116, 114, 105, 110, 103] : List UInt8)) = false := bne_eq_false_iff_eq.mpr c11
                    clear c11
                    obtain rfl := Option.some.inj H
                    go_enter Tryz.func20, Tryz.ntmps20
                    go_wp2
                    go_ret
                    exact ⟨by first | rfl | (simp; done) | (simp [*]; done), by repeat (first | exact Drawn0.refl _ | apply Drawn0.step)⟩
                  · rw [if_neg c11] at H
                    have c11b0 : (a0.toList == ([116, 111, 115, 116, 114, 105, 110, 103] : List UInt8)) = false := beq_eq_false_iff_ne.mpr c11
                    have c11b1 : (a0.toList != ([116, 111, 115, 116, 114, 105, 110, 103] : List UInt8)) = true := bne_iff_ne.mpr c11
                    by_cases c12 : a0.toList = ([116, 111, 110, 117, 109, 98, 101, 114] : List UInt8)
                    · rw [if_pos c12] at H
                      have c12b0 : (a0.toList == ([116, 111, 110, 117, 109, 98, 101, 114] : List UInt8)) = true := beq_iff_eq.mpr c12
                      have c12b1 : (a0.toList != ([116, 111, 110, 117, 109, 98, 101, 114] : List UInt8)) = false := bne_eq_false_iff_eq.mpr c12
                      clear c12
                      obtain rfl := Option.some.inj H
                      go_enter Tryz.func20, Tryz.ntmps20
                      go_wp2
                      go_ret
                      exact ⟨by first | rfl | (simp; done) | (simp [*]; done), by repeat (first | exact Drawn0.refl _ | apply Drawn0.step)⟩
                    · rw [if_neg c12] at H
                      have c12b0 : (a0.toList == ([116, 111, 110, 117, 109, 98, 101, 114] : List UInt8)) = false := beq_eq_false_iff_ne.mpr c12
                      have c12b1 : (a0.toList != ([116, 111, 110, 117, 109, 98, 101, 114] : List UInt8)) = true := bne_iff_ne.mpr c12
                      by_cases c13 : a0.toList = ([116, 111, 106, 115, 111, 110] : List UInt8)
                      · rw [if_pos c13] at H
                        have c13b0 : (a0.toList == ([116, 111, 106, 115, 111, 110] : List UInt8)) = true := beq_iff_eq.mpr c13
                        have c13b1 : (a0.toList != ([116, 111, 106, 115, 111, 110] : List UInt8)) = false := bne_eq_false_iff_eq.mpr c13
                        clear c13
                        obtain rfl := Option.some.inj H
                        go_enter Tryz.func20, Tryz.ntmps20
                        go_wp2
                        go_ret
                        exact ⟨by first | rfl | (simp; done) | (simp [*]; done), by repeat (first | exact Drawn0.refl _ | apply Drawn0.step)⟩
                      · rw [if_neg c13] at H
                        have c13b0 : (a0.toList == ([116, 111, 106, 115, 111, 110] : List UInt8)) = false := beq_eq_false_iff_ne.mpr c13
                        have c13b1 : (a0.toList != ([116, 111, 106, 115, 111, 110] : List UInt8)) = true := bne_iff_ne.mpr c13
                        by_cases c14 : a0.toList = ([102, 114, 111, 109, 106, 115, 111, 110] : List UInt8)
                        · rw [if_pos c14] at H
                          have c14b0 : (a0.toList == ([102, 114, 111, 109, 106, 115, 111, 110] : List UInt8)) = true := beq_iff_eq.mpr c14
                          have c14b1 : (a0.toList != ([102, 114, 111, 109, 106, 115, 111, 110] : List UInt8)) = false := bne_eq_false_iff_eq.mpr c14
                          clear c14
                          obtain rfl := Option.some.inj H
                          go_enter Tryz.func20, Tryz.ntmps20
                          go_wp2
                          go_ret
                          exact ⟨by first | rfl | (simp; done) | (simp [*]; done), by repeat (first | exact Drawn0.refl _ | apply Drawn0.step)⟩
                        · rw [if_neg c14] at H
                          have c14b0 : (a0.toList == ([102, 114, 111, 109, 106, 115, 111, 110] : List UInt8)) = false := beq_eq_false_iff_ne.mpr c14
                          have c14b1 : (a0.toList != ([102, 114, 111, 109, 106, 115, 111, 110] : List UInt8)) = true := bne_iff_ne.mpr c14
                          by_cases c15 : a0.toList = ([97, 115, 99, 105, 105, 95, 100, 111, 119, 110, 99, 97, 115, 101] : List UInt8)
                          · rw [if_pos c15] at H
                            have c15b0 : (a0.toList == ([97, 115, 99, 105, 105, 95, 100, 111, 119, 110, 99, 97, 115, 101] : List UInt8)) = true := beq_iff_eq.mpr c15
                            have c15b1 : (a0.toList != ([97, 115, 99, 105, 105, 95, 100, 111, 119, 110, 99, 97, 115, 101] : List UInt8)) = false := bne_eq_false_iff_eq.mpr c15
                            clear c15
                            obtain rfl := Option.some.inj H
                            go_enter Tryz.func20, Tryz.ntmps20
                            go_wp2
                            go_ret
                            exact ⟨by first | rfl | (simp; done) | (simp [*]; done), by repeat (first | exact Drawn0.refl _ | apply Drawn0.step)⟩
                          · rw [if_neg c15] at H
                            have c15b0 : (a0.toList == ([97, 115, 99, 105, 105, 95, 100, 111, 119, 110, 99, 97, 115, 101] : List UInt8)) = false := beq_eq_false_iff_ne.mpr c15
                            have c15b1 : (a0.toList != ([97, 115, 99, 105, 105, 95, 100, 111, 119, 110, 99, 97, 115, 101] : List UInt8)) = true := bne_iff_ne.mpr c15
                            by_cases c16 : a0.toList = ([97, 115, 99, 105, 105, 95, 117, 112, 99, 97, 115, 101] : List UInt8)
                            · rw [if_pos c16] at H
                              have c16b0 : (a0.toList == ([97, 115, 99, 105, 105, 95, 117, 112, 99, 97, 115, 101] : List UInt8)) = true := beq_iff_eq.mpr c16
                              have c16b1 : (a0.toList != ([97, 115, 99, 105, 105, 95, 117, 112, 99, 97, 115, 101] : List UInt8)) = false := bne_eq_false_iff_eq.mpr c16
                              clear c16
                              obtain rfl := Option.some.inj H
                              go_enter Tryz.func20, Tryz.ntmps20
                              go_wp2
                              go_ret
                              exact ⟨by first | rfl | (simp; done) | (simp [*]; done), by repeat (first | exact Drawn0.refl _ | apply Drawn0.step)⟩
                            · rw [if_neg c16] at H
                              have c16b0 : (a0.toList == ([97, 115, 99, 105, 105, 95, 117, 112, 99, 97, 115, 101] : List UInt8)) = false := beq_eq_false_iff_ne.mpr c16
                              have c16b1 : (a0.toList != ([97, 115, 99, 105, 105, 95, 117, 112, 99, 97, 115, 101] : List UInt8)) = true := bne_iff_ne.mpr c16
                              by_cases c17 : a0.toList = ([101, 120, 112, 108, 111, 100, 101] : List UInt8)
                              · rw [if_pos c17] at H
                                have c17b0 : (a0.toList == ([101, 120, 112, 108, 111, 100, 101] : List UInt8)) = true := beq_iff_eq.mpr c17
                                have c17b1 : (a0.toList != ([101, 120, 112, 108, 111, 100, 101] : List UInt8)) = false := bne_eq_false_iff_eq.mpr c17
                                clear c17
                                obtain rfl := Option.some.inj H
                                go_enter Tryz.func20, Tryz.ntmps20
                                go_wp2
                                go_ret
                                exact ⟨by first | rfl | (simp; done) | (simp [*]; done), by repeat (first | exact Drawn0.refl _ | apply Drawn0.step)⟩
                              · rw [if_neg c17] at H
                                have c17b0 : (a0.toList == ([101, 120, 112, 108, 111, 100, 101] : List UInt8)) = false := beq_eq_false_iff_ne.mpr c17
                                have c17b1 : (a0.toList != ([101, 120, 112, 108, 111, 100, 101] : List UInt8)) = true := bne_iff_ne.mpr c17
                                by_cases c18 : a0.toList = ([105, 109, 112, 108, 111, 100, 101] : List UInt8)
                                · rw [if_pos c18] at H
                                  have c18b0 : (a0.toList == ([105, 109, 112, 108, 111, 100, 101] : List UInt8)) = true := beq_iff_eq.mpr c18
                                  have c18b1 : (a0.toList != ([105, 109, 112, 108, 111, 100, 101] : List UInt8)) = false := bne_eq_false_iff_eq.mpr c18
                                  clear c18
                                  obtain rfl := Option.some.inj H
                                  go_enter Tryz.func20, Tryz.ntmps20
                                  go_wp2
                                  go_ret
                                  exact ⟨by first | rfl | (simp; done) | (simp [*]; done), by repeat (first | exact Drawn0.refl _ | apply Drawn0.step)⟩
                                · rw [if_neg c18] at H
                                  have c18b0 : (a0.toList == ([105, 109, 112, 108, 111, 100, 101] : List UInt8)) = false := beq_eq_false_iff_ne.mpr c18
                                  have c18b1 : (a0.toList != ([105, 109, 112, 108, 111, 100, 101] : List UInt8)) = true := bne_iff_ne.mpr c18
                                  by_cases c19 : a0.toList = ([114, 101, 118, 101, 114, 115, 101] : List UInt8)
                                  · rw [if_pos c19] at H
                                    have c19b0 : (a0.toList == ([114, 101, 118, 101, 114, 115, 101] : List UInt8)) = true := beq_iff_eq.mpr c19
                                    have c19b1 : (a0.toList != ([114, 101, 118, 101, 114, 115, 101] : List UInt8)) = false := bne_eq_false_iff_eq.mpr c19
                                    clear c19
                                    obtain rfl := Option.some.inj H
                                    go_enter Tryz.func20, Tryz.ntmps20
                                    go_wp2
                                    go_ret
                                    exact ⟨by first | rfl | (simp; done) | (simp [*]; done), by repeat (first | exact Drawn0.refl _ | apply Drawn0.step)⟩
                                  · rw [if_neg c19] at H
                                    have c19b0 : (a0.toList == ([114, 101, 118, 101, 114, 115, 101] : List UInt8)) = false := beq_eq_false_iff_ne.mpr c19
                                    have c19b1 : (a0.toList != ([114, 101, 118, 101, 114, 115, 101] : List UInt8)) = true := bne_iff_ne.mpr c19
                                    by_cases c20 : a0.toList = ([115, 111, 114, 116] : List UInt8)
                                    · rw [if_pos c20] at H
                                      have c20b0 : (a0.toList == ([115, 111, 114, 116] : List UInt8)) = true := beq_iff_eq.mpr c20
                                      have c20b1 : (a0.toList != ([115, 111, 114, 116] : List UInt8)) = false := bne_eq_false_iff_eq.mpr c20
                                      clear c20
                                      obtain rfl := Option.some.inj H
                                      go_enter Tryz.func20, Tryz.ntmps20
                                      go_wp2
                                      go_ret
                                      exact ⟨by first | rfl | (simp; done) | (simp [*]; done), by repeat (first | exact Drawn0.refl _ | apply Drawn0.step)⟩
                                    · rw [if_neg c20] at H
                                      have c20b0 : (a0.toList == ([115, 111, 114, 116] : List UInt8)) = false := beq_eq_false_iff_ne.mpr c20
                                      have c20b1 : (a0.toList != ([115, 111, 114, 116] : List UInt8)) = true := bne_iff_ne.mpr c20
                                      by_cases c21 : a0.toList = ([109, 105, 110] : List UInt8)
                                      · rw [if_pos c21] at H
                                        have c21b0 : (a0.toList == ([109, 105, 110] : List UInt8)) = true := beq_iff_eq.mpr c21
                                        have c21b1 : (a0.toList != ([109, 105, 110] : List UInt8)) = false := bne_eq_false_iff_eq.mpr c21
                                        clear c21
                                        obtain rfl := Option.some.inj H
                                        go_enter Tryz.func20, Tryz.ntmps20
                                        go_wp2
                                        go_ret
                                        exact ⟨by first | rfl | (simp; done) | (simp [*]; done), by repeat (first | exact Drawn0.refl _ | apply Drawn0.step)⟩
                                      · rw [if_neg c21] at H
                                        have c21b0 : (a0.toList == ([109, 105, 110] : List UInt8)) = false := beq_eq_false_iff_ne.mpr c21
                                        have c21b1 : (a0.toList != ([109, 105, 110] : List UInt8)) = true := bne_iff_ne.mpr c21
                                        by_cases c22 : a0.toList = ([109, 97, 120] : List UInt8)
                                        · rw [if_pos c22] at H
                                          have c22b0 : (a0.toList == ([109, 97, 120] : List UInt8)) = true := beq_iff_eq.mpr c22
                                          have c22b1 : (a0.toList != ([109, 97, 120] : List UInt8)) = false := bne_eq_false_iff_eq.mpr c22
                                          clear c22
                                          obtain rfl := Option.some.inj H
                                          go_enter Tryz.func20, Tryz.ntmps20
                                          go_wp2
                                          go_ret
                                          exact ⟨by first | rfl | (simp; done) | (simp [*]; done), by repeat (first | exact Drawn0.refl _ | apply Drawn0.step)⟩
                                        · rw [if_neg c22] at H
                                          have c22b0 : (a0.toList == ([109, 97, 120] : List UInt8)) = false := beq_eq_false_iff_ne.mpr c22
                                          have c22b1 : (a0.toList != ([109, 97, 120] : List UInt8)) = true := bne_iff_ne.mpr c22
                                          by_cases c23 : a0.toList = ([117, 110, 105, 113, 117, 101] : List UInt8)
                                          · rw [if_pos c23] at H
                                            have c23b0 : (a0.toList == ([117, 110, 105, 113, 117, 101] : List UInt8)) = true := beq_iff_eq.mpr c23
                                            have c23b1 : (a0.toList != ([117, 110, 105, 113, 117, 101] : List UInt8)) = false := bne_eq_false_iff_eq.mpr c23
                                            clear c23
                                            obtain rfl := Option.some.inj H
                                            go_enter Tryz.func20, Tryz.ntmps20
                                            go_wp2
                                            go_ret
                                            exact ⟨by first | rfl | (simp; done) | (simp [*]; done), by repeat (first | exact Drawn0.refl _ | apply Drawn0.step)⟩
                                          · rw [if_neg c23] at H
                                            have c23b0 : (a0.toList == ([117, 110, 105, 113, 117, 101] : List UInt8)) = false := beq_eq_false_iff_ne.mpr c23
                                            have c23b1 : (a0.toList != ([117, 110, 105, 113, 117, 101] : List UInt8)) = true := bne_iff_ne.mpr c23
                                            by_cases c24 : a0.toList = ([97, 100, 100] : List UInt8)
                                            · rw [if_pos c24] at H
                                              have c24b0 : (a0.toList == ([97, 100, 100] : List UInt8)) = true := beq_iff_eq.mpr c24
                                              have c24b1 : (a0.toList != ([97, 100, 100] : List UInt8)) = false := bne_eq_false_iff_eq.mpr c24
                                              clear c24
                                              obtain rfl := Option.some.inj H
                                              go_enter Tryz.func20, Tryz.ntmps20
                                              go_wp2
                                              go_ret
                                              exact ⟨by first | rfl | (simp; done) | (simp [*]; done), by repeat (first | exact Drawn0.refl _ | apply Drawn0.step)⟩
                                            · rw [if_neg c24] at H
                                              have c24b0 : (a0.toList == ([97, 100, 100] : List UInt8)) = false := beq_eq_false_iff_ne.mpr c24
                                              have c24b1 : (a0.toList != ([97, 100, 100] : List UInt8)) = true := bne_iff_ne.mpr c24
                                              by_cases c25 : a0.toList = ([102, 108, 97, 116, 116, 101, 110] : List UInt8)
                                              · rw [if_pos c25] at H
                                                have c25b0 : (a0.toList == ([102, 108, 97, 116, 116, 101, 110] : List UInt8)) = true := beq_iff_eq.mpr c25
                                                have c25b1 : (a0.toList != ([102, 108, 97, 116, 116, 101, 110] : List UInt8)) = false := bne_eq_false_iff_eq.mpr c25
                                                clear c25
                                                obtain rfl := Option.some.inj H
                                                go_enter Tryz.func20, Tryz.ntmps20
                                                go_wp2
                                                go_ret
                                                exact ⟨by first | rfl | (simp; done) | (simp [*]; done), by repeat (first | exact Drawn0.refl _ | apply Drawn0.step)⟩
                                              · rw [if_neg c25] at H
                                                have c25b0 : (a0.toList == ([102, 108, 97, 116, 116, 101, 110] : List UInt8)) = false := beq_eq_false_iff_ne.mpr c25
                                                have c25b1 : (a0.toList != ([102, 108, 97, 116, 116, 101, 110] : List UInt8)) = true := bne_iff_ne.mpr c25
                                                by_cases c26 : a0.toList = ([116, 114, 97, 110, 115, 112, 111, 115, 101] : List UInt8)
                                                · rw [if_pos c26] at H
                                                  have c26b0 : (a0.toList == ([116, 114, 97, 110, 115, 112, 111, 115, 101] : List UInt8)) = true := beq_iff_eq.mpr c26
                                                  have c26b1 : (a0.toList != ([116, 114, 97, 110, 115, 112, 111, 115, 101] : List UInt8)) = false := bne_eq_false_iff_eq.mpr c26
                                                  clear c26
                                                  obtain rfl := Option.some.inj H
                                                  go_enter Tryz.func20, Tryz.ntmps20
                                                  go_wp2
                                                  go_ret
                                                  exact ⟨by first | rfl | (simp; done) | (simp [*]; done), by repeat (first | exact Drawn0.refl _ | apply Drawn0.step)⟩
                                                · rw [if_neg c26] at H
                                                  have c26b0 : (a0.toList == ([116, 114, 97, 110, 115, 112, 111, 115, 101] : List UInt8)) = false := beq_eq_false_iff_ne.mpr c26
                                                  have c26b1 : (a0.toList != ([116, 114, 97, 110, 115, 112, 111, 115, 101] : List UInt8)) = true := bne_iff_ne.mpr c26
                                                  by_cases c27 : a0.toList = ([97, 98, 115] : List UInt8)
                                                  · rw [if_pos c27] at H
                                                    have c27b0 : (a0.toList == ([97, 98, 115] : List UInt8)) = true := beq_iff_eq.mpr c27
                                                    have c27b1 : (a0.toList != ([97, 98, 115] : List UInt8)) = false := bne_eq_false_iff_eq.mpr c27
                                                    clear c27
                                                    obtain rfl := Option.some.inj H
                                                    go_enter Tryz.func20, Tryz.ntmps20
                                                    go_wp2
                                                    go_ret
                                                    exact ⟨by first | rfl | (simp; done) | (simp [*]; done), by repeat (first | exact Drawn0.refl _ | apply Drawn0.step)⟩
                                                  · rw [if_neg c27] at H
                                                    have c27b0 : (a0.toList == ([97, 98, 115] : List UInt8)) = false := beq_eq_false_iff_ne.mpr c27
                                                    have c27b1 : (a0.toList != ([97, 98, 115] : List UInt8)) = true := bne_iff_ne.mpr c27
                                                    by_cases c28 : a0.toList = ([116, 111, 97, 114, 114, 97, 121] : List UInt8)
                                                    · rw [if_pos c28] at H
                                                      have c28b0 : (a0.toList == ([116, 111, 97, 114, 114, 97, 121] : List UInt8)) = true := beq_iff_eq.mpr c28
                                                      have c28b1 : (a0.toList != ([116, 111, 97, 114, 114, 97, 121] : List UInt8)) = false := bne_eq_false_iff_eq.mpr c28
                                                      clear c28
                                                      obtain rfl := Option.some.inj H
                                                      go_enter Tryz.func20, Tryz.ntmps20
                                                      go_wp2
                                                      go_ret
                                                      exact ⟨by first | rfl | (simp; done) | (simp [*]; done), by repeat (first | exact Drawn0.refl _ | apply Drawn0.step)⟩
                                                    · rw [if_neg c28] at H
                                                      have c28b0 : (a0.toList == ([116, 111, 97, 114, 114, 97, 121] : List UInt8)) = false := beq_eq_false_iff_ne.mpr c28
                                                      have c28b1 : (a0.toList != ([116, 111, 97, 114, 114, 97, 121] : List UInt8)) = true := bne_iff_ne.mpr c28
                                                      obtain rfl := Option.some.inj H
                                                      go_enter Tryz.func20, Tryz.ntmps20
                                                      go_wp2
                                                      go_ret
                                                      exact ⟨by first | rfl | (simp; done) | (simp [*]; done), by repeat (first | exact Drawn0.refl _ | apply Drawn0.step)⟩
  · rw [if_neg c3] at H
    have c3b0 : (a1 == 0) = false := beq_eq_false_iff_ne.mpr c3
    have c3b1 : (a1 != 0) = true := bne_iff_ne.mpr c3
    by_cases c29 : a1 = 1
    · rw [if_pos c29] at H
      have c29b0 : (a1 == 1) = true := beq_iff_eq.mpr c29
      have c29b1 : (a1 != 1) = false := bne_eq_false_iff_eq.mpr c29
      clear c29
      by_cases c30 : a0.toList = ([101, 114, 114, 111, 114] : List UInt8)
      · rw [if_pos c30] at H
        have c30b0 : (a0.toList == ([101, 114, 114, 111, 114] : List UInt8)) = true := beq_iff_eq.mpr c30
        have c30b1 : (a0.toList != ([101, 114, 114, 111, 114] : List UInt8)) = false := bne_eq_false_iff_eq.mpr c30
        clear c30
        obtain rfl := Option.some.inj H
        go_enter Tryz.func20, Tryz.ntmps20
        go_wp2
        go_ret
        exact ⟨by first | rfl | (simp; done) | (simp [*]; done), by repeat (first | exact Drawn0.refl _ | apply Drawn0.step)⟩
      · rw [if_neg c30] at H
        have c30b0 : (a0.toList == ([101, 114, 114, 111, 114] : List UInt8)) = false := beq_eq_false_iff_ne.mpr c30
        have c30b1 : (a0.toList != ([101, 114, 114, 111, 114] : List UInt8)) = true := bne_iff_ne.mpr c30
        by_cases c31 : a0.toList = ([112, 97, 116, 104] : List UInt8)
        · rw [if_pos c31] at H
          have c31b0 : (a0.toList == ([112, 97, 116, 104] : List UInt8)) = true := beq_iff_eq.mpr c31
          have c31b1 : (a0.toList != ([112, 97, 116, 104] : List UInt8)) = false := bne_eq_false_iff_eq.mpr c31
          clear c31
          obtain rfl := Option.some.inj H
          go_enter Tryz.func20, Tryz.ntmps20
          go_wp2
          go_ret
          exact ⟨by first | rfl | (simp; done) | (simp [*]; done), by repeat (first | exact Drawn0.refl _ | apply Drawn0.step)⟩
        · rw [if_neg c31] at H
          have c31b0 : (a0.toList == ([112, 97, 116, 104] : List UInt8)) = false := beq_eq_false_iff_ne.mpr c31
          have c31b1 : (a0.toList != ([112, 97, 116, 104] : List UInt8)) = true := bne_iff_ne.mpr c31
          by_cases c32 : a0.toList = ([104, 97, 115] : List UInt8)
          · rw [if_pos c32] at H
            have c32b0 : (a0.toList == ([104, 97, 115] : List UInt8)) = true := beq_iff_eq.mpr c32
            have c32b1 : (a0.toList != ([104, 97, 115] : List UInt8)) = false := bne_eq_false_iff_eq.mpr c32
            clear c32
            obtain rfl := Option.some.inj H
            go_enter Tryz.func20, Tryz.ntmps20
            go_wp2
            go_ret
            exact ⟨by first | rfl | (simp; done) | (simp [*]; done), by repeat (first | exact Drawn0.refl _ | apply Drawn0.step)⟩
          · rw [if_neg c32] at H
            have c32b0 : (a0.toList == ([104, 97, 115] : List UInt8)) = false := beq_eq_false_iff_ne.mpr c32
            have c32b1 : (a0.toList != ([104, 97, 115] : List UInt8)) = true := bne_iff_ne.mpr c32
            by_cases c33 : a0.toList = ([99, 111, 110, 116, 97, 105, 110, 115] : List UInt8)
            · rw [if_pos c33] at H
              have c33b0 : (a0.toList == ([99, 111, 110, 116, 97, 105, 110, 115] : List UInt8)) = true := beq_iff_eq.mpr c33
              have c33b1 : (a0.toList != ([99, 111, 110, 116, 97, 105, 110, 115] : List UInt8)) = false := bne_eq_false_iff_eq.mpr c33
              clear c33
              obtain rfl := Option.some.inj H
              go_enter Tryz.func20, Tryz.ntmps20
              go_wp2
              go_ret
              exact ⟨by first | rfl | (simp; done) | (simp [*]; done), by repeat (first | exact Drawn0.refl _ | apply Drawn0.step)⟩
            · rw [if_neg c33] at H
              have c33b0 : (a0.toList == ([99, 111, 110, 116, 97, 105, 110, 115] : List UInt8)) = false := beq_eq_false_iff_ne.mpr c33
              have c33b1 : (a0.toList != ([99, 111, 110, 116, 97, 105, 110, 115] : List UInt8)) = true := bne_iff_ne.mpr c33
              by_cases c34 : a0.toList = ([115, 116, 97, 114, 116, 115, 119, 105, 116, 104] : List UInt8)
              · rw [if_pos c34] at H
                have c34b0 : (a0.toList == ([115, 116, 97, 114, 116, 115, 119, 105, 116, 104] : List UInt8)) = true := beq_iff_eq.mpr c34
                have c34b1 : (a0.toList != ([115, 116, 97, 114, 116, 115, 119, 105, 116, 104] : List UInt8)) = false := bne_eq_false_iff_eq.mpr c34
                clear c34
                obtain rfl := Option.some.inj H
                go_enter Tryz.func20, Tryz.ntmps20
                go_wp2
                go_ret
                exact ⟨by first | rfl | (simp; done) | (simp [*]; done), by repeat (first | exact Drawn0.refl _ | apply Drawn0.step)⟩
              · rw [if_neg c34] at H
                have c34b0 : (a0.toList == ([115, 116, 97, 114, 116, 115, 119, 105, 116, 104] : List UInt8)) = false := beq_eq_false_iff_ne.mpr c34
                have c34b1 : (a0.toList != ([115, 116, 97, 114, 116, 115, 119, 105, 116, 104] : List UInt8)) = true := bne_iff_ne.mpr c34
                by_cases c35 : a0.toList = ([101, 110, 100, 115, 119, 105, 116, 104] : List UInt8)
                · rw [if_pos c35] at H
                  have c35b0 : (a0.toList == ([101, 110, 100, 115, 119, 105, 116, 104] : List UInt8)) = true := beq_iff_eq.mpr c35
                  have c35b1 : (a0.toList != ([101, 110, 100, 115, 119, 105, 116, 104] : List UInt8)) = false := bne_eq_false_iff_eq.mpr c35
                  clear c35
                  obtain rfl := Option.some.inj H
                  go_enter Tryz.func20, Tryz.ntmps20
                  go_wp2
                  go_ret
                  exact ⟨by first | rfl | (simp; done) | (simp [*]; done), by repeat (first | exact Drawn0.refl _ | apply Drawn0.step)⟩
                · rw [if_neg c35] at H
                  have c35b0 : (a0.toList == ([101, 110, 100, 115, 119, 105, 116, 104] : List UInt8)) = false := beq_eq_false_iff_ne.mpr c35
                  have c35b1 : (a0.toList != ([101, 110, 100, 115, 119, 105, 116, 104] : List UInt8)) = true := bne_iff_ne.mpr c35
                  by_cases c36 : a0.toList = ([108, 116, 114, 105, 109, 115, 116, 114] : List UInt8)
                  · rw [if_pos c36] at H
                    have c36b0 : (a0.toList == ([108, 116, 114, 105, 109, 115, 116, 114] : List UInt8)) = true := beq_iff_eq.mpr c36
                    have c36b1 : (a0.toList != ([108, 116, 114, 105, 109, 115, 116, 114] : List UInt8)) = false := bne_eq_false_iff_eq.mpr c36
                    clear c36
                    obtain rfl := Option.some.inj H
                    go_enter Tryz.func20, Tryz.ntmps20
                    go_wp2
                    go_ret
                    exact ⟨by first | rfl | (simp; done) | (simp [*]; done), by repeat (first | exact Drawn0.refl _ | apply Drawn0.step)⟩
                  · rw [if_neg c36] at H
                    have c36b0 : (a0.toList == ([108, 116, 114, 105, 109, 115, 116, 114] : List UInt8)) = false := beq_eq_false_iff_ne.mpr c36
                    have c36b1 : (a0.toList != ([108, 116, 114, 105, 109, 115, 116, 114] : List UInt8)) = true := bne_iff_ne.mpr c36
                    by_cases c37 : a0.toList = ([114, 116, 114, 105, 109, 115, 116, 114] : List UInt8)
                    · rw [if_pos c37] at H
                      have c37b0 : (a0.toList == ([114, 116, 114, 105, 109, 115, 116, 114] : List UInt8)) = true := beq_iff_eq.mpr c37
                      have c37b1 : (a0.toList != ([114, 116, 114, 105, 109, 115, 116, 114] : List UInt8)) = false := bne_eq_false_iff_eq.mpr c37
                      clear c37
                      obtain rfl := Option.some.inj H
                      go_enter Tryz.func20, Tryz.ntmps20
                      go_wp2
                      go_ret
                      exact ⟨by first | rfl | (simp; done) | (simp [*]; done), by repeat (first | exact Drawn0.refl _ | apply Drawn0.step)⟩
                    · rw [if_neg c37] at H
                      have c37b0 : (a0.toList == ([114, 116, 114, 105, 109, 115, 116, 114] : List UInt8)) = false := beq_eq_false_iff_ne.mpr c37
                      have c37b1 : (a0.toList != ([114, 116, 114, 105, 109, 115, 116, 114] : List UInt8)) = true := bne_iff_ne.mpr c37
                      by_cases c38 : a0.toList = ([115, 112, 108, 105, 116] : List UInt8)
                      · rw [if_pos c38] at H
                        have c38b0 : (a0.toList == ([115, 112, 108, 105, 116] : List UInt8)) = true := beq_iff_eq.mpr c38
                        have c38b1 : (a0.toList != ([115, 112, 108, 105, 116] : List UInt8)) = false := bne_eq_false_iff_eq.mpr c38
                        clear c38
                        obtain rfl := Option.some.inj H
                        go_enter Tryz.func20, Tryz.ntmps20
                        go_wp2
                        go_ret
                        exact ⟨by first | rfl | (simp; done) | (simp [*]; done), by repeat (first | exact Drawn0.refl _ | apply Drawn0.step)⟩
                      · rw [if_neg c38] at H
                        have c38b0 : (a0.toList == ([115, 112, 108, 105, 116] : List UInt8)) = false := beq_eq_false_iff_ne.mpr c38
                        have c38b1 : (a0.toList != ([115, 112, 108, 105, 116] : List UInt8)) = true := bne_iff_ne.mpr c38
                        by_cases c39 : a0.toList = ([106, 111, 105, 110] : List UInt8)
                        · rw [if_pos c39] at H
                          have c39b0 : (a0.toList == ([106, 111, 105, 110] : List UInt8)) = true := beq_iff_eq.mpr c39
                          have c39b1 : (a0.toList != ([106, 111, 105, 110] : List UInt8)) = false := bne_eq_false_iff_eq.mpr c39
                          clear c39
                          obtain rfl := Option.some.inj H
                          go_enter Tryz.func20, Tryz.ntmps20
                          go_wp2
                          go_ret
                          exact ⟨by first | rfl | (simp; done) | (simp [*]; done), by repeat (first | exact Drawn0.refl _ | apply Drawn0.step)⟩
                        · rw [if_neg c39] at H
                          have c39b0 : (a0.toList == ([106, 111, 105, 110] : List UInt8)) = false := beq_eq_false_iff_ne.mpr c39
                          have c39b1 : (a0.toList != ([106, 111, 105, 110] : List UInt8)) = true := bne_iff_ne.mpr c39
                          by_cases c40 : a0.toList = ([105, 110, 100, 105, 99, 101, 115] : List UInt8)
                          · rw [if_pos c40] at H
                            have c40b0 : (a0.toList == ([105, 110, 100, 105, 99, 101, 115] : List UInt8)) = true := beq_iff_eq.mpr c40
                            have c40b1 : (a0.toList != ([105, 110, 100, 105, 99, 101, 115] : List UInt8)) = false := bne_eq_false_iff_eq.mpr c40
                            clear c40
                            obtain rfl := Option.some.inj H
                            go_enter Tryz.func20, Tryz.ntmps20
                            go_wp2
                            go_ret
                            exact ⟨by first | rfl | (simp; done) | (simp [*]; done), by repeat (first | exact Drawn0.refl _ | apply Drawn0.step)⟩
                          · rw [if_neg c40] at H
                            have c40b0 : (a0.toList == ([105, 110, 100, 105, 99, 101, 115] : List UInt8)) = false := beq_eq_false_iff_ne.mpr c40
                            have c40b1 : (a0.toList != ([105, 110, 100, 105, 99, 101, 115] : List UInt8)) = true := bne_iff_ne.mpr c40
                            by_cases c41 : a0.toList = ([95, 115, 111, 114, 116, 95, 98, 121] : List UInt8)
                            · rw [if_pos c41] at H
                              have c41b0 : (a0.toList == ([95, 115, 111, 114, 116, 95, 98, 121] : List UInt8)) = true := beq_iff_eq.mpr c41
                              have c41b1 : (a0.toList != ([95, 115, 111, 114, 116, 95, 98, 121] : List UInt8)) = false := bne_eq_false_iff_eq.mpr c41
                              clear c41
                              obtain rfl := Option.some.inj H
                              go_enter Tryz.func20, Tryz.ntmps20
                              go_wp2
                              go_ret
                              exact ⟨by first | rfl | (simp; done) | (simp [*]; done), by repeat (first | exact Drawn0.refl _ | apply Drawn0.step)⟩
                            · rw [if_neg c41] at H
                              have c41b0 : (a0.toList == ([95, 115, 111, 114, 116, 95, 98, 121] : List UInt8)) = false := beq_eq_false_iff_ne.mpr c41
                              have c41b1 : (a0.toList != ([95, 115, 111, 114, 116, 95, 98, 121] : List UInt8)) = true := bne_iff_ne.mpr c41
                              by_cases c42 : a0.toList = ([95, 103, 114, 111, 117, 112, 95, 98, 121] : List UInt8)
                              · rw [if_pos c42] at H
                                have c42b0 : (a0.toList == ([95, 103, 114, 111, 117, 112, 95, 98, 121] : List UInt8)) = true := beq_iff_eq.mpr c42
                                have c42b1 : (a0.toList != ([95, 103, 114, 111, 117, 112, 95, 98, 121] : List UInt8)) = false := bne_eq_false_iff_eq.mpr c42
                                clear c42
                                obtain rfl := Option.some.inj H
                                go_enter Tryz.func20, Tryz.ntmps20
                                go_wp2
                                go_ret
                                exact ⟨by first | rfl | (simp; done) | (simp [*]; done), by repeat (first | exact Drawn0.refl _ | apply Drawn0.step)⟩
                              · rw [if_neg c42] at H
                                have c42b0 : (a0.toList == ([95, 103, 114, 111, 117, 112, 95, 98, 121] : List UInt8)) = false := beq_eq_false_iff_ne.mpr c42
                                have c42b1 : (a0.toList != ([95, 103, 114, 111, 117, 112, 95, 98, 121] : List UInt8)) = true := bne_iff_ne.mpr c42
                                by_cases c43 : a0.toList = ([95, 117, 110, 105, 113, 117, 101, 95, 98, 121] : List UInt8)
                                · rw [if_pos c43] at H
                                  have c43b0 : (a0.toList == ([95, 117, 110, 105, 113, 117, 101, 95, 98, 121] : List UInt8)) = true := beq_iff_eq.mpr c43
                                  have c43b1 : (a0.toList != ([95, 117, 110, 105, 113, 117, 101, 95, 98, 121] : List UInt8)) = false := bne_eq_false_iff_eq.mpr c43
                                  clear c43
                                  obtain rfl := Option.some.inj H
                                  go_enter Tryz.func20, Tryz.ntmps20
                                  go_wp2
                                  go_ret
                                  exact ⟨by first | rfl | (simp; done) | (simp [*]; done), by repeat (first | exact Drawn0.refl _ | apply Drawn0.step)⟩
                                · rw [if_neg c43] at H
                                  have c43b0 : (a0.toList == ([95, 117, 110, 105, 113, 117, 101, 95, 98, 121] : List UInt8)) = false := beq_eq_false_iff_ne.mpr c43
                                  have c43b1 : (a0.toList != ([95, 117, 110, 105, 113, 117, 101, 95, 98, 121] : List UInt8)) = true := bne_iff_ne.mpr c43
                                  by_cases c44 : a0.toList = ([95, 109, 105, 110, 95, 98, 121] : List UInt8)
                                  · rw [if_pos c44] at H
                                    have c44b0 : (a0.toList == ([95, 109, 105, 110, 95, 98, 121] : List UInt8)) = true := beq_iff_eq.mpr c44
                                    have c44b1 : (a0.toList != ([95, 109, 105, 110, 95, 98, 121] : List UInt8)) = false := bne_eq_false_iff_eq.mpr c44
                                    clear c44
                                    obtain rfl := Option.some.inj H
                                    go_enter Tryz.func20, Tryz.ntmps20
                                    go_wp2
                                    go_ret
                                    exact ⟨by first | rfl | (simp; done) | (simp [*]; done), by repeat (first | exact Drawn0.refl _ | apply Drawn0.step)⟩
                                  · rw [if_neg c44] at H
                                    have c44b0 : (a0.toList == ([95, 109, 105, 110, 95, 98, 121] : List UInt8)) = false := beq_eq_false_iff_ne.mpr c44
                                    have c44b1 : (a0.toList != ([95, 109, 105, 110, 95, 98, 121] : List UInt8)) = true := bne_iff_ne.mpr c44
                                    by_cases c45 : a0.toList = ([95, 109, 97, 120, 95, 98, 121] : List UInt8)
                                    · rw [if_pos c45] at H
                                      have c45b0 : (a0.toList == ([95, 109, 97, 120, 95, 98, 121] : List UInt8)) = true := beq_iff_eq.mpr c45
                                      have c45b1 : (a0.toList != ([95, 109, 97, 120, 95, 98, 121] : List UInt8)) = false := bne_eq_false_iff_eq.mpr c45
                                      clear c45
                                      obtain rfl := Option.some.inj H
                                      go_enter Tryz.func20, Tryz.ntmps20
                                      go_wp2
                                      go_ret
                                      exact ⟨by first | rfl | (simp; done) | (simp [*]; done), by repeat (first | exact Drawn0.refl _ | apply Drawn0.step)⟩
                                    · rw [if_neg c45] at H
                                      have c45b0 : (a0.toList == ([95, 109, 97, 120, 95, 98, 121] : List UInt8)) = false := beq_eq_false_iff_ne.mpr c45
                                      have c45b1 : (a0.toList != ([95, 109, 97, 120, 95, 98, 121] : List UInt8)) = true := bne_iff_ne.mpr c45
                                      by_cases c46 : a0.toList = ([103, 101, 116, 112, 97, 116, 104] : List UInt8)
                                      · rw [if_pos c46] at H
                                        have c46b0 : (a0.toList == ([103, 101, 116, 112, 97, 116, 104] : List UInt8)) = true := beq_iff_eq.mpr c46
                                        have c46b1 : (a0.toList != ([103, 101, 116, 112, 97, 116, 104] : List UInt8)) = false := bne_eq_false_iff_eq.mpr c46
                                        clear c46
                                        obtain rfl := Option.some.inj H
                                        go_enter Tryz.func20, Tryz.ntmps20
                                        go_wp2
                                        go_ret
                                        exact ⟨by first | rfl | (simp; done) | (simp [*]; done), by repeat (first | exact Drawn0.refl _ | apply Drawn0.step)⟩
                                      · rw [if_neg c46] at H
                                        have c46b0 : (a0.toList == ([103, 101, 116, 112, 97, 116, 104] : List UInt8)) = false := beq_eq_false_iff_ne.mpr c46
                                        have c46b1 : (a0.toList != ([103, 101, 116, 112, 97, 116, 104] : List UInt8)) = true := bne_iff_ne.mpr c46
                                        by_cases c47 : a0.toList = ([100, 101, 108, 112, 97, 116, 104, 115] : List UInt8)
                                        · rw [if_pos c47] at H
                                          have c47b0 : (a0.toList == ([100, 101, 108, 112, 97, 116, 104, 115] : List UInt8)) = true := beq_iff_eq.mpr c47
                                          have c47b1 : (a0.toList != ([100, 101, 108, 112, 97, 116, 104, 115] : List UInt8)) = false := bne_eq_false_iff_eq.mpr c47
                                          clear c47
                                          obtain rfl := Option.some.inj H
                                          go_enter Tryz.func20, Tryz.ntmps20
                                          go_wp2
                                          go_ret
                                          exact ⟨by first | rfl | (simp; done) | (simp [*]; done), by repeat (first | exact Drawn0.refl _ | apply Drawn0.step)⟩
                                        · rw [if_neg c47] at H
                                          have c47b0 : (a0.toList == ([100, 101, 108, 112, 97, 116, 104, 115] : List UInt8)) = false := beq_eq_false_iff_ne.mpr c47
                                          have c47b1 : (a0.toList != ([100, 101, 108, 112, 97, 116, 104, 115] : List UInt8)) = true := bne_iff_ne.mpr c47
                                          obtain rfl := Option.some.inj H
                                          go_enter Tryz.func20, Tryz.ntmps20
                                          go_wp2
                                          go_ret
                                          exact ⟨by first | rfl | (simp; done) | (simp [*]; done), by repeat (first | exact Drawn0.refl _ | apply Drawn0.step)⟩
    · rw [if_neg c29] at H
      have c29b0 : (a1 == 1) = false := beq_eq_false_iff_ne.mpr c29
      have c29b1 : (a1 != 1) = true := bne_iff_ne.mpr c29
      by_cases c48 : a1 = 2
      · rw [if_pos c48] at H
        have c48b0 : (a1 == 2) = true := beq_iff_eq.mpr c48
        have c48b1 : (a1 != 2) = false := bne_eq_false_iff_eq.mpr c48
        clear c48
        by_cases c49 : a0.toList = ([114, 97, 110, 103, 101] : List UInt8)
        · rw [if_pos c49] at H
          have c49b0 : (a0.toList == ([114, 97, 110, 103, 101] : List UInt8)) = true := beq_iff_eq.mpr c49
          have c49b1 : (a0.toList != ([114, 97, 110, 103, 101] : List UInt8)) = false := bne_eq_false_iff_eq.mpr c49
          clear c49
          obtain rfl := Option.some.inj H
          go_enter Tryz.func20, Tryz.ntmps20
          go_wp2
          go_ret
          exact ⟨by first | rfl | (simp; done) | (simp [*]; done), by repeat (first | exact Drawn0.refl _ | apply Drawn0.step)⟩
        · rw [if_neg c49] at H
          have c49b0 : (a0.toList == ([114, 97, 110, 103, 101] : List UInt8)) = false := beq_eq_false_iff_ne.mpr c49
          have c49b1 : (a0.toList != ([114, 97, 110, 103, 101] : List UInt8)) = true := bne_iff_ne.mpr c49
          obtain rfl := Option.some.inj H
          go_enter Tryz.func20, Tryz.ntmps20
          go_wp2
          go_ret
          exact ⟨by first | rfl | (simp; done) | (simp [*]; done), by repeat (first | exact Drawn0.refl _ | apply Drawn0.step)⟩
      · rw [if_neg c48] at H
        have c48b0 : (a1 == 2) = false := beq_eq_false_iff_ne.mpr c48
        have c48b1 : (a1 != 2) = true := bne_iff_ne.mpr c48
        obtain rfl := Option.some.inj H
        go_enter Tryz.func20, Tryz.ntmps20
        go_wp2
        go_ret
        exact ⟨by first | rfl | (simp; done) | (simp [*]; done), by repeat (first | exact Drawn0.refl _ | apply Drawn0.step)⟩

end Go.Proofs.YtcnnmlmedbjklaaGreatDoor.PLowerTests
