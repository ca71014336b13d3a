/- scope.Builtin answers as the document's table; only in the document's table are its words told one by one. -/
import Derived.Test.YtcnnmlmedbjklaaGreatDoorLow0
import Derived.Test.YtcnnmlmedbjklaaGreatDoorLow4
import Derived.Test.YtcnnmlmedbjklaaGreatDoorLowP
namespace Go.Proofs.YtcnnmlmedbjklaaGreatDoor.PLowerTests
open Go.RowKit Go.Proofs.YtcnnmlmedbjklaaGreatDoorW.PrintWords Go.Proofs.YtcnnmlmedbjklaaGreatDoorW.PrintLast Go.Proofs.YtcnnmlmedbjklaaGreatDoorW.PrintMore
theorem chain_cons {x v : List UInt8} {ws : List (List UInt8)} {e : Option Bool} (h : e = some (decide (x ∈ ws))) : (if x = v then some true else e) = some (decide (x ∈ v :: ws)) := by
  by_cases c : x = v
  · rw [if_pos c, decide_eq_true (by rw [c]; exact List.mem_cons_self)]
  · rw [if_neg c, h]
    simp [c]
theorem chain_nil {x : List UInt8} : some false = some (decide (x ∈ ([] : List (List UInt8)))) := by simp
theorem chain_last {x v : List UInt8} : some (x == v) = some (decide (x ∈ [v])) := by
  by_cases c : x = v
  · rw [beq_iff_eq.mpr c, decide_eq_true (by simp [c])]
  · rw [beq_eq_false_iff_ne.mpr c, decide_eq_false (by simp [c])]
theorem ref_builtin (a0 : ByteArray) (a1 : Int) : hallmarkref19_Builtin.f a0 a1 = some (builtinB a0.toList a1) := by
  unfold hallmarkref19_Builtin.f builtinB
  by_cases c0 : a1 = 0
  · rw [if_pos c0, if_pos c0]
    unfold noneW
    repeat (first | exact chain_nil | refine chain_cons ?_)
  · rw [if_neg c0, if_neg c0]
    by_cases c1 : a1 = 1
    · rw [if_pos c1, if_pos c1]
      unfold oneW
      repeat (first | exact chain_nil | refine chain_cons ?_)
    · rw [if_neg c1, if_neg c1]
      by_cases c2 : a1 = 2
      · rw [if_pos c2, if_pos c2]
        exact chain_cons chain_last
      · rw [if_neg c2, if_neg c2]
def scope_Builtin.f (a0 : ByteArray) (a1 : Int) : Option (Bool) := if a0.size ≤ 140737488351232 then some (builtinB a0.toList a1) else none
theorem scope_Builtin.calls (a0 : ByteArray) (a1 : Int) (r : Bool) (w : World) (hM : MaxAt w) (h : scope_Builtin.f a0 a1 = some r) :
    Calls Tryz.prog 18 #[.string a0, .int .i64 a1] w fun e w' => e = .returned (.bool r) ∧ Drawn0 w w' := by
  unfold scope_Builtin.f at h
  split at h
  · rename_i hs
    obtain rfl := Option.some.inj h
    refine (builtin_calls a0 a1 w hs hM).mono ?_
    rintro e w' ⟨rfl, rfl⟩
    exact ⟨rfl, Drawn0.refl _⟩
  · cases h
end Go.Proofs.YtcnnmlmedbjklaaGreatDoor.PLowerTests
