/- The plain law, for whole codes: both counts end, with the same numbers. -/
import Derived.Test.YtcnnmlmedbjklaaGreatDoorLowQ
namespace Go.Proofs.YtcnnmlmedbjklaaGreatDoor.PLowerTests
open Go.RowKit Go.Proofs.YtcnnmlmedbjklaaGreatDoorW.PrintWords Go.Proofs.YtcnnmlmedbjklaaGreatDoorW.PrintLast Go.Proofs.YtcnnmlmedbjklaaGreatDoorW.PrintMore
set_option linter.unusedVariables false
set_option linter.unusedSimpArgs false

/-- A code whose texts and lists have a size that any machine holds. -/
inductive Small : S28 → Prop where
  | intro (x : S28) (h1 : x.f3.size ≤ 140737488351232) (h2 : x.f6.length ≤ 140737488351232) (h3 : ∀ y ∈ x.f6, Small y) : Small x

def LT (k : Nat) (x : S28) : Option (Int × Int) := lower_Tests.f k x.f0 x.f1 x.f2 x.f3 x.f4.f0 x.f4.f1 x.f4.f2 x.f4.f3 x.f4.f4 x.f5 x.f6
def RT (k : Nat) (x : S28) : Option (Int × Int) := hallmarkref30_Tests.f k x.f0 x.f1 x.f2 x.f3 x.f4.f0 x.f4.f1 x.f4.f2 x.f4.f3 x.f4.f4 x.f5 x.f6
def CP (k : Nat) (x : S28) (most : Int) : Option Int := hallmarklaw30_codeParts.f k x.f0 x.f1 x.f2 x.f3 x.f4.f0 x.f4.f1 x.f4.f2 x.f4.f3 x.f4.f4 x.f5 x.f6 most

theorem wrap_next {i n : Nat} (h : i < n) (hn : n ≤ 140737488351232) : wrap64 ((i : Int) + 1) = ((i + 1 : Nat) : Int) := by
  unfold wrap64; omega
theorem rd_mem {xs : List S28} {i : Nat} (h : i < xs.length) : rd_T28 xs (i : Int) ∈ xs := by
  unfold rd_T28
  rw [Int.toNat_natCast, List.getD_eq_getElem?_getD, List.getElem?_eq_getElem h]
  exact List.getElem_mem h

theorem loops {x : S28} (hl : x.f6.length ≤ 140737488351232) (ih : ∀ y ∈ x.f6, ∃ r, Ev (fun k => LT k y) r ∧ Ev (fun k => RT k y) r) (d : Nat) : ∀ (i : Nat) (a b : Int), i ≤ x.f6.length → x.f6.length - i = d →
    ∃ r, Ev (fun k => lower_Tests.l0 k a b x.f6 (x.f6.length : Int) (i : Int)) r ∧ Ev (fun k => hallmarkref30_Tests.l0 k a b (i : Int) x.f0 x.f1 x.f2 x.f3 x.f4.f0 x.f4.f1 x.f4.f2 x.f4.f3 x.f4.f4 x.f5 x.f6) r := by
  induction d with
  | zero =>
    intro i a b hi hd
    refine ⟨(a, b), Ev.step (f := fun _ => some (a, b)) (fun k => ?_) (Ev.now _), Ev.step (f := fun _ => some (a, b)) (fun k => ?_) (Ev.now _)⟩
    · simp only [lower_Tests.l0]; rw [if_neg (by omega)]
    · simp only [hallmarkref30_Tests.l0]; rw [if_neg (by omega)]
  | succ d hd' =>
    intro i a b hi hd
    have hlt : i < x.f6.length := by omega
    obtain ⟨⟨p, q⟩, h1, h2⟩ := ih _ (rd_mem hlt)
    obtain ⟨r, h3, h4⟩ := hd' (i + 1) (wrap64 (a + p)) (wrap64 (b + q)) (by omega) (by omega)
    refine ⟨r, ?_, ?_⟩
    · refine Ev.step (f := fun k => (LT k (rd_T28 x.f6 (i : Int))).bind fun bt120 => lower_Tests.l0 k (wrap64 (a + bt120.1)) (wrap64 (b + bt120.2)) x.f6 (x.f6.length : Int) (wrap64 ((i : Int) + 1))) (fun k => ?_) (Ev.bind h1 ?_)
      · simp only [lower_Tests.l0]; rw [if_pos (by omega), if_pos (by omega), if_pos (by omega)]; rfl
      · simpa only [wrap_next hlt hl] using h3
    · refine Ev.step (f := fun k => (RT k (rd_T28 x.f6 (i : Int))).bind fun bt120 => hallmarkref30_Tests.l0 k (wrap64 (a + bt120.1)) (wrap64 (b + bt120.2)) (wrap64 ((i : Int) + 1)) x.f0 x.f1 x.f2 x.f3 x.f4.f0 x.f4.f1 x.f4.f2 x.f4.f3 x.f4.f4 x.f5 x.f6) (fun k => ?_) (Ev.bind h2 ?_)
      · simp only [hallmarkref30_Tests.l0]; rw [if_pos (by omega), if_pos (by omega)]; rfl
      · simpa only [wrap_next hlt hl] using h4
/-- behind the test of an own fault -/
theorem behind {x : S28} (hl : x.f6.length ≤ 140737488351232) (ih : ∀ y ∈ x.f6, ∃ r, Ev (fun k => LT k y) r ∧ Ev (fun k => RT k y) r) (a b : Int) :
    ∃ r, Ev (fun k => lower_Tests.j0 k a b x.f0 x.f1 x.f2 x.f3 x.f4.f0 x.f4.f1 x.f4.f2 x.f4.f3 x.f4.f4 x.f5 x.f6) r ∧ Ev (fun k => hallmarkref30_Tests.j0 k a b x.f0 x.f1 x.f2 x.f3 x.f4.f0 x.f4.f1 x.f4.f2 x.f4.f3 x.f4.f4 x.f5 x.f6) r := by
  have hc : Ev (fun k => lower_chooses.f k x.f0) (choosesB x.f0) := ⟨5, fun k hk => by obtain ⟨m, rfl⟩ : ∃ m, k = m + 5 := ⟨k - 5, by omega⟩; exact lower_chooses_eq m _⟩
  have hj : ∀ c e : Int, ∃ r, Ev (fun k => lower_Tests.j1 k c e x.f0 x.f1 x.f2 x.f3 x.f4.f0 x.f4.f1 x.f4.f2 x.f4.f3 x.f4.f4 x.f5 x.f6) r ∧ Ev (fun k => hallmarkref30_Tests.j1 k c e x.f0 x.f1 x.f2 x.f3 x.f4.f0 x.f4.f1 x.f4.f2 x.f4.f3 x.f4.f4 x.f5 x.f6) r := fun c e => by
    obtain ⟨r, h1, h2⟩ := loops hl ih _ 0 c e (Nat.zero_le _) rfl
    exact ⟨r, Ev.step (fun k => by simp only [lower_Tests.j1]; rfl) h1, Ev.step (fun k => by simp only [hallmarkref30_Tests.j1]; rfl) h2⟩
  cases hb : choosesB x.f0 with
  | false =>
    obtain ⟨r, h1, h2⟩ := hj a b
    refine ⟨r, Ev.step (fun k => by simp only [lower_Tests.j0]; rfl) (Ev.bind hc ?_), Ev.step (fun k => by simp only [hallmarkref30_Tests.j0, ref_chooses_eq]; rfl) (Ev.bind (Ev.now (choosesB x.f0)) ?_)⟩
    · rw [hb]; exact h1
    · rw [hb]; exact h2
  | true =>
    by_cases hs : Go.bits .and .i64 x.f2 6 = 0
    · obtain ⟨r, h1, h2⟩ := hj (wrap64 (a + 1)) (wrap64 (b + 1))
      refine ⟨r, Ev.step (fun k => by simp only [lower_Tests.j0]; rfl) (Ev.bind hc ?_), Ev.step (fun k => by simp only [hallmarkref30_Tests.j0, ref_chooses_eq]; rfl) (Ev.bind (Ev.now (choosesB x.f0)) ?_)⟩
      · simp only [hb, if_true, hs]; exact h1
      · simp only [hb, if_true, hs]; exact h2
    · obtain ⟨r, h1, h2⟩ := hj (wrap64 (a + 1)) b
      refine ⟨r, Ev.step (fun k => by simp only [lower_Tests.j0]; rfl) (Ev.bind hc ?_), Ev.step (fun k => by simp only [hallmarkref30_Tests.j0, ref_chooses_eq]; rfl) (Ev.bind (Ev.now (choosesB x.f0)) ?_)⟩
      · simp only [hb, if_true, hs, if_false]; exact h1
      · simp only [hb, if_true, hs, if_false]; exact h2
theorem same_counts {x : S28} (h : Small x) : ∃ r, Ev (fun k => LT k x) r ∧ Ev (fun k => RT k x) r := by
  induction h with
  | intro x h1 h2 h3 ih =>
    have hf : Ev (fun k => lower_faults.f k x.f0 x.f3 (x.f6.length : Int)) (faultB x.f0 x.f3.toList (x.f6.length : Int)) := ⟨2, fun k hk => by obtain ⟨m, rfl⟩ : ∃ m, k = m + 2 := ⟨k - 2, by omega⟩; exact lower_faults_eq m _ _ _ h1⟩
    have hg : Ev (fun k => hallmarkref30_Faults.f k x.f0 x.f3 (x.f6.length : Int)) (faultB x.f0 x.f3.toList (x.f6.length : Int)) := ⟨1, fun k hk => by obtain ⟨m, rfl⟩ : ∃ m, k = m + 1 := ⟨k - 1, by omega⟩; exact ref_faults_eq m _ _ _ (by omega)⟩
    have go : ∀ a b : Int, ∃ r, _ ∧ _ := behind h2 ih
    cases hb : faultB x.f0 x.f3.toList (x.f6.length : Int) with
    | false =>
      obtain ⟨r, g1, g2⟩ := go 0 0
      refine ⟨r, Ev.step (fun k => by simp only [LT, lower_Tests.f]; rfl) (Ev.bind hf ?_), Ev.step (fun k => by simp only [RT, hallmarkref30_Tests.f]; rfl) (Ev.bind hg ?_)⟩
      · rw [hb]; exact g1
      · rw [hb]; exact g2
    | true =>
      by_cases hs : Go.bits .and .i64 x.f2 1 = 0
      · obtain ⟨r, g1, g2⟩ := go (0 + 1) (0 + 1)
        refine ⟨r, Ev.step (fun k => by simp only [LT, lower_Tests.f]; rfl) (Ev.bind hf ?_), Ev.step (fun k => by simp only [RT, hallmarkref30_Tests.f]; rfl) (Ev.bind hg ?_)⟩
        · simp only [hb, if_true, hs]; exact g1
        · simp only [hb, if_true, hs]; exact g2
      · obtain ⟨r, g1, g2⟩ := go (0 + 1) 0
        refine ⟨r, Ev.step (fun k => by simp only [LT, lower_Tests.f]; rfl) (Ev.bind hf ?_), Ev.step (fun k => by simp only [RT, hallmarkref30_Tests.f]; rfl) (Ev.bind hg ?_)⟩
        · simp only [hb, if_true, hs, if_false]; exact g1
        · simp only [hb, if_true, hs, if_false]; exact g2

theorem parts_loop {x : S28} (hl : x.f6.length ≤ 140737488351232) (ih : ∀ y ∈ x.f6, ∀ m, ∃ r, Ev (fun k => CP k y m) r) (most : Int) (d : Nat) : ∀ (i : Nat) (a : Int), i ≤ x.f6.length → x.f6.length - i = d →
    ∃ r, Ev (fun k => hallmarklaw30_codeParts.l0 k most a (i : Int) x.f0 x.f1 x.f2 x.f3 x.f4.f0 x.f4.f1 x.f4.f2 x.f4.f3 x.f4.f4 x.f5 x.f6) r := by
  induction d with
  | zero =>
    intro i a hi hd
    refine ⟨a, Ev.step (f := fun _ => some a) (fun k => ?_) (Ev.now _)⟩
    simp only [hallmarklaw30_codeParts.l0]; rw [if_neg (by omega)]
  | succ d hd' =>
    intro i a hi hd
    have hlt : i < x.f6.length := by omega
    by_cases hm : a ≤ most
    · obtain ⟨p, h1⟩ := ih _ (rd_mem hlt) (wrap64 (most - a))
      obtain ⟨r, h3⟩ := hd' (i + 1) (wrap64 (a + p)) (by omega) (by omega)
      refine ⟨r, ?_⟩
      refine Ev.step (f := fun k => (CP k (rd_T28 x.f6 (i : Int)) (wrap64 (most - a))).bind fun t => hallmarklaw30_codeParts.l0 k most (wrap64 (a + t)) (wrap64 ((i : Int) + 1)) x.f0 x.f1 x.f2 x.f3 x.f4.f0 x.f4.f1 x.f4.f2 x.f4.f3 x.f4.f4 x.f5 x.f6) (fun k => ?_) (Ev.bind h1 ?_)
      · simp only [hallmarklaw30_codeParts.l0]; rw [if_pos (by omega), if_pos hm, if_pos (by omega)]; rfl
      · simpa only [wrap_next hlt hl] using h3
    · refine ⟨a, Ev.step (f := fun _ => some a) (fun k => ?_) (Ev.now _)⟩
      simp only [hallmarklaw30_codeParts.l0]; rw [if_pos (by omega), if_neg hm]
theorem parts_end {x : S28} (h : Small x) : ∀ m, ∃ r, Ev (fun k => CP k x m) r := by
  induction h with
  | intro x h1 h2 h3 ih =>
    intro m
    obtain ⟨r, h⟩ := parts_loop h2 ih m _ 0 1 (Nat.zero_le _) rfl
    exact ⟨r, Ev.step (fun k => by simp only [CP, hallmarklaw30_codeParts.f]; rfl) h⟩
theorem law_true {x : S28} (h : Small x) : ∃ k, hallmarklaw30_LowerTests.f k x.f0 x.f1 x.f2 x.f3 x.f4.f0 x.f4.f1 x.f4.f2 x.f4.f3 x.f4.f4 x.f5 x.f6 = some true := by
  obtain ⟨n, K1, h1⟩ := parts_end h 10000
  obtain ⟨⟨p, q⟩, ⟨K2, h2⟩, ⟨K3, h3⟩⟩ := same_counts h
  refine ⟨max K1 (max K2 K3), ?_⟩
  have e1 := h1 (max K1 (max K2 K3)) (by omega)
  have e2 := h2 (max K1 (max K2 K3)) (by omega)
  have e3 := h3 (max K1 (max K2 K3)) (by omega)
  simp only [CP] at e1
  simp only [LT] at e2
  simp only [RT] at e3
  unfold hallmarklaw30_LowerTests.f hallmarklaw30_lives.f
  rw [e1, e2, e3]
  simp
end Go.Proofs.YtcnnmlmedbjklaaGreatDoor.PLowerTests
