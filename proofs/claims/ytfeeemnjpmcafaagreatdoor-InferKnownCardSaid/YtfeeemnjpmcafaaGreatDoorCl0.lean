/- What a function comes to by plain names, found fast: a table of what each function names, checked once; a search over numbers. -/
import Derived.Test.YtfeeemnjpmcafaaGreatDoorEv2
import GoSem.ClaimFn
import GoSem.ClaimLaidByText
import GoSem.Claims
namespace Go.Ev
open Go
noncomputable section
/-- k at m, m made a numeral first -/
def frc {β : Type} (m : Nat) (k : Nat → β) : β := Nat.rec (k 0) (fun p _ => k (Nat.succ p)) m
def eqNats (a : List Nat) : List Nat → Bool := List.rec (fun b => List.rec true (fun _ _ _ => false) b) (fun x _ ih b => List.rec false (fun y t _ => andB (Nat.beq x y) (ih t)) b) a
/-- does the table say what function f names? -/
def leadOk (f : Func) (t : Option (List Nat)) : Bool :=
  Option.rec true (fun l => Option.rec (andB (entryEnters.lookup f.name).isNone (eqNats [] l)) (fun c => eqNats c.funcsNamed l) f.body) t
def leadsOk (fs : List Func) : List (Option (List Nat)) → Bool := List.rec (fun ts => List.rec true (fun _ _ _ => false) ts) (fun f _ ih ts => List.rec false (fun t r _ => andB (leadOk f t) (ih r)) ts) fs
/-- the search -/
def fastVia (tab : PT (Option (List Nat))) (n : Nat) : List Nat → Nat → List Nat → Option (List Nat) :=
  Nat.rec (fun _ _ _ => none) (fun _ ih todo m acc => List.rec (some acc) (fun f rest _ =>
    Bool.rec (ob (tab.get f) fun t => ob t fun l => frc (Nat.lor m (Nat.shiftLeft 1 f)) fun m' => ih (l ++ rest) m' (f :: acc)) (ih rest m acc) (bitB m f)) todo) n
end
theorem frc_eq {β : Type} (m : Nat) (k : Nat → β) : frc m k = k m := by cases m <;> rfl
theorem eqNats_eq : ∀ {a b : List Nat}, eqNats a b = true → a = b := by
  intro a
  induction a with
  | nil => intro b h; cases b with
    | nil => rfl
    | cons => cases h
  | cons x a ih => intro b h; cases b with
    | nil => cases h
    | cons y b =>
      obtain ⟨h1, h2⟩ := andB_iff.1 h
      rw [Nat.eq_of_beq_eq_true h1, ih h2]
theorem leadOk_leads {P : Program} {f : Func} {l : List Nat} (h : leadOk f (some l) = true) : P.leadsTo f = l := by
  unfold leadOk at h
  unfold Program.leadsTo
  cases hb : f.body with
  | none =>
    rw [hb] at h
    obtain ⟨h1, h2⟩ := andB_iff.1 h
    rw [Option.isNone_iff_eq_none.1 h1, ← eqNats_eq h2]
    rfl
  | some c =>
    rw [hb] at h
    exact eqNats_eq h
theorem leadsOk_at : ∀ {fs : List Func} {ts : List (Option (List Nat))}, leadsOk fs ts = true → ∀ (i : Nat) (l : List Nat), ts[i]? = some (some l) → ∃ f, fs[i]? = some f ∧ leadOk f (some l) = true := by
  intro fs
  induction fs with
  | nil => intro ts h i l ht; cases ts with
    | nil => cases ht
    | cons => cases h
  | cons f fs ih => intro ts h i l ht; cases ts with
    | nil => cases h
    | cons t ts =>
      obtain ⟨h1, h2⟩ := andB_iff.1 h
      cases i with
      | zero =>
        obtain rfl : t = some l := by simpa using ht
        exact ⟨f, rfl, h1⟩
      | succ i => exact ih h2 i l (by simpa using ht)
theorem bit_or {m f g : Nat} : bitB (Nat.lor m (Nat.shiftLeft 1 f)) g = (bitB m g || decide (f = g)) := by
  have e : ∀ a b : Nat, bitB a b = a.testBit b := fun a b => by
    unfold bitB Nat.testBit
    have h2 : Nat.mod (Nat.shiftRight a b) 2 = (a >>> b) % 2 := rfl
    rw [h2]
    rcases Nat.mod_two_eq_zero_or_one (a >>> b) with h | h
    · have : (1 &&& a >>> b) = 0 := by rw [Nat.one_and_eq_mod_two, h]
      rw [h, this]; rfl
    · have : (1 &&& a >>> b) = 1 := by rw [Nat.one_and_eq_mod_two, h]
      rw [h, this]; rfl
  rw [e, e]
  show (m ||| 1 <<< f).testBit g = _
  rw [Nat.testBit_or, Nat.one_shiftLeft, Nat.testBit_two_pow]
theorem fastVia_eq {P : Program} {tab : PT (Option (List Nat))} (H : ∀ f l, tab.get f = some (some l) → (P.funcs[f]?).elim [] P.leadsTo = l) :
    ∀ (n : Nat) (todo : List Nat) (m : Nat) (acc r : List Nat), fastVia tab n todo m acc = some r → (∀ f, bitB m f = acc.contains f) → ∀ k, n ≤ k → P.closureVia k todo acc = r.reverse := by
  intro n
  induction n with
  | zero => intro todo m acc r h; cases h
  | succ n ih =>
    intro todo m acc r h hm k hk
    obtain ⟨k, rfl⟩ : ∃ k', k = k' + 1 := ⟨k - 1, by omega⟩
    cases todo with
    | nil =>
      obtain rfl : acc = r := Option.some.inj h
      unfold Program.closureVia
      rfl
    | cons f rest =>
      have h' : Bool.rec (ob (tab.get f) fun t => ob t fun l => frc (Nat.lor m (Nat.shiftLeft 1 f)) fun m' => fastVia tab n (l ++ rest) m' (f :: acc)) (fastVia tab n rest m acc) (bitB m f) = some r := h
      unfold Program.closureVia
      cases hb : bitB m f with
      | true =>
        rw [hb] at h'
        rw [← hm f, hb, if_pos rfl]
        exact ih rest m acc r h' hm k (by omega)
      | false =>
        rw [hb] at h'
        rw [← hm f, hb, if_neg (by decide)]
        cases ht : tab.get f with
        | none => rw [ht] at h'; cases h'
        | some t =>
          rw [ht] at h'
          cases t with
          | none => cases h'
          | some l =>
            rw [H f l ht]
            have h2 : frc (Nat.lor m (Nat.shiftLeft 1 f)) (fun m' => fastVia tab n (l ++ rest) m' (f :: acc)) = some r := h'
            rw [frc_eq] at h2
            refine ih _ _ _ r h2 (fun g => ?_) k (by omega)
            rw [bit_or, hm g, List.contains_cons]
            by_cases e : f = g
            · subst e; simp
            · have e' : (g == f) = false := beq_eq_false_iff_ne.mpr (fun h => e h.symm)
              rw [decide_eq_false e, e', Bool.or_false, Bool.false_or]
theorem leads_sum {P : Program} : ∀ {fs : List Func} {ts : List (Option (List Nat))}, leadsOk fs ts = true → (ts.map fun t => (t.getD []).length + 1).sum ≤ (fs.map fun g => (P.leadsTo g).length + 1).sum := by
  intro fs
  induction fs with
  | nil => intro ts h; cases ts with
    | nil => exact Nat.le_refl _
    | cons => cases h
  | cons f fs ih => intro ts h; cases ts with
    | nil => cases h
    | cons t ts =>
      obtain ⟨h1, h2⟩ := andB_iff.1 h
      have := ih h2
      simp only [List.map_cons, List.sum_cons]
      cases t with
      | none => simp only [Option.getD_none, List.length_nil]; omega
      | some l => rw [leadOk_leads h1]; simp only [Option.getD_some]; omega
noncomputable section
def sumLens (ts : List (Option (List Nat))) : Nat := List.rec 0 (fun t _ ih => frc ih fun n => Nat.succ (Nat.add n (Option.rec 0 (fun l => List.rec 0 (fun _ _ m => Nat.succ m) l) t))) ts
def runIs (o : Option (List Nat)) (l : List Nat) : Bool := Option.rec false (fun r => eqNats r l) o
end
theorem sumLens_eq : ∀ ts : List (Option (List Nat)), sumLens ts = (ts.map fun t => (t.getD []).length + 1).sum := by
  have hl : ∀ l : List Nat, (List.rec 0 (fun _ _ m => Nat.succ m) l : Nat) = l.length := fun l => by
    induction l with
    | nil => rfl
    | cons a l ih => simp only [List.length_cons, ih]
  intro ts
  induction ts with
  | nil => rfl
  | cons t ts ih =>
    show frc (sumLens ts) (fun n => Nat.succ (Nat.add n (Option.rec 0 (fun l => List.rec 0 (fun _ _ m => Nat.succ m) l) t))) = _
    rw [frc_eq, ih, List.map_cons, List.sum_cons]
    cases t with
    | none =>
      have e : ∀ a b : Nat, Nat.succ (Nat.add a b) = a + b + 1 := fun _ _ => rfl
      refine (e _ _).trans ?_
      simp only [Option.getD_none, List.length_nil]; omega
    | some l =>
      have e : ∀ a b : Nat, Nat.succ (Nat.add a b) = a + b + 1 := fun _ _ => rfl
      refine (e _ _).trans ?_
      simp only [hl]
      simp only [Option.getD_some]; omega
/-- THE CLOSURE, FOUND FAST. -/
theorem closure_fast {P : Program} {ts : List (Option (List Nat))} {n f : Nat} {L : List Nat} (h : leadsOk P.funcs.toList ts = true) (hn : n ≤ Nat.succ (sumLens ts)) (hr : runIs (fastVia (PT.ofL 20 ts) n [f] 0 []) L = true) : P.closure f = L.reverse := by
  unfold Program.closure
  unfold runIs at hr
  cases hv : fastVia (PT.ofL 20 ts) n [f] 0 [] with
  | none => rw [hv] at hr; cases hr
  | some r =>
    rw [hv] at hr
    obtain rfl := eqNats_eq hr
    refine fastVia_eq (tab := PT.ofL 20 ts) (fun g l hg => ?_) n _ _ _ _ hv (fun g => ?_) _ ?_
    · obtain ⟨fn, h1, h2⟩ := leadsOk_at h g l (PT.get_ofL 20 _ _ _ hg)
      rw [Array.getElem?_toList] at h1
      rw [h1]
      exact leadOk_leads h2
    · show Nat.beq (Nat.mod (Nat.shiftRight 0 g) 2) 1 = _
      rw [show Nat.shiftRight 0 g = 0 from Nat.zero_shiftRight g]
      rfl
    · have := leads_sum (P := P) h
      rw [← sumLens_eq] at this
      omega
noncomputable section
/-- what some functions give, one after the other; none if a number is no function's -/
def fmFast {β : Type} (fn : PT Func) (h : Func → Option β) (L : List Nat) : Option (List β) :=
  List.rec (some []) (fun g _ ih => ob (fn.get g) fun f => ob ih fun r => some (Option.rec r (fun b => b :: r) (h f))) L
def flatFast {β : Type} (fn : PT Func) (h : Func → List β) (L : List Nat) : Option (List β) :=
  List.rec (some []) (fun g _ ih => ob (fn.get g) fun f => ob ih fun r => some (h f ++ r)) L
end
theorem fmFast_eq {β : Type} {P : Program} {h : Func → Option β} : ∀ {L : List Nat} {r : List β}, fmFast (PT.ofL 20 P.funcs.toList) h L = some r → (L.filterMap fun g => (P.funcs[g]?).bind h) = r := by
  intro L
  induction L with
  | nil => intro r hr; exact Option.some.inj hr
  | cons g L ih =>
    intro r hr
    have hr' : ob ((PT.ofL 20 P.funcs.toList).get g) (fun f => ob (fmFast (PT.ofL 20 P.funcs.toList) h L) fun r => some (Option.rec r (fun b => b :: r) (h f))) = some r := hr
    cases hg : (PT.ofL 20 P.funcs.toList).get g with
    | none => rw [hg] at hr'; cases hr'
    | some fn =>
      rw [hg] at hr'
      cases hL : fmFast (PT.ofL 20 P.funcs.toList) h L with
      | none => rw [hL] at hr'; cases hr'
      | some r0 =>
        rw [hL] at hr'
        have h1 := PT.get_ofL 20 _ _ _ hg
        rw [Array.getElem?_toList] at h1
        rw [List.filterMap_cons, h1, Option.bind_some, ih hL]
        have h2 : some (Option.rec r0 (fun b => b :: r0) (h fn) : List β) = some r := hr'
        cases hf : h fn with
        | none => rw [hf] at h2; exact Option.some.inj h2
        | some b => rw [hf] at h2; exact Option.some.inj h2
theorem flatFast_eq {β : Type} {P : Program} {h : Func → List β} : ∀ {L : List Nat} {r : List β}, flatFast (PT.ofL 20 P.funcs.toList) h L = some r → (L.flatMap fun g => (P.funcs[g]?).elim [] h) = r := by
  intro L
  induction L with
  | nil => intro r hr; exact Option.some.inj hr
  | cons g L ih =>
    intro r hr
    have hr' : ob ((PT.ofL 20 P.funcs.toList).get g) (fun f => ob (flatFast (PT.ofL 20 P.funcs.toList) h L) fun r => some (h f ++ r)) = some r := hr
    cases hg : (PT.ofL 20 P.funcs.toList).get g with
    | none => rw [hg] at hr'; cases hr'
    | some fn =>
      rw [hg] at hr'
      cases hL : flatFast (PT.ofL 20 P.funcs.toList) h L with
      | none => rw [hL] at hr'; cases hr'
      | some r0 =>
        rw [hL] at hr'
        have h1 := PT.get_ofL 20 _ _ _ hg
        rw [Array.getElem?_toList] at h1
        rw [List.flatMap_cons, h1, ih hL]
        exact Option.some.inj hr'
noncomputable section
/-- the numbers of those of a list that pass -/
def idxs (p : Func → Bool) (l : List Func) : Nat → List Nat := List.rec (fun _ => []) (fun f _ ih i => Bool.rec (ih (Nat.succ i)) (i :: ih (Nat.succ i)) (p f)) l
end
theorem idxs_eq {p : Func → Bool} : ∀ (l : List Func) (i : Nat), (List.range' i l.length).filter (fun j => (l[j - i]?).any p) = idxs p l i := by
  intro l
  induction l with
  | nil => intro i; rfl
  | cons f l ih =>
    intro i
    rw [List.length_cons, List.range'_succ, List.filter_cons]
    have h1 : ((f :: l)[i - i]?).any p = p f := by simp
    have h2 : (List.range' (i + 1) l.length).filter (fun j => ((f :: l)[j - i]?).any p) = idxs p l (i + 1) := by
      rw [← ih (i + 1)]
      refine List.filter_congr fun j hj => ?_
      have hj' := List.mem_range'_1.1 hj
      rw [show j - i = (j - (i + 1)) + 1 by omega, List.getElem?_cons_succ]
    rw [h1, h2]
    show _ = (Bool.rec (idxs p l (Nat.succ i)) (i :: idxs p l (Nat.succ i)) (p f) : List Nat)
    cases p f <;> rfl
theorem funcNamed_fast {P : Program} {name : String} {f : FuncId} (h : eqNats (idxs (fun fn => fn.name == name) P.funcs.toList 0) [f] = true) : P.funcNamed name = some f := by
  unfold Program.funcNamed
  have h1 := idxs_eq (p := fun fn => fn.name == name) P.funcs.toList 0
  rw [eqNats_eq h] at h1
  have h2 : (List.range P.funcs.size).filter (fun i => (P.funcs[i]?).any fun fn => fn.name == name) = [f] := by
    rw [← h1, List.range_eq_range', Array.length_toList]
    refine List.filter_congr fun j _ => ?_
    rw [Nat.sub_zero, Array.getElem?_toList]
  rw [h2]
theorem worded_fast {P : Program} {word : String} {b : Bool} (h : (P.funcs.toList.any fun fn => fn.body.isNone && fn.name == word) = b) : P.worded word = b := by
  unfold Program.worded
  rw [← Array.any_toList]
  exact h
end Go.Ev
