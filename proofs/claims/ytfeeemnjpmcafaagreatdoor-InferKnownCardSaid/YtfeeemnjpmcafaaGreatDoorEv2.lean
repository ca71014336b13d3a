/- A big-step evaluator over the model's code, and its soundness: part 2 (EvDraw3, EvVeq, EvDraw4, EvFrame, EvDraw5, EvDraw6, EvDraw7, EvDraw8, EvOrc, EvTop, EvSub, EvBld). -/
import Derived.Test.YtfeeemnjpmcafaaGreatDoorEv1
import Derived.CheckFast
import Derived.Lib.IndexBytes
/- Places in a plan; what stands before what. -/
namespace Go.Ev
open Go

def isLoud (x : It) : Bool := x.cls == 3
def louds (l : List It) : List Nat := ((l.filter isLoud).map fun x => x.i).reverse
theorem louds_cons_loud {x : It} (h : x.cls = 3) (l : List It) : louds (x :: l) = louds l ++ [x.i] := by simp [louds, isLoud, h]
theorem louds_cons_quiet {x : It} (h : x.cls ≠ 3) (l : List It) : louds (x :: l) = louds l := by simp [louds, isLoud, h]

theorem plan_pos {b : Array Nat} {s : Nat} {ls : List Nat} {l : List It} (h : Plan b s ls l) : ∀ p x, l[p]? = some x →
    x.cls ≤ 3 ∧
    (∀ j, (b.getD x.i 0).testBit j = true → s.testBit j = true ∨ ∃ p' y, p' < p ∧ l[p']? = some y ∧ y.i = j) ∧
    (x.cls = 3 → ∀ j, (s.testBit j = true ∨ ∃ p' y, p' < p ∧ l[p']? = some y ∧ y.i = j) → (b.getD x.i 0).testBit j = true) ∧
    (s.testBit x.i = false ∧ ∀ p' y, p' < p → l[p']? = some y → y.i ≠ x.i) ∧
    (x.cls ≤ 1 → x.back = backOf (b.getD x.i 0) (louds (l.take p) ++ ls)) := by
  have key : ∀ {s : Nat} {x : It} {r : List It} {p : Nat}, (∀ j, ((2 ^ x.i ||| s).testBit j = true ∨ ∃ p' y, p' < p ∧ r[p']? = some y ∧ y.i = j) ↔ (s.testBit j = true ∨ ∃ p' y, p' < p + 1 ∧ (x :: r)[p']? = some y ∧ y.i = j)) := by
    intro s x r p j
    rw [Nat.testBit_or, Nat.testBit_two_pow]
    simp only [Bool.or_eq_true, decide_eq_true_eq]
    constructor
    · rintro ((h | h) | ⟨p', y, h1, h2, h3⟩)
      · exact .inr ⟨0, x, by omega, rfl, h⟩
      · exact .inl h
      · exact .inr ⟨p' + 1, y, by omega, by simpa using h2, h3⟩
    · rintro (h | ⟨p', y, h1, h2, h3⟩)
      · exact .inl (.inr h)
      · cases p' with
        | zero => simp only [List.getElem?_cons_zero, Option.some.injEq] at h2; subst h2; exact .inl (.inl h3)
        | succ p' => exact .inr ⟨p', y, by omega, by simpa using h2, h3⟩
  have none0 : ∀ {x : It} {r : List It} {j : Nat} {s : Nat}, (s.testBit j = true ∨ ∃ p' y, p' < 0 ∧ (x :: r)[p']? = some y ∧ y.i = j) ↔ s.testBit j = true := by
    intro x r j s
    constructor
    · rintro (h | ⟨p', y, h1, _⟩)
      · exact h
      · omega
    · exact .inl
  induction h with
  | nil s ls => intro p x hx; simp at hx
  | @quiet s ls x r h1 h2 h3 h4 h5 _ ih =>
    intro p y hy
    cases p with
    | zero =>
      simp only [List.getElem?_cons_zero, Option.some.injEq] at hy
      subst hy
      refine ⟨h4, fun j hj => ?_, fun h => absurd h h3, ⟨h1, fun p' _ h => by omega⟩, fun h => by simpa [louds] using h5 h⟩
      left; rw [← h2, Nat.testBit_or, hj]; rfl
    | succ p =>
      obtain ⟨a1, a2, a3, ⟨a4, a5⟩, a6⟩ := ih p y (by simpa using hy)
      refine ⟨a1, fun j hj => (key j).1 (a2 j hj), fun h j hj => a3 h j ((key j).2 hj), ⟨?_, ?_⟩, fun h => ?_⟩
      · rw [Nat.testBit_or] at a4; exact (Bool.or_eq_false_iff.1 a4).2
      · intro p' z hp hz
        cases p' with
        | zero =>
          simp only [List.getElem?_cons_zero, Option.some.injEq] at hz
          subst hz
          rw [Nat.testBit_or, Nat.testBit_two_pow] at a4
          simpa using (Bool.or_eq_false_iff.1 a4).1
        | succ p' => exact a5 p' z (by omega) (by simpa using hz)
      · rw [List.take_succ_cons, louds_cons_quiet h3]; exact a6 h
  | @loud s ls x r h1 h2 h3 _ ih =>
    intro p y hy
    cases p with
    | zero =>
      simp only [List.getElem?_cons_zero, Option.some.injEq] at hy
      subst hy
      refine ⟨by omega, fun j hj => .inl (h2 ▸ hj), fun _ j hj => by rw [h2]; exact none0.1 hj, ⟨h1, fun p' _ h => by omega⟩, fun h => by omega⟩
    | succ p =>
      obtain ⟨a1, a2, a3, ⟨a4, a5⟩, a6⟩ := ih p y (by simpa using hy)
      refine ⟨a1, fun j hj => (key j).1 (a2 j hj), fun h j hj => a3 h j ((key j).2 hj), ⟨?_, ?_⟩, fun h => ?_⟩
      · rw [Nat.testBit_or] at a4; exact (Bool.or_eq_false_iff.1 a4).2
      · intro p' z hp hz
        cases p' with
        | zero =>
          simp only [List.getElem?_cons_zero, Option.some.injEq] at hz
          subst hz
          rw [Nat.testBit_or, Nat.testBit_two_pow] at a4
          simpa using (Bool.or_eq_false_iff.1 a4).1
        | succ p' => exact a5 p' z (by omega) (by simpa using hz)
      · rw [List.take_succ_cons, louds_cons_loud h3, List.append_assoc]; exact a6 h

theorem one_bit (look : Nat → Nat) (j : Nat) : ∀ (es : List Edge) (s : Nat),
    (es.foldl (fun s e => if Region.binds .any e then s ||| 2 ^ e.on ||| look e.on else s) s).testBit j = true ↔
      s.testBit j = true ∨ ∃ e ∈ es, Region.binds .any e = true ∧ (e.on = j ∨ (look e.on).testBit j = true) := by
  intro es
  induction es with
  | nil => intro s; simp
  | cons e es ih =>
    intro s
    rw [List.foldl_cons, ih]
    by_cases hb : Region.binds .any e = true
    · rw [if_pos hb, Nat.testBit_or, Nat.testBit_or, Nat.testBit_two_pow]
      simp only [Bool.or_eq_true, decide_eq_true_eq, List.mem_cons, exists_eq_or_imp]
      constructor
      · rintro (((h | h) | h) | h)
        · exact .inl h
        · exact .inr (.inl ⟨hb, .inl h⟩)
        · exact .inr (.inl ⟨hb, .inr h⟩)
        · exact .inr (.inr h)
      · rintro (h | ⟨_, h | h⟩ | h)
        · exact .inl (.inl (.inl h))
        · exact .inl (.inl (.inr h))
        · exact .inl (.inr h)
        · exact .inr h
    · rw [if_neg hb]
      simp only [List.mem_cons, exists_eq_or_imp]
      constructor
      · rintro (h | h)
        · exact .inl h
        · exact .inr (.inr h)
      · rintro (h | ⟨h, _⟩ | h)
        · exact .inl h
        · exact absurd h hb
        · exact .inr h

def stepB (acc : Array Nat) (o : Oper) : Array Nat := acc.push (CheckFast.one (fun i => acc.getD i 0) o)
theorem fold_get : ∀ (l : List Oper) (A : Array Nat) (i : Nat), i < A.size → (l.foldl stepB A)[i]? = A[i]? := by
  intro l
  induction l with
  | nil => intro A i _; rfl
  | cons o l ih =>
    intro A i hi
    rw [List.foldl_cons, ih _ i (by simp [stepB]; omega)]
    simp only [stepB]
    rw [Array.getElem?_push_lt hi, Array.getElem?_eq_getElem hi]
theorem fold_at : ∀ (l : List Oper) (A : Array Nat) (k : Nat) (o : Oper), l[k]? = some o → ∃ look : Nat → Nat, (l.foldl stepB A)[A.size + k]? = some (CheckFast.one look o) ∧
    ∀ j, look j = 0 ∨ look j = (l.foldl stepB A).getD j 0 := by
  intro l
  induction l with
  | nil => intro A k o h; simp at h
  | cons o' l ih =>
    intro A k o h
    cases k with
    | zero =>
      simp only [List.getElem?_cons_zero, Option.some.injEq] at h
      subst h
      refine ⟨fun i => A.getD i 0, ?_, fun j => ?_⟩
      · rw [List.foldl_cons, fold_get _ _ _ (by simp [stepB])]
        simp [stepB]
      · rcases Nat.lt_or_ge j A.size with hj | hj
        · right
          show A.getD j 0 = _
          rw [Array.getD_eq_getD_getElem?, Array.getD_eq_getD_getElem?, List.foldl_cons, fold_get _ _ _ (by simp [stepB]; omega)]
          simp only [stepB]
          rw [Array.getElem?_push_lt hj, Array.getElem?_eq_getElem hj]
        · left; simp [hj]
    | succ k =>
      obtain ⟨look, h1, h2⟩ := ih (stepB A o') k o (by simpa using h)
      refine ⟨look, ?_, h2⟩
      rw [List.foldl_cons, show A.size + (k + 1) = (stepB A o').size + k by simp [stepB]; omega]
      exact h1
theorem before_eq (ops : Array Oper) : Region.before ops = ops.toList.foldl stepB #[] := by
  rw [Array.foldl_toList]
  rfl
theorem before_edge {ops : Array Oper} {i : Nat} {o : Oper} (ho : ops[i]? = some o) {e : Edge} (he : e ∈ o.after) (hb : Region.binds .any e = true) : ((Region.before ops).getD i 0).testBit e.on = true := by
  obtain ⟨look, h1, _⟩ := fold_at ops.toList #[] i o (by simpa using ho)
  rw [before_eq, Array.getD_eq_getD_getElem?]
  simp only [Array.size_empty, Nat.zero_add] at h1
  rw [h1, Option.getD_some, CheckFast.one, ← Array.foldl_toList, one_bit]
  exact .inr ⟨e, by simpa using he, hb, .inl rfl⟩
theorem before_bit {ops : Array Oper} {i : Nat} {o : Oper} (ho : ops[i]? = some o) {j : Nat} (h : ((Region.before ops).getD i 0).testBit j = true) :
    ∃ e ∈ o.after, Region.binds .any e = true ∧ (e.on = j ∨ ((Region.before ops).getD e.on 0).testBit j = true) := by
  obtain ⟨look, h1, h2⟩ := fold_at ops.toList #[] i o (by simpa using ho)
  rw [before_eq, Array.getD_eq_getD_getElem?] at h
  simp only [Array.size_empty, Nat.zero_add] at h1
  rw [h1, Option.getD_some, CheckFast.one, ← Array.foldl_toList, one_bit] at h
  rcases h with h | ⟨e, h3, h4, h5⟩
  · simp at h
  · refine ⟨e, by simpa using h3, h4, h5.imp id fun h => ?_⟩
    rw [before_eq]
    rcases h2 e.on with h6 | h6
    · rw [h6] at h; simp at h
    · rw [← h6]; exact h
end Go.Ev

/- Two values held alike are one. -/
namespace Go.Ev
open Go

theorem band_rec {a b : Bool} : (Bool.rec (motive := fun _ => Bool) false b a) = true ↔ a = true ∧ b = true := by cases a <;> cases b <;> simp
theorem spot0_some {a : Addr} (h : spot0 a = true) : a.spot = none := (spot0_iff a).1 h
theorem addrB_eq {a b : Addr} (h : addrB a b = true) : a = b := by
  obtain ⟨h1, h2⟩ := band_rec.1 (show (Bool.rec (motive := fun _ => Bool) false (Bool.rec (motive := fun _ => Bool) false (Bool.rec (motive := fun _ => Bool) false (spot0 b) (spot0 a)) (Nat.beq a.off b.off)) (Nat.beq a.block b.block)) = true from h)
  obtain ⟨h3, h4⟩ := band_rec.1 h2
  obtain ⟨h5, h6⟩ := band_rec.1 h4
  rw [nbeq] at h1 h3
  have := spot0_some h5
  have := spot0_some h6
  cases a; cases b; simp_all
theorem oaB_eq {a b : Option Addr} (h : oaB a b = true) : a = b := by
  cases a with
  | none => cases b with
    | none => rfl
    | some b => cases h
  | some a => cases b with
    | none => cases h
    | some b => rw [addrB_eq (show addrB a b = true from h)]
theorem onB_eq {a b : Option Nat} (h : onB a b = true) : a = b := by
  cases a with
  | none => cases b with
    | none => rfl
    | some b => cases h
  | some a => cases b with
    | none => cases h
    | some b => rw [(nbeq a b).1 (show Nat.beq a b = true from h)]
theorem veqL_eq {rec : Value → Value → Bool} (hr : ∀ x y, rec x y = true → x = y) : ∀ xs ys, veqL rec xs ys = true → xs = ys := by
  intro xs
  induction xs with
  | nil =>
    intro ys h
    cases ys with
    | nil => rfl
    | cons y r => cases h
  | cons x xs ih =>
    intro ys h
    cases ys with
    | nil => cases h
    | cons y r =>
      obtain ⟨h1, h2⟩ := band_rec.1 (show (Bool.rec (motive := fun _ => Bool) false (veqL rec xs r) (rec x y)) = true from h)
      rw [hr x y h1, ih r h2]
theorem arr_of {xs ys : Array Value} (h : xs.toList = ys.toList) : xs = ys := Array.ext' h
theorem veqS_eq {rec : Value → Value → Bool} (hr : ∀ x y, rec x y = true → x = y) (x y : Value) (h : veqS rec x y = true) : x = y := by
  unfold veqS at h
  split at h
  · rw [bEq_eq] at h; rw [eq_of_beq h]
  · obtain ⟨h1, h2⟩ := band_rec.1 h
    rw [kEq_iff] at h1
    rw [iEq_eq] at h2
    rw [h1, eq_of_beq h2]
  · rw [bytesEq_eq] at h
    rename_i a b
    have h1 : a.data = b.data := Array.ext' (eq_of_beq h)
    cases a; cases b; simp only at h1; rw [h1]
  · rw [oaB_eq h]
  · obtain ⟨h1, h2⟩ := band_rec.1 h
    obtain ⟨h3, h4⟩ := band_rec.1 h2
    rw [nbeq] at h3 h4
    rw [oaB_eq h1, h3, h4]
  · rw [onB_eq h]
  · rfl
  · rfl
  · obtain ⟨h1, h2⟩ := band_rec.1 h
    rw [nbeq] at h1
    rw [h1, hr _ _ h2]
  · rw [arr_of (veqL_eq hr _ _ h)]
  · rw [arr_of (veqL_eq hr _ _ h)]
  · obtain ⟨h1, h2⟩ := band_rec.1 h
    obtain ⟨h3, h4⟩ := band_rec.1 h2
    rw [nbeq] at h1
    rw [h1, arr_of (veqL_eq hr _ _ h3), arr_of (veqL_eq hr _ _ h4)]
  · cases h
theorem veq_eq : ∀ (n : Nat) (x y : Value), veq n x y = true → x = y := by
  intro n
  induction n with
  | zero => intro x y h; cases h
  | succ n ih => intro x y h; exact veqS_eq ih x y h
end Go.Ev

/- The states of a plan's run. -/
namespace Go.Ev
open Go
variable {T : Tabs}
section
variable {rec : RecT} {all : List Oper} {df : List Deferred}

theorem Stp.tm {x : It} {s s' : Dr} {e : Value} {m : Option AObj} (h : Stp T rec all df x s s' e m) : s'.tm = putA s.tm x.o.dst e := by cases h <;> rfl
theorem Stp.nx {x : It} {s s' : Dr} {e : Value} {m : Option AObj} (h : Stp T rec all df x s s' e m) : s.nx ≤ s'.nx := by
  cases h with
  | loud _ _ _ _ hle => exact hle
  | make _ _ _ => exact Nat.le_succ _
  | _ => exact Nat.le_refl _
/-- one that is not loud -/
theorem Stp.calm {x : It} {s s' : Dr} {e : Value} {m : Option AObj} (h : Stp T rec all df x s s' e m) (hc : x.cls ≠ 3) :
    s'.h = s.h ∧ s'.old = s.old ∧ ((m = none ∧ s'.hp = s.hp ∧ s'.nx = s.nx) ∨ ∃ ob, m = some ob ∧ s'.hp = s.hp.set s.nx ob ∧ s'.nx = s.nx + 1) := by
  cases h with
  | skipL _ hc' => exact absurd hc' hc
  | loud _ hc' => exact absurd hc' hc
  | skip _ _ => exact ⟨rfl, rfl, .inl ⟨rfl, rfl, rfl⟩⟩
  | still _ _ _ _ => exact ⟨rfl, rfl, .inl ⟨rfl, rfl, rfl⟩⟩
  | make _ _ _ => exact ⟨rfl, rfl, .inr ⟨_, rfl, rfl, rfl⟩⟩
theorem Stp.cry {x : It} {s s' : Dr} {e : Value} {m : Option AObj} (h : Stp T rec all df x s s' e m) (hc : x.cls = 3) : s'.hp = s'.h ∧ s'.old = s.h :: s.old ∧ m = none := by
  cases h with
  | skipL _ _ => exact ⟨rfl, rfl, rfl⟩
  | loud _ _ _ _ _ => exact ⟨rfl, rfl, rfl⟩
  | skip _ hc' => exact absurd hc hc'
  | still _ hc' _ _ => omega
  | make _ hc' _ => omega

variable {l : List It} {s z : Dr} (t : Trace T rec all df l s z)
theorem at_lt {p : Nat} (h : p < l.length) : ∃ x, l[p]? = some x := ⟨l[p], List.getElem?_eq_getElem h⟩
theorem lt_at {p : Nat} {x : It} (h : l[p]? = some x) : p < l.length := (List.getElem?_eq_some_iff.1 h).1

theorem Trace.nx_le : ∀ k p, p + k ≤ l.length → (t.d p).nx ≤ (t.d (p + k)).nx := by
  intro k
  induction k with
  | zero => intro p _; exact Nat.le_refl _
  | succ k ih =>
    intro p h
    obtain ⟨x, hx⟩ := at_lt (l := l) (p := p + k) (by omega)
    exact Nat.le_trans (ih p (by omega)) (t.stp _ _ hx).nx
theorem Trace.nx_le' {p p' : Nat} (h : p ≤ p') (h' : p' ≤ l.length) : (t.d p).nx ≤ (t.d p').nx := by
  have := t.nx_le (p' - p) p (by omega)
  rwa [show p + (p' - p) = p' by omega] at this

theorem Trace.tm_none {x : Nat} : ∀ p, p ≤ l.length → (∀ p' y, p' < p → l[p']? = some y → y.o.dst ≠ some x) → (t.d p).tm.get x = s.tm.get x := by
  intro p
  induction p with
  | zero => intro _ _; rw [t.d0]
  | succ p ih =>
    intro hp hn
    obtain ⟨y, hy⟩ := at_lt (l := l) (p := p) (by omega)
    rw [(t.stp _ _ hy).tm, putA_get, if_neg (hn p y (by omega) hy)]
    exact ih (by omega) fun p' z h1 h2 => hn p' z (by omega) h2
theorem Trace.tm_some {x p0 : Nat} {y0 : It} (h0 : l[p0]? = some y0) (hd : y0.o.dst = some x) : ∀ k, p0 + 1 + k ≤ l.length → (∀ p' y, p0 < p' → p' < p0 + 1 + k → l[p']? = some y → y.o.dst ≠ some x) →
    (t.d (p0 + 1 + k)).tm.get x = some (t.e p0) := by
  intro k
  induction k with
  | zero => intro _ _; rw [Nat.add_zero, (t.stp _ _ h0).tm, putA_get, if_pos hd]
  | succ k ih =>
    intro hp hn
    obtain ⟨y, hy⟩ := at_lt (l := l) (p := p0 + 1 + k) (by omega)
    rw [show p0 + 1 + (k + 1) = (p0 + 1 + k) + 1 by omega, (t.stp _ _ hy).tm, putA_get, if_neg (hn _ y (by omega) (by omega) hy)]
    exact ih (by omega) fun p' z h1 h2 h3 => hn p' z h1 (by omega) h3

theorem take_louds {p : Nat} {x : It} (hx : l[p]? = some x) {q : Nat} (hq : q ≤ p) : (l.take (p + 1)).drop q = (l.take p).drop q ++ [x] := by
  rw [List.take_add_one, hx, List.drop_append_of_le_length (by rw [List.length_take]; have := lt_at hx; omega)]
  rfl
theorem Trace.snap {q : Nat} : ∀ k, q + k ≤ l.length → ((t.d (q + k)).h :: (t.d (q + k)).old)[(louds ((l.take (q + k)).drop q)).length]? = some (t.d q).h := by
  intro k
  induction k with
  | zero =>
    intro hq
    have : (l.take (q + 0)).drop q = [] := List.drop_eq_nil_of_le (by rw [List.length_take]; omega)
    rw [this]
    rfl
  | succ k ih =>
    intro hq
    obtain ⟨x, hx⟩ := at_lt (l := l) (p := q + k) (by omega)
    have hi := ih (by omega)
    have hs := t.stp _ _ hx
    rw [show q + (k + 1) = (q + k) + 1 by omega, take_louds hx (by omega)]
    by_cases hc : x.cls = 3
    · obtain ⟨_, h2, _⟩ := hs.cry hc
      have : louds ((l.take (q + k)).drop q ++ [x]) = x.i :: louds ((l.take (q + k)).drop q) := by simp [louds, isLoud, hc]
      rw [this, h2, List.length_cons, List.getElem?_cons_succ]
      exact hi
    · obtain ⟨h1, h2, _⟩ := hs.calm hc
      have : louds ((l.take (q + k)).drop q ++ [x]) = louds ((l.take (q + k)).drop q) := by simp [louds, isLoud, hc]
      rw [this, h1, h2]
      exact hi

theorem Trace.between {q : Nat} : ∀ k, q + k ≤ l.length → (∀ p y, q ≤ p → p < q + k → l[p]? = some y → y.cls ≠ 3) → (t.d (q + k)).h = (t.d q).h ∧
    ∀ b o, (t.d (q + k)).hp.get b = some o → (t.d q).hp.get b = some o ∨ ∃ p, q ≤ p ∧ p < q + k ∧ t.ma p = some o ∧ b = (t.d p).nx := by
  intro k
  induction k with
  | zero => intro _ _; exact ⟨rfl, fun b o h => .inl h⟩
  | succ k ih =>
    intro hq hn
    obtain ⟨x, hx⟩ := at_lt (l := l) (p := q + k) (by omega)
    obtain ⟨i1, i2⟩ := ih (by omega) fun p y h1 h2 h3 => hn p y h1 (by omega) h3
    obtain ⟨h1, _, h3⟩ := (t.stp _ _ hx).calm (hn _ x (by omega) (by omega) hx)
    rw [show q + (k + 1) = (q + k) + 1 by omega]
    refine ⟨h1.trans i1, fun b o hb => ?_⟩
    have old : (t.d (q + k)).hp.get b = some o → (t.d q).hp.get b = some o ∨ ∃ p, q ≤ p ∧ p < q + k + 1 ∧ t.ma p = some o ∧ b = (t.d p).nx := fun h => by
      rcases i2 b o h with h | ⟨p, h1, h2, h3⟩
      · exact .inl h
      · exact .inr ⟨p, h1, by omega, h3⟩
    rcases h3 with ⟨_, e2, _⟩ | ⟨ob, e1, e2, _⟩
    · rw [e2] at hb; exact old hb
    · rw [e2, PT.get_set] at hb
      by_cases hbn : b = (t.d (q + k)).nx
      · rw [if_pos hbn] at hb
        simp only [Option.some.injEq] at hb
        subst hb
        exact .inr ⟨q + k, by omega, by omega, e1, hbn⟩
      · rw [if_neg hbn] at hb; exact old hb
end

theorem stable_at {o : Op} {tm : PT Value} {nx : Nat} {v : Value} : ∀ (n : Nat) (old : List Hp), stable T o tm nx v n old = true → ∀ j h, j < n → old[j]? = some h → ∃ h' nx', disp o T tm h nx = some (.val v h' nx') := by
  intro n
  induction n with
  | zero => intro old _ j h hj; omega
  | succ n ih =>
    intro old hs j h hj hh
    cases old with
    | nil => simp at hh
    | cons h0 r =>
      have hs' : Option.rec (motive := fun _ => Bool) false (fun x => Option.rec (motive := fun _ => Bool) false (fun q : Value × Hp × Nat => Bool.rec (motive := fun _ => Bool) false (stable T o tm nx v n r) (veq 5 v q.1)) (nxV x)) (disp o T tm h0 nx) = true := hs
      cases hd : disp o T tm h0 nx with
      | none => rw [hd] at hs'; cases hs'
      | some x =>
        rw [hd] at hs'
        have hs2 : Option.rec (motive := fun _ => Bool) false (fun q : Value × Hp × Nat => Bool.rec (motive := fun _ => Bool) false (stable T o tm nx v n r) (veq 5 v q.1)) (nxV x) = true := hs'
        cases hq : nxV x with
        | none => rw [hq] at hs2; cases hs2
        | some q =>
          rw [hq] at hs2
          have hs3 : Bool.rec (motive := fun _ => Bool) false (stable T o tm nx v n r) (veq 5 v q.1) = true := hs2
          cases he : veq 5 v q.1 with
          | false => rw [he] at hs3; cases hs3
          | true =>
            rw [he] at hs3
            cases j with
            | zero =>
              simp only [List.getElem?_cons_zero, Option.some.injEq] at hh
              subst hh
              rw [hd, nxV_some hq, ← veq_eq _ _ _ he]
              exact ⟨_, _, rfl⟩
            | succ j => exact ih r hs3 j h (by omega) (by simpa using hh)
end Go.Ev

/- What one operation did to a part of the heap, told of the whole. -/
namespace Go.Ev
open Go
variable {T : Tabs}

structure Kp (ρ : Nat → Pl) (g : Heap) (w : World) (ρ' : Nat → Pl) (g' : Heap) (w' : World) : Prop where
  size : w.heap.size ≤ w'.heap.size
  keep : ∀ p, p < w.heap.size → (∀ b, (g b).isSome = true → (ρ b).blk ≠ p) → w'.heap[p]? = w.heap[p]?
  img : ∀ b, (g' b).isSome = true → (∃ b0, (g b0).isSome = true ∧ (ρ b0).blk = (ρ' b).blk) ∨ w.heap.size ≤ (ρ' b).blk
  os : w'.os = w.os
  tape : w'.tape = w.tape
  out : w'.output = w.output
theorem Kp.refl (ρ : Nat → Pl) (g : Heap) (w : World) : Kp ρ g w ρ g w := ⟨Nat.le_refl _, fun _ _ _ => rfl, fun b hb => .inl ⟨b, hb, rfl⟩, rfl, rfl, rfl⟩
theorem Kp.trans {ρ ρ1 ρ2 : Nat → Pl} {g g1 g2 : Heap} {w w1 w2 : World} (h : Kp ρ g w ρ1 g1 w1) (h2 : Kp ρ1 g1 w1 ρ2 g2 w2) : Kp ρ g w ρ2 g2 w2 where
  size := Nat.le_trans h.size h2.size
  keep p hp hg := by
    rw [h2.keep p (Nat.lt_of_lt_of_le hp h.size) (fun b hb he => ?_), h.keep p hp hg]
    rcases h.img b hb with ⟨b0, hb0, e0⟩ | hge
    · exact hg b0 hb0 (e0.trans he)
    · omega
  img b hb := by
    rcases h2.img b hb with ⟨b0, hb0, e0⟩ | hge
    · rcases h.img b0 hb0 with ⟨b1, hb1, e1⟩ | hge1
      · exact .inl ⟨b1, hb1, e1.trans e0⟩
      · exact .inr (by omega)
    · exact .inr (Nat.le_trans h.size hge)
  os := h2.os.trans h.os
  tape := h2.tape.trans h.tape
  out := h2.out.trans h.out

theorem frame {M : Nat → Prop} {ρ ρ' : Nat → Pl} {g g' G : Heap} {nx nx' : Nat} {w w' : World} (hG : Rel T ρ G w) (hM : AWf M G) (hsub : ∀ b o, g b = some o → G b = some o) (hdom : ∀ b o, g b = some o → b < nx)
    (hd : ∀ b, M b → b < nx ∨ nx' ≤ b) (hR : Rel T ρ' g' w') (hA : AWf (· < nx') g') (hP : Post ρ g nx w ρ' g' nx' w') :
    Rel T ρ' (fun b => if b < nx' then g' b else G b) w' ∧ AWf (fun b => b < nx' ∨ M b) (fun b => if b < nx' then g' b else G b) ∧ Kp ρ G w ρ' (fun b => if b < nx' then g' b else G b) w' := by
  have hle := hP.le
  have hrM : ∀ b, M b → ρ b = ρ' b := fun b hb => (hP.rho b (hd b hb)).symm
  have hout : ∀ b, nx' ≤ b → ρ' b = ρ b := fun b hb => hP.rho b (.inr hb)
  have apart : ∀ b b0, nx' ≤ b → (G b).isSome = true → (g b0).isSome = true → (ρ b0).blk ≠ (ρ b).blk := fun b b0 hb h1 h2 he => by
    obtain ⟨o0, ho0⟩ := Option.isSome_iff_exists.1 h2
    have := hG.inj b0 b (by rw [hsub _ _ ho0]; rfl) h1 he
    have := hdom _ _ ho0
    omega
  refine ⟨⟨hR.glob, fun b o hb => ?_, fun b b' h1 h2 he => ?_⟩, ⟨fun b o hb => ?_, fun b o hb => ?_⟩, ⟨hP.size, fun p hp hn => ?_, fun b hb => ?_, hP.os, hP.tape, hP.out⟩⟩
  · skip
    by_cases hlt : b < nx'
    · rw [if_pos hlt] at hb; exact hR.obj b o hb
    · rw [if_neg hlt] at hb
      have hS : (G b).isSome = true := by rw [hb]; rfl
      exact (hG.obj b o hb).keep (hM.vals b o hb) hrM (hout b (by omega)).symm (hP.keep _ (hG.blk_lt hS) fun b0 h0 => apart b b0 (by omega) hS h0)
  · skip
    by_cases l1 : b < nx' <;> by_cases l2 : b' < nx'
    · rw [if_pos l1] at h1; rw [if_pos l2] at h2; exact hR.inj b b' h1 h2 he
    · exfalso
      rw [if_pos l1] at h1; rw [if_neg l2] at h2
      rw [hout b' (by omega)] at he
      have := hG.blk_lt h2
      rcases hP.img b h1 with ⟨b0, hb0, e0⟩ | hge
      · exact apart b' b0 (by omega) h2 hb0 (e0.trans he)
      · omega
    · exfalso
      rw [if_neg l1] at h1; rw [if_pos l2] at h2
      rw [hout b (by omega)] at he
      have := hG.blk_lt h1
      rcases hP.img b' h2 with ⟨b0, hb0, e0⟩ | hge
      · exact apart b b0 (by omega) h1 hb0 (e0.trans he.symm)
      · omega
    · rw [if_neg l1] at h1; rw [if_neg l2] at h2
      rw [hout b (by omega), hout b' (by omega)] at he
      exact hG.inj b b' h1 h2 he
  · skip
    by_cases hlt : b < nx'
    · exact .inl hlt
    · rw [if_neg hlt] at hb; exact .inr (hM.dom b o hb)
  · skip
    have mono : ∀ {S : Nat → Prop}, (∀ x, S x → x < nx' ∨ M x) → ObjIn S o → ObjIn (fun b => b < nx' ∨ M b) o := by
      intro S hS ho
      cases o with
      | cells cs e op => exact fun v hv => (ho v hv).mono hS
      | map es c => exact fun e he => ⟨(ho e he).1.mono hS, (ho e he).2.mono hS⟩
    by_cases hlt : b < nx'
    · rw [if_pos hlt] at hb; exact mono (fun x hx => .inl hx) (hA.vals b o hb)
    · rw [if_neg hlt] at hb; exact mono (fun x hx => .inr hx) (hM.vals b o hb)
  · exact hP.keep p hp fun b hb => by
      obtain ⟨o, ho⟩ := Option.isSome_iff_exists.1 hb
      exact hn b (by rw [hsub _ _ ho]; rfl)
  · skip
    by_cases hlt : b < nx'
    · rw [if_pos hlt] at hb
      rcases hP.img b hb with ⟨b0, hb0, e0⟩ | hge
      · obtain ⟨o, ho⟩ := Option.isSome_iff_exists.1 hb0
        exact .inl ⟨b0, by rw [hsub _ _ ho]; rfl, e0⟩
      · exact .inr hge
    · rw [if_neg hlt] at hb; exact .inl ⟨b, hb, by rw [hout b (by omega)]⟩

theorem frame_add {M : Nat → Prop} {ρ : Nat → Pl} {G : Heap} {nx : Nat} {w : World} (hG : Rel T ρ G w) (hM : AWf M G) (hn : ¬ M nx) (h64 : 64 ≤ nx) {ob : AObj} {obj : Obj} (hob : ObjIn M ob)
    (hnew : ∀ (w : World) (k : Nat), w.heap[k]? = some obj → ObjR T (upd ρ nx ⟨k, 0, 0⟩) w nx ob) :
    Rel T (upd ρ nx ⟨w.heap.size, 0, 0⟩) (fun b => if b = nx then some ob else G b) { w with heap := w.heap.push obj } ∧
      AWf (fun b => M b ∨ b = nx) (fun b => if b = nx then some ob else G b) ∧
      Kp ρ G w (upd ρ nx ⟨w.heap.size, 0, 0⟩) (fun b => if b = nx then some ob else G b) { w with heap := w.heap.push obj } := by
  have hne : ∀ b, b ≠ nx → upd ρ nx ⟨w.heap.size, 0, 0⟩ b = ρ b := fun b hb => upd_ne ρ _ hb
  have hup : ∀ x, M x → ρ x = upd ρ nx ⟨w.heap.size, 0, 0⟩ x := fun x hx => (hne x (fun e => hn (e ▸ hx))).symm
  have hkeep : ∀ k, k < w.heap.size → ({ w with heap := w.heap.push obj } : World).heap[k]? = w.heap[k]? := fun k hk => by
    show (w.heap.push obj)[k]? = w.heap[k]?
    rw [Array.getElem?_push_lt hk, Array.getElem?_eq_getElem hk]
  refine ⟨⟨fun b hb => ?_, fun b o hb => ?_, fun b b' h1 h2 he => ?_⟩, ⟨fun b o hb => ?_, fun b o hb => ?_⟩, ⟨by simp, fun p hp _ => hkeep p hp, fun b hb => ?_, rfl, rfl, rfl⟩⟩
  · rw [hne b (by omega)]; exact hG.glob b hb
  · skip
    by_cases hbn : b = nx
    · rw [if_pos hbn] at hb
      simp only [Option.some.injEq] at hb
      subst hb; subst hbn
      exact hnew _ _ (by simp)
    · rw [if_neg hbn] at hb
      exact (hG.obj b o hb).keep (hM.vals b o hb) hup (hne b hbn).symm (hkeep _ (hG.blk_lt (by rw [hb]; rfl)))
  · skip
    by_cases e1 : b = nx <;> by_cases e2 : b' = nx
    · rw [e1, e2]
    · rw [if_neg e2] at h2
      have := hG.blk_lt h2
      rw [e1, upd_self, hne b' e2] at he
      simp only at he
      omega
    · rw [if_neg e1] at h1
      have := hG.blk_lt h1
      rw [e2, upd_self, hne b e1] at he
      simp only at he
      omega
    · rw [if_neg e1] at h1; rw [if_neg e2] at h2
      rw [hne b e1, hne b' e2] at he
      exact hG.inj b b' h1 h2 he
  · skip
    by_cases hbn : b = nx
    · exact .inr hbn
    · rw [if_neg hbn] at hb; exact .inl (hM.dom b o hb)
  · skip
    have mono : ∀ {o : AObj}, ObjIn M o → ObjIn (fun b => M b ∨ b = nx) o := by
      intro o ho
      cases o with
      | cells cs e op => exact fun v hv => (ho v hv).mono fun x hx => .inl hx
      | map es c => exact fun e he => ⟨(ho e he).1.mono fun x hx => .inl hx, (ho e he).2.mono fun x hx => .inl hx⟩
    by_cases hbn : b = nx
    · rw [if_pos hbn] at hb
      simp only [Option.some.injEq] at hb
      subst hb; exact mono hob
    · rw [if_neg hbn] at hb; exact mono (hM.vals b o hb)
  · skip
    by_cases hbn : b = nx
    · right; rw [hbn, upd_self]; exact Nat.le_refl _
    · rw [if_neg hbn] at hb; exact .inl ⟨b, hb, by rw [hne b hbn]⟩
end Go.Ev

/- What holds while a drawn region runs, in whatever order. -/
namespace Go.Ev
open Go
variable {T : Tabs}

structure Env (T : Tabs) (rec : RecT) (ops : Array Oper) (df : List Deferred) (l : List It) (s z : Dr) (n : Nat) where
  t : Trace T rec ops.toList df l s z
  plan : Plan (Region.before ops) 0 [] l
  its : ∀ x ∈ l, ItOk ops x
  cov : ∀ i, i < ops.size → ∃ x ∈ l, x.i = i
  dst : ∀ o ∈ ops, ∀ x, o.dst = some x → x < n
  pair : ∀ i j (o o' : Oper) (y : Nat), ops[i]? = some o → ops[j]? = some o' → o'.dst = some y → i ≠ j → o.dst ≠ some y ∧
    (usesT ops.toList o y = true → ((Region.before ops).getD i 0).testBit j = true ∨ ((Region.before ops).getD j 0).testBit i = true)

section
variable {rec : RecT} {ops : Array Oper} {df : List Deferred} {l : List It} {s z : Dr} {n : Nat} (E : Env T rec ops df l s z n)

/-- the blocks that may be named once D is done, q standing behind the last loud one -/
def Env.M (D : Nat → Prop) (q : Nat) (b : Nat) : Prop := b < (E.t.d q).nx ∨ ∃ p, q ≤ p ∧ D p ∧ p < l.length ∧ (E.t.d p).nx ≤ b ∧ b < (E.t.d (p + 1)).nx

structure Inv (ρ0 : Nat → Pl) (w0 : World) (D : Nat → Prop) (q : Nat) (ρ : Nat → Pl) (G : Heap) (a : Act) (w : World) : Prop where
  q_le : q ≤ l.length
  hq : (E.t.d q).hp = (E.t.d q).h
  pre : ∀ p, p < q → D p
  post : ∀ p x, q ≤ p → D p → l[p]? = some x → x.cls ≠ 3
  rel : Rel T ρ G w
  wf : AWf (E.M D q) G
  snapwf : AWf (· < (E.t.d q).nx) (E.t.d q).hp.get
  sub : ∀ b o, (E.t.d q).hp.get b = some o → G b = some o
  made : ∀ p, q ≤ p → D p → p < l.length → ∀ ob, E.t.ma p = some ob → G (E.t.d p).nx = some ob ∧ ObjIn (fun b => E.M D q b ∧ b < (E.t.d p).nx) ob
  val : ∀ p, D p → p < l.length → VIn (fun b => E.M D q b ∧ b < (E.t.d (p + 1)).nx) (E.t.e p)
  tmv : ∀ p x y, D p → l[p]? = some x → x.o.dst = some y → a.tmps.getD y undef = ren ρ (E.t.e p)
  tm0 : ∀ y v, (∀ p x, D p → l[p]? = some x → x.o.dst ≠ some y) → s.tm.get y = some v → a.tmps.getD y undef = ren ρ v
  sz : a.tmps.size = n
  rho : ∀ b, b < s.nx ∨ (E.t.d l.length).nx ≤ b → ρ b = ρ0 b
  kp : Kp ρ0 s.hp.get w0 ρ G w

variable {E}
theorem Env.dist {p p' : Nat} {x x' : It} (E : Env T rec ops df l s z n) (h : l[p]? = some x) (h' : l[p']? = some x') (he : x.i = x'.i) : p = p' := by
  rcases Nat.lt_trichotomy p p' with hlt | heq | hgt
  · exact absurd he ((plan_pos E.plan p' x' h').2.2.2.1.2 p x hlt h)
  · exact heq
  · exact absurd he.symm ((plan_pos E.plan p x h).2.2.2.1.2 p' x' hgt h')
theorem Env.before {p : Nat} {x : It} (E : Env T rec ops df l s z n) (h : l[p]? = some x) {j : Nat} (hj : ((Region.before ops).getD x.i 0).testBit j = true) : ∃ p' y, p' < p ∧ l[p']? = some y ∧ y.i = j := by
  rcases (plan_pos E.plan p x h).2.1 j hj with h1 | h1
  · simp at h1
  · exact h1
theorem Env.loudAll {p : Nat} {x : It} (E : Env T rec ops df l s z n) (h : l[p]? = some x) (hc : x.cls = 3) {p' : Nat} {y : It} (hp : p' < p) (hy : l[p']? = some y) : ((Region.before ops).getD x.i 0).testBit y.i = true :=
  (plan_pos E.plan p x h).2.2.1 hc y.i (.inr ⟨p', y, hp, hy, rfl⟩)
theorem Env.it {p : Nat} {x : It} (E : Env T rec ops df l s z n) (h : l[p]? = some x) : ops[x.i]? = some x.o ∧ x.cls = cls x.o.op := E.its x (List.mem_of_getElem? h)
theorem Env.s0 (E : Env T rec ops df l s z n) {q : Nat} (hq : q ≤ l.length) : s.nx ≤ (E.t.d q).nx := by
  have := E.t.nx_le' (Nat.zero_le q) hq
  rwa [E.t.d0] at this

/-- what stands when operation x, at place p, may run -/
structure Ready (E : Env T rec ops df l s z n) (D : Nat → Prop) (p : Nat) (x : It) : Prop where
  at_ : l[p]? = some x
  fresh : ¬ D p
  pred : ∀ j, ((Region.before ops).getD x.i 0).testBit j = true → ∀ p' y, l[p']? = some y → y.i = j → D p'
  shut : ∀ p' y, D p' → l[p']? = some y → ∀ j, ((Region.before ops).getD y.i 0).testBit j = true → ∀ p'' y'', l[p'']? = some y'' → y''.i = j → D p''

variable {ρ0 : Nat → Pl} {w0 : World} {D : Nat → Prop} {q : Nat} {ρ : Nat → Pl} {G : Heap} {a : Act} {w : World} {p : Nat} {x : It}
theorem Inv.q_le_p (I : Inv E ρ0 w0 D q ρ G a w) (R : Ready E D p x) : q ≤ p := Nat.le_of_not_lt fun h => R.fresh (I.pre p h)
theorem Inv.low (I : Inv E ρ0 w0 D q ρ G a w) {b : Nat} (h : b < s.nx) : E.M D q b := .inl (Nat.lt_of_lt_of_le h (E.s0 I.q_le))
theorem Inv.not_in (I : Inv E ρ0 w0 D q ρ G a w) (R : Ready E D p x) {b : Nat} (h : E.M D q b) : b < (E.t.d p).nx ∨ (E.t.d (p + 1)).nx ≤ b := by
  have hp := lt_at R.at_
  rcases h with h | ⟨p', h1, h2, h3, h4, h5⟩
  · exact .inl (Nat.lt_of_lt_of_le h (E.t.nx_le' (I.q_le_p R) (Nat.le_of_lt hp)))
  · rcases Nat.lt_trichotomy p' p with hlt | heq | hgt
    · exact .inl (Nat.lt_of_lt_of_le h5 (E.t.nx_le' hlt (Nat.le_of_lt hp)))
    · exact absurd (heq ▸ h2) R.fresh
    · exact .inr (Nat.le_trans (E.t.nx_le' hgt (Nat.le_of_lt h3)) h4)

theorem Inv.opd (I : Inv E ρ0 w0 D q ρ G a w) (R : Ready E D p x) (hs0 : ∀ y v, s.tm.get y = some v → VIn (· < s.nx) v) {y : Nat} (hu : usesT ops.toList x.o y = true) {v : Value} (hv : (E.t.d p).tm.get y = some v) :
    VIn (fun b => E.M D q b ∧ b < (E.t.d p).nx) v ∧ a.tmps.getD y undef = ren ρ v := by
  have hp := lt_at R.at_
  have hx := E.it R.at_
  by_cases hex : ∃ p' x', p' < p ∧ l[p']? = some x' ∧ x'.o.dst = some y
  · obtain ⟨p', x', h1, h2, h3⟩ := hex
    have hx' := E.it h2
    have hne : x.i ≠ x'.i := fun he => by have := E.dist R.at_ h2 he; omega
    have hD : D p' := by
      rcases (E.pair x.i x'.i x.o x'.o y hx.1 hx'.1 h3 hne).2 hu with hb | hb
      · exact R.pred _ hb p' x' h2 rfl
      · obtain ⟨p'', y'', g1, g2, g3⟩ := E.before h2 hb
        have := E.dist g2 R.at_ g3
        omega
    have hval := E.t.tm_some h2 h3 (p - (p' + 1)) (by omega) fun p'' y'' g1 g2 g3 g4 => by
      have hy := E.it g3
      have hne2 : y''.i ≠ x'.i := fun he => by have := E.dist g3 h2 he; omega
      exact (E.pair y''.i x'.i y''.o x'.o y hy.1 hx'.1 h3 hne2).1 g4
    rw [show p' + 1 + (p - (p' + 1)) = p by omega, hv] at hval
    simp only [Option.some.injEq] at hval
    subst hval
    refine ⟨(I.val p' hD (lt_at h2)).mono fun b hb => ⟨hb.1, Nat.lt_of_lt_of_le hb.2 (E.t.nx_le' h1 (Nat.le_of_lt hp))⟩, I.tmv p' x' y hD h2 h3⟩
  · have hnone : ∀ p' x', p' < p → l[p']? = some x' → x'.o.dst ≠ some y := fun p' x' h1 h2 h3 => hex ⟨p', x', h1, h2, h3⟩
    rw [E.t.tm_none p (Nat.le_of_lt hp) hnone] at hv
    refine ⟨(hs0 y v hv).mono fun b hb => ⟨I.low hb, Nat.lt_of_lt_of_le hb (E.s0 (Nat.le_of_lt hp))⟩, I.tm0 y v (fun p' x' hD h2 h3 => ?_) hv⟩
    have hx' := E.it h2
    have hne : x.i ≠ x'.i := fun he => by have := E.dist R.at_ h2 he; exact R.fresh (this ▸ hD)
    rcases (E.pair x.i x'.i x.o x'.o y hx.1 hx'.1 h3 hne).2 hu with hb | hb
    · obtain ⟨p'', y'', g1, g2, g3⟩ := E.before R.at_ hb
      have := E.dist g2 h2 g3
      exact hnone p'' y'' g1 g2 (by rw [← this] at h2; rw [h2] at g2; simp only [Option.some.injEq] at g2; rw [← g2]; exact h3)
    · exact R.fresh (R.shut p' x' hD h2 _ hb p x R.at_ rfl)

theorem usesT_op {ops : List Oper} {o : Oper} {y : Nat} (h : Operand.tmp y ∈ o.op.operands) : usesT ops o y = true := by
  have hall : bnot (allL (fun x => bnot (isTmp y x)) o.op.operands.toList) = true := by
    cases ha : allL (fun x => bnot (isTmp y x)) o.op.operands.toList with
    | false => rfl
    | true =>
      have := allL_iff.1 ha (.tmp y) (by simpa using h)
      have h2 : bnot (Nat.beq y y) = true := this
      rw [Nat.beq_refl] at h2
      cases h2
  show (Bool.rec (motive := fun _ => Bool) (guardT ops y o.guard) true (bnot (allL (fun x => bnot (isTmp y x)) o.op.operands.toList))) = true
  rw [hall]
theorem usesT_guard {ops : List Oper} {o : Oper} {g y : Nat} {b : Bool} (h : o.guard = some (g, b)) {q : Oper} (hq : ops[g]? = some q) (hd : q.dst = some y) : usesT ops o y = true := by
  have hg : guardT ops y o.guard = true := by
    rw [h]
    show (Option.rec (motive := fun _ => Bool) false (fun q : Oper => Option.rec (motive := fun _ => Bool) false (fun d => Nat.beq d y) q.dst) (getL ops g)) = true
    rw [getL_eq, hq]
    show (Option.rec (motive := fun _ => Bool) false (fun d => Nat.beq d y) q.dst) = true
    rw [hd]
    exact Nat.beq_refl y
  show (Bool.rec (motive := fun _ => Bool) (guardT ops y o.guard) true (bnot (allL (fun x => bnot (isTmp y x)) o.op.operands.toList))) = true
  rw [hg]
  cases bnot (allL (fun x => bnot (isTmp y x)) o.op.operands.toList) <;> rfl

theorem Inv.oprs (I : Inv E ρ0 w0 D q ρ G a w) (R : Ready E D p x) (h64 : 64 ≤ s.nx) (hs0 : ∀ y v, s.tm.get y = some v → VIn (· < s.nx) v) : ∀ y ∈ x.o.op.operands, OpR (fun b => E.M D q b ∧ b < (E.t.d p).nx) ρ (E.t.d p).tm a.eval y := by
  intro y hy
  refine opr_of I.rel.glob (fun b hb => ⟨I.low (by omega), ?_⟩) y fun t ht v hv => I.opd R hs0 (usesT_op (ht ▸ hy)) hv
  have := E.s0 (Nat.le_of_lt (lt_at R.at_))
  omega
theorem Inv.want (I : Inv E ρ0 w0 D q ρ G a w) (R : Ready E D p x) (hs0 : ∀ y v, s.tm.get y = some v → VIn (· < s.nx) v) {wv : Bool} (hw : wantA ops.toList x.o.guard (E.t.d p).tm = some wv) : Region.wanted x.o (yielded ops a.tmps) = wv := by
  refine want_of (S := fun b => E.M D q b ∧ b < (E.t.d p).nx) (ρ := ρ) hw (fun g hg t v ht hv => ?_) fun g t ht => ?_
  · obtain ⟨o2, h1, h2⟩ := Option.bind_eq_some_iff.1 ht
    obtain ⟨gp, hgp, hge⟩ := Option.map_eq_some_iff.1 hg
    exact I.opd R hs0 (usesT_guard (g := g) (b := gp.2) (by rw [hgp, ← hge]) (by simpa using h1) h2) hv
  · obtain ⟨o2, h1, h2⟩ := Option.bind_eq_some_iff.1 ht
    rw [I.sz]
    exact E.dst o2 (Array.mem_of_getElem? h1) t h2
end
end Go.Ev

/- One operation of a drawn region. -/
namespace Go.Ev
open Go
variable {T : Tabs}
section
variable {rec : RecT} {ops : Array Oper} {df : List Deferred} {l : List It} {s z : Dr} {n : Nat} {E : Env T rec ops df l s z n}
variable {ρ0 : Nat → Pl} {w0 : World} {D : Nat → Prop} {q : Nat} {ρ : Nat → Pl} {G : Heap} {a : Act} {w : World} {p : Nat} {x : It}

def also (D : Nat → Prop) (p : Nat) : Nat → Prop := fun p' => p' = p ∨ D p'
theorem Env.M_mono (E : Env T rec ops df l s z n) {q' : Nat} (hqq : q ≤ q') (hq' : q' ≤ l.length) {b : Nat} (h : E.M D q b) : E.M (also D p) q' b := by
  rcases h with h | ⟨p', h1, h2, h3, h4, h5⟩
  · exact .inl (Nat.lt_of_lt_of_le h (E.t.nx_le' hqq hq'))
  · by_cases hlt : p' < q'
    · exact .inl (Nat.lt_of_lt_of_le h5 (E.t.nx_le' hlt hq'))
    · exact .inr ⟨p', by omega, .inr h2, h3, h4, h5⟩

theorem Inv.next (I : Inv E ρ0 w0 D q ρ G a w) (R : Ready E D p x) (hs0 : ∀ y v, s.tm.get y = some v → VIn (· < s.nx) v) {q' : Nat} {ρ' : Nat → Pl} {G' : Heap} {w' : World}
    (hqq : q ≤ q') (hq'le : q' ≤ l.length) (hq' : (E.t.d q').hp = (E.t.d q').h) (hpre : ∀ p', p' < q' → also D p p') (hpost : ∀ p' y, q' ≤ p' → also D p p' → l[p']? = some y → y.cls ≠ 3)
    (hrM : ∀ b, E.M D q b → ρ b = ρ' b) (rel' : Rel T ρ' G' w') (wf' : AWf (E.M (also D p) q') G') (snapwf' : AWf (· < (E.t.d q').nx) (E.t.d q').hp.get) (sub' : ∀ b o, (E.t.d q').hp.get b = some o → G' b = some o)
    (hold : ∀ p', q' ≤ p' → D p' → p' < l.length → ∀ ob, E.t.ma p' = some ob → G (E.t.d p').nx = some ob → G' (E.t.d p').nx = some ob)
    (hnew : q' ≤ p → ∀ ob, E.t.ma p = some ob → G' (E.t.d p).nx = some ob ∧ ObjIn (fun b => E.M (also D p) q' b ∧ b < (E.t.d p).nx) ob)
    (hval : VIn (fun b => E.M (also D p) q' b ∧ b < (E.t.d (p + 1)).nx) (E.t.e p)) (hrho : ∀ b, b < s.nx ∨ (E.t.d l.length).nx ≤ b → ρ' b = ρ b) (hkp : Kp ρ G w ρ' G' w') :
    Inv E ρ0 w0 (also D p) q' ρ' G' (a.put x.o.dst (ren ρ' (E.t.e p))) w' := by
  have hx := E.it R.at_
  have hd : ∀ y, x.o.dst = some y → y < a.tmps.size := fun y hy => by rw [I.sz]; exact E.dst x.o (Array.mem_of_getElem? hx.1) y hy
  have mono : ∀ {k : Nat} (b : Nat), (E.M D q b ∧ b < k) → (E.M (also D p) q' b ∧ b < k) := fun b h => ⟨E.M_mono hqq hq'le h.1, h.2⟩
  refine ⟨hq'le, hq', hpre, fun p' y h1 h2 h3 => hpost p' y h1 h2 h3, rel', wf', snapwf', sub', fun p' h1 h2 h3 ob h4 => ?_, fun p' h1 h2 => ?_, fun p' x' y h1 h2 h3 => ?_, fun y v h1 h2 => ?_, ?_, fun b hb => ?_, I.kp.trans hkp⟩
  · rcases h2 with rfl | h2
    · exact hnew h1 ob h4
    · obtain ⟨g1, g2⟩ := I.made p' (Nat.le_trans hqq h1) h2 h3 ob h4
      refine ⟨hold p' h1 h2 h3 ob h4 g1, ?_⟩
      cases ob with
      | cells cs e op => exact fun v hv => (g2 v hv).mono mono
      | map es c => exact fun e he => ⟨(g2 e he).1.mono mono, (g2 e he).2.mono mono⟩
  · rcases h1 with rfl | h1
    · exact hval
    · exact (I.val p' h1 h2).mono mono
  · rw [put_getD a _ hd]
    by_cases hpp : p' = p
    · subst hpp
      rw [R.at_] at h2
      simp only [Option.some.injEq] at h2
      subst h2
      rw [if_pos h3]
    · rcases h1 with rfl | h1
      · exact absurd rfl hpp
      · have hx' := E.it h2
        have hne : x.i ≠ x'.i := fun he => hpp (E.dist R.at_ h2 he).symm
        rw [if_neg (E.pair x.i x'.i x.o x'.o y hx.1 hx'.1 h3 hne).1, I.tmv p' x' y h1 h2 h3]
        exact ((I.val p' h1 (lt_at h2)).mono fun b hb => hb.1).ren_eq hrM
  · rw [put_getD a _ hd, if_neg (h1 p x (.inl rfl) R.at_), I.tm0 y v (fun p' x' g1 g2 => h1 p' x' (.inr g1) g2) h2]
    exact ((hs0 y v h2).mono fun b hb => I.low hb).ren_eq hrM
  · rw [put_tmps]; exact I.sz
  · rw [hrho b hb]; exact I.rho b hb

/-- nothing turned but a temporary -/
theorem Inv.calm (I : Inv E ρ0 w0 D q ρ G a w) (R : Ready E D p x) (hs0 : ∀ y v, s.tm.get y = some v → VIn (· < s.nx) v) (hc : x.cls ≠ 3) (hm : E.t.ma p = none)
    (hval : VIn (fun b => E.M D q b ∧ b < (E.t.d p).nx) (E.t.e p)) : Inv E ρ0 w0 (also D p) q ρ G (a.put x.o.dst (ren ρ (E.t.e p))) w := by
  have hp := lt_at R.at_
  refine I.next R hs0 (Nat.le_refl _) I.q_le I.hq (fun p' h => .inr (I.pre p' h)) (fun p' y h1 h2 h3 => ?_) (fun _ _ => rfl) I.rel ?_ I.snapwf I.sub (fun _ _ _ _ _ _ h => h) (fun _ ob h => ?_) ?_ (fun _ _ => rfl) (Kp.refl _ _ _)
  · rcases h2 with rfl | h2
    · rw [R.at_] at h3; simp only [Option.some.injEq] at h3; rw [← h3]; exact hc
    · exact I.post p' y h1 h2 h3
  · refine ⟨fun b o h => E.M_mono (Nat.le_refl _) I.q_le (I.wf.dom b o h), fun b o h => ?_⟩
    have := I.wf.vals b o h
    cases o with
    | cells cs e op => exact fun v hv => (this v hv).mono fun b hb => E.M_mono (Nat.le_refl _) I.q_le hb
    | map es c => exact fun e he => ⟨(this e he).1.mono fun b hb => E.M_mono (Nat.le_refl _) I.q_le hb, (this e he).2.mono fun b hb => E.M_mono (Nat.le_refl _) I.q_le hb⟩
  · rw [hm] at h; cases h
  · exact hval.mono fun b hb => ⟨E.M_mono (Nat.le_refl _) I.q_le hb.1, Nat.lt_of_lt_of_le hb.2 (E.t.nx_le' (Nat.le_succ p) hp)⟩

theorem Inv.make (I : Inv E ρ0 w0 D q ρ G a w) (R : Ready E D p x) (h64 : 64 ≤ s.nx) (hs0 : ∀ y v, s.tm.get y = some v → VIn (· < s.nx) v) (hc : x.cls ≠ 3) {ob : AObj} {obj : Obj} (hm : E.t.ma p = some ob)
    (hnx : (E.t.d (p + 1)).nx = (E.t.d p).nx + 1) (hob : ObjIn (fun b => E.M D q b ∧ b < (E.t.d p).nx) ob)
    (hnew : ∀ (w : World) (k : Nat), w.heap[k]? = some obj → ObjR T (upd ρ (E.t.d p).nx ⟨k, 0, 0⟩) w (E.t.d p).nx ob)
    (hval : VIn (fun b => (E.M D q b ∧ b < (E.t.d p).nx) ∨ b = (E.t.d p).nx) (E.t.e p)) :
    Inv E ρ0 w0 (also D p) q (upd ρ (E.t.d p).nx ⟨w.heap.size, 0, 0⟩) (fun b => if b = (E.t.d p).nx then some ob else G b)
      (a.put x.o.dst (ren (upd ρ (E.t.d p).nx ⟨w.heap.size, 0, 0⟩) (E.t.e p))) { w with heap := w.heap.push obj } := by
  have hp := lt_at R.at_
  have hn : ¬ E.M D q (E.t.d p).nx := fun h => by have := I.not_in R h; omega
  have h64p : 64 ≤ (E.t.d p).nx := Nat.le_trans h64 (E.s0 (Nat.le_of_lt hp))
  have hobM : ObjIn (E.M D q) ob := by
    cases ob with
    | cells cs e op => exact fun v hv => (hob v hv).mono fun b hb => hb.1
    | map es c => exact fun e he => ⟨(hob e he).1.mono fun b hb => hb.1, (hob e he).2.mono fun b hb => hb.1⟩
  obtain ⟨f1, f2, f3⟩ := frame_add I.rel I.wf hn h64p hobM hnew
  have hself : E.M (also D p) q (E.t.d p).nx := .inr ⟨p, I.q_le_p R, .inl rfl, hp, Nat.le_refl _, by omega⟩
  have hin : ∀ b, (E.M D q b ∨ b = (E.t.d p).nx) → E.M (also D p) q b := fun b hb => by
    rcases hb with hb | rfl
    · exact E.M_mono (Nat.le_refl _) I.q_le hb
    · exact hself
  refine I.next R hs0 (Nat.le_refl _) I.q_le I.hq (fun p' h => .inr (I.pre p' h)) (fun p' y h1 h2 h3 => ?_) (fun b hb => (upd_ne ρ _ (fun e : b = (E.t.d p).nx => hn (by rw [← e]; exact hb))).symm) f1 ?_ I.snapwf (fun b o h => ?_) (fun p' h1 h2 h3 ob' h4 h5 => ?_) (fun _ ob' h => ?_) ?_ (fun b hb => ?_) f3
  · rcases h2 with rfl | h2
    · rw [R.at_] at h3; simp only [Option.some.injEq] at h3; rw [← h3]; exact hc
    · exact I.post p' y h1 h2 h3
  · refine ⟨fun b o h => hin b (f2.dom b o h), fun b o h => ?_⟩
    have := f2.vals b o h
    cases o with
    | cells cs e op => exact fun v hv => (this v hv).mono hin
    | map es c => exact fun e he => ⟨(this e he).1.mono hin, (this e he).2.mono hin⟩
  · have := I.snapwf.dom b o h
    have := E.t.nx_le' (I.q_le_p R) (Nat.le_of_lt hp)
    rw [if_neg (by omega)]
    exact I.sub b o h
  · have hM : E.M D q (E.t.d p').nx := I.wf.dom _ _ h5
    rw [if_neg (fun e : (E.t.d p').nx = (E.t.d p).nx => hn (by rw [← e]; exact hM))]
    exact h5
  · rw [hm] at h
    simp only [Option.some.injEq] at h
    subst h
    refine ⟨if_pos rfl, ?_⟩
    cases ob with
    | cells cs e op => exact fun v hv => (hob v hv).mono fun b hb => ⟨E.M_mono (Nat.le_refl _) I.q_le hb.1, hb.2⟩
    | map es c => exact fun e he => ⟨(hob e he).1.mono fun b hb => ⟨E.M_mono (Nat.le_refl _) I.q_le hb.1, hb.2⟩, (hob e he).2.mono fun b hb => ⟨E.M_mono (Nat.le_refl _) I.q_le hb.1, hb.2⟩⟩
  · refine hval.mono fun b hb => ?_
    rcases hb with hb | rfl
    · exact ⟨E.M_mono (Nat.le_refl _) I.q_le hb.1, by omega⟩
    · exact ⟨hself, by omega⟩
  · have h1 := E.s0 (Nat.le_of_lt hp)
    have h2 := E.t.nx_le' (show p + 1 ≤ l.length by omega) (Nat.le_refl _)
    exact upd_ne ρ _ (by omega)

/-- what is there ahead of a loud one: all that stands before it -/
theorem Inv.ahead (I : Inv E ρ0 w0 D q ρ G a w) (R : Ready E D p x) (hc : x.cls = 3) : (∀ p', p' < p → D p') ∧ (∀ b o, (E.t.d p).hp.get b = some o → G b = some o) ∧ AWf (· < (E.t.d p).nx) (E.t.d p).hp.get := by
  have hp := lt_at R.at_
  have hall : ∀ p', p' < p → D p' := fun p' h => by
    obtain ⟨y, hy⟩ := at_lt (l := l) (p := p') (by omega)
    exact R.pred y.i (E.loudAll R.at_ hc h hy) p' y hy rfl
  have hqp := I.q_le_p R
  obtain ⟨_, hb⟩ := E.t.between (q := q) (p - q) (by omega) fun p' y h1 h2 h3 => I.post p' y h1 (hall p' (by omega)) h3
  rw [show q + (p - q) = p by omega] at hb
  have hnxq := E.t.nx_le' hqp (Nat.le_of_lt hp)
  refine ⟨hall, fun b o h => ?_, ⟨fun b o h => ?_, fun b o h => ?_⟩⟩
  · rcases hb b o h with h1 | ⟨p', h1, h2, h3, rfl⟩
    · exact I.sub b o h1
    · exact (I.made p' h1 (hall p' (by omega)) (by omega) o h3).1
  · rcases hb b o h with h1 | ⟨p', h1, h2, h3, rfl⟩
    · have := I.snapwf.dom b o h1; omega
    · obtain ⟨y, hy⟩ := at_lt (l := l) (p := p') (by omega)
      have hM : E.M D q (E.t.d p').nx := I.wf.dom _ _ (I.made p' h1 (hall p' (by omega)) (by omega) o h3).1
      rcases I.not_in R hM with h | h
      · exact h
      · have := E.t.nx_le' (show p' ≤ p by omega) (Nat.le_of_lt hp)
        have := E.t.nx_le' (Nat.le_succ p) hp
        have hs := E.t.stp p' y hy
        rcases (hs.calm (I.post p' y h1 (hall p' (by omega)) hy)).2.2 with ⟨e1, _⟩ | ⟨ob, _, _, e3⟩
        · rw [h3] at e1; cases e1
        · have := E.t.nx_le' (show p' + 1 ≤ p by omega) (Nat.le_of_lt hp)
          omega
  · rcases hb b o h with h1 | ⟨p', h1, h2, h3, rfl⟩
    · have := I.snapwf.vals b o h1
      cases o with
      | cells cs e op => exact fun v hv => (this v hv).mono fun b hb => by omega
      | map es c => exact fun e he => ⟨(this e he).1.mono fun b hb => by omega, (this e he).2.mono fun b hb => by omega⟩
    · have := (I.made p' h1 (hall p' (by omega)) (by omega) o h3).2
      have hle := E.t.nx_le' (show p' ≤ p by omega) (Nat.le_of_lt hp)
      cases o with
      | cells cs e op => exact fun v hv => (this v hv).mono fun b hb => by have := hb.2; omega
      | map es c => exact fun e he => ⟨(this e he).1.mono fun b hb => by have := hb.2; omega, (this e he).2.mono fun b hb => by have := hb.2; omega⟩
end
end Go.Ev

/- One operation of a drawn region, run. -/
namespace Go.Ev
open Go
variable {T : Tabs}
section
variable {rec : RecT} {ops : Array Oper} {df : List Deferred} {l : List It} {s z : Dr} {n : Nat} {E : Env T rec ops df l s z n}
variable {ρ0 : Nat → Pl} {w0 : World} {D : Nat → Prop} {q : Nat} {ρ : Nat → Pl} {G : Heap} {a : Act} {w : World} {p : Nat} {x : It}

theorem louds_append (A B : List It) : louds (A ++ B) = louds B ++ louds A := by simp [louds, List.filter_append]
theorem Inv.loud (I : Inv E ρ0 w0 D q ρ G a w) (R : Ready E D p x) (hs0 : ∀ y v, s.tm.get y = some v → VIn (· < s.nx) v) (hc : x.cls = 3) {ρ' : Nat → Pl} {w' : World}
    (hq' : (E.t.d (p + 1)).hp = (E.t.d (p + 1)).h) (hR : Rel T ρ' (E.t.d (p + 1)).hp.get w') (hA : AWf (· < (E.t.d (p + 1)).nx) (E.t.d (p + 1)).hp.get)
    (hP : Post ρ (E.t.d p).hp.get (E.t.d p).nx w ρ' (E.t.d (p + 1)).hp.get (E.t.d (p + 1)).nx w') (hv : VIn (· < (E.t.d (p + 1)).nx) (E.t.e p)) :
    Inv E ρ0 w0 (also D p) (p + 1) ρ' (fun b => if b < (E.t.d (p + 1)).nx then (E.t.d (p + 1)).hp.get b else G b) (a.put x.o.dst (ren ρ' (E.t.e p))) w' := by
  have hp := lt_at R.at_
  have hqp := I.q_le_p R
  obtain ⟨g1, g2, g3⟩ := I.ahead R hc
  obtain ⟨f1, f2, f3⟩ := frame I.rel I.wf g2 g3.dom (fun b hb => I.not_in R hb) hR hA hP
  have hin : ∀ b, (b < (E.t.d (p + 1)).nx ∨ E.M D q b) → E.M (also D p) (p + 1) b := fun b hb => by
    rcases hb with hb | hb
    · exact .inl hb
    · exact E.M_mono (by omega) hp hb
  refine I.next R hs0 (by omega) hp hq' (fun p' h => ?_) (fun p' y h1 h2 h3 => ?_) (fun b hb => (hP.rho b (I.not_in R hb)).symm) f1 ?_ hA (fun b o h => ?_) (fun p' h1 h2 h3 ob h4 h5 => ?_) (fun h => by omega) ?_ (fun b hb => ?_) f3
  · by_cases he : p' = p
    · exact .inl he
    · exact .inr (g1 p' (by omega))
  · rcases h2 with rfl | h2
    · omega
    · exact I.post p' y (by omega) h2 h3
  · refine ⟨fun b o h => hin b (f2.dom b o h), fun b o h => ?_⟩
    have := f2.vals b o h
    cases o with
    | cells cs e op => exact fun v hv => (this v hv).mono hin
    | map es c => exact fun e he => ⟨(this e he).1.mono hin, (this e he).2.mono hin⟩
  · rw [if_pos (hA.dom b o h)]; exact h
  · have := E.t.nx_le' h1 (Nat.le_of_lt h3)
    rw [if_neg (by omega)]; exact h5
  · exact hv.mono fun b hb => ⟨.inl hb, hb⟩
  · have h1 := E.s0 (Nat.le_of_lt hp)
    have h2 := E.t.nx_le' (show p + 1 ≤ l.length from hp) (Nat.le_refl _)
    exact hP.rho b (by omega)

theorem step_wp (hT : TOk T) (hrec : CallOk T rec) (h64 : 64 ≤ s.nx) (hM0 : Ml T ρ0 s.hp.get w0) (hs0 : ∀ y v, s.tm.get y = some v → VIn (· < s.nx) v) (I : Inv E ρ0 w0 D q ρ G a w) (R : Ready E D p x) {Q : Exit → Act → World → Prop} {K : Act → World → Prop}
    (hK : ∀ q' ρ' G' a' w', Inv E ρ0 w0 (also D p) q' ρ' G' a' w' → a'.defers = a.defers → K a' w') : wpOp T.P ops Q x.i K a w := by
  obtain ⟨ho, hcls⟩ := E.it R.at_
  have hp := lt_at R.at_
  have hqp := I.q_le_p R
  have hoprs := I.oprs R h64 hs0
  have hst := E.t.stp p x R.at_
  have h64p : 64 ≤ (E.t.d p).nx := Nat.le_trans h64 (E.s0 (Nat.le_of_lt hp))
  unfold wpOp
  simp only [ho]
  generalize hd' : E.t.d (p + 1) = d' at hst
  generalize he' : E.t.e p = e' at hst
  generalize hm' : E.t.ma p = m' at hst
  cases hst with
  | skip hw hc =>
    rw [I.want R hs0 hw]
    simp only [Bool.false_eq_true, if_false]
    have h := I.calm R hs0 hc hm' (by rw [he']; exact undef_in)
    rw [he', undef_ren] at h
    exact hK _ _ _ _ _ h (put_defers' _ _ _)
  | skipL hw hc =>
    rw [I.want R hs0 hw]
    simp only [Bool.false_eq_true, if_false]
    obtain ⟨g1, g2, g3⟩ := I.ahead R hc
    have h := I.loud R hs0 hc (ρ' := ρ) (w' := w) (by rw [hd']) (by rw [hd']; exact I.rel.sub g2) (by rw [hd']; exact g3) (by rw [hd']; exact Post.refl _ _ _ _) (by rw [he']; exact undef_in)
    rw [he', undef_ren] at h
    exact hK _ _ _ _ _ h (put_defers' _ _ _)
  | @still hw hc v h' nx' hdisp hstab =>
    rw [I.want R hs0 hw]
    simp only [if_true]
    left
    -- the same answer in the heap as it is
    have hle : (louds ((l.take p).drop q)).length ≤ x.back := by
      have hback := (plan_pos E.plan p x R.at_).2.2.2.2 hc
      rw [hback, List.append_nil]
      have hsplit := louds_append ((l.take p).take q) ((l.take p).drop q)
      rw [List.take_append_drop] at hsplit
      rw [hsplit]
      have hall : ∀ i ∈ louds ((l.take p).drop q), bitB ((Region.before ops).getD x.i 0) i = false := by
        intro i hi
        simp only [louds, List.mem_reverse, List.mem_map, List.mem_filter] at hi
        obtain ⟨y, ⟨hy, hyl⟩, rfl⟩ := hi
        obtain ⟨k, hk⟩ := List.mem_iff_getElem?.1 hy
        rw [List.getElem?_drop, List.getElem?_take] at hk
        split at hk
        · rw [bitB_eq]
          cases hb : ((Region.before ops).getD x.i 0).testBit y.i with
          | false => rfl
          | true =>
            have := R.pred y.i hb _ y hk rfl
            have hne := I.post _ y (by omega) this hk
            simp [isLoud] at hyl
            exact absurd hyl hne
        · cases hk
      have key : ∀ (A B : List Nat), (∀ i ∈ A, bitB ((Region.before ops).getD x.i 0) i = false) → A.length ≤ backOf ((Region.before ops).getD x.i 0) (A ++ B) := by
        intro A
        induction A with
        | nil => intro B _; exact Nat.zero_le _
        | cons i A ih =>
          intro B h
          have h1 := h i (by simp)
          have h2 := ih B (fun j hj => h j (by simp [hj]))
          show _ ≤ (Bool.rec (motive := fun _ => Nat) (Nat.succ (backOf ((Region.before ops).getD x.i 0) (A ++ B))) 0 (bitB ((Region.before ops).getD x.i 0) i))
          rw [h1]
          exact Nat.succ_le_succ h2
      exact key _ _ hall
    have hsnap := E.t.snap (q := q) (p - q) (by omega)
    rw [show q + (p - q) = p by omega] at hsnap
    obtain ⟨h2, nx2, hd2⟩ : ∃ h2 nx2, disp x.o.op T (E.t.d p).tm (E.t.d q).h (E.t.d p).nx = some (.val e' h2 nx2) := by
      cases hk : (louds ((l.take p).drop q)).length with
      | zero =>
        rw [hk] at hsnap
        simp only [List.getElem?_cons_zero, Option.some.injEq] at hsnap
        rw [← hsnap]
        exact ⟨_, _, hdisp⟩
      | succ k =>
        rw [hk, List.getElem?_cons_succ] at hsnap
        exact stable_at _ _ hstab k _ (by omega) hsnap
    have hnxq := E.t.nx_le' hqp (Nat.le_of_lt hp)
    have hwf : AWf (fun b => E.M D q b ∧ b < (E.t.d p).nx) (E.t.d q).h.get := by
      rw [← I.hq]
      refine ⟨fun b o h => ?_, fun b o h => ?_⟩
      · have := I.snapwf.dom b o h
        exact ⟨.inl this, by omega⟩
      · have := I.snapwf.vals b o h
        cases o with
        | cells cs e op => exact fun v hv => (this v hv).mono fun b hb => ⟨.inl hb, by omega⟩
        | map es c => exact fun e he => ⟨(this e he).1.mono fun b hb => ⟨.inl hb, by omega⟩, (this e he).2.mono fun b hb => ⟨.inl hb, by omega⟩⟩
    have hrel : Rel T ρ (E.t.d q).h.get w := I.rel.sub fun b o h => I.sub b o (by rw [I.hq]; exact h)
    obtain ⟨v', hv', hin, hrun⟩ := still_ok hT hrel hwf (hcls ▸ hc) hoprs hd2
    simp only [Nx.val.injEq] at hv'
    obtain ⟨rfl, _⟩ := hv'
    unfold Oper.wp
    rw [hrun, Oper.upon_value]
    have h := I.calm R hs0 (by omega) hm' (by rw [he']; exact hin)
    rw [he'] at h
    exact hK _ _ _ _ _ h (put_defers' _ _ _)
  | @make hw hc v ob hdisp =>
    rw [I.want R hs0 hw]
    simp only [if_true]
    left
    obtain ⟨v', ob', obj, hr, hrun, hob, hin, hnew⟩ := make_ok hT (S := fun b => E.M D q b ∧ b < (E.t.d p).nx) (fun h => Nat.lt_irrefl _ h.2) (hcls ▸ hc) hoprs hdisp
    simp only [Nx.val.injEq] at hr
    obtain ⟨rfl, hset, _⟩ := hr
    have hobe : ob = ob' := by
      have := congrArg (fun t => PT.get t (E.t.d p).nx) hset
      simp only [PT.get_set, if_true, Option.some.injEq] at this
      exact this
    subst hobe
    unfold Oper.wp
    rw [hrun w, Oper.upon_value]
    have h := I.make R h64 hs0 (by omega) hm' (by rw [hd']) hob hnew (by rw [he']; exact hin)
    rw [he'] at h
    exact hK _ _ _ _ _ h (put_defers' _ _ _)
  | @loud hw hc v h' nx' r hdisp hr hle =>
    rw [I.want R hs0 hw]
    simp only [if_true]
    left
    obtain ⟨g1, g2, g3⟩ := I.ahead R hc
    have hrel : Rel T ρ (E.t.d p).hp.get w := I.rel.sub g2
    have hopn : ∀ y ∈ x.o.op.operands, OpR (· < (E.t.d p).nx) ρ (E.t.d p).tm a.eval y := fun y hy v hv => ⟨(hoprs y hy v hv).1.mono fun b hb => hb.2, (hoprs y hy v hv).2⟩
    unfold Oper.wp
    rcases loud_ok hT hrel g3 h64p (hcls ▸ hc) hopn hdisp with ⟨v2, h2, nx2, ρ', w', rfl, hrun, hR, hA, hP, hv⟩ | ⟨g, args, rfl, hin, hrun, _⟩
    · rcases hr with hr | ⟨f, args, hr, _⟩
      · simp only [Nx.val.injEq] at hr
        obtain ⟨rfl, rfl, rfl⟩ := hr
        have h := I.loud R hs0 hc (ρ' := ρ') (w' := w') (by rw [hd']) (by rw [hd']; exact hR) (by rw [hd']; exact hA) (by rw [hd']; exact hP) (by rw [hd', he']; exact hv)
        rw [he'] at h
        rcases hrun with hrun | ⟨hrun, rfl⟩
        · rw [hrun, Oper.upon_value]
          exact hK _ _ _ _ _ h (put_defers' _ _ _)
        · rw [hrun, Oper.upon_skip]
          rw [undef_ren] at h
          exact hK _ _ _ _ _ h (put_defers' _ _ _)
      · cases hr
    · rcases hr with hr | ⟨f, args', hr, hcall⟩
      · cases hr
      · simp only [Nx.enter.injEq] at hr
        obtain ⟨rfl, rfl⟩ := hr
        obtain ⟨v3, h3, nx3, ho3, hall⟩ := hrec _ _ _ _ hcall
        simp only [Out.call.injEq] at ho3
        obtain ⟨rfl, rfl, rfl⟩ := ho3
        obtain ⟨hcalls, _⟩ := hall ρ w hrel g3 h64p ((hM0.carry I.kp.keep I.kp.img).sub g2) hin
        rw [hrun, Oper.upon_enter]
        refine Calls.mono hcalls fun e w' he => ?_
        obtain ⟨ρ', rfl, hR, hA, hv, hP⟩ := he
        have h := I.loud R hs0 hc (ρ' := ρ') (w' := w') (by rw [hd']) (by rw [hd']; exact hR) (by rw [hd']; exact hA) (by rw [hd']; exact hP) (by rw [hd', he']; exact hv)
        rw [he'] at h
        exact hK _ _ _ _ _ h (put_defers' _ _ _)
end
end Go.Ev

/- Drawn regions, whole. -/
namespace Go.Ev
open Go
variable {T : Tabs}
section
variable {rec : RecT} {ops : Array Oper} {df : List Deferred} {l : List It} {s z : Dr} {n : Nat} {E : Env T rec ops df l s z n}
variable {ρ0 : Nat → Pl} {w0 : World} {D : Nat → Prop} {q : Nat} {ρ : Nat → Pl} {G : Heap} {a : Act} {w : World} {p : Nat} {x : It}

theorem all_done {listed : Array Bool} (hsz : listed.size = ops.size) (hDL : ∀ p x, l[p]? = some x → (D p ↔ listed.getD x.i false = true)) (E : Env T rec ops df l s z n) (h : Region.ready .any ops listed = []) :
    ∀ p, p < l.length → D p := by
  intro p
  induction p using Nat.strongRecOn with
  | _ p ih =>
    intro hp
    obtain ⟨x, hx⟩ := at_lt hp
    have ho := (E.it hx).1
    have hlt : x.i < ops.size := (Array.getElem?_eq_some_iff.1 ho).1
    refine Classical.byContradiction fun hn => ?_
    have hl : listed.getD x.i false = false := by
      cases hb : listed.getD x.i false with
      | false => rfl
      | true => exact absurd ((hDL p x hx).2 hb) hn
    have hmem : x.i ∈ Region.ready .any ops listed := by
      rw [mem_ready]
      refine ⟨?_, x.o, ho, fun e he hb => ?_⟩
      · have h1 : x.i < listed.size := by omega
        simpa [Array.getD, h1] using hl
      · obtain ⟨p', y, h1, h2, h3⟩ := E.before hx (before_edge ho he hb)
        rw [← h3]
        exact (hDL p' y h2).1 (ih p' h1 (by omega))
    rw [h] at hmem
    cases hmem

theorem any_ok (hT : TOk T) (hrec : CallOk T rec) (h64 : 64 ≤ s.nx) (hM0 : Ml T ρ0 s.hp.get w0) (hs0 : ∀ y v, s.tm.get y = some v → VIn (· < s.nx) v) {Q : Exit → Act → World → Prop} {ds : List Deferred}
    (hQ : ∀ D q ρ G a w, Inv E ρ0 w0 D q ρ G a w → (∀ p, p < l.length → D p) → a.defers = ds → Q .normal a w) :
    ∀ (fuel : Nat) (listed : Array Bool) (rem : List Nat) (D : Nat → Prop) (q : Nat) (ρ : Nat → Pl) (G : Heap) (a : Act) (w : World), Inv E ρ0 w0 D q ρ G a w →
      (∀ p x, l[p]? = some x → (D p ↔ listed.getD x.i false = true)) → listed.size = ops.size →
      (∀ i, listed.getD i false = true → ∀ j, ((Region.before ops).getD i 0).testBit j = true → listed.getD j false = true) →
      rem.Nodup → rem.length = fuel → (∀ i, i ∈ rem ↔ i < ops.size ∧ listed.getD i false = false) → a.defers = ds → wpAny T.P .any ops Q fuel listed a w := by
  intro fuel
  induction fuel with
  | zero =>
    intro listed rem D q ρ G a w I hDL hsz hcl hnd hlen hrem hds
    have hnil : rem = [] := List.eq_nil_of_length_eq_zero hlen
    subst hnil
    refine ⟨?_, hQ D q ρ G a w I (fun p hp => ?_) hds⟩
    · cases hr : Region.ready .any ops listed with
      | nil => rfl
      | cons i r =>
        have hi : i ∈ Region.ready .any ops listed := by rw [hr]; simp
        obtain ⟨h1, o, ho, _⟩ := mem_ready.1 hi
        have hlt : i < ops.size := (Array.getElem?_eq_some_iff.1 ho).1
        have : i ∈ ([] : List Nat) := (hrem i).2 ⟨hlt, by have h2 : i < listed.size := by omega
                                                          simpa [Array.getD, h2] using h1⟩
        cases this
    · obtain ⟨x, hx⟩ := at_lt hp
      have hlt : x.i < ops.size := (Array.getElem?_eq_some_iff.1 (E.it hx).1).1
      rw [hDL p x hx]
      cases hb : listed.getD x.i false with
      | true => rfl
      | false => have := (hrem x.i).2 ⟨hlt, hb⟩; cases this
  | succ fuel ih =>
    intro listed rem D q ρ G a w I hDL hsz hcl hnd hlen hrem hds
    refine ⟨fun h => hQ D q ρ G a w I (all_done hsz hDL E h) hds, fun i hi => ?_⟩
    obtain ⟨h1, o, ho, h2⟩ := mem_ready.1 hi
    have hlt : i < ops.size := (Array.getElem?_eq_some_iff.1 ho).1
    have hlts : i < listed.size := by omega
    have h1' : listed.getD i false = false := by simpa [Array.getD, hlts] using h1
    obtain ⟨x, hxl, rfl⟩ := E.cov i hlt
    obtain ⟨p, hp⟩ := List.mem_iff_getElem?.1 hxl
    have hxo : o = x.o := by have := (E.it hp).1; rw [ho] at this; exact Option.some.inj this
    subst hxo
    have hpred : ∀ j, ((Region.before ops).getD x.i 0).testBit j = true → listed.getD j false = true := fun j hj => by
      obtain ⟨e, he, hb, h3⟩ := before_bit ho hj
      have h4 := h2 e he hb
      rcases h3 with rfl | h3
      · exact h4
      · exact hcl e.on h4 j h3
    have R : Ready E D p x := ⟨hp, (fun hD => by have := (hDL p x hp).1 hD; rw [h1'] at this; exact Bool.noConfusion this),
      fun j hj p' y hy he => (hDL p' y hy).2 (by rw [he]; exact hpred j hj),
      fun p' y hD hy j hj p'' y'' hy'' he => (hDL p'' y'' hy'').2 (by rw [he]; exact hcl y.i ((hDL p' y hy).1 hD) j hj)⟩
    have hset : ∀ j, (listed.setIfInBounds x.i true).getD j false = true ↔ j = x.i ∨ listed.getD j false = true := fun j => by
      by_cases hj : x.i = j
      · subst hj; simp [hlts]
      · rw [getD_set_ne false hj]
        constructor
        · exact .inr
        · rintro (h | h)
          · exact absurd h.symm hj
          · exact h
    refine step_wp hT hrec h64 hM0 hs0 I R fun q' ρ' G' a' w' I' hd' => ?_
    refine ih _ (rem.erase x.i) _ q' ρ' G' a' w' I' (fun p' y hy => ?_) (by simp [hsz]) (fun j hj k hk => ?_) (hnd.erase _) ?_ (fun j => ?_) (hd'.trans hds)
    · rw [hset]
      constructor
      · rintro (rfl | h)
        · rw [hp] at hy; simp only [Option.some.injEq] at hy; exact .inl (by rw [hy])
        · exact .inr ((hDL p' y hy).1 h)
      · rintro (h | h)
        · exact .inl (E.dist hy hp h)
        · exact .inr ((hDL p' y hy).2 h)
    · rw [hset] at hj ⊢
      rcases hj with rfl | hj
      · exact .inr (hpred k hk)
      · exact .inr (hcl j hj k hk)
    · rw [List.length_erase_of_mem ((hrem x.i).2 ⟨hlt, h1'⟩), hlen]; rfl
    · rw [hnd.mem_erase_iff, hrem]
      constructor
      · rintro ⟨g1, g2, g3⟩
        refine ⟨g2, ?_⟩
        cases hb : (listed.setIfInBounds x.i true).getD j false with
        | false => rfl
        | true =>
          rcases (hset j).1 hb with h | h
          · exact absurd h g1
          · rw [g3] at h; cases h
      · rintro ⟨g1, g2⟩
        refine ⟨fun he => ?_, g1, ?_⟩
        · have := (hset j).2 (.inl he); rw [g2] at this; cases this
        · cases hb : listed.getD j false with
          | false => rfl
          | true => have := (hset j).2 (.inr hb); rw [g2] at this; cases this

theorem Inv.close (I : Inv E ρ0 w0 D q ρ G a w) (hall : ∀ p, p < l.length → D p) :
    (∀ b o, z.hp.get b = some o → G b = some o) ∧ AWf (· < z.nx) z.hp.get := by
  obtain ⟨_, hb⟩ := E.t.between (q := q) (l.length - q) (by have := I.q_le; omega) fun p' y h1 h2 h3 => I.post p' y h1 (hall p' (lt_at h3)) h3
  have hql := I.q_le
  rw [show q + (l.length - q) = l.length by omega, E.t.dz] at hb
  have hnx : ∀ p', p' ≤ l.length → (E.t.d p').nx ≤ z.nx := fun p' h => by have := E.t.nx_le' h (Nat.le_refl _); rwa [E.t.dz] at this
  have hnxq := hnx q hql
  refine ⟨fun b o h => ?_, ⟨fun b o h => ?_, fun b o h => ?_⟩⟩
  · rcases hb b o h with h1 | ⟨p', h1, h2, h3, rfl⟩
    · exact I.sub b o h1
    · exact (I.made p' h1 (hall p' (by omega)) (by omega) o h3).1
  · rcases hb b o h with h1 | ⟨p', h1, h2, h3, rfl⟩
    · have := I.snapwf.dom b o h1; omega
    · obtain ⟨y, hy⟩ := at_lt (l := l) (p := p') (by omega)
      have hs := E.t.stp p' y hy
      rcases (hs.calm (I.post p' y h1 (hall p' (by omega)) hy)).2.2 with ⟨e1, _⟩ | ⟨ob, _, _, e3⟩
      · rw [h3] at e1; cases e1
      · have := hnx (p' + 1) (by omega)
        omega
  · rcases hb b o h with h1 | ⟨p', h1, h2, h3, rfl⟩
    · have := I.snapwf.vals b o h1
      cases o with
      | cells cs e op => exact fun v hv => (this v hv).mono fun b hb => by omega
      | map es c => exact fun e he => ⟨(this e he).1.mono fun b hb => by omega, (this e he).2.mono fun b hb => by omega⟩
    · have := (I.made p' h1 (hall p' (by omega)) (by omega) o h3).2
      have hle := hnx p' (by omega)
      cases o with
      | cells cs e op => exact fun v hv => (this v hv).mono fun b hb => by have := hb.2; omega
      | map es c => exact fun e he => ⟨(this e he).1.mono fun b hb => by have := hb.2; omega, (this e he).2.mono fun b hb => by have := hb.2; omega⟩

theorem Inv.tmr (I : Inv E ρ0 w0 D q ρ G a w) (hall : ∀ p, p < l.length → D p) (hs0 : ∀ y v, s.tm.get y = some v → VIn (· < s.nx) v) : TmR (· < z.nx) ρ z.tm a := by
  have hnx : ∀ p', p' ≤ l.length → (E.t.d p').nx ≤ z.nx := fun p' h => by have := E.t.nx_le' h (Nat.le_refl _); rwa [E.t.dz] at this
  intro y v hv
  by_cases hex : ∃ (p' : Nat) (x' : It), l[p']? = some x' ∧ x'.o.dst = some y
  · obtain ⟨p', x', h2, h3⟩ := hex
    have hp' := lt_at h2
    have hval := E.t.tm_some h2 h3 (l.length - (p' + 1)) (by omega) fun p'' y'' g1 g2 g3 g4 => by
      have hne2 : y''.i ≠ x'.i := fun he => by have := E.dist g3 h2 he; omega
      exact (E.pair y''.i x'.i y''.o x'.o y (E.it g3).1 (E.it h2).1 h3 hne2).1 g4
    rw [show p' + 1 + (l.length - (p' + 1)) = l.length by omega, E.t.dz, hv] at hval
    simp only [Option.some.injEq] at hval
    subst hval
    have hle := hnx (p' + 1) hp'
    exact ⟨(I.val p' (hall p' hp') hp').mono fun b hb => by have := hb.2; omega, I.tmv p' x' y (hall p' hp') h2 h3⟩
  · have hnone : ∀ p' x', p' < l.length → l[p']? = some x' → x'.o.dst ≠ some y := fun p' x' _ h2 h3 => hex ⟨p', x', h2, h3⟩
    have h0 := E.t.tm_none l.length (Nat.le_refl _) hnone
    rw [E.t.dz, hv] at h0
    have hle := hnx 0 (Nat.zero_le _)
    rw [E.t.d0] at hle
    exact ⟨(hs0 y v h0.symm).mono fun b hb => by omega, I.tm0 y v (fun p' x' _ h2 h3 => hex ⟨p', x', h2, h3⟩) h0.symm⟩
end

theorem pair_of {ops : Array Oper} (h : drawOk ops.toList (Region.before ops) = true) : ∀ i j (o o' : Oper) (y : Nat), ops[i]? = some o → ops[j]? = some o' → o'.dst = some y → i ≠ j → o.dst ≠ some y ∧
    (usesT ops.toList o y = true → ((Region.before ops).getD i 0).testBit j = true ∨ ((Region.before ops).getD j 0).testBit i = true) := by
  intro i j o o' y h1 h2 h3 hne
  have g1 := allI_at h i o (by simpa using h1)
  rw [Nat.zero_add] at g1
  have g2 := allI_at g1 j o' (by simpa using h2)
  rw [Nat.zero_add, h3] at g2
  have g3 : (Bool.rec (motive := fun _ => Bool) (Bool.rec (motive := fun _ => Bool) (Bool.rec (motive := fun _ => Bool) true (Bool.rec (motive := fun _ => Bool) (bitB ((Region.before ops).getD j 0) i) true (bitB ((Region.before ops).getD i 0) j)) (usesT ops.toList o y)) false (dstIs o y)) true (Nat.beq i j)) = true := g2
  have hb : Nat.beq i j = false := by
    cases hb : Nat.beq i j with
    | false => rfl
    | true => exact absurd (Nat.eq_of_beq_eq_true hb) hne
  rw [hb] at g3
  cases hd : dstIs o y with
  | true => rw [hd] at g3; cases g3
  | false =>
    rw [hd] at g3
    refine ⟨fun he => ?_, fun hu => ?_⟩
    · have : dstIs o y = true := by
        unfold dstIs
        rw [he]
        exact Nat.beq_refl y
      rw [this] at hd; cases hd
    · rw [hu] at g3
      rw [← bitB_eq, ← bitB_eq]
      cases hbb : bitB ((Region.before ops).getD i 0) j with
      | true => exact .inl rfl
      | false => rw [hbb] at g3; exact .inr g3

theorem opsOk_some {n : Nat} {ops : Array Oper} {draw : Bool} (h : opsOk n ops draw = true) : (∀ o ∈ ops, ∀ x, o.dst = some x → x < n) ∧ (draw = true → drawOk ops.toList (Region.before ops) = true) := by
  have h' : (Bool.rec (motive := fun _ => Bool) false (Bool.rec (motive := fun _ => Bool) true (drawOk ops.toList (Region.before ops)) draw) (dstsOk n ops.toList)) = true := h
  obtain ⟨h1, h2⟩ := band_rec.1 h'
  refine ⟨fun o ho x hx => ?_, fun hd => ?_⟩
  · have := allL_iff.1 h1 o (by simpa using ho)
    rw [hx] at this
    exact (nble _ _).1 (show Nat.ble (Nat.succ x) n = true from this)
  · rw [hd] at h2; exact h2

theorem region_ok (hT : TOk T) (hm : T.P.follows .mixedOrders = true) : RegionsOk T := by
  intro rec hrec n id ops draw s s' hok h
  obtain ⟨hdst, hdr⟩ := opsOk_some hok
  cases draw with
  | false =>
    have h1 : opsA T rec ops.toList ops.toList s = some s' := h
    intro ρ a w hst b k cs hq
    obtain ⟨ρ', a', w', q1, q2, q3⟩ := ops_ok hT hrec hdst hq (b := b) (k := k) ops.size 0 s a w ρ (by omega) (by simpa using h1) hst
    refine ⟨ρ', a', w', q1, q2, ?_⟩
    have : step T.P (lone (b.at a (.code (.region id ops false) :: k)) cs w) = .next (lone (b.at a (.inRegion ops (List.range ops.size) :: k)) cs w) := step_region
    rw [List.range_eq_range'] at this
    exact .head this q3
  | true =>
    obtain ⟨l, hl, h1⟩ := ob_iff.1 (show ob (planOf ops) (fun l => ob (drawnA T rec ops.toList s.df l ⟨s.tm, s.hp, s.hp, s.nx, []⟩) fun d => some ⟨d.tm, s.df, d.hp, d.nx⟩) = some s' from h)
    obtain ⟨z, hz, h2⟩ := ob_iff.1 h1
    have := (Option.some.inj h2); subst this
    obtain ⟨p1, p2, p3⟩ := planOf_some hl
    have hcls : ∀ x ∈ l, x.cls = cls x.o.op ∧ x.cls ≤ 3 := fun x hx => by
      obtain ⟨p, hp⟩ := List.mem_iff_getElem?.1 hx
      exact ⟨(p2 x hx).2, (plan_pos p1 p x hp).1⟩
    obtain ⟨t⟩ := trace_of hcls hz
    let E : Env T rec ops s.df l ⟨s.tm, s.hp, s.hp, s.nx, []⟩ z n := ⟨t, p1, p2, p3, hdst, pair_of (hdr rfl)⟩
    intro ρ a w hst b k cs hq
    have hs0 : ∀ y v, s.tm.get y = some v → VIn (· < s.nx) v := fun y v hv => (hst.tm y v hv).1
    let w1 : World := { w with drawn := w.drawn + 1 }
    have hR1 : Rel T ρ s.hp.get w1 := hst.rel.world rfl
    have hM1 : Ml T ρ s.hp.get w1 := hst.ml
    have hd0 : E.t.d 0 = ⟨s.tm, s.hp, s.hp, s.nx, []⟩ := E.t.d0
    have hM0 : ∀ b, b < s.nx → E.M (fun _ => False) 0 b := fun b hb => .inl (by rw [hd0]; exact hb)
    have I0 : Inv E ρ w1 (fun _ => False) 0 ρ s.hp.get a w1 := by
      refine ⟨Nat.zero_le _, by rw [hd0], fun p h => by omega, fun _ _ _ h => h.elim, hR1, ⟨fun b o h => hM0 b (hst.wf.dom b o h), fun b o h => ?_⟩, by rw [hd0]; exact hst.wf, fun b o h => by rw [hd0] at h; exact h,
        fun _ _ h => h.elim, fun _ h => h.elim, fun _ _ _ h => h.elim, fun y v _ hv => (hst.tm y v hv).2, hst.sz, fun _ _ => rfl, Kp.refl _ _ _⟩
      have := hst.wf.vals b o h
      cases o with
      | cells cs e op => exact fun v hv => (this v hv).mono hM0
      | map es c => exact fun e he => ⟨(this e he).1.mono hM0, (this e he).2.mono hM0⟩
    let Q : Exit → Act → World → Prop := fun e a' w' => e = .normal ∧ ∃ ρ', StR T n ρ' ⟨z.tm, s.df, z.hp, z.nx⟩ a' w' ∧ Post ρ s.hp.get s.nx w ρ' z.hp.get z.nx w'
    have hfin : ∀ D q ρ' G a' w', Inv E ρ w1 D q ρ' G a' w' → (∀ p, p < l.length → D p) → a'.defers = a.defers → Q .normal a' w' := by
      intro D q ρ' G a' w' I hall hds
      obtain ⟨c1, c2⟩ := I.close hall
      have hnx : s.nx ≤ z.nx := by
        have := E.t.nx_le' (Nat.zero_le _) (Nat.le_refl l.length)
        rw [hd0, E.t.dz] at this; exact this
      refine ⟨rfl, ρ', ⟨I.rel.sub c1, c2, Nat.le_trans hst.n64 hnx, I.tmr hall hs0, I.sz, ?_, fun d hd => (hst.dfin d hd).mono fun b hb => Nat.lt_of_lt_of_le hb hnx, (hM1.carry I.kp.keep I.kp.img).sub c1⟩,
        ⟨hnx, fun b hb => I.rho b (by rw [E.t.dz]; exact hb), I.kp.size, fun p hp hn => I.kp.keep p hp hn, fun b hb => ?_, I.kp.os, I.kp.tape, I.kp.out⟩⟩
      · rw [hds, hst.df]
        exact List.map_congr_left fun d hd => (hst.dfin d hd).ren_eq fun b hb => (I.rho b (.inl hb)).symm
      · obtain ⟨o, ho⟩ := Option.isSome_iff_exists.1 hb
        exact I.kp.img b (by rw [c1 b o ho]; rfl)
    have hwp : (Code.region id ops true).wp T.P Q a w := by
      refine wp_region_any hm (any_ok (E := E) (ρ0 := ρ) (w0 := w1) (ds := a.defers) hT hrec hst.n64 hM1 hs0 hfin ops.size _ (List.range ops.size) (fun _ => False) 0 ρ s.hp.get a w1 I0
        (fun p x hx => ?_) (by simp) (fun i hi => ?_) List.nodup_range (by simp) (fun i => ?_) rfl)
      · have hlt : x.i < ops.size := (Array.getElem?_eq_some_iff.1 (E.it hx).1).1
        simp [hlt]
      · exfalso
        rcases Nat.lt_or_ge i ops.size with h | h
        · simp [h] at hi
        · simp [Nat.not_lt.2 h] at hi
      · simp only [List.mem_range]
        constructor
        · intro h; exact ⟨h, by simp [h]⟩
        · exact fun h => h.1
    obtain ⟨e, a', w', ⟨rfl, ρ', q1, q2⟩, harr⟩ := hwp b k cs
    exact ⟨ρ', a', w', q1, q2, harr⟩
end Go.Ev

/- The evaluator with oracles: calls that are answered by a law of their own. -/
namespace Go.Ev
open Go
noncomputable section
abbrev Orc := FuncId → List Value → St → Option Out
def stepO (T : Tabs) (O : Orc) (rec : RecT) (t : Task) : St → Option Out :=
  Task.rec (stepC T rec) (doScope rec) (doLoop rec) (fun f args s => Bool.rec (doCall T rec f args s) (Option.rec (doCall T rec f args s) (fun o => some o) (O f args s)) (T.orc f)) t
def evO (T : Tabs) (O : Orc) (n : Nat) : RecT := Nat.rec (fun _ _ => none) (fun _ ih => stepO T O ih) n
end
/-- what an oracle must keep -/
def OrcOk (T : Tabs) (O : Orc) : Prop := ∀ f args s o, O f args s = some o → ∃ v h' nx', o = .call v h' nx' ∧
  ∀ ρ w, Rel T ρ s.hp.get w → AWf (· < s.nx) s.hp.get → 64 ≤ s.nx → Ml T ρ s.hp.get w → (∀ v ∈ args, VIn (· < s.nx) v) →
    Calls T.P f (renL ρ args).toArray w fun e w' => ∃ ρ', e = .returned (ren ρ' v) ∧ Rel T ρ' h'.get w' ∧ AWf (· < nx') h'.get ∧ VIn (· < nx') v ∧ Post ρ s.hp.get s.nx w ρ' h'.get nx' w'
theorem allOk_stepO {T : Tabs} {O : Orc} (hT : TOk T) (hF : FnsOk T) (hr : RegionsOk T) (hO : OrcOk T O) {rec : RecT} (h : AllOk T rec) : AllOk T (stepO T O rec) where
  call f args s o ho := by
    have ho' : (Bool.rec (doCall T rec f args s) (Option.rec (doCall T rec f args s) (fun o => some o) (O f args s)) (T.orc f) : Option Out) = some o := ho
    cases hq : T.orc f with
    | false =>
      rw [hq] at ho'
      obtain ⟨v, h', nx', e, hall⟩ := call_step hT hF h.call h.code ho'
      exact ⟨v, h', nx', e, fun ρ w hR hA h64 hM hin => ⟨(hall ρ w hR hA h64 hM hin).1, fun _ => (hall ρ w hR hA h64 hM hin).2 hq⟩⟩
    | true =>
      rw [hq] at ho'
      cases hOo : O f args s with
      | none =>
        rw [hOo] at ho'
        obtain ⟨v, h', nx', e, hall⟩ := call_step hT hF h.call h.code ho'
        exact ⟨v, h', nx', e, fun ρ w hR hA h64 hM hin => ⟨(hall ρ w hR hA h64 hM hin).1, fun h => by cases h⟩⟩
      | some o2 =>
        rw [hOo] at ho'
        obtain rfl := Option.some.inj ho'
        obtain ⟨v, h', nx', e, hall⟩ := hO f args s _ hOo
        exact ⟨v, h', nx', e, fun ρ w hR hA h64 hM hin => ⟨hall ρ w hR hA h64 hM hin, fun h => by cases h⟩⟩
  code n c s o hok ho := code_step (hr rec h.call) h.code h.scp h.agn hok ho
  scp n c body s o hok hok2 ho := scope_ok h.code h.scp hok hok2 ho
  agn n body s o hok ho := loop_ok h.code h.agn hok ho
theorem evO_ok {T : Tabs} {O : Orc} (hT : TOk T) (hF : FnsOk T) (hr : RegionsOk T) (hO : OrcOk T O) : ∀ n, AllOk T (evO T O n)
  | 0 => allOk_none
  | n + 1 => allOk_stepO hT hF hr hO (evO_ok hT hF hr hO n)

/-! the oracle of the searches in texts -/
noncomputable section
def preL (sub : List UInt8) : List UInt8 → Bool :=
  List.rec (fun _ => true) (fun a _ ih m => List.rec false (fun b r _ => Bool.rec false (ih r) (Nat.beq (u8n a) (u8n b))) m) sub
/-- the first place of sub in l, from place i on -/
def idxFrom (sub : List UInt8) (l : List UInt8) : Nat → Option Nat :=
  List.rec (fun i => Bool.rec none (some i) (preL sub [])) (fun b r ih i => Bool.rec (ih (Nat.succ i)) (some i) (preL sub (b :: r))) l
def placeV (o : Option Nat) : Value := Option.rec (.int .i64 (.negSucc 0)) (fun i => .int .i64 (.ofNat i)) o
def byteOf : Value → Option UInt8 | .int .u8 (.ofNat n) => some (UInt8.ofNat n) | _ => none
def asStr : Value → Option (List UInt8) | .string s => some s.data.toList | _ => none
def twoV (f : Value → Value → Option Value) (l : List Value) : Option Value := List.rec none (fun x l _ => List.rec none (fun y l _ => List.rec (f x y) (fun _ _ _ => none) l) l) l
def idxA2 (x y : Value) : Option Value := ob (asStr x) fun s => ob (asStr y) fun t => bt (Nat.ble (lenL s) MAXL) (some (placeV (idxFrom t s 0)))
def byteA2 (x y : Value) : Option Value := ob (asStr x) fun s => ob (byteOf y) fun b => some (placeV (idxFrom [b] s 0))
/-- stringslite.Index is function fi, stringslite.IndexByte is fb; all else: O -/
def strO (fi fb : FuncId) (O : Orc) : Orc := fun f args s =>
  Bool.rec (Bool.rec (O f args s) (ob (twoV byteA2 args) fun v => some (.call v s.hp s.nx)) (Nat.beq f fb)) (ob (twoV idxA2 args) fun v => some (.call v s.hp s.nx)) (Nat.beq f fi)
end
theorem preL_eq : ∀ (sub m : List UInt8), preL sub m = sub.isPrefixOf m := by
  intro sub
  induction sub with
  | nil => intro m; cases m <;> rfl
  | cons a sub ih =>
    intro m
    cases m with
    | nil => rfl
    | cons b r =>
      show (Bool.rec false (preL sub r) (Nat.beq (u8n a) (u8n b)) : Bool) = (a == b && sub.isPrefixOf r)
      rw [ih, u8_beq]
      cases a == b <;> rfl
theorem idxFrom_eq (sub : List UInt8) : ∀ (l : List UInt8) (i : Nat), idxFrom sub l i = if Lib.index l sub = -1 then none else some (i + (Lib.index l sub).toNat) := by
  intro l
  induction l with
  | nil =>
    intro i
    show (Bool.rec none (some i) (preL sub []) : Option Nat) = _
    rw [preL_eq]
    cases sub with
    | nil => simp [Lib.index]
    | cons a t => simp [Lib.index]
  | cons b r ih =>
    intro i
    show (Bool.rec (idxFrom sub r (Nat.succ i)) (some i) (preL sub (b :: r)) : Option Nat) = _
    have hs : Lib.index (b :: r) sub = (if sub.isPrefixOf (b :: r) then 0 else if Lib.index r sub == -1 then -1 else Lib.index r sub + 1) := by rw [Lib.index]
    rw [preL_eq, ih, hs]
    cases hp : sub.isPrefixOf (b :: r) with
    | true => simp
    | false =>
      simp only [Bool.false_eq_true, if_false]
      have hge := Lib.index_ge r sub
      by_cases h1 : Lib.index r sub = -1
      · simp [h1]
      · have h2 : (Lib.index r sub == -1) = false := beq_eq_false_iff_ne.mpr h1
        rw [if_neg h1, h2]
        simp only [Bool.false_eq_true, if_false]
        rw [if_neg (by omega)]
        congr 1
        omega
theorem placeV_eq (sub l : List UInt8) : placeV (idxFrom sub l 0) = .int .i64 (Lib.index l sub) := by
  rw [idxFrom_eq]
  have hge := Lib.index_ge l sub
  by_cases h : Lib.index l sub = -1
  · rw [if_pos h, h]; rfl
  · rw [if_neg h]
    show Value.int .i64 (.ofNat (0 + (Lib.index l sub).toNat)) = _
    congr 1
    rw [Nat.zero_add]
    exact Int.toNat_of_nonneg (by omega)
theorem asStr_some {v : Value} {l : List UInt8} (h : asStr v = some l) : ∃ s : ByteArray, v = .string s ∧ s.data.toList = l := by
  unfold asStr at h
  split at h
  · exact ⟨_, rfl, Option.some.inj h⟩
  · cases h
theorem byteOf_some {v : Value} {b : UInt8} (h : byteOf v = some b) : ∃ n : Nat, v = .int .u8 (.ofNat n) ∧ UInt8.ofNat n = b := by
  unfold byteOf at h
  split at h
  · exact ⟨_, rfl, Option.some.inj h⟩
  · cases h
theorem twoV_some {f : Value → Value → Option Value} {l : List Value} {v : Value} (h : twoV f l = some v) : ∃ x y, l = [x, y] ∧ f x y = some v := by
  cases l with
  | nil => cases h
  | cons x l => cases l with
    | nil => cases h
    | cons y l => cases l with
      | nil => exact ⟨x, y, rfl, h⟩
      | cons z l => cases h
/-- what the library's laws say, in this program's numbers -/
def IdxLaw (T : Tabs) (fi fb : FuncId) : Prop :=
  (∀ (s sub : ByteArray) (m : Int) (w : World), s.size < 4294967281 → w.cell? ⟨T.gml, 0, none⟩ = some (.int .i64 m) → Calls T.P fi #[.string s, .string sub] w fun e w' => e = .returned (.int .i64 (Lib.index s.data.toList sub.data.toList)) ∧ w' = w) ∧
  (∀ (s : ByteArray) (c : Int) (w : World), Calls T.P fb #[.string s, .int .u8 c] w fun e w' => e = .returned (.int .i64 (Lib.indexByte s.data.toList c.toNat.toUInt8)) ∧ w' = w)
theorem strO_ok {T : Tabs} {fi fb : FuncId} {O : Orc} (hL : IdxLaw T fi fb) (hO : OrcOk T O) : OrcOk T (strO fi fb O) := by
  intro f args s o h
  have h' : (Bool.rec (Bool.rec (O f args s) (ob (twoV byteA2 args) fun v => some (.call v s.hp s.nx)) (Nat.beq f fb)) (ob (twoV idxA2 args) fun v => some (.call v s.hp s.nx)) (Nat.beq f fi) : Option Out) = some o := h
  cases hi : Nat.beq f fi with
  | true =>
    rw [hi] at h'
    obtain rfl := (nbeq _ _).1 hi
    obtain ⟨v, hv, ho⟩ := ob_iff.1 h'
    obtain rfl := Option.some.inj ho
    obtain ⟨x, y, rfl, hxy⟩ := twoV_some hv
    obtain ⟨a, ha, h1⟩ := ob_iff.1 hxy
    obtain ⟨b, hb, h2⟩ := ob_iff.1 h1
    obtain ⟨hle, h3⟩ := bt_iff.1 h2
    obtain ⟨t, rfl, rfl⟩ := asStr_some ha
    obtain ⟨u, rfl, rfl⟩ := asStr_some hb
    obtain rfl := Option.some.inj h3
    rw [placeV_eq]
    rw [nble, lenL_eq] at hle
    refine ⟨_, _, _, rfl, fun ρ w hR hA h64 hM hin => ?_⟩
    obtain ⟨m, hm⟩ := hM.1
    have hsz : t.size < 4294967281 := by
      have e : t.data.toList.length = t.size := by rw [Array.length_toList]; rfl
      have e2 : MAXL = 16777216 := rfl
      omega
    have hargs : (renL ρ [Value.string t, Value.string u]).toArray = #[.string t, .string u] := by simp [renL, ren_string]
    rw [hargs]
    refine (hL.1 t u m w hsz hm).mono ?_
    rintro e w' ⟨rfl, rfl⟩
    exact ⟨ρ, by rw [ren_int], hR, hA, .atom rfl, Post.refl _ _ _ _⟩
  | false =>
    rw [hi] at h'
    cases hb : Nat.beq f fb with
    | false =>
      rw [hb] at h'
      exact hO f args s o h'
    | true =>
      rw [hb] at h'
      obtain rfl := (nbeq _ _).1 hb
      obtain ⟨v, hv, ho⟩ := ob_iff.1 h'
      obtain rfl := Option.some.inj ho
      obtain ⟨x, y, rfl, hxy⟩ := twoV_some hv
      obtain ⟨a, ha, h1⟩ := ob_iff.1 hxy
      obtain ⟨b, hb2, h2⟩ := ob_iff.1 h1
      obtain ⟨t, rfl, rfl⟩ := asStr_some ha
      obtain ⟨n, rfl, rfl⟩ := byteOf_some hb2
      obtain rfl := Option.some.inj h2
      rw [placeV_eq, Lib.index_one]
      refine ⟨_, _, _, rfl, fun ρ w hR hA h64 hM hin => ?_⟩
      have hargs : (renL ρ [Value.string t, Value.int .u8 (.ofNat n)]).toArray = #[.string t, .int .u8 (.ofNat n)] := by simp [renL, ren_string, ren_int]
      rw [hargs]
      refine (hL.2 t (.ofNat n) w).mono ?_
      rintro e w' ⟨rfl, rfl⟩
      exact ⟨ρ, by rw [ren_int]; rfl, hR, hA, .atom rfl, Post.refl _ _ _ _⟩
theorem noO_ok {T : Tabs} : OrcOk T fun _ _ _ => none := fun _ _ _ _ h => nomatch h
end Go.Ev

/- The evaluator over a program whose package variables are laid: what one closed run tells of every call. -/
namespace Go.Ev
open Go
noncomputable section
/-- package variables: number, cells, type of the row -/
abbrev Gl := List (Nat × List Value × TypeId)
def heapOf (G : Gl) : Hp := List.rec .leaf (fun g _ ih => PT.set ih g.1 (.cells g.2.1 g.2.2 false)) G
def rowIs (o : AObj) (g : Nat × List Value × TypeId) : Bool := Option.rec false (fun q : List Value × TypeId × Bool => Bool.rec (andB (Nat.beq q.2.1 g.2.2) (veqL (veq 3) q.1 g.2.1)) false q.2.2) (cellsO o)
def sameG (h : Hp) (G : Gl) : Bool := allL (fun g => Option.rec false (fun o => rowIs o g) (h.get g.1)) G
def okG (ml : Nat) (G : Gl) : Bool := allL (fun g => andB (andB (Nat.ble (Nat.succ g.1) 64) (bnot (Nat.beq g.1 ml))) (allL closed1 g.2.1)) G
def endsT (G : Gl) (o : Option Out) : Bool :=
  match o with
  | some (.call (.bool true) h _) => sameG h G
  | _ => false
/-- the check of the functions that 'm' names -/
def okFns (m : Nat) (l : List Func) : Nat → Bool := List.rec (fun _ => true) (fun f _ ih i => andB (Bool.rec true (okFn f) (bitB m i)) (ih (Nat.succ i))) l
def maskT (m ml : Nat) (orc : Nat → Bool) (P : Program) (ty : PT TypeInfo) (fn : PT Func) : Tabs := ⟨P, fun t => ty.get t, fun f => bt (bitB m f) (fn.get f), orc, ml⟩
end
theorem okFns_at {m : Nat} : ∀ (l : List Func) (i : Nat), okFns m l i = true → ∀ j f, l[j]? = some f → bitB m (i + j) = true → okFn f = true := by
  intro l
  induction l with
  | nil => intro i _ j f hf; cases hf
  | cons x l ih =>
    intro i h j f hf hb
    obtain ⟨h1, h2⟩ := andB_iff.1 h
    cases j with
    | zero =>
      obtain rfl : x = f := by simpa using hf
      rw [Nat.add_zero] at hb
      rw [hb] at h1
      exact h1
    | succ j => exact ih (Nat.succ i) h2 j f (by simpa using hf) (by rw [show Nat.succ i + j = i + (j + 1) by omega]; exact hb)
theorem bt_some {β : Type} {b : Bool} {x : Option β} {y : β} (h : bt b x = some y) : b = true ∧ x = some y := by
  cases b with
  | false => cases h
  | true => exact ⟨rfl, h⟩
theorem mask_tabs {m ml : Nat} {orc : Nat → Bool} {P : Program} : TOk (maskT m ml orc P (PT.ofL 20 P.types.toList) (PT.ofL 20 P.funcs.toList)) := by
  refine ⟨fun t i h => ?_, fun f fn h => ?_⟩
  · have := PT.get_ofL 20 _ _ _ h
    rw [Array.getElem?_toList] at this
    have hlt : t < P.types.size := (Array.getElem?_eq_some_iff.1 this).1
    show P.info? t = some i
    unfold Tables.info?
    simp only [hlt, if_true, this]
  · have h1 := PT.get_ofL 20 _ _ _ (bt_some h).2
    rw [Array.getElem?_toList] at h1
    exact h1
theorem mask_fns {m ml : Nat} {orc : Nat → Bool} {P : Program} (h : okFns m P.funcs.toList 0 = true) : FnsOk (maskT m ml orc P (PT.ofL 20 P.types.toList) (PT.ofL 20 P.funcs.toList)) := by
  intro f fn hf
  obtain ⟨hb, hf⟩ := bt_some hf
  exact okFns_at _ _ h f fn (PT.get_ofL 20 _ _ _ hf) (by simpa using hb)

theorem heapOf_some : ∀ {G : Gl} {b : Nat} {o : AObj}, (heapOf G).get b = some o → ∃ g ∈ G, g.1 = b ∧ o = .cells g.2.1 g.2.2 false := by
  intro G
  induction G with
  | nil => intro b o h; cases h
  | cons g G ih =>
    intro b o h
    have h' : (PT.set (heapOf G) g.1 (.cells g.2.1 g.2.2 false)).get b = some o := h
    rw [PT.get_set] at h'
    by_cases e : b = g.1
    · rw [if_pos e] at h'
      exact ⟨g, by simp, e.symm, (Option.some.inj h').symm⟩
    · rw [if_neg e] at h'
      obtain ⟨g', h1, h2, h3⟩ := ih h'
      exact ⟨g', by simp [h1], h2, h3⟩
theorem okG_at {ml : Nat} {G : Gl} (h : okG ml G = true) {g : Nat × List Value × TypeId} (hg : g ∈ G) : g.1 < 64 ∧ g.1 ≠ ml ∧ ∀ v ∈ g.2.1, closed1 v = true := by
  have h1 := allL_iff.1 h g hg
  obtain ⟨h2, h3⟩ := andB_iff.1 h1
  obtain ⟨h4, h5⟩ := andB_iff.1 h2
  refine ⟨by rw [nble] at h4; omega, fun e => ?_, allL_iff.1 h3⟩
  have : Nat.beq g.1 ml = true := (nbeq _ _).2 e
  rw [this] at h5
  cases h5
/-- the laid variables, in a world -/
def LaidIn (G : Gl) (w : World) : Prop := ∀ g ∈ G, w.heap[g.1]? = some (.cells g.2.1.toArray g.2.2 (0, 0))
theorem start_rel {T : Tabs} {G : Gl} (hG : okG T.gml G = true) {w : World} (hw : LaidIn G w) : Rel T (fun b => ⟨b, 0, 0⟩) (heapOf G).get w := by
  refine ⟨fun _ _ => rfl, fun b o h => ?_, fun b b' _ _ h => h⟩
  obtain ⟨g, hg, rfl, rfl⟩ := heapOf_some h
  obtain ⟨_, _, hcl⟩ := okG_at hG hg
  refine ⟨g.2.1.toArray, (0, 0), hw g hg, fun i v hv => ?_, by simp, fun i _ => by simp, fun _ => ⟨rfl, by simp, rfl⟩, fun h => by cases h⟩
  rw [ren_atom (closed1_atom (hcl v (List.mem_of_getElem? hv)))]
  simpa using hv
theorem start_wf {ml : Nat} {G : Gl} (hG : okG ml G = true) : AWf (· < 64) (heapOf G).get := by
  refine ⟨fun b o h => ?_, fun b o h => ?_⟩
  · obtain ⟨g, hg, rfl, rfl⟩ := heapOf_some h
    exact (okG_at hG hg).1
  · obtain ⟨g, hg, rfl, rfl⟩ := heapOf_some h
    exact fun v hv => .atom (closed1_atom ((okG_at hG hg).2.2 v hv))
theorem start_ml {T : Tabs} {G : Gl} (hG : okG T.gml G = true) {w : World} (hm : ∃ m, w.cell? ⟨T.gml, 0, none⟩ = some (.int .i64 m)) : Ml T (fun b => ⟨b, 0, 0⟩) (heapOf G).get w := by
  refine ⟨hm, fun b hb e => ?_⟩
  obtain ⟨o, ho⟩ := Option.isSome_iff_exists.1 hb
  obtain ⟨g, hg, h1, _⟩ := heapOf_some ho
  exact (okG_at hG hg).2.1 (h1.trans e)
theorem rowIs_some {o : AObj} {g : Nat × List Value × TypeId} (h : rowIs o g = true) : o = .cells g.2.1 g.2.2 false := by
  unfold rowIs at h
  cases o with
  | map es c => cases h
  | cells cs e op =>
    cases op with
    | true => cases h
    | false =>
      have h' : andB (Nat.beq e g.2.2) (veqL (veq 3) cs g.2.1) = true := h
      obtain ⟨h1, h2⟩ := andB_iff.1 h'
      rw [(nbeq _ _).1 h1, veqL_eq (veq_eq 3) _ _ h2]
/-- a call without arguments that touches nothing that was there -/
theorem closed_true {T : Tabs} {O : Orc} {G : Gl} (hT : TOk T) (hF : FnsOk T) (hm : T.P.follows .mixedOrders = true) (hO : OrcOk T O) (hG : okG T.gml G = true) {n : Nat} {f : FuncId}
    (h : endsT G (evO T O n (.call f []) ⟨.leaf, [], heapOf G, 64⟩) = true) (w : World) (hw : LaidIn G w) (hml : ∃ m, w.cell? ⟨T.gml, 0, none⟩ = some (.int .i64 m)) :
    Calls T.P f #[] w fun e w' => e = .returned (.bool true) ∧ w.heap.size ≤ w'.heap.size ∧ (∀ p, p < w.heap.size → w'.heap[p]? = w.heap[p]?) ∧ w'.os = w.os ∧ w'.tape = w.tape ∧ w'.output = w.output := by
  have hok := evO_ok hT hF (region_ok hT hm) hO n
  generalize ho : evO T O n (.call f []) ⟨.leaf, [], heapOf G, 64⟩ = o at h
  cases o with
  | none => cases h
  | some o =>
    obtain ⟨v, h', nx', rfl, hall⟩ := hok.call f [] _ o ho
    have hv : v = .bool true ∧ sameG h' G = true := by
      unfold endsT at h
      split at h
      · rename_i heq
        simp only [Option.some.injEq, Out.call.injEq] at heq
        obtain ⟨e1, e2, _⟩ := heq
        exact ⟨e1, by rw [e2]; exact h⟩
      · cases h
    obtain ⟨rfl, hsame⟩ := hv
    obtain ⟨hc, _⟩ := hall (fun b => ⟨b, 0, 0⟩) w (start_rel hG hw) (start_wf hG) (Nat.le_refl _) (start_ml hG hml) (by simp)
    refine Calls.mono (by simpa [renL] using hc) fun e w' he => ?_
    obtain ⟨ρ', rfl, hR, _, _, hP⟩ := he
    refine ⟨by rw [ren_bool], hP.size, fun p hp => ?_, hP.os, hP.tape, hP.out⟩
    by_cases hd : ((heapOf G).get p).isSome = true
    · obtain ⟨o, ho2⟩ := Option.isSome_iff_exists.1 hd
      obtain ⟨g, hg, rfl, rfl⟩ := heapOf_some ho2
      have h1 := allL_iff.1 hsame g hg
      cases h2 : h'.get g.1 with
      | none => simp only [h2] at h1; cases h1
      | some o3 =>
        simp only [h2] at h1
        have h3 := rowIs_some h1
        subst h3
        obtain ⟨c2, fz, k1, k2, k3, k4, k5, _⟩ := hR.obj _ _ h2
        obtain ⟨k6, k7, k8⟩ := k5 rfl
        have hρ : ρ' g.1 = ⟨g.1, 0, 0⟩ := hR.glob _ (okG_at hG hg).1
        rw [hρ] at k1 k2
        rw [hw g hg, k1, k8]
        congr 2
        apply Array.ext'
        refine List.ext_getElem? fun i => ?_
        by_cases hi : i < g.2.1.length
        · have e1 := List.getElem?_eq_getElem hi
          have e2 := k2 i _ e1
          rw [ren_atom (closed1_atom ((okG_at hG hg).2.2 _ (List.getElem_mem hi)))] at e2
          simpa [e1] using e2
        · have e1 : c2.toList[i]? = none := List.getElem?_eq_none (by rw [Array.length_toList, k7]; omega)
          rw [e1, List.getElem?_eq_none (by simpa using hi)]
    · refine hP.keep p hp fun b hb e => ?_
      have e' : b = p := e
      subst e'
      exact hd hb
end Go.Ev

/- Calls whose run was evaluated by itself, on the blocks that it needs: what was found there answers wherever those blocks are so. -/
namespace Go.Ev
open Go
noncomputable section
def aeqE (a b : MapEntry) : Bool := andB (andB (veq 9 a.key b.key) (veq 9 a.val b.val)) (Nat.beq a.born b.born)
def aeqEs (xs : List MapEntry) : List MapEntry → Bool :=
  List.rec (fun ys => List.rec true (fun _ _ _ => false) ys) (fun x _ ih ys => List.rec false (fun y r _ => Bool.rec false (ih r) (aeqE x y)) ys) xs
def aeq (a b : AObj) : Bool :=
  match a, b with
  | .cells xs e o, .cells ys f p => andB (andB (Nat.beq e f) (bEq o p)) (veqL (veq 9) xs ys)
  | .map xs c, .map ys d => andB (Nat.beq c d) (aeqEs xs ys)
  | _, _ => false
abbrev Blks := List (Nat × AObj)
def heapL (l : Blks) : Hp := List.rec .leaf (fun g _ ih => PT.set ih g.1 g.2) l
def putL (l : Blks) (h : Hp) : Hp := List.rec h (fun g _ ih => PT.set ih g.1 g.2) l
def delL (l : Blks) (h : Hp) : Hp := List.rec h (fun g _ ih => PT.del ih g.1) l
def hasL (l : Blks) (h : Hp) : Bool := allL (fun g : Nat × AObj => Option.rec false (fun o => aeq o g.2) (h.get g.1)) l
/-- a call: where it begins, the blocks that it needs, what it hands back, where it ends, what those blocks and the new ones are then -/
structure Sub where
  f : FuncId
  args : List Value
  nx : Nat
  ins : Blks
  v : Value
  nx' : Nat
  outs : Blks
def subHit (e : Sub) (f : FuncId) (args : List Value) (s : St) : Bool :=
  andB (Nat.beq e.f f) (andB (Nat.beq e.nx s.nx) (andB (veqL (veq 9) args e.args) (hasL e.ins s.hp)))
def subO (l : List Sub) (O : Orc) : Orc := fun f args s =>
  List.rec (O f args s) (fun e _ ih => Bool.rec ih (some (.call e.v (putL e.outs (delL e.ins s.hp)) e.nx')) (subHit e f args s)) l
def endsS (e : Sub) (o : Option Out) : Bool :=
  match o with
  | some (.call v h nx) => andB (veq 9 v e.v) (andB (Nat.beq nx e.nx') (hasL e.outs h))
  | _ => false
end
theorem aeqEs_eq : ∀ xs ys, aeqEs xs ys = true → xs = ys := by
  intro xs
  induction xs with
  | nil =>
    intro ys h
    cases ys with
    | nil => rfl
    | cons y r => cases h
  | cons x xs ih =>
    intro ys h
    cases ys with
    | nil => cases h
    | cons y r =>
      obtain ⟨h1, h2⟩ := band_rec.1 (show (Bool.rec (motive := fun _ => Bool) false (aeqEs xs r) (aeqE x y)) = true from h)
      obtain ⟨h3, h4⟩ := andB_iff.1 h1
      obtain ⟨h5, h6⟩ := andB_iff.1 h3
      have k1 := veq_eq 9 _ _ h5
      have k2 := veq_eq 9 _ _ h6
      have k3 := (nbeq _ _).1 h4
      rw [ih r h2]
      cases x; cases y; simp_all
theorem aeq_eq {a b : AObj} (h : aeq a b = true) : a = b := by
  unfold aeq at h
  split at h
  · obtain ⟨h1, h2⟩ := andB_iff.1 h
    obtain ⟨h3, h4⟩ := andB_iff.1 h1
    rw [bEq_eq] at h4
    rw [(nbeq _ _).1 h3, eq_of_beq h4, veqL_eq (veq_eq 9) _ _ h2]
  · obtain ⟨h1, h2⟩ := andB_iff.1 h
    rw [(nbeq _ _).1 h1, aeqEs_eq _ _ h2]
  · cases h
theorem hasL_at {l : Blks} {h : Hp} (hh : hasL l h = true) {g : Nat × AObj} (hg : g ∈ l) : h.get g.1 = some g.2 := by
  have h1 := allL_iff.1 hh g hg
  cases h2 : h.get g.1 with
  | none => simp only [h2] at h1; cases h1
  | some o => simp only [h2] at h1; rw [aeq_eq h1]
theorem putL_some : ∀ {l : Blks} {h : Hp} {b : Nat} {o : AObj}, (putL l h).get b = some o → (b, o) ∈ l ∨ h.get b = some o := by
  intro l
  induction l with
  | nil => intro h b o hb; exact .inr hb
  | cons g l ih =>
    intro h b o hb
    have h' : (PT.set (putL l h) g.1 g.2).get b = some o := hb
    rw [PT.get_set] at h'
    by_cases e : b = g.1
    · rw [if_pos e] at h'
      exact .inl (by rw [e, ← Option.some.inj h']; simp)
    · rw [if_neg e] at h'
      rcases ih h' with h1 | h1
      · exact .inl (by simp [h1])
      · exact .inr h1
theorem heapL_some {l : Blks} {b : Nat} {o : AObj} (h : (heapL l).get b = some o) : (b, o) ∈ l := by
  rcases putL_some (h := .leaf) (show (putL l .leaf).get b = some o from h) with h | h
  · exact h
  · cases h
theorem delL_some : ∀ {l : Blks} {h : Hp} {b : Nat} {o : AObj}, (delL l h).get b = some o → h.get b = some o ∧ ∀ g ∈ l, g.1 ≠ b := by
  intro l
  induction l with
  | nil => intro h b o hb; exact ⟨hb, fun g hg => by cases hg⟩
  | cons g l ih =>
    intro h b o hb
    have h' : (PT.del (delL l h) g.1).get b = some o := hb
    rw [PT.get_del] at h'
    by_cases e : b = g.1
    · rw [if_pos e] at h'; cases h'
    · rw [if_neg e] at h'
      obtain ⟨h1, h2⟩ := ih h'
      exact ⟨h1, fun x hx => by
        rcases List.mem_cons.1 hx with rfl | hx
        · exact fun e' => e e'.symm
        · exact h2 x hx⟩
theorem heapL_dom : ∀ {l : Blks} {g : Nat × AObj}, g ∈ l → ((heapL l).get g.1).isSome = true := by
  intro l
  induction l with
  | nil => intro g hg; cases hg
  | cons x l ih =>
    intro g hg
    show ((PT.set (heapL l) x.1 x.2).get g.1).isSome = true
    rw [PT.get_set]
    by_cases e : g.1 = x.1
    · rw [if_pos e]; rfl
    · rw [if_neg e]
      rcases List.mem_cons.1 hg with rfl | hg
      · exact absurd rfl e
      · exact ih hg

/-- what a call did to the blocks that it was given, told of all -/
theorem frame_sub {T : Tabs} {ρ ρ' : Nat → Pl} {G g g' H : Heap} {nx nx' : Nat} {w w' : World} (hG : Rel T ρ G w) (hA : AWf (· < nx) G) (hsub : ∀ b o, g b = some o → G b = some o)
    (hR : Rel T ρ' g' w') (hA' : AWf (· < nx') g') (hP : Post ρ g nx w ρ' g' nx' w') (hH : ∀ b o, H b = some o → g' b = some o ∨ (G b = some o ∧ (g b).isSome = false)) :
    Rel T ρ' H w' ∧ AWf (· < nx') H ∧ Post ρ G nx w ρ' H nx' w' := by
  have hle := hP.le
  have hr : ∀ b, b < nx → ρ b = ρ' b := fun b hb => (hP.rho b (.inl hb)).symm
  have lift : ∀ b, (g b).isSome = true → (G b).isSome = true := fun b hb => by
    obtain ⟨o, ho⟩ := Option.isSome_iff_exists.1 hb
    rw [hsub _ _ ho]; rfl
  have apart : ∀ b b0, (G b).isSome = true → (g b).isSome = false → (g b0).isSome = true → (ρ b0).blk ≠ (ρ b).blk := fun b b0 h1 h2 h3 he => by
    have := hG.inj b0 b (lift _ h3) h1 he
    subst this
    rw [h3] at h2; cases h2
  have hcase : ∀ b, (H b).isSome = true → (g' b).isSome = true ∨ ((G b).isSome = true ∧ (g b).isSome = false ∧ b < nx) := fun b hb => by
    obtain ⟨o, ho⟩ := Option.isSome_iff_exists.1 hb
    rcases hH b o ho with h | ⟨h, h2⟩
    · exact .inl (by rw [h]; rfl)
    · exact .inr ⟨by rw [h]; rfl, h2, hA.dom _ _ h⟩
  have far : ∀ b b', (g' b).isSome = true → (G b').isSome = true → (g b').isSome = false → b' < nx → (ρ' b).blk ≠ (ρ' b').blk := fun b b' h1 h2 h3 h4 he => by
    rw [← hr b' h4] at he
    have := hG.blk_lt h2
    rcases hP.img b h1 with ⟨b0, hb0, e0⟩ | hge
    · exact apart b' b0 h2 h3 hb0 (e0.trans he)
    · omega
  refine ⟨⟨hR.glob, fun b o hb => ?_, fun b b' h1 h2 he => ?_⟩, ⟨fun b o hb => ?_, fun b o hb => ?_⟩, ⟨hP.le, hP.rho, hP.size, fun p hp hn => ?_, fun b hb => ?_, hP.os, hP.tape, hP.out⟩⟩
  · rcases hH b o hb with h | ⟨h, h2⟩
    · exact hR.obj b o h
    · have hS : (G b).isSome = true := by rw [h]; rfl
      exact (hG.obj b o h).keep (hA.vals b o h) hr (hr b (hA.dom _ _ h)) (hP.keep _ (hG.blk_lt hS) fun b0 h0 => apart b b0 hS h2 h0)
  · rcases hcase b h1 with k1 | ⟨k1, k2, k3⟩ <;> rcases hcase b' h2 with l1 | ⟨l1, l2, l3⟩
    · exact hR.inj b b' k1 l1 he
    · exact absurd he (far b b' k1 l1 l2 l3)
    · exact absurd he.symm (far b' b l1 k1 k2 k3)
    · rw [← hr b k3, ← hr b' l3] at he
      exact hG.inj b b' k1 l1 he
  · rcases hH b o hb with h | ⟨h, _⟩
    · exact hA'.dom b o h
    · exact Nat.lt_of_lt_of_le (hA.dom b o h) hle
  · rcases hH b o hb with h | ⟨h, _⟩
    · exact hA'.vals b o h
    · have ho := hA.vals b o h
      cases o with
      | cells cs e op => exact fun v hv => (ho v hv).mono fun x hx => Nat.lt_of_lt_of_le hx hle
      | map es c => exact fun e he => ⟨(ho e he).1.mono fun x hx => Nat.lt_of_lt_of_le hx hle, (ho e he).2.mono fun x hx => Nat.lt_of_lt_of_le hx hle⟩
  · exact hP.keep p hp fun b hb => hn b (lift b hb)
  · rcases hcase b hb with k1 | ⟨k1, k2, k3⟩
    · rcases hP.img b k1 with ⟨b0, hb0, e0⟩ | hge
      · exact .inl ⟨b0, lift b0 hb0, e0⟩
      · exact .inr hge
    · exact .inl ⟨b, k1, by rw [hr b k3]⟩

/-- the run of one such call -/
def SubRun (T : Tabs) (e : Sub) : Prop := ∃ O n, OrcOk T O ∧ endsS e (evO T O n (.call e.f e.args) ⟨.leaf, [], heapL e.ins, e.nx⟩) = true
theorem sub_one {T : Tabs} (hT : TOk T) (hF : FnsOk T) (hm : T.P.follows .mixedOrders = true) {e : Sub} (he : SubRun T e) {f : FuncId} {args : List Value} {s : St} (hs : subHit e f args s = true) :
    ∀ ρ w, Rel T ρ s.hp.get w → AWf (· < s.nx) s.hp.get → 64 ≤ s.nx → Ml T ρ s.hp.get w → (∀ v ∈ args, VIn (· < s.nx) v) →
      Calls T.P f (renL ρ args).toArray w fun en w' => ∃ ρ', en = .returned (ren ρ' e.v) ∧ Rel T ρ' (putL e.outs (delL e.ins s.hp)).get w' ∧ AWf (· < e.nx') (putL e.outs (delL e.ins s.hp)).get ∧ VIn (· < e.nx') e.v ∧
        Post ρ s.hp.get s.nx w ρ' (putL e.outs (delL e.ins s.hp)).get e.nx' w' := by
  obtain ⟨h1, h2⟩ := andB_iff.1 hs
  obtain ⟨h3, h4⟩ := andB_iff.1 h2
  obtain ⟨h5, h6⟩ := andB_iff.1 h4
  obtain rfl := (nbeq _ _).1 h1
  have hnx := (nbeq _ _).1 h3
  obtain rfl := veqL_eq (veq_eq 9) _ _ h5
  obtain ⟨O, n, hO, hrun⟩ := he
  intro ρ w hR hA h64 hM hin
  have hsub : ∀ b o, (heapL e.ins).get b = some o → s.hp.get b = some o := fun b o hb => hasL_at h6 (heapL_some hb)
  have hok := evO_ok hT hF (region_ok hT hm) hO n
  generalize ho : evO T O n (.call e.f e.args) ⟨.leaf, [], heapL e.ins, e.nx⟩ = o at hrun
  cases o with
  | none => cases hrun
  | some o =>
    obtain ⟨v, h', nx', rfl, hall⟩ := hok.call _ _ _ _ ho
    obtain ⟨g1, g2⟩ := andB_iff.1 (show andB (veq 9 v e.v) (andB (Nat.beq nx' e.nx') (hasL e.outs h')) = true from hrun)
    obtain ⟨g3, g4⟩ := andB_iff.1 g2
    obtain rfl := veq_eq 9 _ _ g1
    obtain rfl := (nbeq _ _).1 g3
    have hR0 := hR.sub (g' := (heapL e.ins).get) hsub
    have hA0 := hA.sub (g' := (heapL e.ins).get) hsub
    have hM0 := hM.sub (g' := (heapL e.ins).get) hsub
    obtain ⟨hc, _⟩ := hall ρ w hR0 (by rw [← hnx] at hA0; exact hA0) (by rw [← hnx] at h64; exact h64) hM0 (by rw [← hnx] at hin; exact hin)
    refine hc.mono fun en w' hh => ?_
    obtain ⟨ρ', rfl, k1, k2, k3, k4⟩ := hh
    have k4' : Post ρ (heapL e.ins).get s.nx w ρ' h'.get e.nx' w' := by rw [← hnx]; exact k4
    obtain ⟨l1, l2, l3⟩ := frame_sub (H := (putL e.outs (delL e.ins s.hp)).get) hR hA hsub k1 k2 k4' fun b o hb => by
      rcases putL_some hb with h | h
      · exact .inl (hasL_at g4 h)
      · obtain ⟨m1, m2⟩ := delL_some h
        refine .inr ⟨m1, ?_⟩
        cases hx : (heapL e.ins).get b with
        | none => rfl
        | some o2 => exact absurd rfl (m2 _ (heapL_some hx))
    exact ⟨ρ', rfl, l1, l2, k3, l3⟩
theorem subO_ok {T : Tabs} (hT : TOk T) (hF : FnsOk T) (hm : T.P.follows .mixedOrders = true) {O : Orc} (hO : OrcOk T O) : ∀ {l : List Sub}, (∀ e ∈ l, SubRun T e) → OrcOk T (subO l O) := by
  intro l
  induction l with
  | nil => intro _; exact hO
  | cons e l ih =>
    intro hl f args s o h
    have h' : (Bool.rec (subO l O f args s) (some (.call e.v (putL e.outs (delL e.ins s.hp)) e.nx')) (subHit e f args s) : Option Out) = some o := h
    cases hs : subHit e f args s with
    | false =>
      rw [hs] at h'
      exact ih (fun x hx => hl x (by simp [hx])) f args s o h'
    | true =>
      rw [hs] at h'
      obtain rfl := Option.some.inj h'
      exact ⟨_, _, _, rfl, sub_one hT hF hm (hl e (by simp)) hs⟩
end Go.Ev

/- The oracle of (*strings.Builder).copyCheck. -/
namespace Go.Ev
open Go
noncomputable section
def isNil : Value → Bool | .pointer none => true | _ => false
def copyGo (h : Hp) (nx : Nat) (a : Addr) (e : TypeId) (p x : Value) : Option Out :=
  Bool.rec (ob (asAdr p) fun b => bt (addrB b a) (some (.call (.tuple #[]) h nx)))
    (some (.call (.tuple #[]) (h.set a.block (.cells [.pointer (some a), x] e false)) nx)) (isNil p)
def two2 {β : Type} (f : Value → Value → Option β) (l : List Value) : Option β := List.rec none (fun x l _ => List.rec none (fun y l _ => List.rec (f x y) (fun _ _ _ => none) l) l) l
def copyA (tb : TypeId) (h : Hp) (nx : Nat) (v : Value) : Option Out :=
  ob (asAdr v) fun a => bt (spot0 a) (bt (Nat.beq a.off 0) (ob (h.get a.block) fun o => ob (cellsO o) fun q => bt (bnot q.2.2) (bt (Nat.beq q.2.1 tb) (two2 (copyGo h nx a q.2.1) q.1))))
def only2 {β : Type} (f : Value → Option β) (l : List Value) : Option β := List.rec none (fun x l _ => List.rec (f x) (fun _ _ _ => none) l) l
/-- (*strings.Builder).copyCheck is function fc, the builder's type is tb -/
def copyO (fc : FuncId) (tb : TypeId) (O : Orc) : Orc := fun f args s => Bool.rec (O f args s) (only2 (copyA tb s.hp s.nx) args) (Nat.beq f fc)
end
def CopyLaw (T : Tabs) (fc : FuncId) (tb : TypeId) : Prop :=
  (∀ (b : Nat) (w : World), w.cell? ⟨b, 0, none⟩ = some (.pointer (some ⟨b, 0, none⟩)) → Calls T.P fc #[.pointer (some ⟨b, 0, none⟩)] w fun e w' => e = .returned (.tuple #[]) ∧ w' = w) ∧
  (∀ (b : Nat) (w : World), w.cell? ⟨b, 0, none⟩ = some (.pointer none) → w.shape? b = some (tb, 2) → w.frozen? ⟨b, 0, none⟩ = false →
    Calls T.P fc #[.pointer (some ⟨b, 0, none⟩)] w fun e w' => e = .returned (.tuple #[]) ∧ w' = w.setCell ⟨b, 0, none⟩ (.pointer (some ⟨b, 0, none⟩)))
theorem two2_some {β : Type} {f : Value → Value → Option β} {l : List Value} {r : β} (h : two2 f l = some r) : ∃ x y, l = [x, y] ∧ f x y = some r := by
  cases l with
  | nil => cases h
  | cons x l => cases l with
    | nil => cases h
    | cons y l => cases l with
      | nil => exact ⟨x, y, rfl, h⟩
      | cons z l => cases h
theorem only2_some {β : Type} {f : Value → Option β} {l : List Value} {r : β} (h : only2 f l = some r) : ∃ x, l = [x] ∧ f x = some r := by
  cases l with
  | nil => cases h
  | cons x l => cases l with
    | nil => exact ⟨x, rfl, h⟩
    | cons y l => cases h
theorem isNil_some {v : Value} (h : isNil v = true) : v = .pointer none := by
  unfold isNil at h
  split at h
  · rfl
  · cases h
theorem copyO_ok {T : Tabs} {fc : FuncId} {tb : TypeId} {O : Orc} (hL : CopyLaw T fc tb) (hO : OrcOk T O) : OrcOk T (copyO fc tb O) := by
  intro f args s o h
  have h' : (Bool.rec (O f args s) (only2 (copyA tb s.hp s.nx) args) (Nat.beq f fc) : Option Out) = some o := h
  cases hi : Nat.beq f fc with
  | false =>
    rw [hi] at h'
    exact hO f args s o h'
  | true =>
    rw [hi] at h'
    obtain rfl := (nbeq _ _).1 hi
    obtain ⟨v, rfl, h1⟩ := only2_some h'
    obtain ⟨a, ha, h2⟩ := ob_iff.1 h1
    obtain rfl := asAdr_some ha
    obtain ⟨hs, h3⟩ := bt_iff.1 h2
    obtain ⟨hoff, h4⟩ := bt_iff.1 h3
    obtain ⟨ao, hao, h5⟩ := ob_iff.1 h4
    obtain ⟨q, hq, h6⟩ := ob_iff.1 h5
    obtain ⟨hop, h7⟩ := bt_iff.1 h6
    obtain ⟨het, h8⟩ := bt_iff.1 h7
    obtain ⟨p, x, hpx, h9⟩ := two2_some h8
    obtain rfl := cellsO_some hq
    obtain ⟨blk, off, spot⟩ := a
    obtain rfl : spot = none := spot0_some hs
    obtain rfl : off = 0 := (nbeq _ _).1 hoff
    obtain ⟨cs, e, op⟩ := q
    obtain rfl : cs = [p, x] := hpx
    obtain rfl : e = tb := (nbeq _ _).1 het
    obtain rfl : op = false := by cases op with | false => rfl | true => cases hop
    have hget : s.hp.get blk = some (.cells [p, x] e false) := hao
    have obj : ∀ ρ w, Rel T ρ s.hp.get w → (ρ blk).sh = 0 ∧ w.heap[(ρ blk).blk]? = some (.cells #[ren ρ p, ren ρ x] e (0, 0)) := fun ρ w hR => by
      obtain ⟨c2, fz, k1, k2, k3, k4, k5, _⟩ := hR.obj _ _ hget
      obtain ⟨k6, k7, k8⟩ := k5 rfl
      refine ⟨k6, ?_⟩
      rw [k1, k8]
      congr 2
      apply Array.ext'
      refine List.ext_getElem? fun i => ?_
      rw [k6] at k2
      match i with
      | 0 => simpa using k2 0 p rfl
      | 1 => simpa using k2 1 x rfl
      | i + 2 =>
        have : c2.toList[i + 2]? = none := List.getElem?_eq_none (by rw [Array.length_toList, k7]; simp)
        rw [this]; simp
    have harg : ∀ ρ w, Rel T ρ s.hp.get w → (renL ρ [Value.pointer (some ⟨blk, 0, none⟩)]).toArray = #[.pointer (some ⟨(ρ blk).blk, 0, none⟩)] := fun ρ w hR => by
      simp [renL, ren_ptr, renA, (obj ρ w hR).1]
    cases hn : isNil p with
    | false =>
      unfold copyGo at h9
      rw [hn] at h9
      obtain ⟨b, hb, h10⟩ := ob_iff.1 (show ob (asAdr p) (fun b => bt (addrB b ⟨blk, 0, none⟩) (some (.call (.tuple #[]) s.hp s.nx))) = some o from h9)
      obtain ⟨h11, h12⟩ := bt_iff.1 h10
      obtain rfl := asAdr_some hb
      obtain rfl := addrB_eq h11
      obtain rfl := Option.some.inj h12
      refine ⟨_, _, _, rfl, fun ρ w hR hA h64 hM hin => ?_⟩
      rw [harg ρ w hR]
      obtain ⟨k1, k2⟩ := obj ρ w hR
      refine (hL.1 _ w ?_).mono ?_
      · rw [cell_of k2]
        simp [ren_ptr, renA, k1]
      · rintro en w' ⟨rfl, rfl⟩
        exact ⟨ρ, by rw [ren_tuple]; simp, hR, hA, .tuple fun v hv => by simp at hv, Post.refl _ _ _ _⟩
    | true =>
      unfold copyGo at h9
      rw [hn] at h9
      have h10 : some (Out.call (.tuple #[]) (s.hp.set blk (.cells [.pointer (some ⟨blk, 0, none⟩), x] e false)) s.nx) = some o := h9
      obtain rfl := Option.some.inj h10
      obtain rfl := isNil_some hn
      refine ⟨_, _, _, rfl, fun ρ w hR hA h64 hM hin => ?_⟩
      rw [harg ρ w hR]
      obtain ⟨k1, k2⟩ := obj ρ w hR
      have hin0 : blk < s.nx := (hin (.pointer (some ⟨blk, 0, none⟩)) (by simp)).of_ptr
      have hwr : wrCells s.hp ⟨blk, 0, none⟩ [.pointer (some ⟨blk, 0, none⟩)] = some (s.hp.set blk (.cells [.pointer (some ⟨blk, 0, none⟩), x] e false)) := by
        show ob (s.hp.get blk) (fun o => ob (cellsO o) fun q => wrO s.hp blk 0 [.pointer (some ⟨blk, 0, none⟩)] q) = _
        rw [hget]
        rfl
      obtain ⟨w2, r1, r2, r3⟩ := wr_rel hR hwr s.nx
      have hw2 : w2 = w.setCell ⟨(ρ blk).blk, 0, none⟩ (.pointer (some ⟨(ρ blk).blk, 0, none⟩)) := by
        have q1 := run_storeCells_own (P := T.P) (ρ blk).blk 0 e (0, 0) [.pointer (some ⟨(ρ blk).blk, 0, none⟩)] 0 #[ren ρ (.pointer none), ren ρ x] w k2 (fun i _ h => by simp at h) (by simp)
          (fun v hv => by simp at hv; subst hv; rfl)
        have q2 := r1 T.P
        have q3 : renA ρ ⟨blk, 0, none⟩ = ⟨(ρ blk).blk, 0, none⟩ := by simp [renA, k1]
        have q4 : renL ρ [Value.pointer (some ⟨blk, 0, none⟩)] = [.pointer (some ⟨(ρ blk).blk, 0, none⟩)] := by simp [renL, ren_ptr, q3]
        rw [q3, q4] at q2
        simp only [Nat.add_zero] at q1
        rw [q2] at q1
        have q5 := (Result.ok.injEq .. ▸ q1 :)
        obtain ⟨_, rfl⟩ := q5
        unfold World.setCell
        congr 1
        refine Array.ext_getElem? fun i => ?_
        rw [Array.getElem?_modify, Array.getElem?_setIfInBounds]
        have hb : (ρ blk).blk < w.heap.size := (Array.getElem?_eq_some_iff.1 k2).1
        by_cases hi : (ρ blk).blk = i
        · subst hi
          rw [if_pos rfl, if_pos hb, if_pos rfl, k2]
          rfl
        · rw [if_neg hi, if_neg hi]
      refine (hL.2 _ w ?_ ?_ ?_).mono ?_
      · rw [cell_of k2]; simp [ren_ptr0]
      · unfold World.shape?; rw [k2]; rfl
      · unfold World.frozen?; simp only [k2]; rfl
      · rintro en w' ⟨rfl, rfl⟩
        rw [← hw2]
        exact ⟨ρ, by rw [ren_tuple]; simp, r2, wr_in hA (fun v hv => by simp at hv; subst hv; exact .ptr hin0) hwr, .tuple fun v hv => by simp at hv, r3⟩
end Go.Ev
