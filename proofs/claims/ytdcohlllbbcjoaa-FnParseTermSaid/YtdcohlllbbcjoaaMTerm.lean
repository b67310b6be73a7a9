/- Terms by numbers: the reference goes down into the term, the program counts how many terms are missing; both say the same. -/
import Derived.Test.YtdcohlllbbcjoaaP1
import Derived.Test.YtdcohlllbbcjoaaP2
import Derived.Test.YtdcohlllbbcjoaaP3
import Derived.Test.YtdcohlllbbcjoaaP17
import Derived.Test.YtdcohlllbbcjoaaP7
import Derived.Test.YtdcohlllbbcjoaaP8
import Derived.Test.YtdcohlllbbcjoaaMBase
namespace Go.Proofs.Ytdcohlllbbcjoaa.M
set_option linter.unusedVariables false
open Go.RowKit Go.Proofs.YtdcohlllbbcjoaaW.PrintWords Go.Proofs.YtdcohlllbbcjoaaW.PrintLast Go.Proofs.YtdcohlllbbcjoaaW.PrintMore Go.Proofs.Ytdcohlllbbcjoaa.P

theorem rangeT_eq (a b c : Int) : spec_inRange.f a b c = some (decide (b ≤ a ∧ a ≤ c)) := by
  unfold spec_inRange.f
  by_cases h : b ≤ a
  · rw [if_pos h]
    congr 1
    rw [decide_eq_decide]
    exact ⟨fun x => ⟨h, x⟩, fun x => x.2⟩
  · rw [if_neg h, decide_eq_false (fun x => h x.1)]
theorem withinT_eq (a b c : Int) : impl_within.f a b c = some (decide (b ≤ a ∧ a ≤ c)) := by
  unfold impl_within.f
  by_cases h : b ≤ a
  · rw [if_pos h]
    congr 1
    rw [decide_eq_decide]
    exact ⟨fun x => ⟨h, x⟩, fun x => x.2⟩
  · rw [if_neg h, decide_eq_false (fun x => h x.1)]
/-- How many terms a number asks for behind it; -1 for what is no sign. -/
def tk (x : Int) : Int := if (0 ≤ x ∧ x ≤ 2) ∨ x = 10 ∨ x = 11 then 0 else if x = 12 then 1 else if 13 ≤ x ∧ x ≤ 16 then 2 else -1
theorem tk_cases (x : Int) : tk x = 0 ∨ tk x = 1 ∨ tk x = 2 ∨ tk x = -1 := by
  unfold tk
  split
  · exact .inl rfl
  · split
    · exact .inr (.inl rfl)
    · split
      · exact .inr (.inr (.inl rfl))
      · exact .inr (.inr (.inr rfl))
theorem takes_ev (x : Int) : Ev (fun k => impl_takes.f k x) (tk x) := by
  unfold impl_takes.f
  refine Ev.bindc (withinT_eq x 0 2) ?_
  by_cases c : 0 ≤ x ∧ x ≤ 2
  · rw [decide_eq_true c]
    refine Ev.pos rfl (Ev.step (fun k => by simp only [impl_takes.j0]; exact rfl) ?_)
    refine Ev.pos trivial ?_
    exact Ev.eq (Ev.some _) (by rw [tk, if_pos (Or.inl c)])
  · rw [decide_eq_false c]
    refine Ev.neg (by decide) ?_
    have key : ∀ b : Bool, (b = true ↔ x = 10 ∨ x = 11) → Ev (fun k => impl_takes.j0 k x b) (tk x) := by
      intro b hb
      refine Ev.step (fun k => by simp only [impl_takes.j0]; exact rfl) ?_
      refine Ev.ite' (fun e => ?_) (fun e => ?_)
      · exact Ev.eq (Ev.some _) (by rw [tk, if_pos (Or.inr (hb.1 e))])
      · have h0 : ¬ ((0 ≤ x ∧ x ≤ 2) ∨ x = 10 ∨ x = 11) := fun h => h.elim c (fun h => e (hb.2 h))
        refine Ev.ite' (fun e => ?_) (fun e1 => ?_)
        · exact Ev.eq (Ev.some _) (by rw [tk, if_neg h0, if_pos e])
        · have two : 13 ≤ x ∧ x ≤ 16 → Ev (fun _ => some (2 : Int)) (tk x) := fun h => Ev.eq (Ev.some _) (by rw [tk, if_neg h0, if_neg e1, if_pos h])
          refine Ev.ite' (fun e => two (by omega)) (fun e2 => Ev.ite' (fun e => two (by omega)) (fun e3 => Ev.ite' (fun e => two (by omega)) (fun e4 => Ev.ite' (fun e => two (by omega)) (fun e5 => ?_))))
          exact Ev.eq (Ev.some _) (by rw [tk, if_neg h0, if_neg e1, if_neg (by omega)])
    exact Ev.ite' (fun e => key _ (by simp [e])) (fun e => key _ (by simp [e]))
/-- The index behind the term that begins at i. -/
def endI (l : List Int) : Nat → Nat → Option Nat
  | 0, _ => none
  | f + 1, i => if i < l.length then (if tk (rd l i) = 0 then some (i + 1) else if tk (rd l i) = 1 then endI l f (i + 1) else if tk (rd l i) = 2 then (endI l f (i + 1)).bind (endI l f) else none) else none
theorem endI_gt (l : List Int) : ∀ f i j, endI l f i = some j → i < j ∧ j ≤ l.length := by
  intro f
  induction f with
  | zero => intro i j h; cases h
  | succ f ih =>
    intro i j h
    unfold endI at h
    split at h
    · rename_i hi
      split at h
      · obtain rfl := Option.some.inj h
        omega
      · split at h
        · have := ih _ _ h
          omega
        · split at h
          · obtain ⟨m, h1, h2⟩ := Option.bind_eq_some_iff.mp h
            have a1 := ih _ _ h1
            have a2 := ih _ _ h2
            omega
          · cases h
    · cases h
def numO : Option Nat → Int
  | some j => (j : Int)
  | none => -1
theorem end_neg (l : List Int) : Ev (fun k => spec_end.f k l (-1)) (-1) := by
  refine Ev.step (fun k => by simp only [spec_end.f]; exact rfl) (Ev.pos (by decide) ?_)
  refine Ev.step (fun k => by simp only [spec_end.j0]; exact rfl) ?_
  exact Ev.pos trivial (Ev.some _)
theorem end_ev (l : List Int) (hl : l.length ≤ 1048576) : ∀ f i : Nat, l.length ≤ i + f → Ev (fun k => spec_end.f k l (i : Int)) (numO (endI l f i)) := by
  intro f
  induction f with
  | zero =>
    intro i hi
    refine Ev.step (fun k => by simp only [spec_end.f]; exact rfl) (Ev.neg (by omega) ?_)
    refine Ev.step (fun k => by simp only [spec_end.j0]; exact rfl) (Ev.pos (decide_eq_true (by omega)) (Ev.some _))
  | succ f ih =>
    intro i hi
    refine Ev.step (fun k => by simp only [spec_end.f]; exact rfl) (Ev.neg (by omega) ?_)
    refine Ev.step (fun k => by simp only [spec_end.j0]; exact rfl) ?_
    unfold endI
    by_cases hlt : i < l.length
    · rw [if_pos hlt]
      refine Ev.neg (by rw [decide_eq_true_eq]; omega) (Ev.pos (by omega) (Ev.pos (by omega) ?_))
      rw [w64s hlt (by omega)]
      obtain ⟨x, hx⟩ : ∃ x, rd l (i : Int) = x := ⟨_, rfl⟩
      rw [hx]
      refine Ev.ite' (fun e => ?_) (fun e12 => ?_)
      · have ht : tk x = 1 := by subst e; decide
        rw [ht, if_neg (by decide), if_pos rfl]
        exact Ev.bind (ih (i + 1) (by omega)) (Ev.some _)
      · have key : ∀ b : Bool, (b = true ↔ 13 ≤ x ∧ x ≤ 16) → Ev (fun k => spec_end.j1 k l (i : Int) b) (numO (if tk x = 0 then some (i + 1) else if tk x = 1 then endI l f (i + 1) else if tk x = 2 then (endI l f (i + 1)).bind (endI l f) else none)) := by
          intro b hb
          refine Ev.step (fun k => by simp only [spec_end.j1]; exact rfl) ?_
          rw [w64s hlt (by omega)]
          refine Ev.ite' (fun e => ?_) (fun e => ?_)
          · have h := hb.1 e
            have ht : tk x = 2 := by rw [tk, if_neg (by omega), if_neg (by omega), if_pos h]
            rw [ht, if_neg (by decide), if_neg (by decide), if_pos rfl]
            refine Ev.bind (ih (i + 1) (by omega)) (Ev.bind ?_ (Ev.some _))
            cases he : endI l f (i + 1) with
            | none => exact end_neg l
            | some j =>
              have := endI_gt l _ _ _ he
              exact ih j (by omega)
          · have h0 : ¬ (13 ≤ x ∧ x ≤ 16) := fun h => e (hb.2 h)
            refine Ev.pos (by omega) (Ev.pos (by omega) ?_)
            rw [hx]
            refine Ev.bindc (rangeT_eq x 0 2) ?_
            have zero : ((0 ≤ x ∧ x ≤ 2) ∨ x = 10 ∨ x = 11) → Ev (fun _ => some ((i + 1 : Nat) : Int)) (numO (if tk x = 0 then some (i + 1) else if tk x = 1 then endI l f (i + 1) else if tk x = 2 then (endI l f (i + 1)).bind (endI l f) else none)) := by
              intro h
              rw [if_pos (by rw [tk, if_pos h])]
              exact Ev.some _
            refine Ev.ite' (fun e => zero (.inl (of_decide_eq_true e))) (fun e1 => Ev.ite' (fun e => zero (.inr (.inl e))) (fun e2 => Ev.ite' (fun e => zero (.inr (.inr e))) (fun e3 => ?_)))
            rw [decide_eq_true_eq] at e1
            have ht : tk x = -1 := by rw [tk, if_neg (by omega), if_neg e12, if_neg h0]
            rw [ht, if_neg (by decide), if_neg (by decide), if_neg (by decide)]
            exact Ev.some _
        exact Ev.ite' (fun e => key _ (by subst e; simp)) (fun e1 => Ev.ite' (fun e => key _ (by subst e; simp)) (fun e2 => Ev.ite' (fun e => key _ (by subst e; simp)) (fun e3 => key _ (by rw [beq_iff_eq]; omega))))
    · rw [if_neg hlt]
      exact Ev.pos (decide_eq_true (by omega)) (Ev.some _)
/-- d numbers from index i on, m terms missing: none is missing behind the last, and never before. -/
def runI (l : List Int) : Nat → Nat → Nat → Bool
  | 0, m, _ => decide (m = 0)
  | d + 1, m, i => if m = 0 then false else if tk (rd l i) < 0 then false else runI l d (m + (tk (rd l i)).toNat - 1) (i + 1)
theorem runI_succ (l : List Int) (d m i : Nat) : runI l (d + 1) m i = if m = 0 then false else if tk (rd l i) < 0 then false else runI l d (m + (tk (rd l i)).toNat - 1) (i + 1) := rfl
theorem run_end (l : List Int) : ∀ f i d m, i + d = l.length → l.length ≤ i + f → runI l d (m + 1) i = match endI l f i with | some j => runI l (l.length - j) m j | none => false := by
  intro f
  induction f with
  | zero =>
    intro i d m hd hf
    obtain rfl : d = 0 := by omega
    rfl
  | succ f ih =>
    intro i d m hd hf
    unfold endI
    by_cases hlt : i < l.length
    · rw [if_pos hlt]
      obtain ⟨d, rfl⟩ : ∃ d', d = d' + 1 := ⟨d - 1, by omega⟩
      rw [runI_succ, if_neg (by omega)]
      have e1 : l.length - (i + 1) = d := by omega
      rcases tk_cases (rd l i) with e | e | e | e
      · rw [e, if_neg (by decide), if_pos rfl]
        show runI l d (m + 1 + 0 - 1) (i + 1) = runI l (l.length - (i + 1)) m (i + 1)
        rw [e1]
        rfl
      · rw [e, if_neg (by decide), if_neg (by decide), if_pos rfl]
        exact ih (i + 1) d m (by omega) (by omega)
      · rw [e, if_neg (by decide), if_neg (by decide), if_neg (by decide), if_pos rfl]
        show runI l d (m + 1 + 1) (i + 1) = _
        rw [ih (i + 1) d (m + 1) (by omega) (by omega)]
        cases he : endI l f (i + 1) with
        | none => rfl
        | some j =>
          have := endI_gt l _ _ _ he
          exact ih j (l.length - j) m (by omega) (by omega)
      · rw [e, if_pos (by decide), if_neg (by decide), if_neg (by decide), if_neg (by decide)]
    · rw [if_neg hlt]
      obtain rfl : d = 0 := by omega
      rfl
def termB (l : List Int) : Bool := runI l l.length 1 0 && decide (l.length ≤ 15)
theorem run_all (l : List Int) : runI l l.length 1 0 = decide (numO (endI l l.length 0) = (l.length : Int)) := by
  rw [run_end l l.length 0 l.length 0 (by omega) (by omega)]
  cases he : endI l l.length 0 with
  | none => exact (decide_eq_false (by show ¬ ((-1 : Int) = (l.length : Int)); omega)).symm
  | some j =>
    have := endI_gt l _ _ _ he
    show runI l (l.length - j) 0 j = decide ((j : Int) = (l.length : Int))
    by_cases e : j = l.length
    · subst e
      rw [Nat.sub_self, decide_eq_true rfl]
      rfl
    · obtain ⟨d, hd⟩ : ∃ d, l.length - j = d + 1 := ⟨l.length - j - 1, by omega⟩
      rw [hd, decide_eq_false (by omega)]
      rfl
theorem spec_ValidTerm_ev (l : List Int) (hl : l.length ≤ 1048576) : Ev (fun k => spec_ValidTerm.f k l) (termB l) := by
  unfold spec_ValidTerm.f spec_validTerm.f
  refine Ev.bind (a := termB l) ?_ (Ev.some _)
  refine Ev.bindc (rangeT_eq _ 1 15) ?_
  by_cases c : 1 ≤ (l.length : Int) ∧ (l.length : Int) ≤ 15
  · rw [decide_eq_true c]
    refine Ev.pos rfl (Ev.bind (end_ev l hl l.length 0 (by omega)) ?_)
    refine Ev.eq (Ev.some _) ?_
    rw [termB, run_all, decide_eq_true (p := l.length ≤ 15) (by omega), Bool.and_true, Bool.eq_iff_iff, beq_iff_eq, decide_eq_true_eq]
  · rw [decide_eq_false c]
    refine Ev.neg (by decide) (Ev.eq (Ev.some _) ?_)
    rw [termB]
    by_cases h0 : l.length = 0
    · rw [h0]
      rfl
    · rw [decide_eq_false (p := l.length ≤ 15) (by omega), Bool.and_false]
theorem impl_term_l0 (l : List Int) (hl : l.length ≤ 1048576) : ∀ d i m : Nat, i + d = l.length → m ≤ i + 1 → Ev (fun k => impl_ValidTerm.l0 k l (m : Int) l (l.length : Int) (i : Int)) (runI l d m i && decide (l.length ≤ 15)) := by
  intro d
  induction d with
  | zero =>
    intro i m hd hm
    refine Ev.step (fun k => by simp only [impl_ValidTerm.l0]; exact rfl) (Ev.neg (by omega) ?_)
    refine Ev.ite' (fun e => ?_) (fun e => ?_)
    · refine Ev.eq (Ev.some _) ?_
      rw [runI, decide_eq_true (p := m = 0) (by omega), Bool.true_and, decide_eq_decide]
      omega
    · refine Ev.eq (Ev.some _) ?_
      rw [runI, decide_eq_false (p := m = 0) (by omega), Bool.false_and]
  | succ d ih =>
    intro i m hd hm
    refine Ev.step (fun k => by simp only [impl_ValidTerm.l0]; exact rfl) (Ev.pos (by omega) (Ev.pos (by omega) (Ev.pos (by omega) ?_)))
    refine Ev.bind (takes_ev _) ?_
    unfold runI
    refine Ev.ite' (fun e => ?_) (fun e => ?_)
    · rw [if_pos (by omega)]
      exact Ev.some _
    · rw [if_neg (by omega)]
      refine Ev.ite' (fun e2 => ?_) (fun e2 => ?_)
      · rw [if_pos e2]
        exact Ev.some _
      · rw [if_neg e2]
        have ht := tk_cases (rd l (i : Int))
        rw [w64s (n := l.length) (by omega) (by omega)]
        have e3 : wrap64 ((m : Int) + wrap64 (tk (rd l (i : Int)) - 1)) = ((m + (tk (rd l (i : Int))).toNat - 1 : Nat) : Int) := by
          generalize tk (rd l (i : Int)) = t at *
          rw [w64 (x := t - 1) (by omega) (by omega), w64 (by omega) (by omega)]
          omega
        rw [e3]
        refine ih (i + 1) _ (by omega) ?_
        omega
theorem impl_ValidTerm_ev (l : List Int) (hl : l.length ≤ 1048576) : Ev (fun k => impl_ValidTerm.f k l) (termB l) := by
  unfold impl_ValidTerm.f
  exact impl_term_l0 l hl l.length 0 1 (by omega) (by omega)
end Go.Proofs.Ytdcohlllbbcjoaa.M
