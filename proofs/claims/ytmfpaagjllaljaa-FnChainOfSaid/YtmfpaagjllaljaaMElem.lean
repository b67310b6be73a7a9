/- Questions on elements of a lattice: what is below, meets, joins, chains, distributive lattices: the program and the reference answer the same. -/
import Derived.Test.YtmfpaagjllaljaaP20
import Derived.Test.YtmfpaagjllaljaaP21
import Derived.Test.YtmfpaagjllaljaaP22
import Derived.Test.YtmfpaagjllaljaaP25
import Derived.Test.YtmfpaagjllaljaaP27
import Derived.Test.YtmfpaagjllaljaaP28
import Derived.Test.YtmfpaagjllaljaaP29
import Derived.Test.YtmfpaagjllaljaaP30
import Derived.Test.YtmfpaagjllaljaaP31
import Derived.Test.YtmfpaagjllaljaaP32
import Derived.Test.YtmfpaagjllaljaaP33
import Derived.Test.YtmfpaagjllaljaaP34
import Derived.Test.YtmfpaagjllaljaaMVal
namespace Go.Proofs.Ytmfpaagjllaljaa.M
set_option linter.unusedVariables false
open Go.RowKit Go.Proofs.YtmfpaagjllaljaaW.PrintWords Go.Proofs.YtmfpaagjllaljaaW.PrintLast Go.Proofs.YtmfpaagjllaljaaW.PrintMore Go.Proofs.Ytmfpaagjllaljaa.P

theorem latB_ok {up : List Int} (h : latB up = true) : OkR up ∧ 1 ≤ up.length := by
  unfold latB at h
  rw [Bool.and_eq_true, Bool.and_eq_true, Bool.and_eq_true, decide_eq_true_eq] at h
  exact ⟨(okB_iff h.1.1.1.2).1 h.1.1.2, h.1.1.1.1⟩
/-- x is an element. -/
def inB (up : List Int) (x : Int) : Bool := decide (0 ≤ x ∧ x ≤ (up.length : Int) - 1)
theorem inB_nat {up : List Int} {x : Int} (h : inB up x = true) : ∃ n : Nat, x = (n : Int) ∧ n < up.length := by
  unfold inB at h
  rw [decide_eq_true_eq] at h
  exact ⟨x.toNat, by omega, by omega⟩
theorem inB_of {up : List Int} {n : Nat} (h : n < up.length) : inB up (n : Int) = true := by
  unfold inB; rw [decide_eq_true_eq]; omega
theorem latticeAt_ev (up list : List Int) (hl : up.length ≤ 17592186044416) (hk : list.length ≤ 17592186044416) : Ev (fun k => impl_latticeAt.f k up list) (latB up && list.all (inB up)) := by
  unfold impl_latticeAt.f
  refine Ev.bind (impl_ValidLattice_ev up hl) ?_
  cases hb : latB up with
  | false => exact Ev.neg (by decide) (Ev.some _)
  | true =>
    obtain ⟨h, h1⟩ := latB_ok hb
    have h6 := h.1
    refine Ev.pos rfl (Ev.bindc (a := list.any fun x => !(withinB x 0 (wrap64 ((up.length : Int) - 1)))) ?_ (Ev.const ?_))
    · unfold cf_latticeAt_1.f
      rw [if_pos (by omega)]
    · rw [w64 (x := (up.length : Int) - 1) (by omega) (by omega), Bool.true_and]
      congr 1
      rw [List.any_eq_not_all_not, Bool.not_not]
      congr 1
      funext x
      rw [Bool.not_not]
      unfold withinB inB
      rw [Bool.eq_iff_iff, Bool.and_eq_true, decide_eq_true_eq, decide_eq_true_eq, decide_eq_true_eq]
theorem good_ev (up : List Int) (x y : Int) (hl : up.length ≤ 17592186044416) : Ev (fun k => spec_good.f k up x y) (latB up && (inB up x && inB up y)) := by
  unfold spec_good.f
  refine Ev.bind (spec_validLattice_ev up hl) ?_
  cases hb : latB up with
  | false => exact Ev.neg (by decide) (Ev.some _)
  | true =>
    obtain ⟨h, h1⟩ := latB_ok hb
    have h6 := h.1
    rw [w64 (x := (up.length : Int) - 1) (by omega) (by omega), Bool.true_and]
    refine Ev.pos rfl (Ev.bindc (inRange_eq _ _ _) ?_)
    show Ev _ (decide (0 ≤ x ∧ x ≤ (up.length : Int) - 1) && inB up y)
    cases decide (0 ≤ x ∧ x ≤ (up.length : Int) - 1) with
    | false => exact Ev.neg (by decide) (Ev.some _)
    | true => exact Ev.pos rfl (Ev.bindc (inRange_eq _ _ _) (Ev.some _))
theorem two_in (up : List Int) (x y : Int) : ([x, y].all (inB up)) = (inB up x && inB up y) := by simp
theorem one_in (up : List Int) (x : Int) : ([x].all (inB up)) = (inB up x && inB up x) := by simp
/-- What 'IsBelow' says. -/
def isBelowM (up : List Int) (x y : Int) : Bool := (latB up && (inB up x && inB up y)) && le up x.toNat y.toNat
def meetOfM (up : List Int) (x y : Int) : Int := if (latB up && (inB up x && inB up y)) = true then meetM up x.toNat y.toNat else -1
def joinOfM (up : List Int) (x y : Int) : Int := if (latB up && (inB up x && inB up y)) = true then joinM up x.toNat y.toNat else -1
theorem good_cases {up : List Int} {x y : Int} (h : (latB up && (inB up x && inB up y)) = true) : OkR up ∧ 1 ≤ up.length ∧ ∃ a b : Nat, x = (a : Int) ∧ y = (b : Int) ∧ a < up.length ∧ b < up.length := by
  rw [Bool.and_eq_true, Bool.and_eq_true] at h
  obtain ⟨ho, h1⟩ := latB_ok h.1
  obtain ⟨a, ha, ha'⟩ := inB_nat h.2.1
  obtain ⟨b, hb, hb'⟩ := inB_nat h.2.2
  exact ⟨ho, h1, a, b, ha, hb, ha', hb'⟩
theorem impl_IsBelow_ev (up : List Int) (x y : Int) (hl : up.length ≤ 17592186044416) : Ev (fun k => impl_IsBelow.f k up x y) (isBelowM up x y) := by
  unfold impl_IsBelow.f isBelowM
  refine Ev.bind (latticeAt_ev up [x, y] hl (by simp)) ?_
  rw [two_in]
  cases hg : (latB up && (inB up x && inB up y)) with
  | false => exact Ev.neg (by decide) (Ev.some _)
  | true =>
    obtain ⟨h, h1, a, b, rfl, rfl, ha, hb⟩ := good_cases hg
    exact Ev.pos rfl (Ev.bindc (impl_below_eq h ha) (Ev.const (by simp)))
theorem spec_IsBelow_ev (up : List Int) (x y : Int) (hl : up.length ≤ 17592186044416) : Ev (fun k => spec_IsBelow.f k up x y) (isBelowM up x y) := by
  unfold spec_IsBelow.f isBelowM
  refine Ev.bind (good_ev up x y hl) ?_
  cases hg : (latB up && (inB up x && inB up y)) with
  | false => exact Ev.neg (by decide) (Ev.some _)
  | true =>
    obtain ⟨h, h1, a, b, rfl, rfl, ha, hb⟩ := good_cases hg
    have := h.1
    exact Ev.pos rfl (Ev.bind (spec_below_ev h ha (by omega)) (Ev.const (by simp)))
theorem impl_MeetOf_ev (up : List Int) (x y : Int) (hl : up.length ≤ 17592186044416) : Ev (fun k => impl_MeetOf.f k up x y) (meetOfM up x y) := by
  unfold impl_MeetOf.f meetOfM
  refine Ev.bind (latticeAt_ev up [x, y] hl (by simp)) ?_
  rw [two_in]
  cases hg : (latB up && (inB up x && inB up y)) with
  | false => exact Ev.neg (by decide) (Ev.some _)
  | true =>
    obtain ⟨h, h1, a, b, rfl, rfl, ha, hb⟩ := good_cases hg
    exact Ev.pos rfl (Ev.bind (impl_meet_ev h ha hb) (Ev.const (by simp)))
theorem spec_MeetOf_ev (up : List Int) (x y : Int) (hl : up.length ≤ 17592186044416) : Ev (fun k => spec_MeetOf.f k up x y) (meetOfM up x y) := by
  unfold spec_MeetOf.f meetOfM
  refine Ev.bind (good_ev up x y hl) ?_
  cases hg : (latB up && (inB up x && inB up y)) with
  | false => exact Ev.neg (by decide) (Ev.some _)
  | true =>
    obtain ⟨h, h1, a, b, rfl, rfl, ha, hb⟩ := good_cases hg
    exact Ev.pos rfl (Ev.bind (spec_meet_ev h ha hb) (Ev.const (by simp)))
theorem impl_JoinOf_ev (up : List Int) (x y : Int) (hl : up.length ≤ 17592186044416) : Ev (fun k => impl_JoinOf.f k up x y) (joinOfM up x y) := by
  unfold impl_JoinOf.f joinOfM
  refine Ev.bind (latticeAt_ev up [x, y] hl (by simp)) ?_
  rw [two_in]
  cases hg : (latB up && (inB up x && inB up y)) with
  | false => exact Ev.neg (by decide) (Ev.some _)
  | true =>
    obtain ⟨h, h1, a, b, rfl, rfl, ha, hb⟩ := good_cases hg
    exact Ev.pos rfl (Ev.bind (impl_join_ev h ha hb) (Ev.const (by simp)))
theorem spec_JoinOf_ev (up : List Int) (x y : Int) (hl : up.length ≤ 17592186044416) : Ev (fun k => spec_JoinOf.f k up x y) (joinOfM up x y) := by
  unfold spec_JoinOf.f joinOfM
  refine Ev.bind (good_ev up x y hl) ?_
  cases hg : (latB up && (inB up x && inB up y)) with
  | false => exact Ev.neg (by decide) (Ev.some _)
  | true =>
    obtain ⟨h, h1, a, b, rfl, rfl, ha, hb⟩ := good_cases hg
    exact Ev.pos rfl (Ev.bind (spec_join_ev h ha hb) (Ev.const (by simp)))
/-- All elements are comparable. -/
def chainB (up : List Int) : Bool := allN up.length fun x => allN up.length fun y => le up x y || le up y x
def isChainM (up : List Int) : Bool := latB up && chainB up
theorem impl_IsChain_ev (up : List Int) (hl : up.length ≤ 17592186044416) : Ev (fun k => impl_IsChain.f k up) (isChainM up) := by
  unfold impl_IsChain.f isChainM
  refine Ev.bind (impl_ValidLattice_ev up hl) ?_
  cases hb : latB up with
  | false => exact Ev.neg (by decide) (Ev.some _)
  | true =>
    obtain ⟨h, h1⟩ := latB_ok hb
    have h6 := h.1
    rw [Bool.true_and]
    refine Ev.pos rfl ?_
    refine ev_no (fun k i => impl_IsChain.l0 k up (up.length : Int) i) up.length _ _ ?_ ?_ (fun e => e)
    · intro x hx
      have key : ∀ r, ((allN up.length fun y => le up x y || le up y x) = true → Ev (fun k => impl_IsChain.l0 k up (up.length : Int) ((x + 1 : Nat) : Int)) r) → ((allN up.length fun y => le up x y || le up y x) = false → r = false) → Ev (fun k => impl_IsChain.l0 k up (up.length : Int) (x : Int)) r := by
        intro r k1 k2
        refine Ev.step (fun k => by simp only [impl_IsChain.l0]; exact rfl) ?_
        refine Ev.pos (by omega) ?_
        refine ev_no (fun k i => impl_IsChain.l1 k up (x : Int) (up.length : Int) (x : Int) (up.length : Int) i) up.length _ _ ?_ (fun e => ?_) k2
        · intro y hy
          have step : ∀ r, ((le up x y || le up y x) = true → Ev (fun k => impl_IsChain.l1 k up (x : Int) (up.length : Int) (x : Int) (up.length : Int) ((y + 1 : Nat) : Int)) r) → ((le up x y || le up y x) = false → r = false) → Ev (fun k => impl_IsChain.l1 k up (x : Int) (up.length : Int) (x : Int) (up.length : Int) (y : Int)) r := by
            intro r q1 q2
            refine Ev.step (fun k => by simp only [impl_IsChain.l1]; exact rfl) ?_
            refine Ev.pos (by omega) (Ev.bindc (impl_below_eq h hx) ?_)
            rw [w64s hy (by omega)]
            cases hA : le up x y with
            | true => exact Ev.pos rfl (q1 (by rw [hA]; rfl))
            | false =>
              refine Ev.neg (by decide) (Ev.bindc (impl_below_eq h hy) ?_)
              cases hB : le up y x with
              | true => exact Ev.pos rfl (q1 (by rw [hA, hB]; rfl))
              | false =>
                rw [q2 (by rw [hA, hB]; rfl)]
                exact Ev.neg (by decide) (Ev.some _)
          exact ⟨fun hp r hr => step r (fun _ => hr) (fun e => by rw [hp] at e; cases e), fun hp => step false (fun e => by rw [hp] at e; cases e) (fun _ => rfl)⟩
        · refine Ev.step (fun k => by simp only [impl_IsChain.l1]; exact rfl) ?_
          refine Ev.neg (by omega) ?_
          rw [w64s hx (by omega)]
          exact k1 e
      exact ⟨fun hp r hr => key r (fun _ => hr) (fun e => by rw [hp] at e; cases e), fun hp => key false (fun e => by rw [hp] at e; cases e) (fun _ => rfl)⟩
    · intro e
      refine Ev.step (fun k => by simp only [impl_IsChain.l0]; exact rfl) ?_
      rw [show chainB up = true from e]
      exact Ev.neg (by omega) (Ev.some _)
theorem spec_IsChain_ev (up : List Int) (hl : up.length ≤ 17592186044416) : Ev (fun k => spec_IsChain.f k up) (isChainM up) := by
  unfold spec_IsChain.f isChainM spec_isChain.f
  refine Ev.bind (spec_validLattice_ev up hl) ?_
  cases hb : latB up with
  | false => exact Ev.neg (by decide) (Ev.some _)
  | true =>
    obtain ⟨h, h1⟩ := latB_ok hb
    have h6 := h.1
    rw [Bool.true_and]
    refine Ev.pos rfl (Ev.bind (a := chainB up) ?_ (Ev.some _))
    refine ev_no (fun k i => spec_isChain.l0 k up i) up.length _ _ ?_ ?_ (fun e => e)
    · intro x hx
      have key : ∀ r, ((allN up.length fun y => le up x y || le up y x) = true → Ev (fun k => spec_isChain.l0 k up ((x + 1 : Nat) : Int)) r) → ((allN up.length fun y => le up x y || le up y x) = false → r = false) → Ev (fun k => spec_isChain.l0 k up (x : Int)) r := by
        intro r k1 k2
        refine Ev.step (fun k => by simp only [spec_isChain.l0]; exact rfl) ?_
        refine Ev.pos (by omega) ?_
        refine ev_no (fun k i => spec_isChain.l1 k up (x : Int) i) up.length _ _ ?_ (fun e => ?_) k2
        · intro y hy
          have step : ∀ r, ((le up x y || le up y x) = true → Ev (fun k => spec_isChain.l1 k up (x : Int) ((y + 1 : Nat) : Int)) r) → ((le up x y || le up y x) = false → r = false) → Ev (fun k => spec_isChain.l1 k up (x : Int) (y : Int)) r := by
            intro r q1 q2
            refine Ev.step (fun k => by simp only [spec_isChain.l1]; exact rfl) ?_
            refine Ev.pos (by omega) (Ev.bind (spec_below_ev h hx (by omega)) ?_)
            rw [w64s hy (by omega)]
            cases hA : le up x y with
            | true => exact Ev.pos rfl (q1 (by rw [hA]; rfl))
            | false =>
              refine Ev.neg (by decide) (Ev.bind (spec_below_ev h hy (by omega)) ?_)
              cases hB : le up y x with
              | true => exact Ev.pos rfl (q1 (by rw [hA, hB]; rfl))
              | false =>
                rw [q2 (by rw [hA, hB]; rfl)]
                exact Ev.neg (by decide) (Ev.some _)
          exact ⟨fun hp r hr => step r (fun _ => hr) (fun e => by rw [hp] at e; cases e), fun hp => step false (fun e => by rw [hp] at e; cases e) (fun _ => rfl)⟩
        · refine Ev.step (fun k => by simp only [spec_isChain.l1]; exact rfl) ?_
          refine Ev.neg (by omega) ?_
          rw [w64s hx (by omega)]
          exact k1 e
      exact ⟨fun hp r hr => key r (fun _ => hr) (fun e => by rw [hp] at e; cases e), fun hp => key false (fun e => by rw [hp] at e; cases e) (fun _ => rfl)⟩
    · intro e
      refine Ev.step (fun k => by simp only [spec_isChain.l0]; exact rfl) ?_
      rw [show chainB up = true from e]
      exact Ev.neg (by omega) (Ev.some _)
end Go.Proofs.Ytmfpaagjllaljaa.M
