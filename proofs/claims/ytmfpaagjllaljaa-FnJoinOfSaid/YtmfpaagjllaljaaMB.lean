/- Questions on elements of a lattice: what is below, meets, joins, chains, distributive lattices: the program and the reference answer the same. -/
import Derived.Test.YtmfpaagjllaljaaP20
import Derived.Test.YtmfpaagjllaljaaP25
import Derived.Test.YtmfpaagjllaljaaP21
import Derived.Test.YtmfpaagjllaljaaP31
import Derived.Test.YtmfpaagjllaljaaP30
import Derived.Test.YtmfpaagjllaljaaP29
import Derived.Test.YtmfpaagjllaljaaP22
import Derived.Test.YtmfpaagjllaljaaP28
import Derived.Test.YtmfpaagjllaljaaP27
import Derived.Test.YtmfpaagjllaljaaP34
import Derived.Test.YtmfpaagjllaljaaP33
import Derived.Test.YtmfpaagjllaljaaP32
import Derived.Test.YtmfpaagjllaljaaMA
namespace Go.Proofs.Ytmfpaagjllaljaa.M
set_option linter.unusedVariables false
open Go.RowKit Go.Proofs.YtmfpaagjllaljaaW.PrintWords Go.Proofs.YtmfpaagjllaljaaW.PrintLast Go.Proofs.YtmfpaagjllaljaaW.PrintMore Go.Proofs.Ytmfpaagjllaljaa.P

theorem latB_ok {up : List Int} (h : latB up = true) : OkR up ∧ 1 ≤ up.length := by
  unfold latB at h
  rw [Bool.and_eq_true, Bool.and_eq_true, Bool.and_eq_true, decide_eq_true_eq] at h
  exact ⟨(okB_iff h.1.1.1.2).1 h.1.1.2, h.1.1.1.1⟩
/-- x is an element. -/
def inB (up : List Int) (x : Int) : Bool := decide (0 ≤ x ∧ x ≤ (up.length : Int) - 1)
theorem inB_nat {up : List Int} {x : Int} (h : inB up x = true) : ∃ n : Nat, x = (n : Int) ∧ n < up.length := by
  unfold inB at h
  rw [decide_eq_true_eq] at h
  exact ⟨x.toNat, by omega, by omega⟩
theorem inB_of {up : List Int} {n : Nat} (h : n < up.length) : inB up (n : Int) = true := by
  unfold inB; rw [decide_eq_true_eq]; omega
theorem latticeAt_ev (up list : List Int) (hl : up.length ≤ 17592186044416) (hk : list.length ≤ 17592186044416) : Ev (fun k => impl_latticeAt.f k up list) (latB up && list.all (inB up)) := by
  unfold impl_latticeAt.f
  refine Ev.bind (impl_ValidLattice_ev up hl) ?_
  cases hb : latB up with
  | false => exact Ev.neg (by decide) (Ev.some _)
  | true =>
    obtain ⟨h, h1⟩ := latB_ok hb
    have h6 := h.1
    refine Ev.pos rfl (Ev.bindc (a := list.any fun x => !(withinB x 0 (wrap64 ((up.length : Int) - 1)))) ?_ (Ev.const ?_))
    · unfold cf_latticeAt_1.f
      rw [if_pos (by omega)]
    · rw [w64 (x := (up.length : Int) - 1) (by omega) (by omega), Bool.true_and]
      congr 1
      rw [List.any_eq_not_all_not, Bool.not_not]
      congr 1
      funext x
      rw [Bool.not_not]
      unfold withinB inB
      rw [Bool.eq_iff_iff, Bool.and_eq_true, decide_eq_true_eq, decide_eq_true_eq, decide_eq_true_eq]
theorem good_ev (up : List Int) (x y : Int) (hl : up.length ≤ 17592186044416) : Ev (fun k => spec_good.f k up x y) (latB up && (inB up x && inB up y)) := by
  unfold spec_good.f
  refine Ev.bind (spec_validLattice_ev up hl) ?_
  cases hb : latB up with
  | false => exact Ev.neg (by decide) (Ev.some _)
  | true =>
    obtain ⟨h, h1⟩ := latB_ok hb
    have h6 := h.1
    rw [w64 (x := (up.length : Int) - 1) (by omega) (by omega), Bool.true_and]
    refine Ev.pos rfl (Ev.bindc (inRange_eq _ _ _) ?_)
    show Ev _ (decide (0 ≤ x ∧ x ≤ (up.length : Int) - 1) && inB up y)
    cases decide (0 ≤ x ∧ x ≤ (up.length : Int) - 1) with
    | false => exact Ev.neg (by decide) (Ev.some _)
    | true => exact Ev.pos rfl (Ev.bindc (inRange_eq _ _ _) (Ev.some _))
theorem two_in (up : List Int) (x y : Int) : ([x, y].all (inB up)) = (inB up x && inB up y) := by simp
theorem one_in (up : List Int) (x : Int) : ([x].all (inB up)) = (inB up x && inB up x) := by simp
/-- What 'IsBelow' says. -/
def isBelowM (up : List Int) (x y : Int) : Bool := (latB up && (inB up x && inB up y)) && le up x.toNat y.toNat
def meetOfM (up : List Int) (x y : Int) : Int := if (latB up && (inB up x && inB up y)) = true then meetM up x.toNat y.toNat else -1
def joinOfM (up : List Int) (x y : Int) : Int := if (latB up && (inB up x && inB up y)) = true then joinM up x.toNat y.toNat else -1
theorem good_cases {up : List Int} {x y : Int} (h : (latB up && (inB up x && inB up y)) = true) : OkR up ∧ 1 ≤ up.length ∧ ∃ a b : Nat, x = (a : Int) ∧ y = (b : Int) ∧ a < up.length ∧ b < up.length := by
  rw [Bool.and_eq_true, Bool.and_eq_true] at h
  obtain ⟨ho, h1⟩ := latB_ok h.1
  obtain ⟨a, ha, ha'⟩ := inB_nat h.2.1
  obtain ⟨b, hb, hb'⟩ := inB_nat h.2.2
  exact ⟨ho, h1, a, b, ha, hb, ha', hb'⟩
theorem impl_IsBelow_ev (up : List Int) (x y : Int) (hl : up.length ≤ 17592186044416) : Ev (fun k => impl_IsBelow.f k up x y) (isBelowM up x y) := by
  unfold impl_IsBelow.f isBelowM
  refine Ev.bind (latticeAt_ev up [x, y] hl (by simp)) ?_
  rw [two_in]
  cases hg : (latB up && (inB up x && inB up y)) with
  | false => exact Ev.neg (by decide) (Ev.some _)
  | true =>
    obtain ⟨h, h1, a, b, rfl, rfl, ha, hb⟩ := good_cases hg
    exact Ev.pos rfl (Ev.bindc (impl_below_eq h ha) (Ev.const (by simp)))
theorem spec_IsBelow_ev (up : List Int) (x y : Int) (hl : up.length ≤ 17592186044416) : Ev (fun k => spec_IsBelow.f k up x y) (isBelowM up x y) := by
  unfold spec_IsBelow.f isBelowM
  refine Ev.bind (good_ev up x y hl) ?_
  cases hg : (latB up && (inB up x && inB up y)) with
  | false => exact Ev.neg (by decide) (Ev.some _)
  | true =>
    obtain ⟨h, h1, a, b, rfl, rfl, ha, hb⟩ := good_cases hg
    have := h.1
    exact Ev.pos rfl (Ev.bind (spec_below_ev h ha (by omega)) (Ev.const (by simp)))
theorem impl_MeetOf_ev (up : List Int) (x y : Int) (hl : up.length ≤ 17592186044416) : Ev (fun k => impl_MeetOf.f k up x y) (meetOfM up x y) := by
  unfold impl_MeetOf.f meetOfM
  refine Ev.bind (latticeAt_ev up [x, y] hl (by simp)) ?_
  rw [two_in]
  cases hg : (latB up && (inB up x && inB up y)) with
  | false => exact Ev.neg (by decide) (Ev.some _)
  | true =>
    obtain ⟨h, h1, a, b, rfl, rfl, ha, hb⟩ := good_cases hg
    exact Ev.pos rfl (Ev.bind (impl_meet_ev h ha hb) (Ev.const (by simp)))
theorem spec_MeetOf_ev (up : List Int) (x y : Int) (hl : up.length ≤ 17592186044416) : Ev (fun k => spec_MeetOf.f k up x y) (meetOfM up x y) := by
  unfold spec_MeetOf.f meetOfM
  refine Ev.bind (good_ev up x y hl) ?_
  cases hg : (latB up && (inB up x && inB up y)) with
  | false => exact Ev.neg (by decide) (Ev.some _)
  | true =>
    obtain ⟨h, h1, a, b, rfl, rfl, ha, hb⟩ := good_cases hg
    exact Ev.pos rfl (Ev.bind (spec_meet_ev h ha hb) (Ev.const (by simp)))
theorem impl_JoinOf_ev (up : List Int) (x y : Int) (hl : up.length ≤ 17592186044416) : Ev (fun k => impl_JoinOf.f k up x y) (joinOfM up x y) := by
  unfold impl_JoinOf.f joinOfM
  refine Ev.bind (latticeAt_ev up [x, y] hl (by simp)) ?_
  rw [two_in]
  cases hg : (latB up && (inB up x && inB up y)) with
  | false => exact Ev.neg (by decide) (Ev.some _)
  | true =>
    obtain ⟨h, h1, a, b, rfl, rfl, ha, hb⟩ := good_cases hg
    exact Ev.pos rfl (Ev.bind (impl_join_ev h ha hb) (Ev.const (by simp)))
theorem spec_JoinOf_ev (up : List Int) (x y : Int) (hl : up.length ≤ 17592186044416) : Ev (fun k => spec_JoinOf.f k up x y) (joinOfM up x y) := by
  unfold spec_JoinOf.f joinOfM
  refine Ev.bind (good_ev up x y hl) ?_
  cases hg : (latB up && (inB up x && inB up y)) with
  | false => exact Ev.neg (by decide) (Ev.some _)
  | true =>
    obtain ⟨h, h1, a, b, rfl, rfl, ha, hb⟩ := good_cases hg
    exact Ev.pos rfl (Ev.bind (spec_join_ev h ha hb) (Ev.const (by simp)))
/-- All elements are comparable. -/
def chainB (up : List Int) : Bool := allN up.length fun x => allN up.length fun y => le up x y || le up y x
def isChainM (up : List Int) : Bool := latB up && chainB up
theorem impl_IsChain_ev (up : List Int) (hl : up.length ≤ 17592186044416) : Ev (fun k => impl_IsChain.f k up) (isChainM up) := by
  unfold impl_IsChain.f isChainM
  refine Ev.bind (impl_ValidLattice_ev up hl) ?_
  cases hb : latB up with
  | false => exact Ev.neg (by decide) (Ev.some _)
  | true =>
    obtain ⟨h, h1⟩ := latB_ok hb
    have h6 := h.1
    rw [Bool.true_and]
    refine Ev.pos rfl ?_
    refine ev_no (fun k i => impl_IsChain.l0 k up (up.length : Int) i) up.length _ _ ?_ ?_ (fun e => e)
    · intro x hx
      have key : ∀ r, ((allN up.length fun y => le up x y || le up y x) = true → Ev (fun k => impl_IsChain.l0 k up (up.length : Int) ((x + 1 : Nat) : Int)) r) → ((allN up.length fun y => le up x y || le up y x) = false → r = false) → Ev (fun k => impl_IsChain.l0 k up (up.length : Int) (x : Int)) r := by
        intro r k1 k2
        refine Ev.step (fun k => by simp only [impl_IsChain.l0]; exact rfl) ?_
        refine Ev.pos (by omega) ?_
        refine ev_no (fun k i => impl_IsChain.l1 k up (x : Int) (up.length : Int) (x : Int) (up.length : Int) i) up.length _ _ ?_ (fun e => ?_) k2
        · intro y hy
          have step : ∀ r, ((le up x y || le up y x) = true → Ev (fun k => impl_IsChain.l1 k up (x : Int) (up.length : Int) (x : Int) (up.length : Int) ((y + 1 : Nat) : Int)) r) → ((le up x y || le up y x) = false → r = false) → Ev (fun k => impl_IsChain.l1 k up (x : Int) (up.length : Int) (x : Int) (up.length : Int) (y : Int)) r := by
            intro r q1 q2
            refine Ev.step (fun k => by simp only [impl_IsChain.l1]; exact rfl) ?_
            refine Ev.pos (by omega) (Ev.bindc (impl_below_eq h hx) ?_)
            rw [w64s hy (by omega)]
            cases hA : le up x y with
            | true => exact Ev.pos rfl (q1 (by rw [hA]; rfl))
            | false =>
              refine Ev.neg (by decide) (Ev.bindc (impl_below_eq h hy) ?_)
              cases hB : le up y x with
              | true => exact Ev.pos rfl (q1 (by rw [hA, hB]; rfl))
              | false =>
                rw [q2 (by rw [hA, hB]; rfl)]
                exact Ev.neg (by decide) (Ev.some _)
          exact ⟨fun hp r hr => step r (fun _ => hr) (fun e => by rw [hp] at e; cases e), fun hp => step false (fun e => by rw [hp] at e; cases e) (fun _ => rfl)⟩
        · refine Ev.step (fun k => by simp only [impl_IsChain.l1]; exact rfl) ?_
          refine Ev.neg (by omega) ?_
          rw [w64s hx (by omega)]
          exact k1 e
      exact ⟨fun hp r hr => key r (fun _ => hr) (fun e => by rw [hp] at e; cases e), fun hp => key false (fun e => by rw [hp] at e; cases e) (fun _ => rfl)⟩
    · intro e
      refine Ev.step (fun k => by simp only [impl_IsChain.l0]; exact rfl) ?_
      rw [show chainB up = true from e]
      exact Ev.neg (by omega) (Ev.some _)
theorem spec_IsChain_ev (up : List Int) (hl : up.length ≤ 17592186044416) : Ev (fun k => spec_IsChain.f k up) (isChainM up) := by
  unfold spec_IsChain.f isChainM spec_isChain.f
  refine Ev.bind (spec_validLattice_ev up hl) ?_
  cases hb : latB up with
  | false => exact Ev.neg (by decide) (Ev.some _)
  | true =>
    obtain ⟨h, h1⟩ := latB_ok hb
    have h6 := h.1
    rw [Bool.true_and]
    refine Ev.pos rfl (Ev.bind (a := chainB up) ?_ (Ev.some _))
    refine ev_no (fun k i => spec_isChain.l0 k up i) up.length _ _ ?_ ?_ (fun e => e)
    · intro x hx
      have key : ∀ r, ((allN up.length fun y => le up x y || le up y x) = true → Ev (fun k => spec_isChain.l0 k up ((x + 1 : Nat) : Int)) r) → ((allN up.length fun y => le up x y || le up y x) = false → r = false) → Ev (fun k => spec_isChain.l0 k up (x : Int)) r := by
        intro r k1 k2
        refine Ev.step (fun k => by simp only [spec_isChain.l0]; exact rfl) ?_
        refine Ev.pos (by omega) ?_
        refine ev_no (fun k i => spec_isChain.l1 k up (x : Int) i) up.length _ _ ?_ (fun e => ?_) k2
        · intro y hy
          have step : ∀ r, ((le up x y || le up y x) = true → Ev (fun k => spec_isChain.l1 k up (x : Int) ((y + 1 : Nat) : Int)) r) → ((le up x y || le up y x) = false → r = false) → Ev (fun k => spec_isChain.l1 k up (x : Int) (y : Int)) r := by
            intro r q1 q2
            refine Ev.step (fun k => by simp only [spec_isChain.l1]; exact rfl) ?_
            refine Ev.pos (by omega) (Ev.bind (spec_below_ev h hx (by omega)) ?_)
            rw [w64s hy (by omega)]
            cases hA : le up x y with
            | true => exact Ev.pos rfl (q1 (by rw [hA]; rfl))
            | false =>
              refine Ev.neg (by decide) (Ev.bind (spec_below_ev h hy (by omega)) ?_)
              cases hB : le up y x with
              | true => exact Ev.pos rfl (q1 (by rw [hA, hB]; rfl))
              | false =>
                rw [q2 (by rw [hA, hB]; rfl)]
                exact Ev.neg (by decide) (Ev.some _)
          exact ⟨fun hp r hr => step r (fun _ => hr) (fun e => by rw [hp] at e; cases e), fun hp => step false (fun e => by rw [hp] at e; cases e) (fun _ => rfl)⟩
        · refine Ev.step (fun k => by simp only [spec_isChain.l1]; exact rfl) ?_
          refine Ev.neg (by omega) ?_
          rw [w64s hx (by omega)]
          exact k1 e
      exact ⟨fun hp r hr => key r (fun _ => hr) (fun e => by rw [hp] at e; cases e), fun hp => key false (fun e => by rw [hp] at e; cases e) (fun _ => rfl)⟩
    · intro e
      refine Ev.step (fun k => by simp only [spec_isChain.l0]; exact rfl) ?_
      rw [show chainB up = true from e]
      exact Ev.neg (by omega) (Ev.some _)
end Go.Proofs.Ytmfpaagjllaljaa.M

/- Meets and joins of a lattice are elements; which lattices are distributive: the program and the reference answer the same. -/
namespace Go.Proofs.Ytmfpaagjllaljaa.M
set_option linter.unusedVariables false
open Go.RowKit Go.Proofs.YtmfpaagjllaljaaW.PrintWords Go.Proofs.YtmfpaagjllaljaaW.PrintLast Go.Proofs.YtmfpaagjllaljaaW.PrintMore Go.Proofs.Ytmfpaagjllaljaa.P

theorem find_spec (n : Nat) (p : Nat → Bool) : ∀ d i, i + d = n →
    (∃ z, i ≤ z ∧ z < n ∧ p z = true ∧ runL (fun z => if p z then some (z : Int) else none) (-1) d i = (z : Int) ∧ ∀ w, i ≤ w → w < z → p w = false) ∨
    (runL (fun z => if p z then some (z : Int) else none) (-1) d i = -1 ∧ ∀ z, i ≤ z → z < n → p z = false) := by
  intro d
  induction d with
  | zero => intro i hi; right; exact ⟨rfl, fun z h1 h2 => by omega⟩
  | succ d ih =>
    intro i hi
    unfold runL
    cases hp : p i with
    | true => left; exact ⟨i, Nat.le_refl _, by omega, hp, by simp, fun w h1 h2 => by omega⟩
    | false =>
      simp only [Bool.false_eq_true, if_false]
      rcases ih (i + 1) (by omega) with ⟨z, h1, h2, h3, h4, h5⟩ | ⟨h1, h2⟩
      · left
        refine ⟨z, by omega, h2, h3, h4, fun w hw hz => ?_⟩
        by_cases e : w = i
        · subst e; exact hp
        · exact h5 w (by omega) hz
      · right
        refine ⟨h1, fun z hz hn => ?_⟩
        by_cases e : z = i
        · subst e; exact hp
        · exact h2 z (by omega) hn
theorem firstN_spec (n : Nat) (p : Nat → Bool) : (∃ z, z < n ∧ p z = true ∧ firstN n p = (z : Int) ∧ ∀ w, w < z → p w = false) ∨ (firstN n p = -1 ∧ ∀ z, z < n → p z = false) := by
  rcases find_spec n p n 0 (by omega) with ⟨z, _, h2, h3, h4, h5⟩ | ⟨h1, h2⟩
  · exact Or.inl ⟨z, h2, h3, h4, fun w hw => h5 w (Nat.zero_le _) hw⟩
  · exact Or.inr ⟨h1, fun z hz => h2 z (Nat.zero_le _) hz⟩
theorem firstN_pos {n : Nat} {p : Nat → Bool} (h : 0 ≤ firstN n p) : firstN n p = ((firstN n p).toNat : Int) ∧ (firstN n p).toNat < n ∧ p (firstN n p).toNat = true := by
  rcases firstN_spec n p with ⟨z, h1, h2, h3, _⟩ | ⟨h1, _⟩
  · rw [h3, Int.toNat_natCast]; exact ⟨rfl, h1, h2⟩
  · omega
def meetN (up : List Int) (x y : Nat) : Nat := (meetM up x y).toNat
def joinN (up : List Int) (x y : Nat) : Nat := (joinM up x y).toNat
theorem latB_both {up : List Int} (h : latB up = true) {x y : Nat} (hx : x < up.length) (hy : y < up.length) : 0 ≤ meetM up x y ∧ 0 ≤ joinM up x y := by
  unfold latB at h
  rw [Bool.and_eq_true] at h
  have := (allN_iff.1 ((allN_iff.1 h.2) x hx)) y hy
  rwa [Bool.and_eq_true, decide_eq_true_eq, decide_eq_true_eq] at this
theorem meetN_spec {up : List Int} (h : latB up = true) {x y : Nat} (hx : x < up.length) (hy : y < up.length) : meetM up x y = (meetN up x y : Int) ∧ meetN up x y < up.length ∧ isMeet up x y (meetN up x y) = true :=
  firstN_pos (latB_both h hx hy).1
theorem joinN_spec {up : List Int} (h : latB up = true) {x y : Nat} (hx : x < up.length) (hy : y < up.length) : joinM up x y = (joinN up x y : Int) ∧ joinN up x y < up.length ∧ isJoin up x y (joinN up x y) = true :=
  firstN_pos (latB_both h hx hy).2
/-- The meet of x and the join of y and z is the join of the meets. -/
def distAt (up : List Int) (x y z : Nat) : Bool := decide (meetN up x (joinN up y z) = joinN up (meetN up x y) (meetN up x z))
def distB (up : List Int) : Bool := allN up.length fun x => allN up.length fun y => allN up.length fun z => distAt up x y z
def isDistM (up : List Int) : Bool := latB up && distB up
theorem three_loops {up : List Int} (h6 : up.length ≤ 6) (p : Nat → Nat → Nat → Bool) (F : Nat → Int → Option Bool) (G : Nat → Int → Int → Option Bool) (H : Nat → Int → Int → Int → Option Bool) (r : Bool)
    (g0 : ∀ x, x < up.length → ∀ r, Ev (fun k => G k (x : Int) 0) r → Ev (fun k => F k (x : Int)) r)
    (g1 : ∀ x, x < up.length → ∀ y, y < up.length → ∀ r, Ev (fun k => H k (x : Int) (y : Int) 0) r → Ev (fun k => G k (x : Int) (y : Int)) r)
    (g2 : ∀ x, x < up.length → ∀ y, y < up.length → ∀ z, z < up.length → ∀ r, (p x y z = true → Ev (fun k => H k (x : Int) (y : Int) ((z + 1 : Nat) : Int)) r) → (p x y z = false → r = false) → Ev (fun k => H k (x : Int) (y : Int) (z : Int)) r)
    (e2 : ∀ x, x < up.length → ∀ y, y < up.length → ∀ r, Ev (fun k => G k (x : Int) ((y + 1 : Nat) : Int)) r → Ev (fun k => H k (x : Int) (y : Int) (up.length : Int)) r)
    (e1 : ∀ x, x < up.length → ∀ r, Ev (fun k => F k ((x + 1 : Nat) : Int)) r → Ev (fun k => G k (x : Int) (up.length : Int)) r)
    (e0 : (allN up.length fun x => allN up.length fun y => allN up.length fun z => p x y z) = true → Ev (fun k => F k (up.length : Int)) r)
    (k0 : (allN up.length fun x => allN up.length fun y => allN up.length fun z => p x y z) = false → r = false) : Ev (fun k => F k 0) r := by
  refine ev_no F up.length _ r ?_ e0 k0
  intro x hx
  have kx : ∀ r, ((allN up.length fun y => allN up.length fun z => p x y z) = true → Ev (fun k => F k ((x + 1 : Nat) : Int)) r) → ((allN up.length fun y => allN up.length fun z => p x y z) = false → r = false) → Ev (fun k => F k (x : Int)) r := by
    intro r q1 q2
    refine g0 x hx r (ev_no (fun k i => G k (x : Int) i) up.length _ r ?_ (fun e => e1 x hx r (q1 e)) q2)
    intro y hy
    have ky : ∀ r, ((allN up.length fun z => p x y z) = true → Ev (fun k => G k (x : Int) ((y + 1 : Nat) : Int)) r) → ((allN up.length fun z => p x y z) = false → r = false) → Ev (fun k => G k (x : Int) (y : Int)) r := by
      intro r s1 s2
      refine g1 x hx y hy r (ev_no (fun k i => H k (x : Int) (y : Int) i) up.length _ r ?_ (fun e => e2 x hx y hy r (s1 e)) s2)
      intro z hz
      exact ⟨fun hp r hr => g2 x hx y hy z hz r (fun _ => hr) (fun e => by rw [hp] at e; cases e), fun hp => g2 x hx y hy z hz false (fun e => by rw [hp] at e; cases e) (fun _ => rfl)⟩
    exact ⟨fun hp r hr => ky r (fun _ => hr) (fun e => by rw [hp] at e; cases e), fun hp => ky false (fun e => by rw [hp] at e; cases e) (fun _ => rfl)⟩
  exact ⟨fun hp r hr => kx r (fun _ => hr) (fun e => by rw [hp] at e; cases e), fun hp => kx false (fun e => by rw [hp] at e; cases e) (fun _ => rfl)⟩
theorem spec_IsDistributive_ev (up : List Int) (hl : up.length ≤ 17592186044416) : Ev (fun k => spec_IsDistributive.f k up) (isDistM up) := by
  unfold spec_IsDistributive.f isDistM spec_distributive.f
  refine Ev.bind (spec_validLattice_ev up hl) ?_
  cases hb : latB up with
  | false => exact Ev.neg (by decide) (Ev.some _)
  | true =>
    obtain ⟨h, h1⟩ := latB_ok hb
    have h6 := h.1
    rw [Bool.true_and]
    refine Ev.pos rfl (Ev.bind (a := distB up) ?_ (Ev.some _))
    refine three_loops h6 (distAt up) (fun k i => spec_distributive.l0 k up i) (fun k x i => spec_distributive.l1 k up x i) (fun k x y i => spec_distributive.l2 k up x y i) _ ?_ ?_ ?_ ?_ ?_ ?_ (fun e => e)
    · intro x hx r hr
      refine Ev.step (fun k => by simp only [spec_distributive.l0]; exact rfl) ?_
      exact Ev.pos (by omega) hr
    · intro x hx y hy r hr
      refine Ev.step (fun k => by simp only [spec_distributive.l1]; exact rfl) ?_
      exact Ev.pos (by omega) hr
    · intro x hx y hy z hz r k1 k2
      obtain ⟨j1, j2, _⟩ := joinN_spec hb hy hz
      obtain ⟨m1, m2, _⟩ := meetN_spec hb hx j2
      obtain ⟨a1, a2, _⟩ := meetN_spec hb hx hy
      obtain ⟨b1, b2, _⟩ := meetN_spec hb hx hz
      obtain ⟨c1, c2, _⟩ := joinN_spec hb a2 b2
      refine Ev.step (fun k => by simp only [spec_distributive.l2]; exact rfl) ?_
      refine Ev.pos (by omega) (Ev.bind (spec_join_ev h hy hz) ?_)
      rw [j1]
      refine Ev.bind (spec_meet_ev h hx j2) (Ev.bind (spec_meet_ev h hx hy) (Ev.bind (spec_meet_ev h hx hz) ?_))
      rw [a1, b1]
      refine Ev.bind (spec_join_ev h a2 b2) ?_
      rw [m1, c1, w64s hz (by omega)]
      refine Ev.ite' (fun c => k1 (decide_eq_true (by omega))) (fun c => ?_)
      rw [k2 (decide_eq_false (by omega))]
      exact Ev.some _
    · intro x hx y hy r hr
      refine Ev.step (fun k => by simp only [spec_distributive.l2]; exact rfl) ?_
      refine Ev.neg (by omega) ?_
      rw [w64s hy (by omega)]
      exact hr
    · intro x hx r hr
      refine Ev.step (fun k => by simp only [spec_distributive.l1]; exact rfl) ?_
      refine Ev.neg (by omega) ?_
      rw [w64s hx (by omega)]
      exact hr
    · intro e
      refine Ev.step (fun k => by simp only [spec_distributive.l0]; exact rfl) ?_
      rw [show distB up = true from e]
      exact Ev.neg (by omega) (Ev.some _)
theorem impl_IsDistributive_ev (up : List Int) (hl : up.length ≤ 17592186044416) : Ev (fun k => impl_IsDistributive.f k up) (isDistM up) := by
  unfold impl_IsDistributive.f isDistM
  refine Ev.bind (impl_ValidLattice_ev up hl) ?_
  cases hb : latB up with
  | false => exact Ev.neg (by decide) (Ev.some _)
  | true =>
    obtain ⟨h, h1⟩ := latB_ok hb
    have h6 := h.1
    rw [Bool.true_and]
    refine Ev.pos rfl ?_
    refine three_loops h6 (distAt up) (fun k i => impl_IsDistributive.l0 k up (up.length : Int) i) (fun k x i => impl_IsDistributive.l1 k up x (up.length : Int) x (up.length : Int) i) (fun k x y i => impl_IsDistributive.l2 k up x y (up.length : Int) x (up.length : Int) y (up.length : Int) i) _ ?_ ?_ ?_ ?_ ?_ ?_ (fun e => e)
    · intro x hx r hr
      refine Ev.step (fun k => by simp only [impl_IsDistributive.l0]; exact rfl) ?_
      exact Ev.pos (by omega) hr
    · intro x hx y hy r hr
      refine Ev.step (fun k => by simp only [impl_IsDistributive.l1]; exact rfl) ?_
      exact Ev.pos (by omega) hr
    · intro x hx y hy z hz r k1 k2
      obtain ⟨j1, j2, _⟩ := joinN_spec hb hy hz
      obtain ⟨m1, m2, _⟩ := meetN_spec hb hx j2
      obtain ⟨a1, a2, _⟩ := meetN_spec hb hx hy
      obtain ⟨b1, b2, _⟩ := meetN_spec hb hx hz
      obtain ⟨c1, c2, _⟩ := joinN_spec hb a2 b2
      refine Ev.step (fun k => by simp only [impl_IsDistributive.l2]; exact rfl) ?_
      refine Ev.pos (by omega) (Ev.bind (impl_join_ev h hy hz) ?_)
      rw [j1]
      refine Ev.bind (impl_meet_ev h hx j2) (Ev.bind (impl_meet_ev h hx hy) (Ev.bind (impl_meet_ev h hx hz) ?_))
      rw [a1, b1]
      refine Ev.bind (impl_join_ev h a2 b2) ?_
      rw [m1, c1, w64s hz (by omega)]
      refine Ev.ite' (fun c => k1 (decide_eq_true (by omega))) (fun c => ?_)
      rw [k2 (decide_eq_false (by omega))]
      exact Ev.some _
    · intro x hx y hy r hr
      refine Ev.step (fun k => by simp only [impl_IsDistributive.l2]; exact rfl) ?_
      refine Ev.neg (by omega) ?_
      rw [w64s hy (by omega)]
      exact hr
    · intro x hx r hr
      refine Ev.step (fun k => by simp only [impl_IsDistributive.l1]; exact rfl) ?_
      refine Ev.neg (by omega) ?_
      rw [w64s hx (by omega)]
      exact hr
    · intro e
      refine Ev.step (fun k => by simp only [impl_IsDistributive.l0]; exact rfl) ?_
      rw [show distB up = true from e]
      exact Ev.neg (by omega) (Ev.some _)
end Go.Proofs.Ytmfpaagjllaljaa.M

/- Lattices by their order: what the numbers of a lattice obey, and that what obeys it is a lattice. -/
namespace Go.Proofs.Ytmfpaagjllaljaa.M
set_option linter.unusedVariables false
open Go.RowKit Go.Proofs.YtmfpaagjllaljaaW.PrintWords Go.Proofs.YtmfpaagjllaljaaW.PrintLast Go.Proofs.YtmfpaagjllaljaaW.PrintMore Go.Proofs.Ytmfpaagjllaljaa.P

structure Lat (up : List Int) : Prop where
  ok : OkR up
  pos : 1 ≤ up.length
  refl : ∀ x, x < up.length → le up x x = true
  bot : ∀ x, x < up.length → le up 0 x = true
  top : ∀ x, x < up.length → le up x (up.length - 1) = true
  anti : ∀ x y, x < up.length → y < up.length → le up x y = true → le up y x = true → x = y
  trans : ∀ x y z, x < up.length → y < up.length → z < up.length → le up x y = true → le up y z = true → le up x z = true
theorem isMeet_iff {up : List Int} {x y z : Nat} : isMeet up x y z = true ↔ le up z x = true ∧ le up z y = true ∧ ∀ w, w < up.length → le up w x = true → le up w y = true → le up w z = true := by
  unfold isMeet
  rw [Bool.and_eq_true, Bool.and_eq_true, List.all_eq_true]
  constructor
  · rintro ⟨⟨h1, h2⟩, h3⟩
    refine ⟨h1, h2, fun w hw a b => ?_⟩
    have := h3 w (List.mem_range.2 hw)
    simpa [a, b] using this
  · rintro ⟨h1, h2, h3⟩
    refine ⟨⟨h1, h2⟩, fun w hw => ?_⟩
    cases a : le up w x with
    | false => rfl
    | true =>
      cases b : le up w y with
      | false => rfl
      | true => simpa using h3 w (List.mem_range.1 hw) a b
theorem isJoin_iff {up : List Int} {x y z : Nat} : isJoin up x y z = true ↔ le up x z = true ∧ le up y z = true ∧ ∀ w, w < up.length → le up x w = true → le up y w = true → le up z w = true := by
  unfold isJoin
  rw [Bool.and_eq_true, Bool.and_eq_true, List.all_eq_true]
  constructor
  · rintro ⟨⟨h1, h2⟩, h3⟩
    refine ⟨h1, h2, fun w hw a b => ?_⟩
    have := h3 w (List.mem_range.2 hw)
    simpa [a, b] using this
  · rintro ⟨h1, h2, h3⟩
    refine ⟨⟨h1, h2⟩, fun w hw => ?_⟩
    cases a : le up x w with
    | false => rfl
    | true =>
      cases b : le up y w with
      | false => rfl
      | true => simpa using h3 w (List.mem_range.1 hw) a b
theorem ordB_iff {up : List Int} : ordB up = true ↔ ∀ x, x < up.length → (le up x x = true ∧ le up 0 x = true ∧ le up x (up.length - 1) = true) ∧ ∀ y, y < up.length → ¬ (x ≠ y ∧ le up x y = true ∧ le up y x = true) ∧ ∀ z, z < up.length → le up x y = true → le up y z = true → le up x z = true := by
  unfold ordB
  rw [allN_iff]
  refine forall_congr' fun x => forall_congr' fun hx => ?_
  rw [Bool.and_eq_true, Bool.and_eq_true, Bool.and_eq_true, allN_iff]
  refine and_congr and_assoc (forall_congr' fun y => forall_congr' fun hy => ?_)
  rw [Bool.and_eq_true, allN_iff]
  refine and_congr ?_ (forall_congr' fun z => forall_congr' fun hz => ?_)
  · rw [Bool.not_eq_true', Bool.and_eq_false_imp]
    by_cases e : x = y <;> cases a : le up x y <;> cases b : le up y x <;> simp [e]
  · cases a : le up x y <;> cases b : le up y z <;> cases c : le up x z <;> simp
theorem Lat.of {up : List Int} (hb : latB up = true) : Lat up := by
  obtain ⟨h, h1⟩ := latB_ok hb
  have ho : ordB up = true := by
    unfold latB at hb
    rw [Bool.and_eq_true, Bool.and_eq_true] at hb
    exact hb.1.2
  have ho := ordB_iff.1 ho
  exact ⟨h, h1, fun x hx => (ho x hx).1.1, fun x hx => (ho x hx).1.2.1, fun x hx => (ho x hx).1.2.2, fun x y hx hy a b => Decidable.byContradiction fun e => ((ho x hx).2 y hy).1 ⟨e, a, b⟩, fun x y z hx hy hz a b => ((ho x hx).2 y hy).2 z hz a b⟩
theorem firstN_some {n : Nat} {p : Nat → Bool} {z : Nat} (hz : z < n) (hp : p z = true) : 0 ≤ firstN n p := by
  rcases firstN_spec n p with ⟨w, _, _, h, _⟩ | ⟨_, h⟩
  · rw [h]; exact Int.natCast_nonneg _
  · rw [h z hz] at hp; cases hp
/-- What obeys the laws of an order and has meets and joins is a lattice. -/
theorem latB_of {up : List Int} (h : Lat up) (hm : ∀ x y, x < up.length → y < up.length → ∃ z, z < up.length ∧ isMeet up x y z = true) (hj : ∀ x y, x < up.length → y < up.length → ∃ z, z < up.length ∧ isJoin up x y z = true) : latB up = true := by
  unfold latB
  rw [Bool.and_eq_true, Bool.and_eq_true, Bool.and_eq_true]
  refine ⟨⟨⟨decide_eq_true ⟨h.pos, h.ok.1⟩, (okB_iff h.ok.1).2 h.ok⟩, ordB_iff.2 ?_⟩, ?_⟩
  · intro x hx
    refine ⟨⟨h.refl x hx, h.bot x hx, h.top x hx⟩, fun y hy => ⟨fun e => e.1 (h.anti x y hx hy e.2.1 e.2.2), fun z hz a b => h.trans x y z hx hy hz a b⟩⟩
  · unfold bothB
    rw [allN_iff]
    intro x hx
    rw [allN_iff]
    intro y hy
    obtain ⟨z, hz, h1⟩ := hm x y hx hy
    obtain ⟨w, hw, h2⟩ := hj x y hx hy
    rw [Bool.and_eq_true, decide_eq_true_eq, decide_eq_true_eq]
    exact ⟨firstN_some hz h1, firstN_some hw h2⟩
section
variable {up : List Int} (hb : latB up = true)
include hb
theorem mlt {x y : Nat} (hx : x < up.length) (hy : y < up.length) : meetN up x y < up.length := (meetN_spec hb hx hy).2.1
theorem jlt {x y : Nat} (hx : x < up.length) (hy : y < up.length) : joinN up x y < up.length := (joinN_spec hb hx hy).2.1
theorem m_l {x y : Nat} (hx : x < up.length) (hy : y < up.length) : le up (meetN up x y) x = true := (isMeet_iff.1 (meetN_spec hb hx hy).2.2).1
theorem m_r {x y : Nat} (hx : x < up.length) (hy : y < up.length) : le up (meetN up x y) y = true := (isMeet_iff.1 (meetN_spec hb hx hy).2.2).2.1
theorem m_g {x y w : Nat} (hx : x < up.length) (hy : y < up.length) (hw : w < up.length) (a : le up w x = true) (b : le up w y = true) : le up w (meetN up x y) = true := (isMeet_iff.1 (meetN_spec hb hx hy).2.2).2.2 w hw a b
theorem j_l {x y : Nat} (hx : x < up.length) (hy : y < up.length) : le up x (joinN up x y) = true := (isJoin_iff.1 (joinN_spec hb hx hy).2.2).1
theorem j_r {x y : Nat} (hx : x < up.length) (hy : y < up.length) : le up y (joinN up x y) = true := (isJoin_iff.1 (joinN_spec hb hx hy).2.2).2.1
theorem j_g {x y w : Nat} (hx : x < up.length) (hy : y < up.length) (hw : w < up.length) (a : le up x w = true) (b : le up y w = true) : le up (joinN up x y) w = true := (isJoin_iff.1 (joinN_spec hb hx hy).2.2).2.2 w hw a b
theorem m_eq {x y z : Nat} (hx : x < up.length) (hy : y < up.length) (hz : z < up.length) (h : isMeet up x y z = true) : meetN up x y = z := by
  have i := isMeet_iff.1 h
  exact (Lat.of hb).anti _ _ (mlt hb hx hy) hz (i.2.2 _ (mlt hb hx hy) (m_l hb hx hy) (m_r hb hx hy)) (m_g hb hx hy hz i.1 i.2.1)
theorem j_eq {x y z : Nat} (hx : x < up.length) (hy : y < up.length) (hz : z < up.length) (h : isJoin up x y z = true) : joinN up x y = z := by
  have i := isJoin_iff.1 h
  exact (Lat.of hb).anti _ _ (jlt hb hx hy) hz (j_g hb hx hy hz i.1 i.2.1) (i.2.2 _ (jlt hb hx hy) (j_l hb hx hy) (j_r hb hx hy))
theorem m_comm {x y : Nat} (hx : x < up.length) (hy : y < up.length) : meetN up x y = meetN up y x :=
  m_eq hb hx hy (mlt hb hy hx) (isMeet_iff.2 ⟨m_r hb hy hx, m_l hb hy hx, fun w hw a b => m_g hb hy hx hw b a⟩)
theorem j_comm {x y : Nat} (hx : x < up.length) (hy : y < up.length) : joinN up x y = joinN up y x :=
  j_eq hb hx hy (jlt hb hy hx) (isJoin_iff.2 ⟨j_r hb hy hx, j_l hb hy hx, fun w hw a b => j_g hb hy hx hw b a⟩)
theorem le_meet {x y : Nat} (hx : x < up.length) (hy : y < up.length) : le up x y = true ↔ meetN up x y = x := by
  constructor
  · intro h
    exact m_eq hb hx hy hx (isMeet_iff.2 ⟨(Lat.of hb).refl x hx, h, fun w _ a _ => a⟩)
  · intro h
    have := m_r hb hx hy
    rwa [h] at this
theorem le_join {x y : Nat} (hx : x < up.length) (hy : y < up.length) : le up x y = true ↔ joinN up x y = y := by
  constructor
  · intro h
    exact j_eq hb hx hy hy (isJoin_iff.2 ⟨h, (Lat.of hb).refl y hy, fun w _ _ b => b⟩)
  · intro h
    have := j_l hb hx hy
    rwa [h] at this
theorem meetN_int {x y : Nat} (hx : x < up.length) (hy : y < up.length) : meetM up x y = (meetN up x y : Int) := (meetN_spec hb hx hy).1
theorem joinN_int {x y : Nat} (hx : x < up.length) (hy : y < up.length) : joinM up x y = (joinN up x y : Int) := (joinN_spec hb hx hy).1
theorem below_in {x y : Nat} (hx : x < up.length) (hy : y < up.length) : isBelowM up (x : Int) (y : Int) = le up x y := by
  rw [isBelowM, hb, inB_of hx, inB_of hy]
  rfl
theorem meet_in {x y : Nat} (hx : x < up.length) (hy : y < up.length) : meetOfM up (x : Int) (y : Int) = (meetN up x y : Int) := by
  rw [meetOfM, hb, inB_of hx, inB_of hy]
  show meetM up ((x : Int).toNat) ((y : Int).toNat) = _
  rw [Int.toNat_natCast, Int.toNat_natCast, meetN_int hb hx hy]
theorem join_in {x y : Nat} (hx : x < up.length) (hy : y < up.length) : joinOfM up (x : Int) (y : Int) = (joinN up x y : Int) := by
  rw [joinOfM, hb, inB_of hx, inB_of hy]
  show joinM up ((x : Int).toNat) ((y : Int).toNat) = _
  rw [Int.toNat_natCast, Int.toNat_natCast, joinN_int hb hx hy]
end
/-- Where there is a meet, both are elements of a lattice. -/
theorem meet_cases {up : List Int} {x y : Int} (h : ¬ meetOfM up x y < 0) : latB up = true ∧ ∃ a b : Nat, x = (a : Int) ∧ y = (b : Int) ∧ a < up.length ∧ b < up.length := by
  unfold meetOfM at h
  by_cases c : (latB up && (inB up x && inB up y)) = true
  · obtain ⟨_, _, hab⟩ := good_cases c
    rw [Bool.and_eq_true] at c
    exact ⟨c.1, hab⟩
  · rw [if_neg c] at h
    exact absurd (by decide) h
theorem join_cases {up : List Int} {x y : Int} (h : ¬ joinOfM up x y < 0) : latB up = true ∧ ∃ a b : Nat, x = (a : Int) ∧ y = (b : Int) ∧ a < up.length ∧ b < up.length := by
  unfold joinOfM at h
  by_cases c : (latB up && (inB up x && inB up y)) = true
  · obtain ⟨_, _, hab⟩ := good_cases c
    rw [Bool.and_eq_true] at c
    exact ⟨c.1, hab⟩
  · rw [if_neg c] at h
    exact absurd (by decide) h
end Go.Proofs.Ytmfpaagjllaljaa.M
