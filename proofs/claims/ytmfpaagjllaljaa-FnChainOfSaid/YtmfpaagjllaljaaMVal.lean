/- Which numbers are a lattice: the program's ValidLattice and the reference's answer the same. -/
import Derived.Test.YtmfpaagjllaljaaP11
import Derived.Test.YtmfpaagjllaljaaP4
import Derived.Test.YtmfpaagjllaljaaP5
import Derived.Test.YtmfpaagjllaljaaP6
import Derived.Test.YtmfpaagjllaljaaP7
import Derived.Test.YtmfpaagjllaljaaMLat
namespace Go.Proofs.Ytmfpaagjllaljaa.M
set_option linter.unusedVariables false
open Go.RowKit Go.Proofs.YtmfpaagjllaljaaW.PrintWords Go.Proofs.YtmfpaagjllaljaaW.PrintLast Go.Proofs.YtmfpaagjllaljaaW.PrintMore Go.Proofs.Ytmfpaagjllaljaa.P

theorem inRange_eq (a b c : Int) : spec_inRange.f a b c = some (decide (b ≤ a ∧ a ≤ c)) := by
  unfold spec_inRange.f
  by_cases h : b ≤ a
  · rw [if_pos h]; simp [h]
  · rw [if_neg h]; simp [h]
theorem within_eq' (a b c : Int) : impl_within.f a b c = some (decide (b ≤ a ∧ a ≤ c)) := by
  unfold impl_within.f
  by_cases h : a ≥ b
  · rw [if_pos h]; have : b ≤ a := h; simp [this]
  · rw [if_neg h]; have : ¬ b ≤ a := h; simp [this]
/-- Is each number a sum of 2 to some of the elements? -/
def okB (up : List Int) : Bool := (List.range up.length).all fun x => decide (0 ≤ rd up (x : Int) ∧ rd up (x : Int) ≤ ((2 ^ up.length : Nat) : Int) - 1)
theorem okB_iff {up : List Int} (h6 : up.length ≤ 6) : okB up = true ↔ OkR up := by
  unfold okB OkR
  rw [List.all_eq_true]
  constructor
  · intro h
    refine ⟨h6, fun x hx => ?_⟩
    have := of_decide_eq_true (h x (List.mem_range.2 hx))
    omega
  · intro h x hx
    have := h.2 x (List.mem_range.1 hx)
    exact decide_eq_true (by omega)
def allN (n : Nat) (p : Nat → Bool) : Bool := (List.range n).all p
theorem allN_iff {n : Nat} {p : Nat → Bool} : allN n p = true ↔ ∀ i, i < n → p i = true := by
  unfold allN; rw [List.all_eq_true]
  exact ⟨fun h i hi => h i (List.mem_range.2 hi), fun h i hi => h i (List.mem_range.1 hi)⟩
/-- An order with a least and a greatest element. -/
def ordB (up : List Int) : Bool := allN up.length fun x => (le up x x && le up 0 x && le up x (up.length - 1)) &&
  allN up.length fun y => !(!(decide (x = y)) && le up x y && le up y x) && allN up.length fun z => !(le up x y && le up y z && !(le up x z))
def bothB (up : List Int) : Bool := allN up.length fun x => allN up.length fun y => decide (0 ≤ meetM up x y) && decide (0 ≤ joinM up x y)
/-- The numbers up are a lattice. -/
def latB (up : List Int) : Bool := decide (1 ≤ up.length ∧ up.length ≤ 6) && okB up && ordB up && bothB up

theorem spec_order_ev {up : List Int} (h : OkR up) (h1 : 1 ≤ up.length) : Ev (fun k => spec_validOrder.l1 k up (up.length : Int) 0) (ordB up) := by
  have h6 := h.1
  refine ev_no (fun k i => spec_validOrder.l1 k up (up.length : Int) i) up.length _ _ ?_ ?_ (fun e => e)
  · intro x hx
    -- behind the first test
    have inner : ∀ r, ((allN up.length fun y => !(!(decide (x = y)) && le up x y && le up y x) && allN up.length fun z => !(le up x y && le up y z && !(le up x z))) = true → Ev (fun k => spec_validOrder.l1 k up (up.length : Int) ((x + 1 : Nat) : Int)) r) →
        ((allN up.length fun y => !(!(decide (x = y)) && le up x y && le up y x) && allN up.length fun z => !(le up x y && le up y z && !(le up x z))) = false → r = false) →
        Ev (fun k => spec_validOrder.l2 k up (up.length : Int) (x : Int) 0) r := by
      intro r k1 k2
      refine ev_no (fun k i => spec_validOrder.l2 k up (up.length : Int) (x : Int) i) up.length _ _ ?_ (fun e => ?_) k2
      · intro y hy
        have third : ∀ r, ((allN up.length fun z => !(le up x y && le up y z && !(le up x z))) = true → Ev (fun k => spec_validOrder.l2 k up (up.length : Int) (x : Int) ((y + 1 : Nat) : Int)) r) →
            ((allN up.length fun z => !(le up x y && le up y z && !(le up x z))) = false → r = false) →
            Ev (fun k => spec_validOrder.l3 k up (up.length : Int) (x : Int) (y : Int) 0) r := by
          intro r q1 q2
          refine ev_no (fun k i => spec_validOrder.l3 k up (up.length : Int) (x : Int) (y : Int) i) up.length _ _ ?_ (fun e => ?_) q2
          · intro z hz
            constructor
            · intro hp r hr
              refine Ev.step (fun k => by simp only [spec_validOrder.l3]; exact rfl) ?_
              refine Ev.pos (by omega) ?_
              refine Ev.bind (spec_below_ev h hx (by omega)) ?_
              rw [w64s hz (by omega)]
              cases hA : le up x y with
              | false => exact Ev.neg (by decide) hr
              | true =>
                refine Ev.pos rfl (Ev.bind (spec_below_ev h hy (by omega)) ?_)
                cases hB : le up y z with
                | false => exact Ev.neg (by decide) hr
                | true =>
                  refine Ev.pos rfl (Ev.bind (spec_below_ev h hx (by omega)) ?_)
                  rw [hA, hB] at hp
                  have hC : le up x z = true := by simpa using hp
                  rw [hC]
                  exact Ev.pos rfl hr
            · intro hp
              have hp' : le up x y = true ∧ le up y z = true ∧ le up x z = false := by
                cases hA : le up x y <;> cases hB : le up y z <;> cases hC : le up x z <;> simp [hA, hB, hC] at hp ⊢
              refine Ev.step (fun k => by simp only [spec_validOrder.l3]; exact rfl) ?_
              refine Ev.pos (by omega) ?_
              refine Ev.bind (spec_below_ev h hx (by omega)) ?_
              rw [hp'.1]
              refine Ev.pos rfl (Ev.bind (spec_below_ev h hy (by omega)) ?_)
              rw [hp'.2.1]
              refine Ev.pos rfl (Ev.bind (spec_below_ev h hx (by omega)) ?_)
              rw [hp'.2.2]
              exact Ev.neg (by decide) (Ev.some _)
          · refine Ev.step (fun k => by simp only [spec_validOrder.l3]; exact rfl) ?_
            refine Ev.neg (by omega) ?_
            rw [w64s hy (by omega)]
            exact q1 e
        have second : ∀ r, (!(decide (x = y)) && le up x y && le up y x) = false → Ev (fun k => spec_validOrder.l3 k up (up.length : Int) (x : Int) (y : Int) 0) r → Ev (fun k => spec_validOrder.l2 k up (up.length : Int) (x : Int) (y : Int)) r := by
          intro r hb hr
          have hj : Ev (fun k => spec_validOrder.j4 k up (up.length : Int) (x : Int) (y : Int) false) r := by
            refine Ev.step (fun k => by simp only [spec_validOrder.j4]; exact rfl) ?_
            exact Ev.neg (by decide) hr
          refine Ev.step (fun k => by simp only [spec_validOrder.l2]; exact rfl) ?_
          refine Ev.pos (by omega) ?_
          by_cases exy : x = y
          · exact Ev.pos (by omega) hj
          · refine Ev.neg (by omega) (Ev.bind (spec_below_ev h hx (by omega)) ?_)
            cases hA : le up x y with
            | false => exact Ev.neg (by decide) hj
            | true =>
              refine Ev.pos rfl (Ev.bind (spec_below_ev h hy (by omega)) ?_)
              have : le up y x = false := by simpa [exy, hA] using hb
              rw [this]
              exact hj
        constructor
        · intro hp r hr
          rw [Bool.and_eq_true] at hp
          exact second r (by have hq := hp.1; rw [Bool.not_eq_true'] at hq; exact hq) (third r (fun _ => hr) (fun e => by rw [hp.2] at e; cases e))
        · intro hp
          cases hb : (!(decide (x = y)) && le up x y && le up y x) with
          | false =>
            rw [hb] at hp
            exact second _ hb (third _ (fun e => by rw [e] at hp; cases hp) (fun _ => rfl))
          | true =>
            rw [Bool.and_eq_true, Bool.and_eq_true] at hb
            obtain ⟨⟨e1, e2⟩, e3⟩ := hb
            have exy : ¬ x = y := by simpa using e1
            refine Ev.step (fun k => by simp only [spec_validOrder.l2]; exact rfl) ?_
            refine Ev.pos (by omega) (Ev.neg (by omega) (Ev.bind (spec_below_ev h hx (by omega)) ?_))
            rw [e2]
            refine Ev.pos rfl (Ev.bind (spec_below_ev h hy (by omega)) ?_)
            rw [e3]
            refine Ev.step (fun k => by simp only [spec_validOrder.j4]; exact rfl) ?_
            exact Ev.pos (by first | rfl | trivial) (Ev.some _)
      · refine Ev.step (fun k => by simp only [spec_validOrder.l2]; exact rfl) ?_
        refine Ev.neg (by omega) ?_
        rw [w64s hx (by omega)]
        exact k1 e
    have first : ∀ r, (le up x x && le up 0 x && le up x (up.length - 1)) = true → Ev (fun k => spec_validOrder.l2 k up (up.length : Int) (x : Int) 0) r → Ev (fun k => spec_validOrder.l1 k up (up.length : Int) (x : Int)) r := by
      intro r hb hr
      rw [Bool.and_eq_true, Bool.and_eq_true] at hb
      obtain ⟨⟨e1, e2⟩, e3⟩ := hb
      refine Ev.step (fun k => by simp only [spec_validOrder.l1]; exact rfl) ?_
      refine Ev.pos (by omega) (Ev.bind (spec_below_ev h hx (by omega)) ?_)
      rw [e1]
      refine Ev.pos rfl (Ev.bind (spec_below_ev (x := 0) h (by omega) (by omega)) ?_)
      rw [e2]
      rw [show wrap64 ((up.length : Int) - 1) = ((up.length - 1 : Nat) : Int) by rw [w64 (by omega) (by omega)]; omega]
      refine Ev.pos rfl (Ev.bind (spec_below_ev h hx (by omega)) ?_)
      rw [e3]
      refine Ev.step (fun k => by simp only [spec_validOrder.j2]; exact rfl) ?_
      exact Ev.neg (by decide) hr
    constructor
    · intro hp r hr
      rw [Bool.and_eq_true] at hp
      exact first r hp.1 (inner r (fun _ => hr) (fun e => by rw [hp.2] at e; cases e))
    · intro hp
      cases hb : (le up x x && le up 0 x && le up x (up.length - 1)) with
      | true =>
        rw [hb] at hp
        exact first _ hb (inner _ (fun e => by rw [e] at hp; cases hp) (fun _ => rfl))
      | false =>
        have hj : Ev (fun k => spec_validOrder.j2 k up (up.length : Int) (x : Int) true) false := by
          refine Ev.step (fun k => by simp only [spec_validOrder.j2]; exact rfl) ?_
          exact Ev.pos (by first | rfl | trivial) (Ev.some _)
        refine Ev.step (fun k => by simp only [spec_validOrder.l1]; exact rfl) ?_
        refine Ev.pos (by omega) (Ev.bind (spec_below_ev h hx (by omega)) ?_)
        cases e1 : le up x x with
        | false => exact Ev.neg (by decide) hj
        | true =>
          refine Ev.pos rfl (Ev.bind (spec_below_ev (x := 0) h (by omega) (by omega)) ?_)
          cases e2 : le up 0 x with
          | false => exact Ev.neg (by decide) hj
          | true =>
            rw [show wrap64 ((up.length : Int) - 1) = ((up.length - 1 : Nat) : Int) by rw [w64 (by omega) (by omega)]; omega]
            refine Ev.pos rfl (Ev.bind (spec_below_ev h hx (by omega)) ?_)
            rw [e1, e2] at hb
            have e3 : le up x (up.length - 1) = false := by simpa using hb
            rw [e3]
            exact hj
  · intro e
    refine Ev.step (fun k => by simp only [spec_validOrder.l1]; exact rfl) ?_
    refine Ev.neg (by omega) ?_
    rw [show ordB up = true from e]
    exact Ev.some _
theorem spec_validOrder_ev (up : List Int) (hl : up.length ≤ 17592186044416) : Ev (fun k => spec_validOrder.f k up) (decide (1 ≤ up.length ∧ up.length ≤ 6) && okB up && ordB up) := by
  unfold spec_validOrder.f
  refine Ev.bindc (inRange_eq _ _ _) ?_
  by_cases hn : 1 ≤ up.length ∧ up.length ≤ 6
  · rw [show decide ((1 : Int) ≤ (up.length : Int) ∧ (up.length : Int) ≤ 6) = true from decide_eq_true (by omega), show decide (1 ≤ up.length ∧ up.length ≤ 6) = true from decide_eq_true hn]
    refine Ev.pos rfl ?_
    refine ev_no (fun k i => spec_validOrder.l0 k up (up.length : Int) i) up.length (fun x => decide (0 ≤ rd up (x : Int) ∧ rd up (x : Int) ≤ ((2 ^ up.length : Nat) : Int) - 1)) _ ?_ ?_ ?_
    · intro x hx
      have hp := power_ev up.length (by omega)
      have h64 : 2 ^ up.length ≤ 2 ^ 6 := Nat.pow_le_pow_right (by decide) hn.2
      have h0 : 0 < 2 ^ up.length := Nat.two_pow_pos _
      constructor
      · intro hq r hr
        refine Ev.step (fun k => by simp only [spec_validOrder.l0]; exact rfl) ?_
        refine Ev.pos (by omega) (Ev.pos (by omega) (Ev.pos (by omega) (Ev.bind hp ?_)))
        rw [w64 (x := ((2 ^ up.length : Nat) : Int) - 1) (by omega) (by omega)]
        refine Ev.bindc (inRange_eq _ _ _) ?_
        rw [hq, w64s hx (by omega)]
        exact Ev.pos rfl hr
      · intro hq
        refine Ev.step (fun k => by simp only [spec_validOrder.l0]; exact rfl) ?_
        refine Ev.pos (by omega) (Ev.pos (by omega) (Ev.pos (by omega) (Ev.bind hp ?_)))
        rw [w64 (x := ((2 ^ up.length : Nat) : Int) - 1) (by omega) (by omega)]
        refine Ev.bindc (inRange_eq _ _ _) ?_
        rw [hq]
        exact Ev.neg (by decide) (Ev.some _)
    · intro e
      have e' : okB up = true := e
      rw [e', Bool.true_and, Bool.true_and]
      refine Ev.step (fun k => by simp only [spec_validOrder.l0]; exact rfl) ?_
      exact Ev.neg (by omega) (spec_order_ev ((okB_iff hn.2).1 e') hn.1)
    · intro e
      have e' : okB up = false := e
      rw [e']; rfl
  · rw [show decide ((1 : Int) ≤ (up.length : Int) ∧ (up.length : Int) ≤ 6) = false from decide_eq_false (by omega), show decide (1 ≤ up.length ∧ up.length ≤ 6) = false from decide_eq_false hn]
    exact Ev.neg (by decide) (Ev.some _)
theorem both_loop {up : List Int} (h : OkR up) (F G : Nat → Int → Option Bool) (H : Nat → Int → Int → Option Bool) (r : Bool)
    (g0 : ∀ x, x < up.length → ∀ r, Ev (fun k => H k (x : Int) 0) r → Ev (fun k => G k (x : Int)) r)
    (g1 : ∀ x, x < up.length → ∀ y, y < up.length → ∀ r, (0 ≤ meetM up x y ∧ 0 ≤ joinM up x y → Ev (fun k => H k (x : Int) ((y + 1 : Nat) : Int)) r) → (¬ (0 ≤ meetM up x y ∧ 0 ≤ joinM up x y) → r = false) → Ev (fun k => H k (x : Int) (y : Int)) r)
    (g2 : ∀ x, x < up.length → ∀ r, Ev (fun k => G k ((x + 1 : Nat) : Int)) r → Ev (fun k => H k (x : Int) (up.length : Int)) r)
    (g3 : bothB up = true → Ev (fun k => G k (up.length : Int)) r) (g4 : bothB up = false → r = false) : Ev (fun k => G k 0) r := by
  refine ev_no G up.length _ r ?_ g3 g4
  intro x hx
  have key : ∀ r, ((allN up.length fun y => decide (0 ≤ meetM up x y) && decide (0 ≤ joinM up x y)) = true → Ev (fun k => G k ((x + 1 : Nat) : Int)) r) → ((allN up.length fun y => decide (0 ≤ meetM up x y) && decide (0 ≤ joinM up x y)) = false → r = false) → Ev (fun k => G k (x : Int)) r := by
    intro r k1 k2
    refine g0 x hx r ?_
    refine ev_no (fun k i => H k (x : Int) i) up.length _ r ?_ (fun e => g2 x hx r (k1 e)) k2
    intro y hy
    constructor
    · intro hp r hr
      rw [Bool.and_eq_true, decide_eq_true_eq, decide_eq_true_eq] at hp
      exact g1 x hx y hy r (fun _ => hr) (fun e => absurd hp e)
    · intro hp
      refine g1 x hx y hy false (fun e => ?_) (fun _ => rfl)
      rw [decide_eq_true e.1, decide_eq_true e.2] at hp
      cases hp
  exact ⟨fun hp r hr => key r (fun _ => hr) (fun e => by rw [hp] at e; cases e), fun hp => key false (fun e => by rw [hp] at e; cases e) (fun _ => rfl)⟩
theorem spec_validLattice_ev (up : List Int) (hl : up.length ≤ 17592186044416) : Ev (fun k => spec_validLattice.f k up) (latB up) := by
  unfold spec_validLattice.f
  refine Ev.bind (spec_validOrder_ev up hl) ?_
  unfold latB
  cases hb : (decide (1 ≤ up.length ∧ up.length ≤ 6) && okB up && ordB up) with
  | false => exact Ev.neg (by decide) (Ev.some _)
  | true =>
    refine Ev.pos rfl ?_
    rw [Bool.true_and]
    rw [Bool.and_eq_true, Bool.and_eq_true, decide_eq_true_eq] at hb
    obtain ⟨⟨hn, ho⟩, _⟩ := hb
    have h : OkR up := (okB_iff hn.2).1 ho
    refine both_loop h (fun _ _ => none) (fun k i => spec_validLattice.l0 k up i) (fun k x i => spec_validLattice.l1 k up x i) _ ?_ ?_ ?_ ?_ (fun e => e)
    · intro x hx r hr
      refine Ev.step (fun k => by simp only [spec_validLattice.l0]; exact rfl) ?_
      exact Ev.pos (by omega) hr
    · intro x hx y hy r h1 h2
      refine Ev.step (fun k => by simp only [spec_validLattice.l1]; exact rfl) ?_
      refine Ev.pos (by omega) (Ev.bind (spec_meet_ev h hx hy) ?_)
      refine Ev.ite' (fun c => ?_) (fun c => ?_)
      · rw [h2 (by omega)]; exact Ev.some _
      · refine Ev.bind (spec_join_ev h hx hy) ?_
        refine Ev.ite' (fun c2 => ?_) (fun c2 => ?_)
        · rw [h2 (by omega)]; exact Ev.some _
        · rw [w64s hy (by omega)]
          exact h1 (by omega)
    · intro x hx r hr
      refine Ev.step (fun k => by simp only [spec_validLattice.l1]; exact rfl) ?_
      refine Ev.neg (by omega) ?_
      rw [w64s hx (by omega)]
      exact hr
    · intro e
      refine Ev.step (fun k => by simp only [spec_validLattice.l0]; exact rfl) ?_
      rw [e]
      exact Ev.neg (by omega) (Ev.some _)
theorem spec_ValidLattice_ev (up : List Int) (hl : up.length ≤ 17592186044416) : Ev (fun k => spec_ValidLattice.f k up) (latB up) := by
  unfold spec_ValidLattice.f
  exact Ev.bind (spec_validLattice_ev up hl) (Ev.some _)

/-- What the program's below answers, whatever the number is. -/
def belI (up : List Int) (x y : Nat) : Bool := Int.tmod (shr .i64 (rd up (x : Int)) (y : Int)) 2 == 1
theorem impl_below_any {up : List Int} {x y : Nat} (hx : x < up.length) : impl_below.f up (x : Int) (y : Int) = some (belI up x y) := by
  unfold impl_below.f
  rw [if_pos (by omega), if_pos (by omega), if_pos (by omega)]
  rfl
theorem belI_le {up : List Int} (h : OkR up) {x y : Nat} (hx : x < up.length) : belI up x y = le up x y := by
  have h1 := impl_below_any (y := y) hx
  rw [impl_below_eq h hx] at h1
  exact (Option.some.inj h1).symm
def p1 (up : List Int) (x : Nat) : Bool := decide (0 ≤ rd up (x : Int) ∧ rd up (x : Int) ≤ ((2 ^ up.length : Nat) : Int) - 1) && (belI up x x && belI up x (up.length - 1) && belI up 0 x) &&
  allN up.length fun y => !(belI up x y) || ((decide (y = x) || !(belI up y x)) && decide (bits .andNot .i64 (rd up (y : Int)) (rd up (x : Int)) = 0))
theorem p1_all {up : List Int} (h1 : 1 ≤ up.length) (h6 : up.length ≤ 6) : allN up.length (p1 up) = (okB up && ordB up) := by
  rw [Bool.eq_iff_iff, Bool.and_eq_true]
  have ok_of : (∀ x, x < up.length → p1 up x = true) → OkR up := by
    intro hp
    refine (okB_iff h6).1 ?_
    rw [okB, List.all_eq_true]
    intro x hx
    have := hp x (List.mem_range.1 hx)
    rw [p1, Bool.and_eq_true, Bool.and_eq_true] at this
    exact this.1.1
  have sub : OkR up → ∀ x y, x < up.length → y < up.length → (bits .andNot .i64 (rd up (y : Int)) (rd up (x : Int)) = 0 ↔ ∀ z, z < up.length → le up y z = true → le up x z = true) := by
    intro h x y hx hy
    obtain ⟨hx0, hx1⟩ := h.lt hx
    obtain ⟨hy0, hy1⟩ := h.lt hy
    have e := andNot0 (rd up (y : Int)).toNat (rd up (x : Int)).toNat (by omega) (by omega)
    rw [Int.toNat_of_nonneg hx0, Int.toNat_of_nonneg hy0] at e
    rw [e]
    exact ⟨fun k z _ hz => k z hz, fun k z hz => k z (h.big hy hz) hz⟩
  constructor
  · intro hp
    rw [allN_iff] at hp
    have h := ok_of hp
    refine ⟨(okB_iff h6).2 h, ?_⟩
    rw [ordB, allN_iff]
    intro x hx
    have hx' := hp x hx
    rw [p1, Bool.and_eq_true, Bool.and_eq_true, Bool.and_eq_true, Bool.and_eq_true, belI_le h hx, belI_le h hx, belI_le (x := 0) h (by omega), allN_iff] at hx'
    obtain ⟨⟨_, ⟨⟨e1, e2⟩, e3⟩⟩, e4⟩ := hx'
    rw [Bool.and_eq_true, e1, e2, e3, allN_iff]
    refine ⟨rfl, fun y hy => ?_⟩
    have e5 := e4 y hy
    rw [belI_le h hx, belI_le h hy, Bool.or_eq_true, Bool.and_eq_true, Bool.or_eq_true, decide_eq_true_eq, decide_eq_true_eq, sub h x y hx hy] at e5
    rw [Bool.and_eq_true, allN_iff]
    cases hA : le up x y with
    | false => exact ⟨by simp, fun z hz => by simp⟩
    | true =>
      rw [hA] at e5
      rcases e5 with e5 | ⟨e5, e6⟩
      · cases e5
      · refine ⟨?_, fun z hz => ?_⟩
        · rcases e5 with e5 | e5
          · simp [e5]
          · have : le up y x = false := by simpa using e5
            simp [this]
        · cases hB : le up y z with
          | false => simp
          | true => simp [e6 z hz hB]
  · rintro ⟨ho, hord⟩
    have h := (okB_iff h6).1 ho
    rw [allN_iff]
    intro x hx
    rw [okB, List.all_eq_true] at ho
    rw [ordB, allN_iff] at hord
    have hx' := hord x hx
    rw [Bool.and_eq_true, Bool.and_eq_true, Bool.and_eq_true, allN_iff] at hx'
    obtain ⟨⟨⟨e1, e2⟩, e3⟩, e4⟩ := hx'
    rw [p1, Bool.and_eq_true, Bool.and_eq_true, ho x (List.mem_range.2 hx), belI_le h hx, belI_le h hx, belI_le (x := 0) h (by omega), e1, e2, e3, allN_iff]
    refine ⟨⟨rfl, rfl⟩, fun y hy => ?_⟩
    have e5 := e4 y hy
    rw [Bool.and_eq_true, allN_iff] at e5
    obtain ⟨e5, e6⟩ := e5
    rw [belI_le h hx, belI_le h hy]
    cases hA : le up x y with
    | false => rfl
    | true =>
      rw [Bool.or_eq_true, Bool.and_eq_true, Bool.or_eq_true, decide_eq_true_eq, decide_eq_true_eq, sub h x y hx hy]
      refine Or.inr ⟨?_, fun z hz hB => ?_⟩
      · by_cases c : y = x
        · exact Or.inl c
        · have c' : ¬ x = y := fun e => c e.symm
          simp [hA, c'] at e5
          exact Or.inr (by simp [e5])
      · have := e6 z hz
        simpa [hA, hB] using this
theorem impl_ValidLattice_ev (up : List Int) (hl : up.length ≤ 17592186044416) : Ev (fun k => impl_ValidLattice.f k up) (latB up) := by
  unfold impl_ValidLattice.f
  refine Ev.bindc (within_eq' _ _ _) ?_
  unfold latB
  by_cases hn : 1 ≤ up.length ∧ up.length ≤ 6
  case neg =>
    rw [show decide ((1 : Int) ≤ (up.length : Int) ∧ (up.length : Int) ≤ 6) = false from decide_eq_false (by omega), show decide (1 ≤ up.length ∧ up.length ≤ 6) = false from decide_eq_false hn]
    exact Ev.neg (by decide) (Ev.some _)
  obtain ⟨h1, h6⟩ := hn
  rw [show decide ((1 : Int) ≤ (up.length : Int) ∧ (up.length : Int) ≤ 6) = true from decide_eq_true (by omega), show decide (1 ≤ up.length ∧ up.length ≤ 6) = true from decide_eq_true ⟨h1, h6⟩, Bool.true_and, ← p1_all h1 h6]
  refine Ev.pos rfl ?_
  have h64 : 2 ^ up.length ≤ 2 ^ 6 := Nat.pow_le_pow_right (by decide) h6
  have h0 : 0 < 2 ^ up.length := Nat.two_pow_pos _
  refine ev_no (fun k i => impl_ValidLattice.l0 k up (up.length : Int) up (up.length : Int) i) up.length (p1 up) _ ?_ ?_ (fun e => by rw [show allN up.length (p1 up) = false from e]; rfl)
  · intro x hx
    have ey : ∀ y : Nat, ((y : Int) = (x : Int)) ↔ y = x := fun y => by omega
    have inner : ∀ r, ((allN up.length fun y => !(belI up x y) || ((decide (y = x) || !(belI up y x)) && decide (bits .andNot .i64 (rd up (y : Int)) (rd up (x : Int)) = 0))) = true → Ev (fun k => impl_ValidLattice.l0 k up (up.length : Int) up (up.length : Int) ((x + 1 : Nat) : Int)) r) →
        ((allN up.length fun y => !(belI up x y) || ((decide (y = x) || !(belI up y x)) && decide (bits .andNot .i64 (rd up (y : Int)) (rd up (x : Int)) = 0))) = false → r = false) →
        Ev (fun k => impl_ValidLattice.l1 k up (up.length : Int) (x : Int) (rd up (x : Int)) up (up.length : Int) (x : Int) (up.length : Int) 0) r := by
      intro r k1 k2
      refine ev_no (fun k i => impl_ValidLattice.l1 k up (up.length : Int) (x : Int) (rd up (x : Int)) up (up.length : Int) (x : Int) (up.length : Int) i) up.length _ _ ?_ (fun e => ?_) k2
      · intro y hy
        have key : ∀ r, ((!(belI up x y) || ((decide (y = x) || !(belI up y x)) && decide (bits .andNot .i64 (rd up (y : Int)) (rd up (x : Int)) = 0))) = true → Ev (fun k => impl_ValidLattice.l1 k up (up.length : Int) (x : Int) (rd up (x : Int)) up (up.length : Int) (x : Int) (up.length : Int) ((y + 1 : Nat) : Int)) r) →
            ((!(belI up x y) || ((decide (y = x) || !(belI up y x)) && decide (bits .andNot .i64 (rd up (y : Int)) (rd up (x : Int)) = 0))) = false → r = false) →
            Ev (fun k => impl_ValidLattice.l1 k up (up.length : Int) (x : Int) (rd up (x : Int)) up (up.length : Int) (x : Int) (up.length : Int) (y : Int)) r := by
          intro r q1 q2
          refine Ev.step (fun k => by simp only [impl_ValidLattice.l1]; exact rfl) ?_
          refine Ev.pos (by omega) (Ev.bindc (impl_below_any hx) ?_)
          rw [w64s hy (by omega)]
          cases hA : belI up x y with
          | false => exact Ev.neg (by decide) (q1 (by rw [hA]; rfl))
          | true =>
            rw [hA] at q1 q2
            refine Ev.pos rfl ?_
            by_cases c : y = x
            · subst c
              refine Ev.pos rfl (Ev.pos (by omega) (Ev.pos (by omega) ?_))
              refine Ev.ite' (fun c2 => q1 (by simp [c2])) (fun c2 => ?_)
              rw [q2 (by simp [c2])]
              exact Ev.some _
            · refine Ev.neg (fun e => c ((ey y).1 e)) (Ev.bindc (impl_below_any hy) ?_)
              cases hB : belI up y x with
              | true =>
                refine Ev.pos rfl ?_
                rw [q2 (by simp [c, hB])]
                exact Ev.some _
              | false =>
                refine Ev.neg (by decide) (Ev.pos (by omega) (Ev.pos (by omega) ?_))
                refine Ev.ite' (fun c2 => q1 (by simp [hB, c2])) (fun c2 => ?_)
                rw [q2 (by simp [c2])]
                exact Ev.some _
        exact ⟨fun hp r hr => key r (fun _ => hr) (fun e => by rw [hp] at e; cases e), fun hp => key false (fun e => by rw [hp] at e; cases e) (fun _ => rfl)⟩
      · refine Ev.step (fun k => by simp only [impl_ValidLattice.l1]; exact rfl) ?_
        refine Ev.neg (by omega) ?_
        rw [w64s hx (by omega)]
        exact k1 e
    have hj : Ev (fun k => impl_ValidLattice.j1 k up (up.length : Int) (x : Int) (rd up (x : Int)) up (up.length : Int) (x : Int) true) false := by
      refine Ev.step (fun k => by simp only [impl_ValidLattice.j1]; exact rfl) ?_
      exact Ev.pos (by first | rfl | trivial) (Ev.some _)
    have e1 : wrap64 (shl .i64 1 (up.length : Int) - 1) = ((2 ^ up.length : Nat) : Int) - 1 := by
      rw [shl1 up.length (by omega), w64 (by omega) (by omega)]
    have e2 : wrap64 ((up.length : Int) - 1) = ((up.length - 1 : Nat) : Int) := by rw [w64 (by omega) (by omega)]; omega
    have key : ∀ r, (p1 up x = true → Ev (fun k => impl_ValidLattice.l0 k up (up.length : Int) up (up.length : Int) ((x + 1 : Nat) : Int)) r) → (p1 up x = false → r = false) → Ev (fun k => impl_ValidLattice.l0 k up (up.length : Int) up (up.length : Int) (x : Int)) r := by
      intro r k1 k2
      refine Ev.step (fun k => by simp only [impl_ValidLattice.l0]; exact rfl) ?_
      refine Ev.pos (by omega) (Ev.pos (by omega) (Ev.pos (by omega) (Ev.pos (by omega) ?_)))
      rw [e1, e2]
      refine Ev.bindc (within_eq' _ _ _) ?_
      unfold p1 at k1 k2
      cases hr : decide (0 ≤ rd up (x : Int) ∧ rd up (x : Int) ≤ ((2 ^ up.length : Nat) : Int) - 1) with
      | false =>
        refine Ev.neg (by decide) ?_
        rw [k2 (by rw [hr]; rfl)]
        exact hj
      | true =>
        rw [hr] at k1 k2
        refine Ev.pos rfl (Ev.bindc (impl_below_any hx) ?_)
        cases hA : belI up x x with
        | false =>
          refine Ev.neg (by decide) ?_
          rw [k2 (by rw [hA]; rfl)]
          exact hj
        | true =>
          rw [hA] at k1 k2
          refine Ev.pos rfl (Ev.bindc (impl_below_any hx) ?_)
          cases hB : belI up x (up.length - 1) with
          | false =>
            refine Ev.neg (by decide) ?_
            rw [k2 (by rw [hB]; rfl)]
            exact hj
          | true =>
            rw [hB] at k1 k2
            refine Ev.pos rfl (Ev.bindc (impl_below_any (x := 0) (by omega)) ?_)
            cases hC : belI up 0 x with
            | false =>
              rw [k2 (by rw [hC]; rfl)]
              exact hj
            | true =>
              rw [hC] at k1 k2
              refine Ev.step (fun k => by simp only [impl_ValidLattice.j1]; exact rfl) ?_
              exact Ev.neg (by decide) (inner r (fun e => k1 (by rw [e]; rfl)) (fun e => k2 (by rw [e]; rfl)))
    exact ⟨fun hp r hr => key r (fun _ => hr) (fun e => by rw [hp] at e; cases e), fun hp => key false (fun e => by rw [hp] at e; cases e) (fun _ => rfl)⟩
  · intro e
    have e' : allN up.length (p1 up) = true := e
    rw [e', Bool.true_and]
    rw [p1_all h1 h6, Bool.and_eq_true] at e'
    have h : OkR up := (okB_iff h6).1 e'.1
    refine Ev.step (fun k => by simp only [impl_ValidLattice.l0]; exact rfl) ?_
    refine Ev.neg (by omega) ?_
    refine both_loop h (fun _ _ => none) (fun k i => impl_ValidLattice.l2 k up (up.length : Int) i) (fun k x i => impl_ValidLattice.l3 k up x (up.length : Int) x (up.length : Int) i) _ ?_ ?_ ?_ ?_ (fun e => e)
    · intro x hx r hr
      refine Ev.step (fun k => by simp only [impl_ValidLattice.l2]; exact rfl) ?_
      exact Ev.pos (by omega) hr
    · intro x hx y hy r h1 h2
      refine Ev.step (fun k => by simp only [impl_ValidLattice.l3]; exact rfl) ?_
      refine Ev.pos (by omega) (Ev.bind (impl_meet_ev h hx hy) ?_)
      refine Ev.ite' (fun c => ?_) (fun c => ?_)
      · rw [h2 (by omega)]; exact Ev.some _
      · refine Ev.bind (impl_join_ev h hx hy) ?_
        refine Ev.ite' (fun c2 => ?_) (fun c2 => ?_)
        · rw [h2 (by omega)]; exact Ev.some _
        · rw [w64s hy (by omega)]
          exact h1 (by omega)
    · intro x hx r hr
      refine Ev.step (fun k => by simp only [impl_ValidLattice.l3]; exact rfl) ?_
      refine Ev.neg (by omega) ?_
      rw [w64s hx (by omega)]
      exact hr
    · intro e
      refine Ev.step (fun k => by simp only [impl_ValidLattice.l2]; exact rfl) ?_
      rw [e]
      exact Ev.neg (by omega) (Ev.some _)
end Go.Proofs.Ytmfpaagjllaljaa.M
