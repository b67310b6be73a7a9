/- Numbers by their bits; a lattice upside down: the program and the reference make the same list. -/
import Derived.Test.YtmfpaagjllaljaaP23
import Derived.Test.YtmfpaagjllaljaaP37
import Derived.Test.YtmfpaagjllaljaaP36
import Derived.Test.YtmfpaagjllaljaaMB
namespace Go.Proofs.Ytmfpaagjllaljaa.M
set_option linter.unusedVariables false
open Go.RowKit Go.Proofs.YtmfpaagjllaljaaW.PrintWords Go.Proofs.YtmfpaagjllaljaaW.PrintLast Go.Proofs.YtmfpaagjllaljaaW.PrintMore Go.Proofs.Ytmfpaagjllaljaa.P

/-- A number by its bits: those i < n of which p holds. -/
def maskN (p : Nat → Bool) : Nat → Nat
  | 0 => 0
  | n + 1 => maskN p n + (if p n then 2 ^ n else 0)
theorem maskN_lt (p : Nat → Bool) (n : Nat) : maskN p n < 2 ^ n := by
  induction n with
  | zero => simp [maskN]
  | succ n ih =>
    unfold maskN
    rw [Nat.pow_succ]
    split <;> omega
theorem or_pow (a n : Nat) (h : a < 2 ^ n) : a ||| 2 ^ n = a + 2 ^ n := by
  have := Nat.two_pow_add_eq_or_of_lt h 1
  rw [Nat.mul_one] at this
  rw [Nat.or_comm, ← this, Nat.add_comm]
theorem maskN_testBit (p : Nat → Bool) (n : Nat) : ∀ i, (maskN p n).testBit i = (decide (i < n) && p i) := by
  induction n with
  | zero => intro i; simp [maskN]
  | succ n ih =>
    intro i
    have hlt := maskN_lt p n
    unfold maskN
    cases hp : p n with
    | false =>
      simp only [Bool.false_eq_true, if_false, Nat.add_zero]
      rw [ih i]
      by_cases e : i = n
      · subst e; simp [hp]
      · have : decide (i < n + 1) = decide (i < n) := by rw [decide_eq_decide]; omega
        rw [this]
    | true =>
      simp only [if_true]
      rw [← or_pow _ n hlt, Nat.testBit_or, ih i, Nat.testBit_two_pow]
      by_cases e : i = n
      · subst e; simp [hp]
      · have h1 : decide (i < n + 1) = decide (i < n) := by rw [decide_eq_decide]; omega
        have h2 : decide (n = i) = false := decide_eq_false (fun h => e h.symm)
        rw [h1, h2, Bool.or_false]
theorem maskN_congr {p q : Nat → Bool} {n : Nat} (h : ∀ i, i < n → p i = q i) : maskN p n = maskN q n := by
  induction n with
  | zero => rfl
  | succ n ih =>
    unfold maskN
    rw [ih (fun i hi => h i (by omega)), h n (by omega)]
theorem maskN_none {p : Nat → Bool} {n : Nat} (h : ∀ i, i < n → p i = false) : maskN p n = 0 := by
  induction n with
  | zero => rfl
  | succ n ih =>
    unfold maskN
    rw [ih (fun i hi => h i (by omega)), h n (by omega)]
    rfl
/-- One bit more. -/
theorem maskN_set {p q : Nat → Bool} {n b : Nat} (hb : b < n) (hp : p b = false) (hq : ∀ i, i < n → q i = (p i || decide (i = b))) : maskN q n = maskN p n + 2 ^ b := by
  induction n with
  | zero => omega
  | succ n ih =>
    unfold maskN
    by_cases e : b = n
    · subst e
      rw [maskN_congr (q := p) (fun i hi => by rw [hq i (by omega), decide_eq_false (by omega), Bool.or_false]), hq b (by omega), hp]
      simp
    · rw [ih (by omega) (fun i hi => hq i (by omega)), hq n (by omega), decide_eq_false (fun h => e h.symm), Bool.or_false]
      omega
theorem maskN_or {p q : Nat → Bool} {n b : Nat} (hb : b < n) (hq : ∀ i, i < n → q i = (p i || decide (i = b))) : maskN q n = maskN p n ||| 2 ^ b := by
  apply Nat.eq_of_testBit_eq
  intro i
  rw [Nat.testBit_or, maskN_testBit, maskN_testBit, Nat.testBit_two_pow]
  by_cases hi : i < n
  · rw [decide_eq_true hi, Bool.true_and, Bool.true_and, hq i hi]
    congr 1
    rw [decide_eq_decide]
    omega
  · rw [decide_eq_false hi, Bool.false_and, Bool.false_and, decide_eq_false (by omega)]
    rfl
/-- The lattice upside down. -/
def turnedN (up : List Int) : List Int := (List.range up.length).map fun j => ((maskN (fun b => le up (up.length - 1 - b) (up.length - 1 - j)) up.length : Nat) : Int)
def TurnedLatticeM (up : List Int) : List Int := if latB up = true then turnedN up else []
theorem TurnedLatticeM_len (up : List Int) : (TurnedLatticeM up).length ≤ 6 := by
  unfold TurnedLatticeM
  split
  · rename_i h; simpa [turnedN] using (latB_ok h).1.1
  · simp
/-- What has been asked: all elements ahead of x, and x with the elements ahead of y. -/
def askT (up : List Int) (x y j b : Nat) : Bool := (decide (up.length - 1 - b < x) || (decide (up.length - 1 - b = x) && decide (up.length - 1 - j < y))) && le up (up.length - 1 - b) (up.length - 1 - j)
def rowsT (up : List Int) (x y : Nat) (s : List Int) : Prop := s.length = up.length ∧ ∀ j, j < up.length → s[j]? = some ((maskN (askT up x y j) up.length : Nat) : Int)
theorem rowsT_next {up : List Int} {x : Nat} {s : List Int} (hx : x < up.length) (h : rowsT up x up.length s) : rowsT up (x + 1) 0 s := by
  refine ⟨h.1, fun j hj => ?_⟩
  rw [h.2 j hj]
  congr 2
  apply maskN_congr
  intro b hb
  unfold askT
  congr 1
  rw [decide_eq_true (p := up.length - 1 - j < up.length) (by omega), Bool.and_true, decide_eq_false (p := up.length - 1 - j < 0) (by omega), Bool.and_false, Bool.or_false, Bool.eq_iff_iff, Bool.or_eq_true, decide_eq_true_eq, decide_eq_true_eq, decide_eq_true_eq]
  omega
theorem rowsT_skip {up : List Int} {x y : Nat} {s : List Int} (hx : x < up.length) (hy : y < up.length) (h : rowsT up x y s) (hn : le up x y = false) : rowsT up x (y + 1) s := by
  refine ⟨h.1, fun j hj => ?_⟩
  rw [h.2 j hj]
  congr 2
  apply maskN_congr
  intro b hb
  unfold askT
  by_cases e : up.length - 1 - b = x ∧ up.length - 1 - j = y
  · rw [e.1, e.2, hn, Bool.and_false, Bool.and_false]
  · congr 2
    by_cases e1 : up.length - 1 - b = x
    · rw [decide_eq_true e1, Bool.true_and, Bool.true_and, decide_eq_decide]
      omega
    · rw [decide_eq_false e1, Bool.false_and, Bool.false_and]
theorem askT_one {up : List Int} {x y : Nat} (hx : x < up.length) (hy : y < up.length) (hn : le up x y = true) : askT up x y (up.length - 1 - y) (up.length - 1 - x) = false ∧ ∀ b, b < up.length → askT up x (y + 1) (up.length - 1 - y) b = (askT up x y (up.length - 1 - y) b || decide (b = up.length - 1 - x)) := by
  have e1 : up.length - 1 - (up.length - 1 - x) = x := by omega
  have e2 : up.length - 1 - (up.length - 1 - y) = y := by omega
  constructor
  · unfold askT
    rw [e1, e2, decide_eq_false (p := x < x) (by omega), decide_eq_false (p := y < y) (by omega), Bool.and_false, Bool.or_false, Bool.false_and]
  · intro b hb
    unfold askT
    rw [e2, decide_eq_true (p := y < y + 1) (by omega), decide_eq_false (p := y < y) (by omega), Bool.and_true, Bool.and_false, Bool.or_false]
    by_cases e : b = up.length - 1 - x
    · subst e
      rw [e1, hn, decide_eq_true (p := x = x) rfl, Bool.or_true, decide_eq_true (p := up.length - 1 - x = up.length - 1 - x) rfl, Bool.or_true]
      rfl
    · rw [decide_eq_false (p := up.length - 1 - b = x) (by omega), decide_eq_false e, Bool.or_false, Bool.or_false]
theorem rowsT_put {up : List Int} {x y : Nat} {s : List Int} (hx : x < up.length) (hy : y < up.length) (h : rowsT up x y s) (hn : le up x y = true) {v : Int} (hv : v = ((maskN (askT up x y (up.length - 1 - y)) up.length + 2 ^ (up.length - 1 - x) : Nat) : Int)) : rowsT up x (y + 1) (s.set (up.length - 1 - y) v) := by
  obtain ⟨f1, f2⟩ := askT_one hx hy hn
  refine ⟨by rw [List.length_set]; exact h.1, fun j hj => ?_⟩
  by_cases e : j = up.length - 1 - y
  · subst e
    rw [List.getElem?_set_self (by rw [h.1]; omega), hv, maskN_set (by omega) f1 f2]
  · rw [List.getElem?_set_ne (fun e' => e e'.symm), h.2 j hj]
    congr 2
    apply maskN_congr
    intro b hb
    unfold askT
    congr 3
    rw [decide_eq_decide]
    omega
theorem rowsT_rd {up : List Int} {x y : Nat} {s : List Int} (h : rowsT up x y s) {j : Nat} (hj : j < up.length) : rd s (j : Int) = ((maskN (askT up x y j) up.length : Nat) : Int) := by
  have := h.2 j hj
  rw [List.getElem?_eq_getElem (by rw [h.1]; exact hj)] at this
  rw [rd_lt (by rw [h.1]; exact hj)]
  exact Option.some.inj this
theorem rowsT_start (up : List Int) : rowsT up 0 0 (List.replicate up.length 0) := by
  refine ⟨by simp, fun j hj => ?_⟩
  rw [List.getElem?_replicate, if_pos hj]
  congr 1
  rw [maskN_none]
  · rfl
  · intro b hb
    unfold askT
    rw [decide_eq_false (p := up.length - 1 - b < 0) (by omega), decide_eq_false (p := up.length - 1 - j < 0) (by omega), Bool.and_false, Bool.or_false, Bool.false_and]
theorem rowsT_end {up : List Int} {s : List Int} (h : rowsT up up.length 0 s) : s = turnedN up := by
  apply List.ext_getElem?
  intro j
  by_cases hj : j < up.length
  · rw [h.2 j hj]
    simp only [turnedN, List.getElem?_map, List.getElem?_range hj, Option.map_some]
    congr 2
    apply maskN_congr
    intro b hb
    unfold askT
    rw [decide_eq_true (p := up.length - 1 - b < up.length) (by omega), Bool.true_or, Bool.true_and]
  · rw [List.getElem?_eq_none (by rw [h.1]; omega), List.getElem?_eq_none (by simp [turnedN]; omega)]
theorem spec_turned_ev {up : List Int} (hb : latB up = true) : Ev (fun k => spec_turned.f k up) (turnedN up) := by
  obtain ⟨h, h1⟩ := latB_ok hb
  have h6 := h.1
  unfold spec_turned.f
  refine Ev.pos (by omega) (Ev.pos (by omega) ?_)
  rw [Int.toNat_natCast]
  refine ev_inv2 (fun k (s : List Int) i => spec_turned.l0 k up (up.length : Int) s i) up.length (fun x s => rowsT up x 0 s) _ ?_ ?_ up.length 0 _ (by omega) (rowsT_start up)
  · intro x hx s hs k1
    refine Ev.step (fun k => by simp only [spec_turned.l0]; exact rfl) ?_
    refine Ev.pos (by omega) ?_
    refine ev_inv2 (fun k (s : List Int) i => spec_turned.l1 k up (up.length : Int) s (x : Int) i) up.length (fun y s => rowsT up x y s) _ ?_ ?_ up.length 0 _ (by omega) hs
    · intro y hy s hs k2
      refine Ev.step (fun k => by simp only [spec_turned.l1]; exact rfl) ?_
      refine Ev.pos (by omega) (Ev.bind (spec_below_ev h hx (by omega)) ?_)
      rw [w64s hy (by omega)]
      cases hA : le up x y with
      | false => exact Ev.neg (by decide) (k2 s (rowsT_skip hx hy hs hA))
      | true =>
        refine Ev.pos rfl ?_
        rw [w64 (x := (up.length : Int) - 1) (by omega) (by omega), w64 (x := (up.length : Int) - 1 - (y : Int)) (by omega) (by omega), w64 (x := (up.length : Int) - 1 - (x : Int)) (by omega) (by omega),
          show (up.length : Int) - 1 - (y : Int) = ((up.length - 1 - y : Nat) : Int) by omega, show (up.length : Int) - 1 - (x : Int) = ((up.length - 1 - x : Nat) : Int) by omega]
        refine Ev.pos (by omega) (Ev.pos (by rw [hs.1]; omega) (Ev.bind (power_ev _ (by omega)) ?_))
        rw [Int.toNat_natCast, rowsT_rd hs (by omega)]
        have m1 := maskN_lt (askT up x y (up.length - 1 - y)) up.length
        have m2 : 2 ^ up.length ≤ 2 ^ 6 := Nat.pow_le_pow_right (by decide) h6
        have m3 : 2 ^ (up.length - 1 - x) ≤ 2 ^ 6 := Nat.pow_le_pow_right (by decide) (by omega)
        have m4 : 0 < 2 ^ (up.length - 1 - x) := Nat.two_pow_pos _
        rw [w64 (by omega) (by omega)]
        exact k2 _ (rowsT_put hx hy hs hA (by omega))
    · intro s hs
      refine Ev.step (fun k => by simp only [spec_turned.l1]; exact rfl) ?_
      refine Ev.neg (by omega) ?_
      rw [w64s hx (by omega)]
      exact k1 s (rowsT_next hx hs)
  · intro s hs
    refine Ev.step (fun k => by simp only [spec_turned.l0]; exact rfl) ?_
    rw [rowsT_end hs]
    exact Ev.neg (by omega) (Ev.some _)
theorem spec_TurnedLattice_ev (up : List Int) (hl : up.length ≤ 17592186044416) : Ev (fun k => spec_TurnedLattice.f k up) (TurnedLatticeM up) := by
  unfold spec_TurnedLattice.f TurnedLatticeM
  refine Ev.bind (spec_validLattice_ev up hl) ?_
  cases hb : latB up with
  | false => exact Ev.neg (by decide) (Ev.some _)
  | true =>
    rw [if_pos rfl]
    exact Ev.pos rfl (Ev.bind (spec_turned_ev hb) (Ev.some _))
theorem impl_TurnedLattice_ev (up : List Int) (hl : up.length ≤ 17592186044416) : Ev (fun k => impl_TurnedLattice.f k up) (TurnedLatticeM up) := by
  unfold impl_TurnedLattice.f TurnedLatticeM
  refine Ev.bind (impl_ValidLattice_ev up hl) ?_
  cases hb : latB up with
  | false => exact Ev.neg (by decide) (Ev.some _)
  | true =>
    obtain ⟨h, h1⟩ := latB_ok hb
    have h6 := h.1
    rw [if_pos rfl]
    refine Ev.pos rfl (Ev.pos (by omega) (Ev.pos (by omega) ?_))
    rw [Int.toNat_natCast, w64 (x := (up.length : Int) - 1) (by omega) (by omega)]
    refine ev_inv2 (fun k (s : List Int) i => impl_TurnedLattice.l0 k up ((up.length : Int) - 1) s (up.length : Int) i) up.length (fun x s => rowsT up x 0 s) _ ?_ ?_ up.length 0 _ (by omega) (rowsT_start up)
    · intro x hx s hs k1
      refine Ev.step (fun k => by simp only [impl_TurnedLattice.l0]; exact rfl) ?_
      refine Ev.pos (by omega) ?_
      refine ev_inv2 (fun k (s : List Int) i => impl_TurnedLattice.l1 k up ((up.length : Int) - 1) s (x : Int) (up.length : Int) (x : Int) (up.length : Int) i) up.length (fun y s => rowsT up x y s) _ ?_ ?_ up.length 0 _ (by omega) hs
      · intro y hy s hs k2
        refine Ev.step (fun k => by simp only [impl_TurnedLattice.l1]; exact rfl) ?_
        refine Ev.pos (by omega) (Ev.bindc (impl_below_eq h hx) ?_)
        rw [w64s hy (by omega)]
        cases hA : le up x y with
        | false => exact Ev.neg (by decide) (k2 s (rowsT_skip hx hy hs hA))
        | true =>
          refine Ev.pos rfl ?_
          rw [w64 (x := (up.length : Int) - 1 - (y : Int)) (by omega) (by omega), w64 (x := (up.length : Int) - 1 - (x : Int)) (by omega) (by omega),
            show (up.length : Int) - 1 - (y : Int) = ((up.length - 1 - y : Nat) : Int) by omega, show (up.length : Int) - 1 - (x : Int) = ((up.length - 1 - x : Nat) : Int) by omega]
          refine Ev.pos (by omega) (Ev.pos (by rw [hs.1]; omega) (Ev.pos (by omega) ?_))
          rw [Int.toNat_natCast, rowsT_rd hs (by omega), shl1 _ (by omega)]
          have m1 := maskN_lt (askT up x y (up.length - 1 - y)) up.length
          have m2 : 2 ^ up.length ≤ 2 ^ 6 := Nat.pow_le_pow_right (by decide) h6
          have m3 : 2 ^ (up.length - 1 - x) ≤ 2 ^ 6 := Nat.pow_le_pow_right (by decide) (by omega)
          obtain ⟨f1, f2⟩ := askT_one hx hy hA
          rw [bitsOr _ _ (by omega) (by omega), ← maskN_or (by omega) f2, maskN_set (by omega) f1 f2]
          exact k2 _ (rowsT_put hx hy hs hA rfl)
      · intro s hs
        refine Ev.step (fun k => by simp only [impl_TurnedLattice.l1]; exact rfl) ?_
        refine Ev.neg (by omega) ?_
        rw [w64s hx (by omega)]
        exact k1 s (rowsT_next hx hs)
    · intro s hs
      refine Ev.step (fun k => by simp only [impl_TurnedLattice.l0]; exact rfl) ?_
      rw [rowsT_end hs]
      exact Ev.neg (by omega) (Ev.some _)
end Go.Proofs.Ytmfpaagjllaljaa.M
