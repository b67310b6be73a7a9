/- Meets and joins of a lattice are elements. -/
import Derived.Test.YtomapoenndlbiaaMElem0
namespace Go.Proofs.Ytomapoenndlbiaa.M
set_option linter.unusedVariables false
open Go.RowKit Go.Proofs.YtomapoenndlbiaaW.PrintWords Go.Proofs.YtomapoenndlbiaaW.PrintLast Go.Proofs.YtomapoenndlbiaaW.PrintMore Go.Proofs.Ytomapoenndlbiaa.P

theorem find_spec (n : Nat) (p : Nat → Bool) : ∀ d i, i + d = n →
    (∃ z, i ≤ z ∧ z < n ∧ p z = true ∧ runL (fun z => if p z then some (z : Int) else none) (-1) d i = (z : Int) ∧ ∀ w, i ≤ w → w < z → p w = false) ∨
    (runL (fun z => if p z then some (z : Int) else none) (-1) d i = -1 ∧ ∀ z, i ≤ z → z < n → p z = false) := by
  intro d
  induction d with
  | zero => intro i hi; right; exact ⟨rfl, fun z h1 h2 => by omega⟩
  | succ d ih =>
    intro i hi
    unfold runL
    cases hp : p i with
    | true => left; exact ⟨i, Nat.le_refl _, by omega, hp, by simp, fun w h1 h2 => by omega⟩
    | false =>
      simp only [Bool.false_eq_true, if_false]
      rcases ih (i + 1) (by omega) with ⟨z, h1, h2, h3, h4, h5⟩ | ⟨h1, h2⟩
      · left
        refine ⟨z, by omega, h2, h3, h4, fun w hw hz => ?_⟩
        by_cases e : w = i
        · subst e; exact hp
        · exact h5 w (by omega) hz
      · right
        refine ⟨h1, fun z hz hn => ?_⟩
        by_cases e : z = i
        · subst e; exact hp
        · exact h2 z (by omega) hn
theorem firstN_spec (n : Nat) (p : Nat → Bool) : (∃ z, z < n ∧ p z = true ∧ firstN n p = (z : Int) ∧ ∀ w, w < z → p w = false) ∨ (firstN n p = -1 ∧ ∀ z, z < n → p z = false) := by
  rcases find_spec n p n 0 (by omega) with ⟨z, _, h2, h3, h4, h5⟩ | ⟨h1, h2⟩
  · exact Or.inl ⟨z, h2, h3, h4, fun w hw => h5 w (Nat.zero_le _) hw⟩
  · exact Or.inr ⟨h1, fun z hz => h2 z (Nat.zero_le _) hz⟩
theorem firstN_pos {n : Nat} {p : Nat → Bool} (h : 0 ≤ firstN n p) : firstN n p = ((firstN n p).toNat : Int) ∧ (firstN n p).toNat < n ∧ p (firstN n p).toNat = true := by
  rcases firstN_spec n p with ⟨z, h1, h2, h3, _⟩ | ⟨h1, _⟩
  · rw [h3, Int.toNat_natCast]; exact ⟨rfl, h1, h2⟩
  · omega
def meetN (up : List Int) (x y : Nat) : Nat := (meetM up x y).toNat
def joinN (up : List Int) (x y : Nat) : Nat := (joinM up x y).toNat
theorem latB_both {up : List Int} (h : latB up = true) {x y : Nat} (hx : x < up.length) (hy : y < up.length) : 0 ≤ meetM up x y ∧ 0 ≤ joinM up x y := by
  unfold latB at h
  rw [Bool.and_eq_true] at h
  have := (allN_iff.1 ((allN_iff.1 h.2) x hx)) y hy
  rwa [Bool.and_eq_true, decide_eq_true_eq, decide_eq_true_eq] at this
theorem meetN_spec {up : List Int} (h : latB up = true) {x y : Nat} (hx : x < up.length) (hy : y < up.length) : meetM up x y = (meetN up x y : Int) ∧ meetN up x y < up.length ∧ isMeet up x y (meetN up x y) = true :=
  firstN_pos (latB_both h hx hy).1
theorem joinN_spec {up : List Int} (h : latB up = true) {x y : Nat} (hx : x < up.length) (hy : y < up.length) : joinM up x y = (joinN up x y : Int) ∧ joinN up x y < up.length ∧ isJoin up x y (joinN up x y) = true :=
  firstN_pos (latB_both h hx hy).2
/-- The meet of x and the join of y and z is the join of the meets. -/
def distAt (up : List Int) (x y z : Nat) : Bool := decide (meetN up x (joinN up y z) = joinN up (meetN up x y) (meetN up x z))
def distB (up : List Int) : Bool := allN up.length fun x => allN up.length fun y => allN up.length fun z => distAt up x y z
def isDistM (up : List Int) : Bool := latB up && distB up
theorem three_loops {up : List Int} (h6 : up.length ≤ 6) (p : Nat → Nat → Nat → Bool) (F : Nat → Int → Option Bool) (G : Nat → Int → Int → Option Bool) (H : Nat → Int → Int → Int → Option Bool) (r : Bool)
    (g0 : ∀ x, x < up.length → ∀ r, Ev (fun k => G k (x : Int) 0) r → Ev (fun k => F k (x : Int)) r)
    (g1 : ∀ x, x < up.length → ∀ y, y < up.length → ∀ r, Ev (fun k => H k (x : Int) (y : Int) 0) r → Ev (fun k => G k (x : Int) (y : Int)) r)
    (g2 : ∀ x, x < up.length → ∀ y, y < up.length → ∀ z, z < up.length → ∀ r, (p x y z = true → Ev (fun k => H k (x : Int) (y : Int) ((z + 1 : Nat) : Int)) r) → (p x y z = false → r = false) → Ev (fun k => H k (x : Int) (y : Int) (z : Int)) r)
    (e2 : ∀ x, x < up.length → ∀ y, y < up.length → ∀ r, Ev (fun k => G k (x : Int) ((y + 1 : Nat) : Int)) r → Ev (fun k => H k (x : Int) (y : Int) (up.length : Int)) r)
    (e1 : ∀ x, x < up.length → ∀ r, Ev (fun k => F k ((x + 1 : Nat) : Int)) r → Ev (fun k => G k (x : Int) (up.length : Int)) r)
    (e0 : (allN up.length fun x => allN up.length fun y => allN up.length fun z => p x y z) = true → Ev (fun k => F k (up.length : Int)) r)
    (k0 : (allN up.length fun x => allN up.length fun y => allN up.length fun z => p x y z) = false → r = false) : Ev (fun k => F k 0) r := by
  refine ev_no F up.length _ r ?_ e0 k0
  intro x hx
  have kx : ∀ r, ((allN up.length fun y => allN up.length fun z => p x y z) = true → Ev (fun k => F k ((x + 1 : Nat) : Int)) r) → ((allN up.length fun y => allN up.length fun z => p x y z) = false → r = false) → Ev (fun k => F k (x : Int)) r := by
    intro r q1 q2
    refine g0 x hx r (ev_no (fun k i => G k (x : Int) i) up.length _ r ?_ (fun e => e1 x hx r (q1 e)) q2)
    intro y hy
    have ky : ∀ r, ((allN up.length fun z => p x y z) = true → Ev (fun k => G k (x : Int) ((y + 1 : Nat) : Int)) r) → ((allN up.length fun z => p x y z) = false → r = false) → Ev (fun k => G k (x : Int) (y : Int)) r := by
      intro r s1 s2
      refine g1 x hx y hy r (ev_no (fun k i => H k (x : Int) (y : Int) i) up.length _ r ?_ (fun e => e2 x hx y hy r (s1 e)) s2)
      intro z hz
      exact ⟨fun hp r hr => g2 x hx y hy z hz r (fun _ => hr) (fun e => by rw [hp] at e; cases e), fun hp => g2 x hx y hy z hz false (fun e => by rw [hp] at e; cases e) (fun _ => rfl)⟩
    exact ⟨fun hp r hr => ky r (fun _ => hr) (fun e => by rw [hp] at e; cases e), fun hp => ky false (fun e => by rw [hp] at e; cases e) (fun _ => rfl)⟩
  exact ⟨fun hp r hr => kx r (fun _ => hr) (fun e => by rw [hp] at e; cases e), fun hp => kx false (fun e => by rw [hp] at e; cases e) (fun _ => rfl)⟩
end Go.Proofs.Ytomapoenndlbiaa.M
