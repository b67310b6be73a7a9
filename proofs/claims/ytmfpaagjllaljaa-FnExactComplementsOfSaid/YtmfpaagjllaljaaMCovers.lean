/- Elements right above one: the program and the reference list the same. -/
import Derived.Test.YtmfpaagjllaljaaP48
import Derived.Test.YtmfpaagjllaljaaP49
import Derived.Test.YtmfpaagjllaljaaP50
import Derived.Test.YtmfpaagjllaljaaMDistr
namespace Go.Proofs.Ytmfpaagjllaljaa.M
set_option linter.unusedVariables false
open Go.RowKit Go.Proofs.YtmfpaagjllaljaaW.PrintWords Go.Proofs.YtmfpaagjllaljaaW.PrintLast Go.Proofs.YtmfpaagjllaljaaW.PrintMore Go.Proofs.Ytmfpaagjllaljaa.P

/-- The numbers below n of which p holds, ascending. -/
def listN (p : Nat → Bool) (n : Nat) : List Int := ((List.range n).filter p).map fun (i : Nat) => (i : Int)
theorem listN_succ (p : Nat → Bool) (n : Nat) : listN p (n + 1) = if p n then listN p n ++ [(n : Int)] else listN p n := by
  unfold listN
  rw [List.range_succ, List.filter_append, List.map_append]
  cases h : p n <;> simp [h]
theorem listN_len (p : Nat → Bool) (n : Nat) : (listN p n).length ≤ n := by
  unfold listN
  rw [List.length_map]
  exact Nat.le_trans (List.length_filter_le _ _) (by simp)
/-- A loop that lists numbers. -/
theorem ev_list {α : Type} (F : Nat → List Int → Int → Option α) (n : Nat) (p : Nat → Bool) (r : α)
    (h1 : ∀ i, i < n → ∀ s, s.length ≤ i → ∀ r, (p i = true → Ev (fun k => F k (s ++ [(i : Int)]) ((i + 1 : Nat) : Int)) r) → (p i = false → Ev (fun k => F k s ((i + 1 : Nat) : Int)) r) → Ev (fun k => F k s (i : Int)) r)
    (h2 : Ev (fun k => F k (listN p n) (n : Int)) r) : Ev (fun k => F k [] 0) r := by
  refine ev_inv2 F n (fun i s => s = listN p i) r ?_ (fun s hs => by rw [hs]; exact h2) n 0 [] (by omega) rfl
  intro i hi s hs k
  subst hs
  refine h1 i hi _ (listN_len p i) r (fun hp => k _ ?_) (fun hp => k _ ?_)
  · rw [listN_succ, hp]; rfl
  · rw [listN_succ, hp]; rfl
/-- y is right above x. -/
def coverB (up : List Int) (x y : Nat) : Bool := (!(decide (y = x)) && le up x y) && allN up.length fun z => decide (z = x) || decide (z = y) || !(le up x z) || !(le up z y)
def CoversOfM (up : List Int) (x : Int) : List Int := if (latB up && (inB up x && inB up x)) = true then listN (coverB up x.toNat) up.length else []
theorem CoversOfM_len (up : List Int) (x : Int) : (CoversOfM up x).length ≤ 6 := by
  unfold CoversOfM
  split
  · rename_i h
    exact Nat.le_trans (listN_len _ _) (good_cases h).1.1
  · simp
theorem spec_cover_l1 {up : List Int} (h : OkR up) {x y : Nat} (hx : x < up.length) (hy : y < up.length) (s : List Int) (hs : s.length ≤ 6) (r : List Int) :
    ∀ d w ok, w + d = up.length →
      ((ok && (List.range d).all fun j => decide (w + j = x) || decide (w + j = y) || !(le up x (w + j)) || !(le up (w + j) y)) = true → Ev (fun k => spec_covers.l0 k up (x : Int) (s ++ [(y : Int)]) ((y + 1 : Nat) : Int)) r) →
      ((ok && (List.range d).all fun j => decide (w + j = x) || decide (w + j = y) || !(le up x (w + j)) || !(le up (w + j) y)) = false → Ev (fun k => spec_covers.l0 k up (x : Int) s ((y + 1 : Nat) : Int)) r) →
      Ev (fun k => spec_covers.l1 k up (x : Int) s (y : Int) ok (w : Int)) r := by
  have h6 := h.1
  intro d
  induction d with
  | zero =>
    intro w ok hw h1 h2
    refine Ev.step (fun k => by simp only [spec_covers.l1]; exact rfl) ?_
    refine Ev.neg (by omega) ?_
    refine Ev.step (fun k => by simp only [spec_covers.j3]; exact rfl) ?_
    refine Ev.neg (by decide) ?_
    rw [w64s hy (by omega)]
    cases ok with
    | true => exact Ev.pos rfl (Ev.pos (by omega) (h1 (by simp)))
    | false => exact Ev.neg (by decide) (h2 (by simp))
  | succ d ih =>
    intro w ok hw h1 h2
    rw [all_step (fun j => decide (j = x) || decide (j = y) || !(le up x j) || !(le up j y))] at h1 h2
    refine Ev.step (fun k => by simp only [spec_covers.l1]; exact rfl) ?_
    refine Ev.pos (by omega) ?_
    refine Ev.step (fun k => by simp only [spec_covers.j3]; exact rfl) ?_
    have hw' : w < up.length := by omega
    cases ok with
    | false =>
      refine Ev.neg (by decide) (Ev.neg (by decide) ?_)
      rw [w64s hy (by omega)]
      exact h2 (by simp)
    | true =>
      refine Ev.pos rfl ?_
      have hst := fun b (hb : b = (decide (w = x) || decide (w = y) || !(le up x w) || !(le up w y))) => ih (w + 1) b (by omega) (by rw [hb]; simpa using h1) (by rw [hb]; simpa using h2)
      rw [w64s hw' (by omega)]
      by_cases c1 : w = x
      · exact Ev.pos (by omega) (hst true (by rw [decide_eq_true c1]; rfl))
      · refine Ev.neg (by omega) ?_
        by_cases c2 : w = y
        · exact Ev.pos (by omega) (hst true (by rw [decide_eq_true c2, Bool.or_true]; rfl))
        · refine Ev.neg (by omega) (Ev.bind (spec_below_ev h hx (by omega)) ?_)
          rw [decide_eq_false c1, decide_eq_false c2] at hst
          cases hA : le up x w with
          | false => exact Ev.neg (by decide) (hst true (by rw [hA]; rfl))
          | true =>
            refine Ev.pos rfl (Ev.bind (spec_below_ev h hw' (by omega)) ?_)
            exact hst _ (by rw [hA]; rfl)
theorem spec_CoversOf_ev (up : List Int) (x : Int) (hl : up.length ≤ 17592186044416) : Ev (fun k => spec_CoversOf.f k up x) (CoversOfM up x) := by
  unfold spec_CoversOf.f CoversOfM spec_covers.f
  refine Ev.bind (good_ev up x x hl) ?_
  cases hg : (latB up && (inB up x && inB up x)) with
  | false => exact Ev.neg (by decide) (Ev.some _)
  | true =>
    obtain ⟨h, h1, a, b, rfl, _, ha, hb⟩ := good_cases hg
    have h6 := h.1
    rw [if_pos rfl, Int.toNat_natCast]
    refine Ev.pos rfl (Ev.bind (a := listN (coverB up a) up.length) ?_ (Ev.some _))
    refine ev_list (fun k s i => spec_covers.l0 k up (a : Int) s i) up.length (coverB up a) _ ?_ ?_
    · intro y hy s hs r k1 k2
      refine Ev.step (fun k => by simp only [spec_covers.l0]; exact rfl) ?_
      refine Ev.pos (by omega) ?_
      have hj : ∀ ok, ok = (!(decide (y = a)) && le up a y) → Ev (fun k => spec_covers.j1 k up (a : Int) s (y : Int) ok) r := by
        intro ok hok
        refine Ev.step (fun k => by simp only [spec_covers.j1]; exact rfl) ?_
        refine spec_cover_l1 h ha hy s (by omega) r up.length 0 ok (by omega) ?_ ?_
        · rw [hok]; simpa [coverB, allN] using k1
        · rw [hok]; simpa [coverB, allN] using k2
      by_cases c : y = a
      · exact Ev.pos (by omega) (hj false (by rw [decide_eq_true c]; rfl))
      · exact Ev.neg (by omega) (Ev.bind (spec_below_ev h ha (by omega)) (hj _ (by rw [decide_eq_false c]; rfl)))
    · refine Ev.step (fun k => by simp only [spec_covers.l0]; exact rfl) ?_
      exact Ev.neg (by omega) (Ev.some _)
theorem impl_cover_l1 {up : List Int} (h : OkR up) {x y : Nat} (hx : x < up.length) (hy : y < up.length) (s : List Int) (hs : s.length ≤ 6) (r : List Int) :
    ∀ d w bt, w + d = up.length →
      ((!bt && (List.range d).all fun j => decide (w + j = x) || decide (w + j = y) || !(le up x (w + j)) || !(le up (w + j) y)) = true → Ev (fun k => impl_CoversOf.l0 k up (x : Int) (s ++ [(y : Int)]) (up.length : Int) ((y + 1 : Nat) : Int)) r) →
      ((!bt && (List.range d).all fun j => decide (w + j = x) || decide (w + j = y) || !(le up x (w + j)) || !(le up (w + j) y)) = false → Ev (fun k => impl_CoversOf.l0 k up (x : Int) s (up.length : Int) ((y + 1 : Nat) : Int)) r) →
      Ev (fun k => impl_CoversOf.l1 k up (x : Int) s (y : Int) bt (up.length : Int) (y : Int) (up.length : Int) (w : Int)) r := by
  have h6 := h.1
  intro d
  induction d with
  | zero =>
    intro w bt hw h1 h2
    refine Ev.step (fun k => by simp only [impl_CoversOf.l1]; exact rfl) ?_
    refine Ev.neg (by omega) ?_
    rw [w64s hy (by omega)]
    cases bt with
    | false => exact Ev.neg (by decide) (Ev.pos (by omega) (h1 (by simp)))
    | true => exact Ev.pos rfl (h2 (by simp))
  | succ d ih =>
    intro w bt hw h1 h2
    rw [all_step (fun j => decide (j = x) || decide (j = y) || !(le up x j) || !(le up j y))] at h1 h2
    refine Ev.step (fun k => by simp only [impl_CoversOf.l1]; exact rfl) ?_
    refine Ev.pos (by omega) ?_
    have hw' : w < up.length := by omega
    have hst := fun b (hb : (!b) = (!bt && (decide (w = x) || decide (w = y) || !(le up x w) || !(le up w y)))) => ih (w + 1) b (by omega) (by rw [hb, Bool.and_assoc]; exact h1) (by rw [hb, Bool.and_assoc]; exact h2)
    rw [w64s hw' (by omega)]
    cases bt with
    | true => exact Ev.pos rfl (hst true rfl)
    | false =>
      refine Ev.neg (by decide) ?_
      by_cases c1 : w = x
      · exact Ev.pos (by omega) (hst false (by rw [decide_eq_true c1]; rfl))
      · refine Ev.neg (by omega) ?_
        by_cases c2 : w = y
        · exact Ev.pos (by omega) (hst false (by rw [decide_eq_true c2, Bool.or_true]; rfl))
        · refine Ev.neg (by omega) (Ev.bindc (impl_below_eq h hx) ?_)
          rw [decide_eq_false c1, decide_eq_false c2] at hst
          cases hA : le up x w with
          | false => exact Ev.neg (by decide) (hst false (by rw [hA]; rfl))
          | true =>
            refine Ev.pos rfl (Ev.bindc (impl_below_eq h hw') ?_)
            exact hst _ (by rw [hA]; rfl)
theorem impl_CoversOf_ev (up : List Int) (x : Int) (hl : up.length ≤ 17592186044416) : Ev (fun k => impl_CoversOf.f k up x) (CoversOfM up x) := by
  unfold impl_CoversOf.f CoversOfM
  refine Ev.bind (latticeAt_ev up [x] hl (by simp)) ?_
  rw [one_in]
  cases hg : (latB up && (inB up x && inB up x)) with
  | false => exact Ev.neg (by decide) (Ev.some _)
  | true =>
    obtain ⟨h, h1, a, b, rfl, _, ha, hb⟩ := good_cases hg
    have h6 := h.1
    rw [if_pos rfl, Int.toNat_natCast]
    refine Ev.pos rfl ?_
    refine ev_list (fun k s i => impl_CoversOf.l0 k up (a : Int) s (up.length : Int) i) up.length (coverB up a) _ ?_ ?_
    · intro y hy s hs r k1 k2
      refine Ev.step (fun k => by simp only [impl_CoversOf.l0]; exact rfl) ?_
      refine Ev.pos (by omega) ?_
      have hno : (!(decide (y = a)) && le up a y) = false → Ev (fun k => impl_CoversOf.j1 k up (a : Int) s (y : Int) (up.length : Int) (y : Int) true) r := by
        intro e
        refine Ev.step (fun k => by simp only [impl_CoversOf.j1]; exact rfl) ?_
        refine Ev.pos (by first | rfl | trivial) ?_
        rw [w64s hy (by omega)]
        exact k2 (by rw [coverB, e]; rfl)
      by_cases c : y = a
      · exact Ev.pos (by omega) (hno (by rw [decide_eq_true c]; rfl))
      · refine Ev.neg (by omega) (Ev.bindc (impl_below_eq h ha) ?_)
        cases hA : le up a y with
        | false => exact hno (by rw [hA, Bool.and_false])
        | true =>
          refine Ev.step (fun k => by simp only [impl_CoversOf.j1]; exact rfl) ?_
          refine Ev.neg (by decide) ?_
          refine impl_cover_l1 h ha hy s (by omega) r up.length 0 false (by omega) ?_ ?_
          · simpa [coverB, allN, hA, c] using k1
          · simpa [coverB, allN, hA, c] using k2
    · refine Ev.step (fun k => by simp only [impl_CoversOf.l0]; exact rfl) ?_
      exact Ev.neg (by omega) (Ev.some _)
end Go.Proofs.Ytmfpaagjllaljaa.M
