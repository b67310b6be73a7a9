/- Which lists are nuclei: the program and the reference answer the same. -/
import Derived.Test.YtomapoenndlbiaaP10
import Derived.Test.YtomapoenndlbiaaP21
import Derived.Test.YtomapoenndlbiaaP20
import Derived.Test.YtomapoenndlbiaaP11
import Derived.Test.YtomapoenndlbiaaP22
import Derived.Test.YtomapoenndlbiaaMAlgVal
namespace Go.Proofs.Ytomapoenndlbiaa.M
set_option linter.unusedVariables false
open Go.RowKit Go.Proofs.YtomapoenndlbiaaW.PrintWords Go.Proofs.YtomapoenndlbiaaW.PrintLast Go.Proofs.YtomapoenndlbiaaW.PrintMore Go.Proofs.Ytomapoenndlbiaa.P

def jn (j : List Int) (x : Nat) : Nat := (rd j (x : Int)).toNat
def jin (n : Nat) (j : List Int) (x : Nat) : Bool := decide (0 ≤ rd j (x : Int) ∧ rd j (x : Int) ≤ ((n - 1 : Nat) : Int))
def nucAt (up : List Int) (T : List (List Int)) (j : List Int) (x y : Nat) : Bool := (!(le up x y) || le up (jn j x) (jn j y)) && le up (tN T (jn j x) (jn j y)) (jn j (tN T x y))
def nucX (up : List Int) (T : List (List Int)) (j : List Int) (x : Nat) : Bool := le up x (jn j x) && (decide (jn j (jn j x) = jn j x) && allN up.length (nucAt up T j x))
def nucB (up : List Int) (T : List (List Int)) (j : List Int) : Bool := decide (j.length = up.length) && (allN up.length (jin up.length j) && allN up.length (nucX up T j))
theorem jin_val {n : Nat} {j : List Int} (pos : 1 ≤ n) (h : allN n (jin n j) = true) : ∀ x, x < n → rd j (x : Int) = (jn j x : Int) ∧ jn j x < n := by
  intro x hx
  have h1 := allN_iff.1 h x hx
  unfold jin at h1
  rw [decide_eq_true_eq] at h1
  unfold jn
  omega
theorem spec_isNucleus_ev {up : List Int} {T : List (List Int)} (A : Alg up T) (j : List Int) : Ev (fun k => spec_isNucleus.f k up T j) (nucB up T j) := by
  have h6 := A.ok.1
  have pos := A.pos
  have hl := A.len
  unfold spec_isNucleus.f nucB
  by_cases c : j.length = up.length
  case neg => exact Ev.neg (by omega) (Ev.eq (Ev.some _) (by rw [decide_eq_false c]; rfl))
  rw [decide_eq_true c, Bool.true_and]
  refine Ev.pos (by omega) ?_
  refine ev_all (fun k i => spec_isNucleus.l0 k j (up.length : Int) i up T) up.length (jin up.length j) _ ?_ (fun e => ?_) (fun e => ?_)
  · intro x hx r k1 k2
    refine Ev.step (fun k => by simp only [spec_isNucleus.l0]; exact rfl) (Ev.pos (by omega) (Ev.pos (by omega) (Ev.pos (by omega) (Ev.bindc (inRange_eq _ 0 _) ?_))))
    rw [last_eq pos h6, w64s hx (by omega)]
    unfold jin at k1 k2
    refine Ev.ite' k1 (fun e => ?_)
    rw [k2 (by simpa using e)]
    exact Ev.some _
  · have V := jin_val pos e
    rw [show allN up.length (jin up.length j) = true from e, Bool.true_and]
    refine Ev.step (fun k => by simp only [spec_isNucleus.l0]; exact rfl) (Ev.neg (by omega) ?_)
    refine ev_all (fun k i => spec_isNucleus.l1 k j (up.length : Int) i up T) up.length (nucX up T j) _ ?_ (fun e => ?_) (fun e => e)
    · intro x hx r k1 k2
      obtain ⟨vx, jx⟩ := V x hx
      obtain ⟨vxx, jxx⟩ := V _ jx
      unfold nucX at k1 k2
      refine Ev.step (fun k => by simp only [spec_isNucleus.l1]; exact rfl) ?_
      rw [vx, vxx]
      refine Ev.pos (by omega) (Ev.pos (by omega) (Ev.pos (by omega) (Ev.bind (spec_below_ev A.ok hx (by omega)) ?_)))
      have hj : ∀ b, (b = true → r = false) → (b = false → Ev (fun k => spec_isNucleus.l2 k j (up.length : Int) (x : Int) 0 up T) r) → Ev (fun k => spec_isNucleus.j2 k j (up.length : Int) (x : Int) b up T) r := by
        intro b q1 q2
        refine Ev.step (fun k => by simp only [spec_isNucleus.j2]; exact rfl) ?_
        cases b with
        | true => rw [q1 rfl]; exact Ev.pos rfl (Ev.some _)
        | false => exact Ev.neg (by decide) (q2 rfl)
      cases hb : le up x (jn j x) with
      | false => exact Ev.neg (by decide) (hj _ (fun _ => k2 (by rw [hb]; rfl)) (fun e => by cases e))
      | true =>
        rw [hb, Bool.true_and] at k1 k2
        refine Ev.pos rfl (Ev.pos (by omega) (Ev.pos (by omega) (hj _ (fun e => k2 ?_) (fun e => ?_))))
        · rw [bne_iff_ne] at e
          rw [decide_eq_false (by omega)]
          rfl
        · have e2 : jn j (jn j x) = jn j x := by have e3 := bne_eq_false_iff_eq.1 e; omega
          rw [decide_eq_true e2, Bool.true_and] at k1 k2
          refine ev_all (fun k i => spec_isNucleus.l2 k j (up.length : Int) (x : Int) i up T) up.length (nucAt up T j x) _ ?_ (fun e => ?_) k2
          · intro y hy r q1 q2
            obtain ⟨vy, jy⟩ := V y hy
            have tx := A.lt x y hx hy
            have tj := A.lt _ _ jx jy
            obtain ⟨vt, jt⟩ := V _ tx
            have rx : (rd_L1 T (x : Int)).length = up.length := A.row x hx
            have rj : (rd_L1 T (jn j x : Int)).length = up.length := A.row _ jx
            unfold nucAt at q1 q2
            refine Ev.step (fun k => by simp only [spec_isNucleus.l2]; exact rfl) ?_
            rw [w64s hy (by omega), vx, vy, show rd (rd_L1 T (x : Int)) (y : Int) = (tN T x y : Int) from A.val x y hx hy, show rd (rd_L1 T (jn j x : Int)) (jn j y : Int) = (tN T (jn j x) (jn j y) : Int) from A.val _ _ jx jy, vt]
            refine Ev.pos (by omega) (Ev.bind (spec_below_ev A.ok hx (by omega)) ?_)
            cases hb : le up x y with
            | false =>
              rw [hb] at q1 q2
              refine Ev.neg (by decide) ?_
              repeat (refine Ev.pos (by omega) ?_)
              refine Ev.bind (spec_below_ev A.ok tj (by omega)) (Ev.ite' (fun e => q1 (by rw [e]; rfl)) (fun e => ?_))
              rw [q2 (by simpa using e)]
              exact Ev.some _
            | true =>
              rw [hb] at q1 q2
              refine Ev.pos rfl ?_
              repeat (refine Ev.pos (by omega) ?_)
              refine Ev.bind (spec_below_ev A.ok jx (by omega)) ?_
              cases hc : le up (jn j x) (jn j y) with
              | false =>
                rw [q2 (by rw [hc]; rfl)]
                exact Ev.neg (by decide) (Ev.some _)
              | true =>
                rw [hc] at q1 q2
                refine Ev.pos rfl ?_
                repeat (refine Ev.pos (by omega) ?_)
                refine Ev.bind (spec_below_ev A.ok tj (by omega)) (Ev.ite' (fun e => q1 (by rw [e]; rfl)) (fun e => ?_))
                rw [q2 (by simpa using e)]
                exact Ev.some _
          · refine Ev.step (fun k => by simp only [spec_isNucleus.l2]; exact rfl) (Ev.neg (by omega) ?_)
            rw [w64s hx (by omega)]
            exact k1 e
    · refine Ev.step (fun k => by simp only [spec_isNucleus.l1]; exact rfl) (Ev.neg (by omega) ?_)
      rw [show allN up.length (nucX up T j) = true from e]
      exact Ev.some _
  · rw [show allN up.length (jin up.length j) = false from e]
    rfl
theorem cf_nuc {n : Nat} (pos : 1 ≤ n) (h6 : n ≤ 6) (j : List Int) (hj : j.length = n) : cf_isNucleus_1.f j j = some (!(allN n (jin n j))) := by
  unfold cf_isNucleus_1.f
  rw [if_pos (by omega), hj, last_eq pos h6]
  congr 1
  rw [Bool.eq_iff_iff, List.any_eq_true, Bool.not_eq_true', ← Bool.not_eq_true, allN_iff]
  have e : ∀ x : Int, (!(withinB x 0 ((n - 1 : Nat) : Int))) = true ↔ ¬ (0 ≤ x ∧ x ≤ ((n - 1 : Nat) : Int)) := by
    intro x
    unfold withinB
    rw [← Bool.decide_and, Bool.not_eq_true', decide_eq_false_iff_not]
  constructor
  · rintro ⟨v, hv, hn⟩ h
    obtain ⟨i, hi, rfl⟩ := List.mem_iff_getElem.1 hv
    have := h i (by omega)
    unfold jin at this
    rw [rd_lt hi, decide_eq_true_eq] at this
    exact (e _).1 hn this
  · intro h
    refine Classical.byContradiction fun hc => h fun i hi => ?_
    have hi' : i < j.length := by omega
    unfold jin
    rw [rd_lt hi', decide_eq_true_eq]
    exact Classical.byContradiction fun hv => hc ⟨_, List.getElem_mem hi', (e _).2 hv⟩
theorem impl_isNucleus_ev {up : List Int} {T : List (List Int)} (A : Alg up T) (j : List Int) : Ev (fun k => impl_isNucleus.f k up T j) (nucB up T j) := by
  have h6 := A.ok.1
  have pos := A.pos
  have hl := A.len
  unfold impl_isNucleus.f nucB
  by_cases c : j.length = up.length
  case neg =>
    refine Ev.neg (by omega) (Ev.step (fun k => by simp only [impl_isNucleus.j0]; exact rfl) (Ev.pos trivial ?_))
    rw [decide_eq_false c]
    exact Ev.some _
  rw [decide_eq_true c, Bool.true_and]
  refine Ev.pos (by omega) (Ev.bindc (cf_nuc pos h6 j c) (Ev.step (fun k => by simp only [impl_isNucleus.j0]; exact rfl) ?_))
  cases e : allN up.length (jin up.length j) with
  | false => exact Ev.pos rfl (Ev.some _)
  | true =>
    have V := jin_val pos e
    rw [Bool.true_and, c]
    refine Ev.neg (by decide) ?_
    refine ev_all (fun k i => impl_isNucleus.l0 k (up.length : Int) i up T j) up.length (nucX up T j) _ ?_ (fun e => ?_) (fun e => e)
    · intro x hx r k1 k2
      obtain ⟨vx, jx⟩ := V x hx
      obtain ⟨vxx, jxx⟩ := V _ jx
      unfold nucX at k1 k2
      refine Ev.step (fun k => by simp only [impl_isNucleus.l0]; exact rfl) ?_
      rw [vx, vxx, c]
      refine Ev.pos (by omega) (Ev.pos (by omega) (Ev.pos (by omega) (Ev.bindc (impl_below_eq A.ok hx) ?_)))
      have hj : ∀ b, (b = true → r = false) → (b = false → Ev (fun k => impl_isNucleus.l1 k (x : Int) (up.length : Int) (x : Int) (up.length : Int) 0 up T j) r) → Ev (fun k => impl_isNucleus.j2 k (x : Int) (up.length : Int) (x : Int) b up T j) r := by
        intro b q1 q2
        refine Ev.step (fun k => by simp only [impl_isNucleus.j2]; exact rfl) ?_
        rw [c]
        cases b with
        | true => rw [q1 rfl]; exact Ev.pos rfl (Ev.some _)
        | false => exact Ev.neg (by decide) (q2 rfl)
      cases hb : le up x (jn j x) with
      | false => exact Ev.neg (by decide) (hj _ (fun _ => k2 (by rw [hb]; rfl)) (fun e => by cases e))
      | true =>
        rw [hb, Bool.true_and] at k1 k2
        refine Ev.pos rfl (Ev.pos (by omega) (Ev.pos (by omega) (hj _ (fun e => k2 ?_) (fun e => ?_))))
        · rw [bne_iff_ne] at e
          rw [decide_eq_false (by omega)]
          rfl
        · have e2 : jn j (jn j x) = jn j x := by have e3 := bne_eq_false_iff_eq.1 e; omega
          rw [decide_eq_true e2, Bool.true_and] at k1 k2
          refine ev_all (fun k i => impl_isNucleus.l1 k (x : Int) (up.length : Int) (x : Int) (up.length : Int) i up T j) up.length (nucAt up T j x) _ ?_ (fun e => ?_) k2
          · intro y hy r q1 q2
            obtain ⟨vy, jy⟩ := V y hy
            have tx := A.lt x y hx hy
            have tj := A.lt _ _ jx jy
            obtain ⟨vt, jt⟩ := V _ tx
            have rx : (rd_L1 T (x : Int)).length = up.length := A.row x hx
            have rj : (rd_L1 T (jn j x : Int)).length = up.length := A.row _ jx
            unfold nucAt at q1 q2
            refine Ev.step (fun k => by simp only [impl_isNucleus.l1]; exact rfl) ?_
            rw [w64s hy (by omega), vx, vy, show rd (rd_L1 T (x : Int)) (y : Int) = (tN T x y : Int) from A.val x y hx hy, show rd (rd_L1 T (jn j x : Int)) (jn j y : Int) = (tN T (jn j x) (jn j y) : Int) from A.val _ _ jx jy, vt]
            refine Ev.pos (by omega) (Ev.bindc (impl_below_eq A.ok hx) ?_)
            cases hb : le up x y with
            | false =>
              rw [hb] at q1 q2
              refine Ev.neg (by decide) ?_
              repeat (refine Ev.pos (by omega) ?_)
              refine Ev.bindc (impl_below_eq A.ok tj) (Ev.ite' (fun e => q1 (by rw [e]; rfl)) (fun e => ?_))
              rw [q2 (by simpa using e)]
              exact Ev.some _
            | true =>
              rw [hb] at q1 q2
              refine Ev.pos rfl ?_
              repeat (refine Ev.pos (by omega) ?_)
              refine Ev.bindc (impl_below_eq A.ok jx) ?_
              cases hc : le up (jn j x) (jn j y) with
              | false =>
                rw [q2 (by rw [hc]; rfl)]
                exact Ev.neg (by decide) (Ev.some _)
              | true =>
                rw [hc] at q1 q2
                refine Ev.pos rfl ?_
                repeat (refine Ev.pos (by omega) ?_)
                refine Ev.bindc (impl_below_eq A.ok tj) (Ev.ite' (fun e => q1 (by rw [e]; rfl)) (fun e => ?_))
                rw [q2 (by simpa using e)]
                exact Ev.some _
          · refine Ev.step (fun k => by simp only [impl_isNucleus.l1]; exact rfl) (Ev.neg (by omega) ?_)
            rw [w64s hx (by omega)]
            exact k1 e
    · refine Ev.step (fun k => by simp only [impl_isNucleus.l0]; exact rfl) (Ev.neg (by omega) ?_)
      rw [show allN up.length (nucX up T j) = true from e]
      exact Ev.some _
theorem spec_IsNucleus_ev (up : List Int) (T : List (List Int)) (j : List Int) (hl : up.length ≤ 17592186044416) : Ev (fun k => spec_IsNucleus.f k up T j) (algB up T && nucB up T j) := by
  unfold spec_IsNucleus.f
  refine Ev.bind (spec_validAlgebra_ev up T hl) ?_
  cases hb : algB up T with
  | false => exact Ev.neg (by decide) (Ev.some _)
  | true => exact Ev.pos rfl (Ev.bind (spec_isNucleus_ev (Alg.of hb) j) (Ev.some _))
theorem impl_IsNucleus_ev (up : List Int) (T : List (List Int)) (j : List Int) (hl : up.length ≤ 17592186044416) : Ev (fun k => impl_IsNucleus.f k up T j) (algB up T && nucB up T j) := by
  unfold impl_IsNucleus.f
  refine Ev.bind (impl_ValidAlgebra_ev up T hl) ?_
  cases hb : algB up T with
  | false => exact Ev.neg (by decide) (Ev.some _)
  | true => exact Ev.pos rfl (Ev.bind (impl_isNucleus_ev (Alg.of hb) j) (Ev.some _))
end Go.Proofs.Ytomapoenndlbiaa.M
