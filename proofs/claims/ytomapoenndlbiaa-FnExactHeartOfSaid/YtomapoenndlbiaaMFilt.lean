/- Which sets are filters: the program and the reference answer the same. -/
import Derived.Test.YtomapoenndlbiaaP31
import Derived.Test.YtomapoenndlbiaaP36
import Derived.Test.YtomapoenndlbiaaP35
import Derived.Test.YtomapoenndlbiaaMAlgVal
namespace Go.Proofs.Ytomapoenndlbiaa.M
set_option linter.unusedVariables false
open Go.RowKit Go.Proofs.YtomapoenndlbiaaW.PrintWords Go.Proofs.YtomapoenndlbiaaW.PrintLast Go.Proofs.YtomapoenndlbiaaW.PrintMore Go.Proofs.Ytomapoenndlbiaa.P

def closedAt (up : List Int) (T : List (List Int)) (F x y : Nat) : Bool := !(F.testBit x) || ((!(le up x y) || F.testBit y) && (!(F.testBit y) || F.testBit (tN T x y)))
def closedX (up : List Int) (T : List (List Int)) (F x : Nat) : Bool := allN up.length (closedAt up T F x)
def filtB (up : List Int) (T : List (List Int)) (F : Nat) : Bool := F.testBit (up.length - 1) && allN up.length (closedX up T F)
theorem allN_and (n : Nat) (p q : Nat → Bool) : allN n (fun i => p i && q i) = (allN n p && allN n q) := by
  rw [Bool.eq_iff_iff, Bool.and_eq_true, allN_iff, allN_iff, allN_iff]
  constructor
  · intro h
    exact ⟨fun i hi => (Bool.and_eq_true_iff.1 (h i hi)).1, fun i hi => (Bool.and_eq_true_iff.1 (h i hi)).2⟩
  · rintro ⟨h1, h2⟩ i hi
    rw [h1 i hi, h2 i hi]
    rfl
theorem pow64 {n : Nat} (h6 : n ≤ 6) {F : Nat} (hF : F < 2 ^ n) : F < 64 := by
  have : 2 ^ n ≤ 2 ^ 6 := Nat.pow_le_pow_right (by decide) h6
  omega
theorem pow_le64 {n : Nat} (h6 : n ≤ 6) : 2 ^ n ≤ 64 := Nat.pow_le_pow_right (show 0 < 2 by decide) h6
theorem sbit (F x : Nat) (hF : F < 64) (hx : x ≤ 62) : Ev (fun k => spec_bit.f k (F : Int) (x : Int)) (if F.testBit x then 1 else 0) := bit_ev F x (by omega) hx
theorem has_eq (F x : Nat) (hF : F < 64) : impl_has.f (F : Int) (x : Int) = some (F.testBit x) := by
  unfold impl_has.f
  rw [if_pos (by omega), bit_ask F x (by omega)]
theorem spec_isFilter_ev {up : List Int} {T : List (List Int)} (A : Alg up T) {F : Nat} (hF : F < 2 ^ up.length) : Ev (fun k => spec_isFilter.f k up T (F : Int)) (filtB up T F) := by
  have h6 := A.ok.1
  have pos := A.pos
  have hl := A.len
  have h64 := pow64 h6 hF
  unfold spec_isFilter.f
  refine Ev.bind (power_ev up.length (by omega)) ?_
  rw [w64 (x := ((2 ^ up.length : Nat) : Int) - 1) (by omega) (by have := Nat.pow_le_pow_right (show 0 < 2 by decide) h6; omega)]
  refine Ev.bindc (inRange_eq _ 0 _) ?_
  refine Ev.pos (decide_eq_true ⟨by omega, by omega⟩) ?_
  rw [last_eq pos h6]
  refine Ev.bind (sbit F _ h64 (by omega)) (Ev.step (fun k => by simp only [spec_isFilter.j0]; exact rfl) ?_)
  unfold filtB
  cases hb : F.testBit (up.length - 1) with
  | false => exact Ev.pos rfl (Ev.some _)
  | true =>
    refine Ev.neg (by decide) ?_
    rw [Bool.true_and]
    refine ev_all (fun k i => spec_isFilter.l0 k (F : Int) (up.length : Int) i up T) up.length (closedX up T F) _ ?_ (fun e => ?_) (fun e => e)
    · intro x hx r k1 k2
      refine Ev.step (fun k => by simp only [spec_isFilter.l0]; exact rfl) (Ev.pos (by omega) ?_)
      refine ev_all (fun k i => spec_isFilter.l1 k (F : Int) (up.length : Int) (x : Int) i up T) up.length (closedAt up T F x) r ?_ (fun e => ?_) k2
      · intro y hy r q1 q2
        have rx : (rd_L1 T (x : Int)).length = up.length := A.row x hx
        have ht := A.lt x y hx hy
        unfold closedAt at q1 q2
        refine Ev.step (fun k => by simp only [spec_isFilter.l1]; exact rfl) ?_
        rw [w64s hy (by omega), show rd (rd_L1 T (x : Int)) (y : Int) = (tN T x y : Int) from A.val x y hx hy]
        refine Ev.pos (by omega) (Ev.bind (sbit F x h64 (by omega)) ?_)
        have tail : (F.testBit x = true) → (le up x y = false ∨ F.testBit y = true) → Ev (fun k => if (if F.testBit y then (1 : Int) else 0) = 1 then (if 0 ≤ (x : Int) then (if (x : Int) < (T.length : Int) then (if 0 ≤ (y : Int) then (if (y : Int) < ((rd_L1 T (x : Int)).length : Int) then ((spec_bit.f k (F : Int) (tN T x y : Int)).bind fun t704 => (if t704 = 0 then (some false) else (spec_isFilter.l1 k (F : Int) (up.length : Int) (x : Int) ((y + 1 : Nat) : Int) up T))) else (none)) else (none)) else (none)) else (none)) else (spec_isFilter.l1 k (F : Int) (up.length : Int) (x : Int) ((y + 1 : Nat) : Int) up T)) r := by
          intro e1 e2
          have e3 : (!(le up x y) || F.testBit y) = true := by
            rcases e2 with e2 | e2 <;> rw [e2] <;> simp
          rw [e1, e3] at q1 q2
          cases hy2 : F.testBit y with
          | false =>
            refine Ev.neg (by decide) (q1 ?_)
            rw [hy2]
            rfl
          | true =>
            refine Ev.pos rfl (Ev.pos (by omega) (Ev.pos (by omega) (Ev.pos (by omega) (Ev.pos (by omega) (Ev.bind (sbit F _ h64 (by omega)) ?_)))))
            cases ht2 : F.testBit (tN T x y) with
            | false =>
              rw [q2 (by rw [hy2, ht2]; rfl)]
              exact Ev.pos rfl (Ev.some _)
            | true => exact Ev.neg (by decide) (q1 (by rw [hy2, ht2]; rfl))
        cases hx2 : F.testBit x with
        | false => exact Ev.neg (by decide) (q1 (by rw [hx2]; rfl))
        | true =>
          refine Ev.pos rfl (Ev.bind (spec_below_ev A.ok hx (by omega)) ?_)
          cases hb2 : le up x y with
          | true =>
            refine Ev.pos rfl (Ev.bind (sbit F y h64 (by omega)) ?_)
            cases hy2 : F.testBit y with
            | false =>
              rw [q2 (by rw [hx2, hb2, hy2]; rfl)]
              exact Ev.pos rfl (Ev.some _)
            | true =>
              refine Ev.neg (by decide) ?_
              have := tail hx2 (.inr hy2)
              rw [hy2] at this
              exact this
          | false => exact Ev.neg (by decide) (Ev.bind (sbit F y h64 (by omega)) (tail hx2 (.inl hb2)))
      · refine Ev.step (fun k => by simp only [spec_isFilter.l1]; exact rfl) (Ev.neg (by omega) ?_)
        rw [w64s hx (by omega)]
        exact k1 e
    · refine Ev.step (fun k => by simp only [spec_isFilter.l0]; exact rfl) (Ev.neg (by omega) ?_)
      rw [show allN up.length (closedX up T F) = true from e]
      exact Ev.some _
theorem spec_isFilter_no {up : List Int} {T : List (List Int)} (A : Alg up T) {f : Int} (hF : ¬ (0 ≤ f ∧ f ≤ ((2 ^ up.length : Nat) : Int) - 1)) : Ev (fun k => spec_isFilter.f k up T f) false := by
  have h6 := A.ok.1
  unfold spec_isFilter.f
  refine Ev.bind (power_ev up.length (by omega)) ?_
  have hp := Nat.pow_le_pow_right (show 0 < 2 by decide) h6
  have hp2 := Nat.two_pow_pos up.length
  rw [w64 (x := ((2 ^ up.length : Nat) : Int) - 1) (by omega) (by omega)]
  refine Ev.bindc (inRange_eq _ 0 _) ?_
  refine Ev.neg (by rw [decide_eq_true_eq]; exact hF) (Ev.step (fun k => by simp only [spec_isFilter.j0]; exact rfl) ?_)
  exact Ev.pos trivial (Ev.some _)
theorem impl_isFilter_ev {up : List Int} {T : List (List Int)} (A : Alg up T) {F : Nat} (hF : F < 2 ^ up.length) : Ev (fun k => impl_isFilter.f k up T (F : Int)) (filtB up T F) := by
  have h6 := A.ok.1
  have pos := A.pos
  have hl := A.len
  have h64 := pow64 h6 hF
  unfold impl_isFilter.f filtB
  rw [last_eq pos h6]
  refine Ev.bindc (has_eq F _ h64) ?_
  cases hb : F.testBit (up.length - 1) with
  | false => exact Ev.neg (by decide) (Ev.some _)
  | true =>
    refine Ev.pos rfl ?_
    rw [Bool.true_and]
    refine ev_all (fun k i => impl_isFilter.l0 k (F : Int) up (up.length : Int) i up T) up.length (closedX up T F) _ ?_ (fun e => ?_) (fun e => e)
    · intro x hx r k1 k2
      refine Ev.step (fun k => by simp only [impl_isFilter.l0]; exact rfl) (Ev.pos (by omega) (Ev.pos (by omega) (Ev.pos (by omega) (Ev.bindc (has_eq F x h64) ?_))))
      cases hx2 : F.testBit x with
      | false =>
        refine Ev.neg (by decide) ?_
        rw [w64s hx (by omega)]
        refine k1 ?_
        unfold closedX
        rw [allN_iff]
        intro y hy
        unfold closedAt
        rw [hx2]
        rfl
      | true =>
        have split : closedX up T F x = (allN up.length (fun y => !(le up x y) || F.testBit y) && allN up.length (fun y => !(F.testBit y) || F.testBit (tN T x y))) := by
          rw [← allN_and]
          unfold closedX closedAt
          rw [hx2]
          rfl
        rw [split] at k1 k2
        have hr := A.ok.lt hx
        have hc : (bits .andNot .i64 (rd up (x : Int)) (F : Int) = 0) ↔ allN up.length (fun y => !(le up x y) || F.testBit y) = true := by
          rw [show rd up (x : Int) = ((rd up (x : Int)).toNat : Int) by omega, andNot0 _ _ (by omega) (by omega), allN_iff]
          constructor
          · intro h y hy
            cases hle : le up x y with
            | false => rfl
            | true => rw [h y hle]; rfl
          · intro h z hz
            have hz2 : le up x z = true := hz
            have := h z (A.ok.big hx hz2)
            rw [hz2] at this
            exact this
        refine Ev.pos rfl (Ev.ite' (fun c => ?_) (fun c => ?_))
        · rw [hc.1 c, Bool.true_and] at k1 k2
          refine ev_all (fun k i => impl_isFilter.l1 k (F : Int) (x : Int) up (up.length : Int) (x : Int) (up.length : Int) i up T) up.length (fun y => !(F.testBit y) || F.testBit (tN T x y)) r ?_ (fun e => ?_) k2
          · intro y hy r q1 q2
            have rx : (rd_L1 T (x : Int)).length = up.length := A.row x hx
            have ht := A.lt x y hx hy
            refine Ev.step (fun k => by simp only [impl_isFilter.l1]; exact rfl) ?_
            rw [w64s hy (by omega), show rd (rd_L1 T (x : Int)) (y : Int) = (tN T x y : Int) from A.val x y hx hy]
            refine Ev.pos (by omega) (Ev.bindc (has_eq F y h64) ?_)
            cases hy2 : F.testBit y with
            | false => exact Ev.neg (by decide) (q1 (by rw [hy2]; rfl))
            | true =>
              refine Ev.pos rfl (Ev.pos (by omega) (Ev.pos (by omega) (Ev.pos (by omega) (Ev.pos (by omega) (Ev.bindc (has_eq F _ h64) ?_)))))
              cases ht2 : F.testBit (tN T x y) with
              | false =>
                rw [q2 (by rw [hy2, ht2]; rfl)]
                exact Ev.neg (by decide) (Ev.some _)
              | true => exact Ev.pos rfl (q1 (by rw [hy2, ht2]; rfl))
          · refine Ev.step (fun k => by simp only [impl_isFilter.l1]; exact rfl) (Ev.neg (by omega) ?_)
            rw [w64s hx (by omega)]
            exact k1 e
        · rw [k2 ?_]
          · exact Ev.some _
          · rw [Bool.and_eq_false_iff]
            left
            rw [Bool.eq_false_iff]
            exact fun h => c (hc.2 h)
    · refine Ev.step (fun k => by simp only [impl_isFilter.l0]; exact rfl) (Ev.neg (by omega) ?_)
      rw [show allN up.length (closedX up T F) = true from e]
      exact Ev.some _
end Go.Proofs.Ytomapoenndlbiaa.M
