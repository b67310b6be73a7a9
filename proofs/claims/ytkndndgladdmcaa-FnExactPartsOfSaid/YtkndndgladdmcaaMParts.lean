/- Sets of elements that are closed: the program and the reference list the same. -/
import Derived.Test.YtkndndgladdmcaaP74
import Derived.Test.YtkndndgladdmcaaP76
import Derived.Test.YtkndndgladdmcaaP75
import Derived.Test.YtkndndgladdmcaaP77
import Derived.Test.YtkndndgladdmcaaMFilt
import Derived.Test.YtkndndgladdmcaaMListN
import Derived.Test.YtkndndgladdmcaaMAlgFn
namespace Go.Proofs.Ytkndndgladdmcaa.M
set_option linter.unusedVariables false
open Go.RowKit Go.Proofs.YtkndndgladdmcaaW.PrintWords Go.Proofs.YtkndndgladdmcaaW.PrintLast Go.Proofs.YtkndndgladdmcaaW.PrintMore Go.Proofs.Ytkndndgladdmcaa.P

theorem smeetP {up : List Int} (hb : latB up = true) {x y : Nat} (hx : x < up.length) (hy : y < up.length) : Ev (fun k => spec_meet.f k up (x : Int) (y : Int)) (meetN up x y : Int) :=
  Ev.eq (spec_meet_ev (latB_ok hb).1 hx hy) (meetN_int hb hx hy)
theorem imeetP {up : List Int} (hb : latB up = true) {x y : Nat} (hx : x < up.length) (hy : y < up.length) : Ev (fun k => impl_meet.f k up (x : Int) (y : Int)) (meetN up x y : Int) :=
  Ev.eq (impl_meet_ev (latB_ok hb).1 hx hy) (meetN_int hb hx hy)
def four (up : List Int) (T : List (List Int)) (F x y : Nat) : Bool := F.testBit (tN T x y) && (F.testBit (implyN up T x y) && (F.testBit (meetN up x y) && F.testBit (joinN up x y)))
def partAt (up : List Int) (T : List (List Int)) (F x y : Nat) : Bool := !(F.testBit x) || (!(F.testBit y) || four up T F x y)
def partB (up : List Int) (T : List (List Int)) (F : Nat) : Bool := F.testBit 0 && (F.testBit (up.length - 1) && allN up.length fun x => allN up.length (partAt up T F x))
theorem spec_isPart_ev {up : List Int} {T : List (List Int)} (A : Alg up T) {F : Nat} (hF : F < 2 ^ up.length) : Ev (fun k => spec_isPart.f k up T (F : Int)) (partB up T F) := by
  have h6 := A.ok.1
  have pos := A.pos
  have hl := A.len
  have h64 := pow64 h6 hF
  have hp := pow_le64 h6
  unfold spec_isPart.f
  refine Ev.bind (power_ev up.length (by omega)) ?_
  rw [w64 (x := ((2 ^ up.length : Nat) : Int) - 1) (by omega) (by omega)]
  refine Ev.bindc (inRange_eq _ 0 _) (Ev.pos (decide_eq_true ⟨by omega, by omega⟩) ?_)
  rw [last_eq pos h6]
  unfold partB
  have hj : ∀ b r, (b = true → r = false) → (b = false → Ev (fun k => spec_isPart.l0 k (F : Int) (up.length : Int) 0 up T) r) → Ev (fun k => spec_isPart.j0 k (F : Int) (up.length : Int) b up T) r := by
    intro b r h1 h2
    refine Ev.step (fun k => by simp only [spec_isPart.j0]; exact rfl) ?_
    cases b with
    | true =>
      rw [h1 rfl]
      exact Ev.pos rfl (Ev.some _)
    | false => exact Ev.neg (by decide) (h2 rfl)
  refine Ev.bind (sbit F 0 h64 (by omega)) ?_
  cases h0 : F.testBit 0 with
  | false => exact Ev.pos rfl (hj _ _ (fun _ => rfl) (fun e => by cases e))
  | true =>
    refine Ev.neg (by decide) (Ev.bind (sbit F _ h64 (by omega)) ?_)
    cases hb : F.testBit (up.length - 1) with
    | false => exact hj _ _ (fun _ => rfl) (fun e => by cases e)
    | true =>
      refine hj _ _ (fun e => by cases e) fun _ => ?_
      rw [Bool.true_and, Bool.true_and]
      refine ev_all (fun k i => spec_isPart.l0 k (F : Int) (up.length : Int) i up T) up.length (fun x => allN up.length (partAt up T F x)) _ ?_ (fun e => ?_) (fun e => e)
      · intro x hx r k1 k2
        refine Ev.step (fun k => by simp only [spec_isPart.l0]; exact rfl) (Ev.pos (by omega) ?_)
        refine ev_all (fun k i => spec_isPart.l1 k (F : Int) (up.length : Int) (x : Int) i up T) up.length (partAt up T F x) r ?_ (fun e => ?_) k2
        · intro y hy r q1 q2
          have rx : (rd_L1 T (x : Int)).length = up.length := A.row x hx
          have ht := A.lt x y hx hy
          have hi := imply_lt A x y
          have hm := mlt A.lat hx hy
          have hjn := jlt A.lat hx hy
          unfold partAt at q1 q2
          refine Ev.step (fun k => by simp only [spec_isPart.l1]; exact rfl) ?_
          rw [w64s hy (by omega), show rd (rd_L1 T (x : Int)) (y : Int) = (tN T x y : Int) from A.val x y hx hy]
          refine Ev.pos (by omega) (Ev.bind (sbit F x h64 (by omega)) ?_)
          cases hx2 : F.testBit x with
          | false => exact Ev.neg (by decide) (q1 (by rw [hx2]; rfl))
          | true =>
            refine Ev.pos rfl (Ev.bind (sbit F y h64 (by omega)) ?_)
            cases hy2 : F.testBit y with
            | false => exact Ev.neg (by decide) (q1 (by rw [hx2, hy2]; rfl))
            | true =>
              rw [hx2, hy2] at q1 q2
              unfold four at q1 q2
              refine Ev.pos rfl (Ev.pos (by omega) (Ev.pos (by omega) (Ev.pos (by omega) (Ev.pos (by omega) (Ev.bind (sbit F _ h64 (by omega)) ?_)))))
              cases c1 : F.testBit (tN T x y) with
              | false =>
                rw [q2 (by rw [c1]; rfl)]
                exact Ev.pos rfl (Ev.some _)
              | true =>
                refine Ev.neg (by decide) (Ev.bind (spec_imply_ev A hx hy) (Ev.bind (sbit F _ h64 (by omega)) ?_))
                cases c2 : F.testBit (implyN up T x y) with
                | false =>
                  rw [q2 (by rw [c1, c2]; rfl)]
                  exact Ev.pos rfl (Ev.some _)
                | true =>
                  refine Ev.neg (by decide) (Ev.bind (smeetP A.lat hx hy) (Ev.bind (sbit F _ h64 (by omega)) ?_))
                  cases c3 : F.testBit (meetN up x y) with
                  | false =>
                    rw [q2 (by rw [c1, c2, c3]; rfl)]
                    exact Ev.pos rfl (Ev.some _)
                  | true =>
                    refine Ev.neg (by decide) (Ev.bind (sjoin A.lat hx hy) (Ev.bind (sbit F _ h64 (by omega)) ?_))
                    cases c4 : F.testBit (joinN up x y) with
                    | false =>
                      rw [q2 (by rw [c1, c2, c3, c4]; rfl)]
                      exact Ev.pos rfl (Ev.some _)
                    | true => exact Ev.neg (by decide) (q1 (by rw [c1, c2, c3, c4]; rfl))
        · refine Ev.step (fun k => by simp only [spec_isPart.l1]; exact rfl) (Ev.neg (by omega) ?_)
          rw [w64s hx (by omega)]
          exact k1 e
      · refine Ev.step (fun k => by simp only [spec_isPart.l0]; exact rfl) (Ev.neg (by omega) ?_)
        rw [show (allN up.length fun x => allN up.length (partAt up T F x)) = true from e]
        exact Ev.some _
theorem impl_isPart_ev {up : List Int} {T : List (List Int)} (A : Alg up T) {F : Nat} (hF : F < 2 ^ up.length) : Ev (fun k => impl_isPart.f k up T (F : Int)) (partB up T F) := by
  have h6 := A.ok.1
  have pos := A.pos
  have hl := A.len
  have h64 := pow64 h6 hF
  unfold impl_isPart.f
  rw [last_eq pos h6]
  unfold partB
  have hj : ∀ b r, (b = true → r = false) → (b = false → Ev (fun k => impl_isPart.l0 k (F : Int) (up.length : Int) 0 up T) r) → Ev (fun k => impl_isPart.j0 k (F : Int) b up T) r := by
    intro b r h1 h2
    refine Ev.step (fun k => by simp only [impl_isPart.j0]; exact rfl) ?_
    cases b with
    | true =>
      rw [h1 rfl]
      exact Ev.pos rfl (Ev.some _)
    | false => exact Ev.neg (by decide) (h2 rfl)
  refine Ev.bindc (has_eq F 0 h64) ?_
  cases h0 : F.testBit 0 with
  | false => exact Ev.neg (by decide) (hj _ _ (fun _ => rfl) (fun e => by cases e))
  | true =>
    refine Ev.pos rfl (Ev.bindc (has_eq F _ h64) ?_)
    cases hb : F.testBit (up.length - 1) with
    | false => exact hj _ _ (fun _ => rfl) (fun e => by cases e)
    | true =>
      refine hj _ _ (fun e => by cases e) fun _ => ?_
      rw [Bool.true_and, Bool.true_and]
      refine ev_all (fun k i => impl_isPart.l0 k (F : Int) (up.length : Int) i up T) up.length (fun x => allN up.length (partAt up T F x)) _ ?_ (fun e => ?_) (fun e => e)
      · intro x hx r k1 k2
        refine Ev.step (fun k => by simp only [impl_isPart.l0]; exact rfl) (Ev.pos (by omega) ?_)
        refine ev_all (fun k i => impl_isPart.l1 k (F : Int) (x : Int) (up.length : Int) (x : Int) (up.length : Int) i up T) up.length (partAt up T F x) r ?_ (fun e => ?_) k2
        · intro y hy r q1 q2
          have rx : (rd_L1 T (x : Int)).length = up.length := A.row x hx
          have ht := A.lt x y hx hy
          have hi := imply_lt A x y
          have hm := mlt A.lat hx hy
          have hjn := jlt A.lat hx hy
          unfold partAt at q1 q2
          have skip : Ev (fun k => impl_isPart.l1 k (F : Int) (x : Int) (up.length : Int) (x : Int) (up.length : Int) ((y + 1 : Nat) : Int) up T) r → Ev (fun k => impl_isPart.j3 k (F : Int) (x : Int) (y : Int) (up.length : Int) (x : Int) (up.length : Int) (y : Int) true up T) r := by
            intro h
            refine Ev.step (fun k => by simp only [impl_isPart.j3]; exact rfl) ?_
            rw [w64s hy (by omega)]
            exact Ev.pos trivial h
          refine Ev.step (fun k => by simp only [impl_isPart.l1]; exact rfl) (Ev.pos (by omega) (Ev.bindc (has_eq F x h64) ?_))
          cases hx2 : F.testBit x with
          | false => exact Ev.neg (by decide) (skip (q1 (by rw [hx2]; rfl)))
          | true =>
            refine Ev.pos rfl (Ev.bindc (has_eq F y h64) ?_)
            cases hy2 : F.testBit y with
            | false => exact skip (q1 (by rw [hx2, hy2]; rfl))
            | true =>
              rw [hx2, hy2] at q1 q2
              unfold four at q1 q2
              refine Ev.step (fun k => by simp only [impl_isPart.j3]; exact rfl) ?_
              rw [w64s hy (by omega), show rd (rd_L1 T (x : Int)) (y : Int) = (tN T x y : Int) from A.val x y hx hy]
              refine Ev.neg (by decide) (Ev.pos (by omega) (Ev.pos (by omega) (Ev.pos (by omega) (Ev.pos (by omega) (Ev.bindc (has_eq F _ h64) ?_)))))
              cases c1 : F.testBit (tN T x y) with
              | false =>
                rw [q2 (by rw [c1]; rfl)]
                exact Ev.neg (by decide) (Ev.some _)
              | true =>
                refine Ev.pos rfl (Ev.bind (impl_imply_ev A hx hy) (Ev.bindc (has_eq F _ h64) ?_))
                cases c2 : F.testBit (implyN up T x y) with
                | false =>
                  rw [q2 (by rw [c1, c2]; rfl)]
                  exact Ev.neg (by decide) (Ev.some _)
                | true =>
                  refine Ev.pos rfl (Ev.bind (imeetP A.lat hx hy) (Ev.bindc (has_eq F _ h64) ?_))
                  cases c3 : F.testBit (meetN up x y) with
                  | false =>
                    rw [q2 (by rw [c1, c2, c3]; rfl)]
                    exact Ev.neg (by decide) (Ev.some _)
                  | true =>
                    refine Ev.pos rfl (Ev.bind (ijoin A.lat hx hy) (Ev.bindc (has_eq F _ h64) ?_))
                    cases c4 : F.testBit (joinN up x y) with
                    | false =>
                      rw [q2 (by rw [c1, c2, c3, c4]; rfl)]
                      exact Ev.neg (by decide) (Ev.some _)
                    | true => exact Ev.pos rfl (q1 (by rw [c1, c2, c3, c4]; rfl))
        · refine Ev.step (fun k => by simp only [impl_isPart.l1]; exact rfl) (Ev.neg (by omega) ?_)
          rw [w64s hx (by omega)]
          exact k1 e
      · refine Ev.step (fun k => by simp only [impl_isPart.l0]; exact rfl) (Ev.neg (by omega) ?_)
        rw [show (allN up.length fun x => allN up.length (partAt up T F x)) = true from e]
        exact Ev.some _
def PartsOfM (up : List Int) (T : List (List Int)) : List Int := if algB up T = true then listN (partB up T) (2 ^ up.length) else []
theorem PartsOfM_len (up : List Int) (T : List (List Int)) : (PartsOfM up T).length ≤ 64 := by
  unfold PartsOfM
  split
  · rename_i h
    exact Nat.le_trans (listN_len _ _) (pow_le64 (Alg.of h).ok.1)
  · simp
theorem spec_PartsOf_ev (up : List Int) (T : List (List Int)) (hl : up.length ≤ 17592186044416) : Ev (fun k => spec_PartsOf.f k up T) (PartsOfM up T) := by
  unfold spec_PartsOf.f PartsOfM
  refine Ev.bind (spec_validAlgebra_ev up T hl) ?_
  cases hb : algB up T with
  | false => exact Ev.neg (by decide) (Ev.some _)
  | true =>
    have A := Alg.of hb
    have h6 := A.ok.1
    have h64 := pow_le64 h6
    rw [if_pos rfl]
    refine Ev.pos rfl ?_
    refine ev_list (fun k s i => spec_PartsOf.l0 k s i up T) (2 ^ up.length) (partB up T) _ ?_ ?_
    · intro F hF s hs r k1 k2
      refine Ev.step (fun k => by simp only [spec_PartsOf.l0]; exact rfl) (Ev.bind (power_ev up.length (by omega)) ?_)
      refine Ev.pos (by omega) (Ev.bind (spec_isPart_ev A hF) ?_)
      rw [w64s hF (by omega)]
      cases hf : partB up T F with
      | true => exact Ev.pos rfl (Ev.pos (by omega) (k1 hf))
      | false => exact Ev.neg (by decide) (k2 hf)
    · refine Ev.step (fun k => by simp only [spec_PartsOf.l0]; exact rfl) (Ev.bind (power_ev up.length (by omega)) ?_)
      exact Ev.neg (by omega) (Ev.some _)
theorem impl_PartsOf_ev (up : List Int) (T : List (List Int)) (hl : up.length ≤ 17592186044416) : Ev (fun k => impl_PartsOf.f k up T) (PartsOfM up T) := by
  unfold impl_PartsOf.f PartsOfM
  refine Ev.bind (impl_ValidAlgebra_ev up T hl) ?_
  cases hb : algB up T with
  | false => exact Ev.neg (by decide) (Ev.some _)
  | true =>
    have A := Alg.of hb
    have h6 := A.ok.1
    have h64 := pow_le64 h6
    rw [if_pos rfl]
    refine Ev.pos rfl ?_
    refine ev_list (fun k s i => impl_PartsOf.l0 k s i up T) (2 ^ up.length) (partB up T) _ ?_ ?_
    · intro F hF s hs r k1 k2
      refine Ev.step (fun k => by simp only [impl_PartsOf.l0]; exact rfl) ?_
      rw [shl1 up.length (by omega)]
      refine Ev.pos (by omega) (Ev.bind (impl_isPart_ev A hF) ?_)
      rw [w64s hF (by omega)]
      cases hf : partB up T F with
      | true => exact Ev.pos rfl (Ev.pos (by omega) (k1 hf))
      | false => exact Ev.neg (by decide) (k2 hf)
    · refine Ev.step (fun k => by simp only [impl_PartsOf.l0]; exact rfl) ?_
      rw [shl1 up.length (by omega)]
      exact Ev.neg (by omega) (Ev.some _)
end Go.Proofs.Ytkndndgladdmcaa.M
