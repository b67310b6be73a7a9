/- The elements with a property: the program and the reference list the same. -/
import Derived.Test.YtkndndgladdmcaaP47
import Derived.Test.YtkndndgladdmcaaP48
import Derived.Test.YtkndndgladdmcaaP52
import Derived.Test.YtkndndgladdmcaaP53
import Derived.Test.YtkndndgladdmcaaMHolds
import Derived.Test.YtkndndgladdmcaaMListN
namespace Go.Proofs.Ytkndndgladdmcaa.M
set_option linter.unusedVariables false
open Go.RowKit Go.Proofs.YtkndndgladdmcaaW.PrintWords Go.Proofs.YtkndndgladdmcaaW.PrintLast Go.Proofs.YtkndndgladdmcaaW.PrintMore Go.Proofs.Ytkndndgladdmcaa.P
def withM (up : List Int) (T : List (List Int)) (p : Nat) : List Int := if algB up T = true then listN (fun x => holdsN up T x x p) up.length else []
theorem withM_len (up : List Int) (T : List (List Int)) (p : Nat) : (withM up T p).length ≤ 6 := by
  unfold withM
  split
  · rename_i h
    exact Nat.le_trans (listN_len _ _) (Alg.of h).ok.1
  · simp
theorem elementsWith_ev (up : List Int) (T : List (List Int)) (a : ByteArray) (hl : up.length ≤ 17592186044416) : Ev (fun k => impl_elementsWith.f k up T a) (withM up T (propN a)) := by
  unfold impl_elementsWith.f withM
  refine Ev.bind (impl_ValidAlgebra_ev up T hl) ?_
  cases hb : algB up T with
  | false => exact Ev.neg (by decide) (Ev.some _)
  | true =>
    have A := Alg.of hb
    have h6 := A.ok.1
    refine Ev.pos rfl ?_
    rw [if_pos rfl]
    refine ev_list (fun k s i => impl_elementsWith.l0 k a s (up.length : Int) i up T) up.length (fun x => holdsN up T x x (propN a)) _ ?_ ?_
    · intro x hx s hs r k1 k2
      refine Ev.step (fun k => by simp only [impl_elementsWith.l0]; exact rfl) (Ev.pos (by omega) (Ev.bind (impl_holds_ev A a hx hx) ?_))
      rw [w64s hx (by omega)]
      cases hh : holdsN up T x x (propN a) with
      | true => exact Ev.pos rfl (Ev.pos (by omega) (k1 hh))
      | false => exact Ev.neg (by decide) (k2 hh)
    · exact Ev.step (fun k => by simp only [impl_elementsWith.l0]; exact rfl) (Ev.neg (by omega) (Ev.some _))
def SharpOfM (up : List Int) (T : List (List Int)) : List Int := withM up T 4
theorem SharpOfM_len (up : List Int) (T : List (List Int)) : (SharpOfM up T).length ≤ 6 := withM_len up T 4
def FixedOfM (up : List Int) (T : List (List Int)) : List Int := withM up T 3
theorem FixedOfM_len (up : List Int) (T : List (List Int)) : (FixedOfM up T).length ≤ 6 := withM_len up T 3
theorem impl_SharpOf_ev (up : List Int) (T : List (List Int)) (hl : up.length ≤ 17592186044416) : Ev (fun k => impl_SharpOf.f k up T) (SharpOfM up T) := by
  unfold impl_SharpOf.f SharpOfM
  have h := elementsWith_ev up T (⟨#[98, 111, 111, 108, 101, 97, 110]⟩ : ByteArray) hl
  rw [show propN (⟨#[98, 111, 111, 108, 101, 97, 110]⟩ : ByteArray) = 4 from by decide +kernel] at h
  exact Ev.bind h (Ev.some _)
theorem impl_FixedOf_ev (up : List Int) (T : List (List Int)) (hl : up.length ≤ 17592186044416) : Ev (fun k => impl_FixedOf.f k up T) (FixedOfM up T) := by
  unfold impl_FixedOf.f FixedOfM
  have h := elementsWith_ev up T (⟨#[105, 100, 101, 109, 112, 111, 116, 101, 110, 116]⟩ : ByteArray) hl
  rw [show propN (⟨#[105, 100, 101, 109, 112, 111, 116, 101, 110, 116]⟩ : ByteArray) = 3 from by decide +kernel] at h
  exact Ev.bind h (Ev.some _)
theorem spec_SharpOf_ev (up : List Int) (T : List (List Int)) (hl : up.length ≤ 17592186044416) : Ev (fun k => spec_SharpOf.f k up T) (SharpOfM up T) := by
  unfold spec_SharpOf.f SharpOfM withM
  refine Ev.bind (spec_validAlgebra_ev up T hl) ?_
  cases hb : algB up T with
  | false => exact Ev.neg (by decide) (Ev.some _)
  | true =>
    have A := Alg.of hb
    have h6 := A.ok.1
    refine Ev.pos rfl ?_
    rw [if_pos rfl]
    refine ev_list (fun k s i => spec_SharpOf.l0 k s i up T) up.length (fun x => holdsN up T x x 4) _ ?_ ?_
    · intro x hx s hs r k1 k2
      have a3 := imply_lt A x 0
      refine Ev.step (fun k => by simp only [spec_SharpOf.l0]; exact rfl) (Ev.pos (by omega) (Ev.bind (spec_not_ev A hx) (Ev.bind (sjoin A.lat hx a3) ?_)))
      rw [w64s hx (by omega), last_eq A.pos h6]
      by_cases c : joinN up x (implyN up T x 0) = up.length - 1
      · exact Ev.pos (by omega) (Ev.pos (by omega) (k1 (decide_eq_true c)))
      · exact Ev.neg (by omega) (k2 (decide_eq_false c))
    · exact Ev.step (fun k => by simp only [spec_SharpOf.l0]; exact rfl) (Ev.neg (by omega) (Ev.some _))
theorem spec_FixedOf_ev (up : List Int) (T : List (List Int)) (hl : up.length ≤ 17592186044416) : Ev (fun k => spec_FixedOf.f k up T) (FixedOfM up T) := by
  unfold spec_FixedOf.f FixedOfM withM
  refine Ev.bind (spec_validAlgebra_ev up T hl) ?_
  cases hb : algB up T with
  | false => exact Ev.neg (by decide) (Ev.some _)
  | true =>
    have A := Alg.of hb
    have h6 := A.ok.1
    have hlT := A.len
    refine Ev.pos rfl ?_
    rw [if_pos rfl]
    refine ev_list (fun k s i => spec_FixedOf.l0 k s i up T) up.length (fun x => holdsN up T x x 3) _ ?_ ?_
    · intro x hx s hs r k1 k2
      have rx : (rd_L1 T (x : Int)).length = up.length := A.row x hx
      refine Ev.step (fun k => by simp only [spec_FixedOf.l0]; exact rfl) (Ev.pos (by omega) (Ev.pos (by omega) (Ev.pos (by omega) (Ev.pos (by omega) ?_))))
      rw [w64s hx (by omega), show rd (rd_L1 T (x : Int)) (x : Int) = (tN T x x : Int) from A.val x x hx hx]
      by_cases c : tN T x x = x
      · exact Ev.pos (by omega) (Ev.pos (by omega) (k1 (decide_eq_true c)))
      · exact Ev.neg (by omega) (k2 (decide_eq_false c))
    · exact Ev.step (fun k => by simp only [spec_FixedOf.l0]; exact rfl) (Ev.neg (by omega) (Ev.some _))
end Go.Proofs.Ytkndndgladdmcaa.M
