/- Complements: the program and the reference list the same. -/
import Derived.Test.YtmfpaagjllaljaaP45
import Derived.Test.YtmfpaagjllaljaaP46
import Derived.Test.YtmfpaagjllaljaaMCovers
namespace Go.Proofs.Ytmfpaagjllaljaa.M
set_option linter.unusedVariables false
open Go.RowKit Go.Proofs.YtmfpaagjllaljaaW.PrintWords Go.Proofs.YtmfpaagjllaljaaW.PrintLast Go.Proofs.YtmfpaagjllaljaaW.PrintMore Go.Proofs.Ytmfpaagjllaljaa.P

def complB (up : List Int) (x y : Nat) : Bool := decide (meetM up x y = 0) && decide (joinM up x y = (up.length : Int) - 1)
def ComplementsOfM (up : List Int) (x : Int) : List Int := if (latB up && (inB up x && inB up x)) = true then listN (complB up x.toNat) up.length else []
theorem ComplementsOfM_len (up : List Int) (x : Int) : (ComplementsOfM up x).length ≤ 6 := by
  unfold ComplementsOfM
  split
  · rename_i h
    exact Nat.le_trans (listN_len _ _) (good_cases h).1.1
  · simp
theorem spec_ComplementsOf_ev (up : List Int) (x : Int) (hl : up.length ≤ 17592186044416) : Ev (fun k => spec_ComplementsOf.f k up x) (ComplementsOfM up x) := by
  unfold spec_ComplementsOf.f ComplementsOfM
  refine Ev.bind (good_ev up x x hl) ?_
  cases hg : (latB up && (inB up x && inB up x)) with
  | false => exact Ev.neg (by decide) (Ev.some _)
  | true =>
    obtain ⟨h, h1, a, b, rfl, _, ha, hb⟩ := good_cases hg
    have h6 := h.1
    rw [if_pos rfl, Int.toNat_natCast]
    refine Ev.pos rfl ?_
    refine ev_list (fun k s i => spec_ComplementsOf.l0 k up (a : Int) s i) up.length (complB up a) _ ?_ ?_
    · intro y hy s hs r k1 k2
      refine Ev.step (fun k => by simp only [spec_ComplementsOf.l0]; exact rfl) ?_
      refine Ev.pos (by omega) (Ev.bind (spec_meet_ev h ha hy) ?_)
      rw [w64s hy (by omega), w64 (x := (up.length : Int) - 1) (by omega) (by omega)]
      refine Ev.ite' (fun c1 => Ev.bind (spec_join_ev h ha hy) ?_) (fun c1 => k2 (by rw [complB, decide_eq_false c1]; rfl))
      exact Ev.ite' (fun c2 => Ev.pos (by omega) (k1 (by rw [complB, decide_eq_true c1, decide_eq_true c2]; rfl))) (fun c2 => k2 (by rw [complB, decide_eq_false c2, Bool.and_false]))
    · refine Ev.step (fun k => by simp only [spec_ComplementsOf.l0]; exact rfl) ?_
      exact Ev.neg (by omega) (Ev.some _)
theorem impl_ComplementsOf_ev (up : List Int) (x : Int) (hl : up.length ≤ 17592186044416) : Ev (fun k => impl_ComplementsOf.f k up x) (ComplementsOfM up x) := by
  unfold impl_ComplementsOf.f ComplementsOfM
  refine Ev.bind (latticeAt_ev up [x] hl (by simp)) ?_
  rw [one_in]
  cases hg : (latB up && (inB up x && inB up x)) with
  | false => exact Ev.neg (by decide) (Ev.some _)
  | true =>
    obtain ⟨h, h1, a, b, rfl, _, ha, hb⟩ := good_cases hg
    have h6 := h.1
    rw [if_pos rfl, Int.toNat_natCast]
    refine Ev.pos rfl ?_
    refine ev_list (fun k s i => impl_ComplementsOf.l0 k up (a : Int) s (up.length : Int) i) up.length (complB up a) _ ?_ ?_
    · intro y hy s hs r k1 k2
      refine Ev.step (fun k => by simp only [impl_ComplementsOf.l0]; exact rfl) ?_
      refine Ev.pos (by omega) (Ev.bind (impl_meet_ev h ha hy) ?_)
      rw [w64s hy (by omega), w64 (x := (up.length : Int) - 1) (by omega) (by omega)]
      refine Ev.ite' (fun c1 => Ev.bind (impl_join_ev h ha hy) ?_) (fun c1 => k2 (by rw [complB, decide_eq_false c1]; rfl))
      exact Ev.ite' (fun c2 => Ev.pos (by omega) (k1 (by rw [complB, decide_eq_true c1, decide_eq_true c2]; rfl))) (fun c2 => k2 (by rw [complB, decide_eq_false c2, Bool.and_false]))
    · refine Ev.step (fun k => by simp only [impl_ComplementsOf.l0]; exact rfl) ?_
      exact Ev.neg (by omega) (Ev.some _)
end Go.Proofs.Ytmfpaagjllaljaa.M
