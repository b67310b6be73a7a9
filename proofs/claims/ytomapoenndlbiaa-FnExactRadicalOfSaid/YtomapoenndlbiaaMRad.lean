/- RadicalOf: the program and the reference answer the same. -/
import Derived.Test.YtomapoenndlbiaaP45
import Derived.Test.YtomapoenndlbiaaP46
import Derived.Test.YtomapoenndlbiaaMGreat
namespace Go.Proofs.Ytomapoenndlbiaa.M
set_option linter.unusedVariables false
open Go.RowKit Go.Proofs.YtomapoenndlbiaaW.PrintWords Go.Proofs.YtomapoenndlbiaaW.PrintLast Go.Proofs.YtomapoenndlbiaaW.PrintMore Go.Proofs.Ytomapoenndlbiaa.P

def radL (L : List Int) (s : Int) : Int := foldL (fun i s => bits .and .i64 s (rd L (i : Int))) L.length 0 s
def RadicalOfM (up : List Int) (T : List (List Int)) : Int := if algB up T = true then radL (greatN up T) (((2 ^ up.length : Nat) : Int) - 1) else -1
theorem spec_rad {L : List Int} (h : L.length ≤ 64) (s : Int) : Ev (fun k => spec_RadicalOf.l0 k s L 0) (radL L s) := by
  refine ev_fold (fun k s i => spec_RadicalOf.l0 k s L i) L.length (fun i s => bits .and .i64 s (rd L (i : Int))) (fun _ _ => True) (fun s => s) ?_ ?_ L.length 0 s (by omega) trivial
  · intro i hi s _
    refine ⟨trivial, fun r k => ?_⟩
    refine Ev.step (fun k => by simp only [spec_RadicalOf.l0]; exact rfl) (Ev.pos (by omega) (Ev.pos (by omega) ?_))
    rw [w64s hi (by omega)]
    exact k
  · intro s _
    exact Ev.step (fun k => by simp only [spec_RadicalOf.l0]; exact rfl) (Ev.neg (by omega) (Ev.some _))
theorem impl_rad {L : List Int} (h : L.length ≤ 64) (s : Int) : Ev (fun k => impl_RadicalOf.l0 k s L (L.length : Int) 0) (radL L s) := by
  refine ev_fold (fun k s i => impl_RadicalOf.l0 k s L (L.length : Int) i) L.length (fun i s => bits .and .i64 s (rd L (i : Int))) (fun _ _ => True) (fun s => s) ?_ ?_ L.length 0 s (by omega) trivial
  · intro i hi s _
    refine ⟨trivial, fun r k => ?_⟩
    refine Ev.step (fun k => by simp only [impl_RadicalOf.l0]; exact rfl) (Ev.pos (by omega) (Ev.pos (by omega) (Ev.pos (by omega) ?_)))
    rw [w64s hi (by omega)]
    exact k
  · intro s _
    exact Ev.step (fun k => by simp only [impl_RadicalOf.l0]; exact rfl) (Ev.neg (by omega) (Ev.some _))
theorem spec_RadicalOf_ev (up : List Int) (T : List (List Int)) (hl : up.length ≤ 17592186044416) : Ev (fun k => spec_RadicalOf.f k up T) (RadicalOfM up T) := by
  unfold spec_RadicalOf.f RadicalOfM
  refine Ev.bind (spec_validAlgebra_ev up T hl) ?_
  cases hb : algB up T with
  | false => exact Ev.neg (by decide) (Ev.some _)
  | true =>
    have A := Alg.of hb
    have h6 := A.ok.1
    have hp := pow_le64 h6
    have hp2 := Nat.two_pow_pos up.length
    refine Ev.pos rfl (Ev.bind (power_ev up.length (by omega)) (Ev.bind (spec_greatest_ev A) ?_))
    rw [w64 (x := ((2 ^ up.length : Nat) : Int) - 1) (by omega) (by omega)]
    exact spec_rad (great_small T h6).1 _
theorem impl_RadicalOf_ev (up : List Int) (T : List (List Int)) (hl : up.length ≤ 17592186044416) : Ev (fun k => impl_RadicalOf.f k up T) (RadicalOfM up T) := by
  unfold impl_RadicalOf.f RadicalOfM
  refine Ev.bind (impl_ValidAlgebra_ev up T hl) ?_
  cases hb : algB up T with
  | false => exact Ev.neg (by decide) (Ev.some _)
  | true =>
    have A := Alg.of hb
    have h6 := A.ok.1
    have hp := pow_le64 h6
    have hp2 := Nat.two_pow_pos up.length
    refine Ev.pos rfl (Ev.bind (impl_greatest_ev A) ?_)
    rw [shl1 up.length (by omega), w64 (x := ((2 ^ up.length : Nat) : Int) - 1) (by omega) (by omega)]
    exact impl_rad (great_small T h6).1 _
end Go.Proofs.Ytomapoenndlbiaa.M
