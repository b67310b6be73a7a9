/- The laws' comparison of two lists that are one. -/
import Derived.Test.YtjijfflifonjoaaP22
import Derived.Test.YtjijfflifonjoaaMA
namespace Go.Proofs.Ytjijfflifonjoaa.M
set_option linter.unusedVariables false
open Go.RowKit Go.Proofs.YtjijfflifonjoaaW.PrintWords Go.Proofs.YtjijfflifonjoaaW.PrintLast Go.Proofs.YtjijfflifonjoaaW.PrintMore Go.Proofs.Ytjijfflifonjoaa.P
theorem eqInts_same (a : List Int) (ha : a.length ≤ 17592186044416) : Ev (fun k => laws_equalInts.f k a a) true := by
  unfold laws_equalInts.f
  refine Ev.pos rfl ?_
  refine ev_inv (fun k (_ : Unit) i => laws_equalInts.l0 k a a i) a.length (fun _ _ => True) true ?_ ?_ a.length 0 () (by omega) trivial
  · intro i hi _ _
    refine ⟨(), trivial, fun h => ?_⟩
    refine Ev.step (fun k => by simp only [laws_equalInts.l0]; exact rfl) ?_
    refine Ev.pos (by omega) (Ev.pos (by omega) (Ev.pos (by omega) (Ev.pos trivial ?_)))
    rw [w64s hi (by omega)]
    exact h
  · intro _ _
    refine Ev.step (fun k => by simp only [laws_equalInts.l0]; exact rfl) ?_
    exact Ev.neg (by omega) (Ev.some _)
end Go.Proofs.Ytjijfflifonjoaa.M
