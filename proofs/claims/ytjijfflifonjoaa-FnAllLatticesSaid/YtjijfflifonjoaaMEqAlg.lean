/- The laws' comparison of two algebras that are one. -/
import Derived.Test.YtjijfflifonjoaaP23
import Derived.Test.YtjijfflifonjoaaMEqInts
namespace Go.Proofs.Ytjijfflifonjoaa.M
set_option linter.unusedVariables false
open Go.RowKit Go.Proofs.YtjijfflifonjoaaW.PrintWords Go.Proofs.YtjijfflifonjoaaW.PrintLast Go.Proofs.YtjijfflifonjoaaW.PrintMore Go.Proofs.Ytjijfflifonjoaa.P
theorem eqLists_same (a : List (List Int)) (ha : a.length ≤ 17592186044416) (hr : ∀ i < a.length, (rd_L1 a (i : Int)).length ≤ 17592186044416) : Ev (fun k => laws_equalLists.f k a a) true := by
  unfold laws_equalLists.f
  refine Ev.pos rfl ?_
  refine ev_inv (fun k (_ : Unit) i => laws_equalLists.l0 k a a i) a.length (fun _ _ => True) true ?_ ?_ a.length 0 () (by omega) trivial
  · intro i hi _ _
    refine ⟨(), trivial, fun h => ?_⟩
    refine Ev.step (fun k => by simp only [laws_equalLists.l0]; exact rfl) ?_
    refine Ev.pos (by omega) (Ev.pos (by omega) (Ev.pos (by omega) (Ev.bind (eqInts_same _ (hr i hi)) (Ev.pos rfl ?_))))
    rw [w64s hi (by omega)]
    exact h
  · intro _ _
    refine Ev.step (fun k => by simp only [laws_equalLists.l0]; exact rfl) ?_
    exact Ev.neg (by omega) (Ev.some _)
end Go.Proofs.Ytjijfflifonjoaa.M
