/- For every algebra, valid or not, the program's HeartOf and the reference's answer the same, and the algebra stays as it was. -/
import Derived.Test.YtomapoenndlbiaaP54
import Derived.Test.YtomapoenndlbiaaMAlgLaw
import Derived.Test.YtomapoenndlbiaaMHeartOf
namespace Go.Proofs.Ytomapoenndlbiaa.Pure
set_option linter.unusedVariables false
open Go.RowKit Go.Proofs.Ytomapoenndlbiaa.P Go.Proofs.YtomapoenndlbiaaW.PrintWords Go.Proofs.YtomapoenndlbiaaW.PrintLast Go.Proofs.Ytomapoenndlbiaa.M
theorem FnExactHeartOf : laws_FnExactHeartOf.Pure := by
  intro up T h0 h1 h2 h3
  refine Ev.rounds (r := true) ?_
  unfold laws_FnExactHeartOf.f
  obtain ⟨s, hs, hc⟩ := szAlgebra_ev up T 1048576 (by decide) (by decide) h0 h2 (fun r hr => (h3 r hr).1)
  refine Ev.bind hs ?_
  rcases hc with hc | ⟨hc, _, hm⟩
  · exact Ev.pos hc (Ev.some _)
  refine Ev.neg (by omega) ?_
  have hl : up.length ≤ 17592186044416 := by have := hm.1; omega
  refine Ev.bind (toAlgebra_ev hm) (Ev.bind (spec_HeartOf_ev up T hl) (Ev.bind (toAlgebra_ev hm) (Ev.bind (impl_HeartOf_ev up T hl) ?_)))
  exact Ev.pos rfl (Ev.step (fun k => by simp only [laws_FnExactHeartOf.j0]; exact rfl) (Ev.neg (by simp) (Ev.bind (toAlgebra_ev hm) (Ev.bind (eqAlgebra_same hm) (Ev.pos rfl (Ev.some _))))))
end Go.Proofs.Ytomapoenndlbiaa.Pure
