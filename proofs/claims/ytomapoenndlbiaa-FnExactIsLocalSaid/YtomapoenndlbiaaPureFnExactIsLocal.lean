/- For every algebra, valid or not, the program's IsLocal and the reference's answer the same, and the algebra stays as it was. -/
import Derived.Test.YtomapoenndlbiaaP49
import Derived.Test.YtomapoenndlbiaaMAlgLaw
import Derived.Test.YtomapoenndlbiaaMLocal
namespace Go.Proofs.Ytomapoenndlbiaa.Pure
set_option linter.unusedVariables false
open Go.RowKit Go.Proofs.Ytomapoenndlbiaa.P Go.Proofs.YtomapoenndlbiaaW.PrintWords Go.Proofs.YtomapoenndlbiaaW.PrintLast Go.Proofs.Ytomapoenndlbiaa.M
theorem FnExactIsLocal : laws_FnExactIsLocal.Pure := by
  intro up T h0 h1 h2 h3
  refine Ev.rounds (r := true) ?_
  unfold laws_FnExactIsLocal.f
  obtain ⟨s, hs, hc⟩ := szAlgebra_ev up T 1048576 (by decide) (by decide) h0 h2 (fun r hr => (h3 r hr).1)
  refine Ev.bind hs ?_
  rcases hc with hc | ⟨hc, _, hm⟩
  · exact Ev.pos hc (Ev.some _)
  refine Ev.neg (by omega) ?_
  have hl : up.length ≤ 17592186044416 := by have := hm.1; omega
  refine Ev.bind (toAlgebra_ev hm) (Ev.bind (spec_IsLocal_ev up T hl) (Ev.bind (toAlgebra_ev hm) (Ev.bind (impl_IsLocal_ev up T hl) ?_)))
  exact Ev.neg (by simp) (Ev.bind (toAlgebra_ev hm) (Ev.bind (eqAlgebra_same hm) (Ev.pos rfl (Ev.some _))))
end Go.Proofs.Ytomapoenndlbiaa.Pure
