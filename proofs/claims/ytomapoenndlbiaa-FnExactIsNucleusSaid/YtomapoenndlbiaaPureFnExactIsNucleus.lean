/- For every algebra, valid or not, and every list the program's IsNucleus and the reference's answer the same, and what was given stays as it was. -/
import Derived.Test.YtomapoenndlbiaaP26
import Derived.Test.YtomapoenndlbiaaMAlgLaw
import Derived.Test.YtomapoenndlbiaaMNuc
namespace Go.Proofs.Ytomapoenndlbiaa.Pure
set_option linter.unusedVariables false
open Go.RowKit Go.Proofs.Ytomapoenndlbiaa.P Go.Proofs.YtomapoenndlbiaaW.PrintWords Go.Proofs.YtomapoenndlbiaaW.PrintLast Go.Proofs.Ytomapoenndlbiaa.M
theorem FnExactIsNucleus : laws_FnExactIsNucleus.Pure := by
  intro up T j h0 h1 h2 h3 _ _ _
  refine Ev.rounds (r := true) ?_
  unfold laws_FnExactIsNucleus.f
  refine Ev.ite' (fun _ => Ev.some _) fun hj => ?_
  obtain ⟨s, hs, hc⟩ := szAlgebra_ev up T 1048576 (by decide) (by decide) h0 h2 (fun r hr => (h3 r hr).1)
  refine Ev.bind hs ?_
  rcases hc with hc | ⟨hc, _, hm⟩
  · exact Ev.pos hc (Ev.some _)
  refine Ev.neg (by omega) ?_
  have hl : up.length ≤ 17592186044416 := by have := hm.1; omega
  have hjl : j.length ≤ 17592186044416 := by omega
  refine Ev.bind (toAlgebra_ev hm) (Ev.bind (toIntS_ev j hjl) (Ev.bind (spec_IsNucleus_ev up T j hl) (Ev.bind (toAlgebra_ev hm) (Ev.bind (toIntS_ev j hjl) (Ev.bind (impl_IsNucleus_ev up T j hl) ?_)))))
  refine Ev.neg (by simp) (Ev.bind (toAlgebra_ev hm) (Ev.bind (eqAlgebra_same hm) (Ev.pos rfl ?_)))
  exact Ev.bind (toIntS_ev j hjl) (Ev.bind (eqIntS_same j hjl) (Ev.pos rfl (Ev.some _)))
end Go.Proofs.Ytomapoenndlbiaa.Pure
