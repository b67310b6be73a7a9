/- For every algebra, valid or not, the program's GreatestFilters and the reference's answer the same list, in memory of its own, and the algebra stays as it was. -/
import Derived.Test.YtomapoenndlbiaaP44
import Derived.Test.YtomapoenndlbiaaMAlgMark
import Derived.Test.YtomapoenndlbiaaMGreatF
namespace Go.Proofs.Ytomapoenndlbiaa.Pure
set_option linter.unusedVariables false
open Go.RowKit Go.Proofs.Ytomapoenndlbiaa.P Go.Proofs.YtomapoenndlbiaaW.PrintWords Go.Proofs.YtomapoenndlbiaaW.PrintLast Go.Proofs.Ytomapoenndlbiaa.M
theorem FnExactGreatestFilters : laws_FnExactGreatestFilters.Pure := by
  intro up T h0 h1 h2 h3
  refine Ev.rounds (r := true) ?_
  unfold laws_FnExactGreatestFilters.f
  obtain ⟨s, hs, hc⟩ := szAlgebra_ev up T 1048576 (by decide) (by decide) h0 h2 (fun r hr => (h3 r hr).1)
  refine Ev.bind hs ?_
  rcases hc with hc | ⟨hc, _, hm⟩
  · exact Ev.pos hc (Ev.some _)
  refine Ev.neg (by omega) ?_
  have hl : up.length ≤ 17592186044416 := by have := hm.1; omega
  have hw : (GreatestFiltersM up T).length ≤ 17592186044416 := Nat.le_trans (GreatestFiltersM_len up T) (by decide)
  have hs := spec_GreatestFilters_ev up T hl
  have hi := impl_GreatestFilters_ev up T hl
  generalize GreatestFiltersM up T = w at hw hs hi
  refine Ev.bind (toAlgebra_ev hm) (Ev.bind hs (Ev.bind (toAlgebra_ev hm) (Ev.bind hi (Ev.bind (eqIntS_same w hw) (Ev.pos rfl ?_)))))
  refine Ev.bind (toAlgebra_ev hm) (Ev.bind (eqAlgebra_same hm) (Ev.pos rfl ?_))
  obtain ⟨m, hmk, hm0⟩ := markAlgebra_ev hm
  refine Ev.bind hmk (Ev.neg (by omega) (Ev.bind (eqIntS_same w hw) ?_))
  refine Ev.step (fun k => by simp only [laws_FnExactGreatestFilters.j0]; exact rfl) ?_
  refine Ev.neg (by decide) (Ev.bind (markIntS_ev w 1 (by decide) (by decide) hw) (Ev.bind (heldIntS_ev 1 w.length (by decide) (by decide) hw) ?_))
  refine Ev.neg (by omega) (Ev.pos rfl ?_)
  refine Ev.bind (toAlgebra_ev hm) (Ev.bind hi (Ev.bind (eqIntS_same w hw) (Ev.pos rfl (Ev.bind (heldIntS_ev 1 w.length (by decide) (by decide) hw) ?_))))
  exact Ev.neg (by omega) (Ev.pos rfl (Ev.some _))
end Go.Proofs.Ytomapoenndlbiaa.Pure
