/- For every algebra, valid or not, the program's IsSimple and the reference's answer the same, and the algebra stays as it was. -/
import Derived.Test.YtkndndgladdmcaaP67
import Derived.Test.YtkndndgladdmcaaMAlgLaw
import Derived.Test.YtkndndgladdmcaaMFilts
namespace Go.Proofs.Ytkndndgladdmcaa.Pure
set_option linter.unusedVariables false
open Go.RowKit Go.Proofs.Ytkndndgladdmcaa.P Go.Proofs.YtkndndgladdmcaaW.PrintWords Go.Proofs.YtkndndgladdmcaaW.PrintLast Go.Proofs.Ytkndndgladdmcaa.M
theorem FnExactIsSimple : laws_FnExactIsSimple.Pure := by
  intro up T h0 h1 h2 h3
  refine Ev.rounds (r := true) ?_
  unfold laws_FnExactIsSimple.f
  obtain ⟨s, hs, hc⟩ := szAlgebra_ev up T 1048576 (by decide) (by decide) h0 h2 (fun r hr => (h3 r hr).1)
  refine Ev.bind hs ?_
  rcases hc with hc | ⟨hc, _, hm⟩
  · exact Ev.pos hc (Ev.some _)
  refine Ev.neg (by omega) ?_
  have hl : up.length ≤ 17592186044416 := by have := hm.1; omega
  refine Ev.bind (toAlgebra_ev hm) (Ev.bind (spec_IsSimple_ev up T hl) (Ev.bind (toAlgebra_ev hm) (Ev.bind (impl_IsSimple_ev up T hl) ?_)))
  exact Ev.neg (by simp) (Ev.bind (toAlgebra_ev hm) (Ev.bind (eqAlgebra_same hm) (Ev.pos rfl (Ev.some _))))
end Go.Proofs.Ytkndndgladdmcaa.Pure
