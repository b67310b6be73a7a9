/- For every algebra, valid or not, and all two numbers the program's PowerOf and the reference's answer the same, and the algebra stays as it was. -/
import Derived.Test.YtkndndgladdmcaaP37
import Derived.Test.YtkndndgladdmcaaMAlgLaw
import Derived.Test.YtkndndgladdmcaaMAlgOf
namespace Go.Proofs.Ytkndndgladdmcaa.Pure
set_option linter.unusedVariables false
open Go.RowKit Go.Proofs.Ytkndndgladdmcaa.P Go.Proofs.YtkndndgladdmcaaW.PrintWords Go.Proofs.YtkndndgladdmcaaW.PrintLast Go.Proofs.Ytkndndgladdmcaa.M
theorem FnExactPowerOf : laws_FnExactPowerOf.Pure := by
  intro up T x m h0 h1 h2 h3 _ _
  refine Ev.rounds (r := true) ?_
  unfold laws_FnExactPowerOf.f
  obtain ⟨s, hs, hc⟩ := szAlgebra_ev up T 1048576 (by decide) (by decide) h0 h2 (fun r hr => (h3 r hr).1)
  refine Ev.bind hs ?_
  rcases hc with hc | ⟨hc, _, hm⟩
  · exact Ev.pos hc (Ev.some _)
  refine Ev.neg (by omega) ?_
  have hl : up.length ≤ 17592186044416 := by have := hm.1; omega
  refine Ev.bind (toAlgebra_ev hm) (Ev.bind (spec_PowerOf_ev up T x m hl) (Ev.bind (toAlgebra_ev hm) (Ev.bind (impl_PowerOf_ev up T x m hl) ?_)))
  exact Ev.pos rfl (Ev.bind (toAlgebra_ev hm) (Ev.bind (eqAlgebra_same hm) (Ev.pos rfl (Ev.some _))))
end Go.Proofs.Ytkndndgladdmcaa.Pure
