/- For every algebra, valid or not, and every text the program's HasProperty and the reference's answer the same, and the algebra stays as it was. -/
import Derived.Test.YtkndndgladdmcaaP46
import Derived.Test.YtkndndgladdmcaaMAlgLaw
import Derived.Test.YtkndndgladdmcaaMProp
namespace Go.Proofs.Ytkndndgladdmcaa.Pure
set_option linter.unusedVariables false
open Go.RowKit Go.Proofs.Ytkndndgladdmcaa.P Go.Proofs.YtkndndgladdmcaaW.PrintWords Go.Proofs.YtkndndgladdmcaaW.PrintLast Go.Proofs.Ytkndndgladdmcaa.M
theorem FnExactHasProperty : laws_FnExactHasProperty.Pure := by
  intro a up T _ h0 h1 h2 h3
  refine Ev.rounds (r := true) ?_
  unfold laws_FnExactHasProperty.f
  refine Ev.ite' (fun _ => Ev.some _) (fun _ => ?_)
  obtain ⟨s, hs, hc⟩ := szAlgebra_ev up T 1048576 (by decide) (by decide) h0 h2 (fun r hr => (h3 r hr).1)
  refine Ev.bind hs ?_
  rcases hc with hc | ⟨hc, _, hm⟩
  · exact Ev.pos hc (Ev.some _)
  refine Ev.neg (by omega) ?_
  have hl : up.length ≤ 17592186044416 := by have := hm.1; omega
  refine Ev.bind (toAlgebra_ev hm) (Ev.bind (spec_HasProperty_ev a up T hl) (Ev.bind (toAlgebra_ev hm) (Ev.bind (impl_HasProperty_ev a up T hl) ?_)))
  exact Ev.neg (by simp) (Ev.bind (toAlgebra_ev hm) (Ev.bind (eqAlgebra_same hm) (Ev.pos rfl (Ev.some _))))
end Go.Proofs.Ytkndndgladdmcaa.Pure
