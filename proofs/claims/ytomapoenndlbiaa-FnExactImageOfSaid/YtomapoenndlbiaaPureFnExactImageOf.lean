/- For any two algebras, valid or not, and every list the program's ImageOf and the reference's answer the same, and what was given stays as it was. -/
import Derived.Test.YtomapoenndlbiaaP34
import Derived.Test.YtomapoenndlbiaaMFnExactImageOf
namespace Go.Proofs.Ytomapoenndlbiaa.Pure
set_option linter.unusedVariables false
open Go.RowKit Go.Proofs.Ytomapoenndlbiaa.P Go.Proofs.YtomapoenndlbiaaW.PrintWords Go.Proofs.YtomapoenndlbiaaW.PrintLast Go.Proofs.Ytomapoenndlbiaa.M
theorem FnExactImageOf : laws_FnExactImageOf.Pure := by
  intro a Ta b Tb f h0 h1 h2 h3 g0 g1 g2 g3 _ _ _
  refine Ev.rounds (r := true) ?_
  unfold laws_FnExactImageOf.f
  refine Ev.ite' (fun _ => Ev.some _) fun hj => ?_
  obtain ⟨s, hs, hc⟩ := szAlgebra_ev a Ta 1048576 (by decide) (by decide) h0 h2 (fun r hr => (h3 r hr).1)
  refine Ev.bind hs ?_
  rcases hc with hc | ⟨hc, hc2, hm⟩
  · exact Ev.pos hc (Ev.some _)
  obtain ⟨s', hs', hd⟩ := szAlgebra_ev b Tb s hc hc2 g0 g2 (fun r hr => (g3 r hr).1)
  refine Ev.neg (by omega) (Ev.bind hs' ?_)
  rcases hd with hd | ⟨hd, _, hn⟩
  · exact Ev.pos hd (Ev.some _)
  refine Ev.neg (by omega) ?_
  have hl : a.length ≤ 17592186044416 := by have := hm.1; omega
  have hl' : b.length ≤ 17592186044416 := by have := hn.1; omega
  have hf : f.length ≤ 17592186044416 := by omega
  have ha := toAlgebra_ev hm
  have hb := toAlgebra_ev hn
  have ht := toIntS_ev f hf
  refine Ev.bind ha (Ev.bind hb (Ev.bind ht (Ev.bind (spec_ImageOf_ev a Ta b Tb f hl hl') (Ev.bind ha (Ev.bind hb (Ev.bind ht (Ev.bind (impl_ImageOf_ev a Ta b Tb f hl hl') ?_)))))))
  refine Ev.pos rfl (Ev.bind ha (Ev.bind (eqAlgebra_same hm) (Ev.pos rfl (Ev.bind hb (Ev.bind (eqAlgebra_same hn) (Ev.pos rfl ?_))))))
  exact Ev.bind ht (Ev.bind (eqIntS_same f hf) (Ev.pos rfl (Ev.some _)))
end Go.Proofs.Ytomapoenndlbiaa.Pure
