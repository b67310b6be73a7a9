/- For any two algebras, valid or not, the program's StackAlgebras and the reference's answer the same, in memory of its own, and the algebras stay as they were. -/
import Derived.Test.YtjidbgmkhapklaaP29
import Derived.Test.YtjidbgmkhapklaaMFnExactStackAlgebras
namespace Go.Proofs.Ytjidbgmkhapklaa.Pure
set_option linter.unusedVariables false
open Go.RowKit Go.Proofs.Ytjidbgmkhapklaa.P Go.Proofs.YtjidbgmkhapklaaW.PrintWords Go.Proofs.YtjidbgmkhapklaaW.PrintLast Go.Proofs.Ytjidbgmkhapklaa.M
theorem FnExactStackAlgebras : laws_FnExactStackAlgebras.Pure := by
  intro a Ta b Tb h0 h1 h2 h3 g0 g1 g2 g3
  refine Ev.rounds (r := true) ?_
  unfold laws_FnExactStackAlgebras.f
  obtain ⟨s, hs, hc⟩ := szAlgebra_ev a Ta 1048576 (by decide) (by decide) h0 h2 (fun r hr => (h3 r hr).1)
  refine Ev.bind hs ?_
  rcases hc with hc | ⟨hc, hc2, hm⟩
  · exact Ev.pos hc (Ev.some _)
  obtain ⟨s', hs', hd⟩ := szAlgebra_ev b Tb s hc hc2 g0 g2 (fun r hr => (g3 r hr).1)
  refine Ev.neg (by omega) (Ev.bind hs' ?_)
  rcases hd with hd | ⟨hd, _, hn⟩
  · exact Ev.pos hd (Ev.some _)
  refine Ev.neg (by omega) ?_
  have hl : a.length ≤ 17592186044416 := by have := hm.1; omega
  have hl' : b.length ≤ 17592186044416 := by have := hn.1; omega
  have hsp := spec_StackAlgebras_ev a Ta b Tb hl hl'
  have hi := impl_StackAlgebras_ev a Ta b Tb hl hl'
  have hw := StackAlgebrasM_sm a Ta b Tb
  generalize StackAlgebrasM a Ta b Tb = w at hsp hi hw
  obtain ⟨U, T, c⟩ := w
  have ha := toAlgebra_ev hm
  have hb := toAlgebra_ev hn
  refine Ev.bind ha (Ev.bind hb (Ev.bind hsp (Ev.bind ha (Ev.bind hb (Ev.bind hi (Ev.bind (eqAlgebra_same hw) (Ev.pos rfl (Ev.neg (by simp) ?_))))))))
  refine Ev.bind ha (Ev.bind (eqAlgebra_same hm) (Ev.pos rfl (Ev.bind hb (Ev.bind (eqAlgebra_same hn) (Ev.pos rfl ?_)))))
  obtain ⟨q1, U1, T1, e1, e2, e3⟩ := markAlgK_ev hm 1 (by decide) (by decide)
  obtain ⟨q2, U2, T2, e4, e5, e6⟩ := markAlgK_ev hn q1 e1 (by omega)
  refine Ev.bind e3 (Ev.bind e6 ?_)
  refine (Ev.neg (show ¬ q2 < 0 by omega) (Ev.bind (eqAlgebra_same hw) (Ev.pos rfl ?_)))
  obtain ⟨q, U', T', f0, f1, f2⟩ := markAlg_ev hw
  refine Ev.bind f1 (Ev.bind f2 (Ev.neg (by omega) (Ev.pos rfl ?_)))
  exact Ev.bind ha (Ev.bind hb (Ev.bind hi (Ev.bind (eqAlgebra_same hw) (Ev.pos rfl (Ev.neg (by simp) (Ev.bind f2 (Ev.neg (by omega) (Ev.pos rfl (Ev.some _)))))))))
end Go.Proofs.Ytjidbgmkhapklaa.Pure
