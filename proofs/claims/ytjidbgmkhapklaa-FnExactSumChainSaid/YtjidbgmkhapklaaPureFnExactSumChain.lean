/- For every number the program's SumChain and the reference's answer the same, in memory of its own. -/
import Derived.Test.YtjidbgmkhapklaaP32
import Derived.Test.YtjidbgmkhapklaaMFnExactSumChain
namespace Go.Proofs.Ytjidbgmkhapklaa.Pure
set_option linter.unusedVariables false
open Go.RowKit Go.Proofs.Ytjidbgmkhapklaa.P Go.Proofs.YtjidbgmkhapklaaW.PrintWords Go.Proofs.YtjidbgmkhapklaaW.PrintLast Go.Proofs.Ytjidbgmkhapklaa.M
theorem FnExactSumChain : laws_FnExactSumChain.Pure := by
  intro a _
  refine Ev.rounds (r := true) ?_
  unfold laws_FnExactSumChain.f
  have hs := spec_SumChain_ev a
  have hi := impl_SumChain_ev a
  have hm := SumChainM_sm a
  generalize SumChainM a = w at hs hi hm
  obtain ⟨U, T, b⟩ := w
  refine Ev.bind hs (Ev.bind hi (Ev.bind (eqAlgebra_same hm) (Ev.pos rfl (Ev.neg (by simp) ?_))))
  obtain ⟨q, U', T', h0, h1, h2⟩ := markAlg_ev hm
  refine Ev.bind h1 (Ev.bind h2 (Ev.neg (by omega) (Ev.pos rfl ?_)))
  exact Ev.bind hi (Ev.bind (eqAlgebra_same hm) (Ev.pos rfl (Ev.neg (by simp) (Ev.bind h2 (Ev.neg (by omega) (Ev.pos rfl (Ev.some _)))))))
end Go.Proofs.Ytjidbgmkhapklaa.Pure
