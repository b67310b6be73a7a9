/- For every list of sizes the program's StackOfSums and the reference's answer the same, in memory of its own, and the list stays as it was. -/
import Derived.Test.YtjidbgmkhapklaaP54
import Derived.Test.YtjidbgmkhapklaaMFnExactStackOfSums
namespace Go.Proofs.Ytjidbgmkhapklaa.Pure
set_option linter.unusedVariables false
open Go.RowKit Go.Proofs.Ytjidbgmkhapklaa.P Go.Proofs.YtjidbgmkhapklaaW.PrintWords Go.Proofs.YtjidbgmkhapklaaW.PrintLast Go.Proofs.Ytjidbgmkhapklaa.M
theorem FnExactStackOfSums : laws_FnExactStackOfSums.Pure := by
  intro l _ h8 _
  refine Ev.rounds (r := true) ?_
  unfold laws_FnExactStackOfSums.f
  refine Ev.ite' (fun _ => Ev.some _) (fun hll => ?_)
  have hl' : l.length ≤ 17592186044416 := by omega
  have hs := spec_StackOfSums_ev l hl'
  have hi := impl_StackOfSums_ev l hl'
  have hm := StackOfSumsM_sm l
  generalize StackOfSumsM l = w at hs hi hm
  obtain ⟨U, T, b⟩ := w
  have ht := toIntS_ev l hl'
  refine Ev.bind ht (Ev.bind hs (Ev.bind ht (Ev.bind hi (Ev.bind (eqAlgebra_same hm) (Ev.pos rfl (Ev.neg (by simp) ?_))))))
  refine Ev.bind ht (Ev.bind (eqIntS_same l hl') (Ev.pos rfl ?_))
  refine Ev.bind (markIntS_ev l 1 (by decide) (by decide) hl') ?_
  refine Ev.neg (by simp only; omega) (Ev.bind (eqAlgebra_same hm) (Ev.pos rfl ?_))
  obtain ⟨q, U', T', h0, h1, h2⟩ := markAlg_ev hm
  refine Ev.bind h1 (Ev.bind h2 (Ev.neg (by omega) (Ev.pos rfl ?_)))
  exact Ev.bind ht (Ev.bind hi (Ev.bind (eqAlgebra_same hm) (Ev.pos rfl (Ev.neg (by simp) (Ev.bind h2 (Ev.neg (by omega) (Ev.pos rfl (Ev.some _))))))))
end Go.Proofs.Ytjidbgmkhapklaa.Pure
