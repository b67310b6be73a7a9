/- For every list of numbers the program's ValidTerm and the reference's answer the same, and the arguments stay as they were. -/
import Derived.Test.YthfnjckfojikcaaP11
import Derived.Test.YthfnjckfojikcaaMInts
import Derived.Test.YthfnjckfojikcaaMTerm
namespace Go.Proofs.Ythfnjckfojikcaa.Pure
set_option linter.unusedVariables false
open Go.RowKit Go.Proofs.Ythfnjckfojikcaa.P Go.Proofs.YthfnjckfojikcaaW.PrintWords Go.Proofs.YthfnjckfojikcaaW.PrintLast Go.Proofs.Ythfnjckfojikcaa.M
theorem FnExactValidTerm : laws_FnExactValidTerm.Pure := by
  intro l _ h8 _
  refine Ev.rounds (r := true) ?_
  unfold laws_FnExactValidTerm.f
  refine Ev.ite' (fun _ => Ev.some _) (fun hll => ?_)
  have hl' : l.length ≤ 17592186044416 := by omega
  refine Ev.bind (toIntS_ev l hl') (Ev.bind (spec_ValidTerm_ev l (by omega)) (Ev.bind (toIntS_ev l hl') (Ev.bind (impl_ValidTerm_ev l (by omega)) ?_)))
  refine Ev.neg (by simp) ?_
  exact Ev.bind (toIntS_ev l hl') (Ev.bind (eqIntS_same l hl') (Ev.pos rfl (Ev.some _)))
end Go.Proofs.Ythfnjckfojikcaa.Pure
