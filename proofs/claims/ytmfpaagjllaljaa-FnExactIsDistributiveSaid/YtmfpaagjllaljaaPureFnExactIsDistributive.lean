/- For every list of numbers the program's IsDistributive and the reference's answer the same, and the list stays as it was. -/
import Derived.Test.YtmfpaagjllaljaaP35
import Derived.Test.YtmfpaagjllaljaaMInts
import Derived.Test.YtmfpaagjllaljaaMDistr
namespace Go.Proofs.Ytmfpaagjllaljaa.Pure
open Go.RowKit Go.Proofs.Ytmfpaagjllaljaa.P Go.Proofs.YtmfpaagjllaljaaW.PrintWords Go.Proofs.YtmfpaagjllaljaaW.PrintLast Go.Proofs.Ytmfpaagjllaljaa.M
theorem FnExactIsDistributive : laws_FnExactIsDistributive.Pure := by
  intro l _ h8 _
  refine Ev.rounds (r := true) ?_
  unfold laws_FnExactIsDistributive.f
  refine Ev.ite' (fun _ => Ev.some _) (fun hl => ?_)
  have hl' : l.length ≤ 17592186044416 := by omega
  refine Ev.bind (toIntS_ev l hl') (Ev.bind (spec_IsDistributive_ev l hl') (Ev.bind (toIntS_ev l hl') (Ev.bind (impl_IsDistributive_ev l hl') ?_)))
  first
    | refine Ev.neg (by simp) (Ev.bind (toIntS_ev l hl') (Ev.bind (eqIntS_same l hl') ?_)); exact Ev.pos rfl (Ev.some _)
    | refine Ev.pos rfl (Ev.bind (toIntS_ev l hl') (Ev.bind (eqIntS_same l hl') ?_)); exact Ev.pos rfl (Ev.some _)
end Go.Proofs.Ytmfpaagjllaljaa.Pure
