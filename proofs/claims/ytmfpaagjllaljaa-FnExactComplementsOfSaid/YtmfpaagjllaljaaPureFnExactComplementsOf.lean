/- For every list of numbers and every number the program's ComplementsOf and the reference's answer the same list, in memory of its own, and the arguments stay as they were. -/
import Derived.Test.YtmfpaagjllaljaaP47
import Derived.Test.YtmfpaagjllaljaaMMark
import Derived.Test.YtmfpaagjllaljaaMCompl
namespace Go.Proofs.Ytmfpaagjllaljaa.Pure
set_option linter.unusedVariables false
open Go.RowKit Go.Proofs.Ytmfpaagjllaljaa.P Go.Proofs.YtmfpaagjllaljaaW.PrintWords Go.Proofs.YtmfpaagjllaljaaW.PrintLast Go.Proofs.Ytmfpaagjllaljaa.M
theorem FnExactComplementsOf : laws_FnExactComplementsOf.Pure := by
  intro l x _ h8 _ _
  refine Ev.rounds (r := true) ?_
  unfold laws_FnExactComplementsOf.f
  refine Ev.ite' (fun _ => Ev.some _) (fun hll => ?_)
  have hl' : l.length ≤ 17592186044416 := by omega
  have hw : (ComplementsOfM l x).length ≤ 17592186044416 := Nat.le_trans (ComplementsOfM_len l x) (by decide)
  generalize hg : ComplementsOfM l x = w at hw
  have hs := spec_ComplementsOf_ev l x hl'
  have hi := impl_ComplementsOf_ev l x hl'
  rw [hg] at hs hi
  refine Ev.bind (toIntS_ev l hl') ?_
  refine Ev.bind hs ?_
  refine Ev.bind (toIntS_ev l hl') ?_
  refine Ev.bind hi (Ev.bind (eqIntS_same w hw) (Ev.pos rfl ?_))
  refine Ev.bind (toIntS_ev l hl') (Ev.bind (eqIntS_same l hl') (Ev.pos rfl ?_))
  refine Ev.bind (markIntS_ev l 1 (by decide) (by decide) hl') ?_
  refine Ev.neg (by simp only; omega) (Ev.bind (eqIntS_same w hw) ?_)
  refine Ev.step (fun k => by simp only [laws_FnExactComplementsOf.j0]; exact rfl) ?_
  refine Ev.neg (by decide) (Ev.bind (markIntS_ev w 1 (by decide) (by decide) hw) (Ev.bind (heldIntS_ev 1 w.length (by decide) (by decide) hw) ?_))
  refine Ev.neg (by omega) (Ev.pos rfl ?_)
  refine Ev.bind (toIntS_ev l hl') ?_
  refine Ev.bind hi (Ev.bind (eqIntS_same w hw) (Ev.pos rfl (Ev.bind (heldIntS_ev 1 w.length (by decide) (by decide) hw) ?_)))
  exact Ev.neg (by omega) (Ev.pos rfl (Ev.some _))
end Go.Proofs.Ytmfpaagjllaljaa.Pure
