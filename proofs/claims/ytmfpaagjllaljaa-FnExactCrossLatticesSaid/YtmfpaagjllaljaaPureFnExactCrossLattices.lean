/- For every list of numbers (two of them) the program's CrossLattices and the reference's answer the same list, in memory of its own, and the arguments stay as they were. -/
import Derived.Test.YtmfpaagjllaljaaP44
import Derived.Test.YtmfpaagjllaljaaMMark
import Derived.Test.YtmfpaagjllaljaaMCross
namespace Go.Proofs.Ytmfpaagjllaljaa.Pure
set_option linter.unusedVariables false
open Go.RowKit Go.Proofs.Ytmfpaagjllaljaa.P Go.Proofs.YtmfpaagjllaljaaW.PrintWords Go.Proofs.YtmfpaagjllaljaaW.PrintLast Go.Proofs.Ytmfpaagjllaljaa.M
theorem FnExactCrossLattices : laws_FnExactCrossLattices.Pure := by
  intro l m _ h8 _ _ h8m _
  refine Ev.rounds (r := true) ?_
  unfold laws_FnExactCrossLattices.f
  refine Ev.ite' (fun _ => Ev.some _) (fun hll => ?_)
  have hl' : l.length ≤ 17592186044416 := by omega
  refine Ev.ite' (fun _ => Ev.some _) (fun hlm => ?_)
  have hm' : m.length ≤ 17592186044416 := by omega
  have hw : (CrossLatticesM l m).length ≤ 17592186044416 := Nat.le_trans (CrossLatticesM_len l m) (by decide)
  generalize hg : CrossLatticesM l m = w at hw
  have hs := spec_CrossLattices_ev l m hl' hm'
  have hi := impl_CrossLattices_ev l m hl' hm'
  rw [hg] at hs hi
  refine Ev.bind (toIntS_ev l hl') ?_
  refine Ev.bind (toIntS_ev m hm') ?_
  refine Ev.bind hs ?_
  refine Ev.bind (toIntS_ev l hl') ?_
  refine Ev.bind (toIntS_ev m hm') ?_
  refine Ev.bind hi (Ev.bind (eqIntS_same w hw) (Ev.pos rfl ?_))
  refine Ev.bind (toIntS_ev l hl') (Ev.bind (eqIntS_same l hl') (Ev.pos rfl ?_))
  refine Ev.bind (toIntS_ev m hm') (Ev.bind (eqIntS_same m hm') (Ev.pos rfl ?_))
  refine Ev.bind (markIntS_ev l 1 (by decide) (by decide) hl') ?_
  refine Ev.bind (markIntS_ev m (1 + (l.length : Int)) (by omega) (by omega) hm') ?_
  refine Ev.neg (by simp only; omega) (Ev.bind (eqIntS_same w hw) ?_)
  refine Ev.step (fun k => by simp only [laws_FnExactCrossLattices.j0]; exact rfl) ?_
  refine Ev.neg (by decide) (Ev.bind (markIntS_ev w 1 (by decide) (by decide) hw) (Ev.bind (heldIntS_ev 1 w.length (by decide) (by decide) hw) ?_))
  refine Ev.neg (by omega) (Ev.pos rfl ?_)
  refine Ev.bind (toIntS_ev l hl') ?_
  refine Ev.bind (toIntS_ev m hm') ?_
  refine Ev.bind hi (Ev.bind (eqIntS_same w hw) (Ev.pos rfl (Ev.bind (heldIntS_ev 1 w.length (by decide) (by decide) hw) ?_)))
  exact Ev.neg (by omega) (Ev.pos rfl (Ev.some _))
end Go.Proofs.Ytmfpaagjllaljaa.Pure
