/- For every text the program's ParseTerm and the reference's answer the same, the list in memory of its own. -/
import Derived.Test.YtdcohlllbbcjoaaP25
import Derived.Test.YtdcohlllbbcjoaaMMark
import Derived.Test.YtdcohlllbbcjoaaMRead
namespace Go.Proofs.Ytdcohlllbbcjoaa.Pure
set_option linter.unusedVariables false
open Go.RowKit Go.Proofs.Ytdcohlllbbcjoaa.P Go.Proofs.YtdcohlllbbcjoaaW.PrintWords Go.Proofs.YtdcohlllbbcjoaaW.PrintLast Go.Proofs.Ytdcohlllbbcjoaa.M
theorem FnExactParseTerm : laws_FnExactParseTerm.Pure := by
  intro s _
  refine Ev.rounds (r := true) ?_
  unfold laws_FnExactParseTerm.f
  refine Ev.ite' (fun _ => Ev.some _) (fun hll => ?_)
  obtain ⟨⟨p, b⟩, hp, _, E1, E2⟩ := ParseTerm_ev s
  have hp15 : p.length ≤ 15 := hp
  have hp' : p.length ≤ 17592186044416 := by omega
  refine Ev.bind E1 (Ev.bind E2 (Ev.bind (eqIntS_same p hp') (Ev.pos rfl ?_)))
  refine Ev.step (fun k => by simp only [laws_FnExactParseTerm.j0]; exact rfl) ?_
  refine Ev.neg (by simp) (Ev.bind (markIntS_ev p 1 (by decide) (by decide) hp') (Ev.bind (heldIntS_ev 1 p.length (by decide) (by decide) hp') ?_))
  refine Ev.neg (by omega) (Ev.pos rfl (Ev.bind E2 (Ev.bind (eqIntS_same p hp') (Ev.pos rfl ?_))))
  refine Ev.step (fun k => by simp only [laws_FnExactParseTerm.j1]; exact rfl) ?_
  refine Ev.neg (by simp) (Ev.bind (heldIntS_ev 1 p.length (by decide) (by decide) hp') ?_)
  exact Ev.neg (by omega) (Ev.pos rfl (Ev.some _))
end Go.Proofs.Ytdcohlllbbcjoaa.Pure
