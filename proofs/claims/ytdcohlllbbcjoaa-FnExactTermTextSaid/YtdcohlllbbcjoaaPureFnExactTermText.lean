/- For every list of numbers the program's TermText and the reference's answer the same text, and the arguments stay as they were. -/
import Derived.Test.YtdcohlllbbcjoaaP12
import Derived.Test.YtdcohlllbbcjoaaMInts
import Derived.Test.YtdcohlllbbcjoaaMTm
namespace Go.Proofs.Ytdcohlllbbcjoaa.Pure
set_option linter.unusedVariables false
open Go.RowKit Go.Proofs.Ytdcohlllbbcjoaa.P Go.Proofs.YtdcohlllbbcjoaaW.PrintWords Go.Proofs.YtdcohlllbbcjoaaW.PrintLast Go.Proofs.Ytdcohlllbbcjoaa.M
theorem FnExactTermText : laws_FnExactTermText.Pure := by
  intro l _ h8 _
  refine Ev.rounds (r := true) ?_
  unfold laws_FnExactTermText.f
  refine Ev.ite' (fun _ => Ev.some _) (fun hll => ?_)
  have hl' : l.length ≤ 17592186044416 := by omega
  obtain ⟨s, hs, hi⟩ := TermText_ev l (by omega)
  refine Ev.bind (toIntS_ev l hl') (Ev.bind hs (Ev.bind (toIntS_ev l hl') (Ev.bind hi (Ev.pos rfl ?_))))
  exact Ev.bind (toIntS_ev l hl') (Ev.bind (eqIntS_same l hl') (Ev.pos rfl (Ev.some _)))
end Go.Proofs.Ytdcohlllbbcjoaa.Pure
