/- Of whatever text is drawn: the program's ParseTerm and the reference's say the same; and where there is a term, TermText of it is the text. -/
import Derived.Test.YtdcohlllbbcjoaaP31
import Derived.Test.YtdcohlllbbcjoaaMTmMut
import Derived.Test.YtdcohlllbbcjoaaMEqInts
import Derived.Test.YtdcohlllbbcjoaaMRead
namespace Go.Proofs.Ytdcohlllbbcjoaa.Pure
set_option linter.unusedVariables false
open Go.RowKit Go.Proofs.Ytdcohlllbbcjoaa.P Go.Proofs.YtdcohlllbbcjoaaW.PrintWords Go.Proofs.YtdcohlllbbcjoaaW.PrintLast Go.Proofs.Ytdcohlllbbcjoaa.M
theorem FnParseTerm : laws_FnParseTerm.Pure := by
  intro l0 _ h8 hw
  refine Ev.rounds (r := true) ?_
  unfold laws_FnParseTerm.f
  refine Ev.ite' (fun _ => Ev.some _) (fun hll => ?_)
  obtain ⟨s, hd⟩ := parse_draw l0 hw
  obtain ⟨x, hx15, hx, E1, E2⟩ := ParseTerm_ev s
  have hl : x.1.length ≤ 17592186044416 := by omega
  refine Ev.bind hd (Ev.bind E2 (Ev.bind E1 (Ev.bind (eqInts_same x.1 hl) (Ev.pos rfl (Ev.neg (by simp) ?_)))))
  refine Ev.step (fun k => by simp only [laws_FnParseTerm.j0]; exact rfl) ?_
  rcases hx with ⟨t, hT, rfl⟩ | ⟨_, rfl⟩
  · have E := impl_TermText_tm t hT.1 hT.2.2
    have hv := impl_ValidTerm_ev t.enc (by have := hT.2.2; omega)
    rw [(termB_tm t.enc).2 ⟨t, hT.1, rfl, hT.2.2⟩] at hv
    refine Ev.neg (by simp) (Ev.bind E (Ev.pos ?_ (Ev.bind hv (Ev.some _))))
    rw [bs_toList, ByteArray.toList_eq]
    exact hT.2.1.symm
  · exact Ev.pos rfl (Ev.bind (eqInts_same ([] : List Int) (by decide)) (Ev.pos rfl (Ev.some _)))
end Go.Proofs.Ytdcohlllbbcjoaa.Pure
