/- Of whatever numbers are drawn: the program's ValidTerm and the reference's say the same; with 12 ahead of it a term is one, if it is not too long, and it has a text. -/
import Derived.Test.YtdcohlllbbcjoaaP17
import Derived.Test.YtdcohlllbbcjoaaP18
import Derived.Test.YtdcohlllbbcjoaaMTmDraw
namespace Go.Proofs.Ytdcohlllbbcjoaa.Pure
set_option linter.unusedVariables false
open Go.RowKit Go.Proofs.Ytdcohlllbbcjoaa.P Go.Proofs.YtdcohlllbbcjoaaW.PrintWords Go.Proofs.YtdcohlllbbcjoaaW.PrintLast Go.Proofs.Ytdcohlllbbcjoaa.M
theorem FnValidTerm : laws_FnValidTerm.Pure := by
  intro l0 _ h8 hw
  refine Ev.rounds (r := true) ?_
  unfold laws_FnValidTerm.f
  refine Ev.ite' (fun _ => Ev.some _) (fun hll => ?_)
  obtain ⟨src, hr, hs⟩ := reader_eq l0 hw
  obtain ⟨l, m, hl, he⟩ := someTerm_draw hs 0 (by decide)
  have hd : Ev (fun k => spec_DrawValidTerm.f k l0) l := by
    unfold spec_DrawValidTerm.f
    exact Ev.bindc hr (Ev.bind he (Ev.some _))
  have hi := impl_ValidTerm_ev l (by omega)
  have hsp := spec_ValidTerm_ev l (by omega)
  refine Ev.bind hd (Ev.bind hi (Ev.bind hsp (Ev.neg (by simp) ?_)))
  refine Ev.step (fun k => by simp only [laws_FnValidTerm.j0]; exact rfl) ?_
  cases hb : termB l with
  | false =>
    rw [hb] at hsp
    exact Ev.pos rfl (Ev.bind hsp (Ev.some _))
  | true =>
    obtain ⟨t, ht, hte, h15, e1, _, e2⟩ := impl_TermText_some l hb
    have e3 : ((bs t.txt).toList != ([] : List UInt8)) = true := bne_iff_ne.mpr e2
    refine Ev.neg (by decide) (Ev.ite' (fun h => Ev.bind e1 (Ev.eq (Ev.some _) e3)) (fun h => ?_))
    have e4 := impl_ValidTerm_ev ([12] ++ l) (by simp only [List.length_append, List.length_cons, List.length_nil]; omega)
    rw [(termB_tm ([12] ++ l)).2 ⟨.neg t, ht, by rw [← hte]; rfl, by simp only [List.length_append, List.length_cons, List.length_nil]; omega⟩] at e4
    refine Ev.bind (Ev.some _) (Ev.pos (by simp only [List.length_cons, List.length_nil]; omega) (Ev.bind e4 (Ev.pos rfl (Ev.bind e1 (Ev.eq (Ev.some _) e3)))))
end Go.Proofs.Ytdcohlllbbcjoaa.Pure
