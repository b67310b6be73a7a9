/- Of whatever numbers are drawn: the program's TermText and the reference's are one text; and where it is a term, ParseTerm reads it back. -/
import Derived.Test.YtdcohlllbbcjoaaP26
import Derived.Test.YtdcohlllbbcjoaaP27
import Derived.Test.YtdcohlllbbcjoaaMTmDraw
import Derived.Test.YtdcohlllbbcjoaaMEqInts
import Derived.Test.YtdcohlllbbcjoaaMRead
namespace Go.Proofs.Ytdcohlllbbcjoaa.Pure
set_option linter.unusedVariables false
open Go.RowKit Go.Proofs.Ytdcohlllbbcjoaa.P Go.Proofs.YtdcohlllbbcjoaaW.PrintWords Go.Proofs.YtdcohlllbbcjoaaW.PrintLast Go.Proofs.Ytdcohlllbbcjoaa.M
theorem FnTermText : laws_FnTermText.Pure := by
  intro l0 _ h8 hw
  refine Ev.rounds (r := true) ?_
  unfold laws_FnTermText.f
  refine Ev.ite' (fun _ => Ev.some _) (fun hll => ?_)
  obtain ⟨src, hr, hs⟩ := reader_eq l0 hw
  obtain ⟨l, m, hl, he⟩ := someTerm_draw hs 0 (by decide)
  have hd : Ev (fun k => spec_DrawTermText.f k l0) l := by
    unfold spec_DrawTermText.f
    exact Ev.bindc hr (Ev.bind he (Ev.some _))
  cases hb : termB l with
  | false =>
    have E1 := spec_TermText_no l (by omega) hb
    have E2 := impl_TermText_no l (by omega) hb
    refine Ev.bind hd (Ev.bind E2 (Ev.bind E1 (Ev.pos rfl ?_)))
    refine Ev.step (fun k => by simp only [laws_FnTermText.j0]; exact rfl) ?_
    exact Ev.pos (beq_iff_eq.mpr (bs_toList [])) (Ev.bind E1 (Ev.eq (Ev.some _) (beq_iff_eq.mpr rfl)))
  | true =>
    obtain ⟨t, ht, hte, h15, e1, e3, e2⟩ := impl_TermText_some l hb
    refine Ev.bind hd (Ev.bind e1 (Ev.bind e3 (Ev.pos rfl ?_)))
    refine Ev.step (fun k => by simp only [laws_FnTermText.j0]; exact rfl) ?_
    have hx : ∃ x : List Int × Bool, x = (t.enc, true) ∧ Ev (fun k => impl_ParseTerm.f k (bs t.txt)) x := by
      obtain ⟨x, _, hx, _, E⟩ := ParseTerm_ev (bs t.txt)
      have hT : IsT (bs t.txt).data.toList t := ⟨ht, by simp [bs], by rw [hte]; exact h15⟩
      rcases hx with ⟨t', h', rfl⟩ | ⟨h', _⟩
      · exact ⟨_, by rw [hT.uniq h'], E⟩
      · exact absurd hT (h' t)
    obtain ⟨_, rfl, E⟩ := hx
    refine Ev.neg (fun h => e2 (beq_iff_eq.mp h)) (Ev.bind E (Ev.pos rfl ?_))
    rw [hte]
    exact Ev.bind (eqInts_same l (by omega)) (Ev.some _)
end Go.Proofs.Ytdcohlllbbcjoaa.Pure
