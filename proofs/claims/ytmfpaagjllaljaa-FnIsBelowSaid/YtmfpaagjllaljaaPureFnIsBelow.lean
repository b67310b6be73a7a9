/- Orders are meets and joins. -/
import Derived.Test.YtmfpaagjllaljaaP64
import Derived.Test.YtmfpaagjllaljaaMB
import Derived.Test.YtmfpaagjllaljaaMC
namespace Go.Proofs.Ytmfpaagjllaljaa.Pure
set_option linter.unusedVariables false
open Go.RowKit Go.Proofs.Ytmfpaagjllaljaa.P Go.Proofs.YtmfpaagjllaljaaW.PrintWords Go.Proofs.YtmfpaagjllaljaaW.PrintLast Go.Proofs.Ytmfpaagjllaljaa.M
theorem drawIsBelow (l : List Int) (hw : ∀ x ∈ l, (Lit.int .u8 x).wf = true) : ∃ (up : List Int) (x y : Int), up.length ≤ 7 ∧ Ev (fun k => spec_DrawIsBelow.f k l) (up, x, y) := by
  obtain ⟨src, hr, hs⟩ := reader_eq l hw
  obtain ⟨up, m, h7, hm, hu⟩ := some_draw hs 0 (by decide)
  obtain ⟨x, m2, hm2, hx⟩ := element_draw hs m (by unfold BIG; omega) (up.length : Int) (by omega)
  obtain ⟨y, m3, hm3, hy⟩ := element_draw hs m2 (by unfold BIG; omega) (up.length : Int) (by omega)
  refine ⟨up, x, y, h7, ?_⟩
  unfold spec_DrawIsBelow.f
  rw [hr]
  exact Ev.bindc rfl (Ev.bind hu (Ev.bind hx (Ev.bind hy (Ev.some _))))
theorem FnIsBelow : laws_FnIsBelow.Pure := by
  intro l _ _ hw
  refine Ev.rounds (r := true) ?_
  unfold laws_FnIsBelow.f
  refine Ev.ite' (fun _ => Ev.some _) (fun hll => ?_)
  obtain ⟨up, x, y, h7, hd⟩ := drawIsBelow l hw
  have hl : up.length ≤ 17592186044416 := by omega
  refine Ev.bind hd (Ev.bind (impl_IsBelow_ev up x y hl) (Ev.bind (spec_IsBelow_ev up x y hl) ?_))
  refine Ev.neg (by simp) (Ev.bind (impl_MeetOf_ev up x y hl) ?_)
  refine Ev.step (fun k => by simp only [laws_FnIsBelow.j0]; exact rfl) ?_
  refine Ev.ite' (fun _ => Ev.bind (spec_IsBelow_ev up x y hl) (Ev.eq (Ev.some _) (by simp))) (fun c => ?_)
  rw [decide_eq_true_eq] at c
  obtain ⟨hb, a, b, rfl, rfl, ha, hbb⟩ := meet_cases c
  refine Ev.bind (impl_MeetOf_ev up (a : Int) (b : Int) hl) ?_
  rw [below_in hb ha hbb, meet_in hb ha hbb]
  refine Ev.pos ?_ (Ev.bind (impl_JoinOf_ev up (a : Int) (b : Int) hl) (Ev.eq (Ev.some _) ?_))
  · rw [beq_iff_eq, Bool.eq_iff_iff, le_meet hb ha hbb, beq_iff_eq]
    exact ⟨fun e => by rw [e], fun e => by exact_mod_cast e⟩
  · rw [join_in hb ha hbb, beq_iff_eq, Bool.eq_iff_iff, le_join hb ha hbb, beq_iff_eq]
    exact ⟨fun e => by rw [e], fun e => by exact_mod_cast e⟩
end Go.Proofs.Ytmfpaagjllaljaa.Pure
