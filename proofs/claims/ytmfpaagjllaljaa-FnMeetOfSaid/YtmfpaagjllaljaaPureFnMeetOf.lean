/- Meets are the greatest below. -/
import Derived.Test.YtmfpaagjllaljaaP66
import Derived.Test.YtmfpaagjllaljaaMB
import Derived.Test.YtmfpaagjllaljaaMC
namespace Go.Proofs.Ytmfpaagjllaljaa.Pure
set_option linter.unusedVariables false
open Go.RowKit Go.Proofs.Ytmfpaagjllaljaa.P Go.Proofs.YtmfpaagjllaljaaW.PrintWords Go.Proofs.YtmfpaagjllaljaaW.PrintLast Go.Proofs.Ytmfpaagjllaljaa.M
theorem drawMeetOf (l : List Int) (hw : ∀ x ∈ l, (Lit.int .u8 x).wf = true) : ∃ (up : List Int) (x y : Int), up.length ≤ 7 ∧ Ev (fun k => spec_DrawMeetOf.f k l) (up, x, y) := by
  obtain ⟨src, hr, hs⟩ := reader_eq l hw
  obtain ⟨up, m, h7, hm, hu⟩ := some_draw hs 0 (by decide)
  obtain ⟨x, m2, hm2, hx⟩ := element_draw hs m (by unfold BIG; omega) (up.length : Int) (by omega)
  obtain ⟨y, m3, hm3, hy⟩ := element_draw hs m2 (by unfold BIG; omega) (up.length : Int) (by omega)
  refine ⟨up, x, y, h7, ?_⟩
  unfold spec_DrawMeetOf.f
  rw [hr]
  exact Ev.bindc rfl (Ev.bind hu (Ev.bind hx (Ev.bind hy (Ev.some _))))
theorem FnMeetOf : laws_FnMeetOf.Pure := by
  intro l _ _ hw
  refine Ev.rounds (r := true) ?_
  unfold laws_FnMeetOf.f
  refine Ev.ite' (fun _ => Ev.some _) (fun hll => ?_)
  obtain ⟨up, x, y, h7, hd⟩ := drawMeetOf l hw
  have hl : up.length ≤ 17592186044416 := by omega
  refine Ev.bind hd (Ev.bind (impl_MeetOf_ev up x y hl) (Ev.bind (spec_MeetOf_ev up x y hl) (Ev.pos rfl ?_)))
  refine Ev.step (fun k => by simp only [laws_FnMeetOf.j0]; exact rfl) ?_
  refine Ev.ite' (fun _ => Ev.bind (spec_MeetOf_ev up x y hl) (Ev.eq (Ev.some _) (by simp))) (fun c => ?_)
  rw [decide_eq_true_eq] at c
  obtain ⟨hb, a, b, rfl, rfl, ha, hbb⟩ := meet_cases c
  rw [meet_in hb ha hbb]
  have hm := mlt hb ha hbb
  refine ev_inv (fun k (_ : Unit) i => laws_FnMeetOf.l0 k up (a : Int) (b : Int) (meetN up a b : Int) i) up.length (fun _ _ => True) true ?_ ?_ up.length 0 () (by omega) trivial
  · intro z hz _ _
    refine ⟨(), trivial, fun h => ?_⟩
    refine Ev.step (fun k => by simp only [laws_FnMeetOf.l0]; exact rfl) (Ev.pos (by omega) ?_)
    refine Ev.bind (impl_IsBelow_ev up (z : Int) (a : Int) hl) ?_
    rw [below_in hb hz ha, w64s hz (by omega)]
    refine Ev.ite' (fun e => ?_) (fun e => ?_)
    · refine Ev.bind (impl_IsBelow_ev up (z : Int) (b : Int) hl) (Ev.bind (impl_IsBelow_ev up (z : Int) (meetN up a b : Int) hl) ?_)
      rw [below_in hb hz hbb, below_in hb hz hm]
      refine Ev.neg ?_ h
      have : le up z b = le up z (meetN up a b) := by
        rw [Bool.eq_iff_iff]
        exact ⟨fun g => m_g hb ha hbb hz e g, fun g => (Lat.of hb).trans _ _ _ hz hm hbb g (m_r hb ha hbb)⟩
      rw [this]
      simp
    · refine Ev.bind (impl_IsBelow_ev up (z : Int) (meetN up a b : Int) hl) ?_
      rw [below_in hb hz hm]
      refine Ev.neg ?_ h
      have : le up z (meetN up a b) = false := by
        cases g : le up z (meetN up a b) with
        | false => rfl
        | true => exact absurd ((Lat.of hb).trans _ _ _ hz hm ha g (m_l hb ha hbb)) e
      rw [this]
      simp
  · intro _ _
    refine Ev.step (fun k => by simp only [laws_FnMeetOf.l0]; exact rfl) (Ev.neg (by omega) ?_)
    refine Ev.bind (impl_MeetOf_ev up (b : Int) (a : Int) hl) ?_
    rw [meet_in hb hbb ha, m_comm hb hbb ha]
    refine Ev.pos rfl (Ev.bind (impl_JoinOf_ev up (a : Int) (meetN up a b : Int) hl) (Ev.eq (Ev.some _) ?_))
    rw [join_in hb ha hm, j_comm hb ha hm, (le_join hb hm ha).1 (m_l hb ha hbb)]
    simp
end Go.Proofs.Ytmfpaagjllaljaa.Pure
