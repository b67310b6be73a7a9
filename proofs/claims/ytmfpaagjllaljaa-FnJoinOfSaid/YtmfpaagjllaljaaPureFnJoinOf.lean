/- Joins are meets upside down. -/
import Derived.Test.YtmfpaagjllaljaaP72
import Derived.Test.YtmfpaagjllaljaaMB
import Derived.Test.YtmfpaagjllaljaaMC
import Derived.Test.YtmfpaagjllaljaaMDual
namespace Go.Proofs.Ytmfpaagjllaljaa.Pure
set_option linter.unusedVariables false
open Go.RowKit Go.Proofs.Ytmfpaagjllaljaa.P Go.Proofs.YtmfpaagjllaljaaW.PrintWords Go.Proofs.YtmfpaagjllaljaaW.PrintLast Go.Proofs.Ytmfpaagjllaljaa.M
theorem drawJoinOf (l : List Int) (hw : ∀ x ∈ l, (Lit.int .u8 x).wf = true) : ∃ (up : List Int) (x y : Int), up.length ≤ 7 ∧ Ev (fun k => spec_DrawJoinOf.f k l) (up, x, y) := by
  obtain ⟨src, hr, hs⟩ := reader_eq l hw
  obtain ⟨up, m, h7, hm, hu⟩ := some_draw hs 0 (by decide)
  obtain ⟨x, m2, hm2, hx⟩ := element_draw hs m (by unfold BIG; omega) (up.length : Int) (by omega)
  obtain ⟨y, m3, hm3, hy⟩ := element_draw hs m2 (by unfold BIG; omega) (up.length : Int) (by omega)
  refine ⟨up, x, y, h7, ?_⟩
  unfold spec_DrawJoinOf.f
  rw [hr]
  exact Ev.bindc rfl (Ev.bind hu (Ev.bind hx (Ev.bind hy (Ev.some _))))
theorem FnJoinOf : laws_FnJoinOf.Pure := by
  intro l _ _ hw
  refine Ev.rounds (r := true) ?_
  unfold laws_FnJoinOf.f
  refine Ev.ite' (fun _ => Ev.some _) (fun hll => ?_)
  obtain ⟨up, x, y, h7, hd⟩ := drawJoinOf l hw
  have hl : up.length ≤ 17592186044416 := by omega
  refine Ev.bind hd (Ev.bind (impl_JoinOf_ev up x y hl) (Ev.bind (spec_JoinOf_ev up x y hl) (Ev.pos rfl ?_)))
  refine Ev.step (fun k => by simp only [laws_FnJoinOf.j0]; exact rfl) ?_
  refine Ev.ite' (fun _ => Ev.bind (spec_JoinOf_ev up x y hl) (Ev.eq (Ev.some _) (by simp))) (fun c => ?_)
  rw [decide_eq_true_eq] at c
  obtain ⟨hb, a, b, rfl, rfl, ha, hbb⟩ := join_cases c
  have hj := jlt hb ha hbb
  have ht := turned_len up
  have htl : (turnedN up).length ≤ 17592186044416 := by omega
  have s : ∀ z, z < up.length → wrap64 (wrap64 ((up.length : Int) - 1) - (z : Int)) = ((up.length - 1 - z : Nat) : Int) := by
    intro z hz
    rw [w64 (x := (up.length : Int) - 1) (by omega) (by omega), w64 (by omega) (by omega)]
    omega
  have hT := impl_TurnedLattice_ev up hl
  rw [turnedM hb] at hT
  rw [join_in hb ha hbb]
  refine Ev.bind hT ?_
  rw [s a ha, s b hbb, s _ hj]
  refine Ev.bind (impl_MeetOf_ev (turnedN up) _ _ htl) ?_
  rw [meet_in (turned_lat hb) (by omega) (by omega), turned_meet hb ha hbb]
  refine Ev.pos rfl (Ev.bind (impl_MeetOf_ev up (a : Int) (joinN up a b : Int) hl) ?_)
  rw [meet_in hb ha hj, (le_meet hb ha hj).1 (j_l hb ha hbb)]
  refine Ev.pos rfl (Ev.bind (impl_JoinOf_ev up (b : Int) (a : Int) hl) (Ev.eq (Ev.some _) ?_))
  rw [join_in hb hbb ha, j_comm hb hbb ha]
  simp
end Go.Proofs.Ytmfpaagjllaljaa.Pure
