/- Distributive complements are alone. -/
import Derived.Test.YtmfpaagjllaljaaG9
import Derived.Test.YtmfpaagjllaljaaG3
import Derived.Test.YtmfpaagjllaljaaG6
import Derived.Test.YtmfpaagjllaljaaG8
import Derived.Test.YtmfpaagjllaljaaG11
namespace Go.Proofs.Ytmfpaagjllaljaa.Pure
set_option linter.unusedVariables false
open Go.RowKit Go.Proofs.Ytmfpaagjllaljaa.P Go.Proofs.YtmfpaagjllaljaaW.PrintWords Go.Proofs.YtmfpaagjllaljaaW.PrintLast Go.Proofs.Ytmfpaagjllaljaa.M
theorem drawComplementsOf (l : List Int) (hw : ∀ x ∈ l, (Lit.int .u8 x).wf = true) : ∃ (up : List Int) (x : Int), up.length ≤ 7 ∧ Ev (fun k => spec_DrawComplementsOf.f k l) (up, x) := by
  obtain ⟨src, hr, hs⟩ := reader_eq l hw
  obtain ⟨up, m, h7, hm, hu⟩ := some_draw hs 0 (by decide)
  obtain ⟨x, m2, hm2, hx⟩ := element_draw hs m (by unfold BIG; omega) (up.length : Int) (by omega)
  refine ⟨up, x, h7, ?_⟩
  unfold spec_DrawComplementsOf.f
  rw [hr]
  exact Ev.bindc rfl (Ev.bind hu (Ev.bind hx (Ev.some _)))
theorem compl_sym {up : List Int} (hb : latB up = true) {x y : Nat} (hx : x < up.length) (hy : y < up.length) (h : complB up x y = true) : complB up y x = true := by
  unfold complB at h ⊢
  rw [meetN_int hb hx hy, joinN_int hb hx hy] at h
  rw [meetN_int hb hy hx, joinN_int hb hy hx, m_comm hb hy hx, j_comm hb hy hx]
  exact h
theorem compl_alone {up : List Int} (hb : latB up = true) (hd : distB up = true) {x b c : Nat} (hx : x < up.length) (h1 : b < up.length) (h2 : c < up.length) (hxb : complB up x b = true) (hxc : complB up x c = true) : b = c := by
  have L := Lat.of hb
  have pos := L.pos
  have half : ∀ b c, b < up.length → c < up.length → complB up x b = true → complB up x c = true → le up b c = true := by
    intro b c h1 h2 e1 e2
    unfold complB at e1 e2
    rw [Bool.and_eq_true, decide_eq_true_eq, decide_eq_true_eq] at e1 e2
    rw [meetN_int hb hx h1, joinN_int hb hx h1] at e1
    rw [meetN_int hb hx h2, joinN_int hb hx h2] at e2
    have d := allN_iff.1 (allN_iff.1 (allN_iff.1 hd b h1) x hx) c h2
    unfold distAt at d
    rw [decide_eq_true_eq] at d
    have j1 : joinN up x c = up.length - 1 := by omega
    have m1 : meetN up b x = 0 := by
      rw [m_comm hb h1 hx]
      omega
    have mlt' := mlt hb h1 h2
    have jb : joinN up 0 (meetN up b c) = meetN up b c := (le_join hb (by omega) mlt').1 (L.bot _ mlt')
    have mb : meetN up b (up.length - 1) = b := (le_meet hb h1 (by omega)).1 (L.top _ h1)
    rw [j1, m1, jb, mb] at d
    exact (le_meet hb h1 h2).2 d.symm
  exact L.anti b c h1 h2 (half b c h1 h2 hxb hxc) (half c b h2 h1 hxc hxb)
theorem FnComplementsOf : laws_FnComplementsOf.Pure := by
  intro l _ _ hw
  refine Ev.rounds (r := true) ?_
  unfold laws_FnComplementsOf.f
  refine Ev.ite' (fun _ => Ev.some _) (fun hll => ?_)
  obtain ⟨up, x, h7, hd⟩ := drawComplementsOf l hw
  have hl : up.length ≤ 17592186044416 := by omega
  have ho := ComplementsOfM_len up x
  have hol : (ComplementsOfM up x).length ≤ 17592186044416 := by omega
  refine Ev.bind hd (Ev.bind (impl_ComplementsOf_ev up x hl) (Ev.bind (spec_ComplementsOf_ev up x hl) (Ev.bind (eqInts_same _ hol) (Ev.pos rfl (Ev.bind (impl_MeetOf_ev up x x hl) ?_)))))
  refine Ev.step (fun k => by simp only [laws_FnComplementsOf.j0]; exact rfl) ?_
  refine Ev.ite' (fun _ => Ev.bind (spec_ComplementsOf_ev up x hl) (Ev.bind (eqInts_same _ hol) (Ev.some _))) (fun c => ?_)
  rw [decide_eq_true_eq] at c
  obtain ⟨hb, a, _, rfl, _, ha, _⟩ := meet_cases c
  have hM : ∀ a : Nat, a < up.length → ComplementsOfM up (a : Int) = listN (complB up a) up.length := by
    intro a ha
    rw [ComplementsOfM, hb, inB_of ha]
    rfl
  rw [hM a ha] at ho hol ⊢
  refine ev_inv (fun k (_ : Unit) i => laws_FnComplementsOf.l0 k up (a : Int) (listN (complB up a) up.length) i) (listN (complB up a) up.length).length (fun _ _ => True) true ?_ ?_ (listN (complB up a) up.length).length 0 () (by omega) trivial
  · intro i hi _ _
    refine ⟨(), trivial, fun h => ?_⟩
    refine Ev.step (fun k => by simp only [laws_FnComplementsOf.l0]; exact rfl) (Ev.pos (by omega) (Ev.pos (by omega) ?_))
    obtain ⟨c, hc, hp, hv⟩ := listN_mem.1 (rd_mem hi)
    rw [hv, w64s hi (by omega)]
    have hi2 := impl_ComplementsOf_ev up (c : Int) hl
    rw [hM c hc] at hi2
    have hlc := listN_len (complB up c) up.length
    have hin := isIn_ev (listN (complB up c) up.length) (a : Int) (by omega)
    rw [decide_eq_true (listN_mem.2 ⟨a, ha, compl_sym hb ha hc hp, rfl⟩)] at hin
    exact Ev.bind hi2 (Ev.bind hin (Ev.pos rfl h))
  · intro _ _
    refine Ev.step (fun k => by simp only [laws_FnComplementsOf.l0]; exact rfl) (Ev.neg (by omega) ?_)
    refine Ev.bind (ascends_ev _ hol (listN_asc _ _)) (Ev.pos rfl (Ev.bind (impl_IsDistributive_ev up hl) ?_))
    refine Ev.ite' (fun e => Ev.eq (Ev.some _) ?_) (fun _ => Ev.some _)
    unfold isDistM at e
    rw [Bool.and_eq_true] at e
    have := listN_one (p := complB up a) (n := up.length) (fun b c h1 h2 e1 e2 => compl_alone hb e.2 ha h1 h2 e1 e2)
    exact decide_eq_true (by omega)
end Go.Proofs.Ytmfpaagjllaljaa.Pure
