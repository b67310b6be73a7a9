/- Lattices can be turned. -/
import Derived.Test.YtmfpaagjllaljaaP59
import Derived.Test.YtmfpaagjllaljaaMB
import Derived.Test.YtmfpaagjllaljaaMC
import Derived.Test.YtmfpaagjllaljaaMDual
namespace Go.Proofs.Ytmfpaagjllaljaa.Pure
set_option linter.unusedVariables false
open Go.RowKit Go.Proofs.Ytmfpaagjllaljaa.P Go.Proofs.YtmfpaagjllaljaaW.PrintWords Go.Proofs.YtmfpaagjllaljaaW.PrintLast Go.Proofs.Ytmfpaagjllaljaa.M
theorem drawValidLattice (l : List Int) (hw : ∀ x ∈ l, (Lit.int .u8 x).wf = true) : ∃ (up : List Int), up.length ≤ 7 ∧ Ev (fun k => spec_DrawValidLattice.f k l) up := by
  obtain ⟨src, hr, hs⟩ := reader_eq l hw
  obtain ⟨up, m, h7, hm, hu⟩ := some_draw hs 0 (by decide)
  refine ⟨up, h7, ?_⟩
  unfold spec_DrawValidLattice.f
  rw [hr]
  exact Ev.bindc rfl (Ev.bind hu (Ev.some _))
theorem FnValidLattice : laws_FnValidLattice.Pure := by
  intro l _ _ hw
  refine Ev.rounds (r := true) ?_
  unfold laws_FnValidLattice.f
  refine Ev.ite' (fun _ => Ev.some _) (fun hll => ?_)
  obtain ⟨up, h7, hd⟩ := drawValidLattice l hw
  have hl : up.length ≤ 17592186044416 := by omega
  refine Ev.bind hd (Ev.bind (impl_ValidLattice_ev up hl) (Ev.bind (spec_ValidLattice_ev up hl) (Ev.neg (by simp) ?_)))
  refine Ev.step (fun k => by simp only [laws_FnValidLattice.j0]; exact rfl) ?_
  cases hb : latB up with
  | false =>
    have hv := spec_ValidLattice_ev up hl
    rw [hb] at hv
    exact Ev.pos rfl (Ev.bind hv (Ev.some _))
  | true =>
    refine Ev.neg (by decide) ?_
    have L := Lat.of hb
    have h1 := L.pos
    refine ev_inv (fun k (_ : Unit) i => laws_FnValidLattice.l0 k up (up.length : Int) i) up.length (fun _ _ => True) true ?_ ?_ up.length 0 () (by omega) trivial
    · intro x hx _ _
      refine ⟨(), trivial, fun h => ?_⟩
      refine Ev.step (fun k => by simp only [laws_FnValidLattice.l0]; exact rfl) (Ev.pos (by omega) ?_)
      have e1 : wrap64 ((up.length : Int) - 1) = ((up.length - 1 : Nat) : Int) := by
        rw [w64 (by omega) (by omega)]
        omega
      rw [e1, w64s hx (by omega)]
      have b0 := impl_IsBelow_ev up ((0 : Nat) : Int) (x : Int) hl
      have b1 := impl_IsBelow_ev up (x : Int) ((up.length - 1 : Nat) : Int) hl
      have b2 := impl_IsBelow_ev up (x : Int) (x : Int) hl
      rw [below_in hb (by omega) hx, L.bot x hx] at b0
      rw [below_in hb hx (by omega), L.top x hx] at b1
      rw [below_in hb hx hx, L.refl x hx] at b2
      exact Ev.bind b0 (Ev.pos rfl (Ev.bind b1 (Ev.pos rfl (Ev.bind b2 (Ev.pos rfl h)))))
    · intro _ _
      refine Ev.step (fun k => by simp only [laws_FnValidLattice.l0]; exact rfl) (Ev.neg (by omega) ?_)
      have hT := impl_TurnedLattice_ev up hl
      rw [turnedM hb] at hT
      have hv := impl_ValidLattice_ev (turnedN up) (by rw [turned_len]; exact hl)
      rw [turned_lat hb] at hv
      exact Ev.bind hT (Ev.bind hv (Ev.some _))
end Go.Proofs.Ytmfpaagjllaljaa.Pure
