/- Turned twice is as before. -/
import Derived.Test.YtmfpaagjllaljaaP68
import Derived.Test.YtmfpaagjllaljaaMB
import Derived.Test.YtmfpaagjllaljaaMC
import Derived.Test.YtmfpaagjllaljaaMDual
import Derived.Test.YtmfpaagjllaljaaMEqInts
namespace Go.Proofs.Ytmfpaagjllaljaa.Pure
set_option linter.unusedVariables false
open Go.RowKit Go.Proofs.Ytmfpaagjllaljaa.P Go.Proofs.YtmfpaagjllaljaaW.PrintWords Go.Proofs.YtmfpaagjllaljaaW.PrintLast Go.Proofs.Ytmfpaagjllaljaa.M
theorem drawTurnedLattice (l : List Int) (hw : ∀ x ∈ l, (Lit.int .u8 x).wf = true) : ∃ (up : List Int), up.length ≤ 7 ∧ Ev (fun k => spec_DrawTurnedLattice.f k l) up := by
  obtain ⟨src, hr, hs⟩ := reader_eq l hw
  obtain ⟨up, m, h7, hm, hu⟩ := some_draw hs 0 (by decide)
  refine ⟨up, h7, ?_⟩
  unfold spec_DrawTurnedLattice.f
  rw [hr]
  exact Ev.bindc rfl (Ev.bind hu (Ev.some _))
theorem FnTurnedLattice : laws_FnTurnedLattice.Pure := by
  intro l _ _ hw
  refine Ev.rounds (r := true) ?_
  unfold laws_FnTurnedLattice.f
  refine Ev.ite' (fun _ => Ev.some _) (fun hll => ?_)
  obtain ⟨up, h7, hd⟩ := drawTurnedLattice l hw
  have hl : up.length ≤ 17592186044416 := by omega
  have hTl : (TurnedLatticeM up).length ≤ 17592186044416 := Nat.le_trans (TurnedLatticeM_len up) (by decide)
  refine Ev.bind hd (Ev.bind (impl_TurnedLattice_ev up hl) (Ev.bind (spec_TurnedLattice_ev up hl) (Ev.bind (eqInts_same _ hTl) (Ev.pos rfl (Ev.bind (impl_ValidLattice_ev up hl) ?_)))))
  refine Ev.step (fun k => by simp only [laws_FnTurnedLattice.j0]; exact rfl) ?_
  cases hb : latB up with
  | false => exact Ev.pos rfl (Ev.bind (spec_TurnedLattice_ev up hl) (Ev.bind (eqInts_same _ hTl) (Ev.some _)))
  | true =>
    refine Ev.neg (by decide) ?_
    rw [turnedM hb] at hTl ⊢
    have ht := turned_len up
    have s : ∀ z, z < up.length → wrap64 (wrap64 ((up.length : Int) - 1) - (z : Int)) = ((up.length - 1 - z : Nat) : Int) := by
      intro z hz
      rw [w64 (x := (up.length : Int) - 1) (by omega) (by omega), w64 (by omega) (by omega)]
      omega
    refine ev_inv (fun k (_ : Unit) i => laws_FnTurnedLattice.l0 k up (turnedN up) (up.length : Int) i) up.length (fun _ _ => True) true ?_ ?_ up.length 0 () (by omega) trivial
    · intro x hx _ _
      refine ⟨(), trivial, fun h => ?_⟩
      refine Ev.step (fun k => by simp only [laws_FnTurnedLattice.l0]; exact rfl) (Ev.pos (by omega) ?_)
      refine ev_inv (fun k (_ : Unit) i => laws_FnTurnedLattice.l1 k up (turnedN up) (up.length : Int) (x : Int) i) up.length (fun _ _ => True) true ?_ ?_ up.length 0 () (by omega) trivial
      · intro y hy _ _
        refine ⟨(), trivial, fun h2 => ?_⟩
        refine Ev.step (fun k => by simp only [laws_FnTurnedLattice.l1]; exact rfl) (Ev.pos (by omega) ?_)
        rw [s y hy, s x hx, w64s hy (by omega)]
        refine Ev.bind (impl_IsBelow_ev (turnedN up) _ _ hTl) (Ev.bind (impl_IsBelow_ev up (x : Int) (y : Int) hl) ?_)
        rw [below_in (turned_lat hb) (by omega) (by omega), below_in hb hx hy, turned_le up (by omega) (by omega), show up.length - 1 - (up.length - 1 - x) = x by omega, show up.length - 1 - (up.length - 1 - y) = y by omega]
        exact Ev.neg (by simp) h2
      · intro _ _
        refine Ev.step (fun k => by simp only [laws_FnTurnedLattice.l1]; exact rfl) (Ev.neg (by omega) ?_)
        rw [w64s hx (by omega)]
        exact h
    · intro _ _
      refine Ev.step (fun k => by simp only [laws_FnTurnedLattice.l0]; exact rfl) (Ev.neg (by omega) ?_)
      have hT := impl_TurnedLattice_ev (turnedN up) hTl
      rw [turnedM (turned_lat hb), turned_twice hb] at hT
      exact Ev.bind hT (Ev.bind (eqInts_same up hl) (Ev.some _))
end Go.Proofs.Ytmfpaagjllaljaa.Pure
