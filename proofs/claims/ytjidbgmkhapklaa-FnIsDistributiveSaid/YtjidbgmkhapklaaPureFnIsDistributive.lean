/- For every drawn list of numbers: IsDistributive answers as the reference does, and where the list is a lattice it holds just as it holds upside down, and just as MeetAlgebra is an algebra. -/
import Derived.Test.YtjidbgmkhapklaaP84
import Derived.Test.YtjidbgmkhapklaaMFnIsDistributive
namespace Go.Proofs.Ytjidbgmkhapklaa.M
set_option linter.unusedVariables false
open Go.RowKit Go.Proofs.YtjidbgmkhapklaaW.PrintWords Go.Proofs.YtjidbgmkhapklaaW.PrintLast Go.Proofs.YtjidbgmkhapklaaW.PrintMore Go.Proofs.Ytjidbgmkhapklaa.P
/-- Meets over joins give joins over meets. -/
theorem dist_dual {up : List Int} (hb : latB up = true) (hd : distB up = true) {x y z : Nat} (hx : x < up.length) (hy : y < up.length) (hz : z < up.length) : joinN up x (meetN up y z) = meetN up (joinN up x y) (joinN up x z) := by
  have D := distB_iff.1 hd
  have L := Lat.of hb
  have jxy := jlt hb hx hy
  have jxz := jlt hb hx hz
  have myz := mlt hb hy hz
  -- (x ∨ y) ∧ (x ∨ z) = ((x ∨ y) ∧ x) ∨ ((x ∨ y) ∧ z) = x ∨ ((x ∧ z) ∨ (y ∧ z)) = x ∨ (y ∧ z)
  have e1 := D (joinN up x y) x z jxy hx hz
  have e2 : meetN up (joinN up x y) x = x := by
    rw [m_comm hb jxy hx]
    exact (le_meet hb hx jxy).1 (j_l hb hx hy)
  have e3 := D z x y hz hx hy
  have mzx := mlt hb hz hx
  have mzy := mlt hb hz hy
  have e4 : meetN up (joinN up x y) z = joinN up (meetN up z x) (meetN up z y) := by
    rw [m_comm hb jxy hz]
    exact e3
  have e6 : meetN up z y = meetN up y z := m_comm hb hz hy
  rw [e1, e2, e4, e6]
  have a := jlt hb mzx myz
  refine L.anti _ _ (jlt hb hx myz) (jlt hb hx a) (j_g hb hx myz (jlt hb hx a) (j_l hb hx a) ?_) (j_g hb hx a (jlt hb hx myz) (j_l hb hx myz) (j_g hb mzx myz (jlt hb hx myz) ?_ (j_r hb hx myz)))
  · exact L.trans _ _ _ myz a (jlt hb hx a) (j_r hb mzx myz) (j_r hb hx a)
  · exact L.trans _ _ _ mzx hx (jlt hb hx myz) (m_r hb hz hx) (j_l hb hx myz)
theorem turned_dist1 {up : List Int} (hb : latB up = true) (hd : distB up = true) : distB (turnedN up) = true := by
  have hl := turned_len up
  have pos := (latB_ok hb).2
  refine distB_iff.2 fun x y z hx hy hz => ?_
  rw [hl] at hx hy hz
  obtain ⟨a, ha, rfl⟩ : ∃ a, a < up.length ∧ x = up.length - 1 - a := ⟨up.length - 1 - x, by omega, by omega⟩
  obtain ⟨b, hb', rfl⟩ : ∃ b, b < up.length ∧ y = up.length - 1 - b := ⟨up.length - 1 - y, by omega, by omega⟩
  obtain ⟨c, hc, rfl⟩ : ∃ c, c < up.length ∧ z = up.length - 1 - c := ⟨up.length - 1 - z, by omega, by omega⟩
  rw [turned_join hb hb' hc, turned_meet hb ha (mlt hb hb' hc), turned_meet hb ha hb', turned_meet hb ha hc, turned_join hb (jlt hb ha hb') (jlt hb ha hc), dist_dual hb hd ha hb' hc]
theorem turned_dist {up : List Int} (hb : latB up = true) : distB (turnedN up) = distB up := by
  rw [Bool.eq_iff_iff]
  refine ⟨fun h => ?_, turned_dist1 hb⟩
  have := turned_dist1 (turned_lat hb) h
  rwa [turned_twice hb] at this
end Go.Proofs.Ytjidbgmkhapklaa.M
namespace Go.Proofs.Ytjidbgmkhapklaa.Pure
set_option linter.unusedVariables false
open Go.RowKit Go.Proofs.Ytjidbgmkhapklaa.P Go.Proofs.YtjidbgmkhapklaaW.PrintWords Go.Proofs.YtjidbgmkhapklaaW.PrintLast Go.Proofs.Ytjidbgmkhapklaa.M
theorem FnIsDistributive : laws_FnIsDistributive.Pure := by
  intro l _ h8 hw
  refine Ev.rounds (r := true) ?_
  unfold laws_FnIsDistributive.f
  refine Ev.ite' (fun _ => Ev.some _) (fun hll => ?_)
  obtain ⟨src, hr, hs⟩ := reader_eq l hw
  obtain ⟨up, m, u7, hm, hu⟩ := some_draw hs 0 (by decide)
  have hd : Ev (fun k => spec_DrawIsDistributive.f k l) up := by
    unfold spec_DrawIsDistributive.f
    rw [hr]
    exact Ev.bindc rfl (Ev.bind hu (Ev.some _))
  have hl : up.length ≤ 17592186044416 := by omega
  have hi := impl_IsDistributive_ev up hl
  have hsp := spec_IsDistributive_ev up hl
  refine Ev.bind hd (Ev.bind hi (Ev.bind hsp (Ev.neg (by simp) (Ev.bind (impl_ValidLattice_ev up hl) ?_))))
  refine Ev.step (fun k => by simp only [laws_FnIsDistributive.j0]; exact rfl) ?_
  cases hb : latB up with
  | false => exact Ev.pos rfl (Ev.bind hsp (Ev.eq (Ev.some _) (by simp)))
  | true =>
    refine Ev.neg (by decide) (Ev.bind (impl_MeetAlgebra_ev up hl) (Ev.bind (impl_TurnedLattice_ev up hl) ?_))
    rw [turnedM hb]
    have ht := impl_IsDistributive_ev (turnedN up) (by rw [turned_len]; exact hl)
    have e : isDistM (turnedN up) = isDistM up := by
      unfold isDistM
      rw [turned_lat hb, hb, turned_dist hb]
    rw [e] at ht
    refine Ev.bind ht (Ev.pos (by simp) (Ev.eq (Ev.some _) ?_))
    unfold MeetAlgebraM
    cases isDistM up <;> simp
end Go.Proofs.Ytjidbgmkhapklaa.Pure
