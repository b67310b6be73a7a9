/- Chains are distributive. -/
import Derived.Test.YtmfpaagjllaljaaG10
import Derived.Test.YtmfpaagjllaljaaG3
import Derived.Test.YtmfpaagjllaljaaG6
namespace Go.Proofs.Ytmfpaagjllaljaa.Pure
set_option linter.unusedVariables false
open Go.RowKit Go.Proofs.Ytmfpaagjllaljaa.P Go.Proofs.YtmfpaagjllaljaaW.PrintWords Go.Proofs.YtmfpaagjllaljaaW.PrintLast Go.Proofs.Ytmfpaagjllaljaa.M
theorem drawIsChain (l : List Int) (hw : ∀ x ∈ l, (Lit.int .u8 x).wf = true) : ∃ (up : List Int), up.length ≤ 7 ∧ Ev (fun k => spec_DrawIsChain.f k l) up := by
  obtain ⟨src, hr, hs⟩ := reader_eq l hw
  obtain ⟨up, m, h7, hm, hu⟩ := some_draw hs 0 (by decide)
  refine ⟨up, h7, ?_⟩
  unfold spec_DrawIsChain.f
  rw [hr]
  exact Ev.bindc rfl (Ev.bind hu (Ev.some _))
theorem FnIsChain : laws_FnIsChain.Pure := by
  intro l _ _ hw
  refine Ev.rounds (r := true) ?_
  unfold laws_FnIsChain.f
  refine Ev.ite' (fun _ => Ev.some _) (fun hll => ?_)
  obtain ⟨up, h7, hd⟩ := drawIsChain l hw
  have hl : up.length ≤ 17592186044416 := by omega
  refine Ev.bind hd (Ev.bind (impl_IsChain_ev up hl) (Ev.bind (spec_IsChain_ev up hl) (Ev.neg (by simp) (Ev.bind (impl_ValidLattice_ev up hl) ?_))))
  refine Ev.step (fun k => by simp only [laws_FnIsChain.j0]; exact rfl) ?_
  cases hb : latB up with
  | false => exact Ev.pos rfl (Ev.bind (spec_IsChain_ev up hl) (Ev.eq (Ev.some _) (by simp)))
  | true =>
    refine Ev.neg (by decide) ?_
    have h1 := (Lat.of hb).pos
    have hM : ∀ a : Nat, a < up.length → CoversOfM up (a : Int) = listN (coverB up a) up.length := by
      intro a ha
      rw [CoversOfM, hb, inB_of ha]
      rfl
    refine ev_inv (fun k (s : Bool) i => laws_FnIsChain.l0 k up (isChainM up) s i) (up.length - 1) (fun i s => s = (List.range i).all fun x => decide ((listN (coverB up x) up.length).length = 1)) true ?_ ?_ (up.length - 1) 0 _ (by omega) rfl
    · intro x hx s hs
      refine ⟨_, rfl, fun h => ?_⟩
      rw [List.range_succ, List.all_append, ← hs] at h
      refine Ev.step (fun k => by simp only [laws_FnIsChain.l0]; exact rfl) ?_
      rw [w64s (n := up.length) (by omega) (by omega)]
      refine Ev.pos (by omega) ?_
      cases s with
      | false => exact Ev.neg (by decide) h
      | true =>
        have hi := impl_CoversOf_ev up (x : Int) hl
        rw [hM x (by omega)] at hi
        refine Ev.pos rfl (Ev.bind hi ?_)
        have e : (((listN (coverB up x) up.length).length : Int) == 1) = (true && ([x].all fun x => decide ((listN (coverB up x) up.length).length = 1))) := by
          rw [Bool.eq_iff_iff, beq_iff_eq]
          simp
          omega
        rw [e]
        exact h
    · intro s hs
      refine Ev.step (fun k => by simp only [laws_FnIsChain.l0]; exact rfl) ?_
      rw [w64s (n := up.length) (by omega) (by omega)]
      refine Ev.neg (by omega) ?_
      have e : isChainM up = s := by rw [hs, isChainM, hb, Bool.true_and, chainB_covers hb]
      rw [← e]
      refine Ev.pos (by simp) ?_
      refine Ev.ite' (fun c => ?_) (fun _ => Ev.some _)
      unfold isChainM at c
      rw [hb, Bool.true_and] at c
      have hd := impl_IsDistributive_ev up hl
      rw [isDistM, hb, chain_dist hb c] at hd
      exact Ev.bind hd (Ev.some _)
end Go.Proofs.Ytmfpaagjllaljaa.Pure
