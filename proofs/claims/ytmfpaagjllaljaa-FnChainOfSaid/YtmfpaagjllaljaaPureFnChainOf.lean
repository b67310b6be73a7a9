/- Every chain that is drawn goes by its numbers. -/
import Derived.Test.YtmfpaagjllaljaaP16
import Derived.Test.YtmfpaagjllaljaaP18
import Derived.Test.YtmfpaagjllaljaaP19
import Derived.Test.YtmfpaagjllaljaaP24
import Derived.Test.YtmfpaagjllaljaaMTurned
import Derived.Test.YtmfpaagjllaljaaMElem
import Derived.Test.YtmfpaagjllaljaaMDraw
namespace Go.Proofs.Ytmfpaagjllaljaa.Pure
set_option linter.unusedVariables false
open Go.RowKit Go.Proofs.Ytmfpaagjllaljaa.P Go.Proofs.YtmfpaagjllaljaaW.PrintWords Go.Proofs.YtmfpaagjllaljaaW.PrintLast Go.Proofs.Ytmfpaagjllaljaa.M
/-- Chains, all of them. -/
def chainL (n : Int) : List Int := if n = 1 then [1] else if n = 2 then [3, 2] else if n = 3 then [7, 6, 4] else if n = 4 then [15, 14, 12, 8] else if n = 5 then [31, 30, 28, 24, 16] else [63, 62, 60, 56, 48, 32]
theorem eqInts_ev (a b : List Int) (ha : a.length ≤ 17592186044416) (e : a = b) : Ev (fun k => laws_equalInts.f k a b) true := by
  subst e
  unfold laws_equalInts.f
  refine Ev.pos rfl ?_
  refine ev_inv (fun k (_ : Unit) i => laws_equalInts.l0 k a a i) a.length (fun _ _ => True) true ?_ ?_ a.length 0 () (by omega) trivial
  · intro i hi _ _
    refine ⟨(), trivial, fun h => ?_⟩
    refine Ev.step (fun k => by simp only [laws_equalInts.l0]; exact rfl) ?_
    refine Ev.pos (by omega) (Ev.pos (by omega) (Ev.pos (by omega) (Ev.pos trivial ?_)))
    rw [w64s hi (by omega)]
    exact h
  · intro _ _
    refine Ev.step (fun k => by simp only [laws_equalInts.l0]; exact rfl) ?_
    exact Ev.neg (by omega) (Ev.some _)
theorem chain_law (n : Nat) (up : List Int) (hl : up.length = n) (hn : 1 ≤ n ∧ n ≤ 6) (hle : (List.range n).all (fun x => (List.range n).all fun y => isBelowM up x y == decide ((x : Int) ≤ (y : Int))) = true) (hc : isChainM up = true) (ht : TurnedLatticeM up = up) : Ev (fun k => laws_FnChainOf.l0 k (n : Int) up 0) true := by
  have hul : up.length ≤ 17592186044416 := by omega
  refine ev_inv (fun k (_ : Unit) i => laws_FnChainOf.l0 k (n : Int) up i) n (fun _ _ => True) true ?_ ?_ n 0 () (by omega) trivial
  · intro x hx _ _
    refine ⟨(), trivial, fun h => ?_⟩
    refine Ev.step (fun k => by simp only [laws_FnChainOf.l0]; exact rfl) (Ev.pos (by omega) ?_)
    refine ev_inv (fun k (_ : Unit) i => laws_FnChainOf.l1 k (n : Int) up (x : Int) i) n (fun _ _ => True) true ?_ ?_ n 0 () (by omega) trivial
    · intro y hy _ _
      refine ⟨(), trivial, fun h2 => ?_⟩
      refine Ev.step (fun k => by simp only [laws_FnChainOf.l1]; exact rfl) (Ev.pos (by omega) ?_)
      refine Ev.bind (impl_IsBelow_ev up (x : Int) (y : Int) hul) ?_
      have e := (List.all_eq_true.1 ((List.all_eq_true.1 hle) x (List.mem_range.2 hx))) y (List.mem_range.2 hy)
      rw [beq_iff_eq] at e
      rw [e, w64s hy (by omega)]
      exact Ev.neg (by simp) h2
    · intro _ _
      refine Ev.step (fun k => by simp only [laws_FnChainOf.l1]; exact rfl) (Ev.neg (by omega) ?_)
      rw [w64s hx (by omega)]
      exact h
  · intro _ _
    refine Ev.step (fun k => by simp only [laws_FnChainOf.l0]; exact rfl) (Ev.neg (by omega) ?_)
    have hi := impl_IsChain_ev up hul
    have hT := impl_TurnedLattice_ev up hul
    rw [hc] at hi
    rw [ht] at hT
    refine Ev.bind hi (Ev.pos rfl (Ev.bind hT (Ev.bind (eqInts_ev up up hul rfl) (Ev.pos rfl ?_))))
    refine Ev.eq (Ev.some _) ?_
    rw [beq_iff_eq]
    omega
theorem chain_one (n : Nat) (up : List Int) (hl : up.length = n) (hn : 1 ≤ n ∧ n ≤ 6) (hs : spec_ChainOf.f 40 (n : Int) = some up) (hi : impl_ChainOf.f 40 (n : Int) = some up) (hle : (List.range n).all (fun x => (List.range n).all fun y => isBelowM up x y == decide ((x : Int) ≤ (y : Int))) = true) (hc : isChainM up = true) (ht : TurnedLatticeM up = up) : Ev (fun k => (impl_ChainOf.f k (n : Int)).bind fun t232 => ((spec_ChainOf.f k (n : Int)).bind fun t235 => ((laws_equalInts.f k t232 t235).bind fun t238 => (if t238 = true then (laws_FnChainOf.j0 k (n : Int) t232 ((t232.length : Int) == 0)) else (laws_FnChainOf.j0 k (n : Int) t232 true))))) true := by
  have hul : up.length ≤ 17592186044416 := by omega
  refine Ev.bind (Ev.of (impl_ChainOf.mono _) hi) (Ev.bind (Ev.of (spec_ChainOf.mono _) hs) (Ev.bind (eqInts_ev up up hul rfl) (Ev.pos rfl ?_)))
  refine Ev.step (fun k => by simp only [laws_FnChainOf.j0]; exact rfl) ?_
  exact Ev.neg (by rw [beq_iff_eq]; omega) (chain_law n up hl hn hle hc ht)
theorem FnChainOf : laws_FnChainOf.Pure := by
  intro l _ _ hw
  refine Ev.rounds (r := true) ?_
  unfold laws_FnChainOf.f
  refine Ev.ite' (fun _ => Ev.some _) (fun hll => ?_)
  obtain ⟨src, hr, hs⟩ := reader_eq l hw
  obtain ⟨n, hn, hd⟩ := one_ev hs 0 (by decide) [3, 4, 5, 6, 2, 1, 0, 7, (-1)] (by simp) (by decide)
  have hdr : Ev (fun k => spec_DrawChainOf.f k l) n := by
    unfold spec_DrawChainOf.f
    rw [hr]
    exact Ev.bindc rfl (Ev.bind hd (Ev.some _))
  refine Ev.bind hdr ?_
  have none : ∀ n : Int, spec_ChainOf.f 40 n = some [] → impl_ChainOf.f 40 n = some [] → Ev (fun k => (impl_ChainOf.f k n).bind fun t232 => ((spec_ChainOf.f k n).bind fun t235 => ((laws_equalInts.f k t232 t235).bind fun t238 => (if t238 = true then (laws_FnChainOf.j0 k n t232 ((t232.length : Int) == 0)) else (laws_FnChainOf.j0 k n t232 true))))) true := by
    intro n hs hi
    refine Ev.bind (Ev.of (impl_ChainOf.mono _) hi) (Ev.bind (Ev.of (spec_ChainOf.mono _) hs) (Ev.bind (eqInts_ev [] [] (by decide) rfl) (Ev.pos rfl ?_)))
    refine Ev.step (fun k => by simp only [laws_FnChainOf.j0]; exact rfl) ?_
    exact Ev.pos rfl (Ev.bind (Ev.of (spec_ChainOf.mono _) hs) (Ev.bind (eqInts_ev [] [] (by decide) rfl) (Ev.some _)))
  simp only [List.mem_cons, List.not_mem_nil, or_false] at hn
  rcases hn with rfl | rfl | rfl | rfl | rfl | rfl | rfl | rfl | rfl
  · exact chain_one 3 [7, 6, 4] rfl (by decide) (by decide +kernel) (by decide +kernel) (by decide +kernel) (by decide +kernel) (by decide +kernel)
  · exact chain_one 4 [15, 14, 12, 8] rfl (by decide) (by decide +kernel) (by decide +kernel) (by decide +kernel) (by decide +kernel) (by decide +kernel)
  · exact chain_one 5 [31, 30, 28, 24, 16] rfl (by decide) (by decide +kernel) (by decide +kernel) (by decide +kernel) (by decide +kernel) (by decide +kernel)
  · exact chain_one 6 [63, 62, 60, 56, 48, 32] rfl (by decide) (by decide +kernel) (by decide +kernel) (by decide +kernel) (by decide +kernel) (by decide +kernel)
  · exact chain_one 2 [3, 2] rfl (by decide) (by decide +kernel) (by decide +kernel) (by decide +kernel) (by decide +kernel) (by decide +kernel)
  · exact chain_one 1 [1] rfl (by decide) (by decide +kernel) (by decide +kernel) (by decide +kernel) (by decide +kernel) (by decide +kernel)
  · exact none 0 (by decide +kernel) (by decide +kernel)
  · exact none 7 (by decide +kernel) (by decide +kernel)
  · exact none (-1) (by decide +kernel) (by decide +kernel)
end Go.Proofs.Ytmfpaagjllaljaa.Pure
