/- For every drawn number: SumChain answers as the reference does, and where it answers, it is a chain and an algebra that is involutive, divisible and prelinear, simple from two elements on. -/
import Derived.Test.YtjidbgmkhapklaaP69
import Derived.Test.YtjidbgmkhapklaaMFnSumChain
namespace Go.Proofs.Ytjidbgmkhapklaa.M
set_option linter.unusedVariables false
open Go.RowKit Go.Proofs.YtjidbgmkhapklaaW.PrintWords Go.Proofs.YtjidbgmkhapklaaW.PrintLast Go.Proofs.YtjidbgmkhapklaaW.PrintMore Go.Proofs.Ytjidbgmkhapklaa.P
set_option maxRecDepth 100000 in
theorem sum_chain {n : Nat} (h1 : 1 ≤ n) (h6 : n ≤ 6) : isChainM (sumU n) = true := by
  rcases six h1 h6 with rfl | rfl | rfl | rfl | rfl | rfl <;> kernel_rfl
set_option maxRecDepth 100000 in
theorem sum_is {n : Nat} (h1 : 1 ≤ n) (h6 : n ≤ 6) : (isN (sumU n) (sumT n) 0 && isN (sumU n) (sumT n) 1 && isN (sumU n) (sumT n) 2) = true := by
  rcases six h1 h6 with rfl | rfl | rfl | rfl | rfl | rfl <;> kernel_rfl
set_option maxRecDepth 100000 in
theorem sum_simple {n : Nat} (h1 : 1 ≤ n) (h6 : n ≤ 6) : IsSimpleM (sumU n) (sumT n) = decide ((n : Int) > 1) := by
  rcases six h1 h6 with rfl | rfl | rfl | rfl | rfl | rfl <;> kernel_rfl
theorem p_inv : propN (⟨#[105, 110, 118, 111, 108, 117, 116, 105, 118, 101]⟩ : ByteArray) = 2 := by decide +kernel
theorem p_div : propN (⟨#[100, 105, 118, 105, 115, 105, 98, 108, 101]⟩ : ByteArray) = 1 := by decide +kernel
theorem p_pre : propN (⟨#[112, 114, 101, 108, 105, 110, 101, 97, 114]⟩ : ByteArray) = 0 := by decide +kernel
end Go.Proofs.Ytjidbgmkhapklaa.M
namespace Go.Proofs.Ytjidbgmkhapklaa.Pure
set_option linter.unusedVariables false
open Go.RowKit Go.Proofs.Ytjidbgmkhapklaa.P Go.Proofs.YtjidbgmkhapklaaW.PrintWords Go.Proofs.YtjidbgmkhapklaaW.PrintLast Go.Proofs.Ytjidbgmkhapklaa.M
theorem FnSumChain : laws_FnSumChain.Pure := by
  intro l _ h8 hw
  refine Ev.rounds (r := true) ?_
  unfold laws_FnSumChain.f
  refine Ev.ite' (fun _ => Ev.some _) (fun hll => ?_)
  obtain ⟨src, hr, hs⟩ := reader_eq l hw
  obtain ⟨a, _, hu⟩ := one_ev hs 0 (by decide) [3, 4, 5, 6, 2, 1, 0, 7, (-1)] (by simp) (by decide)
  have hd : Ev (fun k => spec_DrawSumChain.f k l) a := by
    unfold spec_DrawSumChain.f spec_DrawChainOf.f
    rw [hr]
    exact Ev.bind (Ev.bindc rfl (Ev.bind hu (Ev.some _))) (Ev.some _)
  have hsp := spec_SumChain_ev a
  have hi := impl_SumChain_ev a
  refine Ev.bind hd (Ev.bind hi (Ev.bind hsp ?_))
  by_cases h : 1 ≤ a ∧ a ≤ 6
  · obtain ⟨n, rfl⟩ : ∃ n : Nat, a = n := ⟨a.toNat, by omega⟩
    have h1 : 1 ≤ n := by omega
    have h6 : n ≤ 6 := by omega
    have e : SumChainM (n : Int) = (sumU n, sumT n, true) := by
      unfold SumChainM
      rw [if_pos h, Int.toNat_natCast]
    rw [e]
    have hl := sumU_len n
    have hb := sum_algB h1 h6
    have hq := eqAlg_same (sumU n) (sumT n) (by omega) (by rw [show (sumT n).length = n from tabF_len _ _]; omega) fun i hi => by
      have hi' : i < n := by rw [show (sumT n).length = n from tabF_len _ _] at hi; exact hi
      have e2 : (rd_L1 (sumT n) (i : Int)).length = (sumU n).length := (sum_alg h1 h6).row i (by omega)
      omega
    have hlen : (sumU n).length ≤ 17592186044416 := by omega
    have hv := impl_ValidAlgebra_ev (sumU n) (sumT n) hlen
    have hc := impl_IsChain_ev (sumU n) hlen
    have hp := fun s => impl_HasProperty_ev s (sumU n) (sumT n) hlen
    have p2 := hp (⟨#[105, 110, 118, 111, 108, 117, 116, 105, 118, 101]⟩ : ByteArray)
    have p1 := hp (⟨#[100, 105, 118, 105, 115, 105, 98, 108, 101]⟩ : ByteArray)
    have p0 := hp (⟨#[112, 114, 101, 108, 105, 110, 101, 97, 114]⟩ : ByteArray)
    have hsi := impl_IsSimple_ev (sumU n) (sumT n) hlen
    have is := sum_is h1 h6
    simp only [Bool.and_eq_true] at is
    obtain ⟨⟨i0, i1⟩, i2⟩ := is
    unfold HasPropertyM at p2 p1 p0
    rw [p_inv, hb, i2] at p2
    rw [p_div, hb, i1] at p1
    rw [p_pre, hb, i0] at p0
    rw [hb] at hv
    rw [sum_chain h1 h6] at hc
    rw [sum_simple h1 h6] at hsi
    refine Ev.bind hq (Ev.pos rfl (Ev.neg (by simp) ?_))
    refine Ev.step (fun k => by simp only [laws_FnSumChain.j0]; exact rfl) (Ev.neg (by simp) ?_)
    refine Ev.bind hv (Ev.pos rfl (Ev.bind hc (Ev.pos rfl (Ev.bind p2 (Ev.pos rfl (Ev.bind p1 (Ev.pos rfl (Ev.bind p0 (Ev.pos rfl (Ev.bind hsi ?_))))))))))
    exact Ev.eq (Ev.some _) (by simp)
  · have e : SumChainM a = ([], [], false) := by
      unfold SumChainM
      rw [if_neg h]
    rw [e]
    have hq := eqAlg_same [] [] (by simp) (by simp) (by simp)
    refine Ev.bind hq (Ev.pos rfl (Ev.neg (by simp) ?_))
    refine Ev.step (fun k => by simp only [laws_FnSumChain.j0]; exact rfl) (Ev.pos (by simp) ?_)
    exact Ev.bind hq (Ev.pos rfl (Ev.eq (Ev.some _) (by simp)))
end Go.Proofs.Ytjidbgmkhapklaa.Pure
