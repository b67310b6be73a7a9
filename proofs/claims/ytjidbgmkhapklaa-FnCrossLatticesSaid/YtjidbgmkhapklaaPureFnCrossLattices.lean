/- Pairs are distributive as both are. -/
import Derived.Test.YtjidbgmkhapklaaP81
import Derived.Test.YtjidbgmkhapklaaMFnCrossLattices
namespace Go.Proofs.Ytjidbgmkhapklaa.Pure
set_option linter.unusedVariables false
open Go.RowKit Go.Proofs.Ytjidbgmkhapklaa.P Go.Proofs.YtjidbgmkhapklaaW.PrintWords Go.Proofs.YtjidbgmkhapklaaW.PrintLast Go.Proofs.Ytjidbgmkhapklaa.M
theorem drawCrossLattices (l : List Int) (hw : ∀ x ∈ l, (Lit.int .u8 x).wf = true) : ∃ (a b : List Int), a.length ≤ 7 ∧ b.length ≤ 7 ∧ Ev (fun k => spec_DrawCrossLattices.f k l) (a, b) := by
  obtain ⟨src, hr, hs⟩ := reader_eq l hw
  obtain ⟨v, _, _, hv⟩ := pick_ev hs 0 (by decide) 6 (by decide)
  have one : ∀ n : Nat, n ≤ 1000 → ∃ (x : Int) (u : List Int), u.length ≤ 6 ∧ Ev (fun k => spec_reader_one.f k src (n : Int) [2, 3, 1, 2]) (x, ((n + 1 : Nat) : Int)) ∧ Ev (fun k => spec_chain.f k x) u := by
    intro n hn
    obtain ⟨x, hx, he⟩ := one_ev hs n (by omega) [2, 3, 1, 2] (by simp) (by decide)
    obtain ⟨d, rfl, d1, d6⟩ : ∃ d : Nat, x = (d : Int) ∧ 1 ≤ d ∧ d ≤ 6 := by
      simp only [List.mem_cons, List.not_mem_nil, or_false] at hx
      exact ⟨x.toNat, by omega, by omega, by omega⟩
    obtain ⟨u, _, h2, h3⟩ := chain_run d d1 d6
    exact ⟨(d : Int), u, h2, he, Ev.of (spec_chain.mono _) h3⟩
  unfold spec_DrawCrossLattices.f
  rw [hr]
  by_cases c : v = 0
  · obtain ⟨a, m, a7, hm, ha⟩ := some_draw hs (0 + 1) (by decide)
    obtain ⟨b, m2, b7, hm2, hb⟩ := some_draw hs m (by unfold BIG; omega)
    exact ⟨a, b, a7, b7, Ev.bindc rfl (Ev.bind hv (Ev.pos c (Ev.bind ha (Ev.bind hb (Ev.some _)))))⟩
  · obtain ⟨x, a, a6, h1, h2⟩ := one (0 + 1) (by decide)
    obtain ⟨y, b, b6, h3, h4⟩ := one (0 + 1 + 1) (by decide)
    exact ⟨a, b, by omega, by omega, Ev.bindc rfl (Ev.bind hv (Ev.neg c (Ev.bind h1 (Ev.bind h2 (Ev.bind h3 (Ev.bind h4 (Ev.some _)))))))⟩
theorem FnCrossLattices : laws_FnCrossLattices.Pure := by
  intro l _ _ hw
  refine Ev.rounds (r := true) ?_
  unfold laws_FnCrossLattices.f
  refine Ev.ite' (fun _ => Ev.some _) (fun hll => ?_)
  obtain ⟨a, b, a7, b7, hd⟩ := drawCrossLattices l hw
  have hla : a.length ≤ 17592186044416 := by omega
  have hlb : b.length ≤ 17592186044416 := by omega
  have ho := CrossLatticesM_len a b
  have hol : (CrossLatticesM a b).length ≤ 17592186044416 := by omega
  have hi := impl_CrossLattices_ev a b hla hlb
  have hs := spec_CrossLattices_ev a b hla hlb
  refine Ev.bind hd (Ev.bind hi (Ev.bind hs (Ev.bind (eqInts_same _ hol) (Ev.pos rfl ?_))))
  refine Ev.step (fun k => by simp only [laws_FnCrossLattices.j0]; exact rfl) ?_
  refine Ev.ite' (fun _ => Ev.bind hs (Ev.bind (eqInts_same _ hol) (Ev.some _))) (fun c => ?_)
  by_cases g : (latB a && latB b && decide (a.length * b.length ≤ 6)) = true
  · have e : CrossLatticesM a b = crossN a b := by rw [CrossLatticesM, if_pos g]
    rw [e] at hol ⊢
    rw [Bool.and_eq_true, Bool.and_eq_true, decide_eq_true_eq] at g
    obtain ⟨⟨ha, hb⟩, h6⟩ := g
    have hv := impl_ValidLattice_ev (crossN a b) hol
    rw [cross_lat ha hb h6] at hv
    have hc := impl_IsDistributive_ev (crossN a b) hol
    have h1 := impl_IsDistributive_ev a hla
    have h2 := impl_IsDistributive_ev b hlb
    rw [isDistM, cross_lat ha hb h6, cross_dist ha hb h6, Bool.true_and] at hc
    rw [isDistM, ha, Bool.true_and] at h1
    rw [isDistM, hb, Bool.true_and] at h2
    have hm := mulN a b (latB_ok ha).1.1 (latB_ok hb).1.1
    have hcl := cross_len a b
    refine Ev.bind hv (Ev.pos rfl (Ev.pos (by rw [hm, hcl]) (Ev.bind hc (Ev.bind h1 ?_))))
    cases distB a with
    | true => exact Ev.pos rfl (Ev.bind h2 (Ev.eq (Ev.some _) (by simp)))
    | false => exact Ev.neg (by decide) (Ev.eq (Ev.some _) (by simp))
  · exfalso
    apply c
    rw [CrossLatticesM, if_neg g]
    rfl
end Go.Proofs.Ytjidbgmkhapklaa.Pure
