/- Of whatever number is drawn: AllLattices are lattices with elements at most greater numbers alone, none told twice, as the reference lists them; and ChainOf is among them. -/
import Derived.Test.YtjijfflifonjoaaP21
import Derived.Test.YtjijfflifonjoaaP28
import Derived.Test.YtjijfflifonjoaaMAll2
import Derived.Test.YtjijfflifonjoaaMDraw
import Derived.Test.YtjijfflifonjoaaMEqAlg
namespace Go.Proofs.Ytjijfflifonjoaa.Pure
set_option linter.unusedVariables false
open Go.RowKit Go.Proofs.Ytjijfflifonjoaa.P Go.Proofs.YtjijfflifonjoaaW.PrintWords Go.Proofs.YtjijfflifonjoaaW.PrintLast Go.Proofs.Ytjijfflifonjoaa.M
theorem FnAllLattices : laws_FnAllLattices.Pure := by
  intro l0 _ h8 hw
  refine Ev.rounds (r := true) ?_
  unfold laws_FnAllLattices.f
  refine Ev.ite' (fun _ => Ev.some _) (fun hll => ?_)
  obtain ⟨src, hr, hs⟩ := reader_eq l0 hw
  obtain ⟨v, hv, he⟩ := one_ev hs 0 (by decide) [3, 4, 5, 2, 1, 0, 6, (-1)] (by simp) (by simp)
  have hd : Ev (fun k => spec_DrawAllLattices.f k l0) v := by
    unfold spec_DrawAllLattices.f
    exact Ev.bindc hr (Ev.bind he (Ev.some _))
  have hS := spec_AllLattices_ev v
  have hI := impl_AllLattices_ev v
  have hl := allF_len v
  have hR := allF_rows v
  have hE : Ev (fun k => laws_equalLists.f k (allF v) (allF v)) true := eqLists_same (allF v) (by omega) (fun i hi => by have := (hR _ (rdL_in hi)).2.2; omega)
  refine Ev.bind hd (Ev.bind hI (Ev.bind hS (Ev.bind hE (Ev.pos rfl ?_))))
  refine Ev.step (fun k => by simp only [laws_FnAllLattices.j0]; exact rfl) ?_
  by_cases h15 : 1 ≤ v ∧ v ≤ 5
  case neg =>
    have e : allF v = [] := by unfold allF; rw [if_neg h15]
    refine Ev.pos (by rw [e]; rfl) (Ev.bind hS (Ev.bind hE (Ev.some _)))
  obtain ⟨n, rfl⟩ : ∃ n : Nat, v = (n : Int) := ⟨v.toNat, by omega⟩
  have hT : allF (n : Int) = latF n n [] := by unfold allF; rw [if_pos h15, Int.toNat_natCast]
  have hne : allF (n : Int) ≠ [] := by rw [hT]; exact latF_some n (by omega) (by omega)
  have hnd : (allF (n : Int)).Nodup := by rw [hT]; exact latF_nodup n n []
  have hrow : ∀ l ∈ allF (n : Int), ∀ x y, y < x → x < n → le l x y = false := by
    intro l h x y hyx hxn
    rw [hT] at h
    obtain ⟨r, h1, h2⟩ := latF_row n n [] l h x (Nat.zero_le _) (by simpa using hxn)
    unfold le
    rw [h1, Int.toNat_natCast]
    exact okRow_low h2 hyx
  obtain ⟨lc, hc1, hc2⟩ := chain_among n (by omega) (by omega)
  rw [← hT] at hc2
  generalize allF (n : Int) = T at *
  refine Ev.neg (fun h => hne (List.eq_nil_of_length_eq_zero (by have := beq_iff_eq.mp h; omega))) ?_
  have key : ∀ d i, i + d = T.length → Ev (fun k => laws_FnAllLattices.l0 k (n : Int) T (i : Int)) true := by
    intro d
    induction d with
    | zero =>
      intro i hi
      refine Ev.step (fun k => by simp only [laws_FnAllLattices.l0]; exact rfl) (Ev.neg (by omega) (Ev.bind hc1 (Ev.bind ?_ (Ev.some _))))
      unfold laws_holdsList.f
      exact holds_ev T lc hl (fun r h => by have := (hR r h).2.2; omega) T.length 0 (by omega) hc2
    | succ d ih =>
      intro i hi
      have hlt : i < T.length := by omega
      have hm : T[i] ∈ T := List.getElem_mem hlt
      obtain ⟨hb, hlen, h5⟩ := hR _ hm
      have hnext := ih (i + 1) (by omega)
      have hrd := rdL_get hlt
      refine Ev.step (fun k => by simp only [laws_FnAllLattices.l0]; exact rfl) (Ev.pos (by omega) ?_)
      have k1 : ∀ d x, x + d = n → Ev (fun k => laws_FnAllLattices.l1 k (n : Int) T (i : Int) (x : Int)) true := by
        intro d
        induction d with
        | zero =>
          intro x hx
          refine Ev.step (fun k => by simp only [laws_FnAllLattices.l1]; exact rfl) (Ev.neg (by omega) (Ev.pos (by omega) (Ev.pos (by omega) ?_)))
          rw [hrd]
          refine Ev.bind (impl_ValidLattice_ev T[i] (by omega)) (Ev.pos hb ?_)
          by_cases hi0 : i = 0
          · subst hi0
            refine Ev.neg (by decide) ?_
            rw [w64s hlt (by omega)]
            exact hnext
          · have ew : wrap64 ((i : Int) - 1) = ((i - 1 : Nat) : Int) := by rw [w64 (by omega) (by omega)]; omega
            rw [ew]
            have hlt1 : i - 1 < T.length := by omega
            refine Ev.pos (by omega) (Ev.pos (by omega) (Ev.pos (by omega) ?_))
            rw [rdL_get hlt1]
            have hm1 : T[i - 1] ∈ T := List.getElem_mem hlt1
            have hl1 := (hR _ hm1).2.2
            refine Ev.bind (eqInts_ev T[i - 1] T[i] (by omega)) (Ev.neg ?_ ?_)
            · rw [decide_eq_true_eq]
              intro e
              exact (List.pairwise_iff_getElem.mp hnd) (i - 1) i hlt1 hlt (by omega) e
            · rw [w64s hlt (by omega)]
              exact hnext
        | succ d ihx =>
          intro x hx
          have hxnext := ihx (x + 1) (by omega)
          refine Ev.step (fun k => by simp only [laws_FnAllLattices.l1]; exact rfl) (Ev.pos (by omega) ?_)
          have k2 : ∀ d y, y + d = x → Ev (fun k => laws_FnAllLattices.l2 k (n : Int) T (i : Int) (x : Int) (y : Int)) true := by
            intro d
            induction d with
            | zero =>
              intro y hy
              refine Ev.step (fun k => by simp only [laws_FnAllLattices.l2]; exact rfl) (Ev.neg (by omega) ?_)
              rw [w64s (i := x) (n := n) (by omega) (by omega)]
              exact hxnext
            | succ d ihy =>
              intro y hy
              refine Ev.step (fun k => by simp only [laws_FnAllLattices.l2]; exact rfl) (Ev.pos (by omega) (Ev.pos (by omega) (Ev.pos (by omega) ?_)))
              rw [hrd]
              refine Ev.bind (impl_IsBelow_ev T[i] (x : Int) (y : Int) (by omega)) (Ev.neg ?_ ?_)
              · unfold isBelowM
                rw [Int.toNat_natCast, Int.toNat_natCast, hrow _ hm x y (by omega) (by omega), Bool.and_false]
                decide
              · rw [w64s (i := y) (n := n) (by omega) (by omega)]
                exact ihy (y + 1) (by omega)
          exact k2 x 0 (by omega)
      exact k1 n 0 (by omega)
  exact key T.length 0 (by omega)
end Go.Proofs.Ytjijfflifonjoaa.Pure
