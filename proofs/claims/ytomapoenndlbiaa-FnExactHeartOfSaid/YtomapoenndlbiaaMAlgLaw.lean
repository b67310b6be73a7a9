/- What the laws' own helpers on algebras answer: how large one is, a copy is the algebra, an algebra is as its copy. -/
import Derived.Test.YtomapoenndlbiaaP2
import Derived.Test.YtomapoenndlbiaaP13
import Derived.Test.YtomapoenndlbiaaP25
import Derived.Test.YtomapoenndlbiaaP24
import Derived.Test.YtomapoenndlbiaaP1
import Derived.Test.YtomapoenndlbiaaMInts
import Derived.Test.YtomapoenndlbiaaMAlg
namespace Go.Proofs.Ytomapoenndlbiaa.M
set_option linter.unusedVariables false
open Go.RowKit Go.Proofs.YtomapoenndlbiaaW.PrintWords Go.Proofs.YtomapoenndlbiaaW.PrintLast Go.Proofs.YtomapoenndlbiaaW.PrintMore Go.Proofs.Ytomapoenndlbiaa.P

theorem szIntS_eq (l : List Int) (a : Int) (h0 : 0 ≤ a) (h1 : a ≤ 1048576) (hl : l.length ≤ maxLen) : laws_szIntS.f l a = some (if a - (l.length : Int) < 0 then -1 else a - (l.length : Int)) := by
  unfold laws_szIntS.f
  simp only [maxLen] at hl
  rw [w64 (by omega) (by omega)]
  split <;> rfl
theorem szIntSS_l0 (T : List (List Int)) (hT : T.length ≤ 1048576) (hr : ∀ r ∈ T, r.length ≤ maxLen) : ∀ d i : Nat, i + d = T.length → ∀ left : Int, 0 ≤ left → left ≤ 1048576 →
    ∃ s : Int, Ev (fun k => laws_szIntSS.l0 k T left (i : Int)) s ∧ (s < 0 ∨ (0 ≤ s ∧ s ≤ left ∧ ∀ j, i ≤ j → j < T.length → ((rowT T j).length : Int) ≤ left)) := by
  intro d
  induction d with
  | zero =>
    intro i hi left h0 h1
    refine ⟨left, Ev.step (fun k => by simp only [laws_szIntSS.l0]; exact rfl) (Ev.neg (by omega) (Ev.some _)), .inr ⟨h0, Int.le_refl _, fun j h1 h2 => by omega⟩⟩
  | succ d ih =>
    intro i hi left h0 h1
    have hi' : i < T.length := by omega
    have hrow := hr _ (rowT_mem hi')
    by_cases c : left - ((rowT T i).length : Int) < 0
    · refine ⟨-1, ?_, .inl (by decide)⟩
      refine Ev.step (fun k => by simp only [laws_szIntSS.l0]; exact rfl) (Ev.pos (by omega) (Ev.pos (by omega) ?_))
      refine Ev.bindc (szIntS_eq (rowT T i) left h0 h1 hrow) ?_
      rw [if_pos c]
      exact Ev.pos (by decide) (Ev.some _)
    · obtain ⟨s, hs, hc⟩ := ih (i + 1) (by omega) (left - ((rowT T i).length : Int)) (by omega) (by omega)
      refine ⟨s, ?_, ?_⟩
      · refine Ev.step (fun k => by simp only [laws_szIntSS.l0]; exact rfl) (Ev.pos (by omega) (Ev.pos (by omega) ?_))
        refine Ev.bindc (szIntS_eq (rowT T i) left h0 h1 hrow) ?_
        rw [if_neg c, w64s hi' (by omega)]
        exact Ev.neg c hs
      · rcases hc with hc | ⟨h2, h3, h4⟩
        · exact .inl hc
        · refine .inr ⟨h2, by omega, fun j h5 h6 => ?_⟩
          by_cases e : j = i
          · subst e; omega
          · have := h4 j (by omega) h6
            omega
/-- All lengths are small. -/
def Sm (up : List Int) (T : List (List Int)) : Prop := up.length ≤ 1048576 ∧ T.length ≤ 1048576 ∧ ∀ r ∈ T, r.length ≤ 1048576
theorem szAlgebra_ev (up : List Int) (T : List (List Int)) (a : Int) (h0 : 0 ≤ a) (h1 : a ≤ 1048576) (hl : up.length ≤ maxLen) (hT : T.length ≤ maxLen) (hr : ∀ r ∈ T, r.length ≤ maxLen) :
    ∃ s : Int, Ev (fun k => laws_szAlgebra.f k up T a) s ∧ (s < 0 ∨ (0 ≤ s ∧ s ≤ a ∧ Sm up T)) := by
  by_cases c : a - (up.length : Int) < 0
  · refine ⟨-1, ?_, .inl (by decide)⟩
    unfold laws_szAlgebra.f
    refine Ev.bindc (szIntS_eq up a h0 h1 hl) ?_
    rw [if_pos c]
    exact Ev.pos (by decide) (Ev.some _)
  · by_cases c2 : a - (up.length : Int) - (T.length : Int) < 0
    · refine ⟨-1, ?_, .inl (by decide)⟩
      unfold laws_szAlgebra.f
      refine Ev.bindc (szIntS_eq up a h0 h1 hl) ?_
      rw [if_neg c]
      refine Ev.neg c (Ev.bind (a := -1) ?_ (Ev.pos (by decide) (Ev.some _)))
      unfold laws_szIntSS.f
      simp only [maxLen] at hT
      rw [w64 (x := a - (up.length : Int) - (T.length : Int)) (by omega) (by omega)]
      exact Ev.pos c2 (Ev.some _)
    · obtain ⟨s, hs, hc⟩ := szIntSS_l0 T (by omega) hr T.length 0 (by omega) (a - (up.length : Int) - (T.length : Int)) (by omega) (by omega)
      have hss : Ev (fun k => laws_szIntSS.f k T (a - (up.length : Int))) s := by
        unfold laws_szIntSS.f
        simp only [maxLen] at hT
        rw [w64 (x := a - (up.length : Int) - (T.length : Int)) (by omega) (by omega)]
        exact Ev.neg c2 hs
      rcases hc with hc | ⟨h2, h3, h4⟩
      · refine ⟨-1, ?_, .inl (by decide)⟩
        unfold laws_szAlgebra.f
        refine Ev.bindc (szIntS_eq up a h0 h1 hl) ?_
        rw [if_neg c]
        exact Ev.neg c (Ev.bind hss (Ev.pos hc (Ev.some _)))
      · refine ⟨s, ?_, .inr ⟨h2, by omega, by omega, by omega, fun r hr => ?_⟩⟩
        · unfold laws_szAlgebra.f
          refine Ev.bindc (szIntS_eq up a h0 h1 hl) ?_
          rw [if_neg c]
          exact Ev.neg c (Ev.bind hss (Ev.neg (by omega) (Ev.some _)))
        · obtain ⟨j, hj, rfl⟩ := List.mem_iff_getElem.1 hr
          have := h4 j (by omega) hj
          rw [rowT_lt hj] at this
          omega
theorem toIntSS_ev (T : List (List Int)) (hT : T.length ≤ 1048576) (hr : ∀ r ∈ T, r.length ≤ 1048576) : Ev (fun k => laws_toIntSS.f k T) T := by
  unfold laws_toIntSS.f
  refine Ev.pos (by omega) (Ev.pos (by omega) ?_)
  refine ev_inv (fun k (s : List (List Int)) i => laws_toIntSS.l0 k T s i) T.length (fun i s => s.length = T.length ∧ ∀ j, j < i → s[j]? = T[j]?) T ?_ ?_ T.length 0 _ (by omega) ⟨by simp, fun j hj => by omega⟩
  · intro i hi s hs
    obtain ⟨hs1, hs2⟩ := hs
    refine ⟨s.set i (rowT T i), ⟨by simp [hs1], ?_⟩, fun h => ?_⟩
    · intro j hj
      by_cases e : j = i
      · subst e
        rw [List.getElem?_set_self (by omega), rowT_lt hi, List.getElem?_eq_getElem hi]
      · rw [List.getElem?_set_ne (by omega)]
        exact hs2 j (by omega)
    · refine Ev.step (fun k => by simp only [laws_toIntSS.l0]; exact rfl) ?_
      have hrow := hr _ (rowT_mem hi)
      refine Ev.pos (by omega) (Ev.pos (by omega) (Ev.bind (toIntS_ev (rowT T i) (by omega)) (Ev.pos (by omega) ?_)))
      rw [w64s hi (by omega)]
      exact h
  · intro s hs
    refine Ev.step (fun k => by simp only [laws_toIntSS.l0]; exact rfl) ?_
    refine Ev.neg (by omega) ?_
    refine Ev.const ?_
    congr 1
    apply List.ext_getElem?
    intro j
    by_cases hj : j < T.length
    · exact hs.2 j hj
    · rw [List.getElem?_eq_none (by omega), List.getElem?_eq_none (by omega)]
theorem toAlgebra_ev {up : List Int} {T : List (List Int)} (h : Sm up T) : Ev (fun k => laws_toAlgebra.f k up T) (up, T) := by
  unfold laws_toAlgebra.f
  have h1 := h.1
  exact Ev.bind (toIntS_ev up (by omega)) (Ev.bind (toIntSS_ev T h.2.1 h.2.2) (Ev.some _))
theorem eqIntSS_same (T : List (List Int)) (hT : T.length ≤ 1048576) (hr : ∀ r ∈ T, r.length ≤ 1048576) : Ev (fun k => laws_eqIntSS.f k T T) true := by
  unfold laws_eqIntSS.f
  refine Ev.pos rfl ?_
  refine ev_inv (fun k (_ : Unit) i => laws_eqIntSS.l0 k T T i) T.length (fun _ _ => True) true ?_ ?_ T.length 0 () (by omega) trivial
  · intro i hi _ _
    refine ⟨(), trivial, fun h => ?_⟩
    have hrow := hr _ (rowT_mem hi)
    refine Ev.step (fun k => by simp only [laws_eqIntSS.l0]; exact rfl) ?_
    refine Ev.pos (by omega) (Ev.pos (by omega) (Ev.pos (by omega) (Ev.bind (eqIntS_same (rowT T i) (by omega)) (Ev.pos rfl ?_))))
    rw [w64s hi (by omega)]
    exact h
  · intro _ _
    refine Ev.step (fun k => by simp only [laws_eqIntSS.l0]; exact rfl) ?_
    exact Ev.neg (by omega) (Ev.some _)
theorem eqAlgebra_same {up : List Int} {T : List (List Int)} (h : Sm up T) : Ev (fun k => laws_eqAlgebra.f k up T up T) true := by
  unfold laws_eqAlgebra.f
  have h1 := h.1
  exact Ev.bind (eqIntS_same up (by omega)) (Ev.pos rfl (Ev.bind (eqIntSS_same T h.2.1 h.2.2) (Ev.pos rfl (Ev.some _))))
end Go.Proofs.Ytomapoenndlbiaa.M
