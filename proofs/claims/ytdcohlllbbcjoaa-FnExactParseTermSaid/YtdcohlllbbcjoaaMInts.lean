/- What the laws' own helpers on lists of numbers answer: a copy is the list, two lists are compared, a list is marked and found as it was marked. -/
import Derived.Test.YtdcohlllbbcjoaaP6
import Derived.Test.YtdcohlllbbcjoaaP11
import Derived.Test.YtdcohlllbbcjoaaMBase
namespace Go.Proofs.Ytdcohlllbbcjoaa.M
open Go.RowKit Go.Proofs.YtdcohlllbbcjoaaW.PrintWords Go.Proofs.YtdcohlllbbcjoaaW.PrintLast Go.Proofs.YtdcohlllbbcjoaaW.PrintMore Go.Proofs.Ytdcohlllbbcjoaa.P

theorem toIntS_ev (l : List Int) (hl : l.length ≤ 17592186044416) : Ev (fun k => laws_toIntS.f k l) l := by
  unfold laws_toIntS.f
  refine Ev.pos (by omega) (Ev.pos (by omega) ?_)
  refine ev_inv (fun k (s : List Int) i => laws_toIntS.l0 k l s i) l.length (fun i s => s.length = l.length ∧ ∀ j, j < i → s[j]? = l[j]?) l ?_ ?_ l.length 0 _ (by omega) ⟨by simp, fun j hj => by omega⟩
  · intro i hi s hs
    obtain ⟨hs1, hs2⟩ := hs
    refine ⟨s.set i (rd l i), ⟨by simp [hs1], ?_⟩, fun h => ?_⟩
    · intro j hj
      by_cases e : j = i
      · subst e
        rw [List.getElem?_set_self (by omega), rd_lt hi, List.getElem?_eq_getElem hi]
      · rw [List.getElem?_set_ne (by omega)]
        exact hs2 j (by omega)
    · refine Ev.step (fun k => by simp only [laws_toIntS.l0]; exact rfl) ?_
      refine Ev.pos (by omega) (Ev.pos (by omega) (Ev.pos (by omega) ?_))
      rw [w64s hi (by omega)]
      exact h
  · intro s hs
    refine Ev.step (fun k => by simp only [laws_toIntS.l0]; exact rfl) ?_
    refine Ev.neg (by omega) ?_
    refine Ev.const ?_
    congr 1
    apply List.ext_getElem? 
    intro j
    by_cases hj : j < l.length
    · exact hs.2 j hj
    · rw [List.getElem?_eq_none (by omega), List.getElem?_eq_none (by omega)]

theorem eqIntS_ev (a b : List Int) (ha : a.length ≤ 17592186044416) : Ev (fun k => laws_eqIntS.f k a b) (decide (a = b)) := by
  unfold laws_eqIntS.f
  by_cases hl : a.length = b.length
  · refine Ev.pos (by omega) ?_
    have h := ev_run (fun k i => laws_eqIntS.l0 k a b i) a.length (fun i => if (decide (rd a i = rd b i)) then none else some false) true ?_ ?_ a.length 0 (by omega)
    · rw [runL_no (fun i => decide (rd a i = rd b i))] at h
      refine Ev.eq h ?_
      rw [Bool.and_true, Bool.eq_iff_iff]
      simp only [List.all_eq_true, List.mem_range, decide_eq_true_eq, Nat.zero_add]
      constructor
      · intro h
        apply List.ext_getElem hl
        intro i h1 h2
        have := h i h1
        rwa [rd_lt h1, rd_lt h2] at this
      · rintro rfl i hi
        rfl
    · intro i hi
      refine ⟨fun x hx => ?_, fun hx r hr => ?_⟩
      · by_cases e : rd a i = rd b i
        · simp [e] at hx
        · simp [e] at hx
          subst hx
          refine Ev.step (fun k => by simp only [laws_eqIntS.l0]; exact rfl) ?_
          exact Ev.pos (by omega) (Ev.pos (by omega) (Ev.pos (by omega) (Ev.neg e (Ev.some _))))
      · by_cases e : rd a i = rd b i
        · refine Ev.step (fun k => by simp only [laws_eqIntS.l0]; exact rfl) ?_
          refine Ev.pos (by omega) (Ev.pos (by omega) (Ev.pos (by omega) (Ev.pos e ?_)))
          rw [w64s hi (by omega)]
          exact hr
        · simp [e] at hx
    · refine Ev.step (fun k => by simp only [laws_eqIntS.l0]; exact rfl) ?_
      exact Ev.neg (by omega) (Ev.some _)
  · refine Ev.neg (by omega) ?_
    refine Ev.eq (Ev.some false) ?_
    symm
    rw [decide_eq_false_iff_not]
    rintro rfl
    exact hl rfl
theorem eqIntS_same (a : List Int) (ha : a.length ≤ 17592186044416) : Ev (fun k => laws_eqIntS.f k a a) true :=
  Ev.eq (eqIntS_ev a a ha) (by simp)
end Go.Proofs.Ytdcohlllbbcjoaa.M
