/- What the laws' own helpers on lists of numbers answer: a copy is the list, two lists are compared, a list is marked and found as it was marked. -/
import Derived.Test.YtjijfflifonjoaaP14
import Derived.Test.YtjijfflifonjoaaMA
namespace Go.Proofs.Ytjijfflifonjoaa.M
open Go.RowKit Go.Proofs.YtjijfflifonjoaaW.PrintWords Go.Proofs.YtjijfflifonjoaaW.PrintLast Go.Proofs.YtjijfflifonjoaaW.PrintMore Go.Proofs.Ytjijfflifonjoaa.P

theorem eqIntS_ev (a b : List Int) (ha : a.length ≤ 17592186044416) : Ev (fun k => laws_eqIntS.f k a b) (decide (a = b)) := by
  unfold laws_eqIntS.f
  by_cases hl : a.length = b.length
  · refine Ev.pos (by omega) ?_
    have h := ev_run (fun k i => laws_eqIntS.l0 k a b i) a.length (fun i => if (decide (rd a i = rd b i)) then none else some false) true ?_ ?_ a.length 0 (by omega)
    · rw [runL_no (fun i => decide (rd a i = rd b i))] at h
      refine Ev.eq h ?_
      rw [Bool.and_true, Bool.eq_iff_iff]
      simp only [List.all_eq_true, List.mem_range, decide_eq_true_eq, Nat.zero_add]
      constructor
      · intro h
        apply List.ext_getElem hl
        intro i h1 h2
        have := h i h1
        rwa [rd_lt h1, rd_lt h2] at this
      · rintro rfl i hi
        rfl
    · intro i hi
      refine ⟨fun x hx => ?_, fun hx r hr => ?_⟩
      · by_cases e : rd a i = rd b i
        · simp [e] at hx
        · simp [e] at hx
          subst hx
          refine Ev.step (fun k => by simp only [laws_eqIntS.l0]; exact rfl) ?_
          exact Ev.pos (by omega) (Ev.pos (by omega) (Ev.pos (by omega) (Ev.neg e (Ev.some _))))
      · by_cases e : rd a i = rd b i
        · refine Ev.step (fun k => by simp only [laws_eqIntS.l0]; exact rfl) ?_
          refine Ev.pos (by omega) (Ev.pos (by omega) (Ev.pos (by omega) (Ev.pos e ?_)))
          rw [w64s hi (by omega)]
          exact hr
        · simp [e] at hx
    · refine Ev.step (fun k => by simp only [laws_eqIntS.l0]; exact rfl) ?_
      exact Ev.neg (by omega) (Ev.some _)
  · refine Ev.neg (by omega) ?_
    refine Ev.eq (Ev.some false) ?_
    symm
    rw [decide_eq_false_iff_not]
    rintro rfl
    exact hl rfl
theorem eqIntS_same (a : List Int) (ha : a.length ≤ 17592186044416) : Ev (fun k => laws_eqIntS.f k a a) true :=
  Ev.eq (eqIntS_ev a a ha) (by simp)
end Go.Proofs.Ytjijfflifonjoaa.M
