/- A list that is marked with numbers and held against them. -/
import Derived.Test.YtjijfflifonjoaaP16
import Derived.Test.YtjijfflifonjoaaP17
import Derived.Test.YtjijfflifonjoaaMInts
namespace Go.Proofs.Ytjijfflifonjoaa.M
set_option linter.unusedVariables false
open Go.RowKit Go.Proofs.YtjijfflifonjoaaW.PrintWords Go.Proofs.YtjijfflifonjoaaW.PrintLast Go.Proofs.YtjijfflifonjoaaW.PrintMore Go.Proofs.Ytjijfflifonjoaa.P

def marks (m : Int) (n : Nat) : List Int := (List.range n).map fun (i : Nat) => m + (i : Int)
theorem marks_length (m : Int) (n : Nat) : (marks m n).length = n := by simp [marks]
theorem marks_rd (m : Int) (n : Nat) {i : Nat} (h : i < n) : rd (marks m n) (i : Int) = m + (i : Int) := by
  rw [rd_lt (by rw [marks_length]; exact h)]
  simp [marks]
theorem markIntS_ev (l : List Int) (m : Int) (hm0 : 0 ≤ m) (hm1 : m ≤ 4611686018427387904) (hl : l.length ≤ 17592186044416) : Ev (fun k => laws_markIntS.f k l m) (m + (l.length : Int), marks m l.length) := by
  unfold laws_markIntS.f
  have h := ev_inv (fun k (s : List Int) i => laws_markIntS.l0 k s (m + i) i) l.length (fun i s => s.length = l.length ∧ ∀ j, j < i → s[j]? = some (m + (j : Int))) (m + (l.length : Int), marks m l.length) ?_ ?_ l.length 0 l (by omega) ⟨rfl, fun j hj => by omega⟩
  · simpa using h
  · intro i hi s hs
    obtain ⟨hs1, hs2⟩ := hs
    refine ⟨s.set i (m + (i : Int)), ⟨by simp [hs1], ?_⟩, fun h => ?_⟩
    · intro j hj
      by_cases e : j = i
      · subst e
        rw [List.getElem?_set_self (by omega)]
      · rw [List.getElem?_set_ne (by omega)]
        exact hs2 j (by omega)
    · refine Ev.step (fun k => by simp only [laws_markIntS.l0]; exact rfl) ?_
      refine Ev.pos (by omega) (Ev.pos (by omega) ?_)
      rw [w64s hi (by omega), w64 (x := m + (i : Int) + 1) (by omega) (by omega), show m + (i : Int) + 1 = m + ((i + 1 : Nat) : Int) by omega]
      exact h
  · intro s hs
    refine Ev.step (fun k => by simp only [laws_markIntS.l0]; exact rfl) ?_
    refine Ev.neg (by omega) (Ev.const ?_)
    have : s = marks m l.length := by
      apply List.ext_getElem?
      intro j
      by_cases hj : j < l.length
      · rw [hs.2 j hj]; simp [marks, hj]
      · rw [List.getElem?_eq_none (by omega), List.getElem?_eq_none (by rw [marks_length]; omega)]
    rw [this]
theorem heldIntS_ev (m : Int) (n : Nat) (hm0 : 0 ≤ m) (hm1 : m ≤ 4611686018427387904) (hl : n ≤ 17592186044416) : Ev (fun k => laws_heldIntS.f k (marks m n) m) (m + (n : Int)) := by
  unfold laws_heldIntS.f
  have h := ev_inv (fun k (_ : Unit) i => laws_heldIntS.l0 k (marks m n) (m + i) i) n (fun _ _ => True) (m + (n : Int)) ?_ ?_ n 0 () (by omega) trivial
  · simpa using h
  · intro i hi _ _
    refine ⟨(), trivial, fun h => ?_⟩
    refine Ev.step (fun k => by simp only [laws_heldIntS.l0]; exact rfl) ?_
    refine Ev.pos (by rw [marks_length]; omega) (Ev.pos (by omega) (Ev.pos (marks_rd m n hi) ?_))
    rw [w64s hi (by omega), w64 (x := m + (i : Int) + 1) (by omega) (by omega), show m + (i : Int) + 1 = m + ((i + 1 : Nat) : Int) by omega]
    exact h
  · intro _ _
    refine Ev.step (fun k => by simp only [laws_heldIntS.l0]; exact rfl) ?_
    exact Ev.neg (by rw [marks_length]; omega) (Ev.some _)
end Go.Proofs.Ytjijfflifonjoaa.M
