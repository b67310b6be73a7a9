/- Marking an algebra: the mark that comes next is no less than nought. -/
import Derived.Test.YtomapoenndlbiaaP42
import Derived.Test.YtomapoenndlbiaaMMark
import Derived.Test.YtomapoenndlbiaaMAlgLaw
namespace Go.Proofs.Ytomapoenndlbiaa.M
set_option linter.unusedVariables false
open Go.RowKit Go.Proofs.YtomapoenndlbiaaW.PrintWords Go.Proofs.YtomapoenndlbiaaW.PrintLast Go.Proofs.YtomapoenndlbiaaW.PrintMore Go.Proofs.Ytomapoenndlbiaa.P
theorem markSS_l0 (T : List (List Int)) (hT : T.length ≤ 1048576) (hr : ∀ r ∈ T, r.length ≤ 1048576) : ∀ d i : Nat, i + d = T.length → ∀ m : Int, 0 ≤ m → m + (d : Int) * 1048576 ≤ 4611686018427387904 →
    ∃ r : Int, Ev (fun k => laws_markIntSS.l0 k T m (i : Int)) r ∧ 0 ≤ r := by
  intro d
  induction d with
  | zero =>
    intro i hi m h0 h1
    exact ⟨m, Ev.step (fun k => by simp only [laws_markIntSS.l0]; exact rfl) (Ev.neg (by omega) (Ev.some _)), h0⟩
  | succ d ih =>
    intro i hi m h0 h1
    have hi' : i < T.length := by omega
    have hrow := hr _ (rowT_mem hi')
    obtain ⟨r, hr2, h⟩ := ih (i + 1) (by omega) (m + ((rowT T i).length : Int)) (by omega) (by omega)
    refine ⟨r, Ev.step (fun k => by simp only [laws_markIntSS.l0]; exact rfl) (Ev.pos (by omega) (Ev.pos (by omega) ?_)), h⟩
    refine Ev.bind (markIntS_ev (rowT T i) m h0 (by omega) (by omega)) ?_
    rw [w64s hi' (by omega)]
    exact hr2
theorem markAlgebra_ev {up : List Int} {T : List (List Int)} (h : Sm up T) : ∃ r : Int, Ev (fun k => laws_markAlgebra.f k up T 1) r ∧ 0 ≤ r := by
  have h1 := h.1
  have h2 := h.2.1
  obtain ⟨r, hr, h0⟩ := markSS_l0 T h.2.1 h.2.2 T.length 0 (by omega) (1 + (up.length : Int)) (by omega) (by omega)
  refine ⟨r, ?_, h0⟩
  unfold laws_markAlgebra.f
  exact Ev.bind (markIntS_ev up 1 (by decide) (by decide) (by omega)) (Ev.bind (show Ev (fun k => laws_markIntSS.f k T (1 + (up.length : Int))) r from hr) (Ev.some _))
end Go.Proofs.Ytomapoenndlbiaa.M
