/- For every number the program's AllLattices and the reference's answer the same lists, in memory of their own, at every call anew. -/
import Derived.Test.YtjijfflifonjoaaP18
import Derived.Test.YtjijfflifonjoaaMSS
import Derived.Test.YtjijfflifonjoaaMAll
namespace Go.Proofs.Ytjijfflifonjoaa.Pure
set_option linter.unusedVariables false
open Go.RowKit Go.Proofs.Ytjijfflifonjoaa.P Go.Proofs.YtjijfflifonjoaaW.PrintWords Go.Proofs.YtjijfflifonjoaaW.PrintLast Go.Proofs.Ytjijfflifonjoaa.M
theorem FnExactAllLattices : laws_FnExactAllLattices.Pure := by
  intro a0 _
  refine Ev.rounds (r := true) ?_
  unfold laws_FnExactAllLattices.f
  have hs := spec_AllLattices_ev a0
  have hi := impl_AllLattices_ev a0
  have hl := allF_len a0
  have hr : ∀ r ∈ allF a0, r.length ≤ 1048576 := fun r h => by have := (allF_rows a0 r h).2.2; omega
  generalize allF a0 = T at hs hi hl hr
  have hz := szT_le hr
  have hz2 : szT T ≤ 1048576 * 1048576 := Nat.le_trans hz (Nat.mul_le_mul_right _ hl)
  have he := eqIntSS_same T hl hr
  have hm : Ev (fun k => laws_markIntSS.f k T 1) (1 + (szT T : Int), marksT 1 T) := by
    unfold laws_markIntSS.f
    exact markSS_l T [] 1 (by decide) (by omega) (by simpa using hl) hr
  have hh : Ev (fun k => laws_heldIntSS.f k (marksT 1 T) 1) (1 + (szT T : Int)) := by
    unfold laws_heldIntSS.f
    exact heldSS_l T [] 1 (by decide) (by omega) (by simpa using hl) hr
  refine Ev.bind hs (Ev.bind hi (Ev.bind he (Ev.pos rfl (Ev.bind hm (Ev.bind hh (Ev.neg (by omega) (Ev.pos rfl ?_)))))))
  exact Ev.bind hi (Ev.bind he (Ev.pos rfl (Ev.bind hh (Ev.neg (by omega) (Ev.pos rfl (Ev.some _))))))
end Go.Proofs.Ytjijfflifonjoaa.Pure
