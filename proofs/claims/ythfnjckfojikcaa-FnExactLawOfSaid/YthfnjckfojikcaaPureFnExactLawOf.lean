/- For every name the program's LawOf and the reference's answer the same list, in memory of its own. -/
import Derived.Test.YthfnjckfojikcaaP1
import Derived.Test.YthfnjckfojikcaaP2
import Derived.Test.YthfnjckfojikcaaP5
import Derived.Test.YthfnjckfojikcaaMMark
namespace Go.Proofs.Ythfnjckfojikcaa.Pure
set_option linter.unusedVariables false
open Go.RowKit Go.Proofs.Ythfnjckfojikcaa.P Go.Proofs.YthfnjckfojikcaaW.PrintWords Go.Proofs.YthfnjckfojikcaaW.PrintLast Go.Proofs.Ythfnjckfojikcaa.M
theorem law_some (a : ByteArray) : ∃ l, impl_LawOf.f a = some l ∧ l.length ≤ 9 := by
  unfold impl_LawOf.f
  repeat' first
    | exact ⟨_, rfl, by decide⟩
    | split
theorem law_same (a : ByteArray) : spec_LawOf.f a = impl_LawOf.f a := by
  unfold spec_LawOf.f
  obtain ⟨l, h, _⟩ := law_some a
  have e : spec_law.f a = impl_LawOf.f a := rfl
  rw [e, h]
  rfl
theorem FnExactLawOf : laws_FnExactLawOf.Pure := by
  intro a _
  refine Ev.rounds (r := true) ?_
  unfold laws_FnExactLawOf.f
  refine Ev.ite' (fun _ => Ev.some _) (fun hll => ?_)
  obtain ⟨w, hw, h9⟩ := law_some a
  rw [law_same, hw]
  have hl : w.length ≤ 17592186044416 := by omega
  refine Ev.bindc rfl (Ev.bindc rfl (Ev.bind (eqIntS_same w hl) (Ev.pos rfl ?_)))
  refine Ev.bind (markIntS_ev w 1 (by decide) (by decide) hl) (Ev.bind (heldIntS_ev 1 w.length (by decide) (by decide) hl) ?_)
  refine Ev.neg (by omega) (Ev.pos rfl ?_)
  refine Ev.bindc rfl (Ev.bind (eqIntS_same w hl) (Ev.pos rfl (Ev.bind (heldIntS_ev 1 w.length (by decide) (by decide) hl) ?_)))
  exact Ev.neg (by omega) (Ev.pos rfl (Ev.some _))
end Go.Proofs.Ythfnjckfojikcaa.Pure
