-- The row of the law laws_FnExactAllLattices, out of its Pure and the printed walk (by wip/print2.py). Lean checks it.
import Derived.Test.YtjijfflifonjoaaRows
import Derived.Test.YtjijfflifonjoaaP18
import Derived.Test.YtjijfflifonjoaaPureFnExactAllLattices
import Derived.Test.YtjijfflifonjoaaF
import Derived.WalkKit
import Derived.ProofKit
import Derived.OpenShut
import Derived.ShutString
import Derived.ChangeOld
import Derived.Below
import Derived.SizedLaws
namespace Go.Proofs.Ytjijfflifonjoaa.fnExactAllLattices
open Go.ChangeShapes Go.WideShapes Go.ChangeAt Go.RowKit
open Go.ChangeMaps (open_string shut_string)
set_option linter.unusedVariables false
theorem own : ownKnob Try.prog.godebug = none := by kernel_rfl
set_option maxRecDepth 100000 in
theorem lifted (os : Os) (started : os.Started) (H : Type) (enc : TypeId × Value → H) :
    ReturnsInHanded {} Try.checked os 3 .any (Rows.fnExactAllLatticesSpec.pre6 enc Try.prog Try.f3 Rows.fnExactAllLatticesRow.domain false) (Rows.fnExactAllLatticesSpec.post enc Try.prog Try.f3 false true false false) := by
  refine returnsInHanded_of_change_sized (C := Try.checked) own started (by kernel_rfl) Try.func3
    (ChangeSpec.witness6 (enc := enc) (C := Try.checked) false ⟨#[], #[.int .i64 0], []⟩ 8 (by kernel_rfl) (by kernel_rfl) (by kernel_rfl) (by kernel_rfl)) ?_
  intro W base args ds gs before hval0 hW hcnd hsz0 _
  have hsz : (DataW.weightsEach Try.prog (Try.f3.params.toList ++ Rows.fnExactAllLatticesSpec.plain.varTypes Try.prog) (ds ++ gs)).all (· ≤ reachBytes) = true := hsz0
  have hval : ∀ (j : Nat) t v, Try.f3.params[j]? = some t → args[j]? = some v → Value.okWide Try.prog W .any base t v := hval0
  have hW' := hW
  obtain ⟨p, q, hA0, hV, rfl, hfz, hnd⟩ := hW
  have hA : DataW.TrodAll enc Try.prog W 0 (fun _ => true) true Try.f3.params.toList args.toList ds p := hA0
  rw [Try.params3] at hA hval hsz
  obtain ⟨v0, vs0, d0, ds0, p0, q0, hargs, rfl, rfl, h0, r0⟩ := trodAll_cons hA
  obtain ⟨rfl, rfl, rfl⟩ := trodAll_nil r0
  obtain rfl : args = #[v0] := by cases args; simp_all
  obtain ⟨rfl, rfl⟩ := trodVars_none hV
  obtain ⟨a0, rfl, rfl, rfl, w0⟩ := open_int Try.underlying3 (hval 0 3 v0 rfl rfl) h0
  clear hA0 hval0 hsz0 hsz
  refine (P.laws_FnExactAllLattices.walk Pure.FnExactAllLattices a0 W w0).mono fun e W' ⟨he, bel⟩ => ?_
  subst he
  exact ⟨_, rfl, _, _, _, [], _, [], hW', trodAll_mk1 (shut_bool Try.underlying4 _), (trodAll_cons_mk (shut_int Try.underlying3 w0) trodAll_mk0), rfl, bel.frame _, fun h => by cases h⟩
theorem facts : joinedFacts Try.pinned.checked.prog 3 Try.f3 Rows.fnExactAllLatticesSpec Rows.fnExactAllLatticesRow = true := by
  have s1 : (Rows.fnExactAllLatticesRow.inPlace == Try.pinned.checked.prog.inPlace 3) = true := by rw [show Try.pinned.checked.prog.inPlace 3 = _ from F.inPlace_FnExactAllLattices]; rfl
  have s2 : (Rows.fnExactAllLatticesRow.unfollowed == Try.pinned.checked.prog.unfollowed 3) = true := by rw [show Try.pinned.checked.prog.unfollowed 3 = _ from F.unf_FnExactAllLattices]; rfl
  have s3 : (Rows.fnExactAllLatticesRow.recurses == Try.pinned.checked.prog.recurses 3) = true := by rw [show Try.pinned.checked.prog.recurses 3 = _ from F.rec_FnExactAllLattices]; rfl
  have s4 : (Rows.fnExactAllLatticesRow.named == Try.pinned.checked.prog.varsNamed 3) = true := by rw [show Try.pinned.checked.prog.varsNamed 3 = _ from F.named_FnExactAllLattices]; rfl
  have s5 : Try.pinned.checked.prog.mayEnter = true := F.mayEnter
  have s6 : (Rows.fnExactAllLatticesRow.lifted == Try.pinned.checked.prog.liftsFinal) = true := by rw [show Try.pinned.checked.prog.liftsFinal = _ from F.liftsFinal]; rfl
  have s7 : (Try.pinned.checked.prog.make == some Rows.fnExactAllLatticesRow.make) = true := by rw [show Try.pinned.checked.prog.make = _ from F.make]; rfl
  unfold joinedFacts
  simp only [Bool.and_eq_true]
  repeat' apply And.intro
  all_goals first | with_reducible exact s1 | with_reducible exact s2 | with_reducible exact s3 | with_reducible exact s4 | with_reducible exact s5 | with_reducible exact s6 | with_reducible exact s7 | as_aux_lemma => kernel_rfl
theorem over : Rows.fnExactAllLatticesRow.holds Try.pinned (OpenSpec.ofChange Rows.fnExactAllLatticesSpec) :=
  OpenClaim.holds_of_wide 3 Try.f3 rfl rfl rfl rfl rfl rfl rfl ⟨rfl, rfl, rfl, rfl, rfl⟩ rfl rfl rfl rfl rfl (by kernel_rfl) Try.func3 facts
    (of_decide_eq_true (by kernel_rfl)) (by unfold Func.isWrapper; first | (rw [if_pos (by decide +kernel)]; kernel_rfl) | (rw [if_neg (by decide +kernel)]; exact ⟨rfl, rfl⟩))
    (fun os started H enc _ => lifted os started H enc)
theorem proved : Rows.FnExactAllLatticesSaid := over
#print axioms proved
end Go.Proofs.Ytjijfflifonjoaa.fnExactAllLattices
namespace Go.Proofs.Ytjijfflifonjoaa
/-- The row, under a short name, for the claim. -/
theorem fnExactAllLattices_holds : Rows.FnExactAllLatticesSaid := fnExactAllLattices.proved
end Go.Proofs.Ytjijfflifonjoaa
