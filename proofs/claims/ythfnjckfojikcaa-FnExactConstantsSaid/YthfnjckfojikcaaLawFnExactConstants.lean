-- The row of the law laws_FnExactConstants, out of its Pure and the printed walk (by wip/print2.py). Lean checks it.
import Derived.Test.YthfnjckfojikcaaRows
import Derived.Test.YthfnjckfojikcaaP1
import Derived.Test.YthfnjckfojikcaaPureFnExactConstants
import Derived.Test.YthfnjckfojikcaaF
import Derived.WalkKit
import Derived.ProofKit
import Derived.OpenShut
import Derived.ShutString
import Derived.ChangeOld
import Derived.Below
import Derived.SizedLaws
namespace Go.Proofs.Ythfnjckfojikcaa.fnExactConstants
open Go.ChangeShapes Go.WideShapes Go.ChangeAt Go.RowKit
open Go.ChangeMaps (open_string shut_string)
set_option linter.unusedVariables false
theorem own : ownKnob Try.prog.godebug = none := by kernel_rfl
set_option maxRecDepth 100000 in
theorem lifted (os : Os) (started : os.Started) (H : Type) (enc : TypeId × Value → H) :
    ReturnsInHanded {} Try.checked os 3 .any (Rows.fnExactConstantsSpec.pre6 enc Try.prog Try.f3 Rows.fnExactConstantsRow.domain false) (Rows.fnExactConstantsSpec.post enc Try.prog Try.f3 false true false false) := by
  refine returnsInHanded_of_change_sized (C := Try.checked) own started (by kernel_rfl) Try.func3
    (ChangeSpec.witness6 (enc := enc) (C := Try.checked) false ⟨#[], #[], []⟩ 8 (by kernel_rfl) (by kernel_rfl) (by kernel_rfl) (by kernel_rfl)) ?_
  intro W base args ds gs before hval0 hW hcnd hsz0 _
  have hsz : (DataW.weightsEach Try.prog (Try.f3.params.toList ++ Rows.fnExactConstantsSpec.plain.varTypes Try.prog) (ds ++ gs)).all (· ≤ reachBytes) = true := hsz0
  have hval : ∀ (j : Nat) t v, Try.f3.params[j]? = some t → args[j]? = some v → Value.okWide Try.prog W .any base t v := hval0
  have hW' := hW
  obtain ⟨p, q, hA0, hV, rfl, hfz, hnd⟩ := hW
  have hA : DataW.TrodAll enc Try.prog W 0 (fun _ => true) true Try.f3.params.toList args.toList ds p := hA0
  rw [Try.params3] at hA hval hsz
  obtain ⟨rfl, rfl, rfl⟩ := trodAll_none hA
  obtain ⟨rfl, rfl⟩ := trodVars_none hV
  clear hA0 hval0 hsz0 hsz
  refine (P.laws_FnExactConstants.walk Pure.FnExactConstants  W ).mono fun e W' ⟨he, bel⟩ => ?_
  subst he
  exact ⟨_, rfl, _, _, _, [], _, [], hW', trodAll_mk1 (shut_bool Try.underlying4 _), trodAll_mk0, rfl, bel.frame _, fun h => by cases h⟩
theorem facts : joinedFacts Try.pinned.checked.prog 3 Try.f3 Rows.fnExactConstantsSpec Rows.fnExactConstantsRow = true := by
  have s1 : (Rows.fnExactConstantsRow.inPlace == Try.pinned.checked.prog.inPlace 3) = true := by rw [show Try.pinned.checked.prog.inPlace 3 = _ from F.inPlace_FnExactConstants]; rfl
  have s2 : (Rows.fnExactConstantsRow.unfollowed == Try.pinned.checked.prog.unfollowed 3) = true := by rw [show Try.pinned.checked.prog.unfollowed 3 = _ from F.unf_FnExactConstants]; rfl
  have s3 : (Rows.fnExactConstantsRow.recurses == Try.pinned.checked.prog.recurses 3) = true := by rw [show Try.pinned.checked.prog.recurses 3 = _ from F.rec_FnExactConstants]; rfl
  have s4 : (Rows.fnExactConstantsRow.named == Try.pinned.checked.prog.varsNamed 3) = true := by rw [show Try.pinned.checked.prog.varsNamed 3 = _ from F.named_FnExactConstants]; rfl
  have s5 : Try.pinned.checked.prog.mayEnter = true := F.mayEnter
  have s6 : (Rows.fnExactConstantsRow.lifted == Try.pinned.checked.prog.liftsFinal) = true := by rw [show Try.pinned.checked.prog.liftsFinal = _ from F.liftsFinal]; rfl
  have s7 : (Try.pinned.checked.prog.make == some Rows.fnExactConstantsRow.make) = true := by rw [show Try.pinned.checked.prog.make = _ from F.make]; rfl
  unfold joinedFacts
  simp only [Bool.and_eq_true]
  repeat' apply And.intro
  all_goals first | with_reducible exact s1 | with_reducible exact s2 | with_reducible exact s3 | with_reducible exact s4 | with_reducible exact s5 | with_reducible exact s6 | with_reducible exact s7 | as_aux_lemma => kernel_rfl
theorem over : Rows.fnExactConstantsRow.holds Try.pinned (OpenSpec.ofChange Rows.fnExactConstantsSpec) :=
  OpenClaim.holds_of_wide 3 Try.f3 rfl rfl rfl rfl rfl rfl rfl ⟨rfl, rfl, rfl, rfl, rfl⟩ rfl rfl rfl rfl rfl (by kernel_rfl) Try.func3 facts
    (of_decide_eq_true (by kernel_rfl)) (by unfold Func.isWrapper; first | (rw [if_pos (by decide +kernel)]; kernel_rfl) | (rw [if_neg (by decide +kernel)]; exact ⟨rfl, rfl⟩))
    (fun os started H enc _ => lifted os started H enc)
theorem proved : Rows.FnExactConstantsSaid := over
#print axioms proved
end Go.Proofs.Ythfnjckfojikcaa.fnExactConstants
namespace Go.Proofs.Ythfnjckfojikcaa
/-- The row, under a short name, for the claim. -/
theorem fnExactConstants_holds : Rows.FnExactConstantsSaid := fnExactConstants.proved
end Go.Proofs.Ythfnjckfojikcaa
