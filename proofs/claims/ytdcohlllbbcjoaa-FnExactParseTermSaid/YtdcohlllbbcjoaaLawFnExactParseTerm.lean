-- The row of the law laws_FnExactParseTerm, out of its Pure and the printed walk (by wip/print2.py). Lean checks it.
import Derived.Test.YtdcohlllbbcjoaaRows
import Derived.Test.YtdcohlllbbcjoaaP25
import Derived.Test.YtdcohlllbbcjoaaPureFnExactParseTerm
import Derived.Test.YtdcohlllbbcjoaaF
import Derived.WalkKit
import Derived.ProofKit
import Derived.OpenShut
import Derived.ShutString
import Derived.ChangeOld
import Derived.Below
import Derived.SizedLaws
namespace Go.Proofs.Ytdcohlllbbcjoaa.fnExactParseTerm
open Go.ChangeShapes Go.WideShapes Go.ChangeAt Go.RowKit
open Go.ChangeMaps (open_string shut_string)
set_option linter.unusedVariables false
theorem own : ownKnob Try.prog.godebug = none := by kernel_rfl
set_option maxRecDepth 100000 in
theorem lifted (os : Os) (started : os.Started) (H : Type) (enc : TypeId × Value → H) :
    ReturnsInHanded {} Try.checked os 5 .any (Rows.fnExactParseTermSpec.pre6 enc Try.prog Try.f5 Rows.fnExactParseTermRow.domain false) (Rows.fnExactParseTermSpec.post enc Try.prog Try.f5 false true false false) := by
  refine returnsInHanded_of_change_sized (C := Try.checked) own started (by kernel_rfl) Try.func5
    (ChangeSpec.witness6 (enc := enc) (C := Try.checked) false ⟨#[], #[.string ByteArray.empty], []⟩ 8 (by kernel_rfl) (by kernel_rfl) (by kernel_rfl) (by kernel_rfl)) ?_
  intro W base args ds gs before hval0 hW hcnd hsz0 _
  have hsz : (DataW.weightsEach Try.prog (Try.f5.params.toList ++ Rows.fnExactParseTermSpec.plain.varTypes Try.prog) (ds ++ gs)).all (· ≤ reachBytes) = true := hsz0
  have hval : ∀ (j : Nat) t v, Try.f5.params[j]? = some t → args[j]? = some v → Value.okWide Try.prog W .any base t v := hval0
  have hW' := hW
  obtain ⟨p, q, hA0, hV, rfl, hfz, hnd⟩ := hW
  have hA : DataW.TrodAll enc Try.prog W 0 (fun _ => true) true Try.f5.params.toList args.toList ds p := hA0
  rw [Try.params5] at hA hval hsz
  obtain ⟨v0, vs0, d0, ds0, p0, q0, hargs, rfl, rfl, h0, r0⟩ := trodAll_cons hA
  obtain ⟨rfl, rfl, rfl⟩ := trodAll_nil r0
  obtain rfl : args = #[v0] := by cases args; simp_all
  obtain ⟨rfl, rfl⟩ := trodVars_none hV
  obtain ⟨a0, rfl, rfl, rfl, y0⟩ := open_string Try.underlying9 (hval 0 9 v0 rfl rfl) h0
  have w0 : a0.size ≤ 140737488351232 := by
    have z := sized_string hsz (j := 0) (t := 9) rfl rfl
    rw [Array.length_toList] at z
    exact z
  clear hA0 hval0 hsz0 hsz
  refine (P.laws_FnExactParseTerm.walk Pure.FnExactParseTerm a0 W w0).mono fun e W' ⟨he, bel⟩ => ?_
  subst he
  exact ⟨_, rfl, _, _, _, [], _, [], hW', trodAll_mk1 (shut_bool Try.underlying4 _), (trodAll_cons_mk (shut_string Try.underlying9 y0) trodAll_mk0), rfl, bel.frame _, fun h => by cases h⟩
theorem facts : joinedFacts Try.pinned.checked.prog 5 Try.f5 Rows.fnExactParseTermSpec Rows.fnExactParseTermRow = true := by
  have s1 : (Rows.fnExactParseTermRow.inPlace == Try.pinned.checked.prog.inPlace 5) = true := by rw [show Try.pinned.checked.prog.inPlace 5 = _ from F.inPlace_FnExactParseTerm]; rfl
  have s2 : (Rows.fnExactParseTermRow.unfollowed == Try.pinned.checked.prog.unfollowed 5) = true := by rw [show Try.pinned.checked.prog.unfollowed 5 = _ from F.unf_FnExactParseTerm]; rfl
  have s3 : (Rows.fnExactParseTermRow.recurses == Try.pinned.checked.prog.recurses 5) = true := by rw [show Try.pinned.checked.prog.recurses 5 = _ from F.rec_FnExactParseTerm]; rfl
  have s4 : (Rows.fnExactParseTermRow.named == Try.pinned.checked.prog.varsNamed 5) = true := by rw [show Try.pinned.checked.prog.varsNamed 5 = _ from F.named_FnExactParseTerm]; rfl
  have s5 : Try.pinned.checked.prog.mayEnter = true := F.mayEnter
  have s6 : (Rows.fnExactParseTermRow.lifted == Try.pinned.checked.prog.liftsFinal) = true := by rw [show Try.pinned.checked.prog.liftsFinal = _ from F.liftsFinal]; rfl
  have s7 : (Try.pinned.checked.prog.make == some Rows.fnExactParseTermRow.make) = true := by rw [show Try.pinned.checked.prog.make = _ from F.make]; rfl
  unfold joinedFacts
  simp only [Bool.and_eq_true]
  repeat' apply And.intro
  all_goals first | with_reducible exact s1 | with_reducible exact s2 | with_reducible exact s3 | with_reducible exact s4 | with_reducible exact s5 | with_reducible exact s6 | with_reducible exact s7 | as_aux_lemma => kernel_rfl
theorem over : Rows.fnExactParseTermRow.holds Try.pinned (OpenSpec.ofChange Rows.fnExactParseTermSpec) :=
  OpenClaim.holds_of_wide 5 Try.f5 rfl rfl rfl rfl rfl rfl rfl ⟨rfl, rfl, rfl, rfl, rfl⟩ rfl rfl rfl rfl rfl (by kernel_rfl) Try.func5 facts
    (of_decide_eq_true (by kernel_rfl)) (by unfold Func.isWrapper; first | (rw [if_pos (by decide +kernel)]; kernel_rfl) | (rw [if_neg (by decide +kernel)]; exact ⟨rfl, rfl⟩))
    (fun os started H enc _ => lifted os started H enc)
theorem proved : Rows.FnExactParseTermSaid := over
#print axioms proved
end Go.Proofs.Ytdcohlllbbcjoaa.fnExactParseTerm
namespace Go.Proofs.Ytdcohlllbbcjoaa
/-- The row, under a short name, for the claim. -/
theorem fnExactParseTerm_holds : Rows.FnExactParseTermSaid := fnExactParseTerm.proved
end Go.Proofs.Ytdcohlllbbcjoaa
