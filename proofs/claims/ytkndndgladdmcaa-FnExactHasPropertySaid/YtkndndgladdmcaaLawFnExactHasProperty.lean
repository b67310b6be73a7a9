-- The row of the law laws_FnExactHasProperty, out of its Pure and the printed walk (by wip/print2.py). Lean checks it.
import Derived.Test.YtkndndgladdmcaaRows
import Derived.Test.YtkndndgladdmcaaP46
import Derived.Test.YtkndndgladdmcaaPureFnExactHasProperty
import Derived.Test.YtkndndgladdmcaaF
import Derived.Test.YtkndndgladdmcaaMRowAlg
import Derived.WalkKit
import Derived.ProofKit
import Derived.OpenShut
import Derived.ShutString
import Derived.ChangeOld
import Derived.Below
import Derived.SizedLaws
import Derived.Test.YtkndndgladdmcaaV0
namespace Go.Proofs.Ytkndndgladdmcaa.fnExactHasProperty
open Go.ChangeShapes Go.WideShapes Go.ChangeAt Go.RowKit
open Go.ChangeMaps (open_string shut_string)
set_option linter.unusedVariables false
theorem own : ownKnob Try.prog.godebug = none := by kernel_rfl
theorem laidOut : laidOutB Try.prog = true := by kernel_rfl
def IsRow (k : IntKind) (w : World) (a : Option Addr) (len cap : Nat) (zs : List Int) : Prop :=
  (a = none ∧ len = 0 ∧ cap = 0 ∧ zs = []) ∨
  ∃ x, a = some x ∧ len ≤ cap ∧ cap ≤ maxLen ∧ zs.length = cap ∧ (∀ i, i < zs.length → w.cell? (x.add i) = some (.int k (zs.getD i 0))) ∧ ∀ n ∈ zs, (Lit.int k n).wf = true
set_option maxRecDepth 100000 in
theorem lifted (os : Os) (started : os.Started) (H : Type) (enc : TypeId × Value → H) :
    ReturnsInHanded {} Try.checked os 9 .any (Rows.fnExactHasPropertySpec.pre6 enc Try.prog Try.f9 Rows.fnExactHasPropertyRow.domain false) (Rows.fnExactHasPropertySpec.post enc Try.prog Try.f9 false true false false) := by
  refine returnsInHanded_of_change_sized (C := Try.checked) own started (by kernel_rfl) Try.func9
    (ChangeSpec.witness6 (enc := enc) (C := Try.checked) false ⟨#[], #[.string ByteArray.empty, .agg #[.slice none 0 0, .slice none 0 0]], []⟩ 8 (by kernel_rfl) (by kernel_rfl) (by kernel_rfl) (by kernel_rfl)) ?_
  intro W base args ds gs before hval0 hW hcnd hsz0 _
  have hsz : (DataW.weightsEach Try.prog (Try.f9.params.toList ++ Rows.fnExactHasPropertySpec.plain.varTypes Try.prog) (ds ++ gs)).all (· ≤ reachBytes) = true := hsz0
  have hval : ∀ (j : Nat) t v, Try.f9.params[j]? = some t → args[j]? = some v → Value.okWide Try.prog W .any base t v := hval0
  have hW' := hW
  obtain ⟨p, q, hA0, hV, rfl, hfz, hnd⟩ := hW
  have hA : DataW.TrodAll enc Try.prog W 0 (fun _ => true) true Try.f9.params.toList args.toList ds p := hA0
  rw [Try.params9] at hA hval hsz
  obtain ⟨v0, vs0, d0, ds0, p0, q0, hargs, rfl, rfl, h0, r0⟩ := trodAll_cons hA
  obtain ⟨v1, vs1, d1, ds1, p1, q1, rfl, rfl, rfl, h1, r1⟩ := trodAll_cons r0
  obtain ⟨rfl, rfl, rfl⟩ := trodAll_nil r1
  obtain rfl : args = #[v0, v1] := by cases args; simp_all
  obtain ⟨rfl, rfl⟩ := trodVars_none hV
  obtain ⟨a0, rfl, rfl, rfl, y0⟩ := open_string Try.underlying9 (hval 0 9 v0 rfl rfl) h0
  have w0 : a0.size ≤ 140737488351232 := by
    have z := sized_string hsz (j := 0) (t := 9) rfl rfl
    rw [Array.length_toList] at z
    exact z
  have k1 := h1
  have lt1 : ∀ x ∈ p1, x.block < W.heap.size := by obtain ⟨m, hm⟩ := k1; exact DataW.trod_lt m _ _ _ hm
  obtain ⟨A1_0, c1_0, l1_0, A1_1, c1_1, l1_1, rfl, ⟨hr1_0, hc1_0, hm1_0, hw1_0⟩, hr1_1, hc1_1, hm1_1, hw1_1⟩ := M.alg_open (q' := 3) Try.underlying25 (by kernel_rfl) (by kernel_rfl) Try.underlying22 Try.underlying23 Try.underlying22 Try.underlying3 (by kernel_rfl) (by kernel_rfl) (hval 1 25 v1 rfl rfl) h1
  clear hA0 hval0 hsz0 hsz
  refine (P.laws_FnExactHasProperty.walk Pure.FnExactHasProperty a0 A1_0 c1_0 l1_0 A1_1 c1_1 l1_1 W w0 hr1_0 hc1_0 hm1_0 hw1_0 hr1_1 hc1_1 hm1_1 hw1_1).mono fun e W' ⟨he, bel⟩ => ?_
  subst he
  exact ⟨_, rfl, _, _, _, [], _, [], hW', trodAll_mk1 (shut_bool Try.underlying4 _), (trodAll_cons_mk (shut_string Try.underlying9 y0) (trodAll_cons_mk (Below.trod laidOut (by kernel_rfl) (of_decide_eq_true (by kernel_rfl)) k1 bel lt1) trodAll_mk0)), rfl, bel.frame _, fun h => by cases h⟩
theorem facts : joinedFacts Try.pinned.checked.prog 9 Try.f9 Rows.fnExactHasPropertySpec Rows.fnExactHasPropertyRow = true := by
  have s1 : (Rows.fnExactHasPropertyRow.inPlace == Try.pinned.checked.prog.inPlace 9) = true := by rw [show Try.pinned.checked.prog.inPlace 9 = _ from F.inPlace_FnExactHasProperty]; rfl
  have s2 : (Rows.fnExactHasPropertyRow.unfollowed == Try.pinned.checked.prog.unfollowed 9) = true := by rw [show Try.pinned.checked.prog.unfollowed 9 = _ from F.unf_FnExactHasProperty]; rfl
  have s3 : (Rows.fnExactHasPropertyRow.recurses == Try.pinned.checked.prog.recurses 9) = true := by rw [show Try.pinned.checked.prog.recurses 9 = _ from F.rec_FnExactHasProperty]; rfl
  have s4 : (Rows.fnExactHasPropertyRow.named == Try.pinned.checked.prog.varsNamed 9) = true := by rw [show Try.pinned.checked.prog.varsNamed 9 = _ from F.named_FnExactHasProperty]; rfl
  have s5 : Try.pinned.checked.prog.mayEnter = true := F.mayEnter
  have s6 : (Rows.fnExactHasPropertyRow.lifted == Try.pinned.checked.prog.liftsFinal) = true := by rw [show Try.pinned.checked.prog.liftsFinal = _ from F.liftsFinal]; rfl
  have s7 : (Try.pinned.checked.prog.make == some Rows.fnExactHasPropertyRow.make) = true := by rw [show Try.pinned.checked.prog.make = _ from F.make]; rfl
  unfold joinedFacts
  simp only [Bool.and_eq_true]
  repeat' apply And.intro
  all_goals first | with_reducible exact s1 | with_reducible exact s2 | with_reducible exact s3 | with_reducible exact s4 | with_reducible exact s5 | with_reducible exact s6 | with_reducible exact s7 | as_aux_lemma => kernel_rfl
theorem over : Rows.fnExactHasPropertyRow.holds Try.pinned (OpenSpec.ofChange Rows.fnExactHasPropertySpec) :=
  OpenClaim.holds_of_wide 9 Try.f9 rfl rfl rfl rfl rfl rfl rfl ⟨rfl, rfl, rfl, rfl, rfl⟩ rfl rfl rfl rfl rfl (by kernel_rfl) Try.func9 facts
    (of_decide_eq_true (by kernel_rfl)) (by unfold Func.isWrapper; first | (rw [if_pos (by decide +kernel)]; kernel_rfl) | (rw [if_neg (by decide +kernel)]; exact ⟨rfl, rfl⟩))
    (fun os started H enc _ => lifted os started H enc)
theorem proved : Rows.FnExactHasPropertySaid := over
#print axioms proved
end Go.Proofs.Ytkndndgladdmcaa.fnExactHasProperty
namespace Go.Proofs.Ytkndndgladdmcaa
/-- The row, under a short name, for the claim. -/
theorem fnExactHasProperty_holds : Rows.FnExactHasPropertySaid := fnExactHasProperty.proved
end Go.Proofs.Ytkndndgladdmcaa
