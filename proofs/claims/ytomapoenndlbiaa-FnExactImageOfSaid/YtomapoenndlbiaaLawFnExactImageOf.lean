-- The row of the law laws_FnExactImageOf, out of its Pure and the printed walk (by wip/print2.py). Lean checks it.
import Derived.Test.YtomapoenndlbiaaRows
import Derived.Test.YtomapoenndlbiaaP34
import Derived.Test.YtomapoenndlbiaaPureFnExactImageOf
import Derived.Test.YtomapoenndlbiaaF
import Derived.Test.YtomapoenndlbiaaMRowAlg
import Derived.WalkKit
import Derived.ProofKit
import Derived.OpenShut
import Derived.ShutString
import Derived.ChangeOld
import Derived.Below
import Derived.SizedLaws
import Derived.Test.YtomapoenndlbiaaV0
namespace Go.Proofs.Ytomapoenndlbiaa.fnExactImageOf
open Go.ChangeShapes Go.WideShapes Go.ChangeAt Go.RowKit
open Go.ChangeMaps (open_string shut_string)
set_option linter.unusedVariables false
theorem own : ownKnob Try.prog.godebug = none := by kernel_rfl
theorem laidOut : laidOutB Try.prog = true := by kernel_rfl
def IsRow (k : IntKind) (w : World) (a : Option Addr) (len cap : Nat) (zs : List Int) : Prop :=
  (a = none ∧ len = 0 ∧ cap = 0 ∧ zs = []) ∨
  ∃ x, a = some x ∧ len ≤ cap ∧ cap ≤ maxLen ∧ zs.length = cap ∧ (∀ i, i < zs.length → w.cell? (x.add i) = some (.int k (zs.getD i 0))) ∧ ∀ n ∈ zs, (Lit.int k n).wf = true
set_option maxRecDepth 100000 in
theorem lifted (os : Os) (started : os.Started) (H : Type) (enc : TypeId × Value → H) :
    ReturnsInHanded {} Try.checked os 6 .any (Rows.fnExactImageOfSpec.pre6 enc Try.prog Try.f6 Rows.fnExactImageOfRow.domain false) (Rows.fnExactImageOfSpec.post enc Try.prog Try.f6 false true false false) := by
  refine returnsInHanded_of_change_sized (C := Try.checked) own started (by kernel_rfl) Try.func6
    (ChangeSpec.witness6 (enc := enc) (C := Try.checked) false ⟨#[], #[.agg #[.slice none 0 0, .slice none 0 0], .agg #[.slice none 0 0, .slice none 0 0], .slice none 0 0], []⟩ 8 (by kernel_rfl) (by kernel_rfl) (by kernel_rfl) (by kernel_rfl)) ?_
  intro W base args ds gs before hval0 hW hcnd hsz0 _
  have hsz : (DataW.weightsEach Try.prog (Try.f6.params.toList ++ Rows.fnExactImageOfSpec.plain.varTypes Try.prog) (ds ++ gs)).all (· ≤ reachBytes) = true := hsz0
  have hval : ∀ (j : Nat) t v, Try.f6.params[j]? = some t → args[j]? = some v → Value.okWide Try.prog W .any base t v := hval0
  have hW' := hW
  obtain ⟨p, q, hA0, hV, rfl, hfz, hnd⟩ := hW
  have hA : DataW.TrodAll enc Try.prog W 0 (fun _ => true) true Try.f6.params.toList args.toList ds p := hA0
  rw [Try.params6] at hA hval hsz
  obtain ⟨v0, vs0, d0, ds0, p0, q0, hargs, rfl, rfl, h0, r0⟩ := trodAll_cons hA
  obtain ⟨v1, vs1, d1, ds1, p1, q1, rfl, rfl, rfl, h1, r1⟩ := trodAll_cons r0
  obtain ⟨v2, vs2, d2, ds2, p2, q2, rfl, rfl, rfl, h2, r2⟩ := trodAll_cons r1
  obtain ⟨rfl, rfl, rfl⟩ := trodAll_nil r2
  obtain rfl : args = #[v0, v1, v2] := by cases args; simp_all
  obtain ⟨rfl, rfl⟩ := trodVars_none hV
  have k0 := h0
  have lt0 : ∀ x ∈ p0, x.block < W.heap.size := by obtain ⟨m, hm⟩ := k0; exact DataW.trod_lt m _ _ _ hm
  obtain ⟨A0_0, c0_0, l0_0, A0_1, c0_1, l0_1, rfl, ⟨hr0_0, hc0_0, hm0_0, hw0_0⟩, hr0_1, hc0_1, hm0_1, hw0_1⟩ := M.alg_open (q' := 3) Try.underlying25 (by kernel_rfl) (by kernel_rfl) Try.underlying22 Try.underlying23 Try.underlying22 Try.underlying3 (by kernel_rfl) (by kernel_rfl) (hval 0 25 v0 rfl rfl) h0
  have k1 := h1
  have lt1 : ∀ x ∈ p1, x.block < W.heap.size := by obtain ⟨m, hm⟩ := k1; exact DataW.trod_lt m _ _ _ hm
  obtain ⟨A1_0, c1_0, l1_0, A1_1, c1_1, l1_1, rfl, ⟨hr1_0, hc1_0, hm1_0, hw1_0⟩, hr1_1, hc1_1, hm1_1, hw1_1⟩ := M.alg_open (q' := 3) Try.underlying25 (by kernel_rfl) (by kernel_rfl) Try.underlying22 Try.underlying23 Try.underlying22 Try.underlying3 (by kernel_rfl) (by kernel_rfl) (hval 1 25 v1 rfl rfl) h1
  obtain ⟨a2, len2, cap2, rfl⟩ := okWide_slice Try.underlying22 (hval 2 22 v2 rfl rfl)
  have k2 := h2
  have lt2 : ∀ x ∈ p2, x.block < W.heap.size := by obtain ⟨m, hm⟩ := k2; exact DataW.trod_lt m _ _ _ hm
  obtain ⟨z2, w2⟩ : ∃ zs, IsRow .i64 W a2 len2 cap2 zs := by
    obtain ⟨fuel, hf⟩ := h2
    rcases open_ints Try.underlying22 Try.underlying3 (by kernel_rfl) hf with ⟨hcs, _⟩ | ⟨x, l, c, zs, hcs, _, hl, hm, hz, _, hcell, hwz⟩
    · simp [Value.cells] at hcs
      obtain ⟨rfl, rfl, rfl⟩ := hcs
      exact ⟨[], .inl ⟨rfl, rfl, rfl, rfl⟩⟩
    · simp [Value.cells] at hcs
      obtain ⟨rfl, rfl, rfl⟩ := hcs
      exact ⟨zs, .inr ⟨_, rfl, hl, hm, by simpa using hz, hcell, hwz⟩⟩
  have y2 : len2 * 8 ≤ 140737488351232 := Go.Proofs.YtomapoenndlbiaaW.PrintWords.sized_ints hsz (j := 2) (t := 22) rfl rfl Try.underlying22 Try.underlying3 (by kernel_rfl) (by kernel_rfl) h2
  clear hA0 hval0 hsz0 hsz
  refine (P.laws_FnExactImageOf.walk Pure.FnExactImageOf A0_0 c0_0 l0_0 A0_1 c0_1 l0_1 A1_0 c1_0 l1_0 A1_1 c1_1 l1_1 a2 len2 cap2 z2 W hr0_0 hc0_0 hm0_0 hw0_0 hr0_1 hc0_1 hm0_1 hw0_1 hr1_0 hc1_0 hm1_0 hw1_0 hr1_1 hc1_1 hm1_1 hw1_1 w2 y2).mono fun e W' ⟨he, bel⟩ => ?_
  subst he
  exact ⟨_, rfl, _, _, _, [], _, [], hW', trodAll_mk1 (shut_bool Try.underlying4 _), (trodAll_cons_mk (Below.trod laidOut (by kernel_rfl) (of_decide_eq_true (by kernel_rfl)) k0 bel lt0) (trodAll_cons_mk (Below.trod laidOut (by kernel_rfl) (of_decide_eq_true (by kernel_rfl)) k1 bel lt1) (trodAll_cons_mk (Below.trod laidOut (by kernel_rfl) (of_decide_eq_true (by kernel_rfl)) k2 bel lt2) trodAll_mk0))), rfl, bel.frame _, fun h => by cases h⟩
theorem facts : joinedFacts Try.pinned.checked.prog 6 Try.f6 Rows.fnExactImageOfSpec Rows.fnExactImageOfRow = true := by
  have s1 : (Rows.fnExactImageOfRow.inPlace == Try.pinned.checked.prog.inPlace 6) = true := by rw [show Try.pinned.checked.prog.inPlace 6 = _ from F.inPlace_FnExactImageOf]; rfl
  have s2 : (Rows.fnExactImageOfRow.unfollowed == Try.pinned.checked.prog.unfollowed 6) = true := by rw [show Try.pinned.checked.prog.unfollowed 6 = _ from F.unf_FnExactImageOf]; rfl
  have s3 : (Rows.fnExactImageOfRow.recurses == Try.pinned.checked.prog.recurses 6) = true := by rw [show Try.pinned.checked.prog.recurses 6 = _ from F.rec_FnExactImageOf]; rfl
  have s4 : (Rows.fnExactImageOfRow.named == Try.pinned.checked.prog.varsNamed 6) = true := by rw [show Try.pinned.checked.prog.varsNamed 6 = _ from F.named_FnExactImageOf]; rfl
  have s5 : Try.pinned.checked.prog.mayEnter = true := F.mayEnter
  have s6 : (Rows.fnExactImageOfRow.lifted == Try.pinned.checked.prog.liftsFinal) = true := by rw [show Try.pinned.checked.prog.liftsFinal = _ from F.liftsFinal]; rfl
  have s7 : (Try.pinned.checked.prog.make == some Rows.fnExactImageOfRow.make) = true := by rw [show Try.pinned.checked.prog.make = _ from F.make]; rfl
  unfold joinedFacts
  simp only [Bool.and_eq_true]
  repeat' apply And.intro
  all_goals first | with_reducible exact s1 | with_reducible exact s2 | with_reducible exact s3 | with_reducible exact s4 | with_reducible exact s5 | with_reducible exact s6 | with_reducible exact s7 | as_aux_lemma => kernel_rfl
theorem over : Rows.fnExactImageOfRow.holds Try.pinned (OpenSpec.ofChange Rows.fnExactImageOfSpec) :=
  OpenClaim.holds_of_wide 6 Try.f6 rfl rfl rfl rfl rfl rfl rfl ⟨rfl, rfl, rfl, rfl, rfl⟩ rfl rfl rfl rfl rfl (by kernel_rfl) Try.func6 facts
    (of_decide_eq_true (by kernel_rfl)) (by unfold Func.isWrapper; first | (rw [if_pos (by decide +kernel)]; kernel_rfl) | (rw [if_neg (by decide +kernel)]; exact ⟨rfl, rfl⟩))
    (fun os started H enc _ => lifted os started H enc)
theorem proved : Rows.FnExactImageOfSaid := over
#print axioms proved
end Go.Proofs.Ytomapoenndlbiaa.fnExactImageOf
namespace Go.Proofs.Ytomapoenndlbiaa
/-- The row, under a short name, for the claim. -/
theorem fnExactImageOf_holds : Rows.FnExactImageOfSaid := fnExactImageOf.proved
end Go.Proofs.Ytomapoenndlbiaa
