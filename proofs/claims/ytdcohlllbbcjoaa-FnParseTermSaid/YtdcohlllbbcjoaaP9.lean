-- Printed by this session's wip/print2.py (the kit's print.py, widened) out of the translation. Lean checks it.
import Derived.Test.YtdcohlllbbcjoaaP0
namespace Go.Proofs.Ytdcohlllbbcjoaa.P
open Go.RowKit Go.Proofs.YtdcohlllbbcjoaaW.PrintWords Go.Proofs.YtdcohlllbbcjoaaW.PrintLast Go.Proofs.YtdcohlllbbcjoaaW.PrintMore
attribute [local go_sem] max2_int min2_int max_two min_two max_three min_three max_four min_four   -- for this text's walks alone
set_option linter.unusedVariables false
set_option linter.unusedSimpArgs false

/-! ### impl_signs: by hand -/
/-- A map literal's store: the map of the call's own has the key. -/
theorem wpList_insert_own {H : Type} {P : Program} (w : World) {ops : Array Oper} {rest : List Oper} {o : Oper} {a : Act} {Q : Exit → Act → World → Prop}
  (hg : o.guard = none) (m x v : Operand) (t : TypeId) (hop : o.op = Op.insert t m x v)
  (k e : TypeId) (K : Maps.Keyed P k) (ht : P.underlying t = some (.map k e)) (R : Value → Option (DataW H × List MemPlace)) (b n : Nat) (D : DataW H)
  (hm : a.eval m = .map (some b)) (hown : w.ownsMap P k R b n D) (hn : n < maxLen) (key val : Value) (kl : Lit) (hx : a.eval x = key) (hv : a.eval v = val) (hkey : keyOf P k key = some kl)
  (d : DataW H) (ps : List MemPlace) (hval : R val = some (d, ps))
  (hK : ∀ w', w'.ownsMap P k R b (n + 1) (D.put kl d) → w.grownBy w' (some b) → wpList P ops Q rest (a.put o.dst undef) w') :
  wpList P ops Q (o :: rest) a w := by
 refine wpList_plain hg fun K' hK' => ?_
 obtain ⟨w', hrun, r1, r2⟩ := hown.update K ht hn hkey hval
 unfold Oper.wp
 simp [execOp, hop, hm, hx, hv, hrun, Result.andThen]
 exact hK' _ _ (hK w' r1 r2)
def SIGNS : DataW Unit := ((((DataW.map []).put (.int .i64 13) (.lit (.string [38]))).put (.int .i64 14) (.lit (.string [124]))).put (.int .i64 15) (.lit (.string [42]))).put (.int .i64 16) (.lit (.string [62]))
set_option maxHeartbeats 4000000 in
set_option maxRecDepth 100000 in
theorem impl_signs.calls (w : World) : Calls Try.prog 36 #[] w fun e w' => e = .returned (.map (some w.heap.size)) ∧ w'.ownsMap Try.prog 3 (plainElem (H := Unit) Try.prog 9) w.heap.size 4 SIGNS ∧ Below w.heap.size w w' := by
 have hmm := @run_makeMap Try.prog
 have K := Maps.int_keyed Try.underlying3
 have hown0 := World.ownsMap_made (H := Unit) w Try.prog 3 (plainElem Try.prog 9)
 go_enter Try.func36, Try.ntmps36
 go_wp2_with (first | (refine wpList_insert_own _ rfl _ _ _ 48 rfl 3 9 K Try.underlying48 _ w.heap.size 0 _ rfl hown0 (by decide) _ _ (.int .i64 13) rfl rfl (by rfl) (.lit (.string [38])) [] (by rfl) ?_; clear hown0; intro w1 hown1 hg1) | (refine wpList_insert_own _ rfl _ _ _ 48 rfl 3 9 K Try.underlying48 _ w.heap.size 1 _ rfl hown1 (by decide) _ _ (.int .i64 14) rfl rfl (by rfl) (.lit (.string [124])) [] (by rfl) ?_; clear hown1; intro w2 hown2 hg2) | (refine wpList_insert_own _ rfl _ _ _ 48 rfl 3 9 K Try.underlying48 _ w.heap.size 2 _ rfl hown2 (by decide) _ _ (.int .i64 15) rfl rfl (by rfl) (.lit (.string [42])) [] (by rfl) ?_; clear hown2; intro w3 hown3 hg3) | (refine wpList_insert_own _ rfl _ _ _ 48 rfl 3 9 K Try.underlying48 _ w.heap.size 3 _ rfl hown3 (by decide) _ _ (.int .i64 16) rfl rfl (by rfl) (.lit (.string [62])) [] (by rfl) ?_; clear hown3; intro w4 hown4 hg4))
 go_ret
 refine ⟨rfl, hown4, ?_⟩
 have hb0 : Below w.heap.size w (w.alloc (Obj.map #[] 0)) := (Below.refl _ _).alloc (Nat.le_refl _) _
 have hr : ∀ k, some w.heap.size = some k → w.heap.size ≤ k := fun k e => Nat.le_of_eq (Option.some.inj e)
 have b1 := hb0.grown hg1 (below_size hb0) hr
 have b2 := b1.grown hg2 (below_size b1) hr
 have b3 := b2.grown hg3 (below_size b2) hr
 exact b3.grown hg4 (below_size b3) hr
def sgn (x : Int) : ByteArray := if x = 13 then ⟨#[38]⟩ else if x = 14 then ⟨#[124]⟩ else if x = 15 then ⟨#[42]⟩ else if x = 16 then ⟨#[62]⟩ else ByteArray.empty
theorem signs_at (x : Int) : SIGNS.atKey (.int .i64 x) (.lit (.string [])) = .lit (.string (sgn x).data.toList) := by
 unfold SIGNS sgn
 by_cases h1 : x = 13
 ·subst h1; rfl
 by_cases h2 : x = 14
 ·subst h2; rfl
 by_cases h3 : x = 15
 ·subst h3; rfl
 by_cases h4 : x = 16
 ·subst h4; rfl
 rw [if_neg h1, if_neg h2, if_neg h3, if_neg h4]
 have g1 : (Lit.int .i64 13).sameKey (.int .i64 x) = false := decide_eq_false (fun e => h1 e.2.symm)
 have g2 : (Lit.int .i64 14).sameKey (.int .i64 x) = false := decide_eq_false (fun e => h2 e.2.symm)
 have g3 : (Lit.int .i64 15).sameKey (.int .i64 x) = false := decide_eq_false (fun e => h3 e.2.symm)
 have g4 : (Lit.int .i64 16).sameKey (.int .i64 x) = false := decide_eq_false (fun e => h4 e.2.symm)
 show (DataW.map [(Lit.int .i64 13, (DataW.lit (.string [38]) : DataW Unit)), (.int .i64 14, .lit (.string [124])), (.int .i64 15, .lit (.string [42])), (.int .i64 16, .lit (.string [62]))]).atKey (.int .i64 x) (.lit (.string [])) = .lit (.string ByteArray.empty.data.toList)
 simp only [DataW.atKey, List.find?, g1, g2, g3, g4]
 rfl
theorem signs_look {w : World} {b : Nat} (h : w.ownsMap Try.prog 3 (plainElem (H := Unit) Try.prog 9) b 4 SIGNS) (x : Int) (hx : (Lit.int .i64 x).wf = true) : (Instr.lookup 48 (.map (some b)) (.int .i64 x) false).run Try.prog w = .ok (.string (sgn x)) w := by
 have hk : keyOf Try.prog 3 (.int .i64 x) = some (.int .i64 x) := Maps.keyOf_int_mk Try.underlying3 hx
 obtain ⟨v, ps, hrun, hv⟩ := h.lookup (Maps.int_keyed Try.underlying3) Try.underlying48 (z := .string ByteArray.empty) (by rfl) (zd := .lit (.string [])) (zp := []) (by rfl) hk
 rw [signs_at] at hv
 rw [hrun]
 have hu := Try.underlying9
 unfold plainElem at hv
 rw [hu] at hv
 cases v with
 | string s =>
  simp only at hv
  split at hv
  ·simp only [Option.some.injEq, Prod.mk.injEq] at hv
   obtain ⟨e, _⟩ := hv
   injection e with e
   injection e with e
   have : s = sgn x := by
    obtain ⟨s⟩ := s
    generalize sgn x = y at e
    obtain ⟨y⟩ := y
    simp at e
    rw [e]
   rw [this]
  ·cases hv
 | _ => simp at hv


end Go.Proofs.Ytdcohlllbbcjoaa.P

-- shrunk
