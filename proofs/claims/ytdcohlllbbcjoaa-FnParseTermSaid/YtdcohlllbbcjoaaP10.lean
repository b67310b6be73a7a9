-- Printed by this session's wip/print2.py (the kit's print.py, widened) out of the translation. Lean checks it.
import Derived.Test.YtdcohlllbbcjoaaP0
import Derived.Test.YtdcohlllbbcjoaaP8
import Derived.Test.YtdcohlllbbcjoaaP9
namespace Go.Proofs.Ytdcohlllbbcjoaa.P
open Go.RowKit Go.Proofs.YtdcohlllbbcjoaaW.PrintWords Go.Proofs.YtdcohlllbbcjoaaW.PrintLast Go.Proofs.YtdcohlllbbcjoaaW.PrintMore
attribute [local go_sem] max2_int min2_int max_two min_two max_three min_three max_four min_four   -- for this text's walks alone
set_option linter.unusedVariables false
set_option linter.unusedSimpArgs false

/-! ### impl_text: by hand -/
/-- The text of the first term of some numbers, and what is behind it. -/
def impl_text.f : Nat → List Int → Option (ByteArray × List Int)
 | 0, _ => none
 | k + 1, l => if 0 < (l.length : Int) then (if rd l 0 < 3 then (if 0 ≤ rd l 0 then some ((⟨#[120, 121, 122]⟩ : ByteArray).extract (rd l 0).toNat ((rd l 0).toNat + 1), l.drop 1) else none) else if rd l 0 = 10 then some (⟨#[48]⟩, l.drop 1) else if rd l 0 = 11 then some (⟨#[49]⟩, l.drop 1) else (impl_text.f k (l.drop 1)).bind fun p => if rd l 0 = 12 then (if 1 + p.1.size ≤ 9223372036854775807 then some ((⟨#[45]⟩ : ByteArray) ++ p.1, p.2) else none) else if 13 ≤ rd l 0 ∧ rd l 0 ≤ 16 then ((impl_text.f k p.2).bind fun q => if 1 + p.1.size ≤ 9223372036854775807 then (if ((⟨#[40]⟩ : ByteArray) ++ p.1).size + (sgn (rd l 0)).size ≤ 9223372036854775807 then (if ((⟨#[40]⟩ : ByteArray) ++ p.1 ++ sgn (rd l 0)).size + q.1.size ≤ 9223372036854775807 then (if ((⟨#[40]⟩ : ByteArray) ++ p.1 ++ sgn (rd l 0) ++ q.1).size + 1 ≤ 9223372036854775807 then some ((⟨#[40]⟩ : ByteArray) ++ p.1 ++ sgn (rd l 0) ++ q.1 ++ (⟨#[41]⟩ : ByteArray), q.2) else none) else none) else none) else none) else none) else none
set_option maxHeartbeats 4000000 in
set_option maxRecDepth 100000 in
theorem impl_text.calls : ∀ (k : Nat) (A0 : Option Addr) (c0 : Nat) (l0 : List Int) (s : ByteArray) (r : List Int) (w : World) (hr0 : Kd.C (Kd.int .i64) w A0 l0.length l0) (hc0 : l0.length ≤ c0) (h : impl_text.f k l0 = some (s, r)),
  Calls Try.prog 24 #[.slice A0 l0.length c0] w fun e w' => ∃ A' c', e = .returned (.tuple #[.string s, .slice A' r.length c']) ∧ r.length ≤ c' ∧ Kd.C (Kd.int .i64) w' A' r.length r ∧ Below w.heap.size w w'
 | 0, _, _, _, _, _, _, _, _, h => by simp [impl_text.f] at h
 | k + 1, A0, c0, l0, s, r, w, hr0, hc0, h => by
  have IH := @impl_text.calls k
  have HR0 := Aside0.mk hr0
  have HC0 := Aside0.mk hc0
  have HB := Aside0.mk (Below.refl w.heap.size w)
  simp only [impl_text.f] at h
  by_cases c1 : 0 < (l0.length : Int)
  case neg => rw [if_neg c1] at h; exact absurd h (by simp)
  rw [if_pos c1] at h
  have H := Aside0.mk h
  clear h hr0 hc0
  have p0 : 0 ≤ (0 : Int) := by decide
  have q0 : (0 : Int) < (l0.length : Int) := c1
  obtain ⟨ad0, e0, hx0⟩ := Kd.at_int HR0.out 0 p0 q0
  cases e0
  have d1 : decide ((0 : Int) < (l0.length : Int)) = true := decide_eq_true c1
  have qi0 : (0 < l0.length) = True := eq_true (by omega)
  (try rw [show ((0 : Int)).toNat = 0 from rfl] at hx0)
  (try rw [Addr.add_zero'] at hx0)
  replace q0 := eq_true q0
  obtain ⟨i0, hi0, _, hsz0, _⟩ := info_parts info3
  obtain ⟨A1, hcut1, hA1, hC1⟩ := print_drop_of (P := Try.prog) (Value.int .i64) 0 22 3 .i64 Try.underlying22 hi0 hsz0 (some ad0) c0 l0 1 (by omega) (by omega) HC0.out
  have HR1 := Aside0.mk (Kd.C_of_reads (h1 := fun _ => rfl) (hA1 _ (Kd.reads_of_C HR0.out)))
  have HC1 := Aside0.mk hC1
  clear hA1 hC1 hi0 hsz0
  generalize hx : rd l0 0 = x at H hx0
  by_cases c3 : x < 3
  ·have h := H.out
   clear H
   rw [if_pos c3] at h
   by_cases c0x : 0 ≤ x
   case neg => rw [if_neg c0x] at h; exact absurd h (by simp)
   rw [if_pos c0x] at h
   have e : x = 0 ∨ x = 1 ∨ x = 2 := by omega
   rcases e with e | e | e <;> subst e <;>
   ·simp only [Option.some.injEq, Prod.mk.injEq] at h
    obtain ⟨rfl, rfl⟩ := h
    go_enter Try.func24, Try.ntmps24
    go_wp2
    repeat (go_quiet (fail); try go_wp2)
    refine bodyPost_ret (results_tmp2 (t := 2) (u := 3) rfl _ _ _) rfl ?_
    exact ⟨A1, c0 - 1, by rw [List.length_drop]; rfl, HC1.out, kC HR1.out, kB (Below.refl _ _)⟩
  have d3 : decide (x < 3) = false := decide_eq_false c3
  by_cases c10 : x = 10
  ·have h := H.out
   rw [if_neg c3, if_pos c10] at h
   simp only [Option.some.injEq, Prod.mk.injEq] at h
   obtain ⟨rfl, rfl⟩ := h
   have d10 : (x == 10) = true := by rw [c10]; rfl
   clear H
   go_enter Try.func24, Try.ntmps24
   go_wp2
   repeat (go_quiet (fail); try go_wp2)
   refine bodyPost_ret (results_tmp2 (t := 2) (u := 3) rfl _ _ _) rfl ?_
   exact ⟨A1, c0 - 1, by rw [List.length_drop]; rfl, HC1.out, kC HR1.out, kB (Below.refl _ _)⟩
  have d10 : (x == 10) = false := beq_eq_false_iff_ne.mpr c10
  by_cases c11 : x = 11
  ·have h := H.out
   rw [if_neg c3, if_neg c10, if_pos c11] at h
   simp only [Option.some.injEq, Prod.mk.injEq] at h
   obtain ⟨rfl, rfl⟩ := h
   have d11 : (x == 11) = true := by rw [c11]; rfl
   clear H
   go_enter Try.func24, Try.ntmps24
   go_wp2
   repeat (go_quiet (fail); try go_wp2)
   refine bodyPost_ret (results_tmp2 (t := 2) (u := 3) rfl _ _ _) rfl ?_
   exact ⟨A1, c0 - 1, by rw [List.length_drop]; rfl, HC1.out, kC HR1.out, kB (Below.refl _ _)⟩
  have d11 : (x == 11) = false := beq_eq_false_iff_ne.mpr c11
  have h := H.out
  clear H
  rw [if_neg c3, if_neg c10, if_neg c11] at h
  obtain ⟨⟨s1, r1⟩, hp, h⟩ := Option.bind_eq_some_iff.mp h
  simp only at h
  have hl1 : (l0.drop 1).length = l0.length - 1 := List.length_drop
  have IH1 := fun w' hr hc => IH A1 (c0 - 1) (l0.drop 1) s1 r1 w' hr hc hp
  have HR2 : Aside0 (Kd.C (Kd.int .i64) w A1 (l0.length - 1) (l0.drop 1)) := ⟨by rw [← hl1]; exact HR1.out⟩
  have HC2 : Aside0 (l0.length - 1 ≤ c0 - 1) := ⟨by rw [← hl1]; exact HC1.out⟩
  rw [hl1] at IH1
  by_cases c12 : x = 12
  ·rw [if_pos c12] at h
   by_cases z1 : 1 + s1.size ≤ 9223372036854775807
   case neg => rw [if_neg z1] at h; exact absurd h (by simp)
   rw [if_pos z1] at h
   simp only [Option.some.injEq, Prod.mk.injEq] at h
   obtain ⟨rfl, rfl⟩ := h
   have d12 : (x == 12) = true := by rw [c12]; rfl
   have zn : ¬ (9223372036854775807 < 1 + s1.size) := by omega
   go_enter Try.func24, Try.ntmps24
   go_wp2
   repeat (go_quiet (fail); try go_wp2_with (first | (go_at_call 24; (with_reducible refine (IH1 _ ?side1 ?side2).mono ?_); (case side1 => exact kC HR2.out); (case side2 => exact HC2.out); rintro e w2 ⟨A2, c2, rfl, hc2, hr2, hb2⟩)))
   refine bodyPost_ret (results_tmp2 (t := 2) (u := 3) rfl _ _ _) rfl ?_
   exact ⟨A2, c2, rfl, hc2, hr2, below_step (kB (Below.refl _ _)) hb2⟩
  ·rw [if_neg c12] at h
   have d12 : (x == 12) = false := beq_eq_false_iff_ne.mpr c12
   by_cases cR : 13 ≤ x ∧ x ≤ 16
   case neg => rw [if_neg cR] at h; exact absurd h (by simp)
   rw [if_pos cR] at h
   have hwf : (Lit.int .i64 x).wf = true := by
    have e : x = 13 ∨ x = 14 ∨ x = 15 ∨ x = 16 := by omega
    rcases e with e | e | e | e <;> rw [e] <;> rfl
   obtain ⟨⟨s2, r2⟩, hq, h⟩ := Option.bind_eq_some_iff.mp h
   simp only at h
   have IH2 := fun A c w' hr hc => IH A c r1 s2 r2 w' hr hc hq
   by_cases z1 : 1 + s1.size ≤ 9223372036854775807
   case neg => rw [if_neg z1] at h; exact absurd h (by simp)
   rw [if_pos z1] at h
   by_cases z2 : ((⟨#[40]⟩ : ByteArray) ++ s1).size + (sgn x).size ≤ 9223372036854775807
   case neg => rw [if_neg z2] at h; exact absurd h (by simp)
   rw [if_pos z2] at h
   by_cases z3 : ((⟨#[40]⟩ : ByteArray) ++ s1 ++ sgn x).size + s2.size ≤ 9223372036854775807
   case neg => rw [if_neg z3] at h; exact absurd h (by simp)
   rw [if_pos z3] at h
   by_cases z4 : ((⟨#[40]⟩ : ByteArray) ++ s1 ++ sgn x ++ s2).size + 1 ≤ 9223372036854775807
   case neg => rw [if_neg z4] at h; exact absurd h (by simp)
   rw [if_pos z4] at h
   simp only [Option.some.injEq, Prod.mk.injEq] at h
   obtain ⟨rfl, rfl⟩ := h
   have zn1 : ¬ (9223372036854775807 < 1 + s1.size) := by omega
   have e40 : (⟨#[40]⟩ : ByteArray).size = 1 := rfl
   simp only [ByteArray.size_append, e40] at z2 z3 z4
   have zn2 : ¬ (9223372036854775807 < 1 + s1.size + (sgn x).size) := by omega
   have zn3 : ¬ (9223372036854775807 < 1 + s1.size + (sgn x).size + s2.size) := by omega
   have zn4 : ¬ (9223372036854775807 < 1 + s1.size + (sgn x).size + s2.size + 1) := by omega
   go_enter Try.func24, Try.ntmps24
   go_wp2
   repeat (go_quiet (fail); try go_wp2_with (first | (go_at_call 24; (with_reducible refine (IH1 _ ?side1 ?side2).mono ?_); (case side1 => exact kC HR2.out); (case side2 => exact HC2.out); rintro e w2 ⟨A2, c2, rfl, hc2, hr2, hb2⟩) | (go_at_call 24; (with_reducible refine (IH2 A2 c2 _ ?side1 ?side2).mono ?_); (case side1 => exact kC hr2); (case side2 => exact hc2); rintro e w3 ⟨A3, c3, rfl, hc3, hr3, hb3⟩) | (go_at_call 36; refine (impl_signs.calls _).mono ?_; rintro e w4 ⟨rfl, hown, hb4⟩; have hlook := signs_look hown x hwf)))
   refine bodyPost_ret (results_tmp2 (t := 2) (u := 3) rfl _ _ _) rfl ?_
   exact ⟨A3, c3, rfl, hc3, Kd.C_below hr3 (kB hb4), below_step (below_step (kB (Below.refl _ _)) hb2) (below_step (kB hb3) hb4)⟩
/-! ### impl_TermText: by hand -/
/-- The text of a term; the empty one of what is no term. -/
def impl_TermText.f (k : Nat) (l0 : List Int) : Option ByteArray := (impl_ValidTerm.f k l0).bind fun t => if t = true then ((impl_text.f k l0).bind fun p => some p.1) else some (⟨#[]⟩ : ByteArray)
set_option maxHeartbeats 4000000 in
set_option maxRecDepth 100000 in
theorem impl_TermText.calls (k : Nat) (A0 : Option Addr) (c0 : Nat) (l0 : List Int) (r : ByteArray) (w : World) (hr0 : Kd.C (Kd.int .i64) w A0 l0.length l0) (hc0 : l0.length ≤ c0) (h : impl_TermText.f k l0 = some r) :
  Calls Try.prog 10 #[.slice A0 l0.length c0] w fun e w' => e = .returned (.string r) ∧ Below w.heap.size w w' := by
 have HR0 := ak hr0
 have HC0 := ak hc0
 clear hr0 hc0
 unfold impl_TermText.f at h
 obtain ⟨t, A10, h⟩ := Option.bind_eq_some_iff.mp h
 have A1 := ak A10
 clear A10
 cases t with
 | true =>
  rw [if_pos rfl] at h
  obtain ⟨⟨s, q⟩, A20, h⟩ := Option.bind_eq_some_iff.mp h
  have A2 := ak A20
  clear A20
  obtain rfl := Option.some.inj h
  go_enter Try.func10, Try.ntmps10
  go_wp2_with (first | (go_at_call 13; (with_reducible refine (impl_ValidTerm.calls k _ _ l0 true _ ?side1 ?side2 A1.out).mono ?_); (case side1 => exact kC HR0.out); (case side2 => exact HC0.out); rintro e w' ⟨rfl, ⟨nd, rfl⟩⟩) | (go_at_call 24; (with_reducible refine (impl_text.calls k _ _ l0 s q _ ?side1 ?side2 A2.out).mono ?_); (case side1 => exact kC HR0.out); (case side2 => exact HC0.out); rintro e w2 ⟨A', c', rfl, hc', hr', hb'⟩))
  go_ret
  exact ⟨rfl, below_step (kB (Below.refl _ _)) hb'⟩
 | false =>
  rw [if_neg (by decide)] at h
  obtain rfl := Option.some.inj h
  go_enter Try.func10, Try.ntmps10
  go_wp2_with (first | (go_at_call 13; (with_reducible refine (impl_ValidTerm.calls k _ _ l0 false _ ?side1 ?side2 A1.out).mono ?_); (case side1 => exact kC HR0.out); (case side2 => exact HC0.out); rintro e w' ⟨rfl, ⟨nd, rfl⟩⟩))
  go_ret
  exact ⟨rfl, kB (Below.refl _ _)⟩
end Go.Proofs.Ytdcohlllbbcjoaa.P

-- shrunk
