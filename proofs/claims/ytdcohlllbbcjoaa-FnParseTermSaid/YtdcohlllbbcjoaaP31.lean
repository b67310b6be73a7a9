-- Printed by this session's wip/print2.py (the kit's print.py, widened) out of the translation. Lean checks it.
import Derived.Test.YtdcohlllbbcjoaaP0
import Derived.Test.YtdcohlllbbcjoaaP8
import Derived.Test.YtdcohlllbbcjoaaP10
import Derived.Test.YtdcohlllbbcjoaaP20
import Derived.Test.YtdcohlllbbcjoaaP23
import Derived.Test.YtdcohlllbbcjoaaP26
import Derived.Test.YtdcohlllbbcjoaaP30
namespace Go.Proofs.Ytdcohlllbbcjoaa.P
open Go.RowKit Go.Proofs.YtdcohlllbbcjoaaW.PrintWords Go.Proofs.YtdcohlllbbcjoaaW.PrintLast Go.Proofs.YtdcohlllbbcjoaaW.PrintMore
attribute [local go_sem] max2_int min2_int max_two min_two max_three min_three max_four min_four   -- for this text's walks alone
set_option linter.unusedVariables false
set_option linter.unusedSimpArgs false

/-! ### laws_FnParseTerm: function 7 -/
def laws_FnParseTerm.j0 : Nat → ByteArray → List Int → Bool → List Int → Bool → Bool → Option (Bool)
 | 0, _, _, _, _, _, _ => none
 | k + 1, x3, x4, x5, x6, x7, x35 => if x35 = true then ((laws_equalInts.f k x4 x6).bind fun t431 => (if t431 = true then (some (x5 == x7)) else (some false))) else ((impl_TermText.f k x4).bind fun t432 => (if t432.toList = x3.toList then ((impl_ValidTerm.f k x4).bind fun t433 => (some t433)) else (some false)))
def laws_FnParseTerm.f (k : Nat) (l0 : List Int) : Option (Bool) := if (l0.length : Int) > 1048576 then (some true) else ((spec_DrawParseTerm.f k l0).bind fun t421 => ((impl_ParseTerm.f k t421).bind fun bt422 => ((spec_ParseTerm.f k t421).bind fun bt426 => ((laws_equalInts.f k bt422.1 bt426.1).bind fun t430 => (if t430 = true then (if (bt422.2 != bt426.2) = true then (laws_FnParseTerm.j0 k t421 bt422.1 bt422.2 bt426.1 bt426.2 true) else (laws_FnParseTerm.j0 k t421 bt422.1 bt422.2 bt426.1 bt426.2 (!bt422.2))) else (laws_FnParseTerm.j0 k t421 bt422.1 bt422.2 bt426.1 bt426.2 true))))))
set_option maxHeartbeats 8000000 in
set_option maxRecDepth 100000 in
theorem laws_FnParseTerm.calls (k : Nat) (A0 : Option Addr) (c0 : Nat) (l0 : List Int) (r : Bool) (w : World) (hr0 : Kd.C (Kd.int .u8) w A0 l0.length l0) (hc0 : l0.length ≤ c0) (hrt : Aside0 (r = true)) (h : laws_FnParseTerm.f k l0 = some r) :
  Calls Try.prog 7 #[.slice A0 l0.length c0] w fun e w' => e = .returned (.bool r) ∧ Below w.heap.size w w' := by
 have HR0 := ak hr0
 have HC0 := ak hc0
 clear hr0 hc0
 have HB := ak (Below.refl w.heap.size w)
 have H : (if (l0.length : Int) > 1048576 then (some true) else ((spec_DrawParseTerm.f k l0).bind fun t421 => ((impl_ParseTerm.f k t421).bind fun bt422 => ((spec_ParseTerm.f k t421).bind fun bt426 => ((laws_equalInts.f k bt422.1 bt426.1).bind fun t430 => (if t430 = true then (if (bt422.2 != bt426.2) = true then (laws_FnParseTerm.j0 k t421 bt422.1 bt422.2 bt426.1 bt426.2 true) else (laws_FnParseTerm.j0 k t421 bt422.1 bt422.2 bt426.1 bt426.2 (!bt422.2))) else (laws_FnParseTerm.j0 k t421 bt422.1 bt422.2 bt426.1 bt426.2 true))))))) = some r := h
 clear h
 by_cases c2 : (l0.length : Int) > 1048576
 ·rw [if_pos c2] at H
  have c2b0 : decide (1048576 < (l0.length : Int)) = true := decide_eq_true c2
  have c2b1 : decide (1048576 < l0.length) = true := decide_eq_true (by omega)
  clear c2
  obtain rfl := Option.some.inj H
  go_enter Try.func7, Try.ntmps7
  go_wp2
  go_ret
  exact ⟨by first | rfl | (simp [errW_none, errW_some] <;> rfl) | (simp [*, errW_none, errW_some] <;> rfl), by repeat (first | (with_reducible first | exact HB.out | apply below_alloc | apply pw_below_drewN | apply below_drew1) | exact HB.out)⟩
 rw [if_neg c2] at H
 have c2b0 : decide (1048576 < (l0.length : Int)) = false := decide_eq_false c2
 have c2b1 : decide (1048576 < l0.length) = false := decide_eq_false (by omega)
 clear c2
 replace H := bi H
 obtain ⟨t421, A30, H⟩ := H
 try dsimp only at H
 have A3 := ak A30
 clear A30
 replace H := bi H
 obtain ⟨⟨t422, t423⟩, A40, H⟩ := H
 try dsimp only at H
 have A4 := ak A40
 clear A40
 replace H := bi H
 obtain ⟨⟨t426, t427⟩, A50, H⟩ := H
 try dsimp only at H
 have A5 := ak A50
 clear A50
 have HC6 := ak H
 clear H
 go_enter Try.func7, Try.ntmps7
 go_upto_region 6 with (first | ((with_reducible refine gate_callee (f := 21) rfl ?_); refine goesL_ (some 12) rfl rfl Try.func21 (by kernel_rfl) rfl #[.slice A0 l0.length c0] rfl (by (try simp only [List.map_toArray, List.map_cons, List.map_nil]); first | done | rfl | (simp only [List.length_drop, List.length_take]; rfl)) ?_; (with_reducible refine (spec_DrawParseTerm.calls k _ _ l0 t421 _ ?side1 ?side2 A3.out).mono ?_); (case side1 => exact kC HR0.out); (case side2 => exact HC0.out); rintro e w7 ⟨rfl, hb⟩; refine ⟨_, rfl, ?_⟩; replace HB := ak (below_step (bB HB.out) hb); (try clear hb); (try clear hb2); (try clear hk); (try clear hi)) | ((with_reducible refine gate_callee (f := 16) rfl ?_); refine goesL_ (some 15) rfl rfl Try.func16 (by kernel_rfl) rfl #[.string t421] rfl (by (try simp only [List.map_toArray, List.map_cons, List.map_nil]); first | done | rfl | (simp only [List.length_drop, List.length_take]; rfl)) ?_; (with_reducible refine (impl_ParseTerm.calls k t421 t422 t423 _ A4.out).mono ?_); rintro e w8 ⟨v424, rfl, ho0, hb⟩; refine ⟨_, rfl, ?_⟩; have HO425 := ak (Kd.R_lower ho0 (below_size (bB HB.out))); replace HB := ak (below_step (bB HB.out) hb); (try clear hb); (try clear hb2); (try clear hk); (try clear hi); (try clear ho0)) | ((with_reducible refine gate_callee (f := 15) rfl ?_); refine goesL_ (some 20) rfl rfl Try.func15 (by kernel_rfl) rfl #[.string t421] rfl (by (try simp only [List.map_toArray, List.map_cons, List.map_nil]); first | done | rfl | (simp only [List.length_drop, List.length_take]; rfl)) ?_; (with_reducible refine (spec_ParseTerm.calls k t421 t426 t427 _ A5.out).mono ?_); rintro e w9 ⟨v428, rfl, ho0, hb⟩; refine ⟨_, rfl, ?_⟩; have HO429 := ak (Kd.R_lower (Kd.R_new' ho0 (Kd.R_lt (kR HO425.out))) (below_size (bB HB.out))); replace HO425 := ak (Kd.R_elder' (kR HO425.out) (Kd.R_base ho0) hb); replace HB := ak (below_step (bB HB.out) hb); (try clear hb); (try clear hb2); (try clear hk); (try clear hi); (try clear ho0)))
 (try simp only [Act.put, List.setIfInBounds_toArray, List.set_cons_zero, List.set_cons_succ])
 go_cut [35] (fun v35 wc => ∃ (kq : Nat) (x35_5 : Bool), v35 = .bool x35_5 ∧ Aside0 (laws_FnParseTerm.j0 kq t421 t422 t423 t426 t427 x35_5 = some r) ∧ Aside0 (kq ≤ k) ∧ Aside0 (Kd.R (Kd.int .i64) 3 wc w.heap.size (fun k_ => some k_ ≠ (v428 : Value).ownBlock) v424 t422) ∧ Aside0 (Kd.R (Kd.int .i64) 3 wc w.heap.size (fun k_ => some k_ ≠ (v424 : Value).ownBlock) v428 t426) ∧ Aside0 (Below w.heap.size w wc))
 case first =>
  have H := HC6.out
  clear HC6
  replace H := bi H
  obtain ⟨t430, A100, H⟩ := H
  try dsimp only at H
  have A10 := ak A100
  clear A100
  by_cases c11 : t430 = true
  rotate_left
  ·replace c11 := Bool.eq_false_iff.mpr c11
   subst c11
   rw [if_neg (show ¬ (false = true) by decide)] at H
   have H' := ak H
   clear H
   obtain ⟨Ao17, co17, eo17⟩ := Kd.R_slice HO425.out
   subst eo17
   obtain ⟨Ao18, co18, eo18⟩ := Kd.R_slice HO429.out
   subst eo18
   go_wp2_with (first | ((with_reducible refine gate_callee (f := 20) rfl ?_); refine goesL_ (some 25) rfl rfl Try.func20 (by kernel_rfl) rfl #[.slice Ao17 t422.length co17, .slice Ao18 t426.length co18] rfl (by (try simp only [List.map_toArray, List.map_cons, List.map_nil]); first | done | rfl | (simp only [List.length_drop, List.length_take]; rfl)) ?_; (with_reducible refine (laws_equalInts.calls k _ _ t422 _ _ t426 false _ ?side1 ?side2 ?side3 ?side4 A10.out).mono ?_); (case side1 => exact kC (Kd.R_reads' HO425.out).2.2); (case side2 => exact (Kd.R_reads' HO425.out).2.1); (case side3 => exact kC (Kd.R_reads' HO429.out).2.2); (case side4 => exact (Kd.R_reads' HO429.out).2.1); rintro e w' ⟨rfl, ⟨nd, rfl⟩⟩; refine ⟨_, rfl, ?_⟩))
   go_meet
   case rel => exact ⟨_, (true), (by first | rfl | (simp; done) | (simp [*]; done)), H', ⟨by first | omega | exact Nat.le_refl _⟩, ⟨by (with_reducible repeat (first | apply Kd.R_alloc | apply Kd.R_drewN | apply Kd.R_drew)); exact Kd.R_mono HO425.out (fun _ hk => hk.2)⟩, ⟨by (with_reducible repeat (first | apply Kd.R_alloc | apply Kd.R_drewN | apply Kd.R_drew)); exact Kd.R_mono HO429.out (fun _ hk => hk.2)⟩, ⟨by repeat (first | (with_reducible first | exact HB.out | apply below_alloc | apply pw_below_drewN | apply below_drew1) | exact HB.out)⟩⟩
  subst c11
  rw [if_pos rfl] at H
  by_cases c12 : (t423 != t427) = true
  rotate_left
  ·rw [if_neg c12] at H
   have c12b0 : (t423 != t427) = false := by simpa using c12
   (try (have c12b1 : decide (t423 = t427) = true := by simpa using c12))
   (try (have c12b2 : (t423 == t427) = true := by simpa using c12))
   clear c12
   (first | rw [c12b0] | (simp only [i64_w, i32_w]; rw [c12b0]) | skip)
   have H' := ak H
   clear H
   obtain ⟨Ao15, co15, eo15⟩ := Kd.R_slice HO425.out
   subst eo15
   obtain ⟨Ao16, co16, eo16⟩ := Kd.R_slice HO429.out
   subst eo16
   go_wp2_with (first | ((with_reducible refine gate_callee (f := 20) rfl ?_); refine goesL_ (some 25) rfl rfl Try.func20 (by kernel_rfl) rfl #[.slice Ao15 t422.length co15, .slice Ao16 t426.length co16] rfl (by (try simp only [List.map_toArray, List.map_cons, List.map_nil]); first | done | rfl | (simp only [List.length_drop, List.length_take]; rfl)) ?_; (with_reducible refine (laws_equalInts.calls k _ _ t422 _ _ t426 true _ ?side1 ?side2 ?side3 ?side4 A10.out).mono ?_); (case side1 => exact kC (Kd.R_reads' HO425.out).2.2); (case side2 => exact (Kd.R_reads' HO425.out).2.1); (case side3 => exact kC (Kd.R_reads' HO429.out).2.2); (case side4 => exact (Kd.R_reads' HO429.out).2.1); rintro e w' ⟨rfl, ⟨nd, rfl⟩⟩; refine ⟨_, rfl, ?_⟩))
   go_meet
   case rel => exact ⟨_, (!t423), (by first | rfl | (simp; done) | (simp [*]; done)), H', ⟨by first | omega | exact Nat.le_refl _⟩, ⟨by (with_reducible repeat (first | apply Kd.R_alloc | apply Kd.R_drewN | apply Kd.R_drew)); exact Kd.R_mono HO425.out (fun _ hk => hk.2)⟩, ⟨by (with_reducible repeat (first | apply Kd.R_alloc | apply Kd.R_drewN | apply Kd.R_drew)); exact Kd.R_mono HO429.out (fun _ hk => hk.2)⟩, ⟨by repeat (first | (with_reducible first | exact HB.out | apply below_alloc | apply pw_below_drewN | apply below_drew1) | exact HB.out)⟩⟩
  rw [if_pos c12] at H
  have c12b0 : (t423 != t427) = true := c12
  (try (have c12b1 : decide (t423 = t427) = false := by simpa using c12))
  (try (have c12b2 : (t423 == t427) = false := by simpa using c12))
  (try (have c12b3 : ¬ (t423 = t427) := by simpa using c12))
  clear c12
  (first | rw [c12b0] | (simp only [i64_w, i32_w]; rw [c12b0]) | skip)
  have H' := ak H
  clear H
  obtain ⟨Ao13, co13, eo13⟩ := Kd.R_slice HO425.out
  subst eo13
  obtain ⟨Ao14, co14, eo14⟩ := Kd.R_slice HO429.out
  subst eo14
  go_wp2_with (first | ((with_reducible refine gate_callee (f := 20) rfl ?_); refine goesL_ (some 25) rfl rfl Try.func20 (by kernel_rfl) rfl #[.slice Ao13 t422.length co13, .slice Ao14 t426.length co14] rfl (by (try simp only [List.map_toArray, List.map_cons, List.map_nil]); first | done | rfl | (simp only [List.length_drop, List.length_take]; rfl)) ?_; (with_reducible refine (laws_equalInts.calls k _ _ t422 _ _ t426 true _ ?side1 ?side2 ?side3 ?side4 A10.out).mono ?_); (case side1 => exact kC (Kd.R_reads' HO425.out).2.2); (case side2 => exact (Kd.R_reads' HO425.out).2.1); (case side3 => exact kC (Kd.R_reads' HO429.out).2.2); (case side4 => exact (Kd.R_reads' HO429.out).2.1); rintro e w' ⟨rfl, ⟨nd, rfl⟩⟩; refine ⟨_, rfl, ?_⟩))
  go_meet
  case rel => exact ⟨_, (true), (by first | rfl | (simp; done) | (simp [*]; done)), H', ⟨by first | omega | exact Nat.le_refl _⟩, ⟨by (with_reducible repeat (first | apply Kd.R_alloc | apply Kd.R_drewN | apply Kd.R_drew)); exact Kd.R_mono HO425.out (fun _ hk => hk.2)⟩, ⟨by (with_reducible repeat (first | apply Kd.R_alloc | apply Kd.R_drewN | apply Kd.R_drew)); exact Kd.R_mono HO429.out (fun _ hk => hk.2)⟩, ⟨by repeat (first | (with_reducible first | exact HB.out | apply below_alloc | apply pw_below_drewN | apply below_drew1) | exact HB.out)⟩⟩
 case rest =>
  clear HC6
  try clear c1
  try clear c2
  try clear c2b0
  try clear c2b1
  try clear p2
  try clear c7
  try clear c11
  try clear c12
  try clear c12b0
  try clear c12b1
  try clear c12b2
  try clear c15
  try clear c16
  obtain ⟨kq, x35_5, rfl, HA, HJ5, HO_4, HO_6, HB⟩ := hcut
  cases kq with
  | zero => exact absurd HA.out (by simp [laws_FnParseTerm.j0])
  | succ kj5 =>
   have H := HA.out
   clear HA
   simp only [laws_FnParseTerm.j0] at H
   by_cases c19 : x35_5 = true
   ·subst c19
    rw [if_pos rfl] at H
    replace H := bi H
    obtain ⟨t431, A200, H⟩ := H
    try dsimp only at H
    have A20 := ak A200
    clear A200
    by_cases c21 : t431 = true
    rotate_left
    ·replace c21 := Bool.eq_false_iff.mpr c21
     subst c21
     rw [if_neg (show ¬ (false = true) by decide)] at H
     exact absurd (Option.some.inj H) (by rw [hrt.out]; decide)
    subst c21
    rw [if_pos rfl] at H
    obtain rfl := Option.some.inj H
    obtain ⟨Ao22, co22, eo22⟩ := Kd.R_slice HO_4.out
    subst eo22
    obtain ⟨Ao23, co23, eo23⟩ := Kd.R_slice HO_6.out
    subst eo23
    go_wp2_with (first | ((with_reducible refine gate_callee (f := 20) rfl ?_); refine goesL_ (some 38) rfl rfl Try.func20 (by kernel_rfl) rfl #[.slice Ao22 t422.length co22, .slice Ao23 t426.length co23] rfl (by (try simp only [List.map_toArray, List.map_cons, List.map_nil]); first | done | rfl | (simp only [List.length_drop, List.length_take]; rfl)) ?_; (with_reducible refine (laws_equalInts.calls kj5 _ _ t422 _ _ t426 true _ ?side1 ?side2 ?side3 ?side4 A20.out).mono ?_); (case side1 => exact kC (Kd.R_reads' HO_4.out).2.2); (case side2 => exact (Kd.R_reads' HO_4.out).2.1); (case side3 => exact kC (Kd.R_reads' HO_6.out).2.2); (case side4 => exact (Kd.R_reads' HO_6.out).2.1); rintro e w' ⟨rfl, ⟨nd, rfl⟩⟩; refine ⟨_, rfl, ?_⟩))
    go_ret
    exact ⟨by first | rfl | (simp [errW_none, errW_some] <;> rfl) | (simp [*, errW_none, errW_some] <;> rfl), by repeat (first | (with_reducible first | exact HB.out | apply below_alloc | apply pw_below_drewN | apply below_drew1) | exact HB.out)⟩
   replace c19 := Bool.eq_false_iff.mpr c19
   subst c19
   rw [if_neg (show ¬ (false = true) by decide)] at H
   replace H := bi H
   obtain ⟨t432, A240, H⟩ := H
   try dsimp only at H
   have A24 := ak A240
   clear A240
   by_cases c25 : t432.toList = t421.toList
   rotate_left
   ·rw [if_neg c25] at H
    have c25b0 : (t432.toList == t421.toList) = false := beq_eq_false_iff_ne.mpr c25
    have c25b1 : (t432.toList != t421.toList) = true := bne_iff_ne.mpr c25
    exact absurd (Option.some.inj H) (by rw [hrt.out]; decide)
   rw [if_pos c25] at H
   have c25b0 : (t432.toList == t421.toList) = true := beq_iff_eq.mpr c25
   have c25b1 : (t432.toList != t421.toList) = false := bne_eq_false_iff_eq.mpr c25
   clear c25
   replace H := bi H
   obtain ⟨t433, A260, H⟩ := H
   try dsimp only at H
   have A26 := ak A260
   clear A260
   obtain rfl := Option.some.inj H
   obtain ⟨Ao27, co27, eo27⟩ := Kd.R_slice HO_4.out
   subst eo27
   go_wp2_with (first | ((with_reducible refine gate_callee (f := 10) rfl ?_); refine goesL_ (some 45) rfl rfl Try.func10 (by kernel_rfl) rfl #[.slice Ao27 t422.length co27] rfl (by (try simp only [List.map_toArray, List.map_cons, List.map_nil]); first | done | rfl | (simp only [List.length_drop, List.length_take]; rfl)) ?_; (with_reducible refine (impl_TermText.calls kj5 _ _ t422 t432 _ ?side1 ?side2 A24.out).mono ?_); (case side1 => exact kC (Kd.R_reads' HO_4.out).2.2); (case side2 => exact (Kd.R_reads' HO_4.out).2.1); rintro e w28 ⟨rfl, hb⟩; refine ⟨_, rfl, ?_⟩; replace HO_4 := ak (Kd.R_below (kR HO_4.out) hb); replace HO_6 := ak (Kd.R_below (kR HO_6.out) hb); replace HB := ak (below_step (bB HB.out) hb); (try clear hb); (try clear hb2); (try clear hk); (try clear hi)) | (go_at_call 13; (with_reducible refine (impl_ValidTerm.calls kj5 _ _ t422 t433 _ ?side1 ?side2 A26.out).mono ?_); (case side1 => exact kC (Kd.R_reads' HO_4.out).2.2); (case side2 => exact (Kd.R_reads' HO_4.out).2.1); rintro e w' ⟨rfl, ⟨nd, rfl⟩⟩))
   go_ret
   exact ⟨by first | rfl | (simp [errW_none, errW_some] <;> rfl) | (simp [*, errW_none, errW_some] <;> rfl), by repeat (first | (with_reducible first | exact HB.out | apply below_alloc | apply pw_below_drewN | apply below_drew1) | exact HB.out)⟩
/-- THE ONE PURE STATEMENT of laws_FnParseTerm: yours. -/
def laws_FnParseTerm.Pure : Prop := ∀ (l0 : List Int), l0.length ≤ maxLen → l0.length * 1 ≤ 140737488351232 → (∀ x ∈ l0, (Lit.int .u8 x).wf = true) → ∃ k, laws_FnParseTerm.f k l0 = some true
theorem laws_FnParseTerm.walk (P : laws_FnParseTerm.Pure) (a0 : Option Addr) (len0 cap0 : Nat) (z0 : List Int) (w : World) (w0 : (a0 = none ∧ len0 = 0 ∧ cap0 = 0 ∧ z0 = []) ∨ ∃ x, a0 = some x ∧ len0 ≤ cap0 ∧ cap0 ≤ maxLen ∧ z0.length = cap0 ∧ (∀ i, i < z0.length → w.cell? (x.add i) = some (.int .u8 (z0.getD i 0))) ∧ ∀ n ∈ z0, (Lit.int .u8 n).wf = true) (y0 : len0 * 1 ≤ 140737488351232) :
  Calls Try.prog 7 #[.slice a0 len0 cap0] w fun e w' => e = .returned (.bool true) ∧ Below w.heap.size w w' := by
 obtain ⟨l0, rfl, hr0, hm0, hw0, hc0⟩ := ReadsInt.ofRowC w0
 obtain ⟨k, h⟩ := P l0 hm0 y0 hw0
 refine (laws_FnParseTerm.calls k _ _ l0 true w (Kd.C_of_reads (d := (0 : Int)) (h1 := fun _ => rfl) hr0) hc0 ⟨rfl⟩ h).mono ?_
 rintro e w' ⟨rfl, hd⟩
 exact ⟨rfl, hd⟩
end Go.Proofs.Ytdcohlllbbcjoaa.P

-- shrunk
