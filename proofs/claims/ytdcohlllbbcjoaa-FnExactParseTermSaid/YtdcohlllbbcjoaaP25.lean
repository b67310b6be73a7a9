-- Printed by this session's wip/print2.py (the kit's print.py, widened) out of the translation. Lean checks it.
import Derived.Test.YtdcohlllbbcjoaaP0
import Derived.Test.YtdcohlllbbcjoaaP11
import Derived.Test.YtdcohlllbbcjoaaP20
import Derived.Test.YtdcohlllbbcjoaaP23
import Derived.Test.YtdcohlllbbcjoaaP24
namespace Go.Proofs.Ytdcohlllbbcjoaa.P
open Go.RowKit Go.Proofs.YtdcohlllbbcjoaaW.PrintWords Go.Proofs.YtdcohlllbbcjoaaW.PrintLast Go.Proofs.YtdcohlllbbcjoaaW.PrintMore
attribute [local go_sem] max2_int min2_int max_two min_two max_three min_three max_four min_four   -- for this text's walks alone
set_option linter.unusedVariables false
set_option linter.unusedSimpArgs false

/-! ### laws_FnExactParseTerm: function 5 -/
mutual
def laws_FnExactParseTerm.j0 : Nat → ByteArray → List Int → Bool → List Int → Bool → Option (Bool)
 | 0, _, _, _, _, _ => none
 | k + 1, x0, x3, x4, x5, x32 => if x32 = true then (some false) else ((laws_markIntS.f k x5 1).bind fun bt358 => ((laws_heldIntS.f k bt358.2 1).bind fun t360 => (if t360 < 0 then (some false) else (if t360 = bt358.1 then ((impl_ParseTerm.f k x0).bind fun bt361 => ((laws_eqIntS.f k bt361.1 x3).bind fun t365 => (if t365 = true then (laws_FnExactParseTerm.j1 k bt358.2 bt358.1 (bt361.2 != x4)) else (laws_FnExactParseTerm.j1 k bt358.2 bt358.1 true)))) else (some false)))))
def laws_FnExactParseTerm.j1 : Nat → List Int → Int → Bool → Option (Bool)
 | 0, _, _, _ => none
 | k + 1, x5, x7, x57 => if x57 = true then (some false) else ((laws_heldIntS.f k x5 1).bind fun t366 => (if t366 < 0 then (some false) else (if t366 = x7 then (some true) else (some false))))
end
def laws_FnExactParseTerm.f (k : Nat) (a0 : ByteArray) : Option (Bool) := if (a0.size : Int) > 1048576 then (some true) else ((spec_ParseTerm.f k a0).bind fun bt349 => ((impl_ParseTerm.f k a0).bind fun bt353 => ((laws_eqIntS.f k bt353.1 bt349.1).bind fun t357 => (if t357 = true then (laws_FnExactParseTerm.j0 k a0 bt349.1 bt349.2 bt353.1 (bt353.2 != bt349.2)) else (laws_FnExactParseTerm.j0 k a0 bt349.1 bt349.2 bt353.1 true)))))
set_option maxHeartbeats 8000000 in
set_option maxRecDepth 100000 in
theorem laws_FnExactParseTerm.calls (k : Nat) (a0 : ByteArray) (r : Bool) (w : World) (hrt : Aside0 (r = true)) (h : laws_FnExactParseTerm.f k a0 = some r) :
  Calls Try.prog 5 #[.string a0] w fun e w' => e = .returned (.bool r) ∧ Below w.heap.size w w' := by
 have HB := ak (Below.refl w.heap.size w)
 have H : (if (a0.size : Int) > 1048576 then (some true) else ((spec_ParseTerm.f k a0).bind fun bt349 => ((impl_ParseTerm.f k a0).bind fun bt353 => ((laws_eqIntS.f k bt353.1 bt349.1).bind fun t357 => (if t357 = true then (laws_FnExactParseTerm.j0 k a0 bt349.1 bt349.2 bt353.1 (bt353.2 != bt349.2)) else (laws_FnExactParseTerm.j0 k a0 bt349.1 bt349.2 bt353.1 true)))))) = some r := h
 clear h
 by_cases c2 : (a0.size : Int) > 1048576
 ·rw [if_pos c2] at H
  have c2b0 : decide (1048576 < (a0.size : Int)) = true := decide_eq_true c2
  have c2b1 : decide (1048576 < a0.size) = true := decide_eq_true (by omega)
  clear c2
  obtain rfl := Option.some.inj H
  go_enter Try.func5, Try.ntmps5
  go_wp2
  go_ret
  exact ⟨by first | rfl | (simp [errW_none, errW_some] <;> rfl) | (simp [*, errW_none, errW_some] <;> rfl), by repeat (first | (with_reducible first | exact HB.out | apply below_alloc | apply pw_below_drewN | apply below_drew1) | exact HB.out)⟩
 rw [if_neg c2] at H
 have c2b0 : decide (1048576 < (a0.size : Int)) = false := decide_eq_false c2
 have c2b1 : decide (1048576 < a0.size) = false := decide_eq_false (by omega)
 clear c2
 replace H := bi H
 obtain ⟨⟨t349, t350⟩, A30, H⟩ := H
 try dsimp only at H
 have A3 := ak A30
 clear A30
 replace H := bi H
 obtain ⟨⟨t353, t354⟩, A40, H⟩ := H
 try dsimp only at H
 have A4 := ak A40
 clear A40
 have HC5 := ak H
 clear H
 go_enter Try.func5, Try.ntmps5
 go_upto_region 5 with (first | ((with_reducible refine gate_callee (f := 15) rfl ?_); refine goesL_ (some 16) rfl rfl Try.func15 (by kernel_rfl) rfl #[.string a0] rfl (by (try simp only [List.map_toArray, List.map_cons, List.map_nil]); first | done | rfl | (simp only [List.length_drop, List.length_take]; rfl)) ?_; (with_reducible refine (spec_ParseTerm.calls k a0 t349 t350 _ A3.out).mono ?_); rintro e w6 ⟨v351, rfl, ho0, hb⟩; refine ⟨_, rfl, ?_⟩; have HO352 := ak (Kd.R_lower ho0 (below_size (bB HB.out))); replace HB := ak (below_step (bB HB.out) hb); (try clear hb); (try clear hb2); (try clear hk); (try clear hi); (try clear ho0)) | ((with_reducible refine gate_callee (f := 16) rfl ?_); refine goesL_ (some 21) rfl rfl Try.func16 (by kernel_rfl) rfl #[.string a0] rfl (by (try simp only [List.map_toArray, List.map_cons, List.map_nil]); first | done | rfl | (simp only [List.length_drop, List.length_take]; rfl)) ?_; (with_reducible refine (impl_ParseTerm.calls k a0 t353 t354 _ A4.out).mono ?_); rintro e w7 ⟨v355, rfl, ho0, hb⟩; refine ⟨_, rfl, ?_⟩; have HO356 := ak (Kd.R_lower (Kd.R_new' ho0 (Kd.R_lt (kR HO352.out))) (below_size (bB HB.out))); replace HO352 := ak (Kd.R_elder' (kR HO352.out) (Kd.R_base ho0) hb); replace HB := ak (below_step (bB HB.out) hb); (try clear hb); (try clear hb2); (try clear hk); (try clear hi); (try clear ho0)))
 (try simp only [Act.put, List.setIfInBounds_toArray, List.set_cons_zero, List.set_cons_succ])
 go_cut [32] (fun v32 wc => ∃ (kq : Nat) (x32_4 : Bool), v32 = .bool x32_4 ∧ Aside0 (laws_FnExactParseTerm.j0 kq a0 t349 t350 t353 x32_4 = some r) ∧ Aside0 (kq ≤ k) ∧ Aside0 (Kd.R (Kd.int .i64) 3 wc w.heap.size (fun k_ => some k_ ≠ (v355 : Value).ownBlock) v351 t349) ∧ Aside0 (Kd.R (Kd.int .i64) 3 wc w.heap.size (fun k_ => some k_ ≠ (v351 : Value).ownBlock) v355 t353) ∧ Aside0 (Below w.heap.size w wc))
 case first =>
  have H := HC5.out
  clear HC5
  replace H := bi H
  obtain ⟨t357, A80, H⟩ := H
  try dsimp only at H
  have A8 := ak A80
  clear A80
  by_cases c9 : t357 = true
  ·subst c9
   rw [if_pos rfl] at H
   have H' := ak H
   clear H
   obtain ⟨Ao10, co10, eo10⟩ := Kd.R_slice HO356.out
   subst eo10
   obtain ⟨Ao11, co11, eo11⟩ := Kd.R_slice HO352.out
   subst eo11
   go_wp2_with (first | ((with_reducible refine gate_callee (f := 11) rfl ?_); refine goesL_ (some 26) rfl rfl Try.func11 (by kernel_rfl) rfl #[.slice Ao10 t353.length co10, .slice Ao11 t349.length co11] rfl (by (try simp only [List.map_toArray, List.map_cons, List.map_nil]); first | done | rfl | (simp only [List.length_drop, List.length_take]; rfl)) ?_; (with_reducible refine (laws_eqIntS.calls k _ _ t353 _ _ t349 true _ ?side1 ?side2 ?side3 ?side4 A8.out).mono ?_); (case side1 => exact kC (Kd.R_reads' HO356.out).2.2); (case side2 => exact (Kd.R_reads' HO356.out).2.1); (case side3 => exact kC (Kd.R_reads' HO352.out).2.2); (case side4 => exact (Kd.R_reads' HO352.out).2.1); rintro e w' ⟨rfl, ⟨nd, rfl⟩⟩; refine ⟨_, rfl, ?_⟩))
   go_meet
   case rel => exact ⟨_, ((t354 != t350)), (by first | rfl | (simp; done) | (simp [*]; done)), H', ⟨by first | omega | exact Nat.le_refl _⟩, ⟨by (with_reducible repeat (first | apply Kd.R_alloc | apply Kd.R_drewN | apply Kd.R_drew)); exact Kd.R_mono HO352.out (fun _ hk => hk.2)⟩, ⟨by (with_reducible repeat (first | apply Kd.R_alloc | apply Kd.R_drewN | apply Kd.R_drew)); exact Kd.R_mono HO356.out (fun _ hk => hk.2)⟩, ⟨by repeat (first | (with_reducible first | exact HB.out | apply below_alloc | apply pw_below_drewN | apply below_drew1) | exact HB.out)⟩⟩
  replace c9 := Bool.eq_false_iff.mpr c9
  subst c9
  rw [if_neg (show ¬ (false = true) by decide)] at H
  have H' := ak H
  clear H
  obtain ⟨Ao12, co12, eo12⟩ := Kd.R_slice HO356.out
  subst eo12
  obtain ⟨Ao13, co13, eo13⟩ := Kd.R_slice HO352.out
  subst eo13
  go_wp2_with (first | ((with_reducible refine gate_callee (f := 11) rfl ?_); refine goesL_ (some 26) rfl rfl Try.func11 (by kernel_rfl) rfl #[.slice Ao12 t353.length co12, .slice Ao13 t349.length co13] rfl (by (try simp only [List.map_toArray, List.map_cons, List.map_nil]); first | done | rfl | (simp only [List.length_drop, List.length_take]; rfl)) ?_; (with_reducible refine (laws_eqIntS.calls k _ _ t353 _ _ t349 false _ ?side1 ?side2 ?side3 ?side4 A8.out).mono ?_); (case side1 => exact kC (Kd.R_reads' HO356.out).2.2); (case side2 => exact (Kd.R_reads' HO356.out).2.1); (case side3 => exact kC (Kd.R_reads' HO352.out).2.2); (case side4 => exact (Kd.R_reads' HO352.out).2.1); rintro e w' ⟨rfl, ⟨nd, rfl⟩⟩; refine ⟨_, rfl, ?_⟩))
  go_meet
  case rel => exact ⟨_, (true), (by first | rfl | (simp; done) | (simp [*]; done)), H', ⟨by first | omega | exact Nat.le_refl _⟩, ⟨by (with_reducible repeat (first | apply Kd.R_alloc | apply Kd.R_drewN | apply Kd.R_drew)); exact Kd.R_mono HO352.out (fun _ hk => hk.2)⟩, ⟨by (with_reducible repeat (first | apply Kd.R_alloc | apply Kd.R_drewN | apply Kd.R_drew)); exact Kd.R_mono HO356.out (fun _ hk => hk.2)⟩, ⟨by repeat (first | (with_reducible first | exact HB.out | apply below_alloc | apply pw_below_drewN | apply below_drew1) | exact HB.out)⟩⟩
 case rest =>
  clear HC5
  try clear c1
  try clear c2
  try clear c2b0
  try clear c2b1
  try clear p2
  try clear c5
  try clear c9
  try clear c11
  obtain ⟨kq, x32_4, rfl, HA, HJ4, HO_3, HO_5, HB⟩ := hcut
  cases kq with
  | zero => exact absurd HA.out (by simp [laws_FnExactParseTerm.j0])
  | succ kj4 =>
   have H := HA.out
   clear HA
   simp only [laws_FnExactParseTerm.j0] at H
   by_cases c14 : x32_4 = true
   ·subst c14
    rw [if_pos rfl] at H
    exact absurd (Option.some.inj H) (by rw [hrt.out]; decide)
   replace c14 := Bool.eq_false_iff.mpr c14
   subst c14
   rw [if_neg (show ¬ (false = true) by decide)] at H
   replace H := bi H
   obtain ⟨⟨t358, t359⟩, A150, H⟩ := H
   try dsimp only at H
   have A15 := ak A150
   clear A150
   replace H := bi H
   obtain ⟨t360, A160, H⟩ := H
   try dsimp only at H
   have A16 := ak A160
   clear A160
   by_cases c17 : t360 < 0
   ·rw [if_pos c17] at H
    have c17b0 : decide (t360 < 0) = true := decide_eq_true c17
    clear c17
    exact absurd (Option.some.inj H) (by rw [hrt.out]; decide)
   rw [if_neg c17] at H
   have c17b0 : decide (t360 < 0) = false := decide_eq_false c17
   clear c17
   by_cases c18 : t360 = t358
   rotate_left
   ·rw [if_neg c18] at H
    have c18b0 : (t360 == t358) = false := beq_eq_false_iff_ne.mpr c18
    have c18b1 : (t360 != t358) = true := bne_iff_ne.mpr c18
    exact absurd (Option.some.inj H) (by rw [hrt.out]; decide)
   rw [if_pos c18] at H
   have c18b0 : (t360 == t358) = true := beq_iff_eq.mpr c18
   have c18b1 : (t360 != t358) = false := bne_eq_false_iff_eq.mpr c18
   clear c18
   replace H := bi H
   obtain ⟨⟨t361, t362⟩, A190, H⟩ := H
   try dsimp only at H
   have A19 := ak A190
   clear A190
   have HC20 := ak H
   clear H
   obtain ⟨Ao21, co21, eo21⟩ := Kd.R_slice HO_5.out
   subst eo21
   go_upto_region 16 with (first | ((with_reducible refine gate_callee (f := 17) rfl ?_); refine goesL_ (some 35) rfl rfl Try.func17 (by kernel_rfl) rfl #[.slice Ao21 t353.length co21, .int .i64 1] rfl (by (try simp only [List.map_toArray, List.map_cons, List.map_nil]); first | done | rfl | (simp only [List.length_drop, List.length_take]; rfl)) ?_; (with_reducible refine (laws_markIntS.calls kj4 (fun k_ => some k_ = (.slice Ao21 t353.length co21 : Value).ownBlock) (.slice Ao21 t353.length co21) t353 1 t358 t359 w _ ?side1 ?side2 A15.out).mono ?_); (case side1 => exact bB HB.out); (case side2 => exact Kd.R_tight rfl HO_5.out); rintro e w22 ⟨rfl, hy0, hb, hkp⟩; refine ⟨_, rfl, ?_⟩; replace HO_3 := ak (Kd.R_mono (ok' := fun k_ => some k_ ≠ (.slice Ao21 t353.length co21 : Value).ownBlock) (Kd.R_keptB (HO_3.out) hkp (fun k_ hk_ hs_ => (hk_) hs_)) (fun k_ hk_ => hk_.1)); replace HO_5 := ak (Kd.R_reok rfl hy0 (fun k_ e_ => HO_5.out.1 k_ e_)); replace HB := ak (hb); (try clear hb); (try clear hkp); (try clear hy0)) | ((with_reducible refine gate_callee (f := 18) rfl ?_); refine goesL_ (some 38) rfl rfl Try.func18 (by kernel_rfl) rfl #[.slice Ao21 t359.length co21, .int .i64 1] rfl (by (try simp only [List.map_toArray, List.map_cons, List.map_nil]); first | done | (rw [show t359.length = t353.length from (Kd.R_reads' HO_5.out).1.symm] <;> rfl) | rfl | (simp only [List.length_drop, List.length_take]; rfl)) ?_; (with_reducible refine (laws_heldIntS.calls kj4 _ _ t359 1 t360 _ ?side1 ?side2 A16.out).mono ?_); (case side1 => exact kC (Kd.R_reads' HO_5.out).2.2); (case side2 => rw [show t359.length = t353.length from (Kd.R_reads' HO_5.out).1.symm]; exact (Kd.R_reads' HO_5.out).2.1); rintro e w' ⟨rfl, ⟨nd, rfl⟩⟩; refine ⟨_, rfl, ?_⟩) | ((with_reducible refine gate_callee (f := 16) rfl ?_); refine goesL_ (some 46) rfl rfl Try.func16 (by kernel_rfl) rfl #[.string a0] rfl (by (try simp only [List.map_toArray, List.map_cons, List.map_nil]); first | done | rfl | (simp only [List.length_drop, List.length_take]; rfl)) ?_; (with_reducible refine (impl_ParseTerm.calls kj4 a0 t361 t362 _ A19.out).mono ?_); rintro e w23 ⟨v363, rfl, ho0, hb⟩; refine ⟨_, rfl, ?_⟩; have HO364 := ak (Kd.R_lower (Kd.R_new' (Kd.R_new' ho0 (Kd.R_lt (kR HO_3.out))) (Kd.R_lt (kR HO_5.out))) (below_size (bB HB.out))); replace HO_3 := ak (Kd.R_elder' (kR HO_3.out) (Kd.R_base ho0) hb); replace HO_5 := ak (Kd.R_elder' (kR HO_5.out) (Kd.R_base ho0) hb); replace HB := ak (below_step (bB HB.out) hb); (try clear hb); (try clear hb2); (try clear hk); (try clear hi); (try clear ho0)))
   (try simp only [Act.put, List.setIfInBounds_toArray, List.set_cons_zero, List.set_cons_succ])
   go_cut [57] (fun v57 wc => ∃ (kq : Nat) (x57_19 : Bool), v57 = .bool x57_19 ∧ Aside0 (laws_FnExactParseTerm.j1 kq t359 t358 x57_19 = some r) ∧ Aside0 (kq ≤ kj4) ∧ Aside0 (Kd.R (Kd.int .i64) 3 wc w.heap.size (fun _ => True) (.slice Ao21 t353.length co21) t359) ∧ Aside0 (Below w.heap.size w wc))
   case first =>
    have H := HC20.out
    clear HC20
    replace H := bi H
    obtain ⟨t365, A240, H⟩ := H
    try dsimp only at H
    have A24 := ak A240
    clear A240
    by_cases c25 : t365 = true
    ·subst c25
     rw [if_pos rfl] at H
     have H' := ak H
     clear H
     obtain ⟨Ao26, co26, eo26⟩ := Kd.R_slice HO364.out
     subst eo26
     obtain ⟨Ao27, co27, eo27⟩ := Kd.R_slice HO_3.out
     subst eo27
     go_wp2_with (first | ((with_reducible refine gate_callee (f := 11) rfl ?_); refine goesL_ (some 51) rfl rfl Try.func11 (by kernel_rfl) rfl #[.slice Ao26 t361.length co26, .slice Ao27 t349.length co27] rfl (by (try simp only [List.map_toArray, List.map_cons, List.map_nil]); first | done | rfl | (simp only [List.length_drop, List.length_take]; rfl)) ?_; (with_reducible refine (laws_eqIntS.calls kj4 _ _ t361 _ _ t349 true _ ?side1 ?side2 ?side3 ?side4 A24.out).mono ?_); (case side1 => exact kC (Kd.R_reads' HO364.out).2.2); (case side2 => exact (Kd.R_reads' HO364.out).2.1); (case side3 => exact kC (Kd.R_reads' HO_3.out).2.2); (case side4 => exact (Kd.R_reads' HO_3.out).2.1); rintro e w' ⟨rfl, ⟨nd, rfl⟩⟩; refine ⟨_, rfl, ?_⟩))
     go_meet
     case rel => exact ⟨_, ((t362 != t350)), (by first | rfl | (simp; done) | (simp [*]; done)), H', ⟨by have := HJ4.out; first | omega | exact Nat.le_refl _⟩, ⟨by (with_reducible repeat (first | apply Kd.R_alloc | apply Kd.R_drewN | apply Kd.R_drew)); exact Kd.R_mono HO_5.out (fun _ hk => trivial)⟩, ⟨by repeat (first | (with_reducible first | exact HB.out | apply below_alloc | apply pw_below_drewN | apply below_drew1) | exact HB.out)⟩⟩
    replace c25 := Bool.eq_false_iff.mpr c25
    subst c25
    rw [if_neg (show ¬ (false = true) by decide)] at H
    have H' := ak H
    clear H
    obtain ⟨Ao28, co28, eo28⟩ := Kd.R_slice HO364.out
    subst eo28
    obtain ⟨Ao29, co29, eo29⟩ := Kd.R_slice HO_3.out
    subst eo29
    go_wp2_with (first | ((with_reducible refine gate_callee (f := 11) rfl ?_); refine goesL_ (some 51) rfl rfl Try.func11 (by kernel_rfl) rfl #[.slice Ao28 t361.length co28, .slice Ao29 t349.length co29] rfl (by (try simp only [List.map_toArray, List.map_cons, List.map_nil]); first | done | rfl | (simp only [List.length_drop, List.length_take]; rfl)) ?_; (with_reducible refine (laws_eqIntS.calls kj4 _ _ t361 _ _ t349 false _ ?side1 ?side2 ?side3 ?side4 A24.out).mono ?_); (case side1 => exact kC (Kd.R_reads' HO364.out).2.2); (case side2 => exact (Kd.R_reads' HO364.out).2.1); (case side3 => exact kC (Kd.R_reads' HO_3.out).2.2); (case side4 => exact (Kd.R_reads' HO_3.out).2.1); rintro e w' ⟨rfl, ⟨nd, rfl⟩⟩; refine ⟨_, rfl, ?_⟩))
    go_meet
    case rel => exact ⟨_, (true), (by first | rfl | (simp; done) | (simp [*]; done)), H', ⟨by have := HJ4.out; first | omega | exact Nat.le_refl _⟩, ⟨by (with_reducible repeat (first | apply Kd.R_alloc | apply Kd.R_drewN | apply Kd.R_drew)); exact Kd.R_mono HO_5.out (fun _ hk => trivial)⟩, ⟨by repeat (first | (with_reducible first | exact HB.out | apply below_alloc | apply pw_below_drewN | apply below_drew1) | exact HB.out)⟩⟩
   case rest =>
    clear HC20
    try clear c1
    try clear c2
    try clear c2b0
    try clear c2b1
    try clear p2
    try clear c5
    try clear c9
    try clear c11
    try clear c14
    try clear c15
    try clear c16
    try clear c17
    try clear c17b0
    try clear c18
    try clear c18b0
    try clear c18b1
    try clear c25
    try clear p2
    obtain ⟨kq, x57_19, rfl, HA, HJ19, HO_5, HB⟩ := hcut
    have hl5_19 := (Kd.R_reads' HO_5.out).1
    rw [hl5_19] at HO_5
    (try simp only [hl5_19])
    cases kq with
    | zero => exact absurd HA.out (by simp [laws_FnExactParseTerm.j1])
    | succ kj19 =>
     have H := HA.out
     clear HA
     simp only [laws_FnExactParseTerm.j1] at H
     by_cases c30 : x57_19 = true
     ·subst c30
      rw [if_pos rfl] at H
      exact absurd (Option.some.inj H) (by rw [hrt.out]; decide)
     replace c30 := Bool.eq_false_iff.mpr c30
     subst c30
     rw [if_neg (show ¬ (false = true) by decide)] at H
     replace H := bi H
     obtain ⟨t366, A310, H⟩ := H
     try dsimp only at H
     have A31 := ak A310
     clear A310
     by_cases c32 : t366 < 0
     ·rw [if_pos c32] at H
      have c32b0 : decide (t366 < 0) = true := decide_eq_true c32
      clear c32
      exact absurd (Option.some.inj H) (by rw [hrt.out]; decide)
     rw [if_neg c32] at H
     have c32b0 : decide (t366 < 0) = false := decide_eq_false c32
     clear c32
     by_cases c33 : t366 = t358
     rotate_left
     ·rw [if_neg c33] at H
      have c33b0 : (t366 == t358) = false := beq_eq_false_iff_ne.mpr c33
      have c33b1 : (t366 != t358) = true := bne_iff_ne.mpr c33
      exact absurd (Option.some.inj H) (by rw [hrt.out]; decide)
     rw [if_pos c33] at H
     have c33b0 : (t366 == t358) = true := beq_iff_eq.mpr c33
     have c33b1 : (t366 != t358) = false := bne_eq_false_iff_eq.mpr c33
     clear c33
     obtain rfl := Option.some.inj H
     go_wp2_with (first | ((with_reducible refine gate_callee (f := 18) rfl ?_); refine goesL_ (some 60) rfl rfl Try.func18 (by kernel_rfl) rfl #[.slice Ao21 t359.length co21, .int .i64 1] rfl (by (try simp only [List.map_toArray, List.map_cons, List.map_nil]); first | done | rfl | (simp only [List.length_drop, List.length_take]; rfl)) ?_; (with_reducible refine (laws_heldIntS.calls kj19 _ _ t359 1 t366 _ ?side1 ?side2 A31.out).mono ?_); (case side1 => exact kC (Kd.R_reads' HO_5.out).2.2); (case side2 => exact (Kd.R_reads' HO_5.out).2.1); rintro e w' ⟨rfl, ⟨nd, rfl⟩⟩; refine ⟨_, rfl, ?_⟩))
     go_ret
     exact ⟨by first | rfl | (simp [errW_none, errW_some] <;> rfl) | (simp [*, errW_none, errW_some] <;> rfl), by repeat (first | (with_reducible first | exact HB.out | apply below_alloc | apply pw_below_drewN | apply below_drew1) | exact HB.out)⟩
/-- THE ONE PURE STATEMENT of laws_FnExactParseTerm: yours. -/
def laws_FnExactParseTerm.Pure : Prop := ∀ (a0 : ByteArray), a0.size ≤ 140737488351232 → ∃ k, laws_FnExactParseTerm.f k a0 = some true
theorem laws_FnExactParseTerm.walk (P : laws_FnExactParseTerm.Pure) (a0 : ByteArray) (w : World) (w0 : a0.size ≤ 140737488351232) :
  Calls Try.prog 5 #[.string a0] w fun e w' => e = .returned (.bool true) ∧ Below w.heap.size w w' := by
 obtain ⟨k, h⟩ := P a0 w0
 refine (laws_FnExactParseTerm.calls k a0 true w ⟨rfl⟩ h).mono ?_
 rintro e w' ⟨rfl, hd⟩
 exact ⟨rfl, hd⟩
end Go.Proofs.Ytdcohlllbbcjoaa.P

-- shrunk
