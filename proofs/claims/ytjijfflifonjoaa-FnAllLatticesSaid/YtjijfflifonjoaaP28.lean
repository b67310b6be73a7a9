-- Printed by this session's wip/print2.py (the kit's print.py, widened) out of the translation. Lean checks it.
import Derived.Test.YtjijfflifonjoaaP0
import Derived.Test.YtjijfflifonjoaaP7
import Derived.Test.YtjijfflifonjoaaP11
import Derived.Test.YtjijfflifonjoaaP13
import Derived.Test.YtjijfflifonjoaaP21
import Derived.Test.YtjijfflifonjoaaP22
import Derived.Test.YtjijfflifonjoaaP23
import Derived.Test.YtjijfflifonjoaaP25
import Derived.Test.YtjijfflifonjoaaP27
namespace Go.Proofs.Ytjijfflifonjoaa.P
open Go.RowKit Go.Proofs.YtjijfflifonjoaaW.PrintWords Go.Proofs.YtjijfflifonjoaaW.PrintLast Go.Proofs.YtjijfflifonjoaaW.PrintMore
attribute [local go_sem] max2_int min2_int max_two min_two max_three min_three max_four min_four   -- for this text's walks alone
set_option linter.unusedVariables false
set_option linter.unusedSimpArgs false

/-! ### laws_FnAllLattices: function 4 -/
mutual
def laws_FnAllLattices.j0 : Nat → Int → List (List Int) → Bool → Option (Bool)
 | 0, _, _, _ => none
 | k + 1, x3, x4, x24 => if x24 = true then ((spec_AllLattices.f k x3).bind fun t253 => ((laws_equalLists.f k x4 t253).bind fun t256 => (some t256))) else (laws_FnAllLattices.l0 k x3 x4 0)
def laws_FnAllLattices.l0 : Nat → Int → List (List Int) → Int → Option (Bool)
 | 0, _, _, _ => none
 | k + 1, x3, x4, x5 => if x5 < (x4.length : Int) then (laws_FnAllLattices.l1 k x3 x4 x5 0) else ((impl_ChainOf.f k x3).bind fun t257 => ((laws_holdsList.f k x4 t257).bind fun t260 => (some t260)))
def laws_FnAllLattices.l1 : Nat → Int → List (List Int) → Int → Int → Option (Bool)
 | 0, _, _, _, _ => none
 | k + 1, x3, x4, x5, x6 => if x6 < x3 then (laws_FnAllLattices.l2 k x3 x4 x5 x6 0) else (if 0 ≤ x5 then (if x5 < (x4.length : Int) then ((impl_ValidLattice.f k (rd_L1 x4 x5)).bind fun t264 => (if t264 = true then (if x5 > 0 then (if 0 ≤ (wrap64 (x5 - 1)) then (if (wrap64 (x5 - 1)) < (x4.length : Int) then ((laws_equalInts.f k (rd_L1 x4 (wrap64 (x5 - 1))) (rd_L1 x4 x5)).bind fun t267 => (if t267 = true then (some false) else (laws_FnAllLattices.l0 k x3 x4 (wrap64 (x5 + 1))))) else (none)) else (none)) else (laws_FnAllLattices.l0 k x3 x4 (wrap64 (x5 + 1)))) else (some false))) else (none)) else (none))
def laws_FnAllLattices.l2 : Nat → Int → List (List Int) → Int → Int → Int → Option (Bool)
 | 0, _, _, _, _, _ => none
 | k + 1, x3, x4, x5, x6, x7 => if x7 < x6 then (if 0 ≤ x5 then (if x5 < (x4.length : Int) then ((impl_IsBelow.f k (rd_L1 x4 x5) x6 x7).bind fun t262 => (if t262 = true then (some false) else (laws_FnAllLattices.l2 k x3 x4 x5 x6 (wrap64 (x7 + 1))))) else (none)) else (none)) else (laws_FnAllLattices.l1 k x3 x4 x5 (wrap64 (x6 + 1)))
end
def laws_FnAllLattices.f (k : Nat) (l0 : List Int) : Option (Bool) := if (l0.length : Int) > 1048576 then (some true) else ((spec_DrawAllLattices.f k l0).bind fun t245 => ((impl_AllLattices.f k t245).bind fun t246 => ((spec_AllLattices.f k t245).bind fun t249 => ((laws_equalLists.f k t246 t249).bind fun t252 => (if t252 = true then (laws_FnAllLattices.j0 k t245 t246 ((t246.length : Int) == 0)) else (laws_FnAllLattices.j0 k t245 t246 true))))))
set_option maxHeartbeats 8000000 in
set_option maxRecDepth 100000 in
theorem laws_FnAllLattices.calls (k : Nat) (A0 : Option Addr) (c0 : Nat) (l0 : List Int) (r : Bool) (w : World) (hr0 : Kd.C (Kd.int .u8) w A0 l0.length l0) (hc0 : l0.length ≤ c0) (hrt : Aside0 (r = true)) (h : laws_FnAllLattices.f k l0 = some r) :
  Calls Try.prog 4 #[.slice A0 l0.length c0] w fun e w' => e = .returned (.bool r) ∧ Below w.heap.size w w' := by
 have HR0 := ak hr0
 have HC0 := ak hc0
 clear hr0 hc0
 have HB := ak (Below.refl w.heap.size w)
 have H : (if (l0.length : Int) > 1048576 then (some true) else ((spec_DrawAllLattices.f k l0).bind fun t245 => ((impl_AllLattices.f k t245).bind fun t246 => ((spec_AllLattices.f k t245).bind fun t249 => ((laws_equalLists.f k t246 t249).bind fun t252 => (if t252 = true then (laws_FnAllLattices.j0 k t245 t246 ((t246.length : Int) == 0)) else (laws_FnAllLattices.j0 k t245 t246 true))))))) = some r := h
 clear h
 by_cases c2 : (l0.length : Int) > 1048576
 ·rw [if_pos c2] at H
  have c2b0 : decide (1048576 < (l0.length : Int)) = true := decide_eq_true c2
  have c2b1 : decide (1048576 < l0.length) = true := decide_eq_true (by omega)
  clear c2
  obtain rfl := Option.some.inj H
  go_enter Try.func4, Try.ntmps4
  go_wp2
  repeat ((refine wp_region_quiet_lit ?_ ?_ ?_; kernel_rfl; kernel_rfl; (repeat (first | go_big_quiet_step (fail) | (refine wpQuiet_step (fun K hK => ?_); go_simp; refine hK _ ?_; clear hK K))); refine wpQuiet_nil ?_; intro _ hw'; obtain ⟨nq, hw''⟩ := hw'; subst hw''); try go_wp2)
  go_ret
  exact ⟨by first | rfl | (simp [errW_none, errW_some] <;> rfl) | (simp [*, errW_none, errW_some] <;> rfl), by repeat (first | (with_reducible first | exact HB.out | apply below_alloc | apply pw_below_drewN | apply below_drew1) | exact HB.out)⟩
 rw [if_neg c2] at H
 have c2b0 : decide (1048576 < (l0.length : Int)) = false := decide_eq_false c2
 have c2b1 : decide (1048576 < l0.length) = false := decide_eq_false (by omega)
 clear c2
 replace H := bi H
 obtain ⟨t245, A30, H⟩ := H
 try dsimp only at H
 have A3 := ak A30
 clear A30
 replace H := bi H
 obtain ⟨t246, A40, H⟩ := H
 try dsimp only at H
 have A4 := ak A40
 clear A40
 have HC5 := ak H
 clear H
 go_enter Try.func4, Try.ntmps4
 go_upto_region 5 with (first | (go_at_call 10; (with_reducible refine (spec_DrawAllLattices.calls k _ _ l0 t245 _ ?side1 ?side2 A3.out).mono ?_); (case side1 => exact kC HR0.out); (case side2 => exact HC0.out); rintro e w6 ⟨rfl, hb⟩; replace HB := ak (below_step (bB HB.out) hb); (try clear hb); (try clear hb2); (try clear hk); (try clear hi)) | (go_at_call 6; (with_reducible refine (impl_AllLattices.calls k t245 t246 _ A4.out).mono ?_); rintro e w7 ⟨v247, rfl, ho0, hb⟩; have HO248 := ak (Kd.N_lower (Kd.N_mono (ok' := fun k_ => True) (Kd.S_N (Kd.S_bound ho0)) (fun k_ hk_ => trivial)) (below_size (bB HB.out))); replace HB := ak (below_step (bB HB.out) hb); (try clear hb); (try clear hb2); (try clear hk); (try clear hi); (try clear ho0)))
 repeat ((refine wp_region_quiet_lit ?_ ?_ ?_; kernel_rfl; kernel_rfl; (repeat (first | go_big_quiet_step (first | (go_at_call 10; (with_reducible refine (spec_DrawAllLattices.calls k _ _ l0 t245 _ ?side1 ?side2 A3.out).mono ?_); (case side1 => exact kC HR0.out); (case side2 => exact HC0.out); rintro e w6 ⟨rfl, hb⟩; replace HB := ak (below_step (bB HB.out) hb); (try clear hb); (try clear hb2); (try clear hk); (try clear hi)) | (go_at_call 6; (with_reducible refine (impl_AllLattices.calls k t245 t246 _ A4.out).mono ?_); rintro e w7 ⟨v247, rfl, ho0, hb⟩; have HO248 := ak (Kd.N_lower (Kd.N_mono (ok' := fun k_ => True) (Kd.S_N (Kd.S_bound ho0)) (fun k_ hk_ => trivial)) (below_size (bB HB.out))); replace HB := ak (below_step (bB HB.out) hb); (try clear hb); (try clear hb2); (try clear hk); (try clear hi); (try clear ho0))) | (refine wpQuiet_step (fun K hK => ?_); go_simp; refine hK _ ?_; clear hK K))); refine wpQuiet_nil ?_; intro _ hw'; obtain ⟨nq, hw''⟩ := hw'; subst hw''); go_upto_region 5 with (first | (go_at_call 10; (with_reducible refine (spec_DrawAllLattices.calls k _ _ l0 t245 _ ?side1 ?side2 A3.out).mono ?_); (case side1 => exact kC HR0.out); (case side2 => exact HC0.out); rintro e w6 ⟨rfl, hb⟩; replace HB := ak (below_step (bB HB.out) hb); (try clear hb); (try clear hb2); (try clear hk); (try clear hi)) | (go_at_call 6; (with_reducible refine (impl_AllLattices.calls k t245 t246 _ A4.out).mono ?_); rintro e w7 ⟨v247, rfl, ho0, hb⟩; have HO248 := ak (Kd.N_lower (Kd.N_mono (ok' := fun k_ => True) (Kd.S_N (Kd.S_bound ho0)) (fun k_ hk_ => trivial)) (below_size (bB HB.out))); replace HB := ak (below_step (bB HB.out) hb); (try clear hb); (try clear hb2); (try clear hk); (try clear hi); (try clear ho0))))
 (try simp only [Act.put, List.setIfInBounds_toArray, List.set_cons_zero, List.set_cons_succ])
 go_cut [24] (fun v24 wc => ∃ (kq : Nat) (x24_4 : Bool), v24 = .bool x24_4 ∧ Aside0 (laws_FnAllLattices.j0 kq t245 t246 x24_4 = some r) ∧ Aside0 (kq ≤ k) ∧ Aside0 (Kd.N (Kd.slice 3 (Kd.int .i64)) 30 wc w.heap.size (fun _ => True) v247 t246) ∧ Aside0 (Below w.heap.size w wc))
 case first =>
  have H := HC5.out
  clear HC5
  replace H := bi H
  obtain ⟨t249, A80, H⟩ := H
  try dsimp only at H
  have A8 := ak A80
  clear A80
  replace H := bi H
  obtain ⟨t252, A90, H⟩ := H
  try dsimp only at H
  have A9 := ak A90
  clear A90
  by_cases c10 : t252 = true
  ·subst c10
   rw [if_pos rfl] at H
   have H' := ak H
   clear H
   go_wp2_with (first | (go_at_call 5; (with_reducible refine (spec_AllLattices.calls k t245 t249 _ A8.out).mono ?_); rintro e w11 ⟨v250, rfl, ho0, hb⟩; have HO251 := ak (Kd.N_lower (Kd.N_mono (ok' := fun k_ => some k_ ≠ (v247 : Value).ownBlock) ho0 (fun k_ hk_ => (Kd.fresh' (Kd.N_lt (by (with_reducible repeat (first | apply Kd.N_alloc | apply Kd.N_drewN | apply Kd.N_drew)); exact HO248.out)) k_ hk_))) (below_size (bB HB.out))); replace HO248 := ak (Kd.N_elder' (by (with_reducible repeat (first | apply Kd.N_alloc | apply Kd.N_drewN | apply Kd.N_drew)); exact HO248.out) (Kd.N_base ho0) hb); replace HB := ak (below_step (bB HB.out) hb); (try clear hb); (try clear hb2); (try clear hk); (try clear hi); (try clear ho0); obtain ⟨Ao12, co12, eo12⟩ := Kd.N_slice HO248.out; subst eo12; obtain ⟨Ao13, co13, eo13⟩ := Kd.N_slice HO251.out; subst eo13) | (go_at_call 11; (with_reducible refine (laws_equalLists.calls k _ _ t246 _ _ t249 true _ ?side1 ?side2 ?side3 ?side4 A9.out).mono ?_); (case side1 => exact kC (Kd.N_reads' HO248.out).2.2); (case side2 => exact (Kd.N_reads' HO248.out).2.1); (case side3 => exact kC (Kd.N_reads' HO251.out).2.2); (case side4 => exact (Kd.N_reads' HO251.out).2.1); rintro e w' ⟨rfl, ⟨nd, rfl⟩⟩; (try first | exact ⟨rfl, _, World.drewN_drewN _ _ _⟩ | exact ⟨rfl, _, Eq.trans (World.drewN_drewN _ _ _) (congrArg (World.drewN _) (Nat.add_assoc _ _ _))⟩)))
   repeat ((refine wp_region_quiet_lit ?_ ?_ ?_; kernel_rfl; kernel_rfl; (repeat (first | go_big_quiet_step (first | (go_at_call 5; (with_reducible refine (spec_AllLattices.calls k t245 t249 _ A8.out).mono ?_); rintro e w11 ⟨v250, rfl, ho0, hb⟩; have HO251 := ak (Kd.N_lower (Kd.N_mono (ok' := fun k_ => some k_ ≠ (v247 : Value).ownBlock) ho0 (fun k_ hk_ => (Kd.fresh' (Kd.N_lt (by (with_reducible repeat (first | apply Kd.N_alloc | apply Kd.N_drewN | apply Kd.N_drew)); exact HO248.out)) k_ hk_))) (below_size (bB HB.out))); replace HO248 := ak (Kd.N_elder' (by (with_reducible repeat (first | apply Kd.N_alloc | apply Kd.N_drewN | apply Kd.N_drew)); exact HO248.out) (Kd.N_base ho0) hb); replace HB := ak (below_step (bB HB.out) hb); (try clear hb); (try clear hb2); (try clear hk); (try clear hi); (try clear ho0); obtain ⟨Ao12, co12, eo12⟩ := Kd.N_slice HO248.out; subst eo12; obtain ⟨Ao13, co13, eo13⟩ := Kd.N_slice HO251.out; subst eo13) | (go_at_call 11; (with_reducible refine (laws_equalLists.calls k _ _ t246 _ _ t249 true _ ?side1 ?side2 ?side3 ?side4 A9.out).mono ?_); (case side1 => exact kC (Kd.N_reads' HO248.out).2.2); (case side2 => exact (Kd.N_reads' HO248.out).2.1); (case side3 => exact kC (Kd.N_reads' HO251.out).2.2); (case side4 => exact (Kd.N_reads' HO251.out).2.1); rintro e w' ⟨rfl, ⟨nd, rfl⟩⟩; (try first | exact ⟨rfl, _, World.drewN_drewN _ _ _⟩ | exact ⟨rfl, _, Eq.trans (World.drewN_drewN _ _ _) (congrArg (World.drewN _) (Nat.add_assoc _ _ _))⟩))) | (refine wpQuiet_step (fun K hK => ?_); go_simp; refine hK _ ?_; clear hK K))); refine wpQuiet_nil ?_; intro _ hw'; obtain ⟨nq, hw''⟩ := hw'; subst hw''); try go_wp2_with (first | (go_at_call 5; (with_reducible refine (spec_AllLattices.calls k t245 t249 _ A8.out).mono ?_); rintro e w11 ⟨v250, rfl, ho0, hb⟩; have HO251 := ak (Kd.N_lower (Kd.N_mono (ok' := fun k_ => some k_ ≠ (v247 : Value).ownBlock) ho0 (fun k_ hk_ => (Kd.fresh' (Kd.N_lt (by (with_reducible repeat (first | apply Kd.N_alloc | apply Kd.N_drewN | apply Kd.N_drew)); exact HO248.out)) k_ hk_))) (below_size (bB HB.out))); replace HO248 := ak (Kd.N_elder' (by (with_reducible repeat (first | apply Kd.N_alloc | apply Kd.N_drewN | apply Kd.N_drew)); exact HO248.out) (Kd.N_base ho0) hb); replace HB := ak (below_step (bB HB.out) hb); (try clear hb); (try clear hb2); (try clear hk); (try clear hi); (try clear ho0); obtain ⟨Ao12, co12, eo12⟩ := Kd.N_slice HO248.out; subst eo12; obtain ⟨Ao13, co13, eo13⟩ := Kd.N_slice HO251.out; subst eo13) | (go_at_call 11; (with_reducible refine (laws_equalLists.calls k _ _ t246 _ _ t249 true _ ?side1 ?side2 ?side3 ?side4 A9.out).mono ?_); (case side1 => exact kC (Kd.N_reads' HO248.out).2.2); (case side2 => exact (Kd.N_reads' HO248.out).2.1); (case side3 => exact kC (Kd.N_reads' HO251.out).2.2); (case side4 => exact (Kd.N_reads' HO251.out).2.1); rintro e w' ⟨rfl, ⟨nd, rfl⟩⟩; (try first | exact ⟨rfl, _, World.drewN_drewN _ _ _⟩ | exact ⟨rfl, _, Eq.trans (World.drewN_drewN _ _ _) (congrArg (World.drewN _) (Nat.add_assoc _ _ _))⟩))))
   go_meet
   case rel => exact ⟨_, (((t246.length : Int) == 0)), (by first | rfl | (simp; done) | (simp [*]; done)), H', ⟨by first | omega | exact Nat.le_refl _⟩, ⟨by (with_reducible repeat (first | apply Kd.N_alloc | apply Kd.N_drewN | apply Kd.N_drew)); exact Kd.N_mono HO248.out (fun _ hk => trivial)⟩, ⟨by repeat (first | (with_reducible first | exact HB.out | apply below_alloc | apply pw_below_drewN | apply below_drew1) | exact HB.out)⟩⟩
  replace c10 := Bool.eq_false_iff.mpr c10
  subst c10
  rw [if_neg (show ¬ (false = true) by decide)] at H
  have H' := ak H
  clear H
  go_wp2_with (first | (go_at_call 5; (with_reducible refine (spec_AllLattices.calls k t245 t249 _ A8.out).mono ?_); rintro e w14 ⟨v250, rfl, ho0, hb⟩; have HO251 := ak (Kd.N_lower (Kd.N_mono (ok' := fun k_ => some k_ ≠ (v247 : Value).ownBlock) ho0 (fun k_ hk_ => (Kd.fresh' (Kd.N_lt (by (with_reducible repeat (first | apply Kd.N_alloc | apply Kd.N_drewN | apply Kd.N_drew)); exact HO248.out)) k_ hk_))) (below_size (bB HB.out))); replace HO248 := ak (Kd.N_elder' (by (with_reducible repeat (first | apply Kd.N_alloc | apply Kd.N_drewN | apply Kd.N_drew)); exact HO248.out) (Kd.N_base ho0) hb); replace HB := ak (below_step (bB HB.out) hb); (try clear hb); (try clear hb2); (try clear hk); (try clear hi); (try clear ho0); obtain ⟨Ao15, co15, eo15⟩ := Kd.N_slice HO248.out; subst eo15; obtain ⟨Ao16, co16, eo16⟩ := Kd.N_slice HO251.out; subst eo16) | (go_at_call 11; (with_reducible refine (laws_equalLists.calls k _ _ t246 _ _ t249 false _ ?side1 ?side2 ?side3 ?side4 A9.out).mono ?_); (case side1 => exact kC (Kd.N_reads' HO248.out).2.2); (case side2 => exact (Kd.N_reads' HO248.out).2.1); (case side3 => exact kC (Kd.N_reads' HO251.out).2.2); (case side4 => exact (Kd.N_reads' HO251.out).2.1); rintro e w' ⟨rfl, ⟨nd, rfl⟩⟩; (try first | exact ⟨rfl, _, World.drewN_drewN _ _ _⟩ | exact ⟨rfl, _, Eq.trans (World.drewN_drewN _ _ _) (congrArg (World.drewN _) (Nat.add_assoc _ _ _))⟩)))
  repeat ((refine wp_region_quiet_lit ?_ ?_ ?_; kernel_rfl; kernel_rfl; (repeat (first | go_big_quiet_step (first | (go_at_call 5; (with_reducible refine (spec_AllLattices.calls k t245 t249 _ A8.out).mono ?_); rintro e w14 ⟨v250, rfl, ho0, hb⟩; have HO251 := ak (Kd.N_lower (Kd.N_mono (ok' := fun k_ => some k_ ≠ (v247 : Value).ownBlock) ho0 (fun k_ hk_ => (Kd.fresh' (Kd.N_lt (by (with_reducible repeat (first | apply Kd.N_alloc | apply Kd.N_drewN | apply Kd.N_drew)); exact HO248.out)) k_ hk_))) (below_size (bB HB.out))); replace HO248 := ak (Kd.N_elder' (by (with_reducible repeat (first | apply Kd.N_alloc | apply Kd.N_drewN | apply Kd.N_drew)); exact HO248.out) (Kd.N_base ho0) hb); replace HB := ak (below_step (bB HB.out) hb); (try clear hb); (try clear hb2); (try clear hk); (try clear hi); (try clear ho0); obtain ⟨Ao15, co15, eo15⟩ := Kd.N_slice HO248.out; subst eo15; obtain ⟨Ao16, co16, eo16⟩ := Kd.N_slice HO251.out; subst eo16) | (go_at_call 11; (with_reducible refine (laws_equalLists.calls k _ _ t246 _ _ t249 false _ ?side1 ?side2 ?side3 ?side4 A9.out).mono ?_); (case side1 => exact kC (Kd.N_reads' HO248.out).2.2); (case side2 => exact (Kd.N_reads' HO248.out).2.1); (case side3 => exact kC (Kd.N_reads' HO251.out).2.2); (case side4 => exact (Kd.N_reads' HO251.out).2.1); rintro e w' ⟨rfl, ⟨nd, rfl⟩⟩; (try first | exact ⟨rfl, _, World.drewN_drewN _ _ _⟩ | exact ⟨rfl, _, Eq.trans (World.drewN_drewN _ _ _) (congrArg (World.drewN _) (Nat.add_assoc _ _ _))⟩))) | (refine wpQuiet_step (fun K hK => ?_); go_simp; refine hK _ ?_; clear hK K))); refine wpQuiet_nil ?_; intro _ hw'; obtain ⟨nq, hw''⟩ := hw'; subst hw''); try go_wp2_with (first | (go_at_call 5; (with_reducible refine (spec_AllLattices.calls k t245 t249 _ A8.out).mono ?_); rintro e w14 ⟨v250, rfl, ho0, hb⟩; have HO251 := ak (Kd.N_lower (Kd.N_mono (ok' := fun k_ => some k_ ≠ (v247 : Value).ownBlock) ho0 (fun k_ hk_ => (Kd.fresh' (Kd.N_lt (by (with_reducible repeat (first | apply Kd.N_alloc | apply Kd.N_drewN | apply Kd.N_drew)); exact HO248.out)) k_ hk_))) (below_size (bB HB.out))); replace HO248 := ak (Kd.N_elder' (by (with_reducible repeat (first | apply Kd.N_alloc | apply Kd.N_drewN | apply Kd.N_drew)); exact HO248.out) (Kd.N_base ho0) hb); replace HB := ak (below_step (bB HB.out) hb); (try clear hb); (try clear hb2); (try clear hk); (try clear hi); (try clear ho0); obtain ⟨Ao15, co15, eo15⟩ := Kd.N_slice HO248.out; subst eo15; obtain ⟨Ao16, co16, eo16⟩ := Kd.N_slice HO251.out; subst eo16) | (go_at_call 11; (with_reducible refine (laws_equalLists.calls k _ _ t246 _ _ t249 false _ ?side1 ?side2 ?side3 ?side4 A9.out).mono ?_); (case side1 => exact kC (Kd.N_reads' HO248.out).2.2); (case side2 => exact (Kd.N_reads' HO248.out).2.1); (case side3 => exact kC (Kd.N_reads' HO251.out).2.2); (case side4 => exact (Kd.N_reads' HO251.out).2.1); rintro e w' ⟨rfl, ⟨nd, rfl⟩⟩; (try first | exact ⟨rfl, _, World.drewN_drewN _ _ _⟩ | exact ⟨rfl, _, Eq.trans (World.drewN_drewN _ _ _) (congrArg (World.drewN _) (Nat.add_assoc _ _ _))⟩))))
  go_meet
  case rel => exact ⟨_, (true), (by first | rfl | (simp; done) | (simp [*]; done)), H', ⟨by first | omega | exact Nat.le_refl _⟩, ⟨by (with_reducible repeat (first | apply Kd.N_alloc | apply Kd.N_drewN | apply Kd.N_drew)); exact Kd.N_mono HO248.out (fun _ hk => trivial)⟩, ⟨by repeat (first | (with_reducible first | exact HB.out | apply below_alloc | apply pw_below_drewN | apply below_drew1) | exact HB.out)⟩⟩
 case rest =>
  clear HC5
  try clear c1
  try clear c2
  try clear c2b0
  try clear c2b1
  try clear p2
  try clear c4
  try clear c10
  obtain ⟨kq, x24_4, rfl, HA, HJ4, HO_4, HB⟩ := hcut
  cases kq with
  | zero => exact absurd HA.out (by simp [laws_FnAllLattices.j0])
  | succ kj4 =>
   have H := HA.out
   clear HA
   simp only [laws_FnAllLattices.j0] at H
   by_cases c17 : x24_4 = true
   ·subst c17
    rw [if_pos rfl] at H
    replace H := bi H
    obtain ⟨t253, A180, H⟩ := H
    try dsimp only at H
    have A18 := ak A180
    clear A180
    replace H := bi H
    obtain ⟨t256, A190, H⟩ := H
    try dsimp only at H
    have A19 := ak A190
    clear A190
    obtain rfl := Option.some.inj H
    go_wp2_with (first | (go_at_call 5; (with_reducible refine (spec_AllLattices.calls kj4 t245 t253 _ A18.out).mono ?_); rintro e w20 ⟨v254, rfl, ho0, hb⟩; have HO255 := ak (Kd.N_lower (Kd.N_mono (ok' := fun k_ => some k_ ≠ (v247 : Value).ownBlock) ho0 (fun k_ hk_ => (Kd.fresh' (Kd.N_lt (by (with_reducible repeat (first | apply Kd.N_alloc | apply Kd.N_drewN | apply Kd.N_drew)); exact HO_4.out)) k_ hk_))) (below_size (bB HB.out))); replace HO_4 := ak (Kd.N_elder' (by (with_reducible repeat (first | apply Kd.N_alloc | apply Kd.N_drewN | apply Kd.N_drew)); exact HO_4.out) (Kd.N_base ho0) hb); replace HB := ak (below_step (bB HB.out) hb); (try clear hb); (try clear hb2); (try clear hk); (try clear hi); (try clear ho0); obtain ⟨Ao21, co21, eo21⟩ := Kd.N_slice HO_4.out; subst eo21; obtain ⟨Ao22, co22, eo22⟩ := Kd.N_slice HO255.out; subst eo22) | (go_at_call 11; (with_reducible refine (laws_equalLists.calls kj4 _ _ t246 _ _ t253 t256 _ ?side1 ?side2 ?side3 ?side4 A19.out).mono ?_); (case side1 => exact kC (Kd.N_reads' HO_4.out).2.2); (case side2 => exact (Kd.N_reads' HO_4.out).2.1); (case side3 => exact kC (Kd.N_reads' HO255.out).2.2); (case side4 => exact (Kd.N_reads' HO255.out).2.1); rintro e w' ⟨rfl, ⟨nd, rfl⟩⟩; (try first | exact ⟨rfl, _, World.drewN_drewN _ _ _⟩ | exact ⟨rfl, _, Eq.trans (World.drewN_drewN _ _ _) (congrArg (World.drewN _) (Nat.add_assoc _ _ _))⟩)))
    repeat ((refine wp_region_quiet_lit ?_ ?_ ?_; kernel_rfl; kernel_rfl; (repeat (first | go_big_quiet_step (first | (go_at_call 5; (with_reducible refine (spec_AllLattices.calls kj4 t245 t253 _ A18.out).mono ?_); rintro e w20 ⟨v254, rfl, ho0, hb⟩; have HO255 := ak (Kd.N_lower (Kd.N_mono (ok' := fun k_ => some k_ ≠ (v247 : Value).ownBlock) ho0 (fun k_ hk_ => (Kd.fresh' (Kd.N_lt (by (with_reducible repeat (first | apply Kd.N_alloc | apply Kd.N_drewN | apply Kd.N_drew)); exact HO_4.out)) k_ hk_))) (below_size (bB HB.out))); replace HO_4 := ak (Kd.N_elder' (by (with_reducible repeat (first | apply Kd.N_alloc | apply Kd.N_drewN | apply Kd.N_drew)); exact HO_4.out) (Kd.N_base ho0) hb); replace HB := ak (below_step (bB HB.out) hb); (try clear hb); (try clear hb2); (try clear hk); (try clear hi); (try clear ho0); obtain ⟨Ao21, co21, eo21⟩ := Kd.N_slice HO_4.out; subst eo21; obtain ⟨Ao22, co22, eo22⟩ := Kd.N_slice HO255.out; subst eo22) | (go_at_call 11; (with_reducible refine (laws_equalLists.calls kj4 _ _ t246 _ _ t253 t256 _ ?side1 ?side2 ?side3 ?side4 A19.out).mono ?_); (case side1 => exact kC (Kd.N_reads' HO_4.out).2.2); (case side2 => exact (Kd.N_reads' HO_4.out).2.1); (case side3 => exact kC (Kd.N_reads' HO255.out).2.2); (case side4 => exact (Kd.N_reads' HO255.out).2.1); rintro e w' ⟨rfl, ⟨nd, rfl⟩⟩; (try first | exact ⟨rfl, _, World.drewN_drewN _ _ _⟩ | exact ⟨rfl, _, Eq.trans (World.drewN_drewN _ _ _) (congrArg (World.drewN _) (Nat.add_assoc _ _ _))⟩))) | (refine wpQuiet_step (fun K hK => ?_); go_simp; refine hK _ ?_; clear hK K))); refine wpQuiet_nil ?_; intro _ hw'; obtain ⟨nq, hw''⟩ := hw'; subst hw''); try go_wp2_with (first | (go_at_call 5; (with_reducible refine (spec_AllLattices.calls kj4 t245 t253 _ A18.out).mono ?_); rintro e w20 ⟨v254, rfl, ho0, hb⟩; have HO255 := ak (Kd.N_lower (Kd.N_mono (ok' := fun k_ => some k_ ≠ (v247 : Value).ownBlock) ho0 (fun k_ hk_ => (Kd.fresh' (Kd.N_lt (by (with_reducible repeat (first | apply Kd.N_alloc | apply Kd.N_drewN | apply Kd.N_drew)); exact HO_4.out)) k_ hk_))) (below_size (bB HB.out))); replace HO_4 := ak (Kd.N_elder' (by (with_reducible repeat (first | apply Kd.N_alloc | apply Kd.N_drewN | apply Kd.N_drew)); exact HO_4.out) (Kd.N_base ho0) hb); replace HB := ak (below_step (bB HB.out) hb); (try clear hb); (try clear hb2); (try clear hk); (try clear hi); (try clear ho0); obtain ⟨Ao21, co21, eo21⟩ := Kd.N_slice HO_4.out; subst eo21; obtain ⟨Ao22, co22, eo22⟩ := Kd.N_slice HO255.out; subst eo22) | (go_at_call 11; (with_reducible refine (laws_equalLists.calls kj4 _ _ t246 _ _ t253 t256 _ ?side1 ?side2 ?side3 ?side4 A19.out).mono ?_); (case side1 => exact kC (Kd.N_reads' HO_4.out).2.2); (case side2 => exact (Kd.N_reads' HO_4.out).2.1); (case side3 => exact kC (Kd.N_reads' HO255.out).2.2); (case side4 => exact (Kd.N_reads' HO255.out).2.1); rintro e w' ⟨rfl, ⟨nd, rfl⟩⟩; (try first | exact ⟨rfl, _, World.drewN_drewN _ _ _⟩ | exact ⟨rfl, _, Eq.trans (World.drewN_drewN _ _ _) (congrArg (World.drewN _) (Nat.add_assoc _ _ _))⟩))))
    go_ret
    exact ⟨by first | rfl | (simp [errW_none, errW_some] <;> rfl) | (simp [*, errW_none, errW_some] <;> rfl), by repeat (first | (with_reducible first | exact HB.out | apply below_alloc | apply pw_below_drewN | apply below_drew1) | exact HB.out)⟩
   replace c17 := Bool.eq_false_iff.mpr c17
   subst c17
   rw [if_neg (show ¬ (false = true) by decide)] at H
   have H' := ak H
   clear H
   go_wp2
   repeat ((refine wp_region_quiet_lit ?_ ?_ ?_; kernel_rfl; kernel_rfl; (repeat (first | go_big_quiet_step (fail) | (refine wpQuiet_step (fun K hK => ?_); go_simp; refine hK _ ?_; clear hK K))); refine wpQuiet_nil ?_; intro _ hw'; obtain ⟨nq, hw''⟩ := hw'; subst hw''); try go_wp2)
   go_loopg [5] kj4 (fun kq v5 w' => ∃ (x5_2 : Int), v5 = .int .i64 x5_2 ∧ Aside0 (laws_FnAllLattices.l0 kq t245 t246 x5_2 = some r) ∧ Aside0 (kq ≤ kj4) ∧ Aside0 (Kd.N (Kd.slice 3 (Kd.int .i64)) 30 w' w.heap.size (fun _ => True) v247 t246) ∧ Aside0 (Below w.heap.size w w'))
   case atStart => exact ⟨(0), (by first | rfl | (simp; done) | (simp [*]; done)), H', ⟨Nat.le_refl _⟩, ⟨by (with_reducible repeat (first | apply Kd.N_alloc | apply Kd.N_drewN | apply Kd.N_drew)); exact HO_4.out⟩, ⟨by repeat (first | (with_reducible first | exact HB.out | apply below_alloc | apply pw_below_drewN | apply below_drew1) | exact HB.out)⟩⟩
   case round =>
    clear H'
    try clear c1
    try clear c2
    try clear c2b0
    try clear c2b1
    try clear p2
    try clear c4
    try clear c10
    try clear c17
    try clear p2
    obtain ⟨x5_2, rfl, HA, HK2, HO_4, HB⟩ := hrel
    cases gk with
    | zero => exact absurd HA.out (by simp [laws_FnAllLattices.l0])
    | succ k2 =>
     have H := HA.out
     clear HA
     simp only [laws_FnAllLattices.l0] at H
     by_cases c23 : x5_2 < (t246.length : Int)
     rotate_left
     ·rw [if_neg c23] at H
      have c23b0 : decide (x5_2 < (t246.length : Int)) = false := decide_eq_false c23
      clear c23
      replace H := bi H
      obtain ⟨t257, A420, H⟩ := H
      try dsimp only at H
      have A42 := ak A420
      clear A420
      replace H := bi H
      obtain ⟨t260, A430, H⟩ := H
      try dsimp only at H
      have A43 := ak A430
      clear A430
      obtain rfl := Option.some.inj H
      obtain ⟨Ao44, co44, eo44⟩ := Kd.N_slice HO_4.out
      subst eo44
      go_wp2_with (first | (go_at_call 16; (with_reducible refine (impl_ChainOf.calls k2 t245 t257 _ A42.out).mono ?_); rintro e w45 ⟨v258, rfl, ho0, hb⟩; replace HO_4 := ak (Kd.N_elder' (by (with_reducible repeat (first | apply Kd.N_alloc | apply Kd.N_drewN | apply Kd.N_drew)); exact HO_4.out) (Kd.R_base ho0) hb); have HO259 := ak (Kd.R_lower ho0 (below_size (bB HB.out))); replace HB := ak (below_step (bB HB.out) hb); (try clear hb); (try clear hb2); (try clear hk); (try clear hi); (try clear ho0); obtain ⟨Ao46, co46, eo46⟩ := Kd.R_slice HO259.out; subst eo46) | (go_at_call 15; (with_reducible refine (laws_holdsList.calls k2 _ _ t246 _ _ t257 t260 _ ?side1 ?side2 ?side3 ?side4 A43.out).mono ?_); (case side1 => exact kC (Kd.N_reads' HO_4.out).2.2); (case side2 => exact (Kd.N_reads' HO_4.out).2.1); (case side3 => exact kC (Kd.R_reads' HO259.out).2.2); (case side4 => exact (Kd.R_reads' HO259.out).2.1); rintro e w' ⟨rfl, ⟨nd, rfl⟩⟩; (try first | exact ⟨rfl, _, World.drewN_drewN _ _ _⟩ | exact ⟨rfl, _, Eq.trans (World.drewN_drewN _ _ _) (congrArg (World.drewN _) (Nat.add_assoc _ _ _))⟩)))
      repeat ((refine wp_region_quiet_lit ?_ ?_ ?_; kernel_rfl; kernel_rfl; (repeat (first | go_big_quiet_step (first | (go_at_call 16; (with_reducible refine (impl_ChainOf.calls k2 t245 t257 _ A42.out).mono ?_); rintro e w45 ⟨v258, rfl, ho0, hb⟩; replace HO_4 := ak (Kd.N_elder' (by (with_reducible repeat (first | apply Kd.N_alloc | apply Kd.N_drewN | apply Kd.N_drew)); exact HO_4.out) (Kd.R_base ho0) hb); have HO259 := ak (Kd.R_lower ho0 (below_size (bB HB.out))); replace HB := ak (below_step (bB HB.out) hb); (try clear hb); (try clear hb2); (try clear hk); (try clear hi); (try clear ho0); obtain ⟨Ao46, co46, eo46⟩ := Kd.R_slice HO259.out; subst eo46) | (go_at_call 15; (with_reducible refine (laws_holdsList.calls k2 _ _ t246 _ _ t257 t260 _ ?side1 ?side2 ?side3 ?side4 A43.out).mono ?_); (case side1 => exact kC (Kd.N_reads' HO_4.out).2.2); (case side2 => exact (Kd.N_reads' HO_4.out).2.1); (case side3 => exact kC (Kd.R_reads' HO259.out).2.2); (case side4 => exact (Kd.R_reads' HO259.out).2.1); rintro e w' ⟨rfl, ⟨nd, rfl⟩⟩; (try first | exact ⟨rfl, _, World.drewN_drewN _ _ _⟩ | exact ⟨rfl, _, Eq.trans (World.drewN_drewN _ _ _) (congrArg (World.drewN _) (Nat.add_assoc _ _ _))⟩))) | (refine wpQuiet_step (fun K hK => ?_); go_simp; refine hK _ ?_; clear hK K))); refine wpQuiet_nil ?_; intro _ hw'; obtain ⟨nq, hw''⟩ := hw'; subst hw''); try go_wp2_with (first | (go_at_call 16; (with_reducible refine (impl_ChainOf.calls k2 t245 t257 _ A42.out).mono ?_); rintro e w45 ⟨v258, rfl, ho0, hb⟩; replace HO_4 := ak (Kd.N_elder' (by (with_reducible repeat (first | apply Kd.N_alloc | apply Kd.N_drewN | apply Kd.N_drew)); exact HO_4.out) (Kd.R_base ho0) hb); have HO259 := ak (Kd.R_lower ho0 (below_size (bB HB.out))); replace HB := ak (below_step (bB HB.out) hb); (try clear hb); (try clear hb2); (try clear hk); (try clear hi); (try clear ho0); obtain ⟨Ao46, co46, eo46⟩ := Kd.R_slice HO259.out; subst eo46) | (go_at_call 15; (with_reducible refine (laws_holdsList.calls k2 _ _ t246 _ _ t257 t260 _ ?side1 ?side2 ?side3 ?side4 A43.out).mono ?_); (case side1 => exact kC (Kd.N_reads' HO_4.out).2.2); (case side2 => exact (Kd.N_reads' HO_4.out).2.1); (case side3 => exact kC (Kd.R_reads' HO259.out).2.2); (case side4 => exact (Kd.R_reads' HO259.out).2.1); rintro e w' ⟨rfl, ⟨nd, rfl⟩⟩; (try first | exact ⟨rfl, _, World.drewN_drewN _ _ _⟩ | exact ⟨rfl, _, Eq.trans (World.drewN_drewN _ _ _) (congrArg (World.drewN _) (Nat.add_assoc _ _ _))⟩))))
      go_ret
      exact ⟨by first | rfl | (simp [errW_none, errW_some] <;> rfl) | (simp [*, errW_none, errW_some] <;> rfl), by repeat (first | (with_reducible first | exact HB.out | apply below_alloc | apply pw_below_drewN | apply below_drew1) | exact HB.out)⟩
     rw [if_pos c23] at H
     have c23b0 : decide (x5_2 < (t246.length : Int)) = true := decide_eq_true c23
     clear c23
     have H' := ak H
     clear H
     obtain ⟨Ao24, co24, eo24⟩ := Kd.N_slice HO_4.out
     subst eo24
     go_wp2
     repeat ((refine wp_region_quiet_lit ?_ ?_ ?_; kernel_rfl; kernel_rfl; (repeat (first | go_big_quiet_step (fail) | (refine wpQuiet_step (fun K hK => ?_); go_simp; refine hK _ ?_; clear hK K))); refine wpQuiet_nil ?_; intro _ hw'; obtain ⟨nq, hw''⟩ := hw'; subst hw''); try go_wp2)
     go_loopg [6] k2 (fun kq v6 w' => ∃ (x6_3 : Int), v6 = .int .i64 x6_3 ∧ Aside0 (laws_FnAllLattices.l1 kq t245 t246 x5_2 x6_3 = some r) ∧ Aside0 (kq ≤ k2) ∧ Aside0 (Kd.N (Kd.slice 3 (Kd.int .i64)) 30 w' w.heap.size (fun _ => True) (.slice Ao24 t246.length co24) t246) ∧ Aside0 (Below w.heap.size w w'))
     case atStart => exact ⟨(0), (by first | rfl | (simp; done) | (simp [*]; done)), H', ⟨Nat.le_refl _⟩, ⟨by (with_reducible repeat (first | apply Kd.N_alloc | apply Kd.N_drewN | apply Kd.N_drew)); exact HO_4.out⟩, ⟨by repeat (first | (with_reducible first | exact HB.out | apply below_alloc | apply pw_below_drewN | apply below_drew1) | exact HB.out)⟩⟩
     case round =>
      clear H'
      try clear c1
      try clear c2
      try clear c2b0
      try clear c2b1
      try clear p2
      try clear c4
      try clear c10
      try clear c17
      try clear c23
      try clear c23b0
      try clear p2
      obtain ⟨x6_3, rfl, HA, HK3, HO_4, HB⟩ := hrel
      cases gk with
      | zero => exact absurd HA.out (by simp [laws_FnAllLattices.l1])
      | succ k3 =>
       have H := HA.out
       clear HA
       simp only [laws_FnAllLattices.l1] at H
       by_cases c25 : x6_3 < t245
       ·rw [if_pos c25] at H
        have c25b0 : decide (x6_3 < t245) = true := decide_eq_true c25
        clear c25
        have H' := ak H
        clear H
        go_wp2
        repeat ((refine wp_region_quiet_lit ?_ ?_ ?_; kernel_rfl; kernel_rfl; (repeat (first | go_big_quiet_step (fail) | (refine wpQuiet_step (fun K hK => ?_); go_simp; refine hK _ ?_; clear hK K))); refine wpQuiet_nil ?_; intro _ hw'; obtain ⟨nq, hw''⟩ := hw'; subst hw''); try go_wp2)
        go_loopg [7] k3 (fun kq v7 w' => ∃ (x7_4 : Int), v7 = .int .i64 x7_4 ∧ Aside0 (laws_FnAllLattices.l2 kq t245 t246 x5_2 x6_3 x7_4 = some r) ∧ Aside0 (kq ≤ k3) ∧ Aside0 (Kd.N (Kd.slice 3 (Kd.int .i64)) 30 w' w.heap.size (fun _ => True) (.slice Ao24 t246.length co24) t246) ∧ Aside0 (Below w.heap.size w w'))
        case atStart => exact ⟨(0), (by first | rfl | (simp; done) | (simp [*]; done)), H', ⟨Nat.le_refl _⟩, ⟨by (with_reducible repeat (first | apply Kd.N_alloc | apply Kd.N_drewN | apply Kd.N_drew)); exact HO_4.out⟩, ⟨by repeat (first | (with_reducible first | exact HB.out | apply below_alloc | apply pw_below_drewN | apply below_drew1) | exact HB.out)⟩⟩
        case round =>
         clear H'
         try clear c1
         try clear c2
         try clear c2b0
         try clear c2b1
         try clear p2
         try clear c4
         try clear c10
         try clear c17
         try clear c23
         try clear c23b0
         try clear c25
         try clear c25b0
         try clear p2
         obtain ⟨x7_4, rfl, HA, HK4, HO_4, HB⟩ := hrel
         cases gk with
         | zero => exact absurd HA.out (by simp [laws_FnAllLattices.l2])
         | succ k4 =>
          have H := HA.out
          clear HA
          simp only [laws_FnAllLattices.l2] at H
          by_cases c26 : x7_4 < x6_3
          rotate_left
          ·rw [if_neg c26] at H
           have c26b0 : decide (x7_4 < x6_3) = false := decide_eq_false c26
           clear c26
           have H' := ak H
           clear H
           go_wp2
           repeat ((refine wp_region_quiet_lit ?_ ?_ ?_; kernel_rfl; kernel_rfl; (repeat (first | go_big_quiet_step (fail) | (refine wpQuiet_step (fun K hK => ?_); go_simp; refine hK _ ?_; clear hK K))); refine wpQuiet_nil ?_; intro _ hw'; obtain ⟨nq, hw''⟩ := hw'; subst hw''); try go_wp2)
           go_roundg k4
           case measure => have := HJ4.out; have := HK2.out; have := HK3.out; have := HK4.out; omega
           case rel => exact ⟨(wrap64 (x6_3 + 1)), (by first | rfl | (simp; done) | (simp [*]; done)), H', ⟨by have := HJ4.out; have := HK2.out; have := HK3.out; have := HK4.out; omega⟩, ⟨by (with_reducible repeat (first | apply Kd.N_alloc | apply Kd.N_drewN | apply Kd.N_drew)); exact HO_4.out⟩, ⟨by repeat (first | (with_reducible first | exact HB.out | apply below_alloc | apply pw_below_drewN | apply below_drew1) | exact HB.out)⟩⟩
          rw [if_pos c26] at H
          have c26b0 : decide (x7_4 < x6_3) = true := decide_eq_true c26
          clear c26
          replace H := oi H
          obtain ⟨c27, H⟩ := H
          have c27b0 : decide (0 ≤ x5_2) = true := decide_eq_true c27
          clear c27
          replace H := oi H
          obtain ⟨c28, H⟩ := H
          have c28b0 : decide (x5_2 < (t246.length : Int)) = true := decide_eq_true c28
          clear c28
          replace H := bi H
          obtain ⟨t262, A290, H⟩ := H
          try dsimp only at H
          have A29 := ak A290
          clear A290
          by_cases c30 : t262 = true
          ·subst c30
           rw [if_pos rfl] at H
           exact absurd (Option.some.inj H) (by rw [hrt.out]; decide)
          replace c30 := Bool.eq_false_iff.mpr c30
          subst c30
          rw [if_neg (show ¬ (false = true) by decide)] at H
          have H' := ak H
          clear H
          have p261 : 0 ≤ (x5_2 : Int) := of_decide_eq_true (by first | (with_reducible assumption) | assumption)
          have q261 : x5_2 < (t246.length : Int) := of_decide_eq_true (by first | (with_reducible assumption) | assumption)
          obtain ⟨ad261, A261_0, c261_0, e261, hx261_0, hl261_0, hi261_0⟩ := at_L1 (Kd.N_reads' HO_4.out).2.2 x5_2 p261 q261
          cases e261
          obtain ⟨ce261, hce261, hMe261, hcc261⟩ := Kd.N_get HO_4.out [] x5_2 p261 (by first | exact q261 | exact of_decide_eq_true (by first | (with_reducible assumption) | assumption) | (have e_ := (Kd.N_reads' HO_4.out).1; omega))
          obtain ⟨ua261_0, uc261_0, rfl, ul261_0, ge261_0⟩ := Kd.FK_slice_open hMe261
          have hv261_0 := hcc261 0 _ rfl
          rw [Nat.add_zero, show ((Kd.slice 3 (Kd.int .i64))).sz = 1 from rfl, Nat.mul_one] at hv261_0
          replace hv261_0 := Option.some.inj (hv261_0.symm.trans hx261_0)
          injection hv261_0 with hva_ hvn_ hvc_
          rw [hva_] at ge261_0
          rw [hvc_] at ul261_0
          have HL261_0 := ak (show Kd.V (Kd.int .i64) 3 _ w.heap.size _ _ (rd_L1 t246 x5_2) from Kd.V_mk ul261_0 ge261_0)
          clear hva_ hvn_ hvc_ ge261_0 ul261_0
          clear hcc261 hce261
          have HR261_0 := ak hi261_0
          have HC261_0 := ak hl261_0
          clear hi261_0 hl261_0
          replace p261 := eq_true p261
          replace q261 := eq_true q261
          go_wp2_with (first | (go_at_call 12; (with_reducible refine (impl_IsBelow.calls k4 _ _ (rd_L1 t246 x5_2) x6_3 x7_4 false _ ?side1 ?side2 A29.out).mono ?_); (case side1 => exact kC (by repeat (first | (with_reducible exact HR261_0.out) | (with_reducible refine Kd.C_alloc ?_ _) | (with_reducible refine Kd.C_drewN ?_ _) | (with_reducible refine Kd.C_drew ?_) | exact HR261_0.out))); (case side2 => exact HC261_0.out); rintro e w31 ⟨rfl, hb⟩; replace HO_4 := ak (Kd.N_below (by (with_reducible repeat (first | apply Kd.N_alloc | apply Kd.N_drewN | apply Kd.N_drew)); exact HO_4.out) hb); replace HL261_0 := ak (Kd.V_below (by (with_reducible repeat (first | apply Kd.V_alloc | apply Kd.V_drewN | apply Kd.V_drew)); exact HL261_0.out) hb); replace HR261_0 := ak (Kd.C_below (by repeat (first | (with_reducible exact HR261_0.out) | (with_reducible refine Kd.C_alloc ?_ _) | (with_reducible refine Kd.C_drewN ?_ _) | (with_reducible refine Kd.C_drew ?_) | exact HR261_0.out)) hb); replace HB := ak (below_step (bB HB.out) hb); (try clear hb); (try clear hb2); (try clear hk); (try clear hi)))
          repeat ((refine wp_region_quiet_lit ?_ ?_ ?_; kernel_rfl; kernel_rfl; (repeat (first | go_big_quiet_step (first | (go_at_call 12; (with_reducible refine (impl_IsBelow.calls k4 _ _ (rd_L1 t246 x5_2) x6_3 x7_4 false _ ?side1 ?side2 A29.out).mono ?_); (case side1 => exact kC (by repeat (first | (with_reducible exact HR261_0.out) | (with_reducible refine Kd.C_alloc ?_ _) | (with_reducible refine Kd.C_drewN ?_ _) | (with_reducible refine Kd.C_drew ?_) | exact HR261_0.out))); (case side2 => exact HC261_0.out); rintro e w31 ⟨rfl, hb⟩; replace HO_4 := ak (Kd.N_below (by (with_reducible repeat (first | apply Kd.N_alloc | apply Kd.N_drewN | apply Kd.N_drew)); exact HO_4.out) hb); replace HL261_0 := ak (Kd.V_below (by (with_reducible repeat (first | apply Kd.V_alloc | apply Kd.V_drewN | apply Kd.V_drew)); exact HL261_0.out) hb); replace HR261_0 := ak (Kd.C_below (by repeat (first | (with_reducible exact HR261_0.out) | (with_reducible refine Kd.C_alloc ?_ _) | (with_reducible refine Kd.C_drewN ?_ _) | (with_reducible refine Kd.C_drew ?_) | exact HR261_0.out)) hb); replace HB := ak (below_step (bB HB.out) hb); (try clear hb); (try clear hb2); (try clear hk); (try clear hi))) | (refine wpQuiet_step (fun K hK => ?_); go_simp; refine hK _ ?_; clear hK K))); refine wpQuiet_nil ?_; intro _ hw'; obtain ⟨nq, hw''⟩ := hw'; subst hw''); try go_wp2_with (first | (go_at_call 12; (with_reducible refine (impl_IsBelow.calls k4 _ _ (rd_L1 t246 x5_2) x6_3 x7_4 false _ ?side1 ?side2 A29.out).mono ?_); (case side1 => exact kC (by repeat (first | (with_reducible exact HR261_0.out) | (with_reducible refine Kd.C_alloc ?_ _) | (with_reducible refine Kd.C_drewN ?_ _) | (with_reducible refine Kd.C_drew ?_) | exact HR261_0.out))); (case side2 => exact HC261_0.out); rintro e w31 ⟨rfl, hb⟩; replace HO_4 := ak (Kd.N_below (by (with_reducible repeat (first | apply Kd.N_alloc | apply Kd.N_drewN | apply Kd.N_drew)); exact HO_4.out) hb); replace HL261_0 := ak (Kd.V_below (by (with_reducible repeat (first | apply Kd.V_alloc | apply Kd.V_drewN | apply Kd.V_drew)); exact HL261_0.out) hb); replace HR261_0 := ak (Kd.C_below (by repeat (first | (with_reducible exact HR261_0.out) | (with_reducible refine Kd.C_alloc ?_ _) | (with_reducible refine Kd.C_drewN ?_ _) | (with_reducible refine Kd.C_drew ?_) | exact HR261_0.out)) hb); replace HB := ak (below_step (bB HB.out) hb); (try clear hb); (try clear hb2); (try clear hk); (try clear hi))))
          go_roundg k4
          case measure => have := HJ4.out; have := HK2.out; have := HK3.out; have := HK4.out; omega
          case rel => exact ⟨(wrap64 (x7_4 + 1)), (by first | rfl | (simp; done) | (simp [*]; done)), H', ⟨by have := HJ4.out; have := HK2.out; have := HK3.out; have := HK4.out; omega⟩, ⟨by (with_reducible repeat (first | apply Kd.N_alloc | apply Kd.N_drewN | apply Kd.N_drew)); exact HO_4.out⟩, ⟨by repeat (first | (with_reducible first | exact HB.out | apply below_alloc | apply pw_below_drewN | apply below_drew1) | exact HB.out)⟩⟩
       rw [if_neg c25] at H
       have c25b0 : decide (x6_3 < t245) = false := decide_eq_false c25
       clear c25
       replace H := oi H
       obtain ⟨c32, H⟩ := H
       have c32b0 : decide (0 ≤ x5_2) = true := decide_eq_true c32
       clear c32
       replace H := oi H
       obtain ⟨c33, H⟩ := H
       have c33b0 : decide (x5_2 < (t246.length : Int)) = true := decide_eq_true c33
       clear c33
       replace H := bi H
       obtain ⟨t264, A340, H⟩ := H
       try dsimp only at H
       have A34 := ak A340
       clear A340
       by_cases c35 : t264 = true
       rotate_left
       ·replace c35 := Bool.eq_false_iff.mpr c35
        subst c35
        rw [if_neg (show ¬ (false = true) by decide)] at H
        exact absurd (Option.some.inj H) (by rw [hrt.out]; decide)
       subst c35
       rw [if_pos rfl] at H
       by_cases c36 : x5_2 > 0
       rotate_left
       ·rw [if_neg c36] at H
        have c36b0 : decide (0 < x5_2) = false := decide_eq_false c36
        clear c36
        have H' := ak H
        clear H
        have p263 : 0 ≤ (x5_2 : Int) := of_decide_eq_true (by first | (with_reducible assumption) | assumption)
        have q263 : x5_2 < (t246.length : Int) := of_decide_eq_true (by first | (with_reducible assumption) | assumption)
        obtain ⟨ad263, A263_0, c263_0, e263, hx263_0, hl263_0, hi263_0⟩ := at_L1 (Kd.N_reads' HO_4.out).2.2 x5_2 p263 q263
        cases e263
        obtain ⟨ce263, hce263, hMe263, hcc263⟩ := Kd.N_get HO_4.out [] x5_2 p263 (by first | exact q263 | exact of_decide_eq_true (by first | (with_reducible assumption) | assumption) | (have e_ := (Kd.N_reads' HO_4.out).1; omega))
        obtain ⟨ua263_0, uc263_0, rfl, ul263_0, ge263_0⟩ := Kd.FK_slice_open hMe263
        have hv263_0 := hcc263 0 _ rfl
        rw [Nat.add_zero, show ((Kd.slice 3 (Kd.int .i64))).sz = 1 from rfl, Nat.mul_one] at hv263_0
        replace hv263_0 := Option.some.inj (hv263_0.symm.trans hx263_0)
        injection hv263_0 with hva_ hvn_ hvc_
        rw [hva_] at ge263_0
        rw [hvc_] at ul263_0
        have HL263_0 := ak (show Kd.V (Kd.int .i64) 3 _ w.heap.size _ _ (rd_L1 t246 x5_2) from Kd.V_mk ul263_0 ge263_0)
        clear hva_ hvn_ hvc_ ge263_0 ul263_0
        clear hcc263 hce263
        have HR263_0 := ak hi263_0
        have HC263_0 := ak hl263_0
        clear hi263_0 hl263_0
        replace p263 := eq_true p263
        replace q263 := eq_true q263
        go_wp2_with (first | (go_at_call 13; (with_reducible refine (impl_ValidLattice.calls k3 _ _ (rd_L1 t246 x5_2) true _ ?side1 ?side2 A34.out).mono ?_); (case side1 => exact kC (by repeat (first | (with_reducible exact HR263_0.out) | (with_reducible refine Kd.C_alloc ?_ _) | (with_reducible refine Kd.C_drewN ?_ _) | (with_reducible refine Kd.C_drew ?_) | exact HR263_0.out))); (case side2 => exact HC263_0.out); rintro e w' ⟨rfl, ⟨nd, rfl⟩⟩; (try first | exact ⟨rfl, _, World.drewN_drewN _ _ _⟩ | exact ⟨rfl, _, Eq.trans (World.drewN_drewN _ _ _) (congrArg (World.drewN _) (Nat.add_assoc _ _ _))⟩)))
        repeat ((refine wp_region_quiet_lit ?_ ?_ ?_; kernel_rfl; kernel_rfl; (repeat (first | go_big_quiet_step (first | (go_at_call 13; (with_reducible refine (impl_ValidLattice.calls k3 _ _ (rd_L1 t246 x5_2) true _ ?side1 ?side2 A34.out).mono ?_); (case side1 => exact kC (by repeat (first | (with_reducible exact HR263_0.out) | (with_reducible refine Kd.C_alloc ?_ _) | (with_reducible refine Kd.C_drewN ?_ _) | (with_reducible refine Kd.C_drew ?_) | exact HR263_0.out))); (case side2 => exact HC263_0.out); rintro e w' ⟨rfl, ⟨nd, rfl⟩⟩; (try first | exact ⟨rfl, _, World.drewN_drewN _ _ _⟩ | exact ⟨rfl, _, Eq.trans (World.drewN_drewN _ _ _) (congrArg (World.drewN _) (Nat.add_assoc _ _ _))⟩))) | (refine wpQuiet_step (fun K hK => ?_); go_simp; refine hK _ ?_; clear hK K))); refine wpQuiet_nil ?_; intro _ hw'; obtain ⟨nq, hw''⟩ := hw'; subst hw''); try go_wp2_with (first | (go_at_call 13; (with_reducible refine (impl_ValidLattice.calls k3 _ _ (rd_L1 t246 x5_2) true _ ?side1 ?side2 A34.out).mono ?_); (case side1 => exact kC (by repeat (first | (with_reducible exact HR263_0.out) | (with_reducible refine Kd.C_alloc ?_ _) | (with_reducible refine Kd.C_drewN ?_ _) | (with_reducible refine Kd.C_drew ?_) | exact HR263_0.out))); (case side2 => exact HC263_0.out); rintro e w' ⟨rfl, ⟨nd, rfl⟩⟩; (try first | exact ⟨rfl, _, World.drewN_drewN _ _ _⟩ | exact ⟨rfl, _, Eq.trans (World.drewN_drewN _ _ _) (congrArg (World.drewN _) (Nat.add_assoc _ _ _))⟩))))
        go_roundg k3
        case measure => have := HJ4.out; have := HK2.out; have := HK3.out; omega
        case rel => exact ⟨(wrap64 (x5_2 + 1)), (by first | rfl | (simp; done) | (simp [*]; done)), H', ⟨by have := HJ4.out; have := HK2.out; have := HK3.out; omega⟩, ⟨by (with_reducible repeat (first | apply Kd.N_alloc | apply Kd.N_drewN | apply Kd.N_drew)); exact HO_4.out⟩, ⟨by repeat (first | (with_reducible first | exact HB.out | apply below_alloc | apply pw_below_drewN | apply below_drew1) | exact HB.out)⟩⟩
       rw [if_pos c36] at H
       have c36b0 : decide (0 < x5_2) = true := decide_eq_true c36
       clear c36
       obtain ⟨ji37, hji37⟩ : ∃ j_ : Int, (wrap64 (x5_2 - 1)) = j_ := ⟨_, rfl⟩
       replace H : (if 0 ≤ (ji37) then (if (ji37) < (t246.length : Int) then ((laws_equalInts.f k3 (rd_L1 t246 (ji37)) (rd_L1 t246 x5_2)).bind fun t267 => (if t267 = true then (some false) else (laws_FnAllLattices.l0 k3 t245 t246 (wrap64 (x5_2 + 1))))) else (none)) else (none)) = some r := by first | (rw [hji37] at H; exact H) | (simp only [hji37] at H ⊢; exact H)
       (try rw [hji37] at A34)
       have hji37w : (IntKind.i64.wrap (x5_2 - 1)) = ji37 := (i64_w _).trans hji37
       replace H := oi H
       obtain ⟨c38, H⟩ := H
       have c38b0 : decide (0 ≤ (ji37)) = true := decide_eq_true c38
       clear c38
       replace H := oi H
       obtain ⟨c39, H⟩ := H
       have c39b0 : decide ((ji37) < (t246.length : Int)) = true := decide_eq_true c39
       clear c39
       replace H := bi H
       obtain ⟨t267, A400, H⟩ := H
       try dsimp only at H
       have A40 := ak A400
       clear A400
       by_cases c41 : t267 = true
       ·subst c41
        rw [if_pos rfl] at H
        exact absurd (Option.some.inj H) (by rw [hrt.out]; decide)
       replace c41 := Bool.eq_false_iff.mpr c41
       subst c41
       rw [if_neg (show ¬ (false = true) by decide)] at H
       have H' := ak H
       clear H
       have p263 : 0 ≤ (x5_2 : Int) := of_decide_eq_true (by first | (with_reducible assumption) | assumption)
       have q263 : x5_2 < (t246.length : Int) := of_decide_eq_true (by first | (with_reducible assumption) | assumption)
       obtain ⟨ad263, A263_0, c263_0, e263, hx263_0, hl263_0, hi263_0⟩ := at_L1 (Kd.N_reads' HO_4.out).2.2 x5_2 p263 q263
       cases e263
       obtain ⟨ce263, hce263, hMe263, hcc263⟩ := Kd.N_get HO_4.out [] x5_2 p263 (by first | exact q263 | exact of_decide_eq_true (by first | (with_reducible assumption) | assumption) | (have e_ := (Kd.N_reads' HO_4.out).1; omega))
       obtain ⟨ua263_0, uc263_0, rfl, ul263_0, ge263_0⟩ := Kd.FK_slice_open hMe263
       have hv263_0 := hcc263 0 _ rfl
       rw [Nat.add_zero, show ((Kd.slice 3 (Kd.int .i64))).sz = 1 from rfl, Nat.mul_one] at hv263_0
       replace hv263_0 := Option.some.inj (hv263_0.symm.trans hx263_0)
       injection hv263_0 with hva_ hvn_ hvc_
       rw [hva_] at ge263_0
       rw [hvc_] at ul263_0
       have HL263_0 := ak (show Kd.V (Kd.int .i64) 3 _ w.heap.size _ _ (rd_L1 t246 x5_2) from Kd.V_mk ul263_0 ge263_0)
       clear hva_ hvn_ hvc_ ge263_0 ul263_0
       clear hcc263 hce263
       have HR263_0 := ak hi263_0
       have HC263_0 := ak hl263_0
       clear hi263_0 hl263_0
       replace p263 := eq_true p263
       replace q263 := eq_true q263
       have p265 : 0 ≤ ((ji37) : Int) := of_decide_eq_true (by first | (with_reducible assumption) | assumption)
       have q265 : (ji37) < (t246.length : Int) := of_decide_eq_true (by first | (with_reducible assumption) | assumption)
       obtain ⟨ad265, A265_0, c265_0, e265, hx265_0, hl265_0, hi265_0⟩ := at_L1 (Kd.N_reads' HO_4.out).2.2 (ji37) p265 q265
       obtain rfl : ad263 = ad265 := (by injection e265)
       obtain ⟨ce265, hce265, hMe265, hcc265⟩ := Kd.N_get HO_4.out [] (ji37) p265 (by first | exact q265 | exact of_decide_eq_true (by first | (with_reducible assumption) | assumption) | (have e_ := (Kd.N_reads' HO_4.out).1; omega))
       obtain ⟨ua265_0, uc265_0, rfl, ul265_0, ge265_0⟩ := Kd.FK_slice_open hMe265
       have hv265_0 := hcc265 0 _ rfl
       rw [Nat.add_zero, show ((Kd.slice 3 (Kd.int .i64))).sz = 1 from rfl, Nat.mul_one] at hv265_0
       replace hv265_0 := Option.some.inj (hv265_0.symm.trans hx265_0)
       injection hv265_0 with hva_ hvn_ hvc_
       rw [hva_] at ge265_0
       rw [hvc_] at ul265_0
       have HL265_0 := ak (show Kd.V (Kd.int .i64) 3 _ w.heap.size _ _ (rd_L1 t246 (ji37)) from Kd.V_mk ul265_0 ge265_0)
       clear hva_ hvn_ hvc_ ge265_0 ul265_0
       clear hcc265 hce265
       have HR265_0 := ak hi265_0
       have HC265_0 := ak hl265_0
       clear hi265_0 hl265_0
       replace p265 := eq_true p265
       replace q265 := eq_true q265
       have p266 : 0 ≤ (x5_2 : Int) := of_decide_eq_true (by first | (with_reducible assumption) | assumption)
       have q266 : x5_2 < (t246.length : Int) := of_decide_eq_true (by first | (with_reducible assumption) | assumption)
       obtain ⟨ad266, A266_0, c266_0, e266, hx266_0, hl266_0, hi266_0⟩ := at_L1 (Kd.N_reads' HO_4.out).2.2 x5_2 p266 q266
       obtain rfl : ad263 = ad266 := (by injection e266)
       obtain ⟨ce266, hce266, hMe266, hcc266⟩ := Kd.N_get HO_4.out [] x5_2 p266 (by first | exact q266 | exact of_decide_eq_true (by first | (with_reducible assumption) | assumption) | (have e_ := (Kd.N_reads' HO_4.out).1; omega))
       obtain ⟨ua266_0, uc266_0, rfl, ul266_0, ge266_0⟩ := Kd.FK_slice_open hMe266
       have hv266_0 := hcc266 0 _ rfl
       rw [Nat.add_zero, show ((Kd.slice 3 (Kd.int .i64))).sz = 1 from rfl, Nat.mul_one] at hv266_0
       replace hv266_0 := Option.some.inj (hv266_0.symm.trans hx266_0)
       injection hv266_0 with hva_ hvn_ hvc_
       rw [hva_] at ge266_0
       rw [hvc_] at ul266_0
       have HL266_0 := ak (show Kd.V (Kd.int .i64) 3 _ w.heap.size _ _ (rd_L1 t246 x5_2) from Kd.V_mk ul266_0 ge266_0)
       clear hva_ hvn_ hvc_ ge266_0 ul266_0
       clear hcc266 hce266
       have HR266_0 := ak hi266_0
       have HC266_0 := ak hl266_0
       clear hi266_0 hl266_0
       replace p266 := eq_true p266
       replace q266 := eq_true q266
       have ea_ := Option.some.inj (hx263_0.symm.trans hx266_0)
       injection ea_ with ea_ en_ ec_
       subst ea_
       subst ec_
       clear en_
       go_wp2_with (first | (go_at_call 13; (with_reducible refine (impl_ValidLattice.calls k3 _ _ (rd_L1 t246 x5_2) true _ ?side1 ?side2 A34.out).mono ?_); (case side1 => exact kC (by repeat (first | (with_reducible exact HR263_0.out) | (with_reducible refine Kd.C_alloc ?_ _) | (with_reducible refine Kd.C_drewN ?_ _) | (with_reducible refine Kd.C_drew ?_) | exact HR263_0.out))); (case side2 => exact HC263_0.out); rintro e w' ⟨rfl, ⟨nd, rfl⟩⟩; (try first | exact ⟨rfl, _, World.drewN_drewN _ _ _⟩ | exact ⟨rfl, _, Eq.trans (World.drewN_drewN _ _ _) (congrArg (World.drewN _) (Nat.add_assoc _ _ _))⟩)) | (go_at_call 14; (with_reducible refine (laws_equalInts.calls k3 _ _ (rd_L1 t246 (ji37)) _ _ (rd_L1 t246 x5_2) false _ ?side1 ?side2 ?side3 ?side4 A40.out).mono ?_); (case side1 => exact kC (by repeat (first | (with_reducible exact HR265_0.out) | (with_reducible refine Kd.C_alloc ?_ _) | (with_reducible refine Kd.C_drewN ?_ _) | (with_reducible refine Kd.C_drew ?_) | exact HR265_0.out))); (case side2 => exact HC265_0.out); (case side3 => exact kC (by repeat (first | (with_reducible exact HR266_0.out) | (with_reducible refine Kd.C_alloc ?_ _) | (with_reducible refine Kd.C_drewN ?_ _) | (with_reducible refine Kd.C_drew ?_) | exact HR266_0.out))); (case side4 => exact HC266_0.out); rintro e w' ⟨rfl, ⟨nd, rfl⟩⟩; (try first | exact ⟨rfl, _, World.drewN_drewN _ _ _⟩ | exact ⟨rfl, _, Eq.trans (World.drewN_drewN _ _ _) (congrArg (World.drewN _) (Nat.add_assoc _ _ _))⟩)))
       repeat ((refine wp_region_quiet_lit ?_ ?_ ?_; kernel_rfl; kernel_rfl; (repeat (first | go_big_quiet_step (first | (go_at_call 13; (with_reducible refine (impl_ValidLattice.calls k3 _ _ (rd_L1 t246 x5_2) true _ ?side1 ?side2 A34.out).mono ?_); (case side1 => exact kC (by repeat (first | (with_reducible exact HR263_0.out) | (with_reducible refine Kd.C_alloc ?_ _) | (with_reducible refine Kd.C_drewN ?_ _) | (with_reducible refine Kd.C_drew ?_) | exact HR263_0.out))); (case side2 => exact HC263_0.out); rintro e w' ⟨rfl, ⟨nd, rfl⟩⟩; (try first | exact ⟨rfl, _, World.drewN_drewN _ _ _⟩ | exact ⟨rfl, _, Eq.trans (World.drewN_drewN _ _ _) (congrArg (World.drewN _) (Nat.add_assoc _ _ _))⟩)) | (go_at_call 14; (with_reducible refine (laws_equalInts.calls k3 _ _ (rd_L1 t246 (ji37)) _ _ (rd_L1 t246 x5_2) false _ ?side1 ?side2 ?side3 ?side4 A40.out).mono ?_); (case side1 => exact kC (by repeat (first | (with_reducible exact HR265_0.out) | (with_reducible refine Kd.C_alloc ?_ _) | (with_reducible refine Kd.C_drewN ?_ _) | (with_reducible refine Kd.C_drew ?_) | exact HR265_0.out))); (case side2 => exact HC265_0.out); (case side3 => exact kC (by repeat (first | (with_reducible exact HR266_0.out) | (with_reducible refine Kd.C_alloc ?_ _) | (with_reducible refine Kd.C_drewN ?_ _) | (with_reducible refine Kd.C_drew ?_) | exact HR266_0.out))); (case side4 => exact HC266_0.out); rintro e w' ⟨rfl, ⟨nd, rfl⟩⟩; (try first | exact ⟨rfl, _, World.drewN_drewN _ _ _⟩ | exact ⟨rfl, _, Eq.trans (World.drewN_drewN _ _ _) (congrArg (World.drewN _) (Nat.add_assoc _ _ _))⟩))) | (refine wpQuiet_step (fun K hK => ?_); go_simp; refine hK _ ?_; clear hK K))); refine wpQuiet_nil ?_; intro _ hw'; obtain ⟨nq, hw''⟩ := hw'; subst hw''); try go_wp2_with (first | (go_at_call 13; (with_reducible refine (impl_ValidLattice.calls k3 _ _ (rd_L1 t246 x5_2) true _ ?side1 ?side2 A34.out).mono ?_); (case side1 => exact kC (by repeat (first | (with_reducible exact HR263_0.out) | (with_reducible refine Kd.C_alloc ?_ _) | (with_reducible refine Kd.C_drewN ?_ _) | (with_reducible refine Kd.C_drew ?_) | exact HR263_0.out))); (case side2 => exact HC263_0.out); rintro e w' ⟨rfl, ⟨nd, rfl⟩⟩; (try first | exact ⟨rfl, _, World.drewN_drewN _ _ _⟩ | exact ⟨rfl, _, Eq.trans (World.drewN_drewN _ _ _) (congrArg (World.drewN _) (Nat.add_assoc _ _ _))⟩)) | (go_at_call 14; (with_reducible refine (laws_equalInts.calls k3 _ _ (rd_L1 t246 (ji37)) _ _ (rd_L1 t246 x5_2) false _ ?side1 ?side2 ?side3 ?side4 A40.out).mono ?_); (case side1 => exact kC (by repeat (first | (with_reducible exact HR265_0.out) | (with_reducible refine Kd.C_alloc ?_ _) | (with_reducible refine Kd.C_drewN ?_ _) | (with_reducible refine Kd.C_drew ?_) | exact HR265_0.out))); (case side2 => exact HC265_0.out); (case side3 => exact kC (by repeat (first | (with_reducible exact HR266_0.out) | (with_reducible refine Kd.C_alloc ?_ _) | (with_reducible refine Kd.C_drewN ?_ _) | (with_reducible refine Kd.C_drew ?_) | exact HR266_0.out))); (case side4 => exact HC266_0.out); rintro e w' ⟨rfl, ⟨nd, rfl⟩⟩; (try first | exact ⟨rfl, _, World.drewN_drewN _ _ _⟩ | exact ⟨rfl, _, Eq.trans (World.drewN_drewN _ _ _) (congrArg (World.drewN _) (Nat.add_assoc _ _ _))⟩))))
       go_roundg k3
       case measure => have := HJ4.out; have := HK2.out; have := HK3.out; omega
       case rel => exact ⟨(wrap64 (x5_2 + 1)), (by first | rfl | (simp; done) | (simp [*]; done)), H', ⟨by have := HJ4.out; have := HK2.out; have := HK3.out; omega⟩, ⟨by (with_reducible repeat (first | apply Kd.N_alloc | apply Kd.N_drewN | apply Kd.N_drew)); exact HO_4.out⟩, ⟨by repeat (first | (with_reducible first | exact HB.out | apply below_alloc | apply pw_below_drewN | apply below_drew1) | exact HB.out)⟩⟩
/-- THE ONE PURE STATEMENT of laws_FnAllLattices: yours. -/
def laws_FnAllLattices.Pure : Prop := ∀ (l0 : List Int), l0.length ≤ maxLen → l0.length * 1 ≤ 140737488351232 → (∀ x ∈ l0, (Lit.int .u8 x).wf = true) → ∃ k, laws_FnAllLattices.f k l0 = some true
theorem laws_FnAllLattices.walk (P : laws_FnAllLattices.Pure) (a0 : Option Addr) (len0 cap0 : Nat) (z0 : List Int) (w : World) (w0 : (a0 = none ∧ len0 = 0 ∧ cap0 = 0 ∧ z0 = []) ∨ ∃ x, a0 = some x ∧ len0 ≤ cap0 ∧ cap0 ≤ maxLen ∧ z0.length = cap0 ∧ (∀ i, i < z0.length → w.cell? (x.add i) = some (.int .u8 (z0.getD i 0))) ∧ ∀ n ∈ z0, (Lit.int .u8 n).wf = true) (y0 : len0 * 1 ≤ 140737488351232) :
  Calls Try.prog 4 #[.slice a0 len0 cap0] w fun e w' => e = .returned (.bool true) ∧ Below w.heap.size w w' := by
 obtain ⟨l0, rfl, hr0, hm0, hw0, hc0⟩ := ReadsInt.ofRowC w0
 obtain ⟨k, h⟩ := P l0 hm0 y0 hw0
 refine (laws_FnAllLattices.calls k _ _ l0 true w (Kd.C_of_reads (d := (0 : Int)) (h1 := fun _ => rfl) hr0) hc0 ⟨rfl⟩ h).mono ?_
 rintro e w' ⟨rfl, hd⟩
 exact ⟨rfl, hd⟩
end Go.Proofs.Ytjijfflifonjoaa.P

-- shrunk
