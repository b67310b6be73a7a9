-- Printed by this session's wip/print2.py (the kit's print.py, widened) out of the translation. Lean checks it.
import Derived.Test.YtomapoenndlbiaaP0
import Derived.Test.YtomapoenndlbiaaP2
import Derived.Test.YtomapoenndlbiaaP13
import Derived.Test.YtomapoenndlbiaaP23
import Derived.Test.YtomapoenndlbiaaP25
import Derived.Test.YtomapoenndlbiaaP34
import Derived.Test.YtomapoenndlbiaaP41
import Derived.Test.YtomapoenndlbiaaP42
import Derived.Test.YtomapoenndlbiaaP43
namespace Go.Proofs.Ytomapoenndlbiaa.P
open Go.RowKit Go.Proofs.YtomapoenndlbiaaW.PrintWords Go.Proofs.YtomapoenndlbiaaW.PrintLast Go.Proofs.YtomapoenndlbiaaW.PrintMore
attribute [local go_sem] max2_int min2_int max_two min_two max_three min_three max_four min_four   -- for this text's walks alone
set_option linter.unusedVariables false
set_option linter.unusedSimpArgs false

/-! ### laws_FnExactGreatestFilters: function 7 -/
def laws_FnExactGreatestFilters.j0 : Nat → List Int → List Int → Bool → List Int → List (List Int) → Option (Bool)
 | 0, _, _, _, _, _ => none
 | k + 1, x4, x6, x42, x578000, x578001 => if x42 = true then (some false) else ((laws_markIntS.f k x6 1).bind fun bt608 => ((laws_heldIntS.f k bt608.2 1).bind fun t610 => (if t610 < 0 then (some false) else (if t610 = bt608.1 then ((laws_toAlgebra.f k x578000 x578001).bind fun bt611 => ((impl_GreatestFilters.f k bt611.1 bt611.2).bind fun t617 => ((laws_eqIntS.f k t617 x4).bind fun t620 => (if t620 = true then ((laws_heldIntS.f k bt608.2 1).bind fun t621 => (if t621 < 0 then (some false) else (if t621 = bt608.1 then (some true) else (some false)))) else (some false))))) else (some false)))))
def laws_FnExactGreatestFilters.f (k : Nat) (l0_0 : List Int) (l0_1 : List (List Int)) : Option (Bool) := (laws_szAlgebra.f k l0_0 l0_1 1048576).bind fun t578 => (if t578 < 0 then (some true) else ((laws_toAlgebra.f k l0_0 l0_1).bind fun bt579 => ((spec_GreatestFilters.f k bt579.1 bt579.2).bind fun t585 => ((laws_toAlgebra.f k l0_0 l0_1).bind fun bt588 => ((impl_GreatestFilters.f k bt588.1 bt588.2).bind fun t595 => ((laws_eqIntS.f k t595 t585).bind fun t598 => (if t598 = true then ((laws_toAlgebra.f k l0_0 l0_1).bind fun bt599 => ((laws_eqAlgebra.f k bt588.1 bt588.2 bt599.1 bt599.2).bind fun t605 => (if t605 = true then ((laws_markAlgebra.f k bt588.1 bt588.2 1).bind fun t606 => (if t606 < 0 then (laws_FnExactGreatestFilters.j0 k t585 t595 true l0_0 l0_1) else ((laws_eqIntS.f k t595 t585).bind fun t607 => (laws_FnExactGreatestFilters.j0 k t585 t595 (!t607) l0_0 l0_1)))) else (some false)))) else (some false))))))))
set_option maxHeartbeats 8000000 in
set_option maxRecDepth 100000 in
theorem laws_FnExactGreatestFilters.calls (k : Nat) (A0_0 : Option Addr) (c0_0 : Nat) (l0_0 : List Int) (A0_1 : Option Addr) (c0_1 : Nat) (l0_1 : List (List Int)) (r : Bool) (w : World) (hr0_0 : Kd.C (Kd.int .i64) w A0_0 l0_0.length l0_0) (hc0_0 : l0_0.length ≤ c0_0) (hr0_1 : Kd.C (Kd.slice 3 (Kd.int .i64)) w A0_1 l0_1.length l0_1) (hc0_1 : l0_1.length ≤ c0_1) (hrt : Aside0 (r = true)) (h : laws_FnExactGreatestFilters.f k l0_0 l0_1 = some r) :
  Calls Try.prog 7 #[.agg #[.slice A0_0 l0_0.length c0_0, .slice A0_1 l0_1.length c0_1]] w fun e w' => e = .returned (.bool r) ∧ Below w.heap.size w w' := by
 have hu25 := Try.underlying25
 have hu28 := Try.underlying28
 have HR0_0 := Aside0.mk hr0_0
 have HC0_0 := Aside0.mk hc0_0
 clear hr0_0 hc0_0
 have HR0_1 := Aside0.mk hr0_1
 have HC0_1 := Aside0.mk hc0_1
 clear hr0_1 hc0_1
 have HB := Aside0.mk (Below.refl w.heap.size w)
 have H : ((laws_szAlgebra.f k l0_0 l0_1 1048576).bind fun t578 => (if t578 < 0 then (some true) else ((laws_toAlgebra.f k l0_0 l0_1).bind fun bt579 => ((spec_GreatestFilters.f k bt579.1 bt579.2).bind fun t585 => ((laws_toAlgebra.f k l0_0 l0_1).bind fun bt588 => ((impl_GreatestFilters.f k bt588.1 bt588.2).bind fun t595 => ((laws_eqIntS.f k t595 t585).bind fun t598 => (if t598 = true then ((laws_toAlgebra.f k l0_0 l0_1).bind fun bt599 => ((laws_eqAlgebra.f k bt588.1 bt588.2 bt599.1 bt599.2).bind fun t605 => (if t605 = true then ((laws_markAlgebra.f k bt588.1 bt588.2 1).bind fun t606 => (if t606 < 0 then (laws_FnExactGreatestFilters.j0 k t585 t595 true l0_0 l0_1) else ((laws_eqIntS.f k t595 t585).bind fun t607 => (laws_FnExactGreatestFilters.j0 k t585 t595 (!t607) l0_0 l0_1)))) else (some false)))) else (some false))))))))) = some r := h
 clear h
 replace H := Option.bind_eq_some_iff.mp H
 obtain ⟨t578, A20, H⟩ := H
 replace H : (if t578 < 0 then (some true) else ((laws_toAlgebra.f k l0_0 l0_1).bind fun bt579 => ((spec_GreatestFilters.f k bt579.1 bt579.2).bind fun t585 => ((laws_toAlgebra.f k l0_0 l0_1).bind fun bt588 => ((impl_GreatestFilters.f k bt588.1 bt588.2).bind fun t595 => ((laws_eqIntS.f k t595 t585).bind fun t598 => (if t598 = true then ((laws_toAlgebra.f k l0_0 l0_1).bind fun bt599 => ((laws_eqAlgebra.f k bt588.1 bt588.2 bt599.1 bt599.2).bind fun t605 => (if t605 = true then ((laws_markAlgebra.f k bt588.1 bt588.2 1).bind fun t606 => (if t606 < 0 then (laws_FnExactGreatestFilters.j0 k t585 t595 true l0_0 l0_1) else ((laws_eqIntS.f k t595 t585).bind fun t607 => (laws_FnExactGreatestFilters.j0 k t585 t595 (!t607) l0_0 l0_1)))) else (some false)))) else (some false)))))))) = some r := H
 have A2 := Aside0.mk A20
 clear A20
 by_cases c3 : t578 < 0
 ·rw [if_pos c3] at H
  have c3b0 : decide (t578 < 0) = true := decide_eq_true c3
  clear c3
  obtain rfl := Option.some.inj H
  go_enter Try.func7, Try.ntmps7
  go_wp2_with (first | ((with_reducible refine gate_dst (N := 1) rfl ?_); refine box_event ?hg (N := 1) ?hd (cs := #[.slice A0_0 l0_0.length c0_0, .slice A0_1 l0_1.length c0_1]) (t := 25) ?hr ?_; (case hd => rfl); (case hg => rfl); (case hr => first | (go_simp; done) | (go_simp; rfl)); intro gb577 hg w4 hbox hb; have n0_ := Aside0.mk (below_step (by repeat (first | (with_reducible first | exact HB.out | apply below_alloc | apply pw_below_drewN | apply below_drew1) | exact HB.out)) hb); have n1_ := Aside0.mk (hbox); have n2_ := Aside0.mk ((by rw [hg]; exact (below_size (by repeat (first | (with_reducible first | exact HB.out | apply below_alloc | apply pw_below_drewN | apply below_drew1) | exact HB.out))) : w.heap.size ≤ gb577)); have n3_ := Aside0.mk ((by rw [hg]; exact (below_size (by repeat (first | (with_reducible first | exact HB.out | apply below_alloc | apply pw_below_drewN | apply below_drew1) | exact HB.out))) : w.heap.size ≤ gb577)); clear HB; have HB := n0_; have BK577 := n1_; have GW577 := n2_; have GE577 := n3_; clear n0_ n1_ n2_ n3_; clear hb hbox hg; have hcz5_0 : w4.cell? ⟨gb577, 0, none⟩ = some (.slice A0_0 l0_0.length c0_0) := (blk_cell BK577.out 0).trans rfl; have hcz5_1 : w4.cell? ⟨gb577, 1, none⟩ = some (.slice A0_1 l0_1.length c0_1) := (blk_cell BK577.out 1).trans rfl; have hfz5_0 := blk_frozen BK577.out 0; have hfz5_1 := blk_frozen BK577.out 1) | ((with_reducible refine gate_callee (f := 11) rfl ?_); refine goesL_ (some 13) rfl rfl Try.func11 (by kernel_rfl) rfl #[.agg #[.slice A0_0 l0_0.length c0_0, .slice A0_1 l0_1.length c0_1], .int .i64 1048576] rfl (by (try simp only [List.map_toArray, List.map_cons, List.map_nil]); first | done | rfl | (simp only [List.length_drop, List.length_take]; rfl)) ?_; (with_reducible refine (laws_szAlgebra.calls k _ _ l0_0 _ _ l0_1 1048576 t578 _ ?side1 ?side2 ?side3 ?side4 A2.out).mono ?_); (case side1 => repeat (first | exact (Kd.C_below HR0_0.out HB.out) | (with_reducible refine Kd.C_alloc ?_ _) | (with_reducible refine Kd.C_drewN ?_ _) | (with_reducible refine Kd.C_drew ?_))); (case side2 => exact HC0_0.out); (case side3 => repeat (first | exact (Kd.C_below HR0_1.out HB.out) | (with_reducible refine Kd.C_alloc ?_ _) | (with_reducible refine Kd.C_drewN ?_ _) | (with_reducible refine Kd.C_drew ?_))); (case side4 => exact HC0_1.out); rintro e w6 ⟨rfl, hb⟩; refine ⟨_, rfl, ?_⟩; have n0_ := Aside0.mk (blk_below (g := gb577) (o := .cells #[.slice A0_0 l0_0.length c0_0, .slice A0_1 l0_1.length c0_1] 25 (0, 0)) (by (with_reducible repeat (first | refine blk_drewN ?_ _ | refine blk_drew ?_ | refine blk_alloc ?_ _)); exact BK577.out) hb); have n1_ := Aside0.mk (below_step (by repeat (first | (with_reducible first | exact HB.out | apply below_alloc | apply pw_below_drewN | apply below_drew1 | refine below_set ?_ GE577.out) | exact HB.out)) hb); clear BK577; clear HB; have BK577 := n0_; have HB := n1_; clear n0_ n1_; (try clear hb); (try clear hb2); (try clear hk); (try clear hi)))
  go_ret
  exact ⟨by first | rfl | (simp [errW_none, errW_some] <;> rfl) | (simp [*, errW_none, errW_some] <;> rfl), by repeat (first | (with_reducible first | exact HB.out | apply below_alloc | apply pw_below_drewN | apply below_drew1 | refine below_set ?_ GE577.out) | exact HB.out)⟩
 ·rw [if_neg c3] at H
  have c3b0 : decide (t578 < 0) = false := decide_eq_false c3
  clear c3
  replace H := Option.bind_eq_some_iff.mp H
  obtain ⟨⟨t579, t582⟩, A70, H⟩ := H
  replace H : ((spec_GreatestFilters.f k t579 t582).bind fun t585 => ((laws_toAlgebra.f k l0_0 l0_1).bind fun bt588 => ((impl_GreatestFilters.f k bt588.1 bt588.2).bind fun t595 => ((laws_eqIntS.f k t595 t585).bind fun t598 => (if t598 = true then ((laws_toAlgebra.f k l0_0 l0_1).bind fun bt599 => ((laws_eqAlgebra.f k bt588.1 bt588.2 bt599.1 bt599.2).bind fun t605 => (if t605 = true then ((laws_markAlgebra.f k bt588.1 bt588.2 1).bind fun t606 => (if t606 < 0 then (laws_FnExactGreatestFilters.j0 k t585 t595 true l0_0 l0_1) else ((laws_eqIntS.f k t595 t585).bind fun t607 => (laws_FnExactGreatestFilters.j0 k t585 t595 (!t607) l0_0 l0_1)))) else (some false)))) else (some false)))))) = some r := H
  have A7 := Aside0.mk A70
  clear A70
  replace H := Option.bind_eq_some_iff.mp H
  obtain ⟨t585, A80, H⟩ := H
  replace H : ((laws_toAlgebra.f k l0_0 l0_1).bind fun bt588 => ((impl_GreatestFilters.f k bt588.1 bt588.2).bind fun t595 => ((laws_eqIntS.f k t595 t585).bind fun t598 => (if t598 = true then ((laws_toAlgebra.f k l0_0 l0_1).bind fun bt599 => ((laws_eqAlgebra.f k bt588.1 bt588.2 bt599.1 bt599.2).bind fun t605 => (if t605 = true then ((laws_markAlgebra.f k bt588.1 bt588.2 1).bind fun t606 => (if t606 < 0 then (laws_FnExactGreatestFilters.j0 k t585 t595 true l0_0 l0_1) else ((laws_eqIntS.f k t595 t585).bind fun t607 => (laws_FnExactGreatestFilters.j0 k t585 t595 (!t607) l0_0 l0_1)))) else (some false)))) else (some false))))) = some r := H
  have A8 := Aside0.mk A80
  clear A80
  replace H := Option.bind_eq_some_iff.mp H
  obtain ⟨⟨t588, t591⟩, A90, H⟩ := H
  replace H : ((impl_GreatestFilters.f k t588 t591).bind fun t595 => ((laws_eqIntS.f k t595 t585).bind fun t598 => (if t598 = true then ((laws_toAlgebra.f k l0_0 l0_1).bind fun bt599 => ((laws_eqAlgebra.f k t588 t591 bt599.1 bt599.2).bind fun t605 => (if t605 = true then ((laws_markAlgebra.f k t588 t591 1).bind fun t606 => (if t606 < 0 then (laws_FnExactGreatestFilters.j0 k t585 t595 true l0_0 l0_1) else ((laws_eqIntS.f k t595 t585).bind fun t607 => (laws_FnExactGreatestFilters.j0 k t585 t595 (!t607) l0_0 l0_1)))) else (some false)))) else (some false)))) = some r := H
  have A9 := Aside0.mk A90
  clear A90
  replace H := Option.bind_eq_some_iff.mp H
  obtain ⟨t595, A100, H⟩ := H
  replace H : ((laws_eqIntS.f k t595 t585).bind fun t598 => (if t598 = true then ((laws_toAlgebra.f k l0_0 l0_1).bind fun bt599 => ((laws_eqAlgebra.f k t588 t591 bt599.1 bt599.2).bind fun t605 => (if t605 = true then ((laws_markAlgebra.f k t588 t591 1).bind fun t606 => (if t606 < 0 then (laws_FnExactGreatestFilters.j0 k t585 t595 true l0_0 l0_1) else ((laws_eqIntS.f k t595 t585).bind fun t607 => (laws_FnExactGreatestFilters.j0 k t585 t595 (!t607) l0_0 l0_1)))) else (some false)))) else (some false))) = some r := H
  have A10 := Aside0.mk A100
  clear A100
  replace H := Option.bind_eq_some_iff.mp H
  obtain ⟨t598, A110, H⟩ := H
  replace H : (if t598 = true then ((laws_toAlgebra.f k l0_0 l0_1).bind fun bt599 => ((laws_eqAlgebra.f k t588 t591 bt599.1 bt599.2).bind fun t605 => (if t605 = true then ((laws_markAlgebra.f k t588 t591 1).bind fun t606 => (if t606 < 0 then (laws_FnExactGreatestFilters.j0 k t585 t595 true l0_0 l0_1) else ((laws_eqIntS.f k t595 t585).bind fun t607 => (laws_FnExactGreatestFilters.j0 k t585 t595 (!t607) l0_0 l0_1)))) else (some false)))) else (some false)) = some r := H
  have A11 := Aside0.mk A110
  clear A110
  by_cases c12 : t598 = true
  ·subst c12
   have H1 : ((laws_toAlgebra.f k l0_0 l0_1).bind fun bt599 => ((laws_eqAlgebra.f k t588 t591 bt599.1 bt599.2).bind fun t605 => (if t605 = true then ((laws_markAlgebra.f k t588 t591 1).bind fun t606 => (if t606 < 0 then (laws_FnExactGreatestFilters.j0 k t585 t595 true l0_0 l0_1) else ((laws_eqIntS.f k t595 t585).bind fun t607 => (laws_FnExactGreatestFilters.j0 k t585 t595 (!t607) l0_0 l0_1)))) else (some false)))) = some r := by rw [if_pos rfl] at H; exact H
   clear H
   have H := H1
   clear H1
   replace H := Option.bind_eq_some_iff.mp H
   obtain ⟨⟨t599, t602⟩, A130, H⟩ := H
   replace H : ((laws_eqAlgebra.f k t588 t591 t599 t602).bind fun t605 => (if t605 = true then ((laws_markAlgebra.f k t588 t591 1).bind fun t606 => (if t606 < 0 then (laws_FnExactGreatestFilters.j0 k t585 t595 true l0_0 l0_1) else ((laws_eqIntS.f k t595 t585).bind fun t607 => (laws_FnExactGreatestFilters.j0 k t585 t595 (!t607) l0_0 l0_1)))) else (some false))) = some r := H
   have A13 := Aside0.mk A130
   clear A130
   replace H := Option.bind_eq_some_iff.mp H
   obtain ⟨t605, A140, H⟩ := H
   replace H : (if t605 = true then ((laws_markAlgebra.f k t588 t591 1).bind fun t606 => (if t606 < 0 then (laws_FnExactGreatestFilters.j0 k t585 t595 true l0_0 l0_1) else ((laws_eqIntS.f k t595 t585).bind fun t607 => (laws_FnExactGreatestFilters.j0 k t585 t595 (!t607) l0_0 l0_1)))) else (some false)) = some r := H
   have A14 := Aside0.mk A140
   clear A140
   by_cases c15 : t605 = true
   ·subst c15
    have H1 : ((laws_markAlgebra.f k t588 t591 1).bind fun t606 => (if t606 < 0 then (laws_FnExactGreatestFilters.j0 k t585 t595 true l0_0 l0_1) else ((laws_eqIntS.f k t595 t585).bind fun t607 => (laws_FnExactGreatestFilters.j0 k t585 t595 (!t607) l0_0 l0_1)))) = some r := by rw [if_pos rfl] at H; exact H
    clear H
    have H := H1
    clear H1
    replace H := Option.bind_eq_some_iff.mp H
    obtain ⟨t606, A160, H⟩ := H
    replace H : (if t606 < 0 then (laws_FnExactGreatestFilters.j0 k t585 t595 true l0_0 l0_1) else ((laws_eqIntS.f k t595 t585).bind fun t607 => (laws_FnExactGreatestFilters.j0 k t585 t595 (!t607) l0_0 l0_1))) = some r := H
    have A16 := Aside0.mk A160
    clear A160
    have HC17 := Aside0.mk H
    clear H
    go_enter Try.func7, Try.ntmps7
    try go_wp2_with (first | ((with_reducible refine gate_dst (N := 1) rfl ?_); refine box_event ?hg (N := 1) ?hd (cs := #[.slice A0_0 l0_0.length c0_0, .slice A0_1 l0_1.length c0_1]) (t := 25) ?hr ?_; (case hd => rfl); (case hg => rfl); (case hr => first | (go_simp; done) | (go_simp; rfl)); intro gb577 hg w18 hbox hb; have n0_ := Aside0.mk (below_step (by repeat (first | (with_reducible first | exact HB.out | apply below_alloc | apply pw_below_drewN | apply below_drew1) | exact HB.out)) hb); have n1_ := Aside0.mk (hbox); have n2_ := Aside0.mk ((by rw [hg]; exact (below_size (by repeat (first | (with_reducible first | exact HB.out | apply below_alloc | apply pw_below_drewN | apply below_drew1) | exact HB.out))) : w.heap.size ≤ gb577)); have n3_ := Aside0.mk ((by rw [hg]; exact (below_size (by repeat (first | (with_reducible first | exact HB.out | apply below_alloc | apply pw_below_drewN | apply below_drew1) | exact HB.out))) : w.heap.size ≤ gb577)); clear HB; have HB := n0_; have BK577 := n1_; have GW577 := n2_; have GE577 := n3_; clear n0_ n1_ n2_ n3_; clear hb hbox hg; have hcz19_0 : w18.cell? ⟨gb577, 0, none⟩ = some (.slice A0_0 l0_0.length c0_0) := (blk_cell BK577.out 0).trans rfl; have hcz19_1 : w18.cell? ⟨gb577, 1, none⟩ = some (.slice A0_1 l0_1.length c0_1) := (blk_cell BK577.out 1).trans rfl; have hfz19_0 := blk_frozen BK577.out 0; have hfz19_1 := blk_frozen BK577.out 1) | ((with_reducible refine gate_callee (f := 11) rfl ?_); refine goesL_ (some 13) rfl rfl Try.func11 (by kernel_rfl) rfl #[.agg #[.slice A0_0 l0_0.length c0_0, .slice A0_1 l0_1.length c0_1], .int .i64 1048576] rfl (by (try simp only [List.map_toArray, List.map_cons, List.map_nil]); first | done | rfl | (simp only [List.length_drop, List.length_take]; rfl)) ?_; (with_reducible refine (laws_szAlgebra.calls k _ _ l0_0 _ _ l0_1 1048576 t578 _ ?side1 ?side2 ?side3 ?side4 A2.out).mono ?_); (case side1 => repeat (first | exact (Kd.C_below HR0_0.out HB.out) | (with_reducible refine Kd.C_alloc ?_ _) | (with_reducible refine Kd.C_drewN ?_ _) | (with_reducible refine Kd.C_drew ?_))); (case side2 => exact HC0_0.out); (case side3 => repeat (first | exact (Kd.C_below HR0_1.out HB.out) | (with_reducible refine Kd.C_alloc ?_ _) | (with_reducible refine Kd.C_drewN ?_ _) | (with_reducible refine Kd.C_drew ?_))); (case side4 => exact HC0_1.out); rintro e w20 ⟨rfl, hb⟩; refine ⟨_, rfl, ?_⟩; have n0_ := Aside0.mk (blk_below (g := gb577) (o := .cells #[.slice A0_0 l0_0.length c0_0, .slice A0_1 l0_1.length c0_1] 25 (0, 0)) (by (with_reducible repeat (first | refine blk_drewN ?_ _ | refine blk_drew ?_ | refine blk_alloc ?_ _)); exact BK577.out) hb); have n1_ := Aside0.mk (below_step (by repeat (first | (with_reducible first | exact HB.out | apply below_alloc | apply pw_below_drewN | apply below_drew1 | refine below_set ?_ GE577.out) | exact HB.out)) hb); clear BK577; clear HB; have BK577 := n0_; have HB := n1_; clear n0_ n1_; (try clear hb); (try clear hb2); (try clear hk); (try clear hi); have hcz21_0 : w20.cell? ⟨gb577, 0, none⟩ = some (.slice A0_0 l0_0.length c0_0) := (blk_cell BK577.out 0).trans rfl; have hcz21_1 : w20.cell? ⟨gb577, 1, none⟩ = some (.slice A0_1 l0_1.length c0_1) := (blk_cell BK577.out 1).trans rfl; have hfz21_0 := blk_frozen BK577.out 0; have hfz21_1 := blk_frozen BK577.out 1) | ((with_reducible refine gate_callee (f := 13) rfl ?_); refine goesL_ (some 17) rfl rfl Try.func13 (by kernel_rfl) rfl #[.agg #[.slice A0_0 l0_0.length c0_0, .slice A0_1 l0_1.length c0_1]] rfl (by (try simp only [List.map_toArray, List.map_cons, List.map_nil]); first | done | rfl | (simp only [List.length_drop, List.length_take]; rfl)) ?_; (with_reducible refine (laws_toAlgebra.calls k _ _ l0_0 _ _ l0_1 t579 t582 _ ?side1 ?side2 ?side3 ?side4 A7.out).mono ?_); (case side1 => repeat (first | exact (Kd.C_below HR0_0.out HB.out) | (with_reducible refine Kd.C_alloc ?_ _) | (with_reducible refine Kd.C_drewN ?_ _) | (with_reducible refine Kd.C_drew ?_))); (case side2 => exact HC0_0.out); (case side3 => repeat (first | exact (Kd.C_below HR0_1.out HB.out) | (with_reducible refine Kd.C_alloc ?_ _) | (with_reducible refine Kd.C_drewN ?_ _) | (with_reducible refine Kd.C_drew ?_))); (case side4 => exact HC0_1.out); rintro e w22 ⟨v580, v583, rfl, ho0, ho1, hb⟩; refine ⟨_, rfl, ?_⟩; have n0_ := Aside0.mk (Kd.R_lower ho0 (below_size (by repeat (first | (with_reducible first | exact HB.out | apply below_alloc | apply pw_below_drewN | apply below_drew1 | refine below_set ?_ GE577.out) | exact HB.out)))); have n1_ := Aside0.mk (Kd.S_lower ho1 (below_size (by repeat (first | (with_reducible first | exact HB.out | apply below_alloc | apply pw_below_drewN | apply below_drew1 | refine below_set ?_ GE577.out) | exact HB.out)))); have n2_ := Aside0.mk (blk_below (g := gb577) (o := .cells #[.slice A0_0 l0_0.length c0_0, .slice A0_1 l0_1.length c0_1] 25 (0, 0)) (by (with_reducible repeat (first | refine blk_drewN ?_ _ | refine blk_drew ?_ | refine blk_alloc ?_ _)); exact BK577.out) hb); have n3_ := Aside0.mk (below_step (by repeat (first | (with_reducible first | exact HB.out | apply below_alloc | apply pw_below_drewN | apply below_drew1 | refine below_set ?_ GE577.out) | exact HB.out)) hb); clear BK577; clear HB; have HO581 := n0_; have HO584 := n1_; have BK577 := n2_; have HB := n3_; clear n0_ n1_ n2_ n3_; (try clear hb); (try clear hb2); (try clear hk); (try clear hi); (try clear ho0); (try clear ho1); obtain ⟨Ao23, co23, eo23⟩ := Kd.R_slice HO581.out; subst eo23; obtain ⟨Ao24, co24, eo24⟩ := Kd.S_slice HO584.out; subst eo24) | ((with_reducible refine gate_callee (f := 24) rfl ?_); refine goesL_ (some 18) rfl rfl Try.func24 (by kernel_rfl) rfl #[.agg #[.slice Ao23 t579.length co23, .slice Ao24 t582.length co24]] rfl (by (try simp only [List.map_toArray, List.map_cons, List.map_nil]); first | done | rfl | (simp only [List.length_drop, List.length_take]; rfl)) ?_; (with_reducible refine (spec_GreatestFilters.calls k _ _ t579 _ _ t582 t585 _ ?side1 ?side2 ?side3 ?side4 A8.out).mono ?_); (case side1 => repeat (first | exact (Kd.R_reads' HO581.out).2.2 | (with_reducible refine Kd.C_alloc ?_ _) | (with_reducible refine Kd.C_drewN ?_ _) | (with_reducible refine Kd.C_drew ?_))); (case side2 => exact (Kd.R_reads' HO581.out).2.1); (case side3 => repeat (first | exact (Kd.S_reads' HO584.out).2.2 | (with_reducible refine Kd.C_alloc ?_ _) | (with_reducible refine Kd.C_drewN ?_ _) | (with_reducible refine Kd.C_drew ?_))); (case side4 => exact (Kd.S_reads' HO584.out).2.1); rintro e w25 ⟨v586, rfl, ho0, hb⟩; refine ⟨_, rfl, ?_⟩; have n0_ := Aside0.mk (Kd.R_elder' (by (with_reducible repeat (first | apply Kd.R_alloc | apply Kd.R_drewN | apply Kd.R_drew)); exact HO581.out) (Kd.R_base ho0) hb); have n1_ := Aside0.mk (Kd.S_elder' (by (with_reducible repeat (first | apply Kd.S_alloc | apply Kd.S_drewN | apply Kd.S_drew)); exact HO584.out) (Kd.R_base ho0) hb); have n2_ := Aside0.mk (Kd.R_lower (Kd.R_new' ho0 (Kd.R_lt (by (with_reducible repeat (first | apply Kd.R_alloc | apply Kd.R_drewN | apply Kd.R_drew)); exact HO581.out))) (below_size (by repeat (first | (with_reducible first | exact HB.out | apply below_alloc | apply pw_below_drewN | apply below_drew1 | refine below_set ?_ GE577.out) | exact HB.out)))); have n3_ := Aside0.mk (blk_below (g := gb577) (o := .cells #[.slice A0_0 l0_0.length c0_0, .slice A0_1 l0_1.length c0_1] 25 (0, 0)) (by (with_reducible repeat (first | refine blk_drewN ?_ _ | refine blk_drew ?_ | refine blk_alloc ?_ _)); exact BK577.out) hb); have n4_ := Aside0.mk (below_step (by repeat (first | (with_reducible first | exact HB.out | apply below_alloc | apply pw_below_drewN | apply below_drew1 | refine below_set ?_ GE577.out) | exact HB.out)) hb); clear HO581; clear HO584; clear BK577; clear HB; have HO581 := n0_; have HO584 := n1_; have HO587 := n2_; have BK577 := n3_; have HB := n4_; clear n0_ n1_ n2_ n3_ n4_; (try clear hb); (try clear hb2); (try clear hk); (try clear hi); (try clear ho0); have hcz26_0 : w25.cell? ⟨gb577, 0, none⟩ = some (.slice A0_0 l0_0.length c0_0) := (blk_cell BK577.out 0).trans rfl; have hcz26_1 : w25.cell? ⟨gb577, 1, none⟩ = some (.slice A0_1 l0_1.length c0_1) := (blk_cell BK577.out 1).trans rfl; have hfz26_0 := blk_frozen BK577.out 0; have hfz26_1 := blk_frozen BK577.out 1) | ((with_reducible refine gate_callee (f := 13) rfl ?_); refine goesL_ (some 20) rfl rfl Try.func13 (by kernel_rfl) rfl #[.agg #[.slice A0_0 l0_0.length c0_0, .slice A0_1 l0_1.length c0_1]] rfl (by (try simp only [List.map_toArray, List.map_cons, List.map_nil]); first | done | rfl | (simp only [List.length_drop, List.length_take]; rfl)) ?_; (with_reducible refine (laws_toAlgebra.calls k _ _ l0_0 _ _ l0_1 t588 t591 _ ?side1 ?side2 ?side3 ?side4 A9.out).mono ?_); (case side1 => repeat (first | exact (Kd.C_below HR0_0.out HB.out) | (with_reducible refine Kd.C_alloc ?_ _) | (with_reducible refine Kd.C_drewN ?_ _) | (with_reducible refine Kd.C_drew ?_))); (case side2 => exact HC0_0.out); (case side3 => repeat (first | exact (Kd.C_below HR0_1.out HB.out) | (with_reducible refine Kd.C_alloc ?_ _) | (with_reducible refine Kd.C_drewN ?_ _) | (with_reducible refine Kd.C_drew ?_))); (case side4 => exact HC0_1.out); rintro e w27 ⟨v589, v592, rfl, ho0, ho1, hb⟩; refine ⟨_, rfl, ?_⟩; have n0_ := Aside0.mk (Kd.R_elder' (by (with_reducible repeat (first | apply Kd.R_alloc | apply Kd.R_drewN | apply Kd.R_drew)); exact HO581.out) (Kd.R_base ho0) hb); have n1_ := Aside0.mk (Kd.S_mono (Kd.S_told (Kd.S_told (Kd.S_old (by (with_reducible repeat (first | apply Kd.S_alloc | apply Kd.S_drewN | apply Kd.S_drew)); exact HO584.out) hb) (Kd.R_base ho0)) (Kd.S_base ho1)) (fun _ h_ => h_.1)); have n2_ := Aside0.mk (Kd.R_elder' (by (with_reducible repeat (first | apply Kd.R_alloc | apply Kd.R_drewN | apply Kd.R_drew)); exact HO587.out) (Kd.R_base ho0) hb); have n3_ := Aside0.mk (Kd.R_lower (Kd.R_new' (Kd.R_new' ho0 (Kd.R_lt (by (with_reducible repeat (first | apply Kd.R_alloc | apply Kd.R_drewN | apply Kd.R_drew)); exact HO581.out))) (Kd.R_lt (by (with_reducible repeat (first | apply Kd.R_alloc | apply Kd.R_drewN | apply Kd.R_drew)); exact HO587.out))) (below_size (by repeat (first | (with_reducible first | exact HB.out | apply below_alloc | apply pw_below_drewN | apply below_drew1 | refine below_set ?_ GE577.out) | exact HB.out)))); have n4_ := Aside0.mk (Kd.S_lower (Kd.S_new' (Kd.S_new' (Kd.S_new' ho1 (Kd.R_lt (by (with_reducible repeat (first | apply Kd.R_alloc | apply Kd.R_drewN | apply Kd.R_drew)); exact HO581.out))) (Kd.S_lt (by (with_reducible repeat (first | apply Kd.S_alloc | apply Kd.S_drewN | apply Kd.S_drew)); exact HO584.out))) (Kd.R_lt (by (with_reducible repeat (first | apply Kd.R_alloc | apply Kd.R_drewN | apply Kd.R_drew)); exact HO587.out))) (below_size (by repeat (first | (with_reducible first | exact HB.out | apply below_alloc | apply pw_below_drewN | apply below_drew1 | refine below_set ?_ GE577.out) | exact HB.out)))); have n5_ := Aside0.mk (blk_below (g := gb577) (o := .cells #[.slice A0_0 l0_0.length c0_0, .slice A0_1 l0_1.length c0_1] 25 (0, 0)) (by (with_reducible repeat (first | refine blk_drewN ?_ _ | refine blk_drew ?_ | refine blk_alloc ?_ _)); exact BK577.out) hb); have n6_ := Aside0.mk (below_step (by repeat (first | (with_reducible first | exact HB.out | apply below_alloc | apply pw_below_drewN | apply below_drew1 | refine below_set ?_ GE577.out) | exact HB.out)) hb); clear HO581; clear HO584; clear HO587; clear BK577; clear HB; have HO581 := n0_; have HO584 := n1_; have HO587 := n2_; have HO590 := n3_; have HO593 := n4_; have BK577 := n5_; have HB := n6_; clear n0_ n1_ n2_ n3_ n4_ n5_ n6_; (try clear hb); (try clear hb2); (try clear hk); (try clear hi); (try clear ho0); (try clear ho1)) | ((with_reducible refine gate_dst (N := 5) rfl ?_); refine box_event ?hg (N := 5) ?hd (cs := #[.slice none 0 0, .slice none 0 0]) (t := 28) ?hr ?_; (case hd => rfl); (case hg => rfl); (case hr => first | (go_simp; done) | (go_simp; rfl)); intro gb594 hg w28 hbox hb; have n0_ := Aside0.mk (Kd.R_below (by (with_reducible repeat (first | apply Kd.R_alloc | apply Kd.R_drewN | apply Kd.R_drew)); exact HO581.out) hb); have n1_ := Aside0.mk (Kd.S_below (by (with_reducible repeat (first | apply Kd.S_alloc | apply Kd.S_drewN | apply Kd.S_drew)); exact HO584.out) hb); have n2_ := Aside0.mk (Kd.R_below (by (with_reducible repeat (first | apply Kd.R_alloc | apply Kd.R_drewN | apply Kd.R_drew)); exact HO587.out) hb); have n3_ := Aside0.mk (Kd.R_below (by (with_reducible repeat (first | apply Kd.R_alloc | apply Kd.R_drewN | apply Kd.R_drew)); exact HO590.out) hb); have n4_ := Aside0.mk (Kd.S_below (by (with_reducible repeat (first | apply Kd.S_alloc | apply Kd.S_drewN | apply Kd.S_drew)); exact HO593.out) hb); have n5_ := Aside0.mk (blk_below (g := gb577) (o := .cells #[.slice A0_0 l0_0.length c0_0, .slice A0_1 l0_1.length c0_1] 25 (0, 0)) (by (with_reducible repeat (first | refine blk_drewN ?_ _ | refine blk_drew ?_ | refine blk_alloc ?_ _)); exact BK577.out) hb); have n6_ := Aside0.mk (below_step (by repeat (first | (with_reducible first | exact HB.out | apply below_alloc | apply pw_below_drewN | apply below_drew1 | refine below_set ?_ GE577.out) | exact HB.out)) hb); have n7_ := Aside0.mk (hbox); have n8_ := Aside0.mk ((by rw [hg]; exact (below_size (by repeat (first | (with_reducible first | exact HB.out | apply below_alloc | apply pw_below_drewN | apply below_drew1 | refine below_set ?_ GE577.out) | exact HB.out))) : w.heap.size ≤ gb594)); have n9_ := Aside0.mk ((by rw [hg]; exact (below_size (by repeat (first | (with_reducible first | exact HB.out | apply below_alloc | apply pw_below_drewN | apply below_drew1 | refine below_set ?_ GE577.out) | exact HB.out))) : w.heap.size ≤ gb594)); have n10_ := Aside0.mk ((by rw [hg]; exact Nat.ne_of_lt (blk_lt (g := gb577) (o := .cells #[.slice A0_0 l0_0.length c0_0, .slice A0_1 l0_1.length c0_1] 25 (0, 0)) (by (with_reducible repeat (first | refine blk_drewN ?_ _ | refine blk_drew ?_ | refine blk_alloc ?_ _)); exact BK577.out)) : gb577 ≠ gb594)); have n11_ := Aside0.mk ((by rw [hg]; exact Nat.ne_of_gt (blk_lt (g := gb577) (o := .cells #[.slice A0_0 l0_0.length c0_0, .slice A0_1 l0_1.length c0_1] 25 (0, 0)) (by (with_reducible repeat (first | refine blk_drewN ?_ _ | refine blk_drew ?_ | refine blk_alloc ?_ _)); exact BK577.out)) : gb594 ≠ gb577)); clear HO581; clear HO584; clear HO587; clear HO590; clear HO593; clear BK577; clear HB; have HO581 := n0_; have HO584 := n1_; have HO587 := n2_; have HO590 := n3_; have HO593 := n4_; have BK577 := n5_; have HB := n6_; have BK594 := n7_; have GW594 := n8_; have GE594 := n9_; have NB577_594 := n10_; have NB594_577 := n11_; clear n0_ n1_ n2_ n3_ n4_ n5_ n6_ n7_ n8_ n9_ n10_ n11_; clear hb hbox hg; obtain ⟨Ao29, co29, eo29⟩ := Kd.R_slice HO590.out; subst eo29; have hnb30 := NB594_577.out; have hnc30 := NB577_594.out; have hcz31_0 : w28.cell? ⟨gb594, 0, none⟩ = some (.slice none 0 0) := (blk_cell BK594.out 0).trans rfl; have hcz31_1 : w28.cell? ⟨gb594, 1, none⟩ = some (.slice none 0 0) := (blk_cell BK594.out 1).trans rfl; have hfz31_0 := blk_frozen BK594.out 0; have hfz31_1 := blk_frozen BK594.out 1; obtain ⟨Ao32, co32, eo32⟩ := Kd.S_slice HO593.out; subst eo32) | ((with_reducible refine gate_callee (f := 25) rfl ?_); refine goesL_ (some 22) rfl rfl Try.func25 (by kernel_rfl) rfl #[.agg #[.slice Ao29 t588.length co29, .slice Ao32 t591.length co32]] rfl (by (try simp only [List.map_toArray, List.map_cons, List.map_nil]); first | done | rfl | (simp only [List.length_drop, List.length_take]; rfl)) ?_; (with_reducible refine (impl_GreatestFilters.calls k _ _ t588 _ _ t591 t595 _ ?side1 ?side2 ?side3 ?side4 A10.out).mono ?_); (case side1 => refine (Kd.R_reads' (e := 3) (base := w.heap.size) (ok := fun k_ => ((True ∧ some k_ ≠ (.slice Ao23 t579.length co23 : Value).ownBlock) ∧ some k_ ≠ (v586 : Value).ownBlock)) (n := t588.length) (c := co29) ?_).2.2; exact (by (with_reducible repeat (first | apply Kd.R_alloc | apply Kd.R_drewN | apply Kd.R_drew)); exact (Kd.R_mono (Kd.R_far (p := ⟨gb594, 1, none⟩) (Kd.R_far (p := ⟨gb594, 0, none⟩) (Kd.R_types HO590.out BK594.out (by decide)) (fun _ hk => hk.2) (.slice Ao29 t588.length co29)) (fun _ hk => hk.2) (.slice Ao32 t591.length co32)) (fun _ h_ => h_.1)))); (case side2 => exact (Kd.R_reads' HO590.out).2.1); (case side3 => refine (Kd.S_reads' (e := 22) (base := w.heap.size) (ok := fun k_ => (((some k_ ≠ (.slice Ao29 t588.length co29 : Value).ownBlock ∧ some k_ ≠ (.slice Ao23 t579.length co23 : Value).ownBlock) ∧ some k_ ≠ (.slice Ao24 t582.length co24 : Value).ownBlock) ∧ some k_ ≠ (v586 : Value).ownBlock)) (n := t591.length) (c := co32) ?_).2.2; exact (by (with_reducible repeat (first | apply Kd.S_alloc | apply Kd.S_drewN | apply Kd.S_drew)); exact (Kd.S_mono (Kd.S_far (p := ⟨gb594, 1, none⟩) (Kd.S_far (p := ⟨gb594, 0, none⟩) (Kd.S_types HO593.out BK594.out (by decide)) (fun _ hk => hk.2) (.slice Ao29 t588.length co29)) (fun _ hk => hk.2) (.slice Ao32 t591.length co32)) (fun _ h_ => h_.1)))); (case side4 => exact (Kd.S_reads' HO593.out).2.1); rintro e w33 ⟨v596, rfl, ho0, hb⟩; refine ⟨_, rfl, ?_⟩; have n0_ := Aside0.mk (Kd.R_elder' (by (with_reducible repeat (first | apply Kd.R_alloc | apply Kd.R_drewN | apply Kd.R_drew)); exact (Kd.R_mono (Kd.R_far (p := ⟨gb594, 1, none⟩) (Kd.R_far (p := ⟨gb594, 0, none⟩) (Kd.R_types HO581.out BK594.out (by decide)) (fun _ hk => hk.2) (.slice Ao29 t588.length co29)) (fun _ hk => hk.2) (.slice Ao32 t591.length co32)) (fun _ h_ => h_.1))) (Kd.R_base ho0) hb); have n1_ := Aside0.mk (Kd.S_elder' (by (with_reducible repeat (first | apply Kd.S_alloc | apply Kd.S_drewN | apply Kd.S_drew)); exact (Kd.S_mono (Kd.S_far (p := ⟨gb594, 1, none⟩) (Kd.S_far (p := ⟨gb594, 0, none⟩) (Kd.S_types HO584.out BK594.out (by decide)) (fun _ hk => hk.2) (.slice Ao29 t588.length co29)) (fun _ hk => hk.2) (.slice Ao32 t591.length co32)) (fun _ h_ => h_.1))) (Kd.R_base ho0) hb); have n2_ := Aside0.mk (Kd.R_elder' (by (with_reducible repeat (first | apply Kd.R_alloc | apply Kd.R_drewN | apply Kd.R_drew)); exact (Kd.R_mono (Kd.R_far (p := ⟨gb594, 1, none⟩) (Kd.R_far (p := ⟨gb594, 0, none⟩) (Kd.R_types HO587.out BK594.out (by decide)) (fun _ hk => hk.2) (.slice Ao29 t588.length co29)) (fun _ hk => hk.2) (.slice Ao32 t591.length co32)) (fun _ h_ => h_.1))) (Kd.R_base ho0) hb); have n3_ := Aside0.mk (Kd.R_elder' (by (with_reducible repeat (first | apply Kd.R_alloc | apply Kd.R_drewN | apply Kd.R_drew)); exact (Kd.R_mono (Kd.R_far (p := ⟨gb594, 1, none⟩) (Kd.R_far (p := ⟨gb594, 0, none⟩) (Kd.R_types HO590.out BK594.out (by decide)) (fun _ hk => hk.2) (.slice Ao29 t588.length co29)) (fun _ hk => hk.2) (.slice Ao32 t591.length co32)) (fun _ h_ => h_.1))) (Kd.R_base ho0) hb); have n4_ := Aside0.mk (Kd.S_elder' (by (with_reducible repeat (first | apply Kd.S_alloc | apply Kd.S_drewN | apply Kd.S_drew)); exact (Kd.S_mono (Kd.S_far (p := ⟨gb594, 1, none⟩) (Kd.S_far (p := ⟨gb594, 0, none⟩) (Kd.S_types HO593.out BK594.out (by decide)) (fun _ hk => hk.2) (.slice Ao29 t588.length co29)) (fun _ hk => hk.2) (.slice Ao32 t591.length co32)) (fun _ h_ => h_.1))) (Kd.R_base ho0) hb); have n5_ := Aside0.mk (Kd.R_lower (Kd.R_new' (Kd.R_new' (Kd.R_new' ho0 (Kd.R_lt (by (with_reducible repeat (first | apply Kd.R_alloc | apply Kd.R_drewN | apply Kd.R_drew)); exact (Kd.R_mono (Kd.R_far (p := ⟨gb594, 1, none⟩) (Kd.R_far (p := ⟨gb594, 0, none⟩) (Kd.R_types HO581.out BK594.out (by decide)) (fun _ hk => hk.2) (.slice Ao29 t588.length co29)) (fun _ hk => hk.2) (.slice Ao32 t591.length co32)) (fun _ h_ => h_.1))))) (Kd.R_lt (by (with_reducible repeat (first | apply Kd.R_alloc | apply Kd.R_drewN | apply Kd.R_drew)); exact (Kd.R_mono (Kd.R_far (p := ⟨gb594, 1, none⟩) (Kd.R_far (p := ⟨gb594, 0, none⟩) (Kd.R_types HO587.out BK594.out (by decide)) (fun _ hk => hk.2) (.slice Ao29 t588.length co29)) (fun _ hk => hk.2) (.slice Ao32 t591.length co32)) (fun _ h_ => h_.1))))) (Kd.R_lt (by (with_reducible repeat (first | apply Kd.R_alloc | apply Kd.R_drewN | apply Kd.R_drew)); exact (Kd.R_mono (Kd.R_far (p := ⟨gb594, 1, none⟩) (Kd.R_far (p := ⟨gb594, 0, none⟩) (Kd.R_types HO590.out BK594.out (by decide)) (fun _ hk => hk.2) (.slice Ao29 t588.length co29)) (fun _ hk => hk.2) (.slice Ao32 t591.length co32)) (fun _ h_ => h_.1))))) (below_size (by repeat (first | (with_reducible first | exact HB.out | apply below_alloc | apply pw_below_drewN | apply below_drew1 | refine below_set ?_ GE577.out | refine below_set ?_ GE594.out) | exact HB.out)))); have n6_ := Aside0.mk (blk_below (g := gb577) (o := .cells #[.slice A0_0 l0_0.length c0_0, .slice A0_1 l0_1.length c0_1] 25 (0, 0)) (by (with_reducible repeat (first | refine blk_drewN ?_ _ | refine blk_drew ?_ | refine blk_alloc ?_ _)); refine blk_far ?_ NB577_594.out _; (with_reducible repeat (first | refine blk_drewN ?_ _ | refine blk_drew ?_ | refine blk_alloc ?_ _)); refine blk_far ?_ NB577_594.out _; (with_reducible repeat (first | refine blk_drewN ?_ _ | refine blk_drew ?_ | refine blk_alloc ?_ _)); exact BK577.out) hb); have n7_ := Aside0.mk (blk_below (g := gb594) (o := .cells #[.slice Ao29 t588.length co29, .slice Ao32 t591.length co32] 28 (0, 0)) (by (with_reducible repeat (first | refine blk_drewN ?_ _ | refine blk_drew ?_ | refine blk_alloc ?_ _)); refine blk_put (cs := #[.slice Ao29 t588.length co29, .slice none 0 0]) ?_ 1 _ rfl; (with_reducible repeat (first | refine blk_drewN ?_ _ | refine blk_drew ?_ | refine blk_alloc ?_ _)); refine blk_put (cs := #[.slice none 0 0, .slice none 0 0]) ?_ 0 _ rfl; (with_reducible repeat (first | refine blk_drewN ?_ _ | refine blk_drew ?_ | refine blk_alloc ?_ _)); exact BK594.out) hb); have n8_ := Aside0.mk (below_step (by repeat (first | (with_reducible first | exact HB.out | apply below_alloc | apply pw_below_drewN | apply below_drew1 | refine below_set ?_ GE577.out | refine below_set ?_ GE594.out) | exact HB.out)) hb); clear HO581; clear HO584; clear HO587; clear HO590; clear HO593; clear BK577; clear BK594; clear HB; have HO581 := n0_; have HO584 := n1_; have HO587 := n2_; have HO590 := n3_; have HO593 := n4_; have HO597 := n5_; have BK577 := n6_; have BK594 := n7_; have HB := n8_; clear n0_ n1_ n2_ n3_ n4_ n5_ n6_ n7_ n8_; (try clear hb); (try clear hb2); (try clear hk); (try clear hi); (try clear ho0); obtain ⟨Ao34, co34, eo34⟩ := Kd.R_slice HO597.out; subst eo34; obtain ⟨Ao35, co35, eo35⟩ := Kd.R_slice HO587.out; subst eo35) | ((with_reducible refine gate_callee (f := 17) rfl ?_); refine goesL_ (some 25) rfl rfl Try.func17 (by kernel_rfl) rfl #[.slice Ao34 t595.length co34, .slice Ao35 t585.length co35] rfl (by (try simp only [List.map_toArray, List.map_cons, List.map_nil]); first | done | rfl | (simp only [List.length_drop, List.length_take]; rfl)) ?_; (with_reducible refine (laws_eqIntS.calls k _ _ t595 _ _ t585 true _ ?side1 ?side2 ?side3 ?side4 A11.out).mono ?_); (case side1 => repeat (first | exact (Kd.R_reads' HO597.out).2.2 | (with_reducible refine Kd.C_alloc ?_ _) | (with_reducible refine Kd.C_drewN ?_ _) | (with_reducible refine Kd.C_drew ?_))); (case side2 => exact (Kd.R_reads' HO597.out).2.1); (case side3 => repeat (first | exact (Kd.R_reads' HO587.out).2.2 | (with_reducible refine Kd.C_alloc ?_ _) | (with_reducible refine Kd.C_drewN ?_ _) | (with_reducible refine Kd.C_drew ?_))); (case side4 => exact (Kd.R_reads' HO587.out).2.1); rintro e w' ⟨rfl, ⟨nd, rfl⟩⟩; refine ⟨_, rfl, ?_⟩))
    iterate 3 (try (rw [drewN_self w33]; generalize hq_ : World.drewN w33 _ = w33; have n0_ : Aside0 (Kd.R (Kd.int .i64) 3 w33 w.heap.size (fun k_ => some k_ ≠ (.slice Ao35 t585.length co35 : Value).ownBlock ∧ some k_ ≠ (.slice Ao29 t588.length co29 : Value).ownBlock ∧ some k_ ≠ (.slice Ao34 t595.length co34 : Value).ownBlock) (.slice Ao23 t579.length co23) t579) := ⟨by rw [← hq_]; exact (by (with_reducible repeat (first | apply Kd.R_alloc | apply Kd.R_drewN | apply Kd.R_drew)); exact Kd.R_mono HO581.out (fun _ hk => ⟨hk.1.1.2, ⟨hk.1.2, hk.2⟩⟩))⟩; have n1_ : Aside0 (Kd.S (Kd.slice 3 (Kd.int .i64)) 22 w33 w.heap.size (fun k_ => some k_ ≠ (.slice Ao23 t579.length co23 : Value).ownBlock ∧ some k_ ≠ (.slice Ao35 t585.length co35 : Value).ownBlock ∧ some k_ ≠ (.slice Ao29 t588.length co29 : Value).ownBlock ∧ some k_ ≠ (.slice Ao32 t591.length co32 : Value).ownBlock ∧ some k_ ≠ (.slice Ao34 t595.length co34 : Value).ownBlock) (.slice Ao24 t582.length co24) t582) := ⟨by rw [← hq_]; exact (by (with_reducible repeat (first | apply Kd.S_alloc | apply Kd.S_drewN | apply Kd.S_drew)); exact Kd.S_mono HO584.out (fun _ hk => ⟨hk.1.1.1.1, ⟨hk.1.1.1.2, ⟨hk.1.1.2, ⟨hk.1.2, hk.2⟩⟩⟩⟩))⟩; have n2_ : Aside0 (Kd.R (Kd.int .i64) 3 w33 w.heap.size (fun k_ => some k_ ≠ (.slice Ao23 t579.length co23 : Value).ownBlock ∧ some k_ ≠ (.slice Ao29 t588.length co29 : Value).ownBlock ∧ some k_ ≠ (.slice Ao34 t595.length co34 : Value).ownBlock) (.slice Ao35 t585.length co35) t585) := ⟨by rw [← hq_]; exact (by (with_reducible repeat (first | apply Kd.R_alloc | apply Kd.R_drewN | apply Kd.R_drew)); exact Kd.R_mono HO587.out (fun _ hk => ⟨hk.1.1.2, ⟨hk.1.2, hk.2⟩⟩))⟩; have n3_ : Aside0 (Kd.R (Kd.int .i64) 3 w33 w.heap.size (fun k_ => some k_ ≠ (.slice Ao23 t579.length co23 : Value).ownBlock ∧ some k_ ≠ (.slice Ao35 t585.length co35 : Value).ownBlock ∧ some k_ ≠ (.slice Ao34 t595.length co34 : Value).ownBlock) (.slice Ao29 t588.length co29) t588) := ⟨by rw [← hq_]; exact (by (with_reducible repeat (first | apply Kd.R_alloc | apply Kd.R_drewN | apply Kd.R_drew)); exact Kd.R_mono HO590.out (fun _ hk => ⟨hk.1.1.2, ⟨hk.1.2, hk.2⟩⟩))⟩; have n4_ : Aside0 (Kd.S (Kd.slice 3 (Kd.int .i64)) 22 w33 w.heap.size (fun k_ => some k_ ≠ (.slice Ao23 t579.length co23 : Value).ownBlock ∧ some k_ ≠ (.slice Ao24 t582.length co24 : Value).ownBlock ∧ some k_ ≠ (.slice Ao35 t585.length co35 : Value).ownBlock ∧ some k_ ≠ (.slice Ao29 t588.length co29 : Value).ownBlock ∧ some k_ ≠ (.slice Ao34 t595.length co34 : Value).ownBlock) (.slice Ao32 t591.length co32) t591) := ⟨by rw [← hq_]; exact (by (with_reducible repeat (first | apply Kd.S_alloc | apply Kd.S_drewN | apply Kd.S_drew)); exact Kd.S_mono HO593.out (fun _ hk => ⟨hk.1.1.1.2, ⟨hk.1.1.2, ⟨hk.1.2, ⟨hk.1.1.1.1, hk.2⟩⟩⟩⟩))⟩; have n5_ : Aside0 (Kd.R (Kd.int .i64) 3 w33 w.heap.size (fun k_ => some k_ ≠ (.slice Ao23 t579.length co23 : Value).ownBlock ∧ some k_ ≠ (.slice Ao35 t585.length co35 : Value).ownBlock ∧ some k_ ≠ (.slice Ao29 t588.length co29 : Value).ownBlock) (.slice Ao34 t595.length co34) t595) := ⟨by rw [← hq_]; exact (by (with_reducible repeat (first | apply Kd.R_alloc | apply Kd.R_drewN | apply Kd.R_drew)); exact Kd.R_mono HO597.out (fun _ hk => ⟨hk.1.1.2, ⟨hk.1.2, hk.2⟩⟩))⟩; have n6_ : Aside0 (w33.heap[gb577]? = some (.cells #[.slice A0_0 l0_0.length c0_0, .slice A0_1 l0_1.length c0_1] 25 (0, 0))) := ⟨by rw [← hq_]; exact (by (with_reducible repeat (first | refine blk_drewN ?_ _ | refine blk_drew ?_ | refine blk_alloc ?_ _)); exact BK577.out)⟩; have n7_ : Aside0 (w33.heap[gb594]? = some (.cells #[.slice Ao29 t588.length co29, .slice Ao32 t591.length co32] 28 (0, 0))) := ⟨by rw [← hq_]; exact (by (with_reducible repeat (first | refine blk_drewN ?_ _ | refine blk_drew ?_ | refine blk_alloc ?_ _)); exact BK594.out)⟩; have n8_ : Aside0 (Below w.heap.size w w33) := ⟨by rw [← hq_]; exact (by repeat (first | (with_reducible first | exact HB.out | apply below_alloc | apply pw_below_drewN | apply below_drew1 | refine below_set ?_ GE577.out | refine below_set ?_ GE594.out) | exact HB.out))⟩; clear HO581 HO584 HO587 HO590 HO593 HO597 BK577 BK594 HB hq_; have HO581 := n0_; have HO584 := n1_; have HO587 := n2_; have HO590 := n3_; have HO593 := n4_; have HO597 := n5_; have BK577 := n6_; have BK594 := n7_; have HB := n8_; clear n0_ n1_ n2_ n3_ n4_ n5_ n6_ n7_ n8_))
    have n0_ := Aside0.mk (Kd.R_drew HO581.out)
    have n1_ := Aside0.mk (Kd.S_drew HO584.out)
    have n2_ := Aside0.mk (Kd.R_drew HO587.out)
    have n3_ := Aside0.mk (Kd.R_drew HO590.out)
    have n4_ := Aside0.mk (Kd.S_drew HO593.out)
    have n5_ := Aside0.mk (Kd.R_drew HO597.out)
    have n6_ := Aside0.mk (blk_drew BK577.out)
    have n7_ := Aside0.mk (blk_drew BK594.out)
    have n8_ := Aside0.mk (below_drew1 HB.out)
    clear HO581
    clear HO584
    clear HO587
    clear HO590
    clear HO593
    clear HO597
    clear BK577
    clear BK594
    clear HB
    have HO581 := n0_
    have HO584 := n1_
    have HO587 := n2_
    have HO590 := n3_
    have HO593 := n4_
    have HO597 := n5_
    have BK577 := n6_
    have BK594 := n7_
    have HB := n8_
    clear n0_ n1_ n2_ n3_ n4_ n5_ n6_ n7_ n8_
    refine start_ (n := 5) (S := fun w' => w'.cell? ⟨gb594, 0, none⟩ = some (.slice Ao29 t588.length co29) ∧ w'.cell? ⟨gb594, 1, none⟩ = some (.slice Ao32 t591.length co32) ∧ w'.cell? ⟨gb577, 0, none⟩ = some (.slice A0_0 l0_0.length c0_0) ∧ w'.cell? ⟨gb577, 1, none⟩ = some (.slice A0_1 l0_1.length c0_1)) (ds := []) #[false, false, false, false, false] (by kernel_rfl) rfl rfl ⟨(blk_cell BK594.out 0).trans rfl, (blk_cell BK594.out 1).trans rfl, (blk_cell BK577.out 0).trans rfl, (blk_cell BK577.out 1).trans rfl⟩ (fun hHeld => ?_)
    generalize w33.drew = w36 at HO581 HO584 HO587 HO590 HO593 HO597 BK577 BK594 HB hHeld ⊢
    refine take_ (i := 0) (N := some 27) (v := ?_) (a' := ?_) #[true, false, false, false, false] rfl rfl (by kernel_rfl) (fun _ _ _ h => h) (Or.inl ⟨by rfl, ?_⟩) hHeld ?_ ?_
    rotate_left
    ·rintro w' ⟨s0, s1, s2, s3⟩
     go_simp
     with_reducible rfl
    rotate_left
    ·simp only [Act.put, List.setIfInBounds_toArray, List.set_cons_zero, List.set_cons_succ, i64_w, i32_w]
     rfl
    refine take_ (i := 1) (N := some 28) (v := ?_) (a' := ?_) #[true, true, false, false, false] rfl rfl (by kernel_rfl) (fun _ _ _ h => h) (Or.inl ⟨by rfl, ?_⟩) hHeld ?_ ?_
    rotate_left
    ·rintro w' ⟨s0, s1, s2, s3⟩
     go_simp
     with_reducible rfl
    rotate_left
    ·simp only [Act.put, List.setIfInBounds_toArray, List.set_cons_zero, List.set_cons_succ, i64_w, i32_w]
     rfl
    refine one_ (i := 2) (N := some 29) #[true, true, true, false, false] rfl rfl (by kernel_rfl) (by decide) (fun K hK => ?_)
    refine goes_ Try.func13 (by kernel_rfl) rfl #[.agg #[.slice A0_0 l0_0.length c0_0, .slice A0_1 l0_1.length c0_1]] (by rfl) rfl rfl (by (try simp only [List.map_toArray, List.map_cons, List.map_nil]); first | done | rfl | (simp only [List.length_drop, List.length_take]; rfl)) ?_
    with_reducible refine (laws_toAlgebra.calls k _ _ l0_0 _ _ l0_1 t599 t602 _ ?side1 ?side2 ?side3 ?side4 A13.out).mono ?_
    (case side1 => repeat (first | exact (Kd.C_below HR0_0.out HB.out) | (with_reducible refine Kd.C_alloc ?_ _) | (with_reducible refine Kd.C_drewN ?_ _) | (with_reducible refine Kd.C_drew ?_)))
    (case side2 => exact HC0_0.out)
    (case side3 => repeat (first | exact (Kd.C_below HR0_1.out HB.out) | (with_reducible refine Kd.C_alloc ?_ _) | (with_reducible refine Kd.C_drewN ?_ _) | (with_reducible refine Kd.C_drew ?_)))
    (case side4 => exact HC0_1.out)
    rintro e w37 ⟨v600, v603, rfl, ho0, ho1, hb⟩
    refine ⟨_, rfl, ?_⟩
    have n0_ := Aside0.mk (Kd.R_elder' (by (with_reducible repeat (first | apply Kd.R_alloc | apply Kd.R_drewN | apply Kd.R_drew)); exact HO581.out) (Kd.R_base ho0) hb)
    have n1_ := Aside0.mk (Kd.S_mono (Kd.S_told (Kd.S_told (Kd.S_old (by (with_reducible repeat (first | apply Kd.S_alloc | apply Kd.S_drewN | apply Kd.S_drew)); exact HO584.out) hb) (Kd.R_base ho0)) (Kd.S_base ho1)) (fun _ h_ => h_.1))
    have n2_ := Aside0.mk (Kd.R_elder' (by (with_reducible repeat (first | apply Kd.R_alloc | apply Kd.R_drewN | apply Kd.R_drew)); exact HO587.out) (Kd.R_base ho0) hb)
    have n3_ := Aside0.mk (Kd.R_elder' (by (with_reducible repeat (first | apply Kd.R_alloc | apply Kd.R_drewN | apply Kd.R_drew)); exact HO590.out) (Kd.R_base ho0) hb)
    have n4_ := Aside0.mk (Kd.S_mono (Kd.S_told (Kd.S_told (Kd.S_old (by (with_reducible repeat (first | apply Kd.S_alloc | apply Kd.S_drewN | apply Kd.S_drew)); exact HO593.out) hb) (Kd.R_base ho0)) (Kd.S_base ho1)) (fun _ h_ => h_.1))
    have n5_ := Aside0.mk (Kd.R_elder' (by (with_reducible repeat (first | apply Kd.R_alloc | apply Kd.R_drewN | apply Kd.R_drew)); exact HO597.out) (Kd.R_base ho0) hb)
    have n6_ := Aside0.mk (Kd.R_lower (Kd.R_new' (Kd.R_new' (Kd.R_new' (Kd.R_new' ho0 (Kd.R_lt (by (with_reducible repeat (first | apply Kd.R_alloc | apply Kd.R_drewN | apply Kd.R_drew)); exact HO581.out))) (Kd.R_lt (by (with_reducible repeat (first | apply Kd.R_alloc | apply Kd.R_drewN | apply Kd.R_drew)); exact HO587.out))) (Kd.R_lt (by (with_reducible repeat (first | apply Kd.R_alloc | apply Kd.R_drewN | apply Kd.R_drew)); exact HO590.out))) (Kd.R_lt (by (with_reducible repeat (first | apply Kd.R_alloc | apply Kd.R_drewN | apply Kd.R_drew)); exact HO597.out))) (below_size (by repeat (first | (with_reducible first | exact HB.out | apply below_alloc | apply pw_below_drewN | apply below_drew1 | refine below_set ?_ GE577.out | refine below_set ?_ GE594.out) | exact HB.out))))
    have n7_ := Aside0.mk (Kd.S_lower (Kd.S_new' (Kd.S_new' (Kd.S_new' (Kd.S_new' (Kd.S_new' (Kd.S_new' ho1 (Kd.R_lt (by (with_reducible repeat (first | apply Kd.R_alloc | apply Kd.R_drewN | apply Kd.R_drew)); exact HO581.out))) (Kd.S_lt (by (with_reducible repeat (first | apply Kd.S_alloc | apply Kd.S_drewN | apply Kd.S_drew)); exact HO584.out))) (Kd.R_lt (by (with_reducible repeat (first | apply Kd.R_alloc | apply Kd.R_drewN | apply Kd.R_drew)); exact HO587.out))) (Kd.R_lt (by (with_reducible repeat (first | apply Kd.R_alloc | apply Kd.R_drewN | apply Kd.R_drew)); exact HO590.out))) (Kd.S_lt (by (with_reducible repeat (first | apply Kd.S_alloc | apply Kd.S_drewN | apply Kd.S_drew)); exact HO593.out))) (Kd.R_lt (by (with_reducible repeat (first | apply Kd.R_alloc | apply Kd.R_drewN | apply Kd.R_drew)); exact HO597.out))) (below_size (by repeat (first | (with_reducible first | exact HB.out | apply below_alloc | apply pw_below_drewN | apply below_drew1 | refine below_set ?_ GE577.out | refine below_set ?_ GE594.out) | exact HB.out))))
    have n8_ := Aside0.mk (blk_below (g := gb577) (o := .cells #[.slice A0_0 l0_0.length c0_0, .slice A0_1 l0_1.length c0_1] 25 (0, 0)) (by (with_reducible repeat (first | refine blk_drewN ?_ _ | refine blk_drew ?_ | refine blk_alloc ?_ _)); exact BK577.out) hb)
    have n9_ := Aside0.mk (blk_below (g := gb594) (o := .cells #[.slice Ao29 t588.length co29, .slice Ao32 t591.length co32] 28 (0, 0)) (by (with_reducible repeat (first | refine blk_drewN ?_ _ | refine blk_drew ?_ | refine blk_alloc ?_ _)); exact BK594.out) hb)
    have n10_ := Aside0.mk (below_step (by repeat (first | (with_reducible first | exact HB.out | apply below_alloc | apply pw_below_drewN | apply below_drew1 | refine below_set ?_ GE577.out | refine below_set ?_ GE594.out) | exact HB.out)) hb)
    clear HO581
    clear HO584
    clear HO587
    clear HO590
    clear HO593
    clear HO597
    clear BK577
    clear BK594
    clear HB
    have HO581 := n0_
    have HO584 := n1_
    have HO587 := n2_
    have HO590 := n3_
    have HO593 := n4_
    have HO597 := n5_
    have HO601 := n6_
    have HO604 := n7_
    have BK577 := n8_
    have BK594 := n9_
    have HB := n10_
    clear n0_ n1_ n2_ n3_ n4_ n5_ n6_ n7_ n8_ n9_ n10_
    (try clear hb)
    (try clear hb2)
    (try clear hk)
    (try clear hi)
    (try clear ho0)
    (try clear ho1)
    obtain ⟨Ao38, co38, eo38⟩ := Kd.R_slice HO601.out
    (first | subst eo38 | (injection eo38 with f1_ f2_ f3_; have f4_ := f1_.symm; have f5_ := f3_.symm; clear f1_ f2_ f3_; subst f4_; subst f5_))
    obtain ⟨Ao39, co39, eo39⟩ := Kd.S_slice HO604.out
    (first | subst eo39 | (injection eo39 with f1_ f2_ f3_; have f4_ := f1_.symm; have f5_ := f3_.symm; clear f1_ f2_ f3_; subst f4_; subst f5_))
    refine hK.out _ _ ⟨(blk_cell BK594.out 0).trans rfl, (blk_cell BK594.out 1).trans rfl, (blk_cell BK577.out 0).trans rfl, (blk_cell BK577.out 1).trans rfl⟩ (fun hHeld => ?_)
    clear hK K
    refine norm_ (a' := ?_) ?_ ?_
    rotate_left
    ·show Act.put _ (some 29) _ = _
     simp only [Act.put, List.setIfInBounds_toArray, List.set_cons_zero, List.set_cons_succ, i64_w, i32_w]
     rfl
    refine one_ (i := 3) (N := some 30) #[true, true, true, true, false] rfl rfl (by kernel_rfl) (by decide) (fun K hK => ?_)
    refine goes_ Try.func16 (by kernel_rfl) rfl #[.agg #[.slice Ao29 t588.length co29, .slice Ao32 t591.length co32], .agg #[.slice Ao38 t599.length co38, .slice Ao39 t602.length co39]] (by rfl) rfl rfl (by (try simp only [List.map_toArray, List.map_cons, List.map_nil]); first | done | rfl | (simp only [List.length_drop, List.length_take]; rfl)) ?_
    with_reducible refine (laws_eqAlgebra.calls k _ _ t588 _ _ t591 _ _ t599 _ _ t602 true _ ?side1 ?side2 ?side3 ?side4 ?side5 ?side6 ?side7 ?side8 A14.out).mono ?_
    (case side1 => repeat (first | exact (Kd.R_reads' HO590.out).2.2 | (with_reducible refine Kd.C_alloc ?_ _) | (with_reducible refine Kd.C_drewN ?_ _) | (with_reducible refine Kd.C_drew ?_)))
    (case side2 => exact (Kd.R_reads' HO590.out).2.1)
    (case side3 => repeat (first | exact (Kd.S_reads' HO593.out).2.2 | (with_reducible refine Kd.C_alloc ?_ _) | (with_reducible refine Kd.C_drewN ?_ _) | (with_reducible refine Kd.C_drew ?_)))
    (case side4 => exact (Kd.S_reads' HO593.out).2.1)
    (case side5 => repeat (first | exact (Kd.R_reads' HO601.out).2.2 | (with_reducible refine Kd.C_alloc ?_ _) | (with_reducible refine Kd.C_drewN ?_ _) | (with_reducible refine Kd.C_drew ?_)))
    (case side6 => exact (Kd.R_reads' HO601.out).2.1)
    (case side7 => repeat (first | exact (Kd.S_reads' HO604.out).2.2 | (with_reducible refine Kd.C_alloc ?_ _) | (with_reducible refine Kd.C_drewN ?_ _) | (with_reducible refine Kd.C_drew ?_)))
    (case side8 => exact (Kd.S_reads' HO604.out).2.1)
    rintro e w40 ⟨rfl, hb⟩
    refine ⟨_, rfl, ?_⟩
    have n0_ := Aside0.mk (Kd.R_below (by (with_reducible repeat (first | apply Kd.R_alloc | apply Kd.R_drewN | apply Kd.R_drew)); exact HO581.out) hb)
    have n1_ := Aside0.mk (Kd.S_below (by (with_reducible repeat (first | apply Kd.S_alloc | apply Kd.S_drewN | apply Kd.S_drew)); exact HO584.out) hb)
    have n2_ := Aside0.mk (Kd.R_below (by (with_reducible repeat (first | apply Kd.R_alloc | apply Kd.R_drewN | apply Kd.R_drew)); exact HO587.out) hb)
    have n3_ := Aside0.mk (Kd.R_below (by (with_reducible repeat (first | apply Kd.R_alloc | apply Kd.R_drewN | apply Kd.R_drew)); exact HO590.out) hb)
    have n4_ := Aside0.mk (Kd.S_below (by (with_reducible repeat (first | apply Kd.S_alloc | apply Kd.S_drewN | apply Kd.S_drew)); exact HO593.out) hb)
    have n5_ := Aside0.mk (Kd.R_below (by (with_reducible repeat (first | apply Kd.R_alloc | apply Kd.R_drewN | apply Kd.R_drew)); exact HO597.out) hb)
    have n6_ := Aside0.mk (Kd.R_below (by (with_reducible repeat (first | apply Kd.R_alloc | apply Kd.R_drewN | apply Kd.R_drew)); exact HO601.out) hb)
    have n7_ := Aside0.mk (Kd.S_below (by (with_reducible repeat (first | apply Kd.S_alloc | apply Kd.S_drewN | apply Kd.S_drew)); exact HO604.out) hb)
    have n8_ := Aside0.mk (blk_below (g := gb577) (o := .cells #[.slice A0_0 l0_0.length c0_0, .slice A0_1 l0_1.length c0_1] 25 (0, 0)) (by (with_reducible repeat (first | refine blk_drewN ?_ _ | refine blk_drew ?_ | refine blk_alloc ?_ _)); exact BK577.out) hb)
    have n9_ := Aside0.mk (blk_below (g := gb594) (o := .cells #[.slice Ao29 t588.length co29, .slice Ao32 t591.length co32] 28 (0, 0)) (by (with_reducible repeat (first | refine blk_drewN ?_ _ | refine blk_drew ?_ | refine blk_alloc ?_ _)); exact BK594.out) hb)
    have n10_ := Aside0.mk (below_step (by repeat (first | (with_reducible first | exact HB.out | apply below_alloc | apply pw_below_drewN | apply below_drew1 | refine below_set ?_ GE577.out | refine below_set ?_ GE594.out) | exact HB.out)) hb)
    clear HO581
    clear HO584
    clear HO587
    clear HO590
    clear HO593
    clear HO597
    clear HO601
    clear HO604
    clear BK577
    clear BK594
    clear HB
    have HO581 := n0_
    have HO584 := n1_
    have HO587 := n2_
    have HO590 := n3_
    have HO593 := n4_
    have HO597 := n5_
    have HO601 := n6_
    have HO604 := n7_
    have BK577 := n8_
    have BK594 := n9_
    have HB := n10_
    clear n0_ n1_ n2_ n3_ n4_ n5_ n6_ n7_ n8_ n9_ n10_
    (try clear hb)
    (try clear hb2)
    (try clear hk)
    (try clear hi)
    refine hK.out _ _ ⟨(blk_cell BK594.out 0).trans rfl, (blk_cell BK594.out 1).trans rfl, (blk_cell BK577.out 0).trans rfl, (blk_cell BK577.out 1).trans rfl⟩ (fun hHeld => ?_)
    clear hK K
    refine norm_ (a' := ?_) ?_ ?_
    rotate_left
    ·show Act.put _ (some 30) _ = _
     simp only [Act.put, List.setIfInBounds_toArray, List.set_cons_zero, List.set_cons_succ, i64_w, i32_w]
     rfl
    refine pure_ (i := 4) (N := some 31) (v := ?_) (a' := ?_) #[true, true, true, true, true] rfl rfl (by kernel_rfl) (fun _ _ _ h => h) (Or.inl ⟨by rfl, ?_⟩) ?_ ?_
    rotate_left
    ·intro w'
     go_simp
     with_reducible rfl
    rotate_left
    ·simp only [Act.put, List.setIfInBounds_toArray, List.set_cons_zero, List.set_cons_succ, i64_w, i32_w]
     rfl
    refine done_ (by kernel_rfl) ?_
    have hcz41_0 : w40.cell? ⟨gb594, 0, none⟩ = some (.slice Ao29 t588.length co29) := (blk_cell BK594.out 0).trans rfl
    have hcz41_1 : w40.cell? ⟨gb594, 1, none⟩ = some (.slice Ao32 t591.length co32) := (blk_cell BK594.out 1).trans rfl
    have hfz41_0 := blk_frozen BK594.out 0
    have hfz41_1 := blk_frozen BK594.out 1
    go_upto_region 14 with (first | ((with_reducible refine gate_callee (f := 26) rfl ?_); refine goesL_ (some 34) rfl rfl Try.func26 (by kernel_rfl) rfl #[.agg #[.slice Ao29 t588.length co29, .slice Ao32 t591.length co32], .int .i64 1] rfl (by (try simp only [List.map_toArray, List.map_cons, List.map_nil]); first | done | rfl | (simp only [List.length_drop, List.length_take]; rfl)) ?_; (with_reducible refine (laws_markAlgebra.calls k (fun k_ => some k_ ≠ (.slice Ao23 t579.length co23 : Value).ownBlock ∧ some k_ ≠ (.slice Ao35 t585.length co35 : Value).ownBlock ∧ some k_ ≠ (.slice Ao34 t595.length co34 : Value).ownBlock ∧ some k_ ≠ (.slice Ao38 t599.length co38 : Value).ownBlock ∧ k_ ≠ gb577 ∧ k_ ≠ gb594 ∧ True) (.slice Ao29 t588.length co29) t588 (fun k_ => some k_ ≠ (.slice Ao29 t588.length co29 : Value).ownBlock ∧ some k_ ≠ (.slice Ao23 t579.length co23 : Value).ownBlock ∧ some k_ ≠ (.slice Ao35 t585.length co35 : Value).ownBlock ∧ some k_ ≠ (.slice Ao34 t595.length co34 : Value).ownBlock ∧ some k_ ≠ (.slice Ao38 t599.length co38 : Value).ownBlock ∧ k_ ≠ gb577 ∧ k_ ≠ gb594 ∧ True) (.slice Ao32 t591.length co32) t591 1 t606 w _ ?side1 ?side2 ?side3 ?side4 A16.out).mono ?_); (case side1 => repeat (first | (with_reducible first | exact HB.out | apply below_alloc | apply pw_below_drewN | apply below_drew1 | refine below_set ?_ GE577.out | refine below_set ?_ GE594.out) | exact HB.out)); (case side2 => exact Kd.R_mono (Kd.R_types (Kd.R_types (HO590.out) BK577.out (by decide)) BK594.out (by decide)) (fun k_ hk_ => by refine ⟨?_, ?_, ?_, ?_, ?_, ?_, trivial⟩ <;> first | exact hk_ | exact hk_.2.1 | exact hk_.2 | exact hk_.2.2.1 | exact hk_.2.2 | exact hk_.2.2.2.1 | exact hk_.2.2.2 | exact hk_.2.2.2.2.1 | exact hk_.2.2.2.2 | exact hk_.1 | exact hk_.1.2.1 | exact hk_.1.2 | exact hk_.1.2.2.1 | exact hk_.1.2.2 | exact hk_.1.2.2.2.1 | exact hk_.1.2.2.2 | exact hk_.1.2.2.2.2.1 | exact hk_.1.2.2.2.2 | exact hk_.1.1 | exact hk_.1.1.2.1 | exact hk_.1.1.2 | exact hk_.1.1.2.2.1 | exact hk_.1.1.2.2 | exact hk_.1.1.2.2.2.1 | exact hk_.1.1.2.2.2 | exact hk_.1.1.2.2.2.2.1 | exact hk_.1.1.2.2.2.2 | exact hk_.1.1.1 | exact hk_.1.1.1.2.1 | exact hk_.1.1.1.2 | exact hk_.1.1.1.2.2.1 | exact hk_.1.1.1.2.2 | exact hk_.1.1.1.2.2.2.1 | exact hk_.1.1.1.2.2.2 | exact hk_.1.1.1.2.2.2.2.1 | exact hk_.1.1.1.2.2.2.2 | exact hk_.1.1.1.1 | exact hk_.1.1.1.1.2.1 | exact hk_.1.1.1.1.2 | exact hk_.1.1.1.1.2.2.1 | exact hk_.1.1.1.1.2.2 | exact hk_.1.1.1.1.2.2.2.1 | exact hk_.1.1.1.1.2.2.2 | exact hk_.1.1.1.1.2.2.2.2.1 | exact hk_.1.1.1.1.2.2.2.2 | exact hk_.1.1.1.1.1 | exact hk_.1.1.1.1.1.2.1 | exact hk_.1.1.1.1.1.2 | exact hk_.1.1.1.1.1.2.2.1 | exact hk_.1.1.1.1.1.2.2 | exact hk_.1.1.1.1.1.2.2.2.1 | exact hk_.1.1.1.1.1.2.2.2 | exact hk_.1.1.1.1.1.2.2.2.2.1 | exact hk_.1.1.1.1.1.2.2.2.2 | exact hk_.1.1.1.1.1.1 | exact hk_.1.1.1.1.1.1.2.1 | exact hk_.1.1.1.1.1.1.2 | exact hk_.1.1.1.1.1.1.2.2.1 | exact hk_.1.1.1.1.1.1.2.2 | exact hk_.1.1.1.1.1.1.2.2.2.1 | exact hk_.1.1.1.1.1.1.2.2.2 | exact hk_.1.1.1.1.1.1.2.2.2.2.1 | exact hk_.1.1.1.1.1.1.2.2.2.2 | exact hk_.1.1.1.1.1.1.1 | exact hk_.1.1.1.1.1.1.1.2.1 | exact hk_.1.1.1.1.1.1.1.2 | exact hk_.1.1.1.1.1.1.1.2.2.1 | exact hk_.1.1.1.1.1.1.1.2.2 | exact hk_.1.1.1.1.1.1.1.2.2.2.1 | exact hk_.1.1.1.1.1.1.1.2.2.2 | exact hk_.1.1.1.1.1.1.1.2.2.2.2.1 | exact hk_.1.1.1.1.1.1.1.2.2.2.2)); (case side3 => exact Kd.S_mono (Kd.S_types (Kd.S_types (HO593.out) BK577.out (by decide)) BK594.out (by decide)) (fun k_ hk_ => by refine ⟨?_, ?_, ?_, ?_, ?_, ?_, ?_, trivial⟩ <;> first | exact hk_ | exact hk_.2.1 | exact hk_.2 | exact hk_.2.2.1 | exact hk_.2.2 | exact hk_.2.2.2.1 | exact hk_.2.2.2 | exact hk_.2.2.2.2.1 | exact hk_.2.2.2.2 | exact hk_.1 | exact hk_.1.2.1 | exact hk_.1.2 | exact hk_.1.2.2.1 | exact hk_.1.2.2 | exact hk_.1.2.2.2.1 | exact hk_.1.2.2.2 | exact hk_.1.2.2.2.2.1 | exact hk_.1.2.2.2.2 | exact hk_.1.1 | exact hk_.1.1.2.1 | exact hk_.1.1.2 | exact hk_.1.1.2.2.1 | exact hk_.1.1.2.2 | exact hk_.1.1.2.2.2.1 | exact hk_.1.1.2.2.2 | exact hk_.1.1.2.2.2.2.1 | exact hk_.1.1.2.2.2.2 | exact hk_.1.1.1 | exact hk_.1.1.1.2.1 | exact hk_.1.1.1.2 | exact hk_.1.1.1.2.2.1 | exact hk_.1.1.1.2.2 | exact hk_.1.1.1.2.2.2.1 | exact hk_.1.1.1.2.2.2 | exact hk_.1.1.1.2.2.2.2.1 | exact hk_.1.1.1.2.2.2.2 | exact hk_.1.1.1.1 | exact hk_.1.1.1.1.2.1 | exact hk_.1.1.1.1.2 | exact hk_.1.1.1.1.2.2.1 | exact hk_.1.1.1.1.2.2 | exact hk_.1.1.1.1.2.2.2.1 | exact hk_.1.1.1.1.2.2.2 | exact hk_.1.1.1.1.2.2.2.2.1 | exact hk_.1.1.1.1.2.2.2.2 | exact hk_.1.1.1.1.1 | exact hk_.1.1.1.1.1.2.1 | exact hk_.1.1.1.1.1.2 | exact hk_.1.1.1.1.1.2.2.1 | exact hk_.1.1.1.1.1.2.2 | exact hk_.1.1.1.1.1.2.2.2.1 | exact hk_.1.1.1.1.1.2.2.2 | exact hk_.1.1.1.1.1.2.2.2.2.1 | exact hk_.1.1.1.1.1.2.2.2.2 | exact hk_.1.1.1.1.1.1 | exact hk_.1.1.1.1.1.1.2.1 | exact hk_.1.1.1.1.1.1.2 | exact hk_.1.1.1.1.1.1.2.2.1 | exact hk_.1.1.1.1.1.1.2.2 | exact hk_.1.1.1.1.1.1.2.2.2.1 | exact hk_.1.1.1.1.1.1.2.2.2 | exact hk_.1.1.1.1.1.1.2.2.2.2.1 | exact hk_.1.1.1.1.1.1.2.2.2.2 | exact hk_.1.1.1.1.1.1.1 | exact hk_.1.1.1.1.1.1.1.2.1 | exact hk_.1.1.1.1.1.1.1.2 | exact hk_.1.1.1.1.1.1.1.2.2.1 | exact hk_.1.1.1.1.1.1.1.2.2 | exact hk_.1.1.1.1.1.1.1.2.2.2.1 | exact hk_.1.1.1.1.1.1.1.2.2.2 | exact hk_.1.1.1.1.1.1.1.2.2.2.2.1 | exact hk_.1.1.1.1.1.1.1.2.2.2.2)); (case side4 => exact fun k_ e_ h_ => h_.1 e_.symm); rintro e w42 ⟨rfl, hb, hkp⟩; refine ⟨_, rfl, ?_⟩; have n0_ := Aside0.mk (blk_kept (by (with_reducible repeat (first | refine blk_drewN ?_ _ | refine blk_drew ?_ | refine blk_alloc ?_ _)); exact BK577.out) hkp (fun hs_ => (Or.elim hs_ (fun h_ => (h_.2.2.2.2.1) rfl) (fun h_ => (h_.2.2.2.2.2.1) rfl)))); have n1_ := Aside0.mk (Kd.R_mono (ok' := fun k_ => some k_ ≠ (.slice Ao35 t585.length co35 : Value).ownBlock ∧ some k_ ≠ (.slice Ao34 t595.length co34 : Value).ownBlock ∧ some k_ ≠ (.slice Ao38 t599.length co38 : Value).ownBlock) (Kd.R_keptB (Kd.R_tight2 rfl (by (with_reducible repeat (first | apply Kd.R_alloc | apply Kd.R_drewN | apply Kd.R_drew)); exact HO581.out)) hkp (fun k_ hk_ hs_ => (Or.elim hs_ (fun h_ => (h_.1) hk_.1) (fun h_ => (h_.2.1) hk_.1)))) (fun k_ hk_ => (fun hz_ => by refine ⟨?_, ?_, ?_⟩ <;> first | exact hz_ | exact hz_.2.1 | exact hz_.2 | exact hz_.2.2.1 | exact hz_.2.2 | exact hz_.2.2.2.1 | exact hz_.2.2.2 | exact hz_.2.2.2.2.1 | exact hz_.2.2.2.2 | exact hz_.1 | exact hz_.1.2.1 | exact hz_.1.2 | exact hz_.1.2.2.1 | exact hz_.1.2.2 | exact hz_.1.2.2.2.1 | exact hz_.1.2.2.2 | exact hz_.1.2.2.2.2.1 | exact hz_.1.2.2.2.2 | exact hz_.1.1 | exact hz_.1.1.2.1 | exact hz_.1.1.2 | exact hz_.1.1.2.2.1 | exact hz_.1.1.2.2 | exact hz_.1.1.2.2.2.1 | exact hz_.1.1.2.2.2 | exact hz_.1.1.2.2.2.2.1 | exact hz_.1.1.2.2.2.2 | exact hz_.1.1.1 | exact hz_.1.1.1.2.1 | exact hz_.1.1.1.2 | exact hz_.1.1.1.2.2.1 | exact hz_.1.1.1.2.2 | exact hz_.1.1.1.2.2.2.1 | exact hz_.1.1.1.2.2.2 | exact hz_.1.1.1.2.2.2.2.1 | exact hz_.1.1.1.2.2.2.2 | exact hz_.1.1.1.1 | exact hz_.1.1.1.1.2.1 | exact hz_.1.1.1.1.2 | exact hz_.1.1.1.1.2.2.1 | exact hz_.1.1.1.1.2.2 | exact hz_.1.1.1.1.2.2.2.1 | exact hz_.1.1.1.1.2.2.2 | exact hz_.1.1.1.1.2.2.2.2.1 | exact hz_.1.1.1.1.2.2.2.2 | exact hz_.1.1.1.1.1 | exact hz_.1.1.1.1.1.2.1 | exact hz_.1.1.1.1.1.2 | exact hz_.1.1.1.1.1.2.2.1 | exact hz_.1.1.1.1.1.2.2 | exact hz_.1.1.1.1.1.2.2.2.1 | exact hz_.1.1.1.1.1.2.2.2 | exact hz_.1.1.1.1.1.2.2.2.2.1 | exact hz_.1.1.1.1.1.2.2.2.2 | exact hz_.1.1.1.1.1.1 | exact hz_.1.1.1.1.1.1.2.1 | exact hz_.1.1.1.1.1.1.2 | exact hz_.1.1.1.1.1.1.2.2.1 | exact hz_.1.1.1.1.1.1.2.2 | exact hz_.1.1.1.1.1.1.2.2.2.1 | exact hz_.1.1.1.1.1.1.2.2.2 | exact hz_.1.1.1.1.1.1.2.2.2.2.1 | exact hz_.1.1.1.1.1.1.2.2.2.2 | exact hz_.1.1.1.1.1.1.1 | exact hz_.1.1.1.1.1.1.1.2.1 | exact hz_.1.1.1.1.1.1.1.2 | exact hz_.1.1.1.1.1.1.1.2.2.1 | exact hz_.1.1.1.1.1.1.1.2.2 | exact hz_.1.1.1.1.1.1.1.2.2.2.1 | exact hz_.1.1.1.1.1.1.1.2.2.2 | exact hz_.1.1.1.1.1.1.1.2.2.2.2.1 | exact hz_.1.1.1.1.1.1.1.2.2.2.2) hk_.1.2)); have n2_ := Aside0.mk (Kd.R_mono (ok' := fun k_ => some k_ ≠ (.slice Ao23 t579.length co23 : Value).ownBlock ∧ some k_ ≠ (.slice Ao34 t595.length co34 : Value).ownBlock ∧ some k_ ≠ (.slice Ao38 t599.length co38 : Value).ownBlock) (Kd.R_keptB (Kd.R_tight2 rfl (by (with_reducible repeat (first | apply Kd.R_alloc | apply Kd.R_drewN | apply Kd.R_drew)); exact HO587.out)) hkp (fun k_ hk_ hs_ => (Or.elim hs_ (fun h_ => (h_.2.1) hk_.1) (fun h_ => (h_.2.2.1) hk_.1)))) (fun k_ hk_ => (fun hz_ => by refine ⟨?_, ?_, ?_⟩ <;> first | exact hz_ | exact hz_.2.1 | exact hz_.2 | exact hz_.2.2.1 | exact hz_.2.2 | exact hz_.2.2.2.1 | exact hz_.2.2.2 | exact hz_.2.2.2.2.1 | exact hz_.2.2.2.2 | exact hz_.1 | exact hz_.1.2.1 | exact hz_.1.2 | exact hz_.1.2.2.1 | exact hz_.1.2.2 | exact hz_.1.2.2.2.1 | exact hz_.1.2.2.2 | exact hz_.1.2.2.2.2.1 | exact hz_.1.2.2.2.2 | exact hz_.1.1 | exact hz_.1.1.2.1 | exact hz_.1.1.2 | exact hz_.1.1.2.2.1 | exact hz_.1.1.2.2 | exact hz_.1.1.2.2.2.1 | exact hz_.1.1.2.2.2 | exact hz_.1.1.2.2.2.2.1 | exact hz_.1.1.2.2.2.2 | exact hz_.1.1.1 | exact hz_.1.1.1.2.1 | exact hz_.1.1.1.2 | exact hz_.1.1.1.2.2.1 | exact hz_.1.1.1.2.2 | exact hz_.1.1.1.2.2.2.1 | exact hz_.1.1.1.2.2.2 | exact hz_.1.1.1.2.2.2.2.1 | exact hz_.1.1.1.2.2.2.2 | exact hz_.1.1.1.1 | exact hz_.1.1.1.1.2.1 | exact hz_.1.1.1.1.2 | exact hz_.1.1.1.1.2.2.1 | exact hz_.1.1.1.1.2.2 | exact hz_.1.1.1.1.2.2.2.1 | exact hz_.1.1.1.1.2.2.2 | exact hz_.1.1.1.1.2.2.2.2.1 | exact hz_.1.1.1.1.2.2.2.2 | exact hz_.1.1.1.1.1 | exact hz_.1.1.1.1.1.2.1 | exact hz_.1.1.1.1.1.2 | exact hz_.1.1.1.1.1.2.2.1 | exact hz_.1.1.1.1.1.2.2 | exact hz_.1.1.1.1.1.2.2.2.1 | exact hz_.1.1.1.1.1.2.2.2 | exact hz_.1.1.1.1.1.2.2.2.2.1 | exact hz_.1.1.1.1.1.2.2.2.2 | exact hz_.1.1.1.1.1.1 | exact hz_.1.1.1.1.1.1.2.1 | exact hz_.1.1.1.1.1.1.2 | exact hz_.1.1.1.1.1.1.2.2.1 | exact hz_.1.1.1.1.1.1.2.2 | exact hz_.1.1.1.1.1.1.2.2.2.1 | exact hz_.1.1.1.1.1.1.2.2.2 | exact hz_.1.1.1.1.1.1.2.2.2.2.1 | exact hz_.1.1.1.1.1.1.2.2.2.2 | exact hz_.1.1.1.1.1.1.1 | exact hz_.1.1.1.1.1.1.1.2.1 | exact hz_.1.1.1.1.1.1.1.2 | exact hz_.1.1.1.1.1.1.1.2.2.1 | exact hz_.1.1.1.1.1.1.1.2.2 | exact hz_.1.1.1.1.1.1.1.2.2.2.1 | exact hz_.1.1.1.1.1.1.1.2.2.2 | exact hz_.1.1.1.1.1.1.1.2.2.2.2.1 | exact hz_.1.1.1.1.1.1.1.2.2.2.2) hk_.1.2)); have n3_ := Aside0.mk (blk_kept (by (with_reducible repeat (first | refine blk_drewN ?_ _ | refine blk_drew ?_ | refine blk_alloc ?_ _)); exact BK594.out) hkp (fun hs_ => (Or.elim hs_ (fun h_ => (h_.2.2.2.2.2.1) rfl) (fun h_ => (h_.2.2.2.2.2.2.1) rfl)))); have n4_ := Aside0.mk (Kd.R_mono (ok' := fun k_ => some k_ ≠ (.slice Ao23 t579.length co23 : Value).ownBlock ∧ some k_ ≠ (.slice Ao35 t585.length co35 : Value).ownBlock ∧ some k_ ≠ (.slice Ao38 t599.length co38 : Value).ownBlock) (Kd.R_keptB (Kd.R_tight2 rfl (by (with_reducible repeat (first | apply Kd.R_alloc | apply Kd.R_drewN | apply Kd.R_drew)); exact HO597.out)) hkp (fun k_ hk_ hs_ => (Or.elim hs_ (fun h_ => (h_.2.2.1) hk_.1) (fun h_ => (h_.2.2.2.1) hk_.1)))) (fun k_ hk_ => (fun hz_ => by refine ⟨?_, ?_, ?_⟩ <;> first | exact hz_ | exact hz_.2.1 | exact hz_.2 | exact hz_.2.2.1 | exact hz_.2.2 | exact hz_.2.2.2.1 | exact hz_.2.2.2 | exact hz_.2.2.2.2.1 | exact hz_.2.2.2.2 | exact hz_.1 | exact hz_.1.2.1 | exact hz_.1.2 | exact hz_.1.2.2.1 | exact hz_.1.2.2 | exact hz_.1.2.2.2.1 | exact hz_.1.2.2.2 | exact hz_.1.2.2.2.2.1 | exact hz_.1.2.2.2.2 | exact hz_.1.1 | exact hz_.1.1.2.1 | exact hz_.1.1.2 | exact hz_.1.1.2.2.1 | exact hz_.1.1.2.2 | exact hz_.1.1.2.2.2.1 | exact hz_.1.1.2.2.2 | exact hz_.1.1.2.2.2.2.1 | exact hz_.1.1.2.2.2.2 | exact hz_.1.1.1 | exact hz_.1.1.1.2.1 | exact hz_.1.1.1.2 | exact hz_.1.1.1.2.2.1 | exact hz_.1.1.1.2.2 | exact hz_.1.1.1.2.2.2.1 | exact hz_.1.1.1.2.2.2 | exact hz_.1.1.1.2.2.2.2.1 | exact hz_.1.1.1.2.2.2.2 | exact hz_.1.1.1.1 | exact hz_.1.1.1.1.2.1 | exact hz_.1.1.1.1.2 | exact hz_.1.1.1.1.2.2.1 | exact hz_.1.1.1.1.2.2 | exact hz_.1.1.1.1.2.2.2.1 | exact hz_.1.1.1.1.2.2.2 | exact hz_.1.1.1.1.2.2.2.2.1 | exact hz_.1.1.1.1.2.2.2.2 | exact hz_.1.1.1.1.1 | exact hz_.1.1.1.1.1.2.1 | exact hz_.1.1.1.1.1.2 | exact hz_.1.1.1.1.1.2.2.1 | exact hz_.1.1.1.1.1.2.2 | exact hz_.1.1.1.1.1.2.2.2.1 | exact hz_.1.1.1.1.1.2.2.2 | exact hz_.1.1.1.1.1.2.2.2.2.1 | exact hz_.1.1.1.1.1.2.2.2.2 | exact hz_.1.1.1.1.1.1 | exact hz_.1.1.1.1.1.1.2.1 | exact hz_.1.1.1.1.1.1.2 | exact hz_.1.1.1.1.1.1.2.2.1 | exact hz_.1.1.1.1.1.1.2.2 | exact hz_.1.1.1.1.1.1.2.2.2.1 | exact hz_.1.1.1.1.1.1.2.2.2 | exact hz_.1.1.1.1.1.1.2.2.2.2.1 | exact hz_.1.1.1.1.1.1.2.2.2.2 | exact hz_.1.1.1.1.1.1.1 | exact hz_.1.1.1.1.1.1.1.2.1 | exact hz_.1.1.1.1.1.1.1.2 | exact hz_.1.1.1.1.1.1.1.2.2.1 | exact hz_.1.1.1.1.1.1.1.2.2 | exact hz_.1.1.1.1.1.1.1.2.2.2.1 | exact hz_.1.1.1.1.1.1.1.2.2.2 | exact hz_.1.1.1.1.1.1.1.2.2.2.2.1 | exact hz_.1.1.1.1.1.1.1.2.2.2.2) hk_.1.2)); have n5_ := Aside0.mk (Kd.R_mono (ok' := fun k_ => some k_ ≠ (.slice Ao23 t579.length co23 : Value).ownBlock ∧ some k_ ≠ (.slice Ao35 t585.length co35 : Value).ownBlock ∧ some k_ ≠ (.slice Ao34 t595.length co34 : Value).ownBlock) (Kd.R_keptB (Kd.R_tight2 rfl (by (with_reducible repeat (first | apply Kd.R_alloc | apply Kd.R_drewN | apply Kd.R_drew)); exact HO601.out)) hkp (fun k_ hk_ hs_ => (Or.elim hs_ (fun h_ => (h_.2.2.2.1) hk_.1) (fun h_ => (h_.2.2.2.2.1) hk_.1)))) (fun k_ hk_ => (fun hz_ => by refine ⟨?_, ?_, ?_⟩ <;> first | exact hz_ | exact hz_.2.1 | exact hz_.2 | exact hz_.2.2.1 | exact hz_.2.2 | exact hz_.2.2.2.1 | exact hz_.2.2.2 | exact hz_.2.2.2.2.1 | exact hz_.2.2.2.2 | exact hz_.1 | exact hz_.1.2.1 | exact hz_.1.2 | exact hz_.1.2.2.1 | exact hz_.1.2.2 | exact hz_.1.2.2.2.1 | exact hz_.1.2.2.2 | exact hz_.1.2.2.2.2.1 | exact hz_.1.2.2.2.2 | exact hz_.1.1 | exact hz_.1.1.2.1 | exact hz_.1.1.2 | exact hz_.1.1.2.2.1 | exact hz_.1.1.2.2 | exact hz_.1.1.2.2.2.1 | exact hz_.1.1.2.2.2 | exact hz_.1.1.2.2.2.2.1 | exact hz_.1.1.2.2.2.2 | exact hz_.1.1.1 | exact hz_.1.1.1.2.1 | exact hz_.1.1.1.2 | exact hz_.1.1.1.2.2.1 | exact hz_.1.1.1.2.2 | exact hz_.1.1.1.2.2.2.1 | exact hz_.1.1.1.2.2.2 | exact hz_.1.1.1.2.2.2.2.1 | exact hz_.1.1.1.2.2.2.2 | exact hz_.1.1.1.1 | exact hz_.1.1.1.1.2.1 | exact hz_.1.1.1.1.2 | exact hz_.1.1.1.1.2.2.1 | exact hz_.1.1.1.1.2.2 | exact hz_.1.1.1.1.2.2.2.1 | exact hz_.1.1.1.1.2.2.2 | exact hz_.1.1.1.1.2.2.2.2.1 | exact hz_.1.1.1.1.2.2.2.2 | exact hz_.1.1.1.1.1 | exact hz_.1.1.1.1.1.2.1 | exact hz_.1.1.1.1.1.2 | exact hz_.1.1.1.1.1.2.2.1 | exact hz_.1.1.1.1.1.2.2 | exact hz_.1.1.1.1.1.2.2.2.1 | exact hz_.1.1.1.1.1.2.2.2 | exact hz_.1.1.1.1.1.2.2.2.2.1 | exact hz_.1.1.1.1.1.2.2.2.2 | exact hz_.1.1.1.1.1.1 | exact hz_.1.1.1.1.1.1.2.1 | exact hz_.1.1.1.1.1.1.2 | exact hz_.1.1.1.1.1.1.2.2.1 | exact hz_.1.1.1.1.1.1.2.2 | exact hz_.1.1.1.1.1.1.2.2.2.1 | exact hz_.1.1.1.1.1.1.2.2.2 | exact hz_.1.1.1.1.1.1.2.2.2.2.1 | exact hz_.1.1.1.1.1.1.2.2.2.2 | exact hz_.1.1.1.1.1.1.1 | exact hz_.1.1.1.1.1.1.1.2.1 | exact hz_.1.1.1.1.1.1.1.2 | exact hz_.1.1.1.1.1.1.1.2.2.1 | exact hz_.1.1.1.1.1.1.1.2.2 | exact hz_.1.1.1.1.1.1.1.2.2.2.1 | exact hz_.1.1.1.1.1.1.1.2.2.2 | exact hz_.1.1.1.1.1.1.1.2.2.2.2.1 | exact hz_.1.1.1.1.1.1.1.2.2.2.2) hk_.1.2)); have n6_ := Aside0.mk (hb); clear BK577; clear HO581; clear HO587; clear BK594; clear HO597; clear HO601; clear HB; clear HO584; clear HO590; clear HO593; clear HO604; have BK577 := n0_; have HO581 := n1_; have HO587 := n2_; have BK594 := n3_; have HO597 := n4_; have HO601 := n5_; have HB := n6_; clear n0_ n1_ n2_ n3_ n4_ n5_ n6_; (try clear hb); (try clear hkp)))
    (try simp only [Act.put, List.setIfInBounds_toArray, List.set_cons_zero, List.set_cons_succ])
    go_cut [42] (fun v42 wc => ∃ (kq : Nat) (x42_16 : Bool), v42 = .bool x42_16 ∧ Aside0 (laws_FnExactGreatestFilters.j0 kq t585 t595 x42_16 l0_0 l0_1 = some r) ∧ Aside0 (kq ≤ k) ∧ Aside0 (Kd.R (Kd.int .i64) 3 wc w.heap.size (fun k_ => some k_ ≠ ((.slice Ao34 t595.length co34) : Value).ownBlock) (.slice Ao35 t585.length co35) t585) ∧ Aside0 (Kd.R (Kd.int .i64) 3 wc w.heap.size (fun k_ => some k_ ≠ ((.slice Ao35 t585.length co35) : Value).ownBlock) (.slice Ao34 t595.length co34) t595) ∧ Aside0 (wc.heap[gb577]? = some (.cells #[(.slice A0_0 l0_0.length c0_0), (.slice A0_1 l0_1.length c0_1)] 25 (0, 0))) ∧ Aside0 (Below w.heap.size w wc))
    case first =>
     have H := HC17.out
     clear HC17
     by_cases c43 : t606 < 0
     ·rw [if_pos c43] at H
      have c43b0 : decide (t606 < 0) = true := decide_eq_true c43
      clear c43
      (first | rw [c43b0] | (simp only [i64_w, i32_w]; rw [c43b0]) | skip)
      have H' := Aside0.mk H
      clear H
      go_wp2
      go_meet
      case rel => exact ⟨_, (true), (by first | rfl | (simp; done) | (simp [*]; done)), H', ⟨by first | omega | exact Nat.le_refl _⟩, ⟨by (with_reducible repeat (first | apply Kd.R_alloc | apply Kd.R_drewN | apply Kd.R_drew)); exact Kd.R_mono HO587.out (fun _ hk => hk.2.1)⟩, ⟨by (with_reducible repeat (first | apply Kd.R_alloc | apply Kd.R_drewN | apply Kd.R_drew)); exact Kd.R_mono HO597.out (fun _ hk => hk.2.1)⟩, ⟨by (with_reducible repeat (first | refine blk_drewN ?_ _ | refine blk_drew ?_ | refine blk_alloc ?_ _)); exact BK577.out⟩, ⟨by repeat (first | (with_reducible first | exact HB.out | apply below_alloc | apply pw_below_drewN | apply below_drew1 | refine below_set ?_ GE577.out | refine below_set ?_ GE594.out) | exact HB.out)⟩⟩
     ·rw [if_neg c43] at H
      have c43b0 : decide (t606 < 0) = false := decide_eq_false c43
      clear c43
      (first | rw [c43b0] | (simp only [i64_w, i32_w]; rw [c43b0]) | skip)
      replace H := Option.bind_eq_some_iff.mp H
      obtain ⟨t607, A440, H⟩ := H
      replace H : (laws_FnExactGreatestFilters.j0 k t585 t595 (!t607) l0_0 l0_1) = some r := H
      have A44 := Aside0.mk A440
      clear A440
      have H' := Aside0.mk H
      clear H
      go_wp2_with (first | (go_at_call 17; (with_reducible refine (laws_eqIntS.calls k _ _ t595 _ _ t585 t607 _ ?side1 ?side2 ?side3 ?side4 A44.out).mono ?_); (case side1 => repeat (first | exact (Kd.R_reads' HO597.out).2.2 | (with_reducible refine Kd.C_alloc ?_ _) | (with_reducible refine Kd.C_drewN ?_ _) | (with_reducible refine Kd.C_drew ?_))); (case side2 => exact (Kd.R_reads' HO597.out).2.1); (case side3 => repeat (first | exact (Kd.R_reads' HO587.out).2.2 | (with_reducible refine Kd.C_alloc ?_ _) | (with_reducible refine Kd.C_drewN ?_ _) | (with_reducible refine Kd.C_drew ?_))); (case side4 => exact (Kd.R_reads' HO587.out).2.1); rintro e w' ⟨rfl, ⟨nd, rfl⟩⟩))
      go_meet
      case rel => exact ⟨_, (!t607), (by first | rfl | (simp; done) | (simp [*]; done)), H', ⟨by first | omega | exact Nat.le_refl _⟩, ⟨by (with_reducible repeat (first | apply Kd.R_alloc | apply Kd.R_drewN | apply Kd.R_drew)); exact Kd.R_mono HO587.out (fun _ hk => hk.2.1)⟩, ⟨by (with_reducible repeat (first | apply Kd.R_alloc | apply Kd.R_drewN | apply Kd.R_drew)); exact Kd.R_mono HO597.out (fun _ hk => hk.2.1)⟩, ⟨by (with_reducible repeat (first | refine blk_drewN ?_ _ | refine blk_drew ?_ | refine blk_alloc ?_ _)); exact BK577.out⟩, ⟨by repeat (first | (with_reducible first | exact HB.out | apply below_alloc | apply pw_below_drewN | apply below_drew1 | refine below_set ?_ GE577.out | refine below_set ?_ GE594.out) | exact HB.out)⟩⟩
    case rest =>
     clear HC17
     try clear c1
     try clear c2
     try clear p2
     try clear c3
     try clear c3b0
     try clear c4
     try clear c7
     try clear c11
     try clear c12
     try clear c13
     try clear c15
     try clear c16
     try clear c17
     try clear c24
     try clear c25
     try clear c26
     try clear c30
     try clear c43
     try clear c43b0
     try clear hcz19_0
     try clear hcz19_1
     try clear hcz21_0
     try clear hcz21_1
     try clear hcz26_0
     try clear hcz26_1
     try clear hcz31_0
     try clear hcz31_1
     try clear hcz41_0
     try clear hcz41_1
     try clear hcz5_0
     try clear hcz5_1
     try clear hfz19_0
     try clear hfz19_1
     try clear hfz21_0
     try clear hfz21_1
     try clear hfz26_0
     try clear hfz26_1
     try clear hfz31_0
     try clear hfz31_1
     try clear hfz41_0
     try clear hfz41_1
     try clear hfz5_0
     try clear hfz5_1
     obtain ⟨kq, x42_16, rfl, HA, HJ16, HO_4, HO_6, BK577, HB⟩ := hcut
     cases kq with
     | zero => exact absurd HA.out (by simp [laws_FnExactGreatestFilters.j0])
     | succ kj16 =>
      have H := HA.out
      clear HA
      simp only [laws_FnExactGreatestFilters.j0] at H
      by_cases c45 : x42_16 = true
      ·subst c45
       have H1 : (some false) = some r := by rw [if_pos rfl] at H; exact H
       clear H
       have H := H1
       clear H1
       exact absurd (Option.some.inj H) (by rw [hrt.out]; decide)
      ·replace c45 := Bool.eq_false_iff.mpr c45
       subst c45
       have H1 : ((laws_markIntS.f kj16 t595 1).bind fun bt608 => ((laws_heldIntS.f kj16 bt608.2 1).bind fun t610 => (if t610 < 0 then (some false) else (if t610 = bt608.1 then ((laws_toAlgebra.f kj16 l0_0 l0_1).bind fun bt611 => ((impl_GreatestFilters.f kj16 bt611.1 bt611.2).bind fun t617 => ((laws_eqIntS.f kj16 t617 t585).bind fun t620 => (if t620 = true then ((laws_heldIntS.f kj16 bt608.2 1).bind fun t621 => (if t621 < 0 then (some false) else (if t621 = bt608.1 then (some true) else (some false)))) else (some false))))) else (some false))))) = some r := by rw [if_neg (show ¬ (false = true) by decide)] at H; exact H
       clear H
       have H := H1
       clear H1
       replace H := Option.bind_eq_some_iff.mp H
       obtain ⟨⟨t608, t609⟩, A460, H⟩ := H
       replace H : ((laws_heldIntS.f kj16 t609 1).bind fun t610 => (if t610 < 0 then (some false) else (if t610 = t608 then ((laws_toAlgebra.f kj16 l0_0 l0_1).bind fun bt611 => ((impl_GreatestFilters.f kj16 bt611.1 bt611.2).bind fun t617 => ((laws_eqIntS.f kj16 t617 t585).bind fun t620 => (if t620 = true then ((laws_heldIntS.f kj16 t609 1).bind fun t621 => (if t621 < 0 then (some false) else (if t621 = t608 then (some true) else (some false)))) else (some false))))) else (some false)))) = some r := H
       have A46 := Aside0.mk A460
       clear A460
       replace H := Option.bind_eq_some_iff.mp H
       obtain ⟨t610, A470, H⟩ := H
       replace H : (if t610 < 0 then (some false) else (if t610 = t608 then ((laws_toAlgebra.f kj16 l0_0 l0_1).bind fun bt611 => ((impl_GreatestFilters.f kj16 bt611.1 bt611.2).bind fun t617 => ((laws_eqIntS.f kj16 t617 t585).bind fun t620 => (if t620 = true then ((laws_heldIntS.f kj16 t609 1).bind fun t621 => (if t621 < 0 then (some false) else (if t621 = t608 then (some true) else (some false)))) else (some false))))) else (some false))) = some r := H
       have A47 := Aside0.mk A470
       clear A470
       by_cases c48 : t610 < 0
       ·rw [if_pos c48] at H
        have c48b0 : decide (t610 < 0) = true := decide_eq_true c48
        clear c48
        exact absurd (Option.some.inj H) (by rw [hrt.out]; decide)
       ·rw [if_neg c48] at H
        have c48b0 : decide (t610 < 0) = false := decide_eq_false c48
        clear c48
        by_cases c49 : t610 = t608
        ·rw [if_pos c49] at H
         have c49b0 : (t610 == t608) = true := beq_iff_eq.mpr c49
         have c49b1 : (t610 != t608) = false := bne_eq_false_iff_eq.mpr c49
         clear c49
         replace H := Option.bind_eq_some_iff.mp H
         obtain ⟨⟨t611, t614⟩, A500, H⟩ := H
         replace H : ((impl_GreatestFilters.f kj16 t611 t614).bind fun t617 => ((laws_eqIntS.f kj16 t617 t585).bind fun t620 => (if t620 = true then ((laws_heldIntS.f kj16 t609 1).bind fun t621 => (if t621 < 0 then (some false) else (if t621 = t608 then (some true) else (some false)))) else (some false)))) = some r := H
         have A50 := Aside0.mk A500
         clear A500
         replace H := Option.bind_eq_some_iff.mp H
         obtain ⟨t617, A510, H⟩ := H
         replace H : ((laws_eqIntS.f kj16 t617 t585).bind fun t620 => (if t620 = true then ((laws_heldIntS.f kj16 t609 1).bind fun t621 => (if t621 < 0 then (some false) else (if t621 = t608 then (some true) else (some false)))) else (some false))) = some r := H
         have A51 := Aside0.mk A510
         clear A510
         replace H := Option.bind_eq_some_iff.mp H
         obtain ⟨t620, A520, H⟩ := H
         replace H : (if t620 = true then ((laws_heldIntS.f kj16 t609 1).bind fun t621 => (if t621 < 0 then (some false) else (if t621 = t608 then (some true) else (some false)))) else (some false)) = some r := H
         have A52 := Aside0.mk A520
         clear A520
         by_cases c53 : t620 = true
         ·subst c53
          have H1 : ((laws_heldIntS.f kj16 t609 1).bind fun t621 => (if t621 < 0 then (some false) else (if t621 = t608 then (some true) else (some false)))) = some r := by rw [if_pos rfl] at H; exact H
          clear H
          have H := H1
          clear H1
          replace H := Option.bind_eq_some_iff.mp H
          obtain ⟨t621, A540, H⟩ := H
          replace H : (if t621 < 0 then (some false) else (if t621 = t608 then (some true) else (some false))) = some r := H
          have A54 := Aside0.mk A540
          clear A540
          by_cases c55 : t621 < 0
          ·rw [if_pos c55] at H
           have c55b0 : decide (t621 < 0) = true := decide_eq_true c55
           clear c55
           exact absurd (Option.some.inj H) (by rw [hrt.out]; decide)
          ·rw [if_neg c55] at H
           have c55b0 : decide (t621 < 0) = false := decide_eq_false c55
           clear c55
           by_cases c56 : t621 = t608
           ·rw [if_pos c56] at H
            have c56b0 : (t621 == t608) = true := beq_iff_eq.mpr c56
            have c56b1 : (t621 != t608) = false := bne_eq_false_iff_eq.mpr c56
            clear c56
            obtain rfl := Option.some.inj H
            go_wp2_with (first | ((with_reducible refine gate_callee (f := 27) rfl ?_); refine goesL_ (some 45) rfl rfl Try.func27 (by kernel_rfl) rfl #[.slice Ao34 t595.length co34, .int .i64 1] rfl (by (try simp only [List.map_toArray, List.map_cons, List.map_nil]); first | done | rfl | (simp only [List.length_drop, List.length_take]; rfl)) ?_; (with_reducible refine (laws_markIntS.calls kj16 (fun k_ => some k_ = (.slice Ao34 t595.length co34 : Value).ownBlock) (.slice Ao34 t595.length co34) t595 1 t608 t609 w _ ?side1 ?side2 A46.out).mono ?_); (case side1 => repeat (first | (with_reducible first | exact HB.out | apply below_alloc | apply pw_below_drewN | apply below_drew1 | refine below_set ?_ GE577.out) | exact HB.out)); (case side2 => exact Kd.R_tight rfl HO_6.out); rintro e w57 ⟨rfl, hy0, hb, hkp⟩; refine ⟨_, rfl, ?_⟩; have n0_ := Aside0.mk (Kd.R_mono (ok' := fun k_ => some k_ ≠ (.slice Ao34 t595.length co34 : Value).ownBlock) (Kd.R_keptB (HO_4.out) hkp (fun k_ hk_ hs_ => (hk_) hs_)) (fun k_ hk_ => hk_.1)); have n1_ := Aside0.mk (Kd.R_reok rfl hy0 (fun k_ e_ => HO_6.out.1 k_ e_)); have n2_ := Aside0.mk (blk_kept (by (with_reducible repeat (first | refine blk_drewN ?_ _ | refine blk_drew ?_ | refine blk_alloc ?_ _)); exact BK577.out) hkp (fun hs_ => (fun e_ => (Kd.R_ne HO_6.out BK577.out (by decide)) e_) hs_)); have n3_ := Aside0.mk (hb); clear HO_4; clear HO_6; clear BK577; clear HB; have HO_4 := n0_; have HO_6 := n1_; have BK577 := n2_; have HB := n3_; clear n0_ n1_ n2_ n3_; (try clear hb); (try clear hkp); (try clear hy0)) | ((with_reducible refine gate_callee (f := 28) rfl ?_); refine goesL_ (some 48) rfl rfl Try.func28 (by kernel_rfl) rfl #[.slice Ao34 t609.length co34, .int .i64 1] rfl (by (try simp only [List.map_toArray, List.map_cons, List.map_nil]); first | done | (rw [show t609.length = t595.length from (Kd.R_reads' HO_6.out).1.symm] <;> rfl) | rfl | (simp only [List.length_drop, List.length_take]; rfl)) ?_; (with_reducible refine (laws_heldIntS.calls kj16 _ _ t609 1 t610 _ ?side1 ?side2 A47.out).mono ?_); (case side1 => repeat (first | exact (Kd.R_reads' HO_6.out).2.2 | (with_reducible refine Kd.C_alloc ?_ _) | (with_reducible refine Kd.C_drewN ?_ _) | (with_reducible refine Kd.C_drew ?_))); (case side2 => rw [show t609.length = t595.length from (Kd.R_reads' HO_6.out).1.symm]; exact (Kd.R_reads' HO_6.out).2.1); rintro e w' ⟨rfl, ⟨nd, rfl⟩⟩; refine ⟨_, rfl, ?_⟩; have hcz58_0 : w57.cell? ⟨gb577, 0, none⟩ = some (.slice A0_0 l0_0.length c0_0) := (blk_cell BK577.out 0).trans rfl; have hcz58_1 : w57.cell? ⟨gb577, 1, none⟩ = some (.slice A0_1 l0_1.length c0_1) := (blk_cell BK577.out 1).trans rfl; have hfz58_0 := blk_frozen BK577.out 0; have hfz58_1 := blk_frozen BK577.out 1) | ((with_reducible refine gate_callee (f := 13) rfl ?_); refine goesL_ (some 55) rfl rfl Try.func13 (by kernel_rfl) rfl #[.agg #[.slice A0_0 l0_0.length c0_0, .slice A0_1 l0_1.length c0_1]] rfl (by (try simp only [List.map_toArray, List.map_cons, List.map_nil]); first | done | rfl | (simp only [List.length_drop, List.length_take]; rfl)) ?_; (with_reducible refine (laws_toAlgebra.calls kj16 _ _ l0_0 _ _ l0_1 t611 t614 _ ?side1 ?side2 ?side3 ?side4 A50.out).mono ?_); (case side1 => repeat (first | exact (Kd.C_below HR0_0.out (by repeat (first | (with_reducible first | exact HB.out | apply below_alloc | apply pw_below_drewN | apply below_drew1 | refine below_set ?_ GE577.out) | exact HB.out))) | (with_reducible refine Kd.C_alloc ?_ _) | (with_reducible refine Kd.C_drewN ?_ _) | (with_reducible refine Kd.C_drew ?_))); (case side2 => exact HC0_0.out); (case side3 => repeat (first | exact (Kd.C_below HR0_1.out (by repeat (first | (with_reducible first | exact HB.out | apply below_alloc | apply pw_below_drewN | apply below_drew1 | refine below_set ?_ GE577.out) | exact HB.out))) | (with_reducible refine Kd.C_alloc ?_ _) | (with_reducible refine Kd.C_drewN ?_ _) | (with_reducible refine Kd.C_drew ?_))); (case side4 => exact HC0_1.out); rintro e w59 ⟨v612, v615, rfl, ho0, ho1, hb⟩; refine ⟨_, rfl, ?_⟩; have n0_ := Aside0.mk (Kd.R_elder' (by (with_reducible repeat (first | apply Kd.R_alloc | apply Kd.R_drewN | apply Kd.R_drew)); exact HO_4.out) (Kd.R_base ho0) hb); have n1_ := Aside0.mk (Kd.R_elder' (by (with_reducible repeat (first | apply Kd.R_alloc | apply Kd.R_drewN | apply Kd.R_drew)); exact HO_6.out) (Kd.R_base ho0) hb); have n2_ := Aside0.mk (Kd.R_lower (Kd.R_new' (Kd.R_new' ho0 (Kd.R_lt (by (with_reducible repeat (first | apply Kd.R_alloc | apply Kd.R_drewN | apply Kd.R_drew)); exact HO_4.out))) (Kd.R_lt (by (with_reducible repeat (first | apply Kd.R_alloc | apply Kd.R_drewN | apply Kd.R_drew)); exact HO_6.out))) (below_size (by repeat (first | (with_reducible first | exact HB.out | apply below_alloc | apply pw_below_drewN | apply below_drew1 | refine below_set ?_ GE577.out) | exact HB.out)))); have n3_ := Aside0.mk (Kd.S_lower (Kd.S_new' (Kd.S_new' ho1 (Kd.R_lt (by (with_reducible repeat (first | apply Kd.R_alloc | apply Kd.R_drewN | apply Kd.R_drew)); exact HO_4.out))) (Kd.R_lt (by (with_reducible repeat (first | apply Kd.R_alloc | apply Kd.R_drewN | apply Kd.R_drew)); exact HO_6.out))) (below_size (by repeat (first | (with_reducible first | exact HB.out | apply below_alloc | apply pw_below_drewN | apply below_drew1 | refine below_set ?_ GE577.out) | exact HB.out)))); have n4_ := Aside0.mk (blk_below (g := gb577) (o := .cells #[.slice A0_0 l0_0.length c0_0, .slice A0_1 l0_1.length c0_1] 25 (0, 0)) (by (with_reducible repeat (first | refine blk_drewN ?_ _ | refine blk_drew ?_ | refine blk_alloc ?_ _)); exact BK577.out) hb); have n5_ := Aside0.mk (below_step (by repeat (first | (with_reducible first | exact HB.out | apply below_alloc | apply pw_below_drewN | apply below_drew1 | refine below_set ?_ GE577.out) | exact HB.out)) hb); clear HO_4; clear HO_6; clear BK577; clear HB; have HO_4 := n0_; have HO_6 := n1_; have HO613 := n2_; have HO616 := n3_; have BK577 := n4_; have HB := n5_; clear n0_ n1_ n2_ n3_ n4_ n5_; (try clear hb); (try clear hb2); (try clear hk); (try clear hi); (try clear ho0); (try clear ho1); obtain ⟨Ao60, co60, eo60⟩ := Kd.R_slice HO613.out; subst eo60; obtain ⟨Ao61, co61, eo61⟩ := Kd.S_slice HO616.out; subst eo61) | ((with_reducible refine gate_callee (f := 25) rfl ?_); refine goesL_ (some 56) rfl rfl Try.func25 (by kernel_rfl) rfl #[.agg #[.slice Ao60 t611.length co60, .slice Ao61 t614.length co61]] rfl (by (try simp only [List.map_toArray, List.map_cons, List.map_nil]); first | done | rfl | (simp only [List.length_drop, List.length_take]; rfl)) ?_; (with_reducible refine (impl_GreatestFilters.calls kj16 _ _ t611 _ _ t614 t617 _ ?side1 ?side2 ?side3 ?side4 A51.out).mono ?_); (case side1 => repeat (first | exact (Kd.R_reads' HO613.out).2.2 | (with_reducible refine Kd.C_alloc ?_ _) | (with_reducible refine Kd.C_drewN ?_ _) | (with_reducible refine Kd.C_drew ?_))); (case side2 => exact (Kd.R_reads' HO613.out).2.1); (case side3 => repeat (first | exact (Kd.S_reads' HO616.out).2.2 | (with_reducible refine Kd.C_alloc ?_ _) | (with_reducible refine Kd.C_drewN ?_ _) | (with_reducible refine Kd.C_drew ?_))); (case side4 => exact (Kd.S_reads' HO616.out).2.1); rintro e w62 ⟨v618, rfl, ho0, hb⟩; refine ⟨_, rfl, ?_⟩; have n0_ := Aside0.mk (Kd.R_elder' (by (with_reducible repeat (first | apply Kd.R_alloc | apply Kd.R_drewN | apply Kd.R_drew)); exact HO_4.out) (Kd.R_base ho0) hb); have n1_ := Aside0.mk (Kd.R_elder' (by (with_reducible repeat (first | apply Kd.R_alloc | apply Kd.R_drewN | apply Kd.R_drew)); exact HO_6.out) (Kd.R_base ho0) hb); have n2_ := Aside0.mk (Kd.R_elder' (by (with_reducible repeat (first | apply Kd.R_alloc | apply Kd.R_drewN | apply Kd.R_drew)); exact HO613.out) (Kd.R_base ho0) hb); have n3_ := Aside0.mk (Kd.S_elder' (by (with_reducible repeat (first | apply Kd.S_alloc | apply Kd.S_drewN | apply Kd.S_drew)); exact HO616.out) (Kd.R_base ho0) hb); have n4_ := Aside0.mk (Kd.R_lower (Kd.R_new' (Kd.R_new' (Kd.R_new' ho0 (Kd.R_lt (by (with_reducible repeat (first | apply Kd.R_alloc | apply Kd.R_drewN | apply Kd.R_drew)); exact HO_4.out))) (Kd.R_lt (by (with_reducible repeat (first | apply Kd.R_alloc | apply Kd.R_drewN | apply Kd.R_drew)); exact HO_6.out))) (Kd.R_lt (by (with_reducible repeat (first | apply Kd.R_alloc | apply Kd.R_drewN | apply Kd.R_drew)); exact HO613.out))) (below_size (by repeat (first | (with_reducible first | exact HB.out | apply below_alloc | apply pw_below_drewN | apply below_drew1 | refine below_set ?_ GE577.out) | exact HB.out)))); have n5_ := Aside0.mk (blk_below (g := gb577) (o := .cells #[.slice A0_0 l0_0.length c0_0, .slice A0_1 l0_1.length c0_1] 25 (0, 0)) (by (with_reducible repeat (first | refine blk_drewN ?_ _ | refine blk_drew ?_ | refine blk_alloc ?_ _)); exact BK577.out) hb); have n6_ := Aside0.mk (below_step (by repeat (first | (with_reducible first | exact HB.out | apply below_alloc | apply pw_below_drewN | apply below_drew1 | refine below_set ?_ GE577.out) | exact HB.out)) hb); clear HO_4; clear HO_6; clear HO613; clear HO616; clear BK577; clear HB; have HO_4 := n0_; have HO_6 := n1_; have HO613 := n2_; have HO616 := n3_; have HO619 := n4_; have BK577 := n5_; have HB := n6_; clear n0_ n1_ n2_ n3_ n4_ n5_ n6_; (try clear hb); (try clear hb2); (try clear hk); (try clear hi); (try clear ho0); obtain ⟨Ao63, co63, eo63⟩ := Kd.R_slice HO619.out; subst eo63) | ((with_reducible refine gate_callee (f := 17) rfl ?_); refine goesL_ (some 59) rfl rfl Try.func17 (by kernel_rfl) rfl #[.slice Ao63 t617.length co63, .slice Ao35 t585.length co35] rfl (by (try simp only [List.map_toArray, List.map_cons, List.map_nil]); first | done | rfl | (simp only [List.length_drop, List.length_take]; rfl)) ?_; (with_reducible refine (laws_eqIntS.calls kj16 _ _ t617 _ _ t585 true _ ?side1 ?side2 ?side3 ?side4 A52.out).mono ?_); (case side1 => repeat (first | exact (Kd.R_reads' HO619.out).2.2 | (with_reducible refine Kd.C_alloc ?_ _) | (with_reducible refine Kd.C_drewN ?_ _) | (with_reducible refine Kd.C_drew ?_))); (case side2 => exact (Kd.R_reads' HO619.out).2.1); (case side3 => repeat (first | exact (Kd.R_reads' HO_4.out).2.2 | (with_reducible refine Kd.C_alloc ?_ _) | (with_reducible refine Kd.C_drewN ?_ _) | (with_reducible refine Kd.C_drew ?_))); (case side4 => exact (Kd.R_reads' HO_4.out).2.1); rintro e w' ⟨rfl, ⟨nd, rfl⟩⟩; refine ⟨_, rfl, ?_⟩) | ((with_reducible refine gate_callee (f := 28) rfl ?_); refine goesL_ (some 63) rfl rfl Try.func28 (by kernel_rfl) rfl #[.slice Ao34 t609.length co34, .int .i64 1] rfl (by (try simp only [List.map_toArray, List.map_cons, List.map_nil]); first | done | (rw [show t609.length = t595.length from (Kd.R_reads' HO_6.out).1.symm] <;> rfl) | rfl | (simp only [List.length_drop, List.length_take]; rfl)) ?_; (with_reducible refine (laws_heldIntS.calls kj16 _ _ t609 1 t621 _ ?side1 ?side2 A54.out).mono ?_); (case side1 => repeat (first | exact (Kd.R_reads' HO_6.out).2.2 | (with_reducible refine Kd.C_alloc ?_ _) | (with_reducible refine Kd.C_drewN ?_ _) | (with_reducible refine Kd.C_drew ?_))); (case side2 => rw [show t609.length = t595.length from (Kd.R_reads' HO_6.out).1.symm]; exact (Kd.R_reads' HO_6.out).2.1); rintro e w' ⟨rfl, ⟨nd, rfl⟩⟩; refine ⟨_, rfl, ?_⟩))
            go_ret
            exact ⟨by first | rfl | (simp [errW_none, errW_some] <;> rfl) | (simp [*, errW_none, errW_some] <;> rfl), by repeat (first | (with_reducible first | exact HB.out | apply below_alloc | apply pw_below_drewN | apply below_drew1 | refine below_set ?_ GE577.out) | exact HB.out)⟩
           ·rw [if_neg c56] at H
            have c56b0 : (t621 == t608) = false := beq_eq_false_iff_ne.mpr c56
            have c56b1 : (t621 != t608) = true := bne_iff_ne.mpr c56
            exact absurd (Option.some.inj H) (by rw [hrt.out]; decide)
         ·replace c53 := Bool.eq_false_iff.mpr c53
          subst c53
          have H1 : (some false) = some r := by rw [if_neg (show ¬ (false = true) by decide)] at H; exact H
          clear H
          have H := H1
          clear H1
          exact absurd (Option.some.inj H) (by rw [hrt.out]; decide)
        ·rw [if_neg c49] at H
         have c49b0 : (t610 == t608) = false := beq_eq_false_iff_ne.mpr c49
         have c49b1 : (t610 != t608) = true := bne_iff_ne.mpr c49
         exact absurd (Option.some.inj H) (by rw [hrt.out]; decide)
   ·replace c15 := Bool.eq_false_iff.mpr c15
    subst c15
    have H1 : (some false) = some r := by rw [if_neg (show ¬ (false = true) by decide)] at H; exact H
    clear H
    have H := H1
    clear H1
    exact absurd (Option.some.inj H) (by rw [hrt.out]; decide)
  ·replace c12 := Bool.eq_false_iff.mpr c12
   subst c12
   have H1 : (some false) = some r := by rw [if_neg (show ¬ (false = true) by decide)] at H; exact H
   clear H
   have H := H1
   clear H1
   exact absurd (Option.some.inj H) (by rw [hrt.out]; decide)

/-- THE ONE PURE STATEMENT of laws_FnExactGreatestFilters: yours. -/
def laws_FnExactGreatestFilters.Pure : Prop := ∀ (l0_0 : List Int) (l0_1 : List (List Int)), l0_0.length ≤ maxLen → (∀ x ∈ l0_0, (Lit.int .i64 x).wf = true) → l0_1.length ≤ maxLen → (∀ r ∈ l0_1, r.length ≤ maxLen ∧ ∀ x ∈ r, (Lit.int .i64 x).wf = true) → ∃ k, laws_FnExactGreatestFilters.f k l0_0 l0_1 = some true
theorem laws_FnExactGreatestFilters.walk (P : laws_FnExactGreatestFilters.Pure) (A0_0 : Option Addr) (c0_0 : Nat) (l0_0 : List Int) (A0_1 : Option Addr) (c0_1 : Nat) (l0_1 : List (List Int)) (w : World) (hr0_0 : Kd.C (Kd.int .i64) w A0_0 l0_0.length l0_0) (hc0_0 : l0_0.length ≤ c0_0) (hm0_0 : l0_0.length ≤ maxLen) (hw0_0 : (∀ x ∈ l0_0, (Lit.int .i64 x).wf = true)) (hr0_1 : Kd.C (Kd.slice 3 (Kd.int .i64)) w A0_1 l0_1.length l0_1) (hc0_1 : l0_1.length ≤ c0_1) (hm0_1 : l0_1.length ≤ maxLen) (hw0_1 : (∀ r ∈ l0_1, r.length ≤ maxLen ∧ ∀ x ∈ r, (Lit.int .i64 x).wf = true)) :
  Calls Try.prog 7 #[.agg #[.slice A0_0 l0_0.length c0_0, .slice A0_1 l0_1.length c0_1]] w fun e w' => e = .returned (.bool true) ∧ Below w.heap.size w w' := by
 obtain ⟨k, h⟩ := P l0_0 l0_1 hm0_0 hw0_0 hm0_1 hw0_1
 refine (laws_FnExactGreatestFilters.calls k _ _ l0_0 _ _ l0_1 true w hr0_0 hc0_0 hr0_1 hc0_1 ⟨rfl⟩ h).mono ?_
 rintro e w' ⟨rfl, hd⟩
 exact ⟨rfl, hd⟩

end Go.Proofs.Ytomapoenndlbiaa.P

-- shrunk
