-- Printed by this session's wip/print2.py (the kit's print.py, widened) out of the translation. Lean checks it.
import Derived.Test.YtomapoenndlbiaaP0
import Derived.Test.YtomapoenndlbiaaP2
import Derived.Test.YtomapoenndlbiaaP3
import Derived.Test.YtomapoenndlbiaaP4
import Derived.Test.YtomapoenndlbiaaP5
import Derived.Test.YtomapoenndlbiaaP7
import Derived.Test.YtomapoenndlbiaaP29
import Derived.Test.YtomapoenndlbiaaP30
namespace Go.Proofs.Ytomapoenndlbiaa.P
open Go.RowKit Go.Proofs.YtomapoenndlbiaaW.PrintWords Go.Proofs.YtomapoenndlbiaaW.PrintLast Go.Proofs.YtomapoenndlbiaaW.PrintMore
attribute [local go_sem] max2_int min2_int max_two min_two max_three min_three max_four min_four   -- for this text's walks alone
set_option linter.unusedVariables false
set_option linter.unusedSimpArgs false

/-! ### laws_FnExactKernelOf: function 5 -/
def laws_FnExactKernelOf.f (k : Nat) (l0_0 : List Int) (l0_1 : List (List Int)) (l1_0 : List Int) (l1_1 : List (List Int)) (l2 : List Int) : Option (Bool) := if (l2.length : Int) > 1048576 then (some true) else ((laws_szAlgebra.f k l0_0 l0_1 1048576).bind fun t389 => (if t389 < 0 then (some true) else ((laws_szAlgebra.f k l1_0 l1_1 t389).bind fun t390 => (if t390 < 0 then (some true) else ((laws_toAlgebra.f k l0_0 l0_1).bind fun bt391 => ((laws_toAlgebra.f k l1_0 l1_1).bind fun bt397 => ((laws_toIntS.f k l2).bind fun t403 => ((spec_KernelOf.f k bt391.1 bt391.2 bt397.1 bt397.2 t403).bind fun t406 => ((laws_toAlgebra.f k l0_0 l0_1).bind fun bt407 => ((laws_toAlgebra.f k l1_0 l1_1).bind fun bt414 => ((laws_toIntS.f k l2).bind fun t421 => ((impl_KernelOf.f k bt407.1 bt407.2 bt414.1 bt414.2 t421).bind fun t424 => (if t424 = t406 then ((laws_toAlgebra.f k l0_0 l0_1).bind fun bt425 => ((laws_eqAlgebra.f k bt407.1 bt407.2 bt425.1 bt425.2).bind fun t431 => (if t431 = true then ((laws_toAlgebra.f k l1_0 l1_1).bind fun bt432 => ((laws_eqAlgebra.f k bt414.1 bt414.2 bt432.1 bt432.2).bind fun t438 => (if t438 = true then ((laws_toIntS.f k l2).bind fun t439 => ((laws_eqIntS.f k t421 t439).bind fun t442 => (if t442 = true then (some true) else (some false)))) else (some false)))) else (some false)))) else (some false))))))))))))))
def laws_FnExactKernelOf.T10 : Bool × List (List Nat × List Nat) := (true, [([], []), ([0], [0]), ([], []), ([2, 1], [2]), ([], []), ([4, 3], [4]), ([1, 3, 5, 5], [1, 3, 5]), ([6, 6, 0, 1, 2, 3, 4, 5, 6], [6])])
def laws_FnExactKernelOf.B10 : List Nat := [0, 1, 0, 7, 0, 31, 63, 127]
theorem laws_FnExactKernelOf.tab10 : rtab .any (opsOf Try.f5 10) = laws_FnExactKernelOf.T10 := by kernel_rfl
theorem laws_FnExactKernelOf.bits10 : waitsOk laws_FnExactKernelOf.T10.2 laws_FnExactKernelOf.B10 = true := by kernel_rfl
set_option maxHeartbeats 8000000 in
set_option maxRecDepth 100000 in
theorem laws_FnExactKernelOf.calls (k : Nat) (A0_0 : Option Addr) (c0_0 : Nat) (l0_0 : List Int) (A0_1 : Option Addr) (c0_1 : Nat) (l0_1 : List (List Int)) (A1_0 : Option Addr) (c1_0 : Nat) (l1_0 : List Int) (A1_1 : Option Addr) (c1_1 : Nat) (l1_1 : List (List Int)) (A2 : Option Addr) (c2 : Nat) (l2 : List Int) (r : Bool) (w : World) (hr0_0 : Kd.C (Kd.int .i64) w A0_0 l0_0.length l0_0) (hc0_0 : l0_0.length ≤ c0_0) (hr0_1 : Kd.C (Kd.slice 3 (Kd.int .i64)) w A0_1 l0_1.length l0_1) (hc0_1 : l0_1.length ≤ c0_1) (hr1_0 : Kd.C (Kd.int .i64) w A1_0 l1_0.length l1_0) (hc1_0 : l1_0.length ≤ c1_0) (hr1_1 : Kd.C (Kd.slice 3 (Kd.int .i64)) w A1_1 l1_1.length l1_1) (hc1_1 : l1_1.length ≤ c1_1) (hr2 : Kd.C (Kd.int .i64) w A2 l2.length l2) (hc2 : l2.length ≤ c2) (hrt : Aside0 (r = true)) (h : laws_FnExactKernelOf.f k l0_0 l0_1 l1_0 l1_1 l2 = some r) :
  Calls Try.prog 5 #[.agg #[.slice A0_0 l0_0.length c0_0, .slice A0_1 l0_1.length c0_1], .agg #[.slice A1_0 l1_0.length c1_0, .slice A1_1 l1_1.length c1_1], .slice A2 l2.length c2] w fun e w' => e = .returned (.bool r) ∧ Below w.heap.size w w' := by
 have hu25 := Try.underlying25
 have hu28 := Try.underlying28
 have HR0_0 := ak hr0_0
 have HC0_0 := ak hc0_0
 clear hr0_0 hc0_0
 have HR0_1 := ak hr0_1
 have HC0_1 := ak hc0_1
 clear hr0_1 hc0_1
 have HR1_0 := ak hr1_0
 have HC1_0 := ak hc1_0
 clear hr1_0 hc1_0
 have HR1_1 := ak hr1_1
 have HC1_1 := ak hc1_1
 clear hr1_1 hc1_1
 have HR2 := ak hr2
 have HC2 := ak hc2
 clear hr2 hc2
 have HB := ak (Below.refl w.heap.size w)
 have H : (if (l2.length : Int) > 1048576 then (some true) else ((laws_szAlgebra.f k l0_0 l0_1 1048576).bind fun t389 => (if t389 < 0 then (some true) else ((laws_szAlgebra.f k l1_0 l1_1 t389).bind fun t390 => (if t390 < 0 then (some true) else ((laws_toAlgebra.f k l0_0 l0_1).bind fun bt391 => ((laws_toAlgebra.f k l1_0 l1_1).bind fun bt397 => ((laws_toIntS.f k l2).bind fun t403 => ((spec_KernelOf.f k bt391.1 bt391.2 bt397.1 bt397.2 t403).bind fun t406 => ((laws_toAlgebra.f k l0_0 l0_1).bind fun bt407 => ((laws_toAlgebra.f k l1_0 l1_1).bind fun bt414 => ((laws_toIntS.f k l2).bind fun t421 => ((impl_KernelOf.f k bt407.1 bt407.2 bt414.1 bt414.2 t421).bind fun t424 => (if t424 = t406 then ((laws_toAlgebra.f k l0_0 l0_1).bind fun bt425 => ((laws_eqAlgebra.f k bt407.1 bt407.2 bt425.1 bt425.2).bind fun t431 => (if t431 = true then ((laws_toAlgebra.f k l1_0 l1_1).bind fun bt432 => ((laws_eqAlgebra.f k bt414.1 bt414.2 bt432.1 bt432.2).bind fun t438 => (if t438 = true then ((laws_toIntS.f k l2).bind fun t439 => ((laws_eqIntS.f k t421 t439).bind fun t442 => (if t442 = true then (some true) else (some false)))) else (some false)))) else (some false)))) else (some false))))))))))))))) = some r := h
 clear h
 by_cases c4 : (l2.length : Int) > 1048576
 ·rw [if_pos c4] at H
  have c4b0 : decide (1048576 < (l2.length : Int)) = true := decide_eq_true c4
  have c4b1 : decide (1048576 < l2.length) = true := decide_eq_true (by omega)
  clear c4
  obtain rfl := Option.some.inj H
  go_enter Try.func5, Try.ntmps5
  go_wp2_with (first | ((with_reducible refine gate_dst (N := 3) rfl ?_); refine box_event ?hg (N := 3) ?hd (cs := #[.slice A0_0 l0_0.length c0_0, .slice A0_1 l0_1.length c0_1]) (t := 25) ?hr ?_; (case hd => rfl); (case hg => rfl); (case hr => first | (go_simp; done) | (go_simp; rfl)); intro gb387 hg w5 hbox hb; have BK387 := ak (hbox); have GW387 := ak ((by rw [hg]; exact (below_size (bB HB.out)) : w.heap.size ≤ gb387)); have GE387 := ak ((by rw [hg]; exact (below_size (bB HB.out)) : w.heap.size ≤ gb387)); replace HB := ak (below_step (bB HB.out) hb); clear hb hbox hg) | ((with_reducible refine gate_dst (N := 4) rfl ?_); refine box_event ?hg (N := 4) ?hd (cs := #[.slice A1_0 l1_0.length c1_0, .slice A1_1 l1_1.length c1_1]) (t := 25) ?hr ?_; (case hd => rfl); (case hg => rfl); (case hr => first | (go_simp; done) | (go_simp; rfl)); intro gb388 hg w6 hbox hb; have BK388 := ak (hbox); have GW388 := ak ((by rw [hg]; exact (below_size (bB HB.out)) : w.heap.size ≤ gb388)); have GE388 := ak ((by rw [hg]; exact (below_size (bB HB.out)) : w.heap.size ≤ gb388)); replace HB := ak (below_step (bB HB.out) hb); have NB387_388 := ak ((ne_box hg (kK BK387.out))); have NB388_387 := ak ((ne_box' hg (kK BK387.out))); replace BK387 := ak (blk_below (kK BK387.out) hb); clear hb hbox hg))
  go_ret
  exact ⟨by first | rfl | (simp [errW_none, errW_some] <;> rfl) | (simp [*, errW_none, errW_some] <;> rfl), by repeat (first | (with_reducible first | exact HB.out | apply below_alloc | apply pw_below_drewN | apply below_drew1 | refine below_set ?_ GE387.out | refine below_set ?_ GE388.out) | exact HB.out)⟩
 rw [if_neg c4] at H
 have c4b0 : decide (1048576 < (l2.length : Int)) = false := decide_eq_false c4
 have c4b1 : decide (1048576 < l2.length) = false := decide_eq_false (by omega)
 clear c4
 replace H := bi H
 obtain ⟨t389, A70, H⟩ := H
 try dsimp only at H
 have A7 := ak A70
 clear A70
 by_cases c8 : t389 < 0
 ·rw [if_pos c8] at H
  have c8b0 : decide (t389 < 0) = true := decide_eq_true c8
  clear c8
  obtain rfl := Option.some.inj H
  go_enter Try.func5, Try.ntmps5
  go_wp2_with (first | ((with_reducible refine gate_dst (N := 3) rfl ?_); refine box_event ?hg (N := 3) ?hd (cs := #[.slice A0_0 l0_0.length c0_0, .slice A0_1 l0_1.length c0_1]) (t := 25) ?hr ?_; (case hd => rfl); (case hg => rfl); (case hr => first | (go_simp; done) | (go_simp; rfl)); intro gb387 hg w9 hbox hb; have BK387 := ak (hbox); have GW387 := ak ((by rw [hg]; exact (below_size (bB HB.out)) : w.heap.size ≤ gb387)); have GE387 := ak ((by rw [hg]; exact (below_size (bB HB.out)) : w.heap.size ≤ gb387)); replace HB := ak (below_step (bB HB.out) hb); clear hb hbox hg) | ((with_reducible refine gate_dst (N := 4) rfl ?_); refine box_event ?hg (N := 4) ?hd (cs := #[.slice A1_0 l1_0.length c1_0, .slice A1_1 l1_1.length c1_1]) (t := 25) ?hr ?_; (case hd => rfl); (case hg => rfl); (case hr => first | (go_simp; done) | (go_simp; rfl)); intro gb388 hg w10 hbox hb; have BK388 := ak (hbox); have GW388 := ak ((by rw [hg]; exact (below_size (bB HB.out)) : w.heap.size ≤ gb388)); have GE388 := ak ((by rw [hg]; exact (below_size (bB HB.out)) : w.heap.size ≤ gb388)); replace HB := ak (below_step (bB HB.out) hb); have NB387_388 := ak ((ne_box hg (kK BK387.out))); have NB388_387 := ak ((ne_box' hg (kK BK387.out))); replace BK387 := ak (blk_below (kK BK387.out) hb); clear hb hbox hg; have hnb11 := NB387_388.out; have hnc11 := NB388_387.out; have hcz12_0 : w10.cell? ⟨gb387, 0, none⟩ = some (.slice A0_0 l0_0.length c0_0) := (blk_cell BK387.out 0).trans rfl; have hcz12_1 : w10.cell? ⟨gb387, 1, none⟩ = some (.slice A0_1 l0_1.length c0_1) := (blk_cell BK387.out 1).trans rfl; have hfz12_0 := blk_frozen BK387.out 0; have hfz12_1 := blk_frozen BK387.out 1) | ((with_reducible refine gate_callee (f := 11) rfl ?_); refine goesL_ (some 18) rfl rfl Try.func11 (by kernel_rfl) rfl #[.agg #[.slice A0_0 l0_0.length c0_0, .slice A0_1 l0_1.length c0_1], .int .i64 1048576] rfl (by (try simp only [List.map_toArray, List.map_cons, List.map_nil]); first | done | rfl | (simp only [List.length_drop, List.length_take]; rfl)) ?_; (with_reducible refine (laws_szAlgebra.calls k _ _ l0_0 _ _ l0_1 1048576 t389 _ ?side1 ?side2 ?side3 ?side4 A7.out).mono ?_); (case side1 => exact kC (Kd.C_below HR0_0.out HB.out)); (case side2 => exact HC0_0.out); (case side3 => exact kC (Kd.C_below HR0_1.out HB.out)); (case side4 => exact HC0_1.out); rintro e w13 ⟨rfl, hb⟩; refine ⟨_, rfl, ?_⟩; replace BK387 := ak (blk_below (kK BK387.out) hb); replace BK388 := ak (blk_below (kK BK388.out) hb); replace HB := ak (below_step (bB HB.out) hb); (try clear hb); (try clear hb2); (try clear hk); (try clear hi)))
  go_ret
  exact ⟨by first | rfl | (simp [errW_none, errW_some] <;> rfl) | (simp [*, errW_none, errW_some] <;> rfl), by repeat (first | (with_reducible first | exact HB.out | apply below_alloc | apply pw_below_drewN | apply below_drew1 | refine below_set ?_ GE387.out | refine below_set ?_ GE388.out) | exact HB.out)⟩
 rw [if_neg c8] at H
 have c8b0 : decide (t389 < 0) = false := decide_eq_false c8
 clear c8
 replace H := bi H
 obtain ⟨t390, A140, H⟩ := H
 try dsimp only at H
 have A14 := ak A140
 clear A140
 by_cases c15 : t390 < 0
 ·rw [if_pos c15] at H
  have c15b0 : decide (t390 < 0) = true := decide_eq_true c15
  clear c15
  obtain rfl := Option.some.inj H
  go_enter Try.func5, Try.ntmps5
  go_wp2_with (first | ((with_reducible refine gate_dst (N := 3) rfl ?_); refine box_event ?hg (N := 3) ?hd (cs := #[.slice A0_0 l0_0.length c0_0, .slice A0_1 l0_1.length c0_1]) (t := 25) ?hr ?_; (case hd => rfl); (case hg => rfl); (case hr => first | (go_simp; done) | (go_simp; rfl)); intro gb387 hg w16 hbox hb; have BK387 := ak (hbox); have GW387 := ak ((by rw [hg]; exact (below_size (bB HB.out)) : w.heap.size ≤ gb387)); have GE387 := ak ((by rw [hg]; exact (below_size (bB HB.out)) : w.heap.size ≤ gb387)); replace HB := ak (below_step (bB HB.out) hb); clear hb hbox hg) | ((with_reducible refine gate_dst (N := 4) rfl ?_); refine box_event ?hg (N := 4) ?hd (cs := #[.slice A1_0 l1_0.length c1_0, .slice A1_1 l1_1.length c1_1]) (t := 25) ?hr ?_; (case hd => rfl); (case hg => rfl); (case hr => first | (go_simp; done) | (go_simp; rfl)); intro gb388 hg w17 hbox hb; have BK388 := ak (hbox); have GW388 := ak ((by rw [hg]; exact (below_size (bB HB.out)) : w.heap.size ≤ gb388)); have GE388 := ak ((by rw [hg]; exact (below_size (bB HB.out)) : w.heap.size ≤ gb388)); replace HB := ak (below_step (bB HB.out) hb); have NB387_388 := ak ((ne_box hg (kK BK387.out))); have NB388_387 := ak ((ne_box' hg (kK BK387.out))); replace BK387 := ak (blk_below (kK BK387.out) hb); clear hb hbox hg; have hnb18 := NB387_388.out; have hnc18 := NB388_387.out; have hcz19_0 : w17.cell? ⟨gb387, 0, none⟩ = some (.slice A0_0 l0_0.length c0_0) := (blk_cell BK387.out 0).trans rfl; have hcz19_1 : w17.cell? ⟨gb387, 1, none⟩ = some (.slice A0_1 l0_1.length c0_1) := (blk_cell BK387.out 1).trans rfl; have hfz19_0 := blk_frozen BK387.out 0; have hfz19_1 := blk_frozen BK387.out 1) | ((with_reducible refine gate_callee (f := 11) rfl ?_); refine goesL_ (some 18) rfl rfl Try.func11 (by kernel_rfl) rfl #[.agg #[.slice A0_0 l0_0.length c0_0, .slice A0_1 l0_1.length c0_1], .int .i64 1048576] rfl (by (try simp only [List.map_toArray, List.map_cons, List.map_nil]); first | done | rfl | (simp only [List.length_drop, List.length_take]; rfl)) ?_; (with_reducible refine (laws_szAlgebra.calls k _ _ l0_0 _ _ l0_1 1048576 t389 _ ?side1 ?side2 ?side3 ?side4 A7.out).mono ?_); (case side1 => exact kC (Kd.C_below HR0_0.out HB.out)); (case side2 => exact HC0_0.out); (case side3 => exact kC (Kd.C_below HR0_1.out HB.out)); (case side4 => exact HC0_1.out); rintro e w20 ⟨rfl, hb⟩; refine ⟨_, rfl, ?_⟩; replace BK387 := ak (blk_below (kK BK387.out) hb); replace BK388 := ak (blk_below (kK BK388.out) hb); replace HB := ak (below_step (bB HB.out) hb); (try clear hb); (try clear hb2); (try clear hk); (try clear hi); have hcz21_0 : w20.cell? ⟨gb388, 0, none⟩ = some (.slice A1_0 l1_0.length c1_0) := (blk_cell BK388.out 0).trans rfl; have hcz21_1 : w20.cell? ⟨gb388, 1, none⟩ = some (.slice A1_1 l1_1.length c1_1) := (blk_cell BK388.out 1).trans rfl; have hfz21_0 := blk_frozen BK388.out 0; have hfz21_1 := blk_frozen BK388.out 1) | ((with_reducible refine gate_callee (f := 11) rfl ?_); refine goesL_ (some 23) rfl rfl Try.func11 (by kernel_rfl) rfl #[.agg #[.slice A1_0 l1_0.length c1_0, .slice A1_1 l1_1.length c1_1], .int .i64 t389] rfl (by (try simp only [List.map_toArray, List.map_cons, List.map_nil]); first | done | rfl | (simp only [List.length_drop, List.length_take]; rfl)) ?_; (with_reducible refine (laws_szAlgebra.calls k _ _ l1_0 _ _ l1_1 t389 t390 _ ?side1 ?side2 ?side3 ?side4 A14.out).mono ?_); (case side1 => exact kC (Kd.C_below HR1_0.out HB.out)); (case side2 => exact HC1_0.out); (case side3 => exact kC (Kd.C_below HR1_1.out HB.out)); (case side4 => exact HC1_1.out); rintro e w22 ⟨rfl, hb⟩; refine ⟨_, rfl, ?_⟩; replace BK387 := ak (blk_below (kK BK387.out) hb); replace BK388 := ak (blk_below (kK BK388.out) hb); replace HB := ak (below_step (bB HB.out) hb); (try clear hb); (try clear hb2); (try clear hk); (try clear hi)))
  go_ret
  exact ⟨by first | rfl | (simp [errW_none, errW_some] <;> rfl) | (simp [*, errW_none, errW_some] <;> rfl), by repeat (first | (with_reducible first | exact HB.out | apply below_alloc | apply pw_below_drewN | apply below_drew1 | refine below_set ?_ GE387.out | refine below_set ?_ GE388.out) | exact HB.out)⟩
 rw [if_neg c15] at H
 have c15b0 : decide (t390 < 0) = false := decide_eq_false c15
 clear c15
 replace H := bi H
 obtain ⟨⟨t391, t394⟩, A230, H⟩ := H
 try dsimp only at H
 have A23 := ak A230
 clear A230
 replace H := bi H
 obtain ⟨⟨t397, t400⟩, A240, H⟩ := H
 try dsimp only at H
 have A24 := ak A240
 clear A240
 replace H := bi H
 obtain ⟨t403, A250, H⟩ := H
 try dsimp only at H
 have A25 := ak A250
 clear A250
 replace H := bi H
 obtain ⟨t406, A260, H⟩ := H
 try dsimp only at H
 have A26 := ak A260
 clear A260
 replace H := bi H
 obtain ⟨⟨t407, t410⟩, A270, H⟩ := H
 try dsimp only at H
 have A27 := ak A270
 clear A270
 replace H := bi H
 obtain ⟨⟨t414, t417⟩, A280, H⟩ := H
 try dsimp only at H
 have A28 := ak A280
 clear A280
 replace H := bi H
 obtain ⟨t421, A290, H⟩ := H
 try dsimp only at H
 have A29 := ak A290
 clear A290
 replace H := bi H
 obtain ⟨t424, A300, H⟩ := H
 try dsimp only at H
 have A30 := ak A300
 clear A300
 by_cases c31 : t424 = t406
 rotate_left
 ·rw [if_neg c31] at H
  have c31b0 : (t424 == t406) = false := beq_eq_false_iff_ne.mpr c31
  have c31b1 : (t424 != t406) = true := bne_iff_ne.mpr c31
  exact absurd (Option.some.inj H) (by rw [hrt.out]; decide)
 rw [if_pos c31] at H
 have c31b0 : (t424 == t406) = true := beq_iff_eq.mpr c31
 have c31b1 : (t424 != t406) = false := bne_eq_false_iff_eq.mpr c31
 clear c31
 replace H := bi H
 obtain ⟨⟨t425, t428⟩, A320, H⟩ := H
 try dsimp only at H
 have A32 := ak A320
 clear A320
 replace H := bi H
 obtain ⟨t431, A330, H⟩ := H
 try dsimp only at H
 have A33 := ak A330
 clear A330
 by_cases c34 : t431 = true
 rotate_left
 ·replace c34 := Bool.eq_false_iff.mpr c34
  subst c34
  rw [if_neg (show ¬ (false = true) by decide)] at H
  exact absurd (Option.some.inj H) (by rw [hrt.out]; decide)
 subst c34
 rw [if_pos rfl] at H
 replace H := bi H
 obtain ⟨⟨t432, t435⟩, A350, H⟩ := H
 try dsimp only at H
 have A35 := ak A350
 clear A350
 replace H := bi H
 obtain ⟨t438, A360, H⟩ := H
 try dsimp only at H
 have A36 := ak A360
 clear A360
 by_cases c37 : t438 = true
 rotate_left
 ·replace c37 := Bool.eq_false_iff.mpr c37
  subst c37
  rw [if_neg (show ¬ (false = true) by decide)] at H
  exact absurd (Option.some.inj H) (by rw [hrt.out]; decide)
 subst c37
 rw [if_pos rfl] at H
 replace H := bi H
 obtain ⟨t439, A380, H⟩ := H
 try dsimp only at H
 have A38 := ak A380
 clear A380
 replace H := bi H
 obtain ⟨t442, A390, H⟩ := H
 try dsimp only at H
 have A39 := ak A390
 clear A390
 by_cases c40 : t442 = true
 rotate_left
 ·replace c40 := Bool.eq_false_iff.mpr c40
  subst c40
  rw [if_neg (show ¬ (false = true) by decide)] at H
  exact absurd (Option.some.inj H) (by rw [hrt.out]; decide)
 subst c40
 rw [if_pos rfl] at H
 obtain rfl := Option.some.inj H
 go_enter Try.func5, Try.ntmps5
 try go_wp2_with (first | ((with_reducible refine gate_dst (N := 3) rfl ?_); refine box_event ?hg (N := 3) ?hd (cs := #[.slice A0_0 l0_0.length c0_0, .slice A0_1 l0_1.length c0_1]) (t := 25) ?hr ?_; (case hd => rfl); (case hg => rfl); (case hr => first | (go_simp; done) | (go_simp; rfl)); intro gb387 hg w41 hbox hb; have BK387 := ak (hbox); have GW387 := ak ((by rw [hg]; exact (below_size (bB HB.out)) : w.heap.size ≤ gb387)); have GE387 := ak ((by rw [hg]; exact (below_size (bB HB.out)) : w.heap.size ≤ gb387)); replace HB := ak (below_step (bB HB.out) hb); clear hb hbox hg) | ((with_reducible refine gate_dst (N := 4) rfl ?_); refine box_event ?hg (N := 4) ?hd (cs := #[.slice A1_0 l1_0.length c1_0, .slice A1_1 l1_1.length c1_1]) (t := 25) ?hr ?_; (case hd => rfl); (case hg => rfl); (case hr => first | (go_simp; done) | (go_simp; rfl)); intro gb388 hg w42 hbox hb; have BK388 := ak (hbox); have GW388 := ak ((by rw [hg]; exact (below_size (bB HB.out)) : w.heap.size ≤ gb388)); have GE388 := ak ((by rw [hg]; exact (below_size (bB HB.out)) : w.heap.size ≤ gb388)); replace HB := ak (below_step (bB HB.out) hb); have NB387_388 := ak ((ne_box hg (kK BK387.out))); have NB388_387 := ak ((ne_box' hg (kK BK387.out))); replace BK387 := ak (blk_below (kK BK387.out) hb); clear hb hbox hg; have hnb43 := NB387_388.out; have hnc43 := NB388_387.out; have hcz44_0 : w42.cell? ⟨gb387, 0, none⟩ = some (.slice A0_0 l0_0.length c0_0) := (blk_cell BK387.out 0).trans rfl; have hcz44_1 : w42.cell? ⟨gb387, 1, none⟩ = some (.slice A0_1 l0_1.length c0_1) := (blk_cell BK387.out 1).trans rfl; have hfz44_0 := blk_frozen BK387.out 0; have hfz44_1 := blk_frozen BK387.out 1) | ((with_reducible refine gate_callee (f := 11) rfl ?_); refine goesL_ (some 18) rfl rfl Try.func11 (by kernel_rfl) rfl #[.agg #[.slice A0_0 l0_0.length c0_0, .slice A0_1 l0_1.length c0_1], .int .i64 1048576] rfl (by (try simp only [List.map_toArray, List.map_cons, List.map_nil]); first | done | rfl | (simp only [List.length_drop, List.length_take]; rfl)) ?_; (with_reducible refine (laws_szAlgebra.calls k _ _ l0_0 _ _ l0_1 1048576 t389 _ ?side1 ?side2 ?side3 ?side4 A7.out).mono ?_); (case side1 => exact kC (Kd.C_below HR0_0.out HB.out)); (case side2 => exact HC0_0.out); (case side3 => exact kC (Kd.C_below HR0_1.out HB.out)); (case side4 => exact HC0_1.out); rintro e w45 ⟨rfl, hb⟩; refine ⟨_, rfl, ?_⟩; replace BK387 := ak (blk_below (kK BK387.out) hb); replace BK388 := ak (blk_below (kK BK388.out) hb); replace HB := ak (below_step (bB HB.out) hb); (try clear hb); (try clear hb2); (try clear hk); (try clear hi); have hcz46_0 : w45.cell? ⟨gb388, 0, none⟩ = some (.slice A1_0 l1_0.length c1_0) := (blk_cell BK388.out 0).trans rfl; have hcz46_1 : w45.cell? ⟨gb388, 1, none⟩ = some (.slice A1_1 l1_1.length c1_1) := (blk_cell BK388.out 1).trans rfl; have hfz46_0 := blk_frozen BK388.out 0; have hfz46_1 := blk_frozen BK388.out 1) | ((with_reducible refine gate_callee (f := 11) rfl ?_); refine goesL_ (some 23) rfl rfl Try.func11 (by kernel_rfl) rfl #[.agg #[.slice A1_0 l1_0.length c1_0, .slice A1_1 l1_1.length c1_1], .int .i64 t389] rfl (by (try simp only [List.map_toArray, List.map_cons, List.map_nil]); first | done | rfl | (simp only [List.length_drop, List.length_take]; rfl)) ?_; (with_reducible refine (laws_szAlgebra.calls k _ _ l1_0 _ _ l1_1 t389 t390 _ ?side1 ?side2 ?side3 ?side4 A14.out).mono ?_); (case side1 => exact kC (Kd.C_below HR1_0.out HB.out)); (case side2 => exact HC1_0.out); (case side3 => exact kC (Kd.C_below HR1_1.out HB.out)); (case side4 => exact HC1_1.out); rintro e w47 ⟨rfl, hb⟩; refine ⟨_, rfl, ?_⟩; replace BK387 := ak (blk_below (kK BK387.out) hb); replace BK388 := ak (blk_below (kK BK388.out) hb); replace HB := ak (below_step (bB HB.out) hb); (try clear hb); (try clear hb2); (try clear hk); (try clear hi)))
 replace BK387 := ak (blk_drew BK387.out)
 replace BK388 := ak (blk_drew BK388.out)
 replace HB := ak (below_drew1 HB.out)
 refine start_ (n := 8) (S := fun w' => w'.cell? ⟨gb387, 0, none⟩ = some (.slice A0_0 l0_0.length c0_0) ∧ w'.cell? ⟨gb387, 1, none⟩ = some (.slice A0_1 l0_1.length c0_1) ∧ w'.cell? ⟨gb388, 0, none⟩ = some (.slice A1_0 l1_0.length c1_0) ∧ w'.cell? ⟨gb388, 1, none⟩ = some (.slice A1_1 l1_1.length c1_1)) (ds := []) #[false, false, false, false, false, false, false, false] (by kernel_rfl) rfl rfl ⟨(blk_cell BK387.out 0).trans rfl, (blk_cell BK387.out 1).trans rfl, (blk_cell BK388.out 0).trans rfl, (blk_cell BK388.out 1).trans rfl⟩ (fun hHeld => ?_); refine with_tabW laws_FnExactKernelOf.tab10 laws_FnExactKernelOf.bits10 (fun HT_ HW_ => ?_)
 generalize w47.drew = w48 at BK387 BK388 HB hHeld ⊢
 refine pu 4 30 16 8 ?_
 refine tk 0 26 17 8 ?_
 refine tk 2 28 21 8 ?_
 refine one_ (i := 1) (N := some 27) #[true, true, true, false, true, false, false, false] rfl rfl (one_of HT_.out (by kernel_rfl)) (by decide) (fun K hK => ?_)
 refine goes_ Try.func13 (by kernel_rfl) rfl #[.agg #[.slice A0_0 l0_0.length c0_0, .slice A0_1 l0_1.length c0_1]] (by rfl) rfl rfl (by (try simp only [List.map_toArray, List.map_cons, List.map_nil]); first | done | rfl | (simp only [List.length_drop, List.length_take]; rfl)) ?_
 with_reducible refine (laws_toAlgebra.calls k _ _ l0_0 _ _ l0_1 t391 t394 _ ?side1 ?side2 ?side3 ?side4 A23.out).mono ?_
 (case side1 => exact kC (Kd.C_below HR0_0.out HB.out))
 (case side2 => exact HC0_0.out)
 (case side3 => exact kC (Kd.C_below HR0_1.out HB.out))
 (case side4 => exact HC0_1.out)
 rintro e w49 ⟨v392, v395, rfl, ho0, ho1, hb⟩
 refine ⟨_, rfl, ?_⟩
 have HO393 := ak (Kd.R_lower ho0 (below_size (bB HB.out)))
 have HO396 := ak (Kd.S_lower ho1 (below_size (bB HB.out)))
 replace BK387 := ak (blk_below (kK BK387.out) hb)
 replace BK388 := ak (blk_below (kK BK388.out) hb)
 replace HB := ak (below_step (bB HB.out) hb)
 (try clear hb)
 (try clear hb2)
 (try clear hk)
 (try clear hi)
 (try clear ho0)
 (try clear ho1)
 refine hK.out _ _ ⟨(blk_cell BK387.out 0).trans rfl, (blk_cell BK387.out 1).trans rfl, (blk_cell BK388.out 0).trans rfl, (blk_cell BK388.out 1).trans rfl⟩ (fun hHeld => ?_)
 clear hK K
 refine norm_ (a' := ?_) ?_ ?_
 rotate_left
 ·show Act.put _ (some 27) _ = _
  simp only [Act.put, List.setIfInBounds_toArray, List.set_cons_zero, List.set_cons_succ, i64_w, i32_w]
  rfl
 refine one_ (i := 3) (N := some 29) #[true, true, true, true, true, false, false, false] rfl rfl (one_of HT_.out (by kernel_rfl)) (by decide) (fun K hK => ?_)
 refine goes_ Try.func13 (by kernel_rfl) rfl #[.agg #[.slice A1_0 l1_0.length c1_0, .slice A1_1 l1_1.length c1_1]] (by rfl) rfl rfl (by (try simp only [List.map_toArray, List.map_cons, List.map_nil]); first | done | rfl | (simp only [List.length_drop, List.length_take]; rfl)) ?_
 with_reducible refine (laws_toAlgebra.calls k _ _ l1_0 _ _ l1_1 t397 t400 _ ?side1 ?side2 ?side3 ?side4 A24.out).mono ?_
 (case side1 => exact kC (Kd.C_below HR1_0.out HB.out))
 (case side2 => exact HC1_0.out)
 (case side3 => exact kC (Kd.C_below HR1_1.out HB.out))
 (case side4 => exact HC1_1.out)
 rintro e w50 ⟨v398, v401, rfl, ho0, ho1, hb⟩
 refine ⟨_, rfl, ?_⟩
 have HO399 := ak (Kd.R_lower (Kd.R_new' ho0 (Kd.R_lt (kR HO393.out))) (below_size (bB HB.out)))
 have HO402 := ak (Kd.S_lower (Kd.S_new' (Kd.S_new' ho1 (Kd.R_lt (kR HO393.out))) (Kd.S_lt (kS HO396.out))) (below_size (bB HB.out)))
 replace HO393 := ak (Kd.R_elder' (kR HO393.out) (Kd.R_base ho0) hb)
 replace HO396 := ak (Kd.S_mono (Kd.S_told (Kd.S_told (Kd.S_old (kS HO396.out) hb) (Kd.R_base ho0)) (Kd.S_base ho1)) (fun _ h_ => h_.1))
 replace BK387 := ak (blk_below (kK BK387.out) hb)
 replace BK388 := ak (blk_below (kK BK388.out) hb)
 replace HB := ak (below_step (bB HB.out) hb)
 (try clear hb)
 (try clear hb2)
 (try clear hk)
 (try clear hi)
 (try clear ho0)
 (try clear ho1)
 refine hK.out _ _ ⟨(blk_cell BK387.out 0).trans rfl, (blk_cell BK387.out 1).trans rfl, (blk_cell BK388.out 0).trans rfl, (blk_cell BK388.out 1).trans rfl⟩ (fun hHeld => ?_)
 clear hK K
 refine norm_ (a' := ?_) ?_ ?_
 rotate_left
 ·show Act.put _ (some 29) _ = _
  simp only [Act.put, List.setIfInBounds_toArray, List.set_cons_zero, List.set_cons_succ, i64_w, i32_w]
  rfl
 refine one_ (i := 5) (N := some 31) #[true, true, true, true, true, true, false, false] rfl rfl (one_of HT_.out (by kernel_rfl)) (by decide) (fun K hK => ?_)
 refine goes_ Try.func14 (by kernel_rfl) rfl #[.slice A2 l2.length c2] (by rfl) rfl rfl (by (try simp only [List.map_toArray, List.map_cons, List.map_nil]); first | done | rfl | (simp only [List.length_drop, List.length_take]; rfl)) ?_
 with_reducible refine (laws_toIntS.calls k _ _ l2 t403 _ ?side1 ?side2 A25.out).mono ?_
 (case side1 => exact kC (Kd.C_below HR2.out HB.out))
 (case side2 => exact HC2.out)
 rintro e w51 ⟨v404, rfl, ho0, hb⟩
 refine ⟨_, rfl, ?_⟩
 replace HO396 := ak (Kd.S_elder' (kS HO396.out) (Kd.R_base ho0) hb)
 replace HO402 := ak (Kd.S_elder' (kS HO402.out) (Kd.R_base ho0) hb)
 have HO405 := ak (Kd.R_lower (Kd.R_new' (Kd.R_new' ho0 (Kd.R_lt (kR HO393.out))) (Kd.R_lt (kR HO399.out))) (below_size (bB HB.out)))
 replace HO393 := ak (Kd.R_elder' (kR HO393.out) (Kd.R_base ho0) hb)
 replace HO399 := ak (Kd.R_elder' (kR HO399.out) (Kd.R_base ho0) hb)
 replace BK387 := ak (blk_below (kK BK387.out) hb)
 replace BK388 := ak (blk_below (kK BK388.out) hb)
 replace HB := ak (below_step (bB HB.out) hb)
 (try clear hb)
 (try clear hb2)
 (try clear hk)
 (try clear hi)
 (try clear ho0)
 obtain ⟨Ao52, co52, eo52⟩ := Kd.R_slice HO393.out
 (first | subst eo52 | (injection eo52 with f1_ f2_ f3_; have f4_ := f1_.symm; have f5_ := f3_.symm; clear f1_ f2_ f3_; subst f4_; subst f5_))
 obtain ⟨Ao53, co53, eo53⟩ := Kd.S_slice HO396.out
 (first | subst eo53 | (injection eo53 with f1_ f2_ f3_; have f4_ := f1_.symm; have f5_ := f3_.symm; clear f1_ f2_ f3_; subst f4_; subst f5_))
 obtain ⟨Ao54, co54, eo54⟩ := Kd.R_slice HO399.out
 (first | subst eo54 | (injection eo54 with f1_ f2_ f3_; have f4_ := f1_.symm; have f5_ := f3_.symm; clear f1_ f2_ f3_; subst f4_; subst f5_))
 obtain ⟨Ao55, co55, eo55⟩ := Kd.S_slice HO402.out
 (first | subst eo55 | (injection eo55 with f1_ f2_ f3_; have f4_ := f1_.symm; have f5_ := f3_.symm; clear f1_ f2_ f3_; subst f4_; subst f5_))
 obtain ⟨Ao56, co56, eo56⟩ := Kd.R_slice HO405.out
 (first | subst eo56 | (injection eo56 with f1_ f2_ f3_; have f4_ := f1_.symm; have f5_ := f3_.symm; clear f1_ f2_ f3_; subst f4_; subst f5_))
 refine hK.out _ _ ⟨(blk_cell BK387.out 0).trans rfl, (blk_cell BK387.out 1).trans rfl, (blk_cell BK388.out 0).trans rfl, (blk_cell BK388.out 1).trans rfl⟩ (fun hHeld => ?_)
 clear hK K
 refine norm_ (a' := ?_) ?_ ?_
 rotate_left
 ·show Act.put _ (some 31) _ = _
  simp only [Act.put, List.setIfInBounds_toArray, List.set_cons_zero, List.set_cons_succ, i64_w, i32_w]
  rfl
 refine one_ (i := 6) (N := some 32) #[true, true, true, true, true, true, true, false] rfl rfl (one_of HT_.out (by kernel_rfl)) (by decide) (fun K hK => ?_)
 refine goes_ Try.func20 (by kernel_rfl) rfl #[.agg #[.slice Ao52 t391.length co52, .slice Ao53 t394.length co53], .agg #[.slice Ao54 t397.length co54, .slice Ao55 t400.length co55], .slice Ao56 t403.length co56] (by rfl) rfl rfl (by (try simp only [List.map_toArray, List.map_cons, List.map_nil]); first | done | rfl | (simp only [List.length_drop, List.length_take]; rfl)) ?_
 with_reducible refine (spec_KernelOf.calls k _ _ t391 _ _ t394 _ _ t397 _ _ t400 _ _ t403 t406 _ ?side1 ?side2 ?side3 ?side4 ?side5 ?side6 ?side7 ?side8 ?side9 ?side10 A26.out).mono ?_
 (case side1 => exact kC (Kd.R_reads' HO393.out).2.2)
 (case side2 => exact (Kd.R_reads' HO393.out).2.1)
 (case side3 => exact kC (Kd.S_reads' HO396.out).2.2)
 (case side4 => exact (Kd.S_reads' HO396.out).2.1)
 (case side5 => exact kC (Kd.R_reads' HO399.out).2.2)
 (case side6 => exact (Kd.R_reads' HO399.out).2.1)
 (case side7 => exact kC (Kd.S_reads' HO402.out).2.2)
 (case side8 => exact (Kd.S_reads' HO402.out).2.1)
 (case side9 => exact kC (Kd.R_reads' HO405.out).2.2)
 (case side10 => exact (Kd.R_reads' HO405.out).2.1)
 rintro e w57 ⟨rfl, hb⟩
 refine ⟨_, rfl, ?_⟩
 replace HO393 := ak (Kd.R_below (kR HO393.out) hb)
 replace HO396 := ak (Kd.S_below (kS HO396.out) hb)
 replace HO399 := ak (Kd.R_below (kR HO399.out) hb)
 replace HO402 := ak (Kd.S_below (kS HO402.out) hb)
 replace HO405 := ak (Kd.R_below (kR HO405.out) hb)
 replace BK387 := ak (blk_below (kK BK387.out) hb)
 replace BK388 := ak (blk_below (kK BK388.out) hb)
 replace HB := ak (below_step (bB HB.out) hb)
 (try clear hb)
 (try clear hb2)
 (try clear hk)
 (try clear hi)
 refine hK.out _ _ ⟨(blk_cell BK387.out 0).trans rfl, (blk_cell BK387.out 1).trans rfl, (blk_cell BK388.out 0).trans rfl, (blk_cell BK388.out 1).trans rfl⟩ (fun hHeld => ?_)
 clear hK K
 refine norm_ (a' := ?_) ?_ ?_
 rotate_left
 ·show Act.put _ (some 32) _ = _
  simp only [Act.put, List.setIfInBounds_toArray, List.set_cons_zero, List.set_cons_succ, i64_w, i32_w]
  rfl
 refine pu 7 8 255 8 ?_
 refine done_ (done_of HT_.out (by kernel_rfl)) ?_
 have hcz58_0 : w57.cell? ⟨gb387, 0, none⟩ = some (.slice A0_0 l0_0.length c0_0) := (blk_cell BK387.out 0).trans rfl
 have hcz58_1 : w57.cell? ⟨gb387, 1, none⟩ = some (.slice A0_1 l0_1.length c0_1) := (blk_cell BK387.out 1).trans rfl
 have hfz58_0 := blk_frozen BK387.out 0
 have hfz58_1 := blk_frozen BK387.out 1
 try go_wp2_with (first | ((with_reducible refine gate_callee (f := 13) rfl ?_); refine goesL_ (some 34) rfl rfl Try.func13 (by kernel_rfl) rfl #[.agg #[.slice A0_0 l0_0.length c0_0, .slice A0_1 l0_1.length c0_1]] rfl (by (try simp only [List.map_toArray, List.map_cons, List.map_nil]); first | done | rfl | (simp only [List.length_drop, List.length_take]; rfl)) ?_; (with_reducible refine (laws_toAlgebra.calls k _ _ l0_0 _ _ l0_1 t407 t410 _ ?side1 ?side2 ?side3 ?side4 A27.out).mono ?_); (case side1 => exact kC (Kd.C_below HR0_0.out HB.out)); (case side2 => exact HC0_0.out); (case side3 => exact kC (Kd.C_below HR0_1.out HB.out)); (case side4 => exact HC0_1.out); rintro e w59 ⟨v408, v411, rfl, ho0, ho1, hb⟩; refine ⟨_, rfl, ?_⟩; have HO409 := ak (Kd.R_lower (Kd.R_new' (Kd.R_new' (Kd.R_new' ho0 (Kd.R_lt (kR HO393.out))) (Kd.R_lt (kR HO399.out))) (Kd.R_lt (kR HO405.out))) (below_size (bB HB.out))); have HO412 := ak (Kd.S_lower (Kd.S_new' (Kd.S_new' (Kd.S_new' (Kd.S_new' (Kd.S_new' ho1 (Kd.R_lt (kR HO393.out))) (Kd.S_lt (kS HO396.out))) (Kd.R_lt (kR HO399.out))) (Kd.S_lt (kS HO402.out))) (Kd.R_lt (kR HO405.out))) (below_size (bB HB.out))); replace HO393 := ak (Kd.R_elder' (kR HO393.out) (Kd.R_base ho0) hb); replace HO396 := ak (Kd.S_mono (Kd.S_told (Kd.S_told (Kd.S_old (kS HO396.out) hb) (Kd.R_base ho0)) (Kd.S_base ho1)) (fun _ h_ => h_.1)); replace HO399 := ak (Kd.R_elder' (kR HO399.out) (Kd.R_base ho0) hb); replace HO402 := ak (Kd.S_mono (Kd.S_told (Kd.S_told (Kd.S_old (kS HO402.out) hb) (Kd.R_base ho0)) (Kd.S_base ho1)) (fun _ h_ => h_.1)); replace HO405 := ak (Kd.R_elder' (kR HO405.out) (Kd.R_base ho0) hb); replace BK387 := ak (blk_below (kK BK387.out) hb); replace BK388 := ak (blk_below (kK BK388.out) hb); replace HB := ak (below_step (bB HB.out) hb); (try clear hb); (try clear hb2); (try clear hk); (try clear hi); (try clear ho0); (try clear ho1)) | ((with_reducible refine gate_dst (N := 9) rfl ?_); refine box_event ?hg (N := 9) ?hd (cs := #[.slice none 0 0, .slice none 0 0]) (t := 28) ?hr ?_; (case hd => rfl); (case hg => rfl); (case hr => first | (go_simp; done) | (go_simp; rfl)); intro gb413 hg w60 hbox hb; replace HO393 := ak (Kd.R_below (kR HO393.out) hb); replace HO396 := ak (Kd.S_below (kS HO396.out) hb); replace HO399 := ak (Kd.R_below (kR HO399.out) hb); replace HO402 := ak (Kd.S_below (kS HO402.out) hb); replace HO405 := ak (Kd.R_below (kR HO405.out) hb); replace HO409 := ak (Kd.R_below (kR HO409.out) hb); replace HO412 := ak (Kd.S_below (kS HO412.out) hb); have BK413 := ak (hbox); have GW413 := ak ((by rw [hg]; exact (below_size (bB HB.out)) : w.heap.size ≤ gb413)); have GE413 := ak ((by rw [hg]; exact (below_size (bB HB.out)) : w.heap.size ≤ gb413)); replace HB := ak (below_step (bB HB.out) hb); have NB387_413 := ak ((ne_box hg (kK BK387.out))); have NB413_387 := ak ((ne_box' hg (kK BK387.out))); replace BK387 := ak (blk_below (kK BK387.out) hb); have NB388_413 := ak ((ne_box hg (kK BK388.out))); have NB413_388 := ak ((ne_box' hg (kK BK388.out))); replace BK388 := ak (blk_below (kK BK388.out) hb); clear hb hbox hg; obtain ⟨Ao61, co61, eo61⟩ := Kd.R_slice HO409.out; subst eo61; have hnb62 := NB413_387.out; have hnc62 := NB387_413.out; have hnb63 := NB413_388.out; have hnc63 := NB388_413.out; have hcz64_0 : w60.cell? ⟨gb413, 0, none⟩ = some (.slice none 0 0) := (blk_cell BK413.out 0).trans rfl; have hcz64_1 : w60.cell? ⟨gb413, 1, none⟩ = some (.slice none 0 0) := (blk_cell BK413.out 1).trans rfl; have hfz64_0 := blk_frozen BK413.out 0; have hfz64_1 := blk_frozen BK413.out 1; obtain ⟨Ao65, co65, eo65⟩ := Kd.S_slice HO412.out; subst eo65; have hcz66_0 : w60.cell? ⟨gb388, 0, none⟩ = some (.slice A1_0 l1_0.length c1_0) := (blk_cell BK388.out 0).trans rfl; have hcz66_1 : w60.cell? ⟨gb388, 1, none⟩ = some (.slice A1_1 l1_1.length c1_1) := (blk_cell BK388.out 1).trans rfl; have hfz66_0 := blk_frozen BK388.out 0; have hfz66_1 := blk_frozen BK388.out 1) | ((with_reducible refine gate_callee (f := 13) rfl ?_); refine goesL_ (some 36) rfl rfl Try.func13 (by kernel_rfl) rfl #[.agg #[.slice A1_0 l1_0.length c1_0, .slice A1_1 l1_1.length c1_1]] rfl (by (try simp only [List.map_toArray, List.map_cons, List.map_nil]); first | done | rfl | (simp only [List.length_drop, List.length_take]; rfl)) ?_; (with_reducible refine (laws_toAlgebra.calls k _ _ l1_0 _ _ l1_1 t414 t417 _ ?side1 ?side2 ?side3 ?side4 A28.out).mono ?_); (case side1 => exact Kd.C_below HR1_0.out (bB HB.out)); (case side2 => exact HC1_0.out); (case side3 => exact Kd.C_below HR1_1.out (bB HB.out)); (case side4 => exact HC1_1.out); rintro e w67 ⟨v415, v418, rfl, ho0, ho1, hb⟩; refine ⟨_, rfl, ?_⟩; have HO416 := ak (Kd.R_lower (Kd.R_new' (Kd.R_new' (Kd.R_new' (Kd.R_new' ho0 (Kd.R_lt (kR (s2R HO393.out BK413.out)))) (Kd.R_lt (kR (s2R HO399.out BK413.out)))) (Kd.R_lt (kR (s2R HO405.out BK413.out)))) (Kd.R_lt (kR (s2R HO409.out BK413.out)))) (below_size (bB HB.out))); have HO419 := ak (Kd.S_lower (Kd.S_new' (Kd.S_new' (Kd.S_new' (Kd.S_new' (Kd.S_new' (Kd.S_new' (Kd.S_new' ho1 (Kd.R_lt (kR (s2R HO393.out BK413.out)))) (Kd.S_lt (kS (s2S HO396.out BK413.out)))) (Kd.R_lt (kR (s2R HO399.out BK413.out)))) (Kd.S_lt (kS (s2S HO402.out BK413.out)))) (Kd.R_lt (kR (s2R HO405.out BK413.out)))) (Kd.R_lt (kR (s2R HO409.out BK413.out)))) (Kd.S_lt (kS (s2S HO412.out BK413.out)))) (below_size (bB HB.out))); replace HO393 := ak (Kd.R_elder' (kR (s2R HO393.out BK413.out)) (Kd.R_base ho0) hb); replace HO396 := ak (Kd.S_mono (Kd.S_told (Kd.S_told (Kd.S_old (kS (s2S HO396.out BK413.out)) hb) (Kd.R_base ho0)) (Kd.S_base ho1)) (fun _ h_ => h_.1)); replace HO399 := ak (Kd.R_elder' (kR (s2R HO399.out BK413.out)) (Kd.R_base ho0) hb); replace HO402 := ak (Kd.S_mono (Kd.S_told (Kd.S_told (Kd.S_old (kS (s2S HO402.out BK413.out)) hb) (Kd.R_base ho0)) (Kd.S_base ho1)) (fun _ h_ => h_.1)); replace HO405 := ak (Kd.R_elder' (kR (s2R HO405.out BK413.out)) (Kd.R_base ho0) hb); replace HO409 := ak (Kd.R_elder' (kR (s2R HO409.out BK413.out)) (Kd.R_base ho0) hb); replace HO412 := ak (Kd.S_mono (Kd.S_told (Kd.S_told (Kd.S_old (kS (s2S HO412.out BK413.out)) hb) (Kd.R_base ho0)) (Kd.S_base ho1)) (fun _ h_ => h_.1)); replace BK387 := ak (blk_below (kK (blk_far (blk_far BK387.out NB387_413.out _) NB387_413.out _)) hb); replace BK388 := ak (blk_below (kK (blk_far (blk_far BK388.out NB388_413.out _) NB388_413.out _)) hb); replace BK413 := ak (blk_below (g := gb413) (o := .cells #[.slice Ao61 t407.length co61, .slice Ao65 t410.length co65] 28 (0, 0)) (by refine blk_put (cs := #[.slice Ao61 t407.length co61, .slice none 0 0]) ?_ 1 _ rfl; refine blk_put (cs := #[.slice none 0 0, .slice none 0 0]) ?_ 0 _ rfl; exact BK413.out) hb); replace HB := ak (below_step (bB HB.out) hb); (try clear hb); (try clear hb2); (try clear hk); (try clear hi); (try clear ho0); (try clear ho1)) | ((with_reducible refine gate_dst (N := 10) rfl ?_); refine box_event ?hg (N := 10) ?hd (cs := #[.slice none 0 0, .slice none 0 0]) (t := 28) ?hr ?_; (case hd => rfl); (case hg => rfl); (case hr => first | (go_simp; done) | (go_simp; rfl)); intro gb420 hg w68 hbox hb; replace HO393 := ak (Kd.R_below (kR HO393.out) hb); replace HO396 := ak (Kd.S_below (kS HO396.out) hb); replace HO399 := ak (Kd.R_below (kR HO399.out) hb); replace HO402 := ak (Kd.S_below (kS HO402.out) hb); replace HO405 := ak (Kd.R_below (kR HO405.out) hb); replace HO409 := ak (Kd.R_below (kR HO409.out) hb); replace HO412 := ak (Kd.S_below (kS HO412.out) hb); replace HO416 := ak (Kd.R_below (kR HO416.out) hb); replace HO419 := ak (Kd.S_below (kS HO419.out) hb); have BK420 := ak (hbox); have GW420 := ak ((by rw [hg]; exact (below_size (bB HB.out)) : w.heap.size ≤ gb420)); have GE420 := ak ((by rw [hg]; exact (below_size (bB HB.out)) : w.heap.size ≤ gb420)); replace HB := ak (below_step (bB HB.out) hb); have NB387_420 := ak ((ne_box hg (kK BK387.out))); have NB420_387 := ak ((ne_box' hg (kK BK387.out))); replace BK387 := ak (blk_below (kK BK387.out) hb); have NB388_420 := ak ((ne_box hg (kK BK388.out))); have NB420_388 := ak ((ne_box' hg (kK BK388.out))); replace BK388 := ak (blk_below (kK BK388.out) hb); have NB413_420 := ak ((ne_box hg (kK BK413.out))); have NB420_413 := ak ((ne_box' hg (kK BK413.out))); replace BK413 := ak (blk_below (kK BK413.out) hb); clear hb hbox hg; obtain ⟨Ao69, co69, eo69⟩ := Kd.R_slice HO416.out; subst eo69; have hnb70 := NB420_387.out; have hnc70 := NB387_420.out; have hnb71 := NB420_388.out; have hnc71 := NB388_420.out; have hnb72 := NB420_413.out; have hnc72 := NB413_420.out; have hcz73_0 : w68.cell? ⟨gb420, 0, none⟩ = some (.slice none 0 0) := (blk_cell BK420.out 0).trans rfl; have hcz73_1 : w68.cell? ⟨gb420, 1, none⟩ = some (.slice none 0 0) := (blk_cell BK420.out 1).trans rfl; have hfz73_0 := blk_frozen BK420.out 0; have hfz73_1 := blk_frozen BK420.out 1; obtain ⟨Ao74, co74, eo74⟩ := Kd.S_slice HO419.out; subst eo74) | ((with_reducible refine gate_callee (f := 14) rfl ?_); refine goesL_ (some 38) rfl rfl Try.func14 (by kernel_rfl) rfl #[.slice A2 l2.length c2] rfl (by (try simp only [List.map_toArray, List.map_cons, List.map_nil]); first | done | rfl | (simp only [List.length_drop, List.length_take]; rfl)) ?_; (with_reducible refine (laws_toIntS.calls k _ _ l2 t421 _ ?side1 ?side2 A29.out).mono ?_); (case side1 => exact Kd.C_below HR2.out (bB HB.out)); (case side2 => exact HC2.out); rintro e w75 ⟨v422, rfl, ho0, hb⟩; refine ⟨_, rfl, ?_⟩; replace HO396 := ak (Kd.S_elder' (kS (s2S HO396.out BK420.out)) (Kd.R_base ho0) hb); replace HO402 := ak (Kd.S_elder' (kS (s2S HO402.out BK420.out)) (Kd.R_base ho0) hb); replace HO412 := ak (Kd.S_elder' (kS (s2S HO412.out BK420.out)) (Kd.R_base ho0) hb); replace HO419 := ak (Kd.S_elder' (kS (s2S HO419.out BK420.out)) (Kd.R_base ho0) hb); have HO423 := ak (Kd.R_lower (Kd.R_new' (Kd.R_new' (Kd.R_new' (Kd.R_new' (Kd.R_new' ho0 (Kd.R_lt (kR (s2R HO393.out BK420.out)))) (Kd.R_lt (kR (s2R HO399.out BK420.out)))) (Kd.R_lt (kR (s2R HO405.out BK420.out)))) (Kd.R_lt (kR (s2R HO409.out BK420.out)))) (Kd.R_lt (kR (s2R HO416.out BK420.out)))) (below_size (bB HB.out))); replace HO393 := ak (Kd.R_elder' (kR (s2R HO393.out BK420.out)) (Kd.R_base ho0) hb); replace HO399 := ak (Kd.R_elder' (kR (s2R HO399.out BK420.out)) (Kd.R_base ho0) hb); replace HO405 := ak (Kd.R_elder' (kR (s2R HO405.out BK420.out)) (Kd.R_base ho0) hb); replace HO409 := ak (Kd.R_elder' (kR (s2R HO409.out BK420.out)) (Kd.R_base ho0) hb); replace HO416 := ak (Kd.R_elder' (kR (s2R HO416.out BK420.out)) (Kd.R_base ho0) hb); replace BK387 := ak (blk_below (kK (blk_far (blk_far BK387.out NB387_420.out _) NB387_420.out _)) hb); replace BK388 := ak (blk_below (kK (blk_far (blk_far BK388.out NB388_420.out _) NB388_420.out _)) hb); replace BK413 := ak (blk_below (kK (blk_far (blk_far BK413.out NB413_420.out _) NB413_420.out _)) hb); replace BK420 := ak (blk_below (g := gb420) (o := .cells #[.slice Ao69 t414.length co69, .slice Ao74 t417.length co74] 28 (0, 0)) (by refine blk_put (cs := #[.slice Ao69 t414.length co69, .slice none 0 0]) ?_ 1 _ rfl; refine blk_put (cs := #[.slice none 0 0, .slice none 0 0]) ?_ 0 _ rfl; exact BK420.out) hb); replace HB := ak (below_step (bB HB.out) hb); (try clear hb); (try clear hb2); (try clear hk); (try clear hi); (try clear ho0); have hcz76_0 : w75.cell? ⟨gb413, 0, none⟩ = some (.slice Ao61 t407.length co61) := (blk_cell BK413.out 0).trans rfl; have hcz76_1 : w75.cell? ⟨gb413, 1, none⟩ = some (.slice Ao65 t410.length co65) := (blk_cell BK413.out 1).trans rfl; have hfz76_0 := blk_frozen BK413.out 0; have hfz76_1 := blk_frozen BK413.out 1; have hcz77_0 : w75.cell? ⟨gb420, 0, none⟩ = some (.slice Ao69 t414.length co69) := (blk_cell BK420.out 0).trans rfl; have hcz77_1 : w75.cell? ⟨gb420, 1, none⟩ = some (.slice Ao74 t417.length co74) := (blk_cell BK420.out 1).trans rfl; have hfz77_0 := blk_frozen BK420.out 0; have hfz77_1 := blk_frozen BK420.out 1; obtain ⟨Ao78, co78, eo78⟩ := Kd.R_slice HO423.out; subst eo78) | ((with_reducible refine gate_callee (f := 21) rfl ?_); refine goesL_ (some 42) rfl rfl Try.func21 (by kernel_rfl) rfl #[.agg #[.slice Ao61 t407.length co61, .slice Ao65 t410.length co65], .agg #[.slice Ao69 t414.length co69, .slice Ao74 t417.length co74], .slice Ao78 t421.length co78] rfl (by (try simp only [List.map_toArray, List.map_cons, List.map_nil]); first | done | rfl | (simp only [List.length_drop, List.length_take]; rfl)) ?_; (with_reducible refine (impl_KernelOf.calls k _ _ t407 _ _ t410 _ _ t414 _ _ t417 _ _ t421 t424 _ ?side1 ?side2 ?side3 ?side4 ?side5 ?side6 ?side7 ?side8 ?side9 ?side10 A30.out).mono ?_); (case side1 => exact kC (Kd.R_reads' HO409.out).2.2); (case side2 => exact (Kd.R_reads' HO409.out).2.1); (case side3 => exact kC (Kd.S_reads' HO412.out).2.2); (case side4 => exact (Kd.S_reads' HO412.out).2.1); (case side5 => exact kC (Kd.R_reads' HO416.out).2.2); (case side6 => exact (Kd.R_reads' HO416.out).2.1); (case side7 => exact kC (Kd.S_reads' HO419.out).2.2); (case side8 => exact (Kd.S_reads' HO419.out).2.1); (case side9 => exact kC (Kd.R_reads' HO423.out).2.2); (case side10 => exact (Kd.R_reads' HO423.out).2.1); rintro e w79 ⟨rfl, hb⟩; refine ⟨_, rfl, ?_⟩; replace HO393 := ak (Kd.R_below (kR HO393.out) hb); replace HO396 := ak (Kd.S_below (kS HO396.out) hb); replace HO399 := ak (Kd.R_below (kR HO399.out) hb); replace HO402 := ak (Kd.S_below (kS HO402.out) hb); replace HO405 := ak (Kd.R_below (kR HO405.out) hb); replace HO409 := ak (Kd.R_below (kR HO409.out) hb); replace HO412 := ak (Kd.S_below (kS HO412.out) hb); replace HO416 := ak (Kd.R_below (kR HO416.out) hb); replace HO419 := ak (Kd.S_below (kS HO419.out) hb); replace HO423 := ak (Kd.R_below (kR HO423.out) hb); replace BK387 := ak (blk_below (kK BK387.out) hb); replace BK388 := ak (blk_below (kK BK388.out) hb); replace BK413 := ak (blk_below (kK BK413.out) hb); replace BK420 := ak (blk_below (kK BK420.out) hb); replace HB := ak (below_step (bB HB.out) hb); (try clear hb); (try clear hb2); (try clear hk); (try clear hi)))
 replace HO393 := ak (Kd.R_drew HO393.out)
 replace HO396 := ak (Kd.S_drew HO396.out)
 replace HO399 := ak (Kd.R_drew HO399.out)
 replace HO402 := ak (Kd.S_drew HO402.out)
 replace HO405 := ak (Kd.R_drew HO405.out)
 replace HO409 := ak (Kd.R_drew HO409.out)
 replace HO412 := ak (Kd.S_drew HO412.out)
 replace HO416 := ak (Kd.R_drew HO416.out)
 replace HO419 := ak (Kd.S_drew HO419.out)
 replace HO423 := ak (Kd.R_drew HO423.out)
 replace BK387 := ak (blk_drew BK387.out)
 replace BK388 := ak (blk_drew BK388.out)
 replace BK413 := ak (blk_drew BK413.out)
 replace BK420 := ak (blk_drew BK420.out)
 replace HB := ak (below_drew1 HB.out)
 refine start_ (n := 5) (S := fun w' => w'.cell? ⟨gb413, 0, none⟩ = some (.slice Ao61 t407.length co61) ∧ w'.cell? ⟨gb413, 1, none⟩ = some (.slice Ao65 t410.length co65) ∧ w'.cell? ⟨gb387, 0, none⟩ = some (.slice A0_0 l0_0.length c0_0) ∧ w'.cell? ⟨gb387, 1, none⟩ = some (.slice A0_1 l0_1.length c0_1)) (ds := []) #[false, false, false, false, false] (by kernel_rfl) rfl rfl ⟨(blk_cell BK413.out 0).trans rfl, (blk_cell BK413.out 1).trans rfl, (blk_cell BK387.out 0).trans rfl, (blk_cell BK387.out 1).trans rfl⟩ (fun hHeld => ?_)
 generalize w79.drew = w80 at HO393 HO396 HO399 HO402 HO405 HO409 HO412 HO416 HO419 HO423 BK387 BK388 BK413 BK420 HB hHeld ⊢
 refine take_ (i := 0) (N := some 46) (v := ?_) (a' := ?_) #[true, false, false, false, false] rfl rfl (by kernel_rfl) (fun _ _ _ h => h) (Or.inl ⟨by rfl, ?_⟩) hHeld ?_ ?_
 rotate_left
 ·rintro w' ⟨s0, s1, s2, s3⟩
  go_simp
  with_reducible rfl
 rotate_left
 ·simp only [Act.put, List.setIfInBounds_toArray, List.set_cons_zero, List.set_cons_succ, i64_w, i32_w]
  rfl
 refine take_ (i := 1) (N := some 47) (v := ?_) (a' := ?_) #[true, true, false, false, false] rfl rfl (by kernel_rfl) (fun _ _ _ h => h) (Or.inl ⟨by rfl, ?_⟩) hHeld ?_ ?_
 rotate_left
 ·rintro w' ⟨s0, s1, s2, s3⟩
  go_simp
  with_reducible rfl
 rotate_left
 ·simp only [Act.put, List.setIfInBounds_toArray, List.set_cons_zero, List.set_cons_succ, i64_w, i32_w]
  rfl
 refine one_ (i := 2) (N := some 48) #[true, true, true, false, false] rfl rfl (by kernel_rfl) (by decide) (fun K hK => ?_)
 refine goes_ Try.func13 (by kernel_rfl) rfl #[.agg #[.slice A0_0 l0_0.length c0_0, .slice A0_1 l0_1.length c0_1]] (by rfl) rfl rfl (by (try simp only [List.map_toArray, List.map_cons, List.map_nil]); first | done | rfl | (simp only [List.length_drop, List.length_take]; rfl)) ?_
 with_reducible refine (laws_toAlgebra.calls k _ _ l0_0 _ _ l0_1 t425 t428 _ ?side1 ?side2 ?side3 ?side4 A32.out).mono ?_
 (case side1 => exact kC (Kd.C_below HR0_0.out HB.out))
 (case side2 => exact HC0_0.out)
 (case side3 => exact kC (Kd.C_below HR0_1.out HB.out))
 (case side4 => exact HC0_1.out)
 rintro e w81 ⟨v426, v429, rfl, ho0, ho1, hb⟩
 refine ⟨_, rfl, ?_⟩
 have HO427 := ak (Kd.R_lower (Kd.R_new' (Kd.R_new' (Kd.R_new' (Kd.R_new' (Kd.R_new' (Kd.R_new' ho0 (Kd.R_lt (kR HO393.out))) (Kd.R_lt (kR HO399.out))) (Kd.R_lt (kR HO405.out))) (Kd.R_lt (kR HO409.out))) (Kd.R_lt (kR HO416.out))) (Kd.R_lt (kR HO423.out))) (below_size (bB HB.out)))
 have HO430 := ak (Kd.S_lower (Kd.S_new' (Kd.S_new' (Kd.S_new' (Kd.S_new' (Kd.S_new' (Kd.S_new' (Kd.S_new' (Kd.S_new' (Kd.S_new' (Kd.S_new' ho1 (Kd.R_lt (kR HO393.out))) (Kd.S_lt (kS HO396.out))) (Kd.R_lt (kR HO399.out))) (Kd.S_lt (kS HO402.out))) (Kd.R_lt (kR HO405.out))) (Kd.R_lt (kR HO409.out))) (Kd.S_lt (kS HO412.out))) (Kd.R_lt (kR HO416.out))) (Kd.S_lt (kS HO419.out))) (Kd.R_lt (kR HO423.out))) (below_size (bB HB.out)))
 replace HO393 := ak (Kd.R_elder' (kR HO393.out) (Kd.R_base ho0) hb)
 replace HO396 := ak (Kd.S_mono (Kd.S_told (Kd.S_told (Kd.S_old (kS HO396.out) hb) (Kd.R_base ho0)) (Kd.S_base ho1)) (fun _ h_ => h_.1))
 replace HO399 := ak (Kd.R_elder' (kR HO399.out) (Kd.R_base ho0) hb)
 replace HO402 := ak (Kd.S_mono (Kd.S_told (Kd.S_told (Kd.S_old (kS HO402.out) hb) (Kd.R_base ho0)) (Kd.S_base ho1)) (fun _ h_ => h_.1))
 replace HO405 := ak (Kd.R_elder' (kR HO405.out) (Kd.R_base ho0) hb)
 replace HO409 := ak (Kd.R_elder' (kR HO409.out) (Kd.R_base ho0) hb)
 replace HO412 := ak (Kd.S_mono (Kd.S_told (Kd.S_told (Kd.S_old (kS HO412.out) hb) (Kd.R_base ho0)) (Kd.S_base ho1)) (fun _ h_ => h_.1))
 replace HO416 := ak (Kd.R_elder' (kR HO416.out) (Kd.R_base ho0) hb)
 replace HO419 := ak (Kd.S_mono (Kd.S_told (Kd.S_told (Kd.S_old (kS HO419.out) hb) (Kd.R_base ho0)) (Kd.S_base ho1)) (fun _ h_ => h_.1))
 replace HO423 := ak (Kd.R_elder' (kR HO423.out) (Kd.R_base ho0) hb)
 replace BK387 := ak (blk_below (kK BK387.out) hb)
 replace BK388 := ak (blk_below (kK BK388.out) hb)
 replace BK413 := ak (blk_below (kK BK413.out) hb)
 replace BK420 := ak (blk_below (kK BK420.out) hb)
 replace HB := ak (below_step (bB HB.out) hb)
 (try clear hb)
 (try clear hb2)
 (try clear hk)
 (try clear hi)
 (try clear ho0)
 (try clear ho1)
 obtain ⟨Ao82, co82, eo82⟩ := Kd.R_slice HO427.out
 (first | subst eo82 | (injection eo82 with f1_ f2_ f3_; have f4_ := f1_.symm; have f5_ := f3_.symm; clear f1_ f2_ f3_; subst f4_; subst f5_))
 obtain ⟨Ao83, co83, eo83⟩ := Kd.S_slice HO430.out
 (first | subst eo83 | (injection eo83 with f1_ f2_ f3_; have f4_ := f1_.symm; have f5_ := f3_.symm; clear f1_ f2_ f3_; subst f4_; subst f5_))
 refine hK.out _ _ ⟨(blk_cell BK413.out 0).trans rfl, (blk_cell BK413.out 1).trans rfl, (blk_cell BK387.out 0).trans rfl, (blk_cell BK387.out 1).trans rfl⟩ (fun hHeld => ?_)
 clear hK K
 refine norm_ (a' := ?_) ?_ ?_
 rotate_left
 ·show Act.put _ (some 48) _ = _
  simp only [Act.put, List.setIfInBounds_toArray, List.set_cons_zero, List.set_cons_succ, i64_w, i32_w]
  rfl
 refine one_ (i := 3) (N := some 49) #[true, true, true, true, false] rfl rfl (by kernel_rfl) (by decide) (fun K hK => ?_)
 refine goes_ Try.func16 (by kernel_rfl) rfl #[.agg #[.slice Ao61 t407.length co61, .slice Ao65 t410.length co65], .agg #[.slice Ao82 t425.length co82, .slice Ao83 t428.length co83]] (by rfl) rfl rfl (by (try simp only [List.map_toArray, List.map_cons, List.map_nil]); first | done | rfl | (simp only [List.length_drop, List.length_take]; rfl)) ?_
 with_reducible refine (laws_eqAlgebra.calls k _ _ t407 _ _ t410 _ _ t425 _ _ t428 true _ ?side1 ?side2 ?side3 ?side4 ?side5 ?side6 ?side7 ?side8 A33.out).mono ?_
 (case side1 => exact kC (Kd.R_reads' HO409.out).2.2)
 (case side2 => exact (Kd.R_reads' HO409.out).2.1)
 (case side3 => exact kC (Kd.S_reads' HO412.out).2.2)
 (case side4 => exact (Kd.S_reads' HO412.out).2.1)
 (case side5 => exact kC (Kd.R_reads' HO427.out).2.2)
 (case side6 => exact (Kd.R_reads' HO427.out).2.1)
 (case side7 => exact kC (Kd.S_reads' HO430.out).2.2)
 (case side8 => exact (Kd.S_reads' HO430.out).2.1)
 rintro e w84 ⟨rfl, hb⟩
 refine ⟨_, rfl, ?_⟩
 replace HO393 := ak (Kd.R_below (kR HO393.out) hb)
 replace HO396 := ak (Kd.S_below (kS HO396.out) hb)
 replace HO399 := ak (Kd.R_below (kR HO399.out) hb)
 replace HO402 := ak (Kd.S_below (kS HO402.out) hb)
 replace HO405 := ak (Kd.R_below (kR HO405.out) hb)
 replace HO409 := ak (Kd.R_below (kR HO409.out) hb)
 replace HO412 := ak (Kd.S_below (kS HO412.out) hb)
 replace HO416 := ak (Kd.R_below (kR HO416.out) hb)
 replace HO419 := ak (Kd.S_below (kS HO419.out) hb)
 replace HO423 := ak (Kd.R_below (kR HO423.out) hb)
 replace HO427 := ak (Kd.R_below (kR HO427.out) hb)
 replace HO430 := ak (Kd.S_below (kS HO430.out) hb)
 replace BK387 := ak (blk_below (kK BK387.out) hb)
 replace BK388 := ak (blk_below (kK BK388.out) hb)
 replace BK413 := ak (blk_below (kK BK413.out) hb)
 replace BK420 := ak (blk_below (kK BK420.out) hb)
 replace HB := ak (below_step (bB HB.out) hb)
 (try clear hb)
 (try clear hb2)
 (try clear hk)
 (try clear hi)
 refine hK.out _ _ ⟨(blk_cell BK413.out 0).trans rfl, (blk_cell BK413.out 1).trans rfl, (blk_cell BK387.out 0).trans rfl, (blk_cell BK387.out 1).trans rfl⟩ (fun hHeld => ?_)
 clear hK K
 refine norm_ (a' := ?_) ?_ ?_
 rotate_left
 ·show Act.put _ (some 49) _ = _
  simp only [Act.put, List.setIfInBounds_toArray, List.set_cons_zero, List.set_cons_succ, i64_w, i32_w]
  rfl
 refine pure_ (i := 4) (N := some 50) (v := ?_) (a' := ?_) #[true, true, true, true, true] rfl rfl (by kernel_rfl) (fun _ _ _ h => h) (Or.inl ⟨by rfl, ?_⟩) ?_ ?_
 rotate_left
 ·intro w'
  go_simp
  with_reducible rfl
 rotate_left
 ·simp only [Act.put, List.setIfInBounds_toArray, List.set_cons_zero, List.set_cons_succ, i64_w, i32_w]
  rfl
 refine done_ (by kernel_rfl) ?_
 try go_wp2
 replace HO393 := ak (Kd.R_drew HO393.out)
 replace HO396 := ak (Kd.S_drew HO396.out)
 replace HO399 := ak (Kd.R_drew HO399.out)
 replace HO402 := ak (Kd.S_drew HO402.out)
 replace HO405 := ak (Kd.R_drew HO405.out)
 replace HO409 := ak (Kd.R_drew HO409.out)
 replace HO412 := ak (Kd.S_drew HO412.out)
 replace HO416 := ak (Kd.R_drew HO416.out)
 replace HO419 := ak (Kd.S_drew HO419.out)
 replace HO423 := ak (Kd.R_drew HO423.out)
 replace HO427 := ak (Kd.R_drew HO427.out)
 replace HO430 := ak (Kd.S_drew HO430.out)
 replace BK387 := ak (blk_drew BK387.out)
 replace BK388 := ak (blk_drew BK388.out)
 replace BK413 := ak (blk_drew BK413.out)
 replace BK420 := ak (blk_drew BK420.out)
 replace HB := ak (below_drew1 HB.out)
 refine start_ (n := 5) (S := fun w' => w'.cell? ⟨gb420, 0, none⟩ = some (.slice Ao69 t414.length co69) ∧ w'.cell? ⟨gb420, 1, none⟩ = some (.slice Ao74 t417.length co74) ∧ w'.cell? ⟨gb388, 0, none⟩ = some (.slice A1_0 l1_0.length c1_0) ∧ w'.cell? ⟨gb388, 1, none⟩ = some (.slice A1_1 l1_1.length c1_1)) (ds := []) #[false, false, false, false, false] (by kernel_rfl) rfl rfl ⟨(blk_cell BK420.out 0).trans rfl, (blk_cell BK420.out 1).trans rfl, (blk_cell BK388.out 0).trans rfl, (blk_cell BK388.out 1).trans rfl⟩ (fun hHeld => ?_)
 generalize w84.drew = w85 at HO393 HO396 HO399 HO402 HO405 HO409 HO412 HO416 HO419 HO423 HO427 HO430 BK387 BK388 BK413 BK420 HB hHeld ⊢
 refine take_ (i := 0) (N := some 51) (v := ?_) (a' := ?_) #[true, false, false, false, false] rfl rfl (by kernel_rfl) (fun _ _ _ h => h) (Or.inl ⟨by rfl, ?_⟩) hHeld ?_ ?_
 rotate_left
 ·rintro w' ⟨s0, s1, s2, s3⟩
  go_simp
  with_reducible rfl
 rotate_left
 ·simp only [Act.put, List.setIfInBounds_toArray, List.set_cons_zero, List.set_cons_succ, i64_w, i32_w]
  rfl
 refine take_ (i := 1) (N := some 52) (v := ?_) (a' := ?_) #[true, true, false, false, false] rfl rfl (by kernel_rfl) (fun _ _ _ h => h) (Or.inl ⟨by rfl, ?_⟩) hHeld ?_ ?_
 rotate_left
 ·rintro w' ⟨s0, s1, s2, s3⟩
  go_simp
  with_reducible rfl
 rotate_left
 ·simp only [Act.put, List.setIfInBounds_toArray, List.set_cons_zero, List.set_cons_succ, i64_w, i32_w]
  rfl
 refine one_ (i := 2) (N := some 53) #[true, true, true, false, false] rfl rfl (by kernel_rfl) (by decide) (fun K hK => ?_)
 refine goes_ Try.func13 (by kernel_rfl) rfl #[.agg #[.slice A1_0 l1_0.length c1_0, .slice A1_1 l1_1.length c1_1]] (by rfl) rfl rfl (by (try simp only [List.map_toArray, List.map_cons, List.map_nil]); first | done | rfl | (simp only [List.length_drop, List.length_take]; rfl)) ?_
 with_reducible refine (laws_toAlgebra.calls k _ _ l1_0 _ _ l1_1 t432 t435 _ ?side1 ?side2 ?side3 ?side4 A35.out).mono ?_
 (case side1 => exact kC (Kd.C_below HR1_0.out HB.out))
 (case side2 => exact HC1_0.out)
 (case side3 => exact kC (Kd.C_below HR1_1.out HB.out))
 (case side4 => exact HC1_1.out)
 rintro e w86 ⟨v433, v436, rfl, ho0, ho1, hb⟩
 refine ⟨_, rfl, ?_⟩
 have HO434 := ak (Kd.R_lower (Kd.R_new' (Kd.R_new' (Kd.R_new' (Kd.R_new' (Kd.R_new' (Kd.R_new' (Kd.R_new' ho0 (Kd.R_lt (kR HO393.out))) (Kd.R_lt (kR HO399.out))) (Kd.R_lt (kR HO405.out))) (Kd.R_lt (kR HO409.out))) (Kd.R_lt (kR HO416.out))) (Kd.R_lt (kR HO423.out))) (Kd.R_lt (kR HO427.out))) (below_size (bB HB.out)))
 have HO437 := ak (Kd.S_lower (Kd.S_new' (Kd.S_new' (Kd.S_new' (Kd.S_new' (Kd.S_new' (Kd.S_new' (Kd.S_new' (Kd.S_new' (Kd.S_new' (Kd.S_new' (Kd.S_new' (Kd.S_new' ho1 (Kd.R_lt (kR HO393.out))) (Kd.S_lt (kS HO396.out))) (Kd.R_lt (kR HO399.out))) (Kd.S_lt (kS HO402.out))) (Kd.R_lt (kR HO405.out))) (Kd.R_lt (kR HO409.out))) (Kd.S_lt (kS HO412.out))) (Kd.R_lt (kR HO416.out))) (Kd.S_lt (kS HO419.out))) (Kd.R_lt (kR HO423.out))) (Kd.R_lt (kR HO427.out))) (Kd.S_lt (kS HO430.out))) (below_size (bB HB.out)))
 replace HO393 := ak (Kd.R_elder' (kR HO393.out) (Kd.R_base ho0) hb)
 replace HO396 := ak (Kd.S_mono (Kd.S_told (Kd.S_told (Kd.S_old (kS HO396.out) hb) (Kd.R_base ho0)) (Kd.S_base ho1)) (fun _ h_ => h_.1))
 replace HO399 := ak (Kd.R_elder' (kR HO399.out) (Kd.R_base ho0) hb)
 replace HO402 := ak (Kd.S_mono (Kd.S_told (Kd.S_told (Kd.S_old (kS HO402.out) hb) (Kd.R_base ho0)) (Kd.S_base ho1)) (fun _ h_ => h_.1))
 replace HO405 := ak (Kd.R_elder' (kR HO405.out) (Kd.R_base ho0) hb)
 replace HO409 := ak (Kd.R_elder' (kR HO409.out) (Kd.R_base ho0) hb)
 replace HO412 := ak (Kd.S_mono (Kd.S_told (Kd.S_told (Kd.S_old (kS HO412.out) hb) (Kd.R_base ho0)) (Kd.S_base ho1)) (fun _ h_ => h_.1))
 replace HO416 := ak (Kd.R_elder' (kR HO416.out) (Kd.R_base ho0) hb)
 replace HO419 := ak (Kd.S_mono (Kd.S_told (Kd.S_told (Kd.S_old (kS HO419.out) hb) (Kd.R_base ho0)) (Kd.S_base ho1)) (fun _ h_ => h_.1))
 replace HO423 := ak (Kd.R_elder' (kR HO423.out) (Kd.R_base ho0) hb)
 replace HO427 := ak (Kd.R_elder' (kR HO427.out) (Kd.R_base ho0) hb)
 replace HO430 := ak (Kd.S_mono (Kd.S_told (Kd.S_told (Kd.S_old (kS HO430.out) hb) (Kd.R_base ho0)) (Kd.S_base ho1)) (fun _ h_ => h_.1))
 replace BK387 := ak (blk_below (kK BK387.out) hb)
 replace BK388 := ak (blk_below (kK BK388.out) hb)
 replace BK413 := ak (blk_below (kK BK413.out) hb)
 replace BK420 := ak (blk_below (kK BK420.out) hb)
 replace HB := ak (below_step (bB HB.out) hb)
 (try clear hb)
 (try clear hb2)
 (try clear hk)
 (try clear hi)
 (try clear ho0)
 (try clear ho1)
 obtain ⟨Ao87, co87, eo87⟩ := Kd.R_slice HO434.out
 (first | subst eo87 | (injection eo87 with f1_ f2_ f3_; have f4_ := f1_.symm; have f5_ := f3_.symm; clear f1_ f2_ f3_; subst f4_; subst f5_))
 obtain ⟨Ao88, co88, eo88⟩ := Kd.S_slice HO437.out
 (first | subst eo88 | (injection eo88 with f1_ f2_ f3_; have f4_ := f1_.symm; have f5_ := f3_.symm; clear f1_ f2_ f3_; subst f4_; subst f5_))
 refine hK.out _ _ ⟨(blk_cell BK420.out 0).trans rfl, (blk_cell BK420.out 1).trans rfl, (blk_cell BK388.out 0).trans rfl, (blk_cell BK388.out 1).trans rfl⟩ (fun hHeld => ?_)
 clear hK K
 refine norm_ (a' := ?_) ?_ ?_
 rotate_left
 ·show Act.put _ (some 53) _ = _
  simp only [Act.put, List.setIfInBounds_toArray, List.set_cons_zero, List.set_cons_succ, i64_w, i32_w]
  rfl
 refine one_ (i := 3) (N := some 54) #[true, true, true, true, false] rfl rfl (by kernel_rfl) (by decide) (fun K hK => ?_)
 refine goes_ Try.func16 (by kernel_rfl) rfl #[.agg #[.slice Ao69 t414.length co69, .slice Ao74 t417.length co74], .agg #[.slice Ao87 t432.length co87, .slice Ao88 t435.length co88]] (by rfl) rfl rfl (by (try simp only [List.map_toArray, List.map_cons, List.map_nil]); first | done | rfl | (simp only [List.length_drop, List.length_take]; rfl)) ?_
 with_reducible refine (laws_eqAlgebra.calls k _ _ t414 _ _ t417 _ _ t432 _ _ t435 true _ ?side1 ?side2 ?side3 ?side4 ?side5 ?side6 ?side7 ?side8 A36.out).mono ?_
 (case side1 => exact kC (Kd.R_reads' HO416.out).2.2)
 (case side2 => exact (Kd.R_reads' HO416.out).2.1)
 (case side3 => exact kC (Kd.S_reads' HO419.out).2.2)
 (case side4 => exact (Kd.S_reads' HO419.out).2.1)
 (case side5 => exact kC (Kd.R_reads' HO434.out).2.2)
 (case side6 => exact (Kd.R_reads' HO434.out).2.1)
 (case side7 => exact kC (Kd.S_reads' HO437.out).2.2)
 (case side8 => exact (Kd.S_reads' HO437.out).2.1)
 rintro e w89 ⟨rfl, hb⟩
 refine ⟨_, rfl, ?_⟩
 replace HO393 := ak (Kd.R_below (kR HO393.out) hb)
 replace HO396 := ak (Kd.S_below (kS HO396.out) hb)
 replace HO399 := ak (Kd.R_below (kR HO399.out) hb)
 replace HO402 := ak (Kd.S_below (kS HO402.out) hb)
 replace HO405 := ak (Kd.R_below (kR HO405.out) hb)
 replace HO409 := ak (Kd.R_below (kR HO409.out) hb)
 replace HO412 := ak (Kd.S_below (kS HO412.out) hb)
 replace HO416 := ak (Kd.R_below (kR HO416.out) hb)
 replace HO419 := ak (Kd.S_below (kS HO419.out) hb)
 replace HO423 := ak (Kd.R_below (kR HO423.out) hb)
 replace HO427 := ak (Kd.R_below (kR HO427.out) hb)
 replace HO430 := ak (Kd.S_below (kS HO430.out) hb)
 replace HO434 := ak (Kd.R_below (kR HO434.out) hb)
 replace HO437 := ak (Kd.S_below (kS HO437.out) hb)
 replace BK387 := ak (blk_below (kK BK387.out) hb)
 replace BK388 := ak (blk_below (kK BK388.out) hb)
 replace BK413 := ak (blk_below (kK BK413.out) hb)
 replace BK420 := ak (blk_below (kK BK420.out) hb)
 replace HB := ak (below_step (bB HB.out) hb)
 (try clear hb)
 (try clear hb2)
 (try clear hk)
 (try clear hi)
 refine hK.out _ _ ⟨(blk_cell BK420.out 0).trans rfl, (blk_cell BK420.out 1).trans rfl, (blk_cell BK388.out 0).trans rfl, (blk_cell BK388.out 1).trans rfl⟩ (fun hHeld => ?_)
 clear hK K
 refine norm_ (a' := ?_) ?_ ?_
 rotate_left
 ·show Act.put _ (some 54) _ = _
  simp only [Act.put, List.setIfInBounds_toArray, List.set_cons_zero, List.set_cons_succ, i64_w, i32_w]
  rfl
 refine pure_ (i := 4) (N := some 55) (v := ?_) (a' := ?_) #[true, true, true, true, true] rfl rfl (by kernel_rfl) (fun _ _ _ h => h) (Or.inl ⟨by rfl, ?_⟩) ?_ ?_
 rotate_left
 ·intro w'
  go_simp
  with_reducible rfl
 rotate_left
 ·simp only [Act.put, List.setIfInBounds_toArray, List.set_cons_zero, List.set_cons_succ, i64_w, i32_w]
  rfl
 refine done_ (by kernel_rfl) ?_
 try go_wp2_with (first | ((with_reducible refine gate_callee (f := 14) rfl ?_); refine goesL_ (some 58) rfl rfl Try.func14 (by kernel_rfl) rfl #[.slice A2 l2.length c2] rfl (by (try simp only [List.map_toArray, List.map_cons, List.map_nil]); first | done | rfl | (simp only [List.length_drop, List.length_take]; rfl)) ?_; (with_reducible refine (laws_toIntS.calls k _ _ l2 t439 _ ?side1 ?side2 A38.out).mono ?_); (case side1 => exact kC (Kd.C_below HR2.out HB.out)); (case side2 => exact HC2.out); rintro e w90 ⟨v440, rfl, ho0, hb⟩; refine ⟨_, rfl, ?_⟩; replace HO396 := ak (Kd.S_elder' (kS HO396.out) (Kd.R_base ho0) hb); replace HO402 := ak (Kd.S_elder' (kS HO402.out) (Kd.R_base ho0) hb); replace HO412 := ak (Kd.S_elder' (kS HO412.out) (Kd.R_base ho0) hb); replace HO419 := ak (Kd.S_elder' (kS HO419.out) (Kd.R_base ho0) hb); replace HO430 := ak (Kd.S_elder' (kS HO430.out) (Kd.R_base ho0) hb); replace HO437 := ak (Kd.S_elder' (kS HO437.out) (Kd.R_base ho0) hb); have HO441 := ak (Kd.R_lower (Kd.R_new' (Kd.R_new' (Kd.R_new' (Kd.R_new' (Kd.R_new' (Kd.R_new' (Kd.R_new' (Kd.R_new' ho0 (Kd.R_lt (kR HO393.out))) (Kd.R_lt (kR HO399.out))) (Kd.R_lt (kR HO405.out))) (Kd.R_lt (kR HO409.out))) (Kd.R_lt (kR HO416.out))) (Kd.R_lt (kR HO423.out))) (Kd.R_lt (kR HO427.out))) (Kd.R_lt (kR HO434.out))) (below_size (bB HB.out))); replace HO393 := ak (Kd.R_elder' (kR HO393.out) (Kd.R_base ho0) hb); replace HO399 := ak (Kd.R_elder' (kR HO399.out) (Kd.R_base ho0) hb); replace HO405 := ak (Kd.R_elder' (kR HO405.out) (Kd.R_base ho0) hb); replace HO409 := ak (Kd.R_elder' (kR HO409.out) (Kd.R_base ho0) hb); replace HO416 := ak (Kd.R_elder' (kR HO416.out) (Kd.R_base ho0) hb); replace HO423 := ak (Kd.R_elder' (kR HO423.out) (Kd.R_base ho0) hb); replace HO427 := ak (Kd.R_elder' (kR HO427.out) (Kd.R_base ho0) hb); replace HO434 := ak (Kd.R_elder' (kR HO434.out) (Kd.R_base ho0) hb); replace BK387 := ak (blk_below (kK BK387.out) hb); replace BK388 := ak (blk_below (kK BK388.out) hb); replace BK413 := ak (blk_below (kK BK413.out) hb); replace BK420 := ak (blk_below (kK BK420.out) hb); replace HB := ak (below_step (bB HB.out) hb); (try clear hb); (try clear hb2); (try clear hk); (try clear hi); (try clear ho0); obtain ⟨Ao91, co91, eo91⟩ := Kd.R_slice HO441.out; subst eo91) | ((with_reducible refine gate_callee (f := 17) rfl ?_); refine goesL_ (some 59) rfl rfl Try.func17 (by kernel_rfl) rfl #[.slice Ao78 t421.length co78, .slice Ao91 t439.length co91] rfl (by (try simp only [List.map_toArray, List.map_cons, List.map_nil]); first | done | rfl | (simp only [List.length_drop, List.length_take]; rfl)) ?_; (with_reducible refine (laws_eqIntS.calls k _ _ t421 _ _ t439 true _ ?side1 ?side2 ?side3 ?side4 A39.out).mono ?_); (case side1 => exact kC (Kd.R_reads' HO423.out).2.2); (case side2 => exact (Kd.R_reads' HO423.out).2.1); (case side3 => exact kC (Kd.R_reads' HO441.out).2.2); (case side4 => exact (Kd.R_reads' HO441.out).2.1); rintro e w' ⟨rfl, ⟨nd, rfl⟩⟩; refine ⟨_, rfl, ?_⟩))
 go_ret
 exact ⟨by first | rfl | (simp [errW_none, errW_some] <;> rfl) | (simp [*, errW_none, errW_some] <;> rfl), by repeat (first | (with_reducible first | exact HB.out | apply below_alloc | apply pw_below_drewN | apply below_drew1 | refine below_set ?_ GE387.out | refine below_set ?_ GE388.out | refine below_set ?_ GE413.out | refine below_set ?_ GE420.out) | exact HB.out)⟩
/-- THE ONE PURE STATEMENT of laws_FnExactKernelOf: yours. -/
def laws_FnExactKernelOf.Pure : Prop := ∀ (l0_0 : List Int) (l0_1 : List (List Int)) (l1_0 : List Int) (l1_1 : List (List Int)) (l2 : List Int), l0_0.length ≤ maxLen → (∀ x ∈ l0_0, (Lit.int .i64 x).wf = true) → l0_1.length ≤ maxLen → (∀ r ∈ l0_1, r.length ≤ maxLen ∧ ∀ x ∈ r, (Lit.int .i64 x).wf = true) → l1_0.length ≤ maxLen → (∀ x ∈ l1_0, (Lit.int .i64 x).wf = true) → l1_1.length ≤ maxLen → (∀ r ∈ l1_1, r.length ≤ maxLen ∧ ∀ x ∈ r, (Lit.int .i64 x).wf = true) → l2.length ≤ maxLen → l2.length * 8 ≤ 140737488351232 → (∀ x ∈ l2, (Lit.int .i64 x).wf = true) → ∃ k, laws_FnExactKernelOf.f k l0_0 l0_1 l1_0 l1_1 l2 = some true
theorem laws_FnExactKernelOf.walk (P : laws_FnExactKernelOf.Pure) (A0_0 : Option Addr) (c0_0 : Nat) (l0_0 : List Int) (A0_1 : Option Addr) (c0_1 : Nat) (l0_1 : List (List Int)) (A1_0 : Option Addr) (c1_0 : Nat) (l1_0 : List Int) (A1_1 : Option Addr) (c1_1 : Nat) (l1_1 : List (List Int)) (a2 : Option Addr) (len2 cap2 : Nat) (z2 : List Int) (w : World) (hr0_0 : Kd.C (Kd.int .i64) w A0_0 l0_0.length l0_0) (hc0_0 : l0_0.length ≤ c0_0) (hm0_0 : l0_0.length ≤ maxLen) (hw0_0 : (∀ x ∈ l0_0, (Lit.int .i64 x).wf = true)) (hr0_1 : Kd.C (Kd.slice 3 (Kd.int .i64)) w A0_1 l0_1.length l0_1) (hc0_1 : l0_1.length ≤ c0_1) (hm0_1 : l0_1.length ≤ maxLen) (hw0_1 : (∀ r ∈ l0_1, r.length ≤ maxLen ∧ ∀ x ∈ r, (Lit.int .i64 x).wf = true)) (hr1_0 : Kd.C (Kd.int .i64) w A1_0 l1_0.length l1_0) (hc1_0 : l1_0.length ≤ c1_0) (hm1_0 : l1_0.length ≤ maxLen) (hw1_0 : (∀ x ∈ l1_0, (Lit.int .i64 x).wf = true)) (hr1_1 : Kd.C (Kd.slice 3 (Kd.int .i64)) w A1_1 l1_1.length l1_1) (hc1_1 : l1_1.length ≤ c1_1) (hm1_1 : l1_1.length ≤ maxLen) (hw1_1 : (∀ r ∈ l1_1, r.length ≤ maxLen ∧ ∀ x ∈ r, (Lit.int .i64 x).wf = true)) (w2 : (a2 = none ∧ len2 = 0 ∧ cap2 = 0 ∧ z2 = []) ∨ ∃ x, a2 = some x ∧ len2 ≤ cap2 ∧ cap2 ≤ maxLen ∧ z2.length = cap2 ∧ (∀ i, i < z2.length → w.cell? (x.add i) = some (.int .i64 (z2.getD i 0))) ∧ ∀ n ∈ z2, (Lit.int .i64 n).wf = true) (y2 : len2 * 8 ≤ 140737488351232) :
  Calls Try.prog 5 #[.agg #[.slice A0_0 l0_0.length c0_0, .slice A0_1 l0_1.length c0_1], .agg #[.slice A1_0 l1_0.length c1_0, .slice A1_1 l1_1.length c1_1], .slice a2 len2 cap2] w fun e w' => e = .returned (.bool true) ∧ Below w.heap.size w w' := by
 obtain ⟨l2, rfl, hr2, hm2, hw2, hc2⟩ := ReadsInt.ofRowC w2
 obtain ⟨k, h⟩ := P l0_0 l0_1 l1_0 l1_1 l2 hm0_0 hw0_0 hm0_1 hw0_1 hm1_0 hw1_0 hm1_1 hw1_1 hm2 y2 hw2
 refine (laws_FnExactKernelOf.calls k _ _ l0_0 _ _ l0_1 _ _ l1_0 _ _ l1_1 _ _ l2 true w hr0_0 hc0_0 hr0_1 hc0_1 hr1_0 hc1_0 hr1_1 hc1_1 (Kd.C_of_reads (d := (0 : Int)) (h1 := fun _ => rfl) hr2) hc2 ⟨rfl⟩ h).mono ?_
 rintro e w' ⟨rfl, hd⟩
 exact ⟨rfl, hd⟩
end Go.Proofs.Ytomapoenndlbiaa.P

-- shrunk
