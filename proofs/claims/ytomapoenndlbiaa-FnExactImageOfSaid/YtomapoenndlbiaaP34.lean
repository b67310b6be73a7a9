-- Printed by this session's wip/print2.py (the kit's print.py, widened) out of the translation. Lean checks it.
import Derived.Test.YtomapoenndlbiaaP0
import Derived.Test.YtomapoenndlbiaaP2
import Derived.Test.YtomapoenndlbiaaP3
import Derived.Test.YtomapoenndlbiaaP4
import Derived.Test.YtomapoenndlbiaaP5
import Derived.Test.YtomapoenndlbiaaP7
import Derived.Test.YtomapoenndlbiaaP32
import Derived.Test.YtomapoenndlbiaaP33
namespace Go.Proofs.Ytomapoenndlbiaa.P
open Go.RowKit Go.Proofs.YtomapoenndlbiaaW.PrintWords Go.Proofs.YtomapoenndlbiaaW.PrintLast Go.Proofs.YtomapoenndlbiaaW.PrintMore
attribute [local go_sem] max2_int min2_int max_two min_two max_three min_three max_four min_four   -- for this text's walks alone
set_option linter.unusedVariables false
set_option linter.unusedSimpArgs false

/-! ### laws_FnExactImageOf: function 6 -/
def laws_FnExactImageOf.f (k : Nat) (l0_0 : List Int) (l0_1 : List (List Int)) (l1_0 : List Int) (l1_1 : List (List Int)) (l2 : List Int) : Option (Bool) := if (l2.length : Int) > 1048576 then (some true) else ((laws_szAlgebra.f k l0_0 l0_1 1048576).bind fun t458 => (if t458 < 0 then (some true) else ((laws_szAlgebra.f k l1_0 l1_1 t458).bind fun t459 => (if t459 < 0 then (some true) else ((laws_toAlgebra.f k l0_0 l0_1).bind fun bt460 => ((laws_toAlgebra.f k l1_0 l1_1).bind fun bt466 => ((laws_toIntS.f k l2).bind fun t472 => ((spec_ImageOf.f k bt460.1 bt460.2 bt466.1 bt466.2 t472).bind fun t475 => ((laws_toAlgebra.f k l0_0 l0_1).bind fun bt476 => ((laws_toAlgebra.f k l1_0 l1_1).bind fun bt483 => ((laws_toIntS.f k l2).bind fun t490 => ((impl_ImageOf.f k bt476.1 bt476.2 bt483.1 bt483.2 t490).bind fun t493 => (if t493 = t475 then ((laws_toAlgebra.f k l0_0 l0_1).bind fun bt494 => ((laws_eqAlgebra.f k bt476.1 bt476.2 bt494.1 bt494.2).bind fun t500 => (if t500 = true then ((laws_toAlgebra.f k l1_0 l1_1).bind fun bt501 => ((laws_eqAlgebra.f k bt483.1 bt483.2 bt501.1 bt501.2).bind fun t507 => (if t507 = true then ((laws_toIntS.f k l2).bind fun t508 => ((laws_eqIntS.f k t490 t508).bind fun t511 => (if t511 = true then (some true) else (some false)))) else (some false)))) else (some false)))) else (some false))))))))))))))
def laws_FnExactImageOf.T10 : Bool × List (List Nat × List Nat) := (true, [([], []), ([0], [0]), ([], []), ([2, 1], [2]), ([], []), ([4, 3], [4]), ([1, 3, 5, 5], [1, 3, 5]), ([6, 6, 0, 1, 2, 3, 4, 5, 6], [6])])
def laws_FnExactImageOf.B10 : List Nat := [0, 1, 0, 7, 0, 31, 63, 127]
theorem laws_FnExactImageOf.tab10 : rtab .any (opsOf Try.f6 10) = laws_FnExactImageOf.T10 := by kernel_rfl
theorem laws_FnExactImageOf.bits10 : waitsOk laws_FnExactImageOf.T10.2 laws_FnExactImageOf.B10 = true := by kernel_rfl
set_option maxHeartbeats 8000000 in
set_option maxRecDepth 100000 in
theorem laws_FnExactImageOf.calls (k : Nat) (A0_0 : Option Addr) (c0_0 : Nat) (l0_0 : List Int) (A0_1 : Option Addr) (c0_1 : Nat) (l0_1 : List (List Int)) (A1_0 : Option Addr) (c1_0 : Nat) (l1_0 : List Int) (A1_1 : Option Addr) (c1_1 : Nat) (l1_1 : List (List Int)) (A2 : Option Addr) (c2 : Nat) (l2 : List Int) (r : Bool) (w : World) (hr0_0 : Kd.C (Kd.int .i64) w A0_0 l0_0.length l0_0) (hc0_0 : l0_0.length ≤ c0_0) (hr0_1 : Kd.C (Kd.slice 3 (Kd.int .i64)) w A0_1 l0_1.length l0_1) (hc0_1 : l0_1.length ≤ c0_1) (hr1_0 : Kd.C (Kd.int .i64) w A1_0 l1_0.length l1_0) (hc1_0 : l1_0.length ≤ c1_0) (hr1_1 : Kd.C (Kd.slice 3 (Kd.int .i64)) w A1_1 l1_1.length l1_1) (hc1_1 : l1_1.length ≤ c1_1) (hr2 : Kd.C (Kd.int .i64) w A2 l2.length l2) (hc2 : l2.length ≤ c2) (hrt : Aside0 (r = true)) (h : laws_FnExactImageOf.f k l0_0 l0_1 l1_0 l1_1 l2 = some r) :
  Calls Try.prog 6 #[.agg #[.slice A0_0 l0_0.length c0_0, .slice A0_1 l0_1.length c0_1], .agg #[.slice A1_0 l1_0.length c1_0, .slice A1_1 l1_1.length c1_1], .slice A2 l2.length c2] w fun e w' => e = .returned (.bool r) ∧ Below w.heap.size w w' := by
 have hu25 := Try.underlying25
 have hu28 := Try.underlying28
 have HR0_0 := ak hr0_0
 have HC0_0 := ak hc0_0
 clear hr0_0 hc0_0
 have HR0_1 := ak hr0_1
 have HC0_1 := ak hc0_1
 clear hr0_1 hc0_1
 have HR1_0 := ak hr1_0
 have HC1_0 := ak hc1_0
 clear hr1_0 hc1_0
 have HR1_1 := ak hr1_1
 have HC1_1 := ak hc1_1
 clear hr1_1 hc1_1
 have HR2 := ak hr2
 have HC2 := ak hc2
 clear hr2 hc2
 have HB := ak (Below.refl w.heap.size w)
 have H : (if (l2.length : Int) > 1048576 then (some true) else ((laws_szAlgebra.f k l0_0 l0_1 1048576).bind fun t458 => (if t458 < 0 then (some true) else ((laws_szAlgebra.f k l1_0 l1_1 t458).bind fun t459 => (if t459 < 0 then (some true) else ((laws_toAlgebra.f k l0_0 l0_1).bind fun bt460 => ((laws_toAlgebra.f k l1_0 l1_1).bind fun bt466 => ((laws_toIntS.f k l2).bind fun t472 => ((spec_ImageOf.f k bt460.1 bt460.2 bt466.1 bt466.2 t472).bind fun t475 => ((laws_toAlgebra.f k l0_0 l0_1).bind fun bt476 => ((laws_toAlgebra.f k l1_0 l1_1).bind fun bt483 => ((laws_toIntS.f k l2).bind fun t490 => ((impl_ImageOf.f k bt476.1 bt476.2 bt483.1 bt483.2 t490).bind fun t493 => (if t493 = t475 then ((laws_toAlgebra.f k l0_0 l0_1).bind fun bt494 => ((laws_eqAlgebra.f k bt476.1 bt476.2 bt494.1 bt494.2).bind fun t500 => (if t500 = true then ((laws_toAlgebra.f k l1_0 l1_1).bind fun bt501 => ((laws_eqAlgebra.f k bt483.1 bt483.2 bt501.1 bt501.2).bind fun t507 => (if t507 = true then ((laws_toIntS.f k l2).bind fun t508 => ((laws_eqIntS.f k t490 t508).bind fun t511 => (if t511 = true then (some true) else (some false)))) else (some false)))) else (some false)))) else (some false))))))))))))))) = some r := h
 clear h
 by_cases c4 : (l2.length : Int) > 1048576
 ·rw [if_pos c4] at H
  have c4b0 : decide (1048576 < (l2.length : Int)) = true := decide_eq_true c4
  have c4b1 : decide (1048576 < l2.length) = true := decide_eq_true (by omega)
  clear c4
  obtain rfl := Option.some.inj H
  go_enter Try.func6, Try.ntmps6
  go_wp2_with (first | ((with_reducible refine gate_dst (N := 3) rfl ?_); refine box_event ?hg (N := 3) ?hd (cs := #[.slice A0_0 l0_0.length c0_0, .slice A0_1 l0_1.length c0_1]) (t := 25) ?hr ?_; (case hd => rfl); (case hg => rfl); (case hr => first | (go_simp; done) | (go_simp; rfl)); intro gb456 hg w5 hbox hb; have BK456 := ak (hbox); have GW456 := ak ((by rw [hg]; exact (below_size (bB HB.out)) : w.heap.size ≤ gb456)); have GE456 := ak ((by rw [hg]; exact (below_size (bB HB.out)) : w.heap.size ≤ gb456)); replace HB := ak (below_step (bB HB.out) hb); clear hb hbox hg) | ((with_reducible refine gate_dst (N := 4) rfl ?_); refine box_event ?hg (N := 4) ?hd (cs := #[.slice A1_0 l1_0.length c1_0, .slice A1_1 l1_1.length c1_1]) (t := 25) ?hr ?_; (case hd => rfl); (case hg => rfl); (case hr => first | (go_simp; done) | (go_simp; rfl)); intro gb457 hg w6 hbox hb; have BK457 := ak (hbox); have GW457 := ak ((by rw [hg]; exact (below_size (bB HB.out)) : w.heap.size ≤ gb457)); have GE457 := ak ((by rw [hg]; exact (below_size (bB HB.out)) : w.heap.size ≤ gb457)); replace HB := ak (below_step (bB HB.out) hb); have NB456_457 := ak ((ne_box hg (kK BK456.out))); have NB457_456 := ak ((ne_box' hg (kK BK456.out))); replace BK456 := ak (blk_below (kK BK456.out) hb); clear hb hbox hg))
  go_ret
  exact ⟨by first | rfl | (simp [errW_none, errW_some] <;> rfl) | (simp [*, errW_none, errW_some] <;> rfl), by repeat (first | (with_reducible first | exact HB.out | apply below_alloc | apply pw_below_drewN | apply below_drew1 | refine below_set ?_ GE456.out | refine below_set ?_ GE457.out) | exact HB.out)⟩
 rw [if_neg c4] at H
 have c4b0 : decide (1048576 < (l2.length : Int)) = false := decide_eq_false c4
 have c4b1 : decide (1048576 < l2.length) = false := decide_eq_false (by omega)
 clear c4
 replace H := bi H
 obtain ⟨t458, A70, H⟩ := H
 try dsimp only at H
 have A7 := ak A70
 clear A70
 by_cases c8 : t458 < 0
 ·rw [if_pos c8] at H
  have c8b0 : decide (t458 < 0) = true := decide_eq_true c8
  clear c8
  obtain rfl := Option.some.inj H
  go_enter Try.func6, Try.ntmps6
  go_wp2_with (first | ((with_reducible refine gate_dst (N := 3) rfl ?_); refine box_event ?hg (N := 3) ?hd (cs := #[.slice A0_0 l0_0.length c0_0, .slice A0_1 l0_1.length c0_1]) (t := 25) ?hr ?_; (case hd => rfl); (case hg => rfl); (case hr => first | (go_simp; done) | (go_simp; rfl)); intro gb456 hg w9 hbox hb; have BK456 := ak (hbox); have GW456 := ak ((by rw [hg]; exact (below_size (bB HB.out)) : w.heap.size ≤ gb456)); have GE456 := ak ((by rw [hg]; exact (below_size (bB HB.out)) : w.heap.size ≤ gb456)); replace HB := ak (below_step (bB HB.out) hb); clear hb hbox hg) | ((with_reducible refine gate_dst (N := 4) rfl ?_); refine box_event ?hg (N := 4) ?hd (cs := #[.slice A1_0 l1_0.length c1_0, .slice A1_1 l1_1.length c1_1]) (t := 25) ?hr ?_; (case hd => rfl); (case hg => rfl); (case hr => first | (go_simp; done) | (go_simp; rfl)); intro gb457 hg w10 hbox hb; have BK457 := ak (hbox); have GW457 := ak ((by rw [hg]; exact (below_size (bB HB.out)) : w.heap.size ≤ gb457)); have GE457 := ak ((by rw [hg]; exact (below_size (bB HB.out)) : w.heap.size ≤ gb457)); replace HB := ak (below_step (bB HB.out) hb); have NB456_457 := ak ((ne_box hg (kK BK456.out))); have NB457_456 := ak ((ne_box' hg (kK BK456.out))); replace BK456 := ak (blk_below (kK BK456.out) hb); clear hb hbox hg; have hnb11 := NB456_457.out; have hnc11 := NB457_456.out; have hcz12_0 : w10.cell? ⟨gb456, 0, none⟩ = some (.slice A0_0 l0_0.length c0_0) := (blk_cell BK456.out 0).trans rfl; have hcz12_1 : w10.cell? ⟨gb456, 1, none⟩ = some (.slice A0_1 l0_1.length c0_1) := (blk_cell BK456.out 1).trans rfl; have hfz12_0 := blk_frozen BK456.out 0; have hfz12_1 := blk_frozen BK456.out 1) | ((with_reducible refine gate_callee (f := 11) rfl ?_); refine goesL_ (some 18) rfl rfl Try.func11 (by kernel_rfl) rfl #[.agg #[.slice A0_0 l0_0.length c0_0, .slice A0_1 l0_1.length c0_1], .int .i64 1048576] rfl (by (try simp only [List.map_toArray, List.map_cons, List.map_nil]); first | done | rfl | (simp only [List.length_drop, List.length_take]; rfl)) ?_; (with_reducible refine (laws_szAlgebra.calls k _ _ l0_0 _ _ l0_1 1048576 t458 _ ?side1 ?side2 ?side3 ?side4 A7.out).mono ?_); (case side1 => exact kC (Kd.C_below HR0_0.out HB.out)); (case side2 => exact HC0_0.out); (case side3 => exact kC (Kd.C_below HR0_1.out HB.out)); (case side4 => exact HC0_1.out); rintro e w13 ⟨rfl, hb⟩; refine ⟨_, rfl, ?_⟩; replace BK456 := ak (blk_below (kK BK456.out) hb); replace BK457 := ak (blk_below (kK BK457.out) hb); replace HB := ak (below_step (bB HB.out) hb); (try clear hb); (try clear hb2); (try clear hk); (try clear hi)))
  go_ret
  exact ⟨by first | rfl | (simp [errW_none, errW_some] <;> rfl) | (simp [*, errW_none, errW_some] <;> rfl), by repeat (first | (with_reducible first | exact HB.out | apply below_alloc | apply pw_below_drewN | apply below_drew1 | refine below_set ?_ GE456.out | refine below_set ?_ GE457.out) | exact HB.out)⟩
 rw [if_neg c8] at H
 have c8b0 : decide (t458 < 0) = false := decide_eq_false c8
 clear c8
 replace H := bi H
 obtain ⟨t459, A140, H⟩ := H
 try dsimp only at H
 have A14 := ak A140
 clear A140
 by_cases c15 : t459 < 0
 ·rw [if_pos c15] at H
  have c15b0 : decide (t459 < 0) = true := decide_eq_true c15
  clear c15
  obtain rfl := Option.some.inj H
  go_enter Try.func6, Try.ntmps6
  go_wp2_with (first | ((with_reducible refine gate_dst (N := 3) rfl ?_); refine box_event ?hg (N := 3) ?hd (cs := #[.slice A0_0 l0_0.length c0_0, .slice A0_1 l0_1.length c0_1]) (t := 25) ?hr ?_; (case hd => rfl); (case hg => rfl); (case hr => first | (go_simp; done) | (go_simp; rfl)); intro gb456 hg w16 hbox hb; have BK456 := ak (hbox); have GW456 := ak ((by rw [hg]; exact (below_size (bB HB.out)) : w.heap.size ≤ gb456)); have GE456 := ak ((by rw [hg]; exact (below_size (bB HB.out)) : w.heap.size ≤ gb456)); replace HB := ak (below_step (bB HB.out) hb); clear hb hbox hg) | ((with_reducible refine gate_dst (N := 4) rfl ?_); refine box_event ?hg (N := 4) ?hd (cs := #[.slice A1_0 l1_0.length c1_0, .slice A1_1 l1_1.length c1_1]) (t := 25) ?hr ?_; (case hd => rfl); (case hg => rfl); (case hr => first | (go_simp; done) | (go_simp; rfl)); intro gb457 hg w17 hbox hb; have BK457 := ak (hbox); have GW457 := ak ((by rw [hg]; exact (below_size (bB HB.out)) : w.heap.size ≤ gb457)); have GE457 := ak ((by rw [hg]; exact (below_size (bB HB.out)) : w.heap.size ≤ gb457)); replace HB := ak (below_step (bB HB.out) hb); have NB456_457 := ak ((ne_box hg (kK BK456.out))); have NB457_456 := ak ((ne_box' hg (kK BK456.out))); replace BK456 := ak (blk_below (kK BK456.out) hb); clear hb hbox hg; have hnb18 := NB456_457.out; have hnc18 := NB457_456.out; have hcz19_0 : w17.cell? ⟨gb456, 0, none⟩ = some (.slice A0_0 l0_0.length c0_0) := (blk_cell BK456.out 0).trans rfl; have hcz19_1 : w17.cell? ⟨gb456, 1, none⟩ = some (.slice A0_1 l0_1.length c0_1) := (blk_cell BK456.out 1).trans rfl; have hfz19_0 := blk_frozen BK456.out 0; have hfz19_1 := blk_frozen BK456.out 1) | ((with_reducible refine gate_callee (f := 11) rfl ?_); refine goesL_ (some 18) rfl rfl Try.func11 (by kernel_rfl) rfl #[.agg #[.slice A0_0 l0_0.length c0_0, .slice A0_1 l0_1.length c0_1], .int .i64 1048576] rfl (by (try simp only [List.map_toArray, List.map_cons, List.map_nil]); first | done | rfl | (simp only [List.length_drop, List.length_take]; rfl)) ?_; (with_reducible refine (laws_szAlgebra.calls k _ _ l0_0 _ _ l0_1 1048576 t458 _ ?side1 ?side2 ?side3 ?side4 A7.out).mono ?_); (case side1 => exact kC (Kd.C_below HR0_0.out HB.out)); (case side2 => exact HC0_0.out); (case side3 => exact kC (Kd.C_below HR0_1.out HB.out)); (case side4 => exact HC0_1.out); rintro e w20 ⟨rfl, hb⟩; refine ⟨_, rfl, ?_⟩; replace BK456 := ak (blk_below (kK BK456.out) hb); replace BK457 := ak (blk_below (kK BK457.out) hb); replace HB := ak (below_step (bB HB.out) hb); (try clear hb); (try clear hb2); (try clear hk); (try clear hi); have hcz21_0 : w20.cell? ⟨gb457, 0, none⟩ = some (.slice A1_0 l1_0.length c1_0) := (blk_cell BK457.out 0).trans rfl; have hcz21_1 : w20.cell? ⟨gb457, 1, none⟩ = some (.slice A1_1 l1_1.length c1_1) := (blk_cell BK457.out 1).trans rfl; have hfz21_0 := blk_frozen BK457.out 0; have hfz21_1 := blk_frozen BK457.out 1) | ((with_reducible refine gate_callee (f := 11) rfl ?_); refine goesL_ (some 23) rfl rfl Try.func11 (by kernel_rfl) rfl #[.agg #[.slice A1_0 l1_0.length c1_0, .slice A1_1 l1_1.length c1_1], .int .i64 t458] rfl (by (try simp only [List.map_toArray, List.map_cons, List.map_nil]); first | done | rfl | (simp only [List.length_drop, List.length_take]; rfl)) ?_; (with_reducible refine (laws_szAlgebra.calls k _ _ l1_0 _ _ l1_1 t458 t459 _ ?side1 ?side2 ?side3 ?side4 A14.out).mono ?_); (case side1 => exact kC (Kd.C_below HR1_0.out HB.out)); (case side2 => exact HC1_0.out); (case side3 => exact kC (Kd.C_below HR1_1.out HB.out)); (case side4 => exact HC1_1.out); rintro e w22 ⟨rfl, hb⟩; refine ⟨_, rfl, ?_⟩; replace BK456 := ak (blk_below (kK BK456.out) hb); replace BK457 := ak (blk_below (kK BK457.out) hb); replace HB := ak (below_step (bB HB.out) hb); (try clear hb); (try clear hb2); (try clear hk); (try clear hi)))
  go_ret
  exact ⟨by first | rfl | (simp [errW_none, errW_some] <;> rfl) | (simp [*, errW_none, errW_some] <;> rfl), by repeat (first | (with_reducible first | exact HB.out | apply below_alloc | apply pw_below_drewN | apply below_drew1 | refine below_set ?_ GE456.out | refine below_set ?_ GE457.out) | exact HB.out)⟩
 rw [if_neg c15] at H
 have c15b0 : decide (t459 < 0) = false := decide_eq_false c15
 clear c15
 replace H := bi H
 obtain ⟨⟨t460, t463⟩, A230, H⟩ := H
 try dsimp only at H
 have A23 := ak A230
 clear A230
 replace H := bi H
 obtain ⟨⟨t466, t469⟩, A240, H⟩ := H
 try dsimp only at H
 have A24 := ak A240
 clear A240
 replace H := bi H
 obtain ⟨t472, A250, H⟩ := H
 try dsimp only at H
 have A25 := ak A250
 clear A250
 replace H := bi H
 obtain ⟨t475, A260, H⟩ := H
 try dsimp only at H
 have A26 := ak A260
 clear A260
 replace H := bi H
 obtain ⟨⟨t476, t479⟩, A270, H⟩ := H
 try dsimp only at H
 have A27 := ak A270
 clear A270
 replace H := bi H
 obtain ⟨⟨t483, t486⟩, A280, H⟩ := H
 try dsimp only at H
 have A28 := ak A280
 clear A280
 replace H := bi H
 obtain ⟨t490, A290, H⟩ := H
 try dsimp only at H
 have A29 := ak A290
 clear A290
 replace H := bi H
 obtain ⟨t493, A300, H⟩ := H
 try dsimp only at H
 have A30 := ak A300
 clear A300
 by_cases c31 : t493 = t475
 rotate_left
 ·rw [if_neg c31] at H
  have c31b0 : (t493 == t475) = false := beq_eq_false_iff_ne.mpr c31
  have c31b1 : (t493 != t475) = true := bne_iff_ne.mpr c31
  exact absurd (Option.some.inj H) (by rw [hrt.out]; decide)
 rw [if_pos c31] at H
 have c31b0 : (t493 == t475) = true := beq_iff_eq.mpr c31
 have c31b1 : (t493 != t475) = false := bne_eq_false_iff_eq.mpr c31
 clear c31
 replace H := bi H
 obtain ⟨⟨t494, t497⟩, A320, H⟩ := H
 try dsimp only at H
 have A32 := ak A320
 clear A320
 replace H := bi H
 obtain ⟨t500, A330, H⟩ := H
 try dsimp only at H
 have A33 := ak A330
 clear A330
 by_cases c34 : t500 = true
 rotate_left
 ·replace c34 := Bool.eq_false_iff.mpr c34
  subst c34
  rw [if_neg (show ¬ (false = true) by decide)] at H
  exact absurd (Option.some.inj H) (by rw [hrt.out]; decide)
 subst c34
 rw [if_pos rfl] at H
 replace H := bi H
 obtain ⟨⟨t501, t504⟩, A350, H⟩ := H
 try dsimp only at H
 have A35 := ak A350
 clear A350
 replace H := bi H
 obtain ⟨t507, A360, H⟩ := H
 try dsimp only at H
 have A36 := ak A360
 clear A360
 by_cases c37 : t507 = true
 rotate_left
 ·replace c37 := Bool.eq_false_iff.mpr c37
  subst c37
  rw [if_neg (show ¬ (false = true) by decide)] at H
  exact absurd (Option.some.inj H) (by rw [hrt.out]; decide)
 subst c37
 rw [if_pos rfl] at H
 replace H := bi H
 obtain ⟨t508, A380, H⟩ := H
 try dsimp only at H
 have A38 := ak A380
 clear A380
 replace H := bi H
 obtain ⟨t511, A390, H⟩ := H
 try dsimp only at H
 have A39 := ak A390
 clear A390
 by_cases c40 : t511 = true
 rotate_left
 ·replace c40 := Bool.eq_false_iff.mpr c40
  subst c40
  rw [if_neg (show ¬ (false = true) by decide)] at H
  exact absurd (Option.some.inj H) (by rw [hrt.out]; decide)
 subst c40
 rw [if_pos rfl] at H
 obtain rfl := Option.some.inj H
 go_enter Try.func6, Try.ntmps6
 try go_wp2_with (first | ((with_reducible refine gate_dst (N := 3) rfl ?_); refine box_event ?hg (N := 3) ?hd (cs := #[.slice A0_0 l0_0.length c0_0, .slice A0_1 l0_1.length c0_1]) (t := 25) ?hr ?_; (case hd => rfl); (case hg => rfl); (case hr => first | (go_simp; done) | (go_simp; rfl)); intro gb456 hg w41 hbox hb; have BK456 := ak (hbox); have GW456 := ak ((by rw [hg]; exact (below_size (bB HB.out)) : w.heap.size ≤ gb456)); have GE456 := ak ((by rw [hg]; exact (below_size (bB HB.out)) : w.heap.size ≤ gb456)); replace HB := ak (below_step (bB HB.out) hb); clear hb hbox hg) | ((with_reducible refine gate_dst (N := 4) rfl ?_); refine box_event ?hg (N := 4) ?hd (cs := #[.slice A1_0 l1_0.length c1_0, .slice A1_1 l1_1.length c1_1]) (t := 25) ?hr ?_; (case hd => rfl); (case hg => rfl); (case hr => first | (go_simp; done) | (go_simp; rfl)); intro gb457 hg w42 hbox hb; have BK457 := ak (hbox); have GW457 := ak ((by rw [hg]; exact (below_size (bB HB.out)) : w.heap.size ≤ gb457)); have GE457 := ak ((by rw [hg]; exact (below_size (bB HB.out)) : w.heap.size ≤ gb457)); replace HB := ak (below_step (bB HB.out) hb); have NB456_457 := ak ((ne_box hg (kK BK456.out))); have NB457_456 := ak ((ne_box' hg (kK BK456.out))); replace BK456 := ak (blk_below (kK BK456.out) hb); clear hb hbox hg; have hnb43 := NB456_457.out; have hnc43 := NB457_456.out; have hcz44_0 : w42.cell? ⟨gb456, 0, none⟩ = some (.slice A0_0 l0_0.length c0_0) := (blk_cell BK456.out 0).trans rfl; have hcz44_1 : w42.cell? ⟨gb456, 1, none⟩ = some (.slice A0_1 l0_1.length c0_1) := (blk_cell BK456.out 1).trans rfl; have hfz44_0 := blk_frozen BK456.out 0; have hfz44_1 := blk_frozen BK456.out 1) | ((with_reducible refine gate_callee (f := 11) rfl ?_); refine goesL_ (some 18) rfl rfl Try.func11 (by kernel_rfl) rfl #[.agg #[.slice A0_0 l0_0.length c0_0, .slice A0_1 l0_1.length c0_1], .int .i64 1048576] rfl (by (try simp only [List.map_toArray, List.map_cons, List.map_nil]); first | done | rfl | (simp only [List.length_drop, List.length_take]; rfl)) ?_; (with_reducible refine (laws_szAlgebra.calls k _ _ l0_0 _ _ l0_1 1048576 t458 _ ?side1 ?side2 ?side3 ?side4 A7.out).mono ?_); (case side1 => exact kC (Kd.C_below HR0_0.out HB.out)); (case side2 => exact HC0_0.out); (case side3 => exact kC (Kd.C_below HR0_1.out HB.out)); (case side4 => exact HC0_1.out); rintro e w45 ⟨rfl, hb⟩; refine ⟨_, rfl, ?_⟩; replace BK456 := ak (blk_below (kK BK456.out) hb); replace BK457 := ak (blk_below (kK BK457.out) hb); replace HB := ak (below_step (bB HB.out) hb); (try clear hb); (try clear hb2); (try clear hk); (try clear hi); have hcz46_0 : w45.cell? ⟨gb457, 0, none⟩ = some (.slice A1_0 l1_0.length c1_0) := (blk_cell BK457.out 0).trans rfl; have hcz46_1 : w45.cell? ⟨gb457, 1, none⟩ = some (.slice A1_1 l1_1.length c1_1) := (blk_cell BK457.out 1).trans rfl; have hfz46_0 := blk_frozen BK457.out 0; have hfz46_1 := blk_frozen BK457.out 1) | ((with_reducible refine gate_callee (f := 11) rfl ?_); refine goesL_ (some 23) rfl rfl Try.func11 (by kernel_rfl) rfl #[.agg #[.slice A1_0 l1_0.length c1_0, .slice A1_1 l1_1.length c1_1], .int .i64 t458] rfl (by (try simp only [List.map_toArray, List.map_cons, List.map_nil]); first | done | rfl | (simp only [List.length_drop, List.length_take]; rfl)) ?_; (with_reducible refine (laws_szAlgebra.calls k _ _ l1_0 _ _ l1_1 t458 t459 _ ?side1 ?side2 ?side3 ?side4 A14.out).mono ?_); (case side1 => exact kC (Kd.C_below HR1_0.out HB.out)); (case side2 => exact HC1_0.out); (case side3 => exact kC (Kd.C_below HR1_1.out HB.out)); (case side4 => exact HC1_1.out); rintro e w47 ⟨rfl, hb⟩; refine ⟨_, rfl, ?_⟩; replace BK456 := ak (blk_below (kK BK456.out) hb); replace BK457 := ak (blk_below (kK BK457.out) hb); replace HB := ak (below_step (bB HB.out) hb); (try clear hb); (try clear hb2); (try clear hk); (try clear hi)))
 replace BK456 := ak (blk_drew BK456.out)
 replace BK457 := ak (blk_drew BK457.out)
 replace HB := ak (below_drew1 HB.out)
 refine start_ (n := 8) (S := fun w' => w'.cell? ⟨gb456, 0, none⟩ = some (.slice A0_0 l0_0.length c0_0) ∧ w'.cell? ⟨gb456, 1, none⟩ = some (.slice A0_1 l0_1.length c0_1) ∧ w'.cell? ⟨gb457, 0, none⟩ = some (.slice A1_0 l1_0.length c1_0) ∧ w'.cell? ⟨gb457, 1, none⟩ = some (.slice A1_1 l1_1.length c1_1)) (ds := []) #[false, false, false, false, false, false, false, false] (by kernel_rfl) rfl rfl ⟨(blk_cell BK456.out 0).trans rfl, (blk_cell BK456.out 1).trans rfl, (blk_cell BK457.out 0).trans rfl, (blk_cell BK457.out 1).trans rfl⟩ (fun hHeld => ?_); refine with_tabW laws_FnExactImageOf.tab10 laws_FnExactImageOf.bits10 (fun HT_ HW_ => ?_)
 generalize w47.drew = w48 at BK456 BK457 HB hHeld ⊢
 refine pu 4 30 16 8 ?_
 refine tk 0 26 17 8 ?_
 refine tk 2 28 21 8 ?_
 refine one_ (i := 1) (N := some 27) #[true, true, true, false, true, false, false, false] rfl rfl (one_of HT_.out (by kernel_rfl)) (by decide) (fun K hK => ?_)
 refine goes_ Try.func13 (by kernel_rfl) rfl #[.agg #[.slice A0_0 l0_0.length c0_0, .slice A0_1 l0_1.length c0_1]] (by rfl) rfl rfl (by (try simp only [List.map_toArray, List.map_cons, List.map_nil]); first | done | rfl | (simp only [List.length_drop, List.length_take]; rfl)) ?_
 with_reducible refine (laws_toAlgebra.calls k _ _ l0_0 _ _ l0_1 t460 t463 _ ?side1 ?side2 ?side3 ?side4 A23.out).mono ?_
 (case side1 => exact kC (Kd.C_below HR0_0.out HB.out))
 (case side2 => exact HC0_0.out)
 (case side3 => exact kC (Kd.C_below HR0_1.out HB.out))
 (case side4 => exact HC0_1.out)
 rintro e w49 ⟨v461, v464, rfl, ho0, ho1, hb⟩
 refine ⟨_, rfl, ?_⟩
 have HO462 := ak (Kd.R_lower ho0 (below_size (bB HB.out)))
 have HO465 := ak (Kd.S_lower ho1 (below_size (bB HB.out)))
 replace BK456 := ak (blk_below (kK BK456.out) hb)
 replace BK457 := ak (blk_below (kK BK457.out) hb)
 replace HB := ak (below_step (bB HB.out) hb)
 (try clear hb)
 (try clear hb2)
 (try clear hk)
 (try clear hi)
 (try clear ho0)
 (try clear ho1)
 refine hK.out _ _ ⟨(blk_cell BK456.out 0).trans rfl, (blk_cell BK456.out 1).trans rfl, (blk_cell BK457.out 0).trans rfl, (blk_cell BK457.out 1).trans rfl⟩ (fun hHeld => ?_)
 clear hK K
 refine norm_ (a' := ?_) ?_ ?_
 rotate_left
 ·show Act.put _ (some 27) _ = _
  simp only [Act.put, List.setIfInBounds_toArray, List.set_cons_zero, List.set_cons_succ, i64_w, i32_w]
  rfl
 refine one_ (i := 3) (N := some 29) #[true, true, true, true, true, false, false, false] rfl rfl (one_of HT_.out (by kernel_rfl)) (by decide) (fun K hK => ?_)
 refine goes_ Try.func13 (by kernel_rfl) rfl #[.agg #[.slice A1_0 l1_0.length c1_0, .slice A1_1 l1_1.length c1_1]] (by rfl) rfl rfl (by (try simp only [List.map_toArray, List.map_cons, List.map_nil]); first | done | rfl | (simp only [List.length_drop, List.length_take]; rfl)) ?_
 with_reducible refine (laws_toAlgebra.calls k _ _ l1_0 _ _ l1_1 t466 t469 _ ?side1 ?side2 ?side3 ?side4 A24.out).mono ?_
 (case side1 => exact kC (Kd.C_below HR1_0.out HB.out))
 (case side2 => exact HC1_0.out)
 (case side3 => exact kC (Kd.C_below HR1_1.out HB.out))
 (case side4 => exact HC1_1.out)
 rintro e w50 ⟨v467, v470, rfl, ho0, ho1, hb⟩
 refine ⟨_, rfl, ?_⟩
 have HO468 := ak (Kd.R_lower (Kd.R_new' ho0 (Kd.R_lt (kR HO462.out))) (below_size (bB HB.out)))
 have HO471 := ak (Kd.S_lower (Kd.S_new' (Kd.S_new' ho1 (Kd.R_lt (kR HO462.out))) (Kd.S_lt (kS HO465.out))) (below_size (bB HB.out)))
 replace HO462 := ak (Kd.R_elder' (kR HO462.out) (Kd.R_base ho0) hb)
 replace HO465 := ak (Kd.S_mono (Kd.S_told (Kd.S_told (Kd.S_old (kS HO465.out) hb) (Kd.R_base ho0)) (Kd.S_base ho1)) (fun _ h_ => h_.1))
 replace BK456 := ak (blk_below (kK BK456.out) hb)
 replace BK457 := ak (blk_below (kK BK457.out) hb)
 replace HB := ak (below_step (bB HB.out) hb)
 (try clear hb)
 (try clear hb2)
 (try clear hk)
 (try clear hi)
 (try clear ho0)
 (try clear ho1)
 refine hK.out _ _ ⟨(blk_cell BK456.out 0).trans rfl, (blk_cell BK456.out 1).trans rfl, (blk_cell BK457.out 0).trans rfl, (blk_cell BK457.out 1).trans rfl⟩ (fun hHeld => ?_)
 clear hK K
 refine norm_ (a' := ?_) ?_ ?_
 rotate_left
 ·show Act.put _ (some 29) _ = _
  simp only [Act.put, List.setIfInBounds_toArray, List.set_cons_zero, List.set_cons_succ, i64_w, i32_w]
  rfl
 refine one_ (i := 5) (N := some 31) #[true, true, true, true, true, true, false, false] rfl rfl (one_of HT_.out (by kernel_rfl)) (by decide) (fun K hK => ?_)
 refine goes_ Try.func14 (by kernel_rfl) rfl #[.slice A2 l2.length c2] (by rfl) rfl rfl (by (try simp only [List.map_toArray, List.map_cons, List.map_nil]); first | done | rfl | (simp only [List.length_drop, List.length_take]; rfl)) ?_
 with_reducible refine (laws_toIntS.calls k _ _ l2 t472 _ ?side1 ?side2 A25.out).mono ?_
 (case side1 => exact kC (Kd.C_below HR2.out HB.out))
 (case side2 => exact HC2.out)
 rintro e w51 ⟨v473, rfl, ho0, hb⟩
 refine ⟨_, rfl, ?_⟩
 replace HO465 := ak (Kd.S_elder' (kS HO465.out) (Kd.R_base ho0) hb)
 replace HO471 := ak (Kd.S_elder' (kS HO471.out) (Kd.R_base ho0) hb)
 have HO474 := ak (Kd.R_lower (Kd.R_new' (Kd.R_new' ho0 (Kd.R_lt (kR HO462.out))) (Kd.R_lt (kR HO468.out))) (below_size (bB HB.out)))
 replace HO462 := ak (Kd.R_elder' (kR HO462.out) (Kd.R_base ho0) hb)
 replace HO468 := ak (Kd.R_elder' (kR HO468.out) (Kd.R_base ho0) hb)
 replace BK456 := ak (blk_below (kK BK456.out) hb)
 replace BK457 := ak (blk_below (kK BK457.out) hb)
 replace HB := ak (below_step (bB HB.out) hb)
 (try clear hb)
 (try clear hb2)
 (try clear hk)
 (try clear hi)
 (try clear ho0)
 obtain ⟨Ao52, co52, eo52⟩ := Kd.R_slice HO462.out
 (first | subst eo52 | (injection eo52 with f1_ f2_ f3_; have f4_ := f1_.symm; have f5_ := f3_.symm; clear f1_ f2_ f3_; subst f4_; subst f5_))
 obtain ⟨Ao53, co53, eo53⟩ := Kd.S_slice HO465.out
 (first | subst eo53 | (injection eo53 with f1_ f2_ f3_; have f4_ := f1_.symm; have f5_ := f3_.symm; clear f1_ f2_ f3_; subst f4_; subst f5_))
 obtain ⟨Ao54, co54, eo54⟩ := Kd.R_slice HO468.out
 (first | subst eo54 | (injection eo54 with f1_ f2_ f3_; have f4_ := f1_.symm; have f5_ := f3_.symm; clear f1_ f2_ f3_; subst f4_; subst f5_))
 obtain ⟨Ao55, co55, eo55⟩ := Kd.S_slice HO471.out
 (first | subst eo55 | (injection eo55 with f1_ f2_ f3_; have f4_ := f1_.symm; have f5_ := f3_.symm; clear f1_ f2_ f3_; subst f4_; subst f5_))
 obtain ⟨Ao56, co56, eo56⟩ := Kd.R_slice HO474.out
 (first | subst eo56 | (injection eo56 with f1_ f2_ f3_; have f4_ := f1_.symm; have f5_ := f3_.symm; clear f1_ f2_ f3_; subst f4_; subst f5_))
 refine hK.out _ _ ⟨(blk_cell BK456.out 0).trans rfl, (blk_cell BK456.out 1).trans rfl, (blk_cell BK457.out 0).trans rfl, (blk_cell BK457.out 1).trans rfl⟩ (fun hHeld => ?_)
 clear hK K
 refine norm_ (a' := ?_) ?_ ?_
 rotate_left
 ·show Act.put _ (some 31) _ = _
  simp only [Act.put, List.setIfInBounds_toArray, List.set_cons_zero, List.set_cons_succ, i64_w, i32_w]
  rfl
 refine one_ (i := 6) (N := some 32) #[true, true, true, true, true, true, true, false] rfl rfl (one_of HT_.out (by kernel_rfl)) (by decide) (fun K hK => ?_)
 refine goes_ Try.func22 (by kernel_rfl) rfl #[.agg #[.slice Ao52 t460.length co52, .slice Ao53 t463.length co53], .agg #[.slice Ao54 t466.length co54, .slice Ao55 t469.length co55], .slice Ao56 t472.length co56] (by rfl) rfl rfl (by (try simp only [List.map_toArray, List.map_cons, List.map_nil]); first | done | rfl | (simp only [List.length_drop, List.length_take]; rfl)) ?_
 with_reducible refine (spec_ImageOf.calls k _ _ t460 _ _ t463 _ _ t466 _ _ t469 _ _ t472 t475 _ ?side1 ?side2 ?side3 ?side4 ?side5 ?side6 ?side7 ?side8 ?side9 ?side10 A26.out).mono ?_
 (case side1 => exact kC (Kd.R_reads' HO462.out).2.2)
 (case side2 => exact (Kd.R_reads' HO462.out).2.1)
 (case side3 => exact kC (Kd.S_reads' HO465.out).2.2)
 (case side4 => exact (Kd.S_reads' HO465.out).2.1)
 (case side5 => exact kC (Kd.R_reads' HO468.out).2.2)
 (case side6 => exact (Kd.R_reads' HO468.out).2.1)
 (case side7 => exact kC (Kd.S_reads' HO471.out).2.2)
 (case side8 => exact (Kd.S_reads' HO471.out).2.1)
 (case side9 => exact kC (Kd.R_reads' HO474.out).2.2)
 (case side10 => exact (Kd.R_reads' HO474.out).2.1)
 rintro e w57 ⟨rfl, hb⟩
 refine ⟨_, rfl, ?_⟩
 replace HO462 := ak (Kd.R_below (kR HO462.out) hb)
 replace HO465 := ak (Kd.S_below (kS HO465.out) hb)
 replace HO468 := ak (Kd.R_below (kR HO468.out) hb)
 replace HO471 := ak (Kd.S_below (kS HO471.out) hb)
 replace HO474 := ak (Kd.R_below (kR HO474.out) hb)
 replace BK456 := ak (blk_below (kK BK456.out) hb)
 replace BK457 := ak (blk_below (kK BK457.out) hb)
 replace HB := ak (below_step (bB HB.out) hb)
 (try clear hb)
 (try clear hb2)
 (try clear hk)
 (try clear hi)
 refine hK.out _ _ ⟨(blk_cell BK456.out 0).trans rfl, (blk_cell BK456.out 1).trans rfl, (blk_cell BK457.out 0).trans rfl, (blk_cell BK457.out 1).trans rfl⟩ (fun hHeld => ?_)
 clear hK K
 refine norm_ (a' := ?_) ?_ ?_
 rotate_left
 ·show Act.put _ (some 32) _ = _
  simp only [Act.put, List.setIfInBounds_toArray, List.set_cons_zero, List.set_cons_succ, i64_w, i32_w]
  rfl
 refine pu 7 8 255 8 ?_
 refine done_ (done_of HT_.out (by kernel_rfl)) ?_
 have hcz58_0 : w57.cell? ⟨gb456, 0, none⟩ = some (.slice A0_0 l0_0.length c0_0) := (blk_cell BK456.out 0).trans rfl
 have hcz58_1 : w57.cell? ⟨gb456, 1, none⟩ = some (.slice A0_1 l0_1.length c0_1) := (blk_cell BK456.out 1).trans rfl
 have hfz58_0 := blk_frozen BK456.out 0
 have hfz58_1 := blk_frozen BK456.out 1
 try go_wp2_with (first | ((with_reducible refine gate_callee (f := 13) rfl ?_); refine goesL_ (some 34) rfl rfl Try.func13 (by kernel_rfl) rfl #[.agg #[.slice A0_0 l0_0.length c0_0, .slice A0_1 l0_1.length c0_1]] rfl (by (try simp only [List.map_toArray, List.map_cons, List.map_nil]); first | done | rfl | (simp only [List.length_drop, List.length_take]; rfl)) ?_; (with_reducible refine (laws_toAlgebra.calls k _ _ l0_0 _ _ l0_1 t476 t479 _ ?side1 ?side2 ?side3 ?side4 A27.out).mono ?_); (case side1 => exact kC (Kd.C_below HR0_0.out HB.out)); (case side2 => exact HC0_0.out); (case side3 => exact kC (Kd.C_below HR0_1.out HB.out)); (case side4 => exact HC0_1.out); rintro e w59 ⟨v477, v480, rfl, ho0, ho1, hb⟩; refine ⟨_, rfl, ?_⟩; have HO478 := ak (Kd.R_lower (Kd.R_new' (Kd.R_new' (Kd.R_new' ho0 (Kd.R_lt (kR HO462.out))) (Kd.R_lt (kR HO468.out))) (Kd.R_lt (kR HO474.out))) (below_size (bB HB.out))); have HO481 := ak (Kd.S_lower (Kd.S_new' (Kd.S_new' (Kd.S_new' (Kd.S_new' (Kd.S_new' ho1 (Kd.R_lt (kR HO462.out))) (Kd.S_lt (kS HO465.out))) (Kd.R_lt (kR HO468.out))) (Kd.S_lt (kS HO471.out))) (Kd.R_lt (kR HO474.out))) (below_size (bB HB.out))); replace HO462 := ak (Kd.R_elder' (kR HO462.out) (Kd.R_base ho0) hb); replace HO465 := ak (Kd.S_mono (Kd.S_told (Kd.S_told (Kd.S_old (kS HO465.out) hb) (Kd.R_base ho0)) (Kd.S_base ho1)) (fun _ h_ => h_.1)); replace HO468 := ak (Kd.R_elder' (kR HO468.out) (Kd.R_base ho0) hb); replace HO471 := ak (Kd.S_mono (Kd.S_told (Kd.S_told (Kd.S_old (kS HO471.out) hb) (Kd.R_base ho0)) (Kd.S_base ho1)) (fun _ h_ => h_.1)); replace HO474 := ak (Kd.R_elder' (kR HO474.out) (Kd.R_base ho0) hb); replace BK456 := ak (blk_below (kK BK456.out) hb); replace BK457 := ak (blk_below (kK BK457.out) hb); replace HB := ak (below_step (bB HB.out) hb); (try clear hb); (try clear hb2); (try clear hk); (try clear hi); (try clear ho0); (try clear ho1)) | ((with_reducible refine gate_dst (N := 9) rfl ?_); refine box_event ?hg (N := 9) ?hd (cs := #[.slice none 0 0, .slice none 0 0]) (t := 28) ?hr ?_; (case hd => rfl); (case hg => rfl); (case hr => first | (go_simp; done) | (go_simp; rfl)); intro gb482 hg w60 hbox hb; replace HO462 := ak (Kd.R_below (kR HO462.out) hb); replace HO465 := ak (Kd.S_below (kS HO465.out) hb); replace HO468 := ak (Kd.R_below (kR HO468.out) hb); replace HO471 := ak (Kd.S_below (kS HO471.out) hb); replace HO474 := ak (Kd.R_below (kR HO474.out) hb); replace HO478 := ak (Kd.R_below (kR HO478.out) hb); replace HO481 := ak (Kd.S_below (kS HO481.out) hb); have BK482 := ak (hbox); have GW482 := ak ((by rw [hg]; exact (below_size (bB HB.out)) : w.heap.size ≤ gb482)); have GE482 := ak ((by rw [hg]; exact (below_size (bB HB.out)) : w.heap.size ≤ gb482)); replace HB := ak (below_step (bB HB.out) hb); have NB456_482 := ak ((ne_box hg (kK BK456.out))); have NB482_456 := ak ((ne_box' hg (kK BK456.out))); replace BK456 := ak (blk_below (kK BK456.out) hb); have NB457_482 := ak ((ne_box hg (kK BK457.out))); have NB482_457 := ak ((ne_box' hg (kK BK457.out))); replace BK457 := ak (blk_below (kK BK457.out) hb); clear hb hbox hg; obtain ⟨Ao61, co61, eo61⟩ := Kd.R_slice HO478.out; subst eo61; have hnb62 := NB482_456.out; have hnc62 := NB456_482.out; have hnb63 := NB482_457.out; have hnc63 := NB457_482.out; have hcz64_0 : w60.cell? ⟨gb482, 0, none⟩ = some (.slice none 0 0) := (blk_cell BK482.out 0).trans rfl; have hcz64_1 : w60.cell? ⟨gb482, 1, none⟩ = some (.slice none 0 0) := (blk_cell BK482.out 1).trans rfl; have hfz64_0 := blk_frozen BK482.out 0; have hfz64_1 := blk_frozen BK482.out 1; obtain ⟨Ao65, co65, eo65⟩ := Kd.S_slice HO481.out; subst eo65; have hcz66_0 : w60.cell? ⟨gb457, 0, none⟩ = some (.slice A1_0 l1_0.length c1_0) := (blk_cell BK457.out 0).trans rfl; have hcz66_1 : w60.cell? ⟨gb457, 1, none⟩ = some (.slice A1_1 l1_1.length c1_1) := (blk_cell BK457.out 1).trans rfl; have hfz66_0 := blk_frozen BK457.out 0; have hfz66_1 := blk_frozen BK457.out 1) | ((with_reducible refine gate_callee (f := 13) rfl ?_); refine goesL_ (some 36) rfl rfl Try.func13 (by kernel_rfl) rfl #[.agg #[.slice A1_0 l1_0.length c1_0, .slice A1_1 l1_1.length c1_1]] rfl (by (try simp only [List.map_toArray, List.map_cons, List.map_nil]); first | done | rfl | (simp only [List.length_drop, List.length_take]; rfl)) ?_; (with_reducible refine (laws_toAlgebra.calls k _ _ l1_0 _ _ l1_1 t483 t486 _ ?side1 ?side2 ?side3 ?side4 A28.out).mono ?_); (case side1 => exact Kd.C_below HR1_0.out (bB HB.out)); (case side2 => exact HC1_0.out); (case side3 => exact Kd.C_below HR1_1.out (bB HB.out)); (case side4 => exact HC1_1.out); rintro e w67 ⟨v484, v487, rfl, ho0, ho1, hb⟩; refine ⟨_, rfl, ?_⟩; have HO485 := ak (Kd.R_lower (Kd.R_new' (Kd.R_new' (Kd.R_new' (Kd.R_new' ho0 (Kd.R_lt (kR (s2R HO462.out BK482.out)))) (Kd.R_lt (kR (s2R HO468.out BK482.out)))) (Kd.R_lt (kR (s2R HO474.out BK482.out)))) (Kd.R_lt (kR (s2R HO478.out BK482.out)))) (below_size (bB HB.out))); have HO488 := ak (Kd.S_lower (Kd.S_new' (Kd.S_new' (Kd.S_new' (Kd.S_new' (Kd.S_new' (Kd.S_new' (Kd.S_new' ho1 (Kd.R_lt (kR (s2R HO462.out BK482.out)))) (Kd.S_lt (kS (s2S HO465.out BK482.out)))) (Kd.R_lt (kR (s2R HO468.out BK482.out)))) (Kd.S_lt (kS (s2S HO471.out BK482.out)))) (Kd.R_lt (kR (s2R HO474.out BK482.out)))) (Kd.R_lt (kR (s2R HO478.out BK482.out)))) (Kd.S_lt (kS (s2S HO481.out BK482.out)))) (below_size (bB HB.out))); replace HO462 := ak (Kd.R_elder' (kR (s2R HO462.out BK482.out)) (Kd.R_base ho0) hb); replace HO465 := ak (Kd.S_mono (Kd.S_told (Kd.S_told (Kd.S_old (kS (s2S HO465.out BK482.out)) hb) (Kd.R_base ho0)) (Kd.S_base ho1)) (fun _ h_ => h_.1)); replace HO468 := ak (Kd.R_elder' (kR (s2R HO468.out BK482.out)) (Kd.R_base ho0) hb); replace HO471 := ak (Kd.S_mono (Kd.S_told (Kd.S_told (Kd.S_old (kS (s2S HO471.out BK482.out)) hb) (Kd.R_base ho0)) (Kd.S_base ho1)) (fun _ h_ => h_.1)); replace HO474 := ak (Kd.R_elder' (kR (s2R HO474.out BK482.out)) (Kd.R_base ho0) hb); replace HO478 := ak (Kd.R_elder' (kR (s2R HO478.out BK482.out)) (Kd.R_base ho0) hb); replace HO481 := ak (Kd.S_mono (Kd.S_told (Kd.S_told (Kd.S_old (kS (s2S HO481.out BK482.out)) hb) (Kd.R_base ho0)) (Kd.S_base ho1)) (fun _ h_ => h_.1)); replace BK456 := ak (blk_below (kK (blk_far (blk_far BK456.out NB456_482.out _) NB456_482.out _)) hb); replace BK457 := ak (blk_below (kK (blk_far (blk_far BK457.out NB457_482.out _) NB457_482.out _)) hb); replace BK482 := ak (blk_below (g := gb482) (o := .cells #[.slice Ao61 t476.length co61, .slice Ao65 t479.length co65] 28 (0, 0)) (by refine blk_put (cs := #[.slice Ao61 t476.length co61, .slice none 0 0]) ?_ 1 _ rfl; refine blk_put (cs := #[.slice none 0 0, .slice none 0 0]) ?_ 0 _ rfl; exact BK482.out) hb); replace HB := ak (below_step (bB HB.out) hb); (try clear hb); (try clear hb2); (try clear hk); (try clear hi); (try clear ho0); (try clear ho1)) | ((with_reducible refine gate_dst (N := 10) rfl ?_); refine box_event ?hg (N := 10) ?hd (cs := #[.slice none 0 0, .slice none 0 0]) (t := 28) ?hr ?_; (case hd => rfl); (case hg => rfl); (case hr => first | (go_simp; done) | (go_simp; rfl)); intro gb489 hg w68 hbox hb; replace HO462 := ak (Kd.R_below (kR HO462.out) hb); replace HO465 := ak (Kd.S_below (kS HO465.out) hb); replace HO468 := ak (Kd.R_below (kR HO468.out) hb); replace HO471 := ak (Kd.S_below (kS HO471.out) hb); replace HO474 := ak (Kd.R_below (kR HO474.out) hb); replace HO478 := ak (Kd.R_below (kR HO478.out) hb); replace HO481 := ak (Kd.S_below (kS HO481.out) hb); replace HO485 := ak (Kd.R_below (kR HO485.out) hb); replace HO488 := ak (Kd.S_below (kS HO488.out) hb); have BK489 := ak (hbox); have GW489 := ak ((by rw [hg]; exact (below_size (bB HB.out)) : w.heap.size ≤ gb489)); have GE489 := ak ((by rw [hg]; exact (below_size (bB HB.out)) : w.heap.size ≤ gb489)); replace HB := ak (below_step (bB HB.out) hb); have NB456_489 := ak ((ne_box hg (kK BK456.out))); have NB489_456 := ak ((ne_box' hg (kK BK456.out))); replace BK456 := ak (blk_below (kK BK456.out) hb); have NB457_489 := ak ((ne_box hg (kK BK457.out))); have NB489_457 := ak ((ne_box' hg (kK BK457.out))); replace BK457 := ak (blk_below (kK BK457.out) hb); have NB482_489 := ak ((ne_box hg (kK BK482.out))); have NB489_482 := ak ((ne_box' hg (kK BK482.out))); replace BK482 := ak (blk_below (kK BK482.out) hb); clear hb hbox hg; obtain ⟨Ao69, co69, eo69⟩ := Kd.R_slice HO485.out; subst eo69; have hnb70 := NB489_456.out; have hnc70 := NB456_489.out; have hnb71 := NB489_457.out; have hnc71 := NB457_489.out; have hnb72 := NB489_482.out; have hnc72 := NB482_489.out; have hcz73_0 : w68.cell? ⟨gb489, 0, none⟩ = some (.slice none 0 0) := (blk_cell BK489.out 0).trans rfl; have hcz73_1 : w68.cell? ⟨gb489, 1, none⟩ = some (.slice none 0 0) := (blk_cell BK489.out 1).trans rfl; have hfz73_0 := blk_frozen BK489.out 0; have hfz73_1 := blk_frozen BK489.out 1; obtain ⟨Ao74, co74, eo74⟩ := Kd.S_slice HO488.out; subst eo74) | ((with_reducible refine gate_callee (f := 14) rfl ?_); refine goesL_ (some 38) rfl rfl Try.func14 (by kernel_rfl) rfl #[.slice A2 l2.length c2] rfl (by (try simp only [List.map_toArray, List.map_cons, List.map_nil]); first | done | rfl | (simp only [List.length_drop, List.length_take]; rfl)) ?_; (with_reducible refine (laws_toIntS.calls k _ _ l2 t490 _ ?side1 ?side2 A29.out).mono ?_); (case side1 => exact Kd.C_below HR2.out (bB HB.out)); (case side2 => exact HC2.out); rintro e w75 ⟨v491, rfl, ho0, hb⟩; refine ⟨_, rfl, ?_⟩; replace HO465 := ak (Kd.S_elder' (kS (s2S HO465.out BK489.out)) (Kd.R_base ho0) hb); replace HO471 := ak (Kd.S_elder' (kS (s2S HO471.out BK489.out)) (Kd.R_base ho0) hb); replace HO481 := ak (Kd.S_elder' (kS (s2S HO481.out BK489.out)) (Kd.R_base ho0) hb); replace HO488 := ak (Kd.S_elder' (kS (s2S HO488.out BK489.out)) (Kd.R_base ho0) hb); have HO492 := ak (Kd.R_lower (Kd.R_new' (Kd.R_new' (Kd.R_new' (Kd.R_new' (Kd.R_new' ho0 (Kd.R_lt (kR (s2R HO462.out BK489.out)))) (Kd.R_lt (kR (s2R HO468.out BK489.out)))) (Kd.R_lt (kR (s2R HO474.out BK489.out)))) (Kd.R_lt (kR (s2R HO478.out BK489.out)))) (Kd.R_lt (kR (s2R HO485.out BK489.out)))) (below_size (bB HB.out))); replace HO462 := ak (Kd.R_elder' (kR (s2R HO462.out BK489.out)) (Kd.R_base ho0) hb); replace HO468 := ak (Kd.R_elder' (kR (s2R HO468.out BK489.out)) (Kd.R_base ho0) hb); replace HO474 := ak (Kd.R_elder' (kR (s2R HO474.out BK489.out)) (Kd.R_base ho0) hb); replace HO478 := ak (Kd.R_elder' (kR (s2R HO478.out BK489.out)) (Kd.R_base ho0) hb); replace HO485 := ak (Kd.R_elder' (kR (s2R HO485.out BK489.out)) (Kd.R_base ho0) hb); replace BK456 := ak (blk_below (kK (blk_far (blk_far BK456.out NB456_489.out _) NB456_489.out _)) hb); replace BK457 := ak (blk_below (kK (blk_far (blk_far BK457.out NB457_489.out _) NB457_489.out _)) hb); replace BK482 := ak (blk_below (kK (blk_far (blk_far BK482.out NB482_489.out _) NB482_489.out _)) hb); replace BK489 := ak (blk_below (g := gb489) (o := .cells #[.slice Ao69 t483.length co69, .slice Ao74 t486.length co74] 28 (0, 0)) (by refine blk_put (cs := #[.slice Ao69 t483.length co69, .slice none 0 0]) ?_ 1 _ rfl; refine blk_put (cs := #[.slice none 0 0, .slice none 0 0]) ?_ 0 _ rfl; exact BK489.out) hb); replace HB := ak (below_step (bB HB.out) hb); (try clear hb); (try clear hb2); (try clear hk); (try clear hi); (try clear ho0); have hcz76_0 : w75.cell? ⟨gb482, 0, none⟩ = some (.slice Ao61 t476.length co61) := (blk_cell BK482.out 0).trans rfl; have hcz76_1 : w75.cell? ⟨gb482, 1, none⟩ = some (.slice Ao65 t479.length co65) := (blk_cell BK482.out 1).trans rfl; have hfz76_0 := blk_frozen BK482.out 0; have hfz76_1 := blk_frozen BK482.out 1; have hcz77_0 : w75.cell? ⟨gb489, 0, none⟩ = some (.slice Ao69 t483.length co69) := (blk_cell BK489.out 0).trans rfl; have hcz77_1 : w75.cell? ⟨gb489, 1, none⟩ = some (.slice Ao74 t486.length co74) := (blk_cell BK489.out 1).trans rfl; have hfz77_0 := blk_frozen BK489.out 0; have hfz77_1 := blk_frozen BK489.out 1; obtain ⟨Ao78, co78, eo78⟩ := Kd.R_slice HO492.out; subst eo78) | ((with_reducible refine gate_callee (f := 23) rfl ?_); refine goesL_ (some 42) rfl rfl Try.func23 (by kernel_rfl) rfl #[.agg #[.slice Ao61 t476.length co61, .slice Ao65 t479.length co65], .agg #[.slice Ao69 t483.length co69, .slice Ao74 t486.length co74], .slice Ao78 t490.length co78] rfl (by (try simp only [List.map_toArray, List.map_cons, List.map_nil]); first | done | rfl | (simp only [List.length_drop, List.length_take]; rfl)) ?_; (with_reducible refine (impl_ImageOf.calls k _ _ t476 _ _ t479 _ _ t483 _ _ t486 _ _ t490 t493 _ ?side1 ?side2 ?side3 ?side4 ?side5 ?side6 ?side7 ?side8 ?side9 ?side10 A30.out).mono ?_); (case side1 => exact kC (Kd.R_reads' HO478.out).2.2); (case side2 => exact (Kd.R_reads' HO478.out).2.1); (case side3 => exact kC (Kd.S_reads' HO481.out).2.2); (case side4 => exact (Kd.S_reads' HO481.out).2.1); (case side5 => exact kC (Kd.R_reads' HO485.out).2.2); (case side6 => exact (Kd.R_reads' HO485.out).2.1); (case side7 => exact kC (Kd.S_reads' HO488.out).2.2); (case side8 => exact (Kd.S_reads' HO488.out).2.1); (case side9 => exact kC (Kd.R_reads' HO492.out).2.2); (case side10 => exact (Kd.R_reads' HO492.out).2.1); rintro e w79 ⟨rfl, hb⟩; refine ⟨_, rfl, ?_⟩; replace HO462 := ak (Kd.R_below (kR HO462.out) hb); replace HO465 := ak (Kd.S_below (kS HO465.out) hb); replace HO468 := ak (Kd.R_below (kR HO468.out) hb); replace HO471 := ak (Kd.S_below (kS HO471.out) hb); replace HO474 := ak (Kd.R_below (kR HO474.out) hb); replace HO478 := ak (Kd.R_below (kR HO478.out) hb); replace HO481 := ak (Kd.S_below (kS HO481.out) hb); replace HO485 := ak (Kd.R_below (kR HO485.out) hb); replace HO488 := ak (Kd.S_below (kS HO488.out) hb); replace HO492 := ak (Kd.R_below (kR HO492.out) hb); replace BK456 := ak (blk_below (kK BK456.out) hb); replace BK457 := ak (blk_below (kK BK457.out) hb); replace BK482 := ak (blk_below (kK BK482.out) hb); replace BK489 := ak (blk_below (kK BK489.out) hb); replace HB := ak (below_step (bB HB.out) hb); (try clear hb); (try clear hb2); (try clear hk); (try clear hi)))
 replace HO462 := ak (Kd.R_drew HO462.out)
 replace HO465 := ak (Kd.S_drew HO465.out)
 replace HO468 := ak (Kd.R_drew HO468.out)
 replace HO471 := ak (Kd.S_drew HO471.out)
 replace HO474 := ak (Kd.R_drew HO474.out)
 replace HO478 := ak (Kd.R_drew HO478.out)
 replace HO481 := ak (Kd.S_drew HO481.out)
 replace HO485 := ak (Kd.R_drew HO485.out)
 replace HO488 := ak (Kd.S_drew HO488.out)
 replace HO492 := ak (Kd.R_drew HO492.out)
 replace BK456 := ak (blk_drew BK456.out)
 replace BK457 := ak (blk_drew BK457.out)
 replace BK482 := ak (blk_drew BK482.out)
 replace BK489 := ak (blk_drew BK489.out)
 replace HB := ak (below_drew1 HB.out)
 refine start_ (n := 5) (S := fun w' => w'.cell? ⟨gb482, 0, none⟩ = some (.slice Ao61 t476.length co61) ∧ w'.cell? ⟨gb482, 1, none⟩ = some (.slice Ao65 t479.length co65) ∧ w'.cell? ⟨gb456, 0, none⟩ = some (.slice A0_0 l0_0.length c0_0) ∧ w'.cell? ⟨gb456, 1, none⟩ = some (.slice A0_1 l0_1.length c0_1)) (ds := []) #[false, false, false, false, false] (by kernel_rfl) rfl rfl ⟨(blk_cell BK482.out 0).trans rfl, (blk_cell BK482.out 1).trans rfl, (blk_cell BK456.out 0).trans rfl, (blk_cell BK456.out 1).trans rfl⟩ (fun hHeld => ?_)
 generalize w79.drew = w80 at HO462 HO465 HO468 HO471 HO474 HO478 HO481 HO485 HO488 HO492 BK456 BK457 BK482 BK489 HB hHeld ⊢
 refine take_ (i := 0) (N := some 46) (v := ?_) (a' := ?_) #[true, false, false, false, false] rfl rfl (by kernel_rfl) (fun _ _ _ h => h) (Or.inl ⟨by rfl, ?_⟩) hHeld ?_ ?_
 rotate_left
 ·rintro w' ⟨s0, s1, s2, s3⟩
  go_simp
  with_reducible rfl
 rotate_left
 ·simp only [Act.put, List.setIfInBounds_toArray, List.set_cons_zero, List.set_cons_succ, i64_w, i32_w]
  rfl
 refine take_ (i := 1) (N := some 47) (v := ?_) (a' := ?_) #[true, true, false, false, false] rfl rfl (by kernel_rfl) (fun _ _ _ h => h) (Or.inl ⟨by rfl, ?_⟩) hHeld ?_ ?_
 rotate_left
 ·rintro w' ⟨s0, s1, s2, s3⟩
  go_simp
  with_reducible rfl
 rotate_left
 ·simp only [Act.put, List.setIfInBounds_toArray, List.set_cons_zero, List.set_cons_succ, i64_w, i32_w]
  rfl
 refine one_ (i := 2) (N := some 48) #[true, true, true, false, false] rfl rfl (by kernel_rfl) (by decide) (fun K hK => ?_)
 refine goes_ Try.func13 (by kernel_rfl) rfl #[.agg #[.slice A0_0 l0_0.length c0_0, .slice A0_1 l0_1.length c0_1]] (by rfl) rfl rfl (by (try simp only [List.map_toArray, List.map_cons, List.map_nil]); first | done | rfl | (simp only [List.length_drop, List.length_take]; rfl)) ?_
 with_reducible refine (laws_toAlgebra.calls k _ _ l0_0 _ _ l0_1 t494 t497 _ ?side1 ?side2 ?side3 ?side4 A32.out).mono ?_
 (case side1 => exact kC (Kd.C_below HR0_0.out HB.out))
 (case side2 => exact HC0_0.out)
 (case side3 => exact kC (Kd.C_below HR0_1.out HB.out))
 (case side4 => exact HC0_1.out)
 rintro e w81 ⟨v495, v498, rfl, ho0, ho1, hb⟩
 refine ⟨_, rfl, ?_⟩
 have HO496 := ak (Kd.R_lower (Kd.R_new' (Kd.R_new' (Kd.R_new' (Kd.R_new' (Kd.R_new' (Kd.R_new' ho0 (Kd.R_lt (kR HO462.out))) (Kd.R_lt (kR HO468.out))) (Kd.R_lt (kR HO474.out))) (Kd.R_lt (kR HO478.out))) (Kd.R_lt (kR HO485.out))) (Kd.R_lt (kR HO492.out))) (below_size (bB HB.out)))
 have HO499 := ak (Kd.S_lower (Kd.S_new' (Kd.S_new' (Kd.S_new' (Kd.S_new' (Kd.S_new' (Kd.S_new' (Kd.S_new' (Kd.S_new' (Kd.S_new' (Kd.S_new' ho1 (Kd.R_lt (kR HO462.out))) (Kd.S_lt (kS HO465.out))) (Kd.R_lt (kR HO468.out))) (Kd.S_lt (kS HO471.out))) (Kd.R_lt (kR HO474.out))) (Kd.R_lt (kR HO478.out))) (Kd.S_lt (kS HO481.out))) (Kd.R_lt (kR HO485.out))) (Kd.S_lt (kS HO488.out))) (Kd.R_lt (kR HO492.out))) (below_size (bB HB.out)))
 replace HO462 := ak (Kd.R_elder' (kR HO462.out) (Kd.R_base ho0) hb)
 replace HO465 := ak (Kd.S_mono (Kd.S_told (Kd.S_told (Kd.S_old (kS HO465.out) hb) (Kd.R_base ho0)) (Kd.S_base ho1)) (fun _ h_ => h_.1))
 replace HO468 := ak (Kd.R_elder' (kR HO468.out) (Kd.R_base ho0) hb)
 replace HO471 := ak (Kd.S_mono (Kd.S_told (Kd.S_told (Kd.S_old (kS HO471.out) hb) (Kd.R_base ho0)) (Kd.S_base ho1)) (fun _ h_ => h_.1))
 replace HO474 := ak (Kd.R_elder' (kR HO474.out) (Kd.R_base ho0) hb)
 replace HO478 := ak (Kd.R_elder' (kR HO478.out) (Kd.R_base ho0) hb)
 replace HO481 := ak (Kd.S_mono (Kd.S_told (Kd.S_told (Kd.S_old (kS HO481.out) hb) (Kd.R_base ho0)) (Kd.S_base ho1)) (fun _ h_ => h_.1))
 replace HO485 := ak (Kd.R_elder' (kR HO485.out) (Kd.R_base ho0) hb)
 replace HO488 := ak (Kd.S_mono (Kd.S_told (Kd.S_told (Kd.S_old (kS HO488.out) hb) (Kd.R_base ho0)) (Kd.S_base ho1)) (fun _ h_ => h_.1))
 replace HO492 := ak (Kd.R_elder' (kR HO492.out) (Kd.R_base ho0) hb)
 replace BK456 := ak (blk_below (kK BK456.out) hb)
 replace BK457 := ak (blk_below (kK BK457.out) hb)
 replace BK482 := ak (blk_below (kK BK482.out) hb)
 replace BK489 := ak (blk_below (kK BK489.out) hb)
 replace HB := ak (below_step (bB HB.out) hb)
 (try clear hb)
 (try clear hb2)
 (try clear hk)
 (try clear hi)
 (try clear ho0)
 (try clear ho1)
 obtain ⟨Ao82, co82, eo82⟩ := Kd.R_slice HO496.out
 (first | subst eo82 | (injection eo82 with f1_ f2_ f3_; have f4_ := f1_.symm; have f5_ := f3_.symm; clear f1_ f2_ f3_; subst f4_; subst f5_))
 obtain ⟨Ao83, co83, eo83⟩ := Kd.S_slice HO499.out
 (first | subst eo83 | (injection eo83 with f1_ f2_ f3_; have f4_ := f1_.symm; have f5_ := f3_.symm; clear f1_ f2_ f3_; subst f4_; subst f5_))
 refine hK.out _ _ ⟨(blk_cell BK482.out 0).trans rfl, (blk_cell BK482.out 1).trans rfl, (blk_cell BK456.out 0).trans rfl, (blk_cell BK456.out 1).trans rfl⟩ (fun hHeld => ?_)
 clear hK K
 refine norm_ (a' := ?_) ?_ ?_
 rotate_left
 ·show Act.put _ (some 48) _ = _
  simp only [Act.put, List.setIfInBounds_toArray, List.set_cons_zero, List.set_cons_succ, i64_w, i32_w]
  rfl
 refine one_ (i := 3) (N := some 49) #[true, true, true, true, false] rfl rfl (by kernel_rfl) (by decide) (fun K hK => ?_)
 refine goes_ Try.func16 (by kernel_rfl) rfl #[.agg #[.slice Ao61 t476.length co61, .slice Ao65 t479.length co65], .agg #[.slice Ao82 t494.length co82, .slice Ao83 t497.length co83]] (by rfl) rfl rfl (by (try simp only [List.map_toArray, List.map_cons, List.map_nil]); first | done | rfl | (simp only [List.length_drop, List.length_take]; rfl)) ?_
 with_reducible refine (laws_eqAlgebra.calls k _ _ t476 _ _ t479 _ _ t494 _ _ t497 true _ ?side1 ?side2 ?side3 ?side4 ?side5 ?side6 ?side7 ?side8 A33.out).mono ?_
 (case side1 => exact kC (Kd.R_reads' HO478.out).2.2)
 (case side2 => exact (Kd.R_reads' HO478.out).2.1)
 (case side3 => exact kC (Kd.S_reads' HO481.out).2.2)
 (case side4 => exact (Kd.S_reads' HO481.out).2.1)
 (case side5 => exact kC (Kd.R_reads' HO496.out).2.2)
 (case side6 => exact (Kd.R_reads' HO496.out).2.1)
 (case side7 => exact kC (Kd.S_reads' HO499.out).2.2)
 (case side8 => exact (Kd.S_reads' HO499.out).2.1)
 rintro e w84 ⟨rfl, hb⟩
 refine ⟨_, rfl, ?_⟩
 replace HO462 := ak (Kd.R_below (kR HO462.out) hb)
 replace HO465 := ak (Kd.S_below (kS HO465.out) hb)
 replace HO468 := ak (Kd.R_below (kR HO468.out) hb)
 replace HO471 := ak (Kd.S_below (kS HO471.out) hb)
 replace HO474 := ak (Kd.R_below (kR HO474.out) hb)
 replace HO478 := ak (Kd.R_below (kR HO478.out) hb)
 replace HO481 := ak (Kd.S_below (kS HO481.out) hb)
 replace HO485 := ak (Kd.R_below (kR HO485.out) hb)
 replace HO488 := ak (Kd.S_below (kS HO488.out) hb)
 replace HO492 := ak (Kd.R_below (kR HO492.out) hb)
 replace HO496 := ak (Kd.R_below (kR HO496.out) hb)
 replace HO499 := ak (Kd.S_below (kS HO499.out) hb)
 replace BK456 := ak (blk_below (kK BK456.out) hb)
 replace BK457 := ak (blk_below (kK BK457.out) hb)
 replace BK482 := ak (blk_below (kK BK482.out) hb)
 replace BK489 := ak (blk_below (kK BK489.out) hb)
 replace HB := ak (below_step (bB HB.out) hb)
 (try clear hb)
 (try clear hb2)
 (try clear hk)
 (try clear hi)
 refine hK.out _ _ ⟨(blk_cell BK482.out 0).trans rfl, (blk_cell BK482.out 1).trans rfl, (blk_cell BK456.out 0).trans rfl, (blk_cell BK456.out 1).trans rfl⟩ (fun hHeld => ?_)
 clear hK K
 refine norm_ (a' := ?_) ?_ ?_
 rotate_left
 ·show Act.put _ (some 49) _ = _
  simp only [Act.put, List.setIfInBounds_toArray, List.set_cons_zero, List.set_cons_succ, i64_w, i32_w]
  rfl
 refine pure_ (i := 4) (N := some 50) (v := ?_) (a' := ?_) #[true, true, true, true, true] rfl rfl (by kernel_rfl) (fun _ _ _ h => h) (Or.inl ⟨by rfl, ?_⟩) ?_ ?_
 rotate_left
 ·intro w'
  go_simp
  with_reducible rfl
 rotate_left
 ·simp only [Act.put, List.setIfInBounds_toArray, List.set_cons_zero, List.set_cons_succ, i64_w, i32_w]
  rfl
 refine done_ (by kernel_rfl) ?_
 try go_wp2
 replace HO462 := ak (Kd.R_drew HO462.out)
 replace HO465 := ak (Kd.S_drew HO465.out)
 replace HO468 := ak (Kd.R_drew HO468.out)
 replace HO471 := ak (Kd.S_drew HO471.out)
 replace HO474 := ak (Kd.R_drew HO474.out)
 replace HO478 := ak (Kd.R_drew HO478.out)
 replace HO481 := ak (Kd.S_drew HO481.out)
 replace HO485 := ak (Kd.R_drew HO485.out)
 replace HO488 := ak (Kd.S_drew HO488.out)
 replace HO492 := ak (Kd.R_drew HO492.out)
 replace HO496 := ak (Kd.R_drew HO496.out)
 replace HO499 := ak (Kd.S_drew HO499.out)
 replace BK456 := ak (blk_drew BK456.out)
 replace BK457 := ak (blk_drew BK457.out)
 replace BK482 := ak (blk_drew BK482.out)
 replace BK489 := ak (blk_drew BK489.out)
 replace HB := ak (below_drew1 HB.out)
 refine start_ (n := 5) (S := fun w' => w'.cell? ⟨gb489, 0, none⟩ = some (.slice Ao69 t483.length co69) ∧ w'.cell? ⟨gb489, 1, none⟩ = some (.slice Ao74 t486.length co74) ∧ w'.cell? ⟨gb457, 0, none⟩ = some (.slice A1_0 l1_0.length c1_0) ∧ w'.cell? ⟨gb457, 1, none⟩ = some (.slice A1_1 l1_1.length c1_1)) (ds := []) #[false, false, false, false, false] (by kernel_rfl) rfl rfl ⟨(blk_cell BK489.out 0).trans rfl, (blk_cell BK489.out 1).trans rfl, (blk_cell BK457.out 0).trans rfl, (blk_cell BK457.out 1).trans rfl⟩ (fun hHeld => ?_)
 generalize w84.drew = w85 at HO462 HO465 HO468 HO471 HO474 HO478 HO481 HO485 HO488 HO492 HO496 HO499 BK456 BK457 BK482 BK489 HB hHeld ⊢
 refine take_ (i := 0) (N := some 51) (v := ?_) (a' := ?_) #[true, false, false, false, false] rfl rfl (by kernel_rfl) (fun _ _ _ h => h) (Or.inl ⟨by rfl, ?_⟩) hHeld ?_ ?_
 rotate_left
 ·rintro w' ⟨s0, s1, s2, s3⟩
  go_simp
  with_reducible rfl
 rotate_left
 ·simp only [Act.put, List.setIfInBounds_toArray, List.set_cons_zero, List.set_cons_succ, i64_w, i32_w]
  rfl
 refine take_ (i := 1) (N := some 52) (v := ?_) (a' := ?_) #[true, true, false, false, false] rfl rfl (by kernel_rfl) (fun _ _ _ h => h) (Or.inl ⟨by rfl, ?_⟩) hHeld ?_ ?_
 rotate_left
 ·rintro w' ⟨s0, s1, s2, s3⟩
  go_simp
  with_reducible rfl
 rotate_left
 ·simp only [Act.put, List.setIfInBounds_toArray, List.set_cons_zero, List.set_cons_succ, i64_w, i32_w]
  rfl
 refine one_ (i := 2) (N := some 53) #[true, true, true, false, false] rfl rfl (by kernel_rfl) (by decide) (fun K hK => ?_)
 refine goes_ Try.func13 (by kernel_rfl) rfl #[.agg #[.slice A1_0 l1_0.length c1_0, .slice A1_1 l1_1.length c1_1]] (by rfl) rfl rfl (by (try simp only [List.map_toArray, List.map_cons, List.map_nil]); first | done | rfl | (simp only [List.length_drop, List.length_take]; rfl)) ?_
 with_reducible refine (laws_toAlgebra.calls k _ _ l1_0 _ _ l1_1 t501 t504 _ ?side1 ?side2 ?side3 ?side4 A35.out).mono ?_
 (case side1 => exact kC (Kd.C_below HR1_0.out HB.out))
 (case side2 => exact HC1_0.out)
 (case side3 => exact kC (Kd.C_below HR1_1.out HB.out))
 (case side4 => exact HC1_1.out)
 rintro e w86 ⟨v502, v505, rfl, ho0, ho1, hb⟩
 refine ⟨_, rfl, ?_⟩
 have HO503 := ak (Kd.R_lower (Kd.R_new' (Kd.R_new' (Kd.R_new' (Kd.R_new' (Kd.R_new' (Kd.R_new' (Kd.R_new' ho0 (Kd.R_lt (kR HO462.out))) (Kd.R_lt (kR HO468.out))) (Kd.R_lt (kR HO474.out))) (Kd.R_lt (kR HO478.out))) (Kd.R_lt (kR HO485.out))) (Kd.R_lt (kR HO492.out))) (Kd.R_lt (kR HO496.out))) (below_size (bB HB.out)))
 have HO506 := ak (Kd.S_lower (Kd.S_new' (Kd.S_new' (Kd.S_new' (Kd.S_new' (Kd.S_new' (Kd.S_new' (Kd.S_new' (Kd.S_new' (Kd.S_new' (Kd.S_new' (Kd.S_new' (Kd.S_new' ho1 (Kd.R_lt (kR HO462.out))) (Kd.S_lt (kS HO465.out))) (Kd.R_lt (kR HO468.out))) (Kd.S_lt (kS HO471.out))) (Kd.R_lt (kR HO474.out))) (Kd.R_lt (kR HO478.out))) (Kd.S_lt (kS HO481.out))) (Kd.R_lt (kR HO485.out))) (Kd.S_lt (kS HO488.out))) (Kd.R_lt (kR HO492.out))) (Kd.R_lt (kR HO496.out))) (Kd.S_lt (kS HO499.out))) (below_size (bB HB.out)))
 replace HO462 := ak (Kd.R_elder' (kR HO462.out) (Kd.R_base ho0) hb)
 replace HO465 := ak (Kd.S_mono (Kd.S_told (Kd.S_told (Kd.S_old (kS HO465.out) hb) (Kd.R_base ho0)) (Kd.S_base ho1)) (fun _ h_ => h_.1))
 replace HO468 := ak (Kd.R_elder' (kR HO468.out) (Kd.R_base ho0) hb)
 replace HO471 := ak (Kd.S_mono (Kd.S_told (Kd.S_told (Kd.S_old (kS HO471.out) hb) (Kd.R_base ho0)) (Kd.S_base ho1)) (fun _ h_ => h_.1))
 replace HO474 := ak (Kd.R_elder' (kR HO474.out) (Kd.R_base ho0) hb)
 replace HO478 := ak (Kd.R_elder' (kR HO478.out) (Kd.R_base ho0) hb)
 replace HO481 := ak (Kd.S_mono (Kd.S_told (Kd.S_told (Kd.S_old (kS HO481.out) hb) (Kd.R_base ho0)) (Kd.S_base ho1)) (fun _ h_ => h_.1))
 replace HO485 := ak (Kd.R_elder' (kR HO485.out) (Kd.R_base ho0) hb)
 replace HO488 := ak (Kd.S_mono (Kd.S_told (Kd.S_told (Kd.S_old (kS HO488.out) hb) (Kd.R_base ho0)) (Kd.S_base ho1)) (fun _ h_ => h_.1))
 replace HO492 := ak (Kd.R_elder' (kR HO492.out) (Kd.R_base ho0) hb)
 replace HO496 := ak (Kd.R_elder' (kR HO496.out) (Kd.R_base ho0) hb)
 replace HO499 := ak (Kd.S_mono (Kd.S_told (Kd.S_told (Kd.S_old (kS HO499.out) hb) (Kd.R_base ho0)) (Kd.S_base ho1)) (fun _ h_ => h_.1))
 replace BK456 := ak (blk_below (kK BK456.out) hb)
 replace BK457 := ak (blk_below (kK BK457.out) hb)
 replace BK482 := ak (blk_below (kK BK482.out) hb)
 replace BK489 := ak (blk_below (kK BK489.out) hb)
 replace HB := ak (below_step (bB HB.out) hb)
 (try clear hb)
 (try clear hb2)
 (try clear hk)
 (try clear hi)
 (try clear ho0)
 (try clear ho1)
 obtain ⟨Ao87, co87, eo87⟩ := Kd.R_slice HO503.out
 (first | subst eo87 | (injection eo87 with f1_ f2_ f3_; have f4_ := f1_.symm; have f5_ := f3_.symm; clear f1_ f2_ f3_; subst f4_; subst f5_))
 obtain ⟨Ao88, co88, eo88⟩ := Kd.S_slice HO506.out
 (first | subst eo88 | (injection eo88 with f1_ f2_ f3_; have f4_ := f1_.symm; have f5_ := f3_.symm; clear f1_ f2_ f3_; subst f4_; subst f5_))
 refine hK.out _ _ ⟨(blk_cell BK489.out 0).trans rfl, (blk_cell BK489.out 1).trans rfl, (blk_cell BK457.out 0).trans rfl, (blk_cell BK457.out 1).trans rfl⟩ (fun hHeld => ?_)
 clear hK K
 refine norm_ (a' := ?_) ?_ ?_
 rotate_left
 ·show Act.put _ (some 53) _ = _
  simp only [Act.put, List.setIfInBounds_toArray, List.set_cons_zero, List.set_cons_succ, i64_w, i32_w]
  rfl
 refine one_ (i := 3) (N := some 54) #[true, true, true, true, false] rfl rfl (by kernel_rfl) (by decide) (fun K hK => ?_)
 refine goes_ Try.func16 (by kernel_rfl) rfl #[.agg #[.slice Ao69 t483.length co69, .slice Ao74 t486.length co74], .agg #[.slice Ao87 t501.length co87, .slice Ao88 t504.length co88]] (by rfl) rfl rfl (by (try simp only [List.map_toArray, List.map_cons, List.map_nil]); first | done | rfl | (simp only [List.length_drop, List.length_take]; rfl)) ?_
 with_reducible refine (laws_eqAlgebra.calls k _ _ t483 _ _ t486 _ _ t501 _ _ t504 true _ ?side1 ?side2 ?side3 ?side4 ?side5 ?side6 ?side7 ?side8 A36.out).mono ?_
 (case side1 => exact kC (Kd.R_reads' HO485.out).2.2)
 (case side2 => exact (Kd.R_reads' HO485.out).2.1)
 (case side3 => exact kC (Kd.S_reads' HO488.out).2.2)
 (case side4 => exact (Kd.S_reads' HO488.out).2.1)
 (case side5 => exact kC (Kd.R_reads' HO503.out).2.2)
 (case side6 => exact (Kd.R_reads' HO503.out).2.1)
 (case side7 => exact kC (Kd.S_reads' HO506.out).2.2)
 (case side8 => exact (Kd.S_reads' HO506.out).2.1)
 rintro e w89 ⟨rfl, hb⟩
 refine ⟨_, rfl, ?_⟩
 replace HO462 := ak (Kd.R_below (kR HO462.out) hb)
 replace HO465 := ak (Kd.S_below (kS HO465.out) hb)
 replace HO468 := ak (Kd.R_below (kR HO468.out) hb)
 replace HO471 := ak (Kd.S_below (kS HO471.out) hb)
 replace HO474 := ak (Kd.R_below (kR HO474.out) hb)
 replace HO478 := ak (Kd.R_below (kR HO478.out) hb)
 replace HO481 := ak (Kd.S_below (kS HO481.out) hb)
 replace HO485 := ak (Kd.R_below (kR HO485.out) hb)
 replace HO488 := ak (Kd.S_below (kS HO488.out) hb)
 replace HO492 := ak (Kd.R_below (kR HO492.out) hb)
 replace HO496 := ak (Kd.R_below (kR HO496.out) hb)
 replace HO499 := ak (Kd.S_below (kS HO499.out) hb)
 replace HO503 := ak (Kd.R_below (kR HO503.out) hb)
 replace HO506 := ak (Kd.S_below (kS HO506.out) hb)
 replace BK456 := ak (blk_below (kK BK456.out) hb)
 replace BK457 := ak (blk_below (kK BK457.out) hb)
 replace BK482 := ak (blk_below (kK BK482.out) hb)
 replace BK489 := ak (blk_below (kK BK489.out) hb)
 replace HB := ak (below_step (bB HB.out) hb)
 (try clear hb)
 (try clear hb2)
 (try clear hk)
 (try clear hi)
 refine hK.out _ _ ⟨(blk_cell BK489.out 0).trans rfl, (blk_cell BK489.out 1).trans rfl, (blk_cell BK457.out 0).trans rfl, (blk_cell BK457.out 1).trans rfl⟩ (fun hHeld => ?_)
 clear hK K
 refine norm_ (a' := ?_) ?_ ?_
 rotate_left
 ·show Act.put _ (some 54) _ = _
  simp only [Act.put, List.setIfInBounds_toArray, List.set_cons_zero, List.set_cons_succ, i64_w, i32_w]
  rfl
 refine pure_ (i := 4) (N := some 55) (v := ?_) (a' := ?_) #[true, true, true, true, true] rfl rfl (by kernel_rfl) (fun _ _ _ h => h) (Or.inl ⟨by rfl, ?_⟩) ?_ ?_
 rotate_left
 ·intro w'
  go_simp
  with_reducible rfl
 rotate_left
 ·simp only [Act.put, List.setIfInBounds_toArray, List.set_cons_zero, List.set_cons_succ, i64_w, i32_w]
  rfl
 refine done_ (by kernel_rfl) ?_
 try go_wp2_with (first | ((with_reducible refine gate_callee (f := 14) rfl ?_); refine goesL_ (some 58) rfl rfl Try.func14 (by kernel_rfl) rfl #[.slice A2 l2.length c2] rfl (by (try simp only [List.map_toArray, List.map_cons, List.map_nil]); first | done | rfl | (simp only [List.length_drop, List.length_take]; rfl)) ?_; (with_reducible refine (laws_toIntS.calls k _ _ l2 t508 _ ?side1 ?side2 A38.out).mono ?_); (case side1 => exact kC (Kd.C_below HR2.out HB.out)); (case side2 => exact HC2.out); rintro e w90 ⟨v509, rfl, ho0, hb⟩; refine ⟨_, rfl, ?_⟩; replace HO465 := ak (Kd.S_elder' (kS HO465.out) (Kd.R_base ho0) hb); replace HO471 := ak (Kd.S_elder' (kS HO471.out) (Kd.R_base ho0) hb); replace HO481 := ak (Kd.S_elder' (kS HO481.out) (Kd.R_base ho0) hb); replace HO488 := ak (Kd.S_elder' (kS HO488.out) (Kd.R_base ho0) hb); replace HO499 := ak (Kd.S_elder' (kS HO499.out) (Kd.R_base ho0) hb); replace HO506 := ak (Kd.S_elder' (kS HO506.out) (Kd.R_base ho0) hb); have HO510 := ak (Kd.R_lower (Kd.R_new' (Kd.R_new' (Kd.R_new' (Kd.R_new' (Kd.R_new' (Kd.R_new' (Kd.R_new' (Kd.R_new' ho0 (Kd.R_lt (kR HO462.out))) (Kd.R_lt (kR HO468.out))) (Kd.R_lt (kR HO474.out))) (Kd.R_lt (kR HO478.out))) (Kd.R_lt (kR HO485.out))) (Kd.R_lt (kR HO492.out))) (Kd.R_lt (kR HO496.out))) (Kd.R_lt (kR HO503.out))) (below_size (bB HB.out))); replace HO462 := ak (Kd.R_elder' (kR HO462.out) (Kd.R_base ho0) hb); replace HO468 := ak (Kd.R_elder' (kR HO468.out) (Kd.R_base ho0) hb); replace HO474 := ak (Kd.R_elder' (kR HO474.out) (Kd.R_base ho0) hb); replace HO478 := ak (Kd.R_elder' (kR HO478.out) (Kd.R_base ho0) hb); replace HO485 := ak (Kd.R_elder' (kR HO485.out) (Kd.R_base ho0) hb); replace HO492 := ak (Kd.R_elder' (kR HO492.out) (Kd.R_base ho0) hb); replace HO496 := ak (Kd.R_elder' (kR HO496.out) (Kd.R_base ho0) hb); replace HO503 := ak (Kd.R_elder' (kR HO503.out) (Kd.R_base ho0) hb); replace BK456 := ak (blk_below (kK BK456.out) hb); replace BK457 := ak (blk_below (kK BK457.out) hb); replace BK482 := ak (blk_below (kK BK482.out) hb); replace BK489 := ak (blk_below (kK BK489.out) hb); replace HB := ak (below_step (bB HB.out) hb); (try clear hb); (try clear hb2); (try clear hk); (try clear hi); (try clear ho0); obtain ⟨Ao91, co91, eo91⟩ := Kd.R_slice HO510.out; subst eo91) | ((with_reducible refine gate_callee (f := 17) rfl ?_); refine goesL_ (some 59) rfl rfl Try.func17 (by kernel_rfl) rfl #[.slice Ao78 t490.length co78, .slice Ao91 t508.length co91] rfl (by (try simp only [List.map_toArray, List.map_cons, List.map_nil]); first | done | rfl | (simp only [List.length_drop, List.length_take]; rfl)) ?_; (with_reducible refine (laws_eqIntS.calls k _ _ t490 _ _ t508 true _ ?side1 ?side2 ?side3 ?side4 A39.out).mono ?_); (case side1 => exact kC (Kd.R_reads' HO492.out).2.2); (case side2 => exact (Kd.R_reads' HO492.out).2.1); (case side3 => exact kC (Kd.R_reads' HO510.out).2.2); (case side4 => exact (Kd.R_reads' HO510.out).2.1); rintro e w' ⟨rfl, ⟨nd, rfl⟩⟩; refine ⟨_, rfl, ?_⟩))
 go_ret
 exact ⟨by first | rfl | (simp [errW_none, errW_some] <;> rfl) | (simp [*, errW_none, errW_some] <;> rfl), by repeat (first | (with_reducible first | exact HB.out | apply below_alloc | apply pw_below_drewN | apply below_drew1 | refine below_set ?_ GE456.out | refine below_set ?_ GE457.out | refine below_set ?_ GE482.out | refine below_set ?_ GE489.out) | exact HB.out)⟩
/-- THE ONE PURE STATEMENT of laws_FnExactImageOf: yours. -/
def laws_FnExactImageOf.Pure : Prop := ∀ (l0_0 : List Int) (l0_1 : List (List Int)) (l1_0 : List Int) (l1_1 : List (List Int)) (l2 : List Int), l0_0.length ≤ maxLen → (∀ x ∈ l0_0, (Lit.int .i64 x).wf = true) → l0_1.length ≤ maxLen → (∀ r ∈ l0_1, r.length ≤ maxLen ∧ ∀ x ∈ r, (Lit.int .i64 x).wf = true) → l1_0.length ≤ maxLen → (∀ x ∈ l1_0, (Lit.int .i64 x).wf = true) → l1_1.length ≤ maxLen → (∀ r ∈ l1_1, r.length ≤ maxLen ∧ ∀ x ∈ r, (Lit.int .i64 x).wf = true) → l2.length ≤ maxLen → l2.length * 8 ≤ 140737488351232 → (∀ x ∈ l2, (Lit.int .i64 x).wf = true) → ∃ k, laws_FnExactImageOf.f k l0_0 l0_1 l1_0 l1_1 l2 = some true
theorem laws_FnExactImageOf.walk (P : laws_FnExactImageOf.Pure) (A0_0 : Option Addr) (c0_0 : Nat) (l0_0 : List Int) (A0_1 : Option Addr) (c0_1 : Nat) (l0_1 : List (List Int)) (A1_0 : Option Addr) (c1_0 : Nat) (l1_0 : List Int) (A1_1 : Option Addr) (c1_1 : Nat) (l1_1 : List (List Int)) (a2 : Option Addr) (len2 cap2 : Nat) (z2 : List Int) (w : World) (hr0_0 : Kd.C (Kd.int .i64) w A0_0 l0_0.length l0_0) (hc0_0 : l0_0.length ≤ c0_0) (hm0_0 : l0_0.length ≤ maxLen) (hw0_0 : (∀ x ∈ l0_0, (Lit.int .i64 x).wf = true)) (hr0_1 : Kd.C (Kd.slice 3 (Kd.int .i64)) w A0_1 l0_1.length l0_1) (hc0_1 : l0_1.length ≤ c0_1) (hm0_1 : l0_1.length ≤ maxLen) (hw0_1 : (∀ r ∈ l0_1, r.length ≤ maxLen ∧ ∀ x ∈ r, (Lit.int .i64 x).wf = true)) (hr1_0 : Kd.C (Kd.int .i64) w A1_0 l1_0.length l1_0) (hc1_0 : l1_0.length ≤ c1_0) (hm1_0 : l1_0.length ≤ maxLen) (hw1_0 : (∀ x ∈ l1_0, (Lit.int .i64 x).wf = true)) (hr1_1 : Kd.C (Kd.slice 3 (Kd.int .i64)) w A1_1 l1_1.length l1_1) (hc1_1 : l1_1.length ≤ c1_1) (hm1_1 : l1_1.length ≤ maxLen) (hw1_1 : (∀ r ∈ l1_1, r.length ≤ maxLen ∧ ∀ x ∈ r, (Lit.int .i64 x).wf = true)) (w2 : (a2 = none ∧ len2 = 0 ∧ cap2 = 0 ∧ z2 = []) ∨ ∃ x, a2 = some x ∧ len2 ≤ cap2 ∧ cap2 ≤ maxLen ∧ z2.length = cap2 ∧ (∀ i, i < z2.length → w.cell? (x.add i) = some (.int .i64 (z2.getD i 0))) ∧ ∀ n ∈ z2, (Lit.int .i64 n).wf = true) (y2 : len2 * 8 ≤ 140737488351232) :
  Calls Try.prog 6 #[.agg #[.slice A0_0 l0_0.length c0_0, .slice A0_1 l0_1.length c0_1], .agg #[.slice A1_0 l1_0.length c1_0, .slice A1_1 l1_1.length c1_1], .slice a2 len2 cap2] w fun e w' => e = .returned (.bool true) ∧ Below w.heap.size w w' := by
 obtain ⟨l2, rfl, hr2, hm2, hw2, hc2⟩ := ReadsInt.ofRowC w2
 obtain ⟨k, h⟩ := P l0_0 l0_1 l1_0 l1_1 l2 hm0_0 hw0_0 hm0_1 hw0_1 hm1_0 hw1_0 hm1_1 hw1_1 hm2 y2 hw2
 refine (laws_FnExactImageOf.calls k _ _ l0_0 _ _ l0_1 _ _ l1_0 _ _ l1_1 _ _ l2 true w hr0_0 hc0_0 hr0_1 hc0_1 hr1_0 hc1_0 hr1_1 hc1_1 (Kd.C_of_reads (d := (0 : Int)) (h1 := fun _ => rfl) hr2) hc2 ⟨rfl⟩ h).mono ?_
 rintro e w' ⟨rfl, hd⟩
 exact ⟨rfl, hd⟩
end Go.Proofs.Ytomapoenndlbiaa.P

-- shrunk
