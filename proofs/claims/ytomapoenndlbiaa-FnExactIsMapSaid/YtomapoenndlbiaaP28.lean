-- Printed by this session's wip/print2.py (the kit's print.py, widened) out of the translation. Lean checks it.
import Derived.Test.YtomapoenndlbiaaP0
import Derived.Test.YtomapoenndlbiaaP2
import Derived.Test.YtomapoenndlbiaaP3
import Derived.Test.YtomapoenndlbiaaP4
import Derived.Test.YtomapoenndlbiaaP5
import Derived.Test.YtomapoenndlbiaaP7
import Derived.Test.YtomapoenndlbiaaP17
import Derived.Test.YtomapoenndlbiaaP27
namespace Go.Proofs.Ytomapoenndlbiaa.P
open Go.RowKit Go.Proofs.YtomapoenndlbiaaW.PrintWords Go.Proofs.YtomapoenndlbiaaW.PrintLast Go.Proofs.YtomapoenndlbiaaW.PrintMore
attribute [local go_sem] max2_int min2_int max_two min_two max_three min_three max_four min_four   -- for this text's walks alone
set_option linter.unusedVariables false
set_option linter.unusedSimpArgs false

/-! ### laws_FnExactIsMap: function 4 -/
def laws_FnExactIsMap.f (k : Nat) (l0_0 : List Int) (l0_1 : List (List Int)) (l1_0 : List Int) (l1_1 : List (List Int)) (l2 : List Int) : Option (Bool) := if (l2.length : Int) > 1048576 then (some true) else ((laws_szAlgebra.f k l0_0 l0_1 1048576).bind fun t322 => (if t322 < 0 then (some true) else ((laws_szAlgebra.f k l1_0 l1_1 t322).bind fun t323 => (if t323 < 0 then (some true) else ((laws_toAlgebra.f k l0_0 l0_1).bind fun bt324 => ((laws_toAlgebra.f k l1_0 l1_1).bind fun bt330 => ((laws_toIntS.f k l2).bind fun t336 => ((spec_IsMap.f k bt324.1 bt324.2 bt330.1 bt330.2 t336).bind fun t339 => ((laws_toAlgebra.f k l0_0 l0_1).bind fun bt340 => ((laws_toAlgebra.f k l1_0 l1_1).bind fun bt347 => ((laws_toIntS.f k l2).bind fun t354 => ((impl_IsMap.f k bt340.1 bt340.2 bt347.1 bt347.2 t354).bind fun t357 => (if (t357 != t339) = true then (some false) else ((laws_toAlgebra.f k l0_0 l0_1).bind fun bt358 => ((laws_eqAlgebra.f k bt340.1 bt340.2 bt358.1 bt358.2).bind fun t364 => (if t364 = true then ((laws_toAlgebra.f k l1_0 l1_1).bind fun bt365 => ((laws_eqAlgebra.f k bt347.1 bt347.2 bt365.1 bt365.2).bind fun t371 => (if t371 = true then ((laws_toIntS.f k l2).bind fun t372 => ((laws_eqIntS.f k t354 t372).bind fun t375 => (if t375 = true then (some true) else (some false)))) else (some false)))) else (some false)))))))))))))))))
def laws_FnExactIsMap.T10 : Bool × List (List Nat × List Nat) := (true, [([], []), ([0], [0]), ([], []), ([2, 1], [2]), ([], []), ([4, 3], [4]), ([1, 3, 5, 5], [1, 3, 5]), ([6, 6, 0, 1, 2, 3, 4, 5, 6], [6])])
def laws_FnExactIsMap.B10 : List Nat := [0, 1, 0, 7, 0, 31, 63, 127]
theorem laws_FnExactIsMap.tab10 : rtab .any (opsOf Try.f4 10) = laws_FnExactIsMap.T10 := by kernel_rfl
theorem laws_FnExactIsMap.bits10 : waitsOk laws_FnExactIsMap.T10.2 laws_FnExactIsMap.B10 = true := by kernel_rfl
set_option maxHeartbeats 8000000 in
set_option maxRecDepth 100000 in
theorem laws_FnExactIsMap.calls (k : Nat) (A0_0 : Option Addr) (c0_0 : Nat) (l0_0 : List Int) (A0_1 : Option Addr) (c0_1 : Nat) (l0_1 : List (List Int)) (A1_0 : Option Addr) (c1_0 : Nat) (l1_0 : List Int) (A1_1 : Option Addr) (c1_1 : Nat) (l1_1 : List (List Int)) (A2 : Option Addr) (c2 : Nat) (l2 : List Int) (r : Bool) (w : World) (hr0_0 : Kd.C (Kd.int .i64) w A0_0 l0_0.length l0_0) (hc0_0 : l0_0.length ≤ c0_0) (hr0_1 : Kd.C (Kd.slice 3 (Kd.int .i64)) w A0_1 l0_1.length l0_1) (hc0_1 : l0_1.length ≤ c0_1) (hr1_0 : Kd.C (Kd.int .i64) w A1_0 l1_0.length l1_0) (hc1_0 : l1_0.length ≤ c1_0) (hr1_1 : Kd.C (Kd.slice 3 (Kd.int .i64)) w A1_1 l1_1.length l1_1) (hc1_1 : l1_1.length ≤ c1_1) (hr2 : Kd.C (Kd.int .i64) w A2 l2.length l2) (hc2 : l2.length ≤ c2) (hrt : Aside0 (r = true)) (h : laws_FnExactIsMap.f k l0_0 l0_1 l1_0 l1_1 l2 = some r) :
  Calls Try.prog 4 #[.agg #[.slice A0_0 l0_0.length c0_0, .slice A0_1 l0_1.length c0_1], .agg #[.slice A1_0 l1_0.length c1_0, .slice A1_1 l1_1.length c1_1], .slice A2 l2.length c2] w fun e w' => e = .returned (.bool r) ∧ Below w.heap.size w w' := by
 have hu25 := Try.underlying25
 have hu28 := Try.underlying28
 have HR0_0 := ak hr0_0
 have HC0_0 := ak hc0_0
 clear hr0_0 hc0_0
 have HR0_1 := ak hr0_1
 have HC0_1 := ak hc0_1
 clear hr0_1 hc0_1
 have HR1_0 := ak hr1_0
 have HC1_0 := ak hc1_0
 clear hr1_0 hc1_0
 have HR1_1 := ak hr1_1
 have HC1_1 := ak hc1_1
 clear hr1_1 hc1_1
 have HR2 := ak hr2
 have HC2 := ak hc2
 clear hr2 hc2
 have HB := ak (Below.refl w.heap.size w)
 have H : (if (l2.length : Int) > 1048576 then (some true) else ((laws_szAlgebra.f k l0_0 l0_1 1048576).bind fun t322 => (if t322 < 0 then (some true) else ((laws_szAlgebra.f k l1_0 l1_1 t322).bind fun t323 => (if t323 < 0 then (some true) else ((laws_toAlgebra.f k l0_0 l0_1).bind fun bt324 => ((laws_toAlgebra.f k l1_0 l1_1).bind fun bt330 => ((laws_toIntS.f k l2).bind fun t336 => ((spec_IsMap.f k bt324.1 bt324.2 bt330.1 bt330.2 t336).bind fun t339 => ((laws_toAlgebra.f k l0_0 l0_1).bind fun bt340 => ((laws_toAlgebra.f k l1_0 l1_1).bind fun bt347 => ((laws_toIntS.f k l2).bind fun t354 => ((impl_IsMap.f k bt340.1 bt340.2 bt347.1 bt347.2 t354).bind fun t357 => (if (t357 != t339) = true then (some false) else ((laws_toAlgebra.f k l0_0 l0_1).bind fun bt358 => ((laws_eqAlgebra.f k bt340.1 bt340.2 bt358.1 bt358.2).bind fun t364 => (if t364 = true then ((laws_toAlgebra.f k l1_0 l1_1).bind fun bt365 => ((laws_eqAlgebra.f k bt347.1 bt347.2 bt365.1 bt365.2).bind fun t371 => (if t371 = true then ((laws_toIntS.f k l2).bind fun t372 => ((laws_eqIntS.f k t354 t372).bind fun t375 => (if t375 = true then (some true) else (some false)))) else (some false)))) else (some false)))))))))))))))))) = some r := h
 clear h
 by_cases c4 : (l2.length : Int) > 1048576
 ·rw [if_pos c4] at H
  have c4b0 : decide (1048576 < (l2.length : Int)) = true := decide_eq_true c4
  have c4b1 : decide (1048576 < l2.length) = true := decide_eq_true (by omega)
  clear c4
  obtain rfl := Option.some.inj H
  go_enter Try.func4, Try.ntmps4
  go_wp2_with (first | ((with_reducible refine gate_dst (N := 3) rfl ?_); refine box_event ?hg (N := 3) ?hd (cs := #[.slice A0_0 l0_0.length c0_0, .slice A0_1 l0_1.length c0_1]) (t := 25) ?hr ?_; (case hd => rfl); (case hg => rfl); (case hr => first | (go_simp; done) | (go_simp; rfl)); intro gb320 hg w5 hbox hb; have BK320 := ak (hbox); have GW320 := ak ((by rw [hg]; exact (below_size (bB HB.out)) : w.heap.size ≤ gb320)); have GE320 := ak ((by rw [hg]; exact (below_size (bB HB.out)) : w.heap.size ≤ gb320)); replace HB := ak (below_step (bB HB.out) hb); clear hb hbox hg) | ((with_reducible refine gate_dst (N := 4) rfl ?_); refine box_event ?hg (N := 4) ?hd (cs := #[.slice A1_0 l1_0.length c1_0, .slice A1_1 l1_1.length c1_1]) (t := 25) ?hr ?_; (case hd => rfl); (case hg => rfl); (case hr => first | (go_simp; done) | (go_simp; rfl)); intro gb321 hg w6 hbox hb; have BK321 := ak (hbox); have GW321 := ak ((by rw [hg]; exact (below_size (bB HB.out)) : w.heap.size ≤ gb321)); have GE321 := ak ((by rw [hg]; exact (below_size (bB HB.out)) : w.heap.size ≤ gb321)); replace HB := ak (below_step (bB HB.out) hb); have NB320_321 := ak ((ne_box hg (kK BK320.out))); have NB321_320 := ak ((ne_box' hg (kK BK320.out))); replace BK320 := ak (blk_below (kK BK320.out) hb); clear hb hbox hg))
  go_ret
  exact ⟨by first | rfl | (simp [errW_none, errW_some] <;> rfl) | (simp [*, errW_none, errW_some] <;> rfl), by repeat (first | (with_reducible first | exact HB.out | apply below_alloc | apply pw_below_drewN | apply below_drew1 | refine below_set ?_ GE320.out | refine below_set ?_ GE321.out) | exact HB.out)⟩
 rw [if_neg c4] at H
 have c4b0 : decide (1048576 < (l2.length : Int)) = false := decide_eq_false c4
 have c4b1 : decide (1048576 < l2.length) = false := decide_eq_false (by omega)
 clear c4
 replace H := bi H
 obtain ⟨t322, A70, H⟩ := H
 try dsimp only at H
 have A7 := ak A70
 clear A70
 by_cases c8 : t322 < 0
 ·rw [if_pos c8] at H
  have c8b0 : decide (t322 < 0) = true := decide_eq_true c8
  clear c8
  obtain rfl := Option.some.inj H
  go_enter Try.func4, Try.ntmps4
  go_wp2_with (first | ((with_reducible refine gate_dst (N := 3) rfl ?_); refine box_event ?hg (N := 3) ?hd (cs := #[.slice A0_0 l0_0.length c0_0, .slice A0_1 l0_1.length c0_1]) (t := 25) ?hr ?_; (case hd => rfl); (case hg => rfl); (case hr => first | (go_simp; done) | (go_simp; rfl)); intro gb320 hg w9 hbox hb; have BK320 := ak (hbox); have GW320 := ak ((by rw [hg]; exact (below_size (bB HB.out)) : w.heap.size ≤ gb320)); have GE320 := ak ((by rw [hg]; exact (below_size (bB HB.out)) : w.heap.size ≤ gb320)); replace HB := ak (below_step (bB HB.out) hb); clear hb hbox hg) | ((with_reducible refine gate_dst (N := 4) rfl ?_); refine box_event ?hg (N := 4) ?hd (cs := #[.slice A1_0 l1_0.length c1_0, .slice A1_1 l1_1.length c1_1]) (t := 25) ?hr ?_; (case hd => rfl); (case hg => rfl); (case hr => first | (go_simp; done) | (go_simp; rfl)); intro gb321 hg w10 hbox hb; have BK321 := ak (hbox); have GW321 := ak ((by rw [hg]; exact (below_size (bB HB.out)) : w.heap.size ≤ gb321)); have GE321 := ak ((by rw [hg]; exact (below_size (bB HB.out)) : w.heap.size ≤ gb321)); replace HB := ak (below_step (bB HB.out) hb); have NB320_321 := ak ((ne_box hg (kK BK320.out))); have NB321_320 := ak ((ne_box' hg (kK BK320.out))); replace BK320 := ak (blk_below (kK BK320.out) hb); clear hb hbox hg; have hnb11 := NB320_321.out; have hnc11 := NB321_320.out; have hcz12_0 : w10.cell? ⟨gb320, 0, none⟩ = some (.slice A0_0 l0_0.length c0_0) := (blk_cell BK320.out 0).trans rfl; have hcz12_1 : w10.cell? ⟨gb320, 1, none⟩ = some (.slice A0_1 l0_1.length c0_1) := (blk_cell BK320.out 1).trans rfl; have hfz12_0 := blk_frozen BK320.out 0; have hfz12_1 := blk_frozen BK320.out 1) | ((with_reducible refine gate_callee (f := 11) rfl ?_); refine goesL_ (some 18) rfl rfl Try.func11 (by kernel_rfl) rfl #[.agg #[.slice A0_0 l0_0.length c0_0, .slice A0_1 l0_1.length c0_1], .int .i64 1048576] rfl (by (try simp only [List.map_toArray, List.map_cons, List.map_nil]); first | done | rfl | (simp only [List.length_drop, List.length_take]; rfl)) ?_; (with_reducible refine (laws_szAlgebra.calls k _ _ l0_0 _ _ l0_1 1048576 t322 _ ?side1 ?side2 ?side3 ?side4 A7.out).mono ?_); (case side1 => exact kC (Kd.C_below HR0_0.out HB.out)); (case side2 => exact HC0_0.out); (case side3 => exact kC (Kd.C_below HR0_1.out HB.out)); (case side4 => exact HC0_1.out); rintro e w13 ⟨rfl, hb⟩; refine ⟨_, rfl, ?_⟩; replace BK320 := ak (blk_below (kK BK320.out) hb); replace BK321 := ak (blk_below (kK BK321.out) hb); replace HB := ak (below_step (bB HB.out) hb); (try clear hb); (try clear hb2); (try clear hk); (try clear hi)))
  go_ret
  exact ⟨by first | rfl | (simp [errW_none, errW_some] <;> rfl) | (simp [*, errW_none, errW_some] <;> rfl), by repeat (first | (with_reducible first | exact HB.out | apply below_alloc | apply pw_below_drewN | apply below_drew1 | refine below_set ?_ GE320.out | refine below_set ?_ GE321.out) | exact HB.out)⟩
 rw [if_neg c8] at H
 have c8b0 : decide (t322 < 0) = false := decide_eq_false c8
 clear c8
 replace H := bi H
 obtain ⟨t323, A140, H⟩ := H
 try dsimp only at H
 have A14 := ak A140
 clear A140
 by_cases c15 : t323 < 0
 ·rw [if_pos c15] at H
  have c15b0 : decide (t323 < 0) = true := decide_eq_true c15
  clear c15
  obtain rfl := Option.some.inj H
  go_enter Try.func4, Try.ntmps4
  go_wp2_with (first | ((with_reducible refine gate_dst (N := 3) rfl ?_); refine box_event ?hg (N := 3) ?hd (cs := #[.slice A0_0 l0_0.length c0_0, .slice A0_1 l0_1.length c0_1]) (t := 25) ?hr ?_; (case hd => rfl); (case hg => rfl); (case hr => first | (go_simp; done) | (go_simp; rfl)); intro gb320 hg w16 hbox hb; have BK320 := ak (hbox); have GW320 := ak ((by rw [hg]; exact (below_size (bB HB.out)) : w.heap.size ≤ gb320)); have GE320 := ak ((by rw [hg]; exact (below_size (bB HB.out)) : w.heap.size ≤ gb320)); replace HB := ak (below_step (bB HB.out) hb); clear hb hbox hg) | ((with_reducible refine gate_dst (N := 4) rfl ?_); refine box_event ?hg (N := 4) ?hd (cs := #[.slice A1_0 l1_0.length c1_0, .slice A1_1 l1_1.length c1_1]) (t := 25) ?hr ?_; (case hd => rfl); (case hg => rfl); (case hr => first | (go_simp; done) | (go_simp; rfl)); intro gb321 hg w17 hbox hb; have BK321 := ak (hbox); have GW321 := ak ((by rw [hg]; exact (below_size (bB HB.out)) : w.heap.size ≤ gb321)); have GE321 := ak ((by rw [hg]; exact (below_size (bB HB.out)) : w.heap.size ≤ gb321)); replace HB := ak (below_step (bB HB.out) hb); have NB320_321 := ak ((ne_box hg (kK BK320.out))); have NB321_320 := ak ((ne_box' hg (kK BK320.out))); replace BK320 := ak (blk_below (kK BK320.out) hb); clear hb hbox hg; have hnb18 := NB320_321.out; have hnc18 := NB321_320.out; have hcz19_0 : w17.cell? ⟨gb320, 0, none⟩ = some (.slice A0_0 l0_0.length c0_0) := (blk_cell BK320.out 0).trans rfl; have hcz19_1 : w17.cell? ⟨gb320, 1, none⟩ = some (.slice A0_1 l0_1.length c0_1) := (blk_cell BK320.out 1).trans rfl; have hfz19_0 := blk_frozen BK320.out 0; have hfz19_1 := blk_frozen BK320.out 1) | ((with_reducible refine gate_callee (f := 11) rfl ?_); refine goesL_ (some 18) rfl rfl Try.func11 (by kernel_rfl) rfl #[.agg #[.slice A0_0 l0_0.length c0_0, .slice A0_1 l0_1.length c0_1], .int .i64 1048576] rfl (by (try simp only [List.map_toArray, List.map_cons, List.map_nil]); first | done | rfl | (simp only [List.length_drop, List.length_take]; rfl)) ?_; (with_reducible refine (laws_szAlgebra.calls k _ _ l0_0 _ _ l0_1 1048576 t322 _ ?side1 ?side2 ?side3 ?side4 A7.out).mono ?_); (case side1 => exact kC (Kd.C_below HR0_0.out HB.out)); (case side2 => exact HC0_0.out); (case side3 => exact kC (Kd.C_below HR0_1.out HB.out)); (case side4 => exact HC0_1.out); rintro e w20 ⟨rfl, hb⟩; refine ⟨_, rfl, ?_⟩; replace BK320 := ak (blk_below (kK BK320.out) hb); replace BK321 := ak (blk_below (kK BK321.out) hb); replace HB := ak (below_step (bB HB.out) hb); (try clear hb); (try clear hb2); (try clear hk); (try clear hi); have hcz21_0 : w20.cell? ⟨gb321, 0, none⟩ = some (.slice A1_0 l1_0.length c1_0) := (blk_cell BK321.out 0).trans rfl; have hcz21_1 : w20.cell? ⟨gb321, 1, none⟩ = some (.slice A1_1 l1_1.length c1_1) := (blk_cell BK321.out 1).trans rfl; have hfz21_0 := blk_frozen BK321.out 0; have hfz21_1 := blk_frozen BK321.out 1) | ((with_reducible refine gate_callee (f := 11) rfl ?_); refine goesL_ (some 23) rfl rfl Try.func11 (by kernel_rfl) rfl #[.agg #[.slice A1_0 l1_0.length c1_0, .slice A1_1 l1_1.length c1_1], .int .i64 t322] rfl (by (try simp only [List.map_toArray, List.map_cons, List.map_nil]); first | done | rfl | (simp only [List.length_drop, List.length_take]; rfl)) ?_; (with_reducible refine (laws_szAlgebra.calls k _ _ l1_0 _ _ l1_1 t322 t323 _ ?side1 ?side2 ?side3 ?side4 A14.out).mono ?_); (case side1 => exact kC (Kd.C_below HR1_0.out HB.out)); (case side2 => exact HC1_0.out); (case side3 => exact kC (Kd.C_below HR1_1.out HB.out)); (case side4 => exact HC1_1.out); rintro e w22 ⟨rfl, hb⟩; refine ⟨_, rfl, ?_⟩; replace BK320 := ak (blk_below (kK BK320.out) hb); replace BK321 := ak (blk_below (kK BK321.out) hb); replace HB := ak (below_step (bB HB.out) hb); (try clear hb); (try clear hb2); (try clear hk); (try clear hi)))
  go_ret
  exact ⟨by first | rfl | (simp [errW_none, errW_some] <;> rfl) | (simp [*, errW_none, errW_some] <;> rfl), by repeat (first | (with_reducible first | exact HB.out | apply below_alloc | apply pw_below_drewN | apply below_drew1 | refine below_set ?_ GE320.out | refine below_set ?_ GE321.out) | exact HB.out)⟩
 rw [if_neg c15] at H
 have c15b0 : decide (t323 < 0) = false := decide_eq_false c15
 clear c15
 replace H := bi H
 obtain ⟨⟨t324, t327⟩, A230, H⟩ := H
 try dsimp only at H
 have A23 := ak A230
 clear A230
 replace H := bi H
 obtain ⟨⟨t330, t333⟩, A240, H⟩ := H
 try dsimp only at H
 have A24 := ak A240
 clear A240
 replace H := bi H
 obtain ⟨t336, A250, H⟩ := H
 try dsimp only at H
 have A25 := ak A250
 clear A250
 replace H := bi H
 obtain ⟨t339, A260, H⟩ := H
 try dsimp only at H
 have A26 := ak A260
 clear A260
 replace H := bi H
 obtain ⟨⟨t340, t343⟩, A270, H⟩ := H
 try dsimp only at H
 have A27 := ak A270
 clear A270
 replace H := bi H
 obtain ⟨⟨t347, t350⟩, A280, H⟩ := H
 try dsimp only at H
 have A28 := ak A280
 clear A280
 replace H := bi H
 obtain ⟨t354, A290, H⟩ := H
 try dsimp only at H
 have A29 := ak A290
 clear A290
 replace H := bi H
 obtain ⟨t357, A300, H⟩ := H
 try dsimp only at H
 have A30 := ak A300
 clear A300
 by_cases c31 : (t357 != t339) = true
 ·rw [if_pos c31] at H
  have c31b0 : (t357 != t339) = true := c31
  (try (have c31b1 : decide (t357 = t339) = false := by simpa using c31))
  (try (have c31b2 : (t357 == t339) = false := by simpa using c31))
  (try (have c31b3 : ¬ (t357 = t339) := by simpa using c31))
  clear c31
  exact absurd (Option.some.inj H) (by rw [hrt.out]; decide)
 rw [if_neg c31] at H
 have c31b0 : (t357 != t339) = false := by simpa using c31
 (try (have c31b1 : decide (t357 = t339) = true := by simpa using c31))
 (try (have c31b2 : (t357 == t339) = true := by simpa using c31))
 clear c31
 replace H := bi H
 obtain ⟨⟨t358, t361⟩, A320, H⟩ := H
 try dsimp only at H
 have A32 := ak A320
 clear A320
 replace H := bi H
 obtain ⟨t364, A330, H⟩ := H
 try dsimp only at H
 have A33 := ak A330
 clear A330
 by_cases c34 : t364 = true
 rotate_left
 ·replace c34 := Bool.eq_false_iff.mpr c34
  subst c34
  rw [if_neg (show ¬ (false = true) by decide)] at H
  exact absurd (Option.some.inj H) (by rw [hrt.out]; decide)
 subst c34
 rw [if_pos rfl] at H
 replace H := bi H
 obtain ⟨⟨t365, t368⟩, A350, H⟩ := H
 try dsimp only at H
 have A35 := ak A350
 clear A350
 replace H := bi H
 obtain ⟨t371, A360, H⟩ := H
 try dsimp only at H
 have A36 := ak A360
 clear A360
 by_cases c37 : t371 = true
 rotate_left
 ·replace c37 := Bool.eq_false_iff.mpr c37
  subst c37
  rw [if_neg (show ¬ (false = true) by decide)] at H
  exact absurd (Option.some.inj H) (by rw [hrt.out]; decide)
 subst c37
 rw [if_pos rfl] at H
 replace H := bi H
 obtain ⟨t372, A380, H⟩ := H
 try dsimp only at H
 have A38 := ak A380
 clear A380
 replace H := bi H
 obtain ⟨t375, A390, H⟩ := H
 try dsimp only at H
 have A39 := ak A390
 clear A390
 by_cases c40 : t375 = true
 rotate_left
 ·replace c40 := Bool.eq_false_iff.mpr c40
  subst c40
  rw [if_neg (show ¬ (false = true) by decide)] at H
  exact absurd (Option.some.inj H) (by rw [hrt.out]; decide)
 subst c40
 rw [if_pos rfl] at H
 obtain rfl := Option.some.inj H
 go_enter Try.func4, Try.ntmps4
 try go_wp2_with (first | ((with_reducible refine gate_dst (N := 3) rfl ?_); refine box_event ?hg (N := 3) ?hd (cs := #[.slice A0_0 l0_0.length c0_0, .slice A0_1 l0_1.length c0_1]) (t := 25) ?hr ?_; (case hd => rfl); (case hg => rfl); (case hr => first | (go_simp; done) | (go_simp; rfl)); intro gb320 hg w41 hbox hb; have BK320 := ak (hbox); have GW320 := ak ((by rw [hg]; exact (below_size (bB HB.out)) : w.heap.size ≤ gb320)); have GE320 := ak ((by rw [hg]; exact (below_size (bB HB.out)) : w.heap.size ≤ gb320)); replace HB := ak (below_step (bB HB.out) hb); clear hb hbox hg) | ((with_reducible refine gate_dst (N := 4) rfl ?_); refine box_event ?hg (N := 4) ?hd (cs := #[.slice A1_0 l1_0.length c1_0, .slice A1_1 l1_1.length c1_1]) (t := 25) ?hr ?_; (case hd => rfl); (case hg => rfl); (case hr => first | (go_simp; done) | (go_simp; rfl)); intro gb321 hg w42 hbox hb; have BK321 := ak (hbox); have GW321 := ak ((by rw [hg]; exact (below_size (bB HB.out)) : w.heap.size ≤ gb321)); have GE321 := ak ((by rw [hg]; exact (below_size (bB HB.out)) : w.heap.size ≤ gb321)); replace HB := ak (below_step (bB HB.out) hb); have NB320_321 := ak ((ne_box hg (kK BK320.out))); have NB321_320 := ak ((ne_box' hg (kK BK320.out))); replace BK320 := ak (blk_below (kK BK320.out) hb); clear hb hbox hg; have hnb43 := NB320_321.out; have hnc43 := NB321_320.out; have hcz44_0 : w42.cell? ⟨gb320, 0, none⟩ = some (.slice A0_0 l0_0.length c0_0) := (blk_cell BK320.out 0).trans rfl; have hcz44_1 : w42.cell? ⟨gb320, 1, none⟩ = some (.slice A0_1 l0_1.length c0_1) := (blk_cell BK320.out 1).trans rfl; have hfz44_0 := blk_frozen BK320.out 0; have hfz44_1 := blk_frozen BK320.out 1) | ((with_reducible refine gate_callee (f := 11) rfl ?_); refine goesL_ (some 18) rfl rfl Try.func11 (by kernel_rfl) rfl #[.agg #[.slice A0_0 l0_0.length c0_0, .slice A0_1 l0_1.length c0_1], .int .i64 1048576] rfl (by (try simp only [List.map_toArray, List.map_cons, List.map_nil]); first | done | rfl | (simp only [List.length_drop, List.length_take]; rfl)) ?_; (with_reducible refine (laws_szAlgebra.calls k _ _ l0_0 _ _ l0_1 1048576 t322 _ ?side1 ?side2 ?side3 ?side4 A7.out).mono ?_); (case side1 => exact kC (Kd.C_below HR0_0.out HB.out)); (case side2 => exact HC0_0.out); (case side3 => exact kC (Kd.C_below HR0_1.out HB.out)); (case side4 => exact HC0_1.out); rintro e w45 ⟨rfl, hb⟩; refine ⟨_, rfl, ?_⟩; replace BK320 := ak (blk_below (kK BK320.out) hb); replace BK321 := ak (blk_below (kK BK321.out) hb); replace HB := ak (below_step (bB HB.out) hb); (try clear hb); (try clear hb2); (try clear hk); (try clear hi); have hcz46_0 : w45.cell? ⟨gb321, 0, none⟩ = some (.slice A1_0 l1_0.length c1_0) := (blk_cell BK321.out 0).trans rfl; have hcz46_1 : w45.cell? ⟨gb321, 1, none⟩ = some (.slice A1_1 l1_1.length c1_1) := (blk_cell BK321.out 1).trans rfl; have hfz46_0 := blk_frozen BK321.out 0; have hfz46_1 := blk_frozen BK321.out 1) | ((with_reducible refine gate_callee (f := 11) rfl ?_); refine goesL_ (some 23) rfl rfl Try.func11 (by kernel_rfl) rfl #[.agg #[.slice A1_0 l1_0.length c1_0, .slice A1_1 l1_1.length c1_1], .int .i64 t322] rfl (by (try simp only [List.map_toArray, List.map_cons, List.map_nil]); first | done | rfl | (simp only [List.length_drop, List.length_take]; rfl)) ?_; (with_reducible refine (laws_szAlgebra.calls k _ _ l1_0 _ _ l1_1 t322 t323 _ ?side1 ?side2 ?side3 ?side4 A14.out).mono ?_); (case side1 => exact kC (Kd.C_below HR1_0.out HB.out)); (case side2 => exact HC1_0.out); (case side3 => exact kC (Kd.C_below HR1_1.out HB.out)); (case side4 => exact HC1_1.out); rintro e w47 ⟨rfl, hb⟩; refine ⟨_, rfl, ?_⟩; replace BK320 := ak (blk_below (kK BK320.out) hb); replace BK321 := ak (blk_below (kK BK321.out) hb); replace HB := ak (below_step (bB HB.out) hb); (try clear hb); (try clear hb2); (try clear hk); (try clear hi)))
 replace BK320 := ak (blk_drew BK320.out)
 replace BK321 := ak (blk_drew BK321.out)
 replace HB := ak (below_drew1 HB.out)
 refine start_ (n := 8) (S := fun w' => w'.cell? ⟨gb320, 0, none⟩ = some (.slice A0_0 l0_0.length c0_0) ∧ w'.cell? ⟨gb320, 1, none⟩ = some (.slice A0_1 l0_1.length c0_1) ∧ w'.cell? ⟨gb321, 0, none⟩ = some (.slice A1_0 l1_0.length c1_0) ∧ w'.cell? ⟨gb321, 1, none⟩ = some (.slice A1_1 l1_1.length c1_1)) (ds := []) #[false, false, false, false, false, false, false, false] (by kernel_rfl) rfl rfl ⟨(blk_cell BK320.out 0).trans rfl, (blk_cell BK320.out 1).trans rfl, (blk_cell BK321.out 0).trans rfl, (blk_cell BK321.out 1).trans rfl⟩ (fun hHeld => ?_); refine with_tabW laws_FnExactIsMap.tab10 laws_FnExactIsMap.bits10 (fun HT_ HW_ => ?_)
 generalize w47.drew = w48 at BK320 BK321 HB hHeld ⊢
 refine pu 4 30 16 8 ?_
 refine tk 0 26 17 8 ?_
 refine tk 2 28 21 8 ?_
 refine one_ (i := 1) (N := some 27) #[true, true, true, false, true, false, false, false] rfl rfl (one_of HT_.out (by kernel_rfl)) (by decide) (fun K hK => ?_)
 refine goes_ Try.func13 (by kernel_rfl) rfl #[.agg #[.slice A0_0 l0_0.length c0_0, .slice A0_1 l0_1.length c0_1]] (by rfl) rfl rfl (by (try simp only [List.map_toArray, List.map_cons, List.map_nil]); first | done | rfl | (simp only [List.length_drop, List.length_take]; rfl)) ?_
 with_reducible refine (laws_toAlgebra.calls k _ _ l0_0 _ _ l0_1 t324 t327 _ ?side1 ?side2 ?side3 ?side4 A23.out).mono ?_
 (case side1 => exact kC (Kd.C_below HR0_0.out HB.out))
 (case side2 => exact HC0_0.out)
 (case side3 => exact kC (Kd.C_below HR0_1.out HB.out))
 (case side4 => exact HC0_1.out)
 rintro e w49 ⟨v325, v328, rfl, ho0, ho1, hb⟩
 refine ⟨_, rfl, ?_⟩
 have HO326 := ak (Kd.R_lower ho0 (below_size (bB HB.out)))
 have HO329 := ak (Kd.S_lower ho1 (below_size (bB HB.out)))
 replace BK320 := ak (blk_below (kK BK320.out) hb)
 replace BK321 := ak (blk_below (kK BK321.out) hb)
 replace HB := ak (below_step (bB HB.out) hb)
 (try clear hb)
 (try clear hb2)
 (try clear hk)
 (try clear hi)
 (try clear ho0)
 (try clear ho1)
 refine hK.out _ _ ⟨(blk_cell BK320.out 0).trans rfl, (blk_cell BK320.out 1).trans rfl, (blk_cell BK321.out 0).trans rfl, (blk_cell BK321.out 1).trans rfl⟩ (fun hHeld => ?_)
 clear hK K
 refine norm_ (a' := ?_) ?_ ?_
 rotate_left
 ·show Act.put _ (some 27) _ = _
  simp only [Act.put, List.setIfInBounds_toArray, List.set_cons_zero, List.set_cons_succ, i64_w, i32_w]
  rfl
 refine one_ (i := 3) (N := some 29) #[true, true, true, true, true, false, false, false] rfl rfl (one_of HT_.out (by kernel_rfl)) (by decide) (fun K hK => ?_)
 refine goes_ Try.func13 (by kernel_rfl) rfl #[.agg #[.slice A1_0 l1_0.length c1_0, .slice A1_1 l1_1.length c1_1]] (by rfl) rfl rfl (by (try simp only [List.map_toArray, List.map_cons, List.map_nil]); first | done | rfl | (simp only [List.length_drop, List.length_take]; rfl)) ?_
 with_reducible refine (laws_toAlgebra.calls k _ _ l1_0 _ _ l1_1 t330 t333 _ ?side1 ?side2 ?side3 ?side4 A24.out).mono ?_
 (case side1 => exact kC (Kd.C_below HR1_0.out HB.out))
 (case side2 => exact HC1_0.out)
 (case side3 => exact kC (Kd.C_below HR1_1.out HB.out))
 (case side4 => exact HC1_1.out)
 rintro e w50 ⟨v331, v334, rfl, ho0, ho1, hb⟩
 refine ⟨_, rfl, ?_⟩
 have HO332 := ak (Kd.R_lower (Kd.R_new' ho0 (Kd.R_lt (kR HO326.out))) (below_size (bB HB.out)))
 have HO335 := ak (Kd.S_lower (Kd.S_new' (Kd.S_new' ho1 (Kd.R_lt (kR HO326.out))) (Kd.S_lt (kS HO329.out))) (below_size (bB HB.out)))
 replace HO326 := ak (Kd.R_elder' (kR HO326.out) (Kd.R_base ho0) hb)
 replace HO329 := ak (Kd.S_mono (Kd.S_told (Kd.S_told (Kd.S_old (kS HO329.out) hb) (Kd.R_base ho0)) (Kd.S_base ho1)) (fun _ h_ => h_.1))
 replace BK320 := ak (blk_below (kK BK320.out) hb)
 replace BK321 := ak (blk_below (kK BK321.out) hb)
 replace HB := ak (below_step (bB HB.out) hb)
 (try clear hb)
 (try clear hb2)
 (try clear hk)
 (try clear hi)
 (try clear ho0)
 (try clear ho1)
 refine hK.out _ _ ⟨(blk_cell BK320.out 0).trans rfl, (blk_cell BK320.out 1).trans rfl, (blk_cell BK321.out 0).trans rfl, (blk_cell BK321.out 1).trans rfl⟩ (fun hHeld => ?_)
 clear hK K
 refine norm_ (a' := ?_) ?_ ?_
 rotate_left
 ·show Act.put _ (some 29) _ = _
  simp only [Act.put, List.setIfInBounds_toArray, List.set_cons_zero, List.set_cons_succ, i64_w, i32_w]
  rfl
 refine one_ (i := 5) (N := some 31) #[true, true, true, true, true, true, false, false] rfl rfl (one_of HT_.out (by kernel_rfl)) (by decide) (fun K hK => ?_)
 refine goes_ Try.func14 (by kernel_rfl) rfl #[.slice A2 l2.length c2] (by rfl) rfl rfl (by (try simp only [List.map_toArray, List.map_cons, List.map_nil]); first | done | rfl | (simp only [List.length_drop, List.length_take]; rfl)) ?_
 with_reducible refine (laws_toIntS.calls k _ _ l2 t336 _ ?side1 ?side2 A25.out).mono ?_
 (case side1 => exact kC (Kd.C_below HR2.out HB.out))
 (case side2 => exact HC2.out)
 rintro e w51 ⟨v337, rfl, ho0, hb⟩
 refine ⟨_, rfl, ?_⟩
 replace HO329 := ak (Kd.S_elder' (kS HO329.out) (Kd.R_base ho0) hb)
 replace HO335 := ak (Kd.S_elder' (kS HO335.out) (Kd.R_base ho0) hb)
 have HO338 := ak (Kd.R_lower (Kd.R_new' (Kd.R_new' ho0 (Kd.R_lt (kR HO326.out))) (Kd.R_lt (kR HO332.out))) (below_size (bB HB.out)))
 replace HO326 := ak (Kd.R_elder' (kR HO326.out) (Kd.R_base ho0) hb)
 replace HO332 := ak (Kd.R_elder' (kR HO332.out) (Kd.R_base ho0) hb)
 replace BK320 := ak (blk_below (kK BK320.out) hb)
 replace BK321 := ak (blk_below (kK BK321.out) hb)
 replace HB := ak (below_step (bB HB.out) hb)
 (try clear hb)
 (try clear hb2)
 (try clear hk)
 (try clear hi)
 (try clear ho0)
 obtain ⟨Ao52, co52, eo52⟩ := Kd.R_slice HO326.out
 (first | subst eo52 | (injection eo52 with f1_ f2_ f3_; have f4_ := f1_.symm; have f5_ := f3_.symm; clear f1_ f2_ f3_; subst f4_; subst f5_))
 obtain ⟨Ao53, co53, eo53⟩ := Kd.S_slice HO329.out
 (first | subst eo53 | (injection eo53 with f1_ f2_ f3_; have f4_ := f1_.symm; have f5_ := f3_.symm; clear f1_ f2_ f3_; subst f4_; subst f5_))
 obtain ⟨Ao54, co54, eo54⟩ := Kd.R_slice HO332.out
 (first | subst eo54 | (injection eo54 with f1_ f2_ f3_; have f4_ := f1_.symm; have f5_ := f3_.symm; clear f1_ f2_ f3_; subst f4_; subst f5_))
 obtain ⟨Ao55, co55, eo55⟩ := Kd.S_slice HO335.out
 (first | subst eo55 | (injection eo55 with f1_ f2_ f3_; have f4_ := f1_.symm; have f5_ := f3_.symm; clear f1_ f2_ f3_; subst f4_; subst f5_))
 obtain ⟨Ao56, co56, eo56⟩ := Kd.R_slice HO338.out
 (first | subst eo56 | (injection eo56 with f1_ f2_ f3_; have f4_ := f1_.symm; have f5_ := f3_.symm; clear f1_ f2_ f3_; subst f4_; subst f5_))
 refine hK.out _ _ ⟨(blk_cell BK320.out 0).trans rfl, (blk_cell BK320.out 1).trans rfl, (blk_cell BK321.out 0).trans rfl, (blk_cell BK321.out 1).trans rfl⟩ (fun hHeld => ?_)
 clear hK K
 refine norm_ (a' := ?_) ?_ ?_
 rotate_left
 ·show Act.put _ (some 31) _ = _
  simp only [Act.put, List.setIfInBounds_toArray, List.set_cons_zero, List.set_cons_succ, i64_w, i32_w]
  rfl
 refine one_ (i := 6) (N := some 32) #[true, true, true, true, true, true, true, false] rfl rfl (one_of HT_.out (by kernel_rfl)) (by decide) (fun K hK => ?_)
 refine goes_ Try.func18 (by kernel_rfl) rfl #[.agg #[.slice Ao52 t324.length co52, .slice Ao53 t327.length co53], .agg #[.slice Ao54 t330.length co54, .slice Ao55 t333.length co55], .slice Ao56 t336.length co56] (by rfl) rfl rfl (by (try simp only [List.map_toArray, List.map_cons, List.map_nil]); first | done | rfl | (simp only [List.length_drop, List.length_take]; rfl)) ?_
 with_reducible refine (spec_IsMap.calls k _ _ t324 _ _ t327 _ _ t330 _ _ t333 _ _ t336 t339 _ ?side1 ?side2 ?side3 ?side4 ?side5 ?side6 ?side7 ?side8 ?side9 ?side10 A26.out).mono ?_
 (case side1 => exact kC (Kd.R_reads' HO326.out).2.2)
 (case side2 => exact (Kd.R_reads' HO326.out).2.1)
 (case side3 => exact kC (Kd.S_reads' HO329.out).2.2)
 (case side4 => exact (Kd.S_reads' HO329.out).2.1)
 (case side5 => exact kC (Kd.R_reads' HO332.out).2.2)
 (case side6 => exact (Kd.R_reads' HO332.out).2.1)
 (case side7 => exact kC (Kd.S_reads' HO335.out).2.2)
 (case side8 => exact (Kd.S_reads' HO335.out).2.1)
 (case side9 => exact kC (Kd.R_reads' HO338.out).2.2)
 (case side10 => exact (Kd.R_reads' HO338.out).2.1)
 rintro e w57 ⟨rfl, hb⟩
 refine ⟨_, rfl, ?_⟩
 replace HO326 := ak (Kd.R_below (kR HO326.out) hb)
 replace HO329 := ak (Kd.S_below (kS HO329.out) hb)
 replace HO332 := ak (Kd.R_below (kR HO332.out) hb)
 replace HO335 := ak (Kd.S_below (kS HO335.out) hb)
 replace HO338 := ak (Kd.R_below (kR HO338.out) hb)
 replace BK320 := ak (blk_below (kK BK320.out) hb)
 replace BK321 := ak (blk_below (kK BK321.out) hb)
 replace HB := ak (below_step (bB HB.out) hb)
 (try clear hb)
 (try clear hb2)
 (try clear hk)
 (try clear hi)
 refine hK.out _ _ ⟨(blk_cell BK320.out 0).trans rfl, (blk_cell BK320.out 1).trans rfl, (blk_cell BK321.out 0).trans rfl, (blk_cell BK321.out 1).trans rfl⟩ (fun hHeld => ?_)
 clear hK K
 refine norm_ (a' := ?_) ?_ ?_
 rotate_left
 ·show Act.put _ (some 32) _ = _
  simp only [Act.put, List.setIfInBounds_toArray, List.set_cons_zero, List.set_cons_succ, i64_w, i32_w]
  rfl
 refine pu 7 8 255 8 ?_
 refine done_ (done_of HT_.out (by kernel_rfl)) ?_
 have hcz58_0 : w57.cell? ⟨gb320, 0, none⟩ = some (.slice A0_0 l0_0.length c0_0) := (blk_cell BK320.out 0).trans rfl
 have hcz58_1 : w57.cell? ⟨gb320, 1, none⟩ = some (.slice A0_1 l0_1.length c0_1) := (blk_cell BK320.out 1).trans rfl
 have hfz58_0 := blk_frozen BK320.out 0
 have hfz58_1 := blk_frozen BK320.out 1
 try go_wp2_with (first | ((with_reducible refine gate_callee (f := 13) rfl ?_); refine goesL_ (some 34) rfl rfl Try.func13 (by kernel_rfl) rfl #[.agg #[.slice A0_0 l0_0.length c0_0, .slice A0_1 l0_1.length c0_1]] rfl (by (try simp only [List.map_toArray, List.map_cons, List.map_nil]); first | done | rfl | (simp only [List.length_drop, List.length_take]; rfl)) ?_; (with_reducible refine (laws_toAlgebra.calls k _ _ l0_0 _ _ l0_1 t340 t343 _ ?side1 ?side2 ?side3 ?side4 A27.out).mono ?_); (case side1 => exact kC (Kd.C_below HR0_0.out HB.out)); (case side2 => exact HC0_0.out); (case side3 => exact kC (Kd.C_below HR0_1.out HB.out)); (case side4 => exact HC0_1.out); rintro e w59 ⟨v341, v344, rfl, ho0, ho1, hb⟩; refine ⟨_, rfl, ?_⟩; have HO342 := ak (Kd.R_lower (Kd.R_new' (Kd.R_new' (Kd.R_new' ho0 (Kd.R_lt (kR HO326.out))) (Kd.R_lt (kR HO332.out))) (Kd.R_lt (kR HO338.out))) (below_size (bB HB.out))); have HO345 := ak (Kd.S_lower (Kd.S_new' (Kd.S_new' (Kd.S_new' (Kd.S_new' (Kd.S_new' ho1 (Kd.R_lt (kR HO326.out))) (Kd.S_lt (kS HO329.out))) (Kd.R_lt (kR HO332.out))) (Kd.S_lt (kS HO335.out))) (Kd.R_lt (kR HO338.out))) (below_size (bB HB.out))); replace HO326 := ak (Kd.R_elder' (kR HO326.out) (Kd.R_base ho0) hb); replace HO329 := ak (Kd.S_mono (Kd.S_told (Kd.S_told (Kd.S_old (kS HO329.out) hb) (Kd.R_base ho0)) (Kd.S_base ho1)) (fun _ h_ => h_.1)); replace HO332 := ak (Kd.R_elder' (kR HO332.out) (Kd.R_base ho0) hb); replace HO335 := ak (Kd.S_mono (Kd.S_told (Kd.S_told (Kd.S_old (kS HO335.out) hb) (Kd.R_base ho0)) (Kd.S_base ho1)) (fun _ h_ => h_.1)); replace HO338 := ak (Kd.R_elder' (kR HO338.out) (Kd.R_base ho0) hb); replace BK320 := ak (blk_below (kK BK320.out) hb); replace BK321 := ak (blk_below (kK BK321.out) hb); replace HB := ak (below_step (bB HB.out) hb); (try clear hb); (try clear hb2); (try clear hk); (try clear hi); (try clear ho0); (try clear ho1)) | ((with_reducible refine gate_dst (N := 9) rfl ?_); refine box_event ?hg (N := 9) ?hd (cs := #[.slice none 0 0, .slice none 0 0]) (t := 28) ?hr ?_; (case hd => rfl); (case hg => rfl); (case hr => first | (go_simp; done) | (go_simp; rfl)); intro gb346 hg w60 hbox hb; replace HO326 := ak (Kd.R_below (kR HO326.out) hb); replace HO329 := ak (Kd.S_below (kS HO329.out) hb); replace HO332 := ak (Kd.R_below (kR HO332.out) hb); replace HO335 := ak (Kd.S_below (kS HO335.out) hb); replace HO338 := ak (Kd.R_below (kR HO338.out) hb); replace HO342 := ak (Kd.R_below (kR HO342.out) hb); replace HO345 := ak (Kd.S_below (kS HO345.out) hb); have BK346 := ak (hbox); have GW346 := ak ((by rw [hg]; exact (below_size (bB HB.out)) : w.heap.size ≤ gb346)); have GE346 := ak ((by rw [hg]; exact (below_size (bB HB.out)) : w.heap.size ≤ gb346)); replace HB := ak (below_step (bB HB.out) hb); have NB320_346 := ak ((ne_box hg (kK BK320.out))); have NB346_320 := ak ((ne_box' hg (kK BK320.out))); replace BK320 := ak (blk_below (kK BK320.out) hb); have NB321_346 := ak ((ne_box hg (kK BK321.out))); have NB346_321 := ak ((ne_box' hg (kK BK321.out))); replace BK321 := ak (blk_below (kK BK321.out) hb); clear hb hbox hg; obtain ⟨Ao61, co61, eo61⟩ := Kd.R_slice HO342.out; subst eo61; have hnb62 := NB346_320.out; have hnc62 := NB320_346.out; have hnb63 := NB346_321.out; have hnc63 := NB321_346.out; have hcz64_0 : w60.cell? ⟨gb346, 0, none⟩ = some (.slice none 0 0) := (blk_cell BK346.out 0).trans rfl; have hcz64_1 : w60.cell? ⟨gb346, 1, none⟩ = some (.slice none 0 0) := (blk_cell BK346.out 1).trans rfl; have hfz64_0 := blk_frozen BK346.out 0; have hfz64_1 := blk_frozen BK346.out 1; obtain ⟨Ao65, co65, eo65⟩ := Kd.S_slice HO345.out; subst eo65; have hcz66_0 : w60.cell? ⟨gb321, 0, none⟩ = some (.slice A1_0 l1_0.length c1_0) := (blk_cell BK321.out 0).trans rfl; have hcz66_1 : w60.cell? ⟨gb321, 1, none⟩ = some (.slice A1_1 l1_1.length c1_1) := (blk_cell BK321.out 1).trans rfl; have hfz66_0 := blk_frozen BK321.out 0; have hfz66_1 := blk_frozen BK321.out 1) | ((with_reducible refine gate_callee (f := 13) rfl ?_); refine goesL_ (some 36) rfl rfl Try.func13 (by kernel_rfl) rfl #[.agg #[.slice A1_0 l1_0.length c1_0, .slice A1_1 l1_1.length c1_1]] rfl (by (try simp only [List.map_toArray, List.map_cons, List.map_nil]); first | done | rfl | (simp only [List.length_drop, List.length_take]; rfl)) ?_; (with_reducible refine (laws_toAlgebra.calls k _ _ l1_0 _ _ l1_1 t347 t350 _ ?side1 ?side2 ?side3 ?side4 A28.out).mono ?_); (case side1 => exact Kd.C_below HR1_0.out (bB HB.out)); (case side2 => exact HC1_0.out); (case side3 => exact Kd.C_below HR1_1.out (bB HB.out)); (case side4 => exact HC1_1.out); rintro e w67 ⟨v348, v351, rfl, ho0, ho1, hb⟩; refine ⟨_, rfl, ?_⟩; have HO349 := ak (Kd.R_lower (Kd.R_new' (Kd.R_new' (Kd.R_new' (Kd.R_new' ho0 (Kd.R_lt (kR (s2R HO326.out BK346.out)))) (Kd.R_lt (kR (s2R HO332.out BK346.out)))) (Kd.R_lt (kR (s2R HO338.out BK346.out)))) (Kd.R_lt (kR (s2R HO342.out BK346.out)))) (below_size (bB HB.out))); have HO352 := ak (Kd.S_lower (Kd.S_new' (Kd.S_new' (Kd.S_new' (Kd.S_new' (Kd.S_new' (Kd.S_new' (Kd.S_new' ho1 (Kd.R_lt (kR (s2R HO326.out BK346.out)))) (Kd.S_lt (kS (s2S HO329.out BK346.out)))) (Kd.R_lt (kR (s2R HO332.out BK346.out)))) (Kd.S_lt (kS (s2S HO335.out BK346.out)))) (Kd.R_lt (kR (s2R HO338.out BK346.out)))) (Kd.R_lt (kR (s2R HO342.out BK346.out)))) (Kd.S_lt (kS (s2S HO345.out BK346.out)))) (below_size (bB HB.out))); replace HO326 := ak (Kd.R_elder' (kR (s2R HO326.out BK346.out)) (Kd.R_base ho0) hb); replace HO329 := ak (Kd.S_mono (Kd.S_told (Kd.S_told (Kd.S_old (kS (s2S HO329.out BK346.out)) hb) (Kd.R_base ho0)) (Kd.S_base ho1)) (fun _ h_ => h_.1)); replace HO332 := ak (Kd.R_elder' (kR (s2R HO332.out BK346.out)) (Kd.R_base ho0) hb); replace HO335 := ak (Kd.S_mono (Kd.S_told (Kd.S_told (Kd.S_old (kS (s2S HO335.out BK346.out)) hb) (Kd.R_base ho0)) (Kd.S_base ho1)) (fun _ h_ => h_.1)); replace HO338 := ak (Kd.R_elder' (kR (s2R HO338.out BK346.out)) (Kd.R_base ho0) hb); replace HO342 := ak (Kd.R_elder' (kR (s2R HO342.out BK346.out)) (Kd.R_base ho0) hb); replace HO345 := ak (Kd.S_mono (Kd.S_told (Kd.S_told (Kd.S_old (kS (s2S HO345.out BK346.out)) hb) (Kd.R_base ho0)) (Kd.S_base ho1)) (fun _ h_ => h_.1)); replace BK320 := ak (blk_below (kK (blk_far (blk_far BK320.out NB320_346.out _) NB320_346.out _)) hb); replace BK321 := ak (blk_below (kK (blk_far (blk_far BK321.out NB321_346.out _) NB321_346.out _)) hb); replace BK346 := ak (blk_below (g := gb346) (o := .cells #[.slice Ao61 t340.length co61, .slice Ao65 t343.length co65] 28 (0, 0)) (by refine blk_put (cs := #[.slice Ao61 t340.length co61, .slice none 0 0]) ?_ 1 _ rfl; refine blk_put (cs := #[.slice none 0 0, .slice none 0 0]) ?_ 0 _ rfl; exact BK346.out) hb); replace HB := ak (below_step (bB HB.out) hb); (try clear hb); (try clear hb2); (try clear hk); (try clear hi); (try clear ho0); (try clear ho1)) | ((with_reducible refine gate_dst (N := 10) rfl ?_); refine box_event ?hg (N := 10) ?hd (cs := #[.slice none 0 0, .slice none 0 0]) (t := 28) ?hr ?_; (case hd => rfl); (case hg => rfl); (case hr => first | (go_simp; done) | (go_simp; rfl)); intro gb353 hg w68 hbox hb; replace HO326 := ak (Kd.R_below (kR HO326.out) hb); replace HO329 := ak (Kd.S_below (kS HO329.out) hb); replace HO332 := ak (Kd.R_below (kR HO332.out) hb); replace HO335 := ak (Kd.S_below (kS HO335.out) hb); replace HO338 := ak (Kd.R_below (kR HO338.out) hb); replace HO342 := ak (Kd.R_below (kR HO342.out) hb); replace HO345 := ak (Kd.S_below (kS HO345.out) hb); replace HO349 := ak (Kd.R_below (kR HO349.out) hb); replace HO352 := ak (Kd.S_below (kS HO352.out) hb); have BK353 := ak (hbox); have GW353 := ak ((by rw [hg]; exact (below_size (bB HB.out)) : w.heap.size ≤ gb353)); have GE353 := ak ((by rw [hg]; exact (below_size (bB HB.out)) : w.heap.size ≤ gb353)); replace HB := ak (below_step (bB HB.out) hb); have NB320_353 := ak ((ne_box hg (kK BK320.out))); have NB353_320 := ak ((ne_box' hg (kK BK320.out))); replace BK320 := ak (blk_below (kK BK320.out) hb); have NB321_353 := ak ((ne_box hg (kK BK321.out))); have NB353_321 := ak ((ne_box' hg (kK BK321.out))); replace BK321 := ak (blk_below (kK BK321.out) hb); have NB346_353 := ak ((ne_box hg (kK BK346.out))); have NB353_346 := ak ((ne_box' hg (kK BK346.out))); replace BK346 := ak (blk_below (kK BK346.out) hb); clear hb hbox hg; obtain ⟨Ao69, co69, eo69⟩ := Kd.R_slice HO349.out; subst eo69; have hnb70 := NB353_320.out; have hnc70 := NB320_353.out; have hnb71 := NB353_321.out; have hnc71 := NB321_353.out; have hnb72 := NB353_346.out; have hnc72 := NB346_353.out; have hcz73_0 : w68.cell? ⟨gb353, 0, none⟩ = some (.slice none 0 0) := (blk_cell BK353.out 0).trans rfl; have hcz73_1 : w68.cell? ⟨gb353, 1, none⟩ = some (.slice none 0 0) := (blk_cell BK353.out 1).trans rfl; have hfz73_0 := blk_frozen BK353.out 0; have hfz73_1 := blk_frozen BK353.out 1; obtain ⟨Ao74, co74, eo74⟩ := Kd.S_slice HO352.out; subst eo74) | ((with_reducible refine gate_callee (f := 14) rfl ?_); refine goesL_ (some 38) rfl rfl Try.func14 (by kernel_rfl) rfl #[.slice A2 l2.length c2] rfl (by (try simp only [List.map_toArray, List.map_cons, List.map_nil]); first | done | rfl | (simp only [List.length_drop, List.length_take]; rfl)) ?_; (with_reducible refine (laws_toIntS.calls k _ _ l2 t354 _ ?side1 ?side2 A29.out).mono ?_); (case side1 => exact Kd.C_below HR2.out (bB HB.out)); (case side2 => exact HC2.out); rintro e w75 ⟨v355, rfl, ho0, hb⟩; refine ⟨_, rfl, ?_⟩; replace HO329 := ak (Kd.S_elder' (kS (s2S HO329.out BK353.out)) (Kd.R_base ho0) hb); replace HO335 := ak (Kd.S_elder' (kS (s2S HO335.out BK353.out)) (Kd.R_base ho0) hb); replace HO345 := ak (Kd.S_elder' (kS (s2S HO345.out BK353.out)) (Kd.R_base ho0) hb); replace HO352 := ak (Kd.S_elder' (kS (s2S HO352.out BK353.out)) (Kd.R_base ho0) hb); have HO356 := ak (Kd.R_lower (Kd.R_new' (Kd.R_new' (Kd.R_new' (Kd.R_new' (Kd.R_new' ho0 (Kd.R_lt (kR (s2R HO326.out BK353.out)))) (Kd.R_lt (kR (s2R HO332.out BK353.out)))) (Kd.R_lt (kR (s2R HO338.out BK353.out)))) (Kd.R_lt (kR (s2R HO342.out BK353.out)))) (Kd.R_lt (kR (s2R HO349.out BK353.out)))) (below_size (bB HB.out))); replace HO326 := ak (Kd.R_elder' (kR (s2R HO326.out BK353.out)) (Kd.R_base ho0) hb); replace HO332 := ak (Kd.R_elder' (kR (s2R HO332.out BK353.out)) (Kd.R_base ho0) hb); replace HO338 := ak (Kd.R_elder' (kR (s2R HO338.out BK353.out)) (Kd.R_base ho0) hb); replace HO342 := ak (Kd.R_elder' (kR (s2R HO342.out BK353.out)) (Kd.R_base ho0) hb); replace HO349 := ak (Kd.R_elder' (kR (s2R HO349.out BK353.out)) (Kd.R_base ho0) hb); replace BK320 := ak (blk_below (kK (blk_far (blk_far BK320.out NB320_353.out _) NB320_353.out _)) hb); replace BK321 := ak (blk_below (kK (blk_far (blk_far BK321.out NB321_353.out _) NB321_353.out _)) hb); replace BK346 := ak (blk_below (kK (blk_far (blk_far BK346.out NB346_353.out _) NB346_353.out _)) hb); replace BK353 := ak (blk_below (g := gb353) (o := .cells #[.slice Ao69 t347.length co69, .slice Ao74 t350.length co74] 28 (0, 0)) (by refine blk_put (cs := #[.slice Ao69 t347.length co69, .slice none 0 0]) ?_ 1 _ rfl; refine blk_put (cs := #[.slice none 0 0, .slice none 0 0]) ?_ 0 _ rfl; exact BK353.out) hb); replace HB := ak (below_step (bB HB.out) hb); (try clear hb); (try clear hb2); (try clear hk); (try clear hi); (try clear ho0); have hcz76_0 : w75.cell? ⟨gb346, 0, none⟩ = some (.slice Ao61 t340.length co61) := (blk_cell BK346.out 0).trans rfl; have hcz76_1 : w75.cell? ⟨gb346, 1, none⟩ = some (.slice Ao65 t343.length co65) := (blk_cell BK346.out 1).trans rfl; have hfz76_0 := blk_frozen BK346.out 0; have hfz76_1 := blk_frozen BK346.out 1; have hcz77_0 : w75.cell? ⟨gb353, 0, none⟩ = some (.slice Ao69 t347.length co69) := (blk_cell BK353.out 0).trans rfl; have hcz77_1 : w75.cell? ⟨gb353, 1, none⟩ = some (.slice Ao74 t350.length co74) := (blk_cell BK353.out 1).trans rfl; have hfz77_0 := blk_frozen BK353.out 0; have hfz77_1 := blk_frozen BK353.out 1; obtain ⟨Ao78, co78, eo78⟩ := Kd.R_slice HO356.out; subst eo78) | ((with_reducible refine gate_callee (f := 19) rfl ?_); refine goesL_ (some 42) rfl rfl Try.func19 (by kernel_rfl) rfl #[.agg #[.slice Ao61 t340.length co61, .slice Ao65 t343.length co65], .agg #[.slice Ao69 t347.length co69, .slice Ao74 t350.length co74], .slice Ao78 t354.length co78] rfl (by (try simp only [List.map_toArray, List.map_cons, List.map_nil]); first | done | rfl | (simp only [List.length_drop, List.length_take]; rfl)) ?_; (with_reducible refine (impl_IsMap.calls k _ _ t340 _ _ t343 _ _ t347 _ _ t350 _ _ t354 t357 _ ?side1 ?side2 ?side3 ?side4 ?side5 ?side6 ?side7 ?side8 ?side9 ?side10 A30.out).mono ?_); (case side1 => exact kC (Kd.R_reads' HO342.out).2.2); (case side2 => exact (Kd.R_reads' HO342.out).2.1); (case side3 => exact kC (Kd.S_reads' HO345.out).2.2); (case side4 => exact (Kd.S_reads' HO345.out).2.1); (case side5 => exact kC (Kd.R_reads' HO349.out).2.2); (case side6 => exact (Kd.R_reads' HO349.out).2.1); (case side7 => exact kC (Kd.S_reads' HO352.out).2.2); (case side8 => exact (Kd.S_reads' HO352.out).2.1); (case side9 => exact kC (Kd.R_reads' HO356.out).2.2); (case side10 => exact (Kd.R_reads' HO356.out).2.1); rintro e w79 ⟨rfl, hb⟩; refine ⟨_, rfl, ?_⟩; replace HO326 := ak (Kd.R_below (kR HO326.out) hb); replace HO329 := ak (Kd.S_below (kS HO329.out) hb); replace HO332 := ak (Kd.R_below (kR HO332.out) hb); replace HO335 := ak (Kd.S_below (kS HO335.out) hb); replace HO338 := ak (Kd.R_below (kR HO338.out) hb); replace HO342 := ak (Kd.R_below (kR HO342.out) hb); replace HO345 := ak (Kd.S_below (kS HO345.out) hb); replace HO349 := ak (Kd.R_below (kR HO349.out) hb); replace HO352 := ak (Kd.S_below (kS HO352.out) hb); replace HO356 := ak (Kd.R_below (kR HO356.out) hb); replace BK320 := ak (blk_below (kK BK320.out) hb); replace BK321 := ak (blk_below (kK BK321.out) hb); replace BK346 := ak (blk_below (kK BK346.out) hb); replace BK353 := ak (blk_below (kK BK353.out) hb); replace HB := ak (below_step (bB HB.out) hb); (try clear hb); (try clear hb2); (try clear hk); (try clear hi)))
 replace HO326 := ak (Kd.R_drew HO326.out)
 replace HO329 := ak (Kd.S_drew HO329.out)
 replace HO332 := ak (Kd.R_drew HO332.out)
 replace HO335 := ak (Kd.S_drew HO335.out)
 replace HO338 := ak (Kd.R_drew HO338.out)
 replace HO342 := ak (Kd.R_drew HO342.out)
 replace HO345 := ak (Kd.S_drew HO345.out)
 replace HO349 := ak (Kd.R_drew HO349.out)
 replace HO352 := ak (Kd.S_drew HO352.out)
 replace HO356 := ak (Kd.R_drew HO356.out)
 replace BK320 := ak (blk_drew BK320.out)
 replace BK321 := ak (blk_drew BK321.out)
 replace BK346 := ak (blk_drew BK346.out)
 replace BK353 := ak (blk_drew BK353.out)
 replace HB := ak (below_drew1 HB.out)
 refine start_ (n := 5) (S := fun w' => w'.cell? ⟨gb346, 0, none⟩ = some (.slice Ao61 t340.length co61) ∧ w'.cell? ⟨gb346, 1, none⟩ = some (.slice Ao65 t343.length co65) ∧ w'.cell? ⟨gb320, 0, none⟩ = some (.slice A0_0 l0_0.length c0_0) ∧ w'.cell? ⟨gb320, 1, none⟩ = some (.slice A0_1 l0_1.length c0_1)) (ds := []) #[false, false, false, false, false] (by kernel_rfl) rfl rfl ⟨(blk_cell BK346.out 0).trans rfl, (blk_cell BK346.out 1).trans rfl, (blk_cell BK320.out 0).trans rfl, (blk_cell BK320.out 1).trans rfl⟩ (fun hHeld => ?_)
 generalize w79.drew = w80 at HO326 HO329 HO332 HO335 HO338 HO342 HO345 HO349 HO352 HO356 BK320 BK321 BK346 BK353 HB hHeld ⊢
 refine take_ (i := 0) (N := some 46) (v := ?_) (a' := ?_) #[true, false, false, false, false] rfl rfl (by kernel_rfl) (fun _ _ _ h => h) (Or.inl ⟨by rfl, ?_⟩) hHeld ?_ ?_
 rotate_left
 ·rintro w' ⟨s0, s1, s2, s3⟩
  go_simp
  with_reducible rfl
 rotate_left
 ·simp only [Act.put, List.setIfInBounds_toArray, List.set_cons_zero, List.set_cons_succ, i64_w, i32_w]
  rfl
 refine take_ (i := 1) (N := some 47) (v := ?_) (a' := ?_) #[true, true, false, false, false] rfl rfl (by kernel_rfl) (fun _ _ _ h => h) (Or.inl ⟨by rfl, ?_⟩) hHeld ?_ ?_
 rotate_left
 ·rintro w' ⟨s0, s1, s2, s3⟩
  go_simp
  with_reducible rfl
 rotate_left
 ·simp only [Act.put, List.setIfInBounds_toArray, List.set_cons_zero, List.set_cons_succ, i64_w, i32_w]
  rfl
 refine one_ (i := 2) (N := some 48) #[true, true, true, false, false] rfl rfl (by kernel_rfl) (by decide) (fun K hK => ?_)
 refine goes_ Try.func13 (by kernel_rfl) rfl #[.agg #[.slice A0_0 l0_0.length c0_0, .slice A0_1 l0_1.length c0_1]] (by rfl) rfl rfl (by (try simp only [List.map_toArray, List.map_cons, List.map_nil]); first | done | rfl | (simp only [List.length_drop, List.length_take]; rfl)) ?_
 with_reducible refine (laws_toAlgebra.calls k _ _ l0_0 _ _ l0_1 t358 t361 _ ?side1 ?side2 ?side3 ?side4 A32.out).mono ?_
 (case side1 => exact kC (Kd.C_below HR0_0.out HB.out))
 (case side2 => exact HC0_0.out)
 (case side3 => exact kC (Kd.C_below HR0_1.out HB.out))
 (case side4 => exact HC0_1.out)
 rintro e w81 ⟨v359, v362, rfl, ho0, ho1, hb⟩
 refine ⟨_, rfl, ?_⟩
 have HO360 := ak (Kd.R_lower (Kd.R_new' (Kd.R_new' (Kd.R_new' (Kd.R_new' (Kd.R_new' (Kd.R_new' ho0 (Kd.R_lt (kR HO326.out))) (Kd.R_lt (kR HO332.out))) (Kd.R_lt (kR HO338.out))) (Kd.R_lt (kR HO342.out))) (Kd.R_lt (kR HO349.out))) (Kd.R_lt (kR HO356.out))) (below_size (bB HB.out)))
 have HO363 := ak (Kd.S_lower (Kd.S_new' (Kd.S_new' (Kd.S_new' (Kd.S_new' (Kd.S_new' (Kd.S_new' (Kd.S_new' (Kd.S_new' (Kd.S_new' (Kd.S_new' ho1 (Kd.R_lt (kR HO326.out))) (Kd.S_lt (kS HO329.out))) (Kd.R_lt (kR HO332.out))) (Kd.S_lt (kS HO335.out))) (Kd.R_lt (kR HO338.out))) (Kd.R_lt (kR HO342.out))) (Kd.S_lt (kS HO345.out))) (Kd.R_lt (kR HO349.out))) (Kd.S_lt (kS HO352.out))) (Kd.R_lt (kR HO356.out))) (below_size (bB HB.out)))
 replace HO326 := ak (Kd.R_elder' (kR HO326.out) (Kd.R_base ho0) hb)
 replace HO329 := ak (Kd.S_mono (Kd.S_told (Kd.S_told (Kd.S_old (kS HO329.out) hb) (Kd.R_base ho0)) (Kd.S_base ho1)) (fun _ h_ => h_.1))
 replace HO332 := ak (Kd.R_elder' (kR HO332.out) (Kd.R_base ho0) hb)
 replace HO335 := ak (Kd.S_mono (Kd.S_told (Kd.S_told (Kd.S_old (kS HO335.out) hb) (Kd.R_base ho0)) (Kd.S_base ho1)) (fun _ h_ => h_.1))
 replace HO338 := ak (Kd.R_elder' (kR HO338.out) (Kd.R_base ho0) hb)
 replace HO342 := ak (Kd.R_elder' (kR HO342.out) (Kd.R_base ho0) hb)
 replace HO345 := ak (Kd.S_mono (Kd.S_told (Kd.S_told (Kd.S_old (kS HO345.out) hb) (Kd.R_base ho0)) (Kd.S_base ho1)) (fun _ h_ => h_.1))
 replace HO349 := ak (Kd.R_elder' (kR HO349.out) (Kd.R_base ho0) hb)
 replace HO352 := ak (Kd.S_mono (Kd.S_told (Kd.S_told (Kd.S_old (kS HO352.out) hb) (Kd.R_base ho0)) (Kd.S_base ho1)) (fun _ h_ => h_.1))
 replace HO356 := ak (Kd.R_elder' (kR HO356.out) (Kd.R_base ho0) hb)
 replace BK320 := ak (blk_below (kK BK320.out) hb)
 replace BK321 := ak (blk_below (kK BK321.out) hb)
 replace BK346 := ak (blk_below (kK BK346.out) hb)
 replace BK353 := ak (blk_below (kK BK353.out) hb)
 replace HB := ak (below_step (bB HB.out) hb)
 (try clear hb)
 (try clear hb2)
 (try clear hk)
 (try clear hi)
 (try clear ho0)
 (try clear ho1)
 obtain ⟨Ao82, co82, eo82⟩ := Kd.R_slice HO360.out
 (first | subst eo82 | (injection eo82 with f1_ f2_ f3_; have f4_ := f1_.symm; have f5_ := f3_.symm; clear f1_ f2_ f3_; subst f4_; subst f5_))
 obtain ⟨Ao83, co83, eo83⟩ := Kd.S_slice HO363.out
 (first | subst eo83 | (injection eo83 with f1_ f2_ f3_; have f4_ := f1_.symm; have f5_ := f3_.symm; clear f1_ f2_ f3_; subst f4_; subst f5_))
 refine hK.out _ _ ⟨(blk_cell BK346.out 0).trans rfl, (blk_cell BK346.out 1).trans rfl, (blk_cell BK320.out 0).trans rfl, (blk_cell BK320.out 1).trans rfl⟩ (fun hHeld => ?_)
 clear hK K
 refine norm_ (a' := ?_) ?_ ?_
 rotate_left
 ·show Act.put _ (some 48) _ = _
  simp only [Act.put, List.setIfInBounds_toArray, List.set_cons_zero, List.set_cons_succ, i64_w, i32_w]
  rfl
 refine one_ (i := 3) (N := some 49) #[true, true, true, true, false] rfl rfl (by kernel_rfl) (by decide) (fun K hK => ?_)
 refine goes_ Try.func16 (by kernel_rfl) rfl #[.agg #[.slice Ao61 t340.length co61, .slice Ao65 t343.length co65], .agg #[.slice Ao82 t358.length co82, .slice Ao83 t361.length co83]] (by rfl) rfl rfl (by (try simp only [List.map_toArray, List.map_cons, List.map_nil]); first | done | rfl | (simp only [List.length_drop, List.length_take]; rfl)) ?_
 with_reducible refine (laws_eqAlgebra.calls k _ _ t340 _ _ t343 _ _ t358 _ _ t361 true _ ?side1 ?side2 ?side3 ?side4 ?side5 ?side6 ?side7 ?side8 A33.out).mono ?_
 (case side1 => exact kC (Kd.R_reads' HO342.out).2.2)
 (case side2 => exact (Kd.R_reads' HO342.out).2.1)
 (case side3 => exact kC (Kd.S_reads' HO345.out).2.2)
 (case side4 => exact (Kd.S_reads' HO345.out).2.1)
 (case side5 => exact kC (Kd.R_reads' HO360.out).2.2)
 (case side6 => exact (Kd.R_reads' HO360.out).2.1)
 (case side7 => exact kC (Kd.S_reads' HO363.out).2.2)
 (case side8 => exact (Kd.S_reads' HO363.out).2.1)
 rintro e w84 ⟨rfl, hb⟩
 refine ⟨_, rfl, ?_⟩
 replace HO326 := ak (Kd.R_below (kR HO326.out) hb)
 replace HO329 := ak (Kd.S_below (kS HO329.out) hb)
 replace HO332 := ak (Kd.R_below (kR HO332.out) hb)
 replace HO335 := ak (Kd.S_below (kS HO335.out) hb)
 replace HO338 := ak (Kd.R_below (kR HO338.out) hb)
 replace HO342 := ak (Kd.R_below (kR HO342.out) hb)
 replace HO345 := ak (Kd.S_below (kS HO345.out) hb)
 replace HO349 := ak (Kd.R_below (kR HO349.out) hb)
 replace HO352 := ak (Kd.S_below (kS HO352.out) hb)
 replace HO356 := ak (Kd.R_below (kR HO356.out) hb)
 replace HO360 := ak (Kd.R_below (kR HO360.out) hb)
 replace HO363 := ak (Kd.S_below (kS HO363.out) hb)
 replace BK320 := ak (blk_below (kK BK320.out) hb)
 replace BK321 := ak (blk_below (kK BK321.out) hb)
 replace BK346 := ak (blk_below (kK BK346.out) hb)
 replace BK353 := ak (blk_below (kK BK353.out) hb)
 replace HB := ak (below_step (bB HB.out) hb)
 (try clear hb)
 (try clear hb2)
 (try clear hk)
 (try clear hi)
 refine hK.out _ _ ⟨(blk_cell BK346.out 0).trans rfl, (blk_cell BK346.out 1).trans rfl, (blk_cell BK320.out 0).trans rfl, (blk_cell BK320.out 1).trans rfl⟩ (fun hHeld => ?_)
 clear hK K
 refine norm_ (a' := ?_) ?_ ?_
 rotate_left
 ·show Act.put _ (some 49) _ = _
  simp only [Act.put, List.setIfInBounds_toArray, List.set_cons_zero, List.set_cons_succ, i64_w, i32_w]
  rfl
 refine pure_ (i := 4) (N := some 50) (v := ?_) (a' := ?_) #[true, true, true, true, true] rfl rfl (by kernel_rfl) (fun _ _ _ h => h) (Or.inl ⟨by rfl, ?_⟩) ?_ ?_
 rotate_left
 ·intro w'
  go_simp
  with_reducible rfl
 rotate_left
 ·simp only [Act.put, List.setIfInBounds_toArray, List.set_cons_zero, List.set_cons_succ, i64_w, i32_w]
  rfl
 refine done_ (by kernel_rfl) ?_
 try go_wp2
 replace HO326 := ak (Kd.R_drew HO326.out)
 replace HO329 := ak (Kd.S_drew HO329.out)
 replace HO332 := ak (Kd.R_drew HO332.out)
 replace HO335 := ak (Kd.S_drew HO335.out)
 replace HO338 := ak (Kd.R_drew HO338.out)
 replace HO342 := ak (Kd.R_drew HO342.out)
 replace HO345 := ak (Kd.S_drew HO345.out)
 replace HO349 := ak (Kd.R_drew HO349.out)
 replace HO352 := ak (Kd.S_drew HO352.out)
 replace HO356 := ak (Kd.R_drew HO356.out)
 replace HO360 := ak (Kd.R_drew HO360.out)
 replace HO363 := ak (Kd.S_drew HO363.out)
 replace BK320 := ak (blk_drew BK320.out)
 replace BK321 := ak (blk_drew BK321.out)
 replace BK346 := ak (blk_drew BK346.out)
 replace BK353 := ak (blk_drew BK353.out)
 replace HB := ak (below_drew1 HB.out)
 refine start_ (n := 5) (S := fun w' => w'.cell? ⟨gb353, 0, none⟩ = some (.slice Ao69 t347.length co69) ∧ w'.cell? ⟨gb353, 1, none⟩ = some (.slice Ao74 t350.length co74) ∧ w'.cell? ⟨gb321, 0, none⟩ = some (.slice A1_0 l1_0.length c1_0) ∧ w'.cell? ⟨gb321, 1, none⟩ = some (.slice A1_1 l1_1.length c1_1)) (ds := []) #[false, false, false, false, false] (by kernel_rfl) rfl rfl ⟨(blk_cell BK353.out 0).trans rfl, (blk_cell BK353.out 1).trans rfl, (blk_cell BK321.out 0).trans rfl, (blk_cell BK321.out 1).trans rfl⟩ (fun hHeld => ?_)
 generalize w84.drew = w85 at HO326 HO329 HO332 HO335 HO338 HO342 HO345 HO349 HO352 HO356 HO360 HO363 BK320 BK321 BK346 BK353 HB hHeld ⊢
 refine take_ (i := 0) (N := some 51) (v := ?_) (a' := ?_) #[true, false, false, false, false] rfl rfl (by kernel_rfl) (fun _ _ _ h => h) (Or.inl ⟨by rfl, ?_⟩) hHeld ?_ ?_
 rotate_left
 ·rintro w' ⟨s0, s1, s2, s3⟩
  go_simp
  with_reducible rfl
 rotate_left
 ·simp only [Act.put, List.setIfInBounds_toArray, List.set_cons_zero, List.set_cons_succ, i64_w, i32_w]
  rfl
 refine take_ (i := 1) (N := some 52) (v := ?_) (a' := ?_) #[true, true, false, false, false] rfl rfl (by kernel_rfl) (fun _ _ _ h => h) (Or.inl ⟨by rfl, ?_⟩) hHeld ?_ ?_
 rotate_left
 ·rintro w' ⟨s0, s1, s2, s3⟩
  go_simp
  with_reducible rfl
 rotate_left
 ·simp only [Act.put, List.setIfInBounds_toArray, List.set_cons_zero, List.set_cons_succ, i64_w, i32_w]
  rfl
 refine one_ (i := 2) (N := some 53) #[true, true, true, false, false] rfl rfl (by kernel_rfl) (by decide) (fun K hK => ?_)
 refine goes_ Try.func13 (by kernel_rfl) rfl #[.agg #[.slice A1_0 l1_0.length c1_0, .slice A1_1 l1_1.length c1_1]] (by rfl) rfl rfl (by (try simp only [List.map_toArray, List.map_cons, List.map_nil]); first | done | rfl | (simp only [List.length_drop, List.length_take]; rfl)) ?_
 with_reducible refine (laws_toAlgebra.calls k _ _ l1_0 _ _ l1_1 t365 t368 _ ?side1 ?side2 ?side3 ?side4 A35.out).mono ?_
 (case side1 => exact kC (Kd.C_below HR1_0.out HB.out))
 (case side2 => exact HC1_0.out)
 (case side3 => exact kC (Kd.C_below HR1_1.out HB.out))
 (case side4 => exact HC1_1.out)
 rintro e w86 ⟨v366, v369, rfl, ho0, ho1, hb⟩
 refine ⟨_, rfl, ?_⟩
 have HO367 := ak (Kd.R_lower (Kd.R_new' (Kd.R_new' (Kd.R_new' (Kd.R_new' (Kd.R_new' (Kd.R_new' (Kd.R_new' ho0 (Kd.R_lt (kR HO326.out))) (Kd.R_lt (kR HO332.out))) (Kd.R_lt (kR HO338.out))) (Kd.R_lt (kR HO342.out))) (Kd.R_lt (kR HO349.out))) (Kd.R_lt (kR HO356.out))) (Kd.R_lt (kR HO360.out))) (below_size (bB HB.out)))
 have HO370 := ak (Kd.S_lower (Kd.S_new' (Kd.S_new' (Kd.S_new' (Kd.S_new' (Kd.S_new' (Kd.S_new' (Kd.S_new' (Kd.S_new' (Kd.S_new' (Kd.S_new' (Kd.S_new' (Kd.S_new' ho1 (Kd.R_lt (kR HO326.out))) (Kd.S_lt (kS HO329.out))) (Kd.R_lt (kR HO332.out))) (Kd.S_lt (kS HO335.out))) (Kd.R_lt (kR HO338.out))) (Kd.R_lt (kR HO342.out))) (Kd.S_lt (kS HO345.out))) (Kd.R_lt (kR HO349.out))) (Kd.S_lt (kS HO352.out))) (Kd.R_lt (kR HO356.out))) (Kd.R_lt (kR HO360.out))) (Kd.S_lt (kS HO363.out))) (below_size (bB HB.out)))
 replace HO326 := ak (Kd.R_elder' (kR HO326.out) (Kd.R_base ho0) hb)
 replace HO329 := ak (Kd.S_mono (Kd.S_told (Kd.S_told (Kd.S_old (kS HO329.out) hb) (Kd.R_base ho0)) (Kd.S_base ho1)) (fun _ h_ => h_.1))
 replace HO332 := ak (Kd.R_elder' (kR HO332.out) (Kd.R_base ho0) hb)
 replace HO335 := ak (Kd.S_mono (Kd.S_told (Kd.S_told (Kd.S_old (kS HO335.out) hb) (Kd.R_base ho0)) (Kd.S_base ho1)) (fun _ h_ => h_.1))
 replace HO338 := ak (Kd.R_elder' (kR HO338.out) (Kd.R_base ho0) hb)
 replace HO342 := ak (Kd.R_elder' (kR HO342.out) (Kd.R_base ho0) hb)
 replace HO345 := ak (Kd.S_mono (Kd.S_told (Kd.S_told (Kd.S_old (kS HO345.out) hb) (Kd.R_base ho0)) (Kd.S_base ho1)) (fun _ h_ => h_.1))
 replace HO349 := ak (Kd.R_elder' (kR HO349.out) (Kd.R_base ho0) hb)
 replace HO352 := ak (Kd.S_mono (Kd.S_told (Kd.S_told (Kd.S_old (kS HO352.out) hb) (Kd.R_base ho0)) (Kd.S_base ho1)) (fun _ h_ => h_.1))
 replace HO356 := ak (Kd.R_elder' (kR HO356.out) (Kd.R_base ho0) hb)
 replace HO360 := ak (Kd.R_elder' (kR HO360.out) (Kd.R_base ho0) hb)
 replace HO363 := ak (Kd.S_mono (Kd.S_told (Kd.S_told (Kd.S_old (kS HO363.out) hb) (Kd.R_base ho0)) (Kd.S_base ho1)) (fun _ h_ => h_.1))
 replace BK320 := ak (blk_below (kK BK320.out) hb)
 replace BK321 := ak (blk_below (kK BK321.out) hb)
 replace BK346 := ak (blk_below (kK BK346.out) hb)
 replace BK353 := ak (blk_below (kK BK353.out) hb)
 replace HB := ak (below_step (bB HB.out) hb)
 (try clear hb)
 (try clear hb2)
 (try clear hk)
 (try clear hi)
 (try clear ho0)
 (try clear ho1)
 obtain ⟨Ao87, co87, eo87⟩ := Kd.R_slice HO367.out
 (first | subst eo87 | (injection eo87 with f1_ f2_ f3_; have f4_ := f1_.symm; have f5_ := f3_.symm; clear f1_ f2_ f3_; subst f4_; subst f5_))
 obtain ⟨Ao88, co88, eo88⟩ := Kd.S_slice HO370.out
 (first | subst eo88 | (injection eo88 with f1_ f2_ f3_; have f4_ := f1_.symm; have f5_ := f3_.symm; clear f1_ f2_ f3_; subst f4_; subst f5_))
 refine hK.out _ _ ⟨(blk_cell BK353.out 0).trans rfl, (blk_cell BK353.out 1).trans rfl, (blk_cell BK321.out 0).trans rfl, (blk_cell BK321.out 1).trans rfl⟩ (fun hHeld => ?_)
 clear hK K
 refine norm_ (a' := ?_) ?_ ?_
 rotate_left
 ·show Act.put _ (some 53) _ = _
  simp only [Act.put, List.setIfInBounds_toArray, List.set_cons_zero, List.set_cons_succ, i64_w, i32_w]
  rfl
 refine one_ (i := 3) (N := some 54) #[true, true, true, true, false] rfl rfl (by kernel_rfl) (by decide) (fun K hK => ?_)
 refine goes_ Try.func16 (by kernel_rfl) rfl #[.agg #[.slice Ao69 t347.length co69, .slice Ao74 t350.length co74], .agg #[.slice Ao87 t365.length co87, .slice Ao88 t368.length co88]] (by rfl) rfl rfl (by (try simp only [List.map_toArray, List.map_cons, List.map_nil]); first | done | rfl | (simp only [List.length_drop, List.length_take]; rfl)) ?_
 with_reducible refine (laws_eqAlgebra.calls k _ _ t347 _ _ t350 _ _ t365 _ _ t368 true _ ?side1 ?side2 ?side3 ?side4 ?side5 ?side6 ?side7 ?side8 A36.out).mono ?_
 (case side1 => exact kC (Kd.R_reads' HO349.out).2.2)
 (case side2 => exact (Kd.R_reads' HO349.out).2.1)
 (case side3 => exact kC (Kd.S_reads' HO352.out).2.2)
 (case side4 => exact (Kd.S_reads' HO352.out).2.1)
 (case side5 => exact kC (Kd.R_reads' HO367.out).2.2)
 (case side6 => exact (Kd.R_reads' HO367.out).2.1)
 (case side7 => exact kC (Kd.S_reads' HO370.out).2.2)
 (case side8 => exact (Kd.S_reads' HO370.out).2.1)
 rintro e w89 ⟨rfl, hb⟩
 refine ⟨_, rfl, ?_⟩
 replace HO326 := ak (Kd.R_below (kR HO326.out) hb)
 replace HO329 := ak (Kd.S_below (kS HO329.out) hb)
 replace HO332 := ak (Kd.R_below (kR HO332.out) hb)
 replace HO335 := ak (Kd.S_below (kS HO335.out) hb)
 replace HO338 := ak (Kd.R_below (kR HO338.out) hb)
 replace HO342 := ak (Kd.R_below (kR HO342.out) hb)
 replace HO345 := ak (Kd.S_below (kS HO345.out) hb)
 replace HO349 := ak (Kd.R_below (kR HO349.out) hb)
 replace HO352 := ak (Kd.S_below (kS HO352.out) hb)
 replace HO356 := ak (Kd.R_below (kR HO356.out) hb)
 replace HO360 := ak (Kd.R_below (kR HO360.out) hb)
 replace HO363 := ak (Kd.S_below (kS HO363.out) hb)
 replace HO367 := ak (Kd.R_below (kR HO367.out) hb)
 replace HO370 := ak (Kd.S_below (kS HO370.out) hb)
 replace BK320 := ak (blk_below (kK BK320.out) hb)
 replace BK321 := ak (blk_below (kK BK321.out) hb)
 replace BK346 := ak (blk_below (kK BK346.out) hb)
 replace BK353 := ak (blk_below (kK BK353.out) hb)
 replace HB := ak (below_step (bB HB.out) hb)
 (try clear hb)
 (try clear hb2)
 (try clear hk)
 (try clear hi)
 refine hK.out _ _ ⟨(blk_cell BK353.out 0).trans rfl, (blk_cell BK353.out 1).trans rfl, (blk_cell BK321.out 0).trans rfl, (blk_cell BK321.out 1).trans rfl⟩ (fun hHeld => ?_)
 clear hK K
 refine norm_ (a' := ?_) ?_ ?_
 rotate_left
 ·show Act.put _ (some 54) _ = _
  simp only [Act.put, List.setIfInBounds_toArray, List.set_cons_zero, List.set_cons_succ, i64_w, i32_w]
  rfl
 refine pure_ (i := 4) (N := some 55) (v := ?_) (a' := ?_) #[true, true, true, true, true] rfl rfl (by kernel_rfl) (fun _ _ _ h => h) (Or.inl ⟨by rfl, ?_⟩) ?_ ?_
 rotate_left
 ·intro w'
  go_simp
  with_reducible rfl
 rotate_left
 ·simp only [Act.put, List.setIfInBounds_toArray, List.set_cons_zero, List.set_cons_succ, i64_w, i32_w]
  rfl
 refine done_ (by kernel_rfl) ?_
 try go_wp2_with (first | ((with_reducible refine gate_callee (f := 14) rfl ?_); refine goesL_ (some 58) rfl rfl Try.func14 (by kernel_rfl) rfl #[.slice A2 l2.length c2] rfl (by (try simp only [List.map_toArray, List.map_cons, List.map_nil]); first | done | rfl | (simp only [List.length_drop, List.length_take]; rfl)) ?_; (with_reducible refine (laws_toIntS.calls k _ _ l2 t372 _ ?side1 ?side2 A38.out).mono ?_); (case side1 => exact kC (Kd.C_below HR2.out HB.out)); (case side2 => exact HC2.out); rintro e w90 ⟨v373, rfl, ho0, hb⟩; refine ⟨_, rfl, ?_⟩; replace HO329 := ak (Kd.S_elder' (kS HO329.out) (Kd.R_base ho0) hb); replace HO335 := ak (Kd.S_elder' (kS HO335.out) (Kd.R_base ho0) hb); replace HO345 := ak (Kd.S_elder' (kS HO345.out) (Kd.R_base ho0) hb); replace HO352 := ak (Kd.S_elder' (kS HO352.out) (Kd.R_base ho0) hb); replace HO363 := ak (Kd.S_elder' (kS HO363.out) (Kd.R_base ho0) hb); replace HO370 := ak (Kd.S_elder' (kS HO370.out) (Kd.R_base ho0) hb); have HO374 := ak (Kd.R_lower (Kd.R_new' (Kd.R_new' (Kd.R_new' (Kd.R_new' (Kd.R_new' (Kd.R_new' (Kd.R_new' (Kd.R_new' ho0 (Kd.R_lt (kR HO326.out))) (Kd.R_lt (kR HO332.out))) (Kd.R_lt (kR HO338.out))) (Kd.R_lt (kR HO342.out))) (Kd.R_lt (kR HO349.out))) (Kd.R_lt (kR HO356.out))) (Kd.R_lt (kR HO360.out))) (Kd.R_lt (kR HO367.out))) (below_size (bB HB.out))); replace HO326 := ak (Kd.R_elder' (kR HO326.out) (Kd.R_base ho0) hb); replace HO332 := ak (Kd.R_elder' (kR HO332.out) (Kd.R_base ho0) hb); replace HO338 := ak (Kd.R_elder' (kR HO338.out) (Kd.R_base ho0) hb); replace HO342 := ak (Kd.R_elder' (kR HO342.out) (Kd.R_base ho0) hb); replace HO349 := ak (Kd.R_elder' (kR HO349.out) (Kd.R_base ho0) hb); replace HO356 := ak (Kd.R_elder' (kR HO356.out) (Kd.R_base ho0) hb); replace HO360 := ak (Kd.R_elder' (kR HO360.out) (Kd.R_base ho0) hb); replace HO367 := ak (Kd.R_elder' (kR HO367.out) (Kd.R_base ho0) hb); replace BK320 := ak (blk_below (kK BK320.out) hb); replace BK321 := ak (blk_below (kK BK321.out) hb); replace BK346 := ak (blk_below (kK BK346.out) hb); replace BK353 := ak (blk_below (kK BK353.out) hb); replace HB := ak (below_step (bB HB.out) hb); (try clear hb); (try clear hb2); (try clear hk); (try clear hi); (try clear ho0); obtain ⟨Ao91, co91, eo91⟩ := Kd.R_slice HO374.out; subst eo91) | ((with_reducible refine gate_callee (f := 17) rfl ?_); refine goesL_ (some 59) rfl rfl Try.func17 (by kernel_rfl) rfl #[.slice Ao78 t354.length co78, .slice Ao91 t372.length co91] rfl (by (try simp only [List.map_toArray, List.map_cons, List.map_nil]); first | done | rfl | (simp only [List.length_drop, List.length_take]; rfl)) ?_; (with_reducible refine (laws_eqIntS.calls k _ _ t354 _ _ t372 true _ ?side1 ?side2 ?side3 ?side4 A39.out).mono ?_); (case side1 => exact kC (Kd.R_reads' HO356.out).2.2); (case side2 => exact (Kd.R_reads' HO356.out).2.1); (case side3 => exact kC (Kd.R_reads' HO374.out).2.2); (case side4 => exact (Kd.R_reads' HO374.out).2.1); rintro e w' ⟨rfl, ⟨nd, rfl⟩⟩; refine ⟨_, rfl, ?_⟩))
 go_ret
 exact ⟨by first | rfl | (simp [errW_none, errW_some] <;> rfl) | (simp [*, errW_none, errW_some] <;> rfl), by repeat (first | (with_reducible first | exact HB.out | apply below_alloc | apply pw_below_drewN | apply below_drew1 | refine below_set ?_ GE320.out | refine below_set ?_ GE321.out | refine below_set ?_ GE346.out | refine below_set ?_ GE353.out) | exact HB.out)⟩
/-- THE ONE PURE STATEMENT of laws_FnExactIsMap: yours. -/
def laws_FnExactIsMap.Pure : Prop := ∀ (l0_0 : List Int) (l0_1 : List (List Int)) (l1_0 : List Int) (l1_1 : List (List Int)) (l2 : List Int), l0_0.length ≤ maxLen → (∀ x ∈ l0_0, (Lit.int .i64 x).wf = true) → l0_1.length ≤ maxLen → (∀ r ∈ l0_1, r.length ≤ maxLen ∧ ∀ x ∈ r, (Lit.int .i64 x).wf = true) → l1_0.length ≤ maxLen → (∀ x ∈ l1_0, (Lit.int .i64 x).wf = true) → l1_1.length ≤ maxLen → (∀ r ∈ l1_1, r.length ≤ maxLen ∧ ∀ x ∈ r, (Lit.int .i64 x).wf = true) → l2.length ≤ maxLen → l2.length * 8 ≤ 140737488351232 → (∀ x ∈ l2, (Lit.int .i64 x).wf = true) → ∃ k, laws_FnExactIsMap.f k l0_0 l0_1 l1_0 l1_1 l2 = some true
theorem laws_FnExactIsMap.walk (P : laws_FnExactIsMap.Pure) (A0_0 : Option Addr) (c0_0 : Nat) (l0_0 : List Int) (A0_1 : Option Addr) (c0_1 : Nat) (l0_1 : List (List Int)) (A1_0 : Option Addr) (c1_0 : Nat) (l1_0 : List Int) (A1_1 : Option Addr) (c1_1 : Nat) (l1_1 : List (List Int)) (a2 : Option Addr) (len2 cap2 : Nat) (z2 : List Int) (w : World) (hr0_0 : Kd.C (Kd.int .i64) w A0_0 l0_0.length l0_0) (hc0_0 : l0_0.length ≤ c0_0) (hm0_0 : l0_0.length ≤ maxLen) (hw0_0 : (∀ x ∈ l0_0, (Lit.int .i64 x).wf = true)) (hr0_1 : Kd.C (Kd.slice 3 (Kd.int .i64)) w A0_1 l0_1.length l0_1) (hc0_1 : l0_1.length ≤ c0_1) (hm0_1 : l0_1.length ≤ maxLen) (hw0_1 : (∀ r ∈ l0_1, r.length ≤ maxLen ∧ ∀ x ∈ r, (Lit.int .i64 x).wf = true)) (hr1_0 : Kd.C (Kd.int .i64) w A1_0 l1_0.length l1_0) (hc1_0 : l1_0.length ≤ c1_0) (hm1_0 : l1_0.length ≤ maxLen) (hw1_0 : (∀ x ∈ l1_0, (Lit.int .i64 x).wf = true)) (hr1_1 : Kd.C (Kd.slice 3 (Kd.int .i64)) w A1_1 l1_1.length l1_1) (hc1_1 : l1_1.length ≤ c1_1) (hm1_1 : l1_1.length ≤ maxLen) (hw1_1 : (∀ r ∈ l1_1, r.length ≤ maxLen ∧ ∀ x ∈ r, (Lit.int .i64 x).wf = true)) (w2 : (a2 = none ∧ len2 = 0 ∧ cap2 = 0 ∧ z2 = []) ∨ ∃ x, a2 = some x ∧ len2 ≤ cap2 ∧ cap2 ≤ maxLen ∧ z2.length = cap2 ∧ (∀ i, i < z2.length → w.cell? (x.add i) = some (.int .i64 (z2.getD i 0))) ∧ ∀ n ∈ z2, (Lit.int .i64 n).wf = true) (y2 : len2 * 8 ≤ 140737488351232) :
  Calls Try.prog 4 #[.agg #[.slice A0_0 l0_0.length c0_0, .slice A0_1 l0_1.length c0_1], .agg #[.slice A1_0 l1_0.length c1_0, .slice A1_1 l1_1.length c1_1], .slice a2 len2 cap2] w fun e w' => e = .returned (.bool true) ∧ Below w.heap.size w w' := by
 obtain ⟨l2, rfl, hr2, hm2, hw2, hc2⟩ := ReadsInt.ofRowC w2
 obtain ⟨k, h⟩ := P l0_0 l0_1 l1_0 l1_1 l2 hm0_0 hw0_0 hm0_1 hw0_1 hm1_0 hw1_0 hm1_1 hw1_1 hm2 y2 hw2
 refine (laws_FnExactIsMap.calls k _ _ l0_0 _ _ l0_1 _ _ l1_0 _ _ l1_1 _ _ l2 true w hr0_0 hc0_0 hr0_1 hc0_1 hr1_0 hc1_0 hr1_1 hc1_1 (Kd.C_of_reads (d := (0 : Int)) (h1 := fun _ => rfl) hr2) hc2 ⟨rfl⟩ h).mono ?_
 rintro e w' ⟨rfl, hd⟩
 exact ⟨rfl, hd⟩
end Go.Proofs.Ytomapoenndlbiaa.P

-- shrunk
