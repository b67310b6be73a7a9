-- Printed by this session's wip/print2.py (the kit's print.py, widened) out of the translation. Lean checks it.
import Derived.Test.YtjidbgmkhapklaaP0
import Derived.Test.YtjidbgmkhapklaaP3
import Derived.Test.YtjidbgmkhapklaaP4
import Derived.Test.YtjidbgmkhapklaaP5
import Derived.Test.YtjidbgmkhapklaaP6
import Derived.Test.YtjidbgmkhapklaaP7
import Derived.Test.YtjidbgmkhapklaaP15
import Derived.Test.YtjidbgmkhapklaaP17
import Derived.Test.YtjidbgmkhapklaaP30
namespace Go.Proofs.Ytjidbgmkhapklaa.P
open Go.RowKit Go.Proofs.YtjidbgmkhapklaaW.PrintWords Go.Proofs.YtjidbgmkhapklaaW.PrintLast Go.Proofs.YtjidbgmkhapklaaW.PrintMore
attribute [local go_sem] max2_int min2_int max_two min_two max_three min_three max_four min_four   -- for this text's walks alone
set_option linter.unusedVariables false
set_option linter.unusedSimpArgs false

/-! ### laws_FnExactCrossAlgebras: function 5 -/
def laws_FnExactCrossAlgebras.f (k : Nat) (l0_0 : List Int) (l0_1 : List (List Int)) (l1_0 : List Int) (l1_1 : List (List Int)) : Option (Bool) := (laws_szAlgebra.f k l0_0 l0_1 1048576).bind fun t336 => (if t336 < 0 then (some true) else ((laws_szAlgebra.f k l1_0 l1_1 t336).bind fun t337 => (if t337 < 0 then (some true) else ((laws_toAlgebra.f k l0_0 l0_1).bind fun bt338 => ((laws_toAlgebra.f k l1_0 l1_1).bind fun bt344 => ((spec_CrossAlgebras.f k bt338.1 bt338.2 bt344.1 bt344.2).bind fun bt350 => ((laws_toAlgebra.f k l0_0 l0_1).bind fun bt358 => ((laws_toAlgebra.f k l1_0 l1_1).bind fun bt365 => ((impl_CrossAlgebras.f k bt358.1 bt358.2 bt365.1 bt365.2).bind fun bt372 => ((laws_eqAlgebra.f k bt372.1 bt372.2.1 bt350.1 bt350.2.1).bind fun t380 => (if t380 = true then (if (bt372.2.2 != bt350.2.2) = true then (some false) else ((laws_toAlgebra.f k l0_0 l0_1).bind fun bt381 => ((laws_eqAlgebra.f k bt358.1 bt358.2 bt381.1 bt381.2).bind fun t387 => (if t387 = true then ((laws_toAlgebra.f k l1_0 l1_1).bind fun bt388 => ((laws_eqAlgebra.f k bt365.1 bt365.2 bt388.1 bt388.2).bind fun t394 => (if t394 = true then ((laws_markAlgebra.f k bt358.1 bt358.2 1).bind fun bt395 => ((laws_markAlgebra.f k bt365.1 bt365.2 bt395.1).bind fun bt398 => (if bt398.1 < 0 then (some false) else ((laws_eqAlgebra.f k bt372.1 bt372.2.1 bt350.1 bt350.2.1).bind fun t401 => (if t401 = true then ((laws_markAlgebra.f k bt372.1 bt372.2.1 1).bind fun bt402 => ((laws_heldAlgebra.f k bt402.2.1 bt402.2.2 1).bind fun t405 => (if t405 < 0 then (some false) else (if t405 = bt402.1 then ((laws_toAlgebra.f k l0_0 l0_1).bind fun bt406 => ((laws_toAlgebra.f k l1_0 l1_1).bind fun bt412 => ((impl_CrossAlgebras.f k bt406.1 bt406.2 bt412.1 bt412.2).bind fun bt418 => ((laws_eqAlgebra.f k bt418.1 bt418.2.1 bt350.1 bt350.2.1).bind fun t426 => (if t426 = true then (if (bt418.2.2 != bt350.2.2) = true then (some false) else ((laws_heldAlgebra.f k bt402.2.1 bt402.2.2 1).bind fun t427 => (if t427 < 0 then (some false) else (if t427 = bt402.1 then (some true) else (some false))))) else (some false)))))) else (some false))))) else (some false)))))) else (some false)))) else (some false))))) else (some false))))))))))))
def laws_FnExactCrossAlgebras.T8 : Bool × List (List Nat × List Nat) := (true, [([], []), ([0], [0]), ([], []), ([2, 1], [2]), ([1, 3, 3], [1, 3]), ([4], [4]), ([5], [5]), ([5], [5]), ([], []), ([8, 6, 4, 0, 1, 2, 3, 4, 5, 6, 8], [6, 8]), ([7, 9, 0, 1, 2, 3, 4, 5, 6, 7, 8, 9], [7])])
def laws_FnExactCrossAlgebras.B8 : List Nat := [0, 1, 0, 7, 15, 31, 63, 63, 0, 383, 1023]
theorem laws_FnExactCrossAlgebras.tab8 : rtab .any (opsOf Try.f5 8) = laws_FnExactCrossAlgebras.T8 := by kernel_rfl
theorem laws_FnExactCrossAlgebras.bits8 : waitsOk laws_FnExactCrossAlgebras.T8.2 laws_FnExactCrossAlgebras.B8 = true := by kernel_rfl
def laws_FnExactCrossAlgebras.T31 : Bool × List (List Nat × List Nat) := (true, [([], []), ([0], [0]), ([], []), ([2, 1], [2]), ([1, 3, 3], [1, 3]), ([4], [4]), ([5], [5]), ([5], [5]), ([], []), ([8, 6, 4, 0, 1, 2, 3, 4, 5, 6, 8], [6, 8]), ([7, 9, 0, 1, 2, 3, 4, 5, 6, 7, 8, 9], [7])])
def laws_FnExactCrossAlgebras.B31 : List Nat := [0, 1, 0, 7, 15, 31, 63, 63, 0, 383, 1023]
theorem laws_FnExactCrossAlgebras.tab31 : rtab .any (opsOf Try.f5 31) = laws_FnExactCrossAlgebras.T31 := by kernel_rfl
theorem laws_FnExactCrossAlgebras.bits31 : waitsOk laws_FnExactCrossAlgebras.T31.2 laws_FnExactCrossAlgebras.B31 = true := by kernel_rfl
set_option maxHeartbeats 8000000 in
set_option maxRecDepth 100000 in
theorem laws_FnExactCrossAlgebras.calls (k : Nat) (A0_0 : Option Addr) (c0_0 : Nat) (l0_0 : List Int) (A0_1 : Option Addr) (c0_1 : Nat) (l0_1 : List (List Int)) (A1_0 : Option Addr) (c1_0 : Nat) (l1_0 : List Int) (A1_1 : Option Addr) (c1_1 : Nat) (l1_1 : List (List Int)) (r : Bool) (w : World) (hr0_0 : Kd.C (Kd.int .i64) w A0_0 l0_0.length l0_0) (hc0_0 : l0_0.length ≤ c0_0) (hr0_1 : Kd.C (Kd.slice 3 (Kd.int .i64)) w A0_1 l0_1.length l0_1) (hc0_1 : l0_1.length ≤ c0_1) (hr1_0 : Kd.C (Kd.int .i64) w A1_0 l1_0.length l1_0) (hc1_0 : l1_0.length ≤ c1_0) (hr1_1 : Kd.C (Kd.slice 3 (Kd.int .i64)) w A1_1 l1_1.length l1_1) (hc1_1 : l1_1.length ≤ c1_1) (hrt : Aside0 (r = true)) (h : laws_FnExactCrossAlgebras.f k l0_0 l0_1 l1_0 l1_1 = some r) :
  Calls Try.prog 5 #[.agg #[.slice A0_0 l0_0.length c0_0, .slice A0_1 l0_1.length c0_1], .agg #[.slice A1_0 l1_0.length c1_0, .slice A1_1 l1_1.length c1_1]] w fun e w' => e = .returned (.bool r) ∧ Below w.heap.size w w' := by
 have hu36 := Try.underlying36
 have hu25 := Try.underlying25
 have HR0_0 := ak hr0_0
 have HC0_0 := ak hc0_0
 clear hr0_0 hc0_0
 have HR0_1 := ak hr0_1
 have HC0_1 := ak hc0_1
 clear hr0_1 hc0_1
 have HR1_0 := ak hr1_0
 have HC1_0 := ak hc1_0
 clear hr1_0 hc1_0
 have HR1_1 := ak hr1_1
 have HC1_1 := ak hc1_1
 clear hr1_1 hc1_1
 have HB := ak (Below.refl w.heap.size w)
 have H : ((laws_szAlgebra.f k l0_0 l0_1 1048576).bind fun t336 => (if t336 < 0 then (some true) else ((laws_szAlgebra.f k l1_0 l1_1 t336).bind fun t337 => (if t337 < 0 then (some true) else ((laws_toAlgebra.f k l0_0 l0_1).bind fun bt338 => ((laws_toAlgebra.f k l1_0 l1_1).bind fun bt344 => ((spec_CrossAlgebras.f k bt338.1 bt338.2 bt344.1 bt344.2).bind fun bt350 => ((laws_toAlgebra.f k l0_0 l0_1).bind fun bt358 => ((laws_toAlgebra.f k l1_0 l1_1).bind fun bt365 => ((impl_CrossAlgebras.f k bt358.1 bt358.2 bt365.1 bt365.2).bind fun bt372 => ((laws_eqAlgebra.f k bt372.1 bt372.2.1 bt350.1 bt350.2.1).bind fun t380 => (if t380 = true then (if (bt372.2.2 != bt350.2.2) = true then (some false) else ((laws_toAlgebra.f k l0_0 l0_1).bind fun bt381 => ((laws_eqAlgebra.f k bt358.1 bt358.2 bt381.1 bt381.2).bind fun t387 => (if t387 = true then ((laws_toAlgebra.f k l1_0 l1_1).bind fun bt388 => ((laws_eqAlgebra.f k bt365.1 bt365.2 bt388.1 bt388.2).bind fun t394 => (if t394 = true then ((laws_markAlgebra.f k bt358.1 bt358.2 1).bind fun bt395 => ((laws_markAlgebra.f k bt365.1 bt365.2 bt395.1).bind fun bt398 => (if bt398.1 < 0 then (some false) else ((laws_eqAlgebra.f k bt372.1 bt372.2.1 bt350.1 bt350.2.1).bind fun t401 => (if t401 = true then ((laws_markAlgebra.f k bt372.1 bt372.2.1 1).bind fun bt402 => ((laws_heldAlgebra.f k bt402.2.1 bt402.2.2 1).bind fun t405 => (if t405 < 0 then (some false) else (if t405 = bt402.1 then ((laws_toAlgebra.f k l0_0 l0_1).bind fun bt406 => ((laws_toAlgebra.f k l1_0 l1_1).bind fun bt412 => ((impl_CrossAlgebras.f k bt406.1 bt406.2 bt412.1 bt412.2).bind fun bt418 => ((laws_eqAlgebra.f k bt418.1 bt418.2.1 bt350.1 bt350.2.1).bind fun t426 => (if t426 = true then (if (bt418.2.2 != bt350.2.2) = true then (some false) else ((laws_heldAlgebra.f k bt402.2.1 bt402.2.2 1).bind fun t427 => (if t427 < 0 then (some false) else (if t427 = bt402.1 then (some true) else (some false))))) else (some false)))))) else (some false))))) else (some false)))))) else (some false)))) else (some false))))) else (some false))))))))))))) = some r := h
 clear h
 replace H := bi H
 obtain ⟨t336, A30, H⟩ := H
 try dsimp only at H
 have A3 := ak A30
 clear A30
 by_cases c4 : t336 < 0
 ·rw [if_pos c4] at H
  have c4b0 : decide (t336 < 0) = true := decide_eq_true c4
  clear c4
  obtain rfl := Option.some.inj H
  go_enter Try.func5, Try.ntmps5
  go_wp2_with (first | ((with_reducible refine gate_dst (N := 2) rfl ?_); refine box_event ?hg (N := 2) ?hd (cs := #[.slice A0_0 l0_0.length c0_0, .slice A0_1 l0_1.length c0_1]) (t := 36) ?hr ?_; (case hd => rfl); (case hg => rfl); (case hr => first | (go_simp; done) | (go_simp; rfl)); intro gb334 hg w5 hbox hb; have BK334 := ak (hbox); have GW334 := ak (ge_box hg (kB HB.out)); have GE334 := ak (ge_box hg (kB HB.out)); replace HB := ak (below_step (kB HB.out) hb); clear hb hbox hg) | ((with_reducible refine gate_dst (N := 3) rfl ?_); refine box_event ?hg (N := 3) ?hd (cs := #[.slice A1_0 l1_0.length c1_0, .slice A1_1 l1_1.length c1_1]) (t := 36) ?hr ?_; (case hd => rfl); (case hg => rfl); (case hr => first | (go_simp; done) | (go_simp; rfl)); intro gb335 hg w6 hbox hb; have BK335 := ak (hbox); have GW335 := ak (ge_box hg (kB HB.out)); have GE335 := ak (ge_box hg (kB HB.out)); replace HB := ak (below_step (kB HB.out) hb); have NB334_335 := ak ((ne_box hg (kK BK334.out))); have NB335_334 := ak ((ne_box' hg (kK BK334.out))); replace BK334 := ak (blk_below (kK BK334.out) hb); clear hb hbox hg; have hnb7 := NB334_335.out; have hnc7 := NB335_334.out; have hcz8_0 : w6.cell? ⟨gb334, 0, none⟩ = some (.slice A0_0 l0_0.length c0_0) := (blk_cell BK334.out 0).trans rfl; have hcz8_1 : w6.cell? ⟨gb334, 1, none⟩ = some (.slice A0_1 l0_1.length c0_1) := (blk_cell BK334.out 1).trans rfl; have hfz8_0 := blk_frozen BK334.out 0; have hfz8_1 := blk_frozen BK334.out 1) | ((with_reducible refine gate_callee (f := 23) rfl ?_); refine goesL_ (some 19) rfl rfl Try.func23 (by kernel_rfl) rfl #[.agg #[.slice A0_0 l0_0.length c0_0, .slice A0_1 l0_1.length c0_1], .int .i64 1048576] rfl (by (try simp only [List.map_toArray, List.map_cons, List.map_nil]); first | done | rfl | (simp only [List.length_drop, List.length_take]; rfl)) ?_; (with_reducible refine (laws_szAlgebra.calls k _ _ l0_0 _ _ l0_1 1048576 t336 _ ?side1 ?side2 ?side3 ?side4 A3.out).mono ?_); (case side1 => exact kC (Kd.C_below HR0_0.out HB.out)); (case side2 => exact HC0_0.out); (case side3 => exact kC (Kd.C_below HR0_1.out HB.out)); (case side4 => exact HC0_1.out); rintro e w9 ⟨rfl, hb⟩; refine ⟨_, rfl, ?_⟩; obtain ⟨ag10, hag10⟩ := age_at hb; replace BK334 := ak (blk_below (kK BK334.out) hb); replace BK335 := ak (blk_below (kK BK335.out) hb); replace HB := ak (below_step (kB HB.out) hb); (try clear hb); (try clear hb2); (try clear hk); (try clear hi)))
  go_ret
  exact ⟨by first | rfl | (simp [errW_none, errW_some] <;> rfl) | (simp [*, errW_none, errW_some] <;> rfl), by repeat (first | (with_reducible first | exact HB.out | apply below_alloc | apply pw_below_drewN | apply below_drew1 | refine below_set ?_ GE334.out | refine below_set ?_ GE335.out) | exact HB.out)⟩
 rw [if_neg c4] at H
 have c4b0 : decide (t336 < 0) = false := decide_eq_false c4
 clear c4
 replace H := bi H
 obtain ⟨t337, A110, H⟩ := H
 try dsimp only at H
 have A11 := ak A110
 clear A110
 by_cases c12 : t337 < 0
 ·rw [if_pos c12] at H
  have c12b0 : decide (t337 < 0) = true := decide_eq_true c12
  clear c12
  obtain rfl := Option.some.inj H
  go_enter Try.func5, Try.ntmps5
  go_wp2_with (first | ((with_reducible refine gate_dst (N := 2) rfl ?_); refine box_event ?hg (N := 2) ?hd (cs := #[.slice A0_0 l0_0.length c0_0, .slice A0_1 l0_1.length c0_1]) (t := 36) ?hr ?_; (case hd => rfl); (case hg => rfl); (case hr => first | (go_simp; done) | (go_simp; rfl)); intro gb334 hg w13 hbox hb; have BK334 := ak (hbox); have GW334 := ak (ge_box hg (kB HB.out)); have GE334 := ak (ge_box hg (kB HB.out)); replace HB := ak (below_step (kB HB.out) hb); clear hb hbox hg) | ((with_reducible refine gate_dst (N := 3) rfl ?_); refine box_event ?hg (N := 3) ?hd (cs := #[.slice A1_0 l1_0.length c1_0, .slice A1_1 l1_1.length c1_1]) (t := 36) ?hr ?_; (case hd => rfl); (case hg => rfl); (case hr => first | (go_simp; done) | (go_simp; rfl)); intro gb335 hg w14 hbox hb; have BK335 := ak (hbox); have GW335 := ak (ge_box hg (kB HB.out)); have GE335 := ak (ge_box hg (kB HB.out)); replace HB := ak (below_step (kB HB.out) hb); have NB334_335 := ak ((ne_box hg (kK BK334.out))); have NB335_334 := ak ((ne_box' hg (kK BK334.out))); replace BK334 := ak (blk_below (kK BK334.out) hb); clear hb hbox hg; have hnb15 := NB334_335.out; have hnc15 := NB335_334.out; have hcz16_0 : w14.cell? ⟨gb334, 0, none⟩ = some (.slice A0_0 l0_0.length c0_0) := (blk_cell BK334.out 0).trans rfl; have hcz16_1 : w14.cell? ⟨gb334, 1, none⟩ = some (.slice A0_1 l0_1.length c0_1) := (blk_cell BK334.out 1).trans rfl; have hfz16_0 := blk_frozen BK334.out 0; have hfz16_1 := blk_frozen BK334.out 1) | ((with_reducible refine gate_callee (f := 23) rfl ?_); refine goesL_ (some 19) rfl rfl Try.func23 (by kernel_rfl) rfl #[.agg #[.slice A0_0 l0_0.length c0_0, .slice A0_1 l0_1.length c0_1], .int .i64 1048576] rfl (by (try simp only [List.map_toArray, List.map_cons, List.map_nil]); first | done | rfl | (simp only [List.length_drop, List.length_take]; rfl)) ?_; (with_reducible refine (laws_szAlgebra.calls k _ _ l0_0 _ _ l0_1 1048576 t336 _ ?side1 ?side2 ?side3 ?side4 A3.out).mono ?_); (case side1 => exact kC (Kd.C_below HR0_0.out HB.out)); (case side2 => exact HC0_0.out); (case side3 => exact kC (Kd.C_below HR0_1.out HB.out)); (case side4 => exact HC0_1.out); rintro e w17 ⟨rfl, hb⟩; refine ⟨_, rfl, ?_⟩; obtain ⟨ag18, hag18⟩ := age_at hb; replace BK334 := ak (blk_below (kK BK334.out) hb); replace BK335 := ak (blk_below (kK BK335.out) hb); replace HB := ak (below_step (kB HB.out) hb); (try clear hb); (try clear hb2); (try clear hk); (try clear hi); have hcz19_0 : w17.cell? ⟨gb335, 0, none⟩ = some (.slice A1_0 l1_0.length c1_0) := (blk_cell BK335.out 0).trans rfl; have hcz19_1 : w17.cell? ⟨gb335, 1, none⟩ = some (.slice A1_1 l1_1.length c1_1) := (blk_cell BK335.out 1).trans rfl; have hfz19_0 := blk_frozen BK335.out 0; have hfz19_1 := blk_frozen BK335.out 1) | ((with_reducible refine gate_callee (f := 23) rfl ?_); refine goesL_ (some 24) rfl rfl Try.func23 (by kernel_rfl) rfl #[.agg #[.slice A1_0 l1_0.length c1_0, .slice A1_1 l1_1.length c1_1], .int .i64 t336] rfl (by (try simp only [List.map_toArray, List.map_cons, List.map_nil]); first | done | rfl | (simp only [List.length_drop, List.length_take]; rfl)) ?_; (with_reducible refine (laws_szAlgebra.calls k _ _ l1_0 _ _ l1_1 t336 t337 _ ?side1 ?side2 ?side3 ?side4 A11.out).mono ?_); (case side1 => exact kC (Kd.C_below HR1_0.out HB.out)); (case side2 => exact HC1_0.out); (case side3 => exact kC (Kd.C_below HR1_1.out HB.out)); (case side4 => exact HC1_1.out); rintro e w20 ⟨rfl, hb⟩; refine ⟨_, rfl, ?_⟩; obtain ⟨ag21, hag21⟩ := age_at hb; replace BK334 := ak (blk_below (kK BK334.out) hb); replace BK335 := ak (blk_below (kK BK335.out) hb); replace HB := ak (below_step (kB HB.out) hb); (try clear hb); (try clear hb2); (try clear hk); (try clear hi)))
  go_ret
  exact ⟨by first | rfl | (simp [errW_none, errW_some] <;> rfl) | (simp [*, errW_none, errW_some] <;> rfl), by repeat (first | (with_reducible first | exact HB.out | apply below_alloc | apply pw_below_drewN | apply below_drew1 | refine below_set ?_ GE334.out | refine below_set ?_ GE335.out) | exact HB.out)⟩
 rw [if_neg c12] at H
 have c12b0 : decide (t337 < 0) = false := decide_eq_false c12
 clear c12
 replace H := bi H
 obtain ⟨⟨t338, t341⟩, A220, H⟩ := H
 try dsimp only at H
 have A22 := ak A220
 clear A220
 replace H := bi H
 obtain ⟨⟨t344, t347⟩, A230, H⟩ := H
 try dsimp only at H
 have A23 := ak A230
 clear A230
 replace H := bi H
 obtain ⟨⟨t350, t353, t356⟩, A240, H⟩ := H
 try dsimp only at H
 have A24 := ak A240
 clear A240
 replace H := bi H
 obtain ⟨⟨t358, t361⟩, A250, H⟩ := H
 try dsimp only at H
 have A25 := ak A250
 clear A250
 replace H := bi H
 obtain ⟨⟨t365, t368⟩, A260, H⟩ := H
 try dsimp only at H
 have A26 := ak A260
 clear A260
 replace H := bi H
 obtain ⟨⟨t372, t375, t378⟩, A270, H⟩ := H
 try dsimp only at H
 have A27 := ak A270
 clear A270
 replace H := bi H
 obtain ⟨t380, A280, H⟩ := H
 try dsimp only at H
 have A28 := ak A280
 clear A280
 by_cases c29 : t380 = true
 rotate_left
 ·replace c29 := Bool.eq_false_iff.mpr c29
  subst c29
  rw [if_neg (show ¬ (false = true) by decide)] at H
  exact absurd (Option.some.inj H) (by rw [hrt.out]; decide)
 subst c29
 rw [if_pos rfl] at H
 by_cases c30 : (t378 != t356) = true
 ·rw [if_pos c30] at H
  have c30b0 : (t378 != t356) = true := c30
  (try (have c30b1 : decide (t378 = t356) = false := by simpa using c30))
  (try (have c30b2 : (t378 == t356) = false := by simpa using c30))
  (try (have c30b3 : ¬ (t378 = t356) := by simpa using c30))
  clear c30
  exact absurd (Option.some.inj H) (by rw [hrt.out]; decide)
 rw [if_neg c30] at H
 have c30b0 : (t378 != t356) = false := by simpa using c30
 (try (have c30b1 : decide (t378 = t356) = true := by simpa using c30))
 (try (have c30b2 : (t378 == t356) = true := by simpa using c30))
 clear c30
 replace H := bi H
 obtain ⟨⟨t381, t384⟩, A310, H⟩ := H
 try dsimp only at H
 have A31 := ak A310
 clear A310
 replace H := bi H
 obtain ⟨t387, A320, H⟩ := H
 try dsimp only at H
 have A32 := ak A320
 clear A320
 by_cases c33 : t387 = true
 rotate_left
 ·replace c33 := Bool.eq_false_iff.mpr c33
  subst c33
  rw [if_neg (show ¬ (false = true) by decide)] at H
  exact absurd (Option.some.inj H) (by rw [hrt.out]; decide)
 subst c33
 rw [if_pos rfl] at H
 replace H := bi H
 obtain ⟨⟨t388, t391⟩, A340, H⟩ := H
 try dsimp only at H
 have A34 := ak A340
 clear A340
 replace H := bi H
 obtain ⟨t394, A350, H⟩ := H
 try dsimp only at H
 have A35 := ak A350
 clear A350
 by_cases c36 : t394 = true
 rotate_left
 ·replace c36 := Bool.eq_false_iff.mpr c36
  subst c36
  rw [if_neg (show ¬ (false = true) by decide)] at H
  exact absurd (Option.some.inj H) (by rw [hrt.out]; decide)
 subst c36
 rw [if_pos rfl] at H
 replace H := bi H
 obtain ⟨⟨t395, t396, t397⟩, A370, H⟩ := H
 try dsimp only at H
 have A37 := ak A370
 clear A370
 replace H := bi H
 obtain ⟨⟨t398, t399, t400⟩, A380, H⟩ := H
 try dsimp only at H
 have A38 := ak A380
 clear A380
 by_cases c39 : t398 < 0
 ·rw [if_pos c39] at H
  have c39b0 : decide (t398 < 0) = true := decide_eq_true c39
  clear c39
  exact absurd (Option.some.inj H) (by rw [hrt.out]; decide)
 rw [if_neg c39] at H
 have c39b0 : decide (t398 < 0) = false := decide_eq_false c39
 clear c39
 replace H := bi H
 obtain ⟨t401, A400, H⟩ := H
 try dsimp only at H
 have A40 := ak A400
 clear A400
 by_cases c41 : t401 = true
 rotate_left
 ·replace c41 := Bool.eq_false_iff.mpr c41
  subst c41
  rw [if_neg (show ¬ (false = true) by decide)] at H
  exact absurd (Option.some.inj H) (by rw [hrt.out]; decide)
 subst c41
 rw [if_pos rfl] at H
 replace H := bi H
 obtain ⟨⟨t402, t403, t404⟩, A420, H⟩ := H
 try dsimp only at H
 have A42 := ak A420
 clear A420
 replace H := bi H
 obtain ⟨t405, A430, H⟩ := H
 try dsimp only at H
 have A43 := ak A430
 clear A430
 by_cases c44 : t405 < 0
 ·rw [if_pos c44] at H
  have c44b0 : decide (t405 < 0) = true := decide_eq_true c44
  clear c44
  exact absurd (Option.some.inj H) (by rw [hrt.out]; decide)
 rw [if_neg c44] at H
 have c44b0 : decide (t405 < 0) = false := decide_eq_false c44
 clear c44
 by_cases c45 : t405 = t402
 rotate_left
 ·rw [if_neg c45] at H
  have c45b0 : (t405 == t402) = false := beq_eq_false_iff_ne.mpr c45
  have c45b1 : (t405 != t402) = true := bne_iff_ne.mpr c45
  exact absurd (Option.some.inj H) (by rw [hrt.out]; decide)
 rw [if_pos c45] at H
 have c45b0 : (t405 == t402) = true := beq_iff_eq.mpr c45
 have c45b1 : (t405 != t402) = false := bne_eq_false_iff_eq.mpr c45
 clear c45
 replace H := bi H
 obtain ⟨⟨t406, t409⟩, A460, H⟩ := H
 try dsimp only at H
 have A46 := ak A460
 clear A460
 replace H := bi H
 obtain ⟨⟨t412, t415⟩, A470, H⟩ := H
 try dsimp only at H
 have A47 := ak A470
 clear A470
 replace H := bi H
 obtain ⟨⟨t418, t421, t424⟩, A480, H⟩ := H
 try dsimp only at H
 have A48 := ak A480
 clear A480
 replace H := bi H
 obtain ⟨t426, A490, H⟩ := H
 try dsimp only at H
 have A49 := ak A490
 clear A490
 by_cases c50 : t426 = true
 rotate_left
 ·replace c50 := Bool.eq_false_iff.mpr c50
  subst c50
  rw [if_neg (show ¬ (false = true) by decide)] at H
  exact absurd (Option.some.inj H) (by rw [hrt.out]; decide)
 subst c50
 rw [if_pos rfl] at H
 by_cases c51 : (t424 != t356) = true
 ·rw [if_pos c51] at H
  have c51b0 : (t424 != t356) = true := c51
  (try (have c51b1 : decide (t424 = t356) = false := by simpa using c51))
  (try (have c51b2 : (t424 == t356) = false := by simpa using c51))
  (try (have c51b3 : ¬ (t424 = t356) := by simpa using c51))
  clear c51
  exact absurd (Option.some.inj H) (by rw [hrt.out]; decide)
 rw [if_neg c51] at H
 have c51b0 : (t424 != t356) = false := by simpa using c51
 (try (have c51b1 : decide (t424 = t356) = true := by simpa using c51))
 (try (have c51b2 : (t424 == t356) = true := by simpa using c51))
 clear c51
 replace H := bi H
 obtain ⟨t427, A520, H⟩ := H
 try dsimp only at H
 have A52 := ak A520
 clear A520
 by_cases c53 : t427 < 0
 ·rw [if_pos c53] at H
  have c53b0 : decide (t427 < 0) = true := decide_eq_true c53
  clear c53
  exact absurd (Option.some.inj H) (by rw [hrt.out]; decide)
 rw [if_neg c53] at H
 have c53b0 : decide (t427 < 0) = false := decide_eq_false c53
 clear c53
 by_cases c54 : t427 = t402
 rotate_left
 ·rw [if_neg c54] at H
  have c54b0 : (t427 == t402) = false := beq_eq_false_iff_ne.mpr c54
  have c54b1 : (t427 != t402) = true := bne_iff_ne.mpr c54
  exact absurd (Option.some.inj H) (by rw [hrt.out]; decide)
 rw [if_pos c54] at H
 have c54b0 : (t427 == t402) = true := beq_iff_eq.mpr c54
 have c54b1 : (t427 != t402) = false := bne_eq_false_iff_eq.mpr c54
 clear c54
 obtain rfl := Option.some.inj H
 go_enter Try.func5, Try.ntmps5
 try go_wp2_with (first | ((with_reducible refine gate_dst (N := 2) rfl ?_); refine box_event ?hg (N := 2) ?hd (cs := #[.slice A0_0 l0_0.length c0_0, .slice A0_1 l0_1.length c0_1]) (t := 36) ?hr ?_; (case hd => rfl); (case hg => rfl); (case hr => first | (go_simp; done) | (go_simp; rfl)); intro gb334 hg w55 hbox hb; have BK334 := ak (hbox); have GW334 := ak (ge_box hg (kB HB.out)); have GE334 := ak (ge_box hg (kB HB.out)); replace HB := ak (below_step (kB HB.out) hb); clear hb hbox hg) | ((with_reducible refine gate_dst (N := 3) rfl ?_); refine box_event ?hg (N := 3) ?hd (cs := #[.slice A1_0 l1_0.length c1_0, .slice A1_1 l1_1.length c1_1]) (t := 36) ?hr ?_; (case hd => rfl); (case hg => rfl); (case hr => first | (go_simp; done) | (go_simp; rfl)); intro gb335 hg w56 hbox hb; have BK335 := ak (hbox); have GW335 := ak (ge_box hg (kB HB.out)); have GE335 := ak (ge_box hg (kB HB.out)); replace HB := ak (below_step (kB HB.out) hb); have NB334_335 := ak ((ne_box hg (kK BK334.out))); have NB335_334 := ak ((ne_box' hg (kK BK334.out))); replace BK334 := ak (blk_below (kK BK334.out) hb); clear hb hbox hg; have hnb57 := NB334_335.out; have hnc57 := NB335_334.out; have hcz58_0 : w56.cell? ⟨gb334, 0, none⟩ = some (.slice A0_0 l0_0.length c0_0) := (blk_cell BK334.out 0).trans rfl; have hcz58_1 : w56.cell? ⟨gb334, 1, none⟩ = some (.slice A0_1 l0_1.length c0_1) := (blk_cell BK334.out 1).trans rfl; have hfz58_0 := blk_frozen BK334.out 0; have hfz58_1 := blk_frozen BK334.out 1) | ((with_reducible refine gate_callee (f := 23) rfl ?_); refine goesL_ (some 19) rfl rfl Try.func23 (by kernel_rfl) rfl #[.agg #[.slice A0_0 l0_0.length c0_0, .slice A0_1 l0_1.length c0_1], .int .i64 1048576] rfl (by (try simp only [List.map_toArray, List.map_cons, List.map_nil]); first | done | rfl | (simp only [List.length_drop, List.length_take]; rfl)) ?_; (with_reducible refine (laws_szAlgebra.calls k _ _ l0_0 _ _ l0_1 1048576 t336 _ ?side1 ?side2 ?side3 ?side4 A3.out).mono ?_); (case side1 => exact kC (Kd.C_below HR0_0.out HB.out)); (case side2 => exact HC0_0.out); (case side3 => exact kC (Kd.C_below HR0_1.out HB.out)); (case side4 => exact HC0_1.out); rintro e w59 ⟨rfl, hb⟩; refine ⟨_, rfl, ?_⟩; obtain ⟨ag60, hag60⟩ := age_at hb; replace BK334 := ak (blk_below (kK BK334.out) hb); replace BK335 := ak (blk_below (kK BK335.out) hb); replace HB := ak (below_step (kB HB.out) hb); (try clear hb); (try clear hb2); (try clear hk); (try clear hi); have hcz61_0 : w59.cell? ⟨gb335, 0, none⟩ = some (.slice A1_0 l1_0.length c1_0) := (blk_cell BK335.out 0).trans rfl; have hcz61_1 : w59.cell? ⟨gb335, 1, none⟩ = some (.slice A1_1 l1_1.length c1_1) := (blk_cell BK335.out 1).trans rfl; have hfz61_0 := blk_frozen BK335.out 0; have hfz61_1 := blk_frozen BK335.out 1) | ((with_reducible refine gate_callee (f := 23) rfl ?_); refine goesL_ (some 24) rfl rfl Try.func23 (by kernel_rfl) rfl #[.agg #[.slice A1_0 l1_0.length c1_0, .slice A1_1 l1_1.length c1_1], .int .i64 t336] rfl (by (try simp only [List.map_toArray, List.map_cons, List.map_nil]); first | done | rfl | (simp only [List.length_drop, List.length_take]; rfl)) ?_; (with_reducible refine (laws_szAlgebra.calls k _ _ l1_0 _ _ l1_1 t336 t337 _ ?side1 ?side2 ?side3 ?side4 A11.out).mono ?_); (case side1 => exact kC (Kd.C_below HR1_0.out HB.out)); (case side2 => exact HC1_0.out); (case side3 => exact kC (Kd.C_below HR1_1.out HB.out)); (case side4 => exact HC1_1.out); rintro e w62 ⟨rfl, hb⟩; refine ⟨_, rfl, ?_⟩; obtain ⟨ag63, hag63⟩ := age_at hb; replace BK334 := ak (blk_below (kK BK334.out) hb); replace BK335 := ak (blk_below (kK BK335.out) hb); replace HB := ak (below_step (kB HB.out) hb); (try clear hb); (try clear hb2); (try clear hk); (try clear hi)))
 replace BK334 := ak (blk_drew BK334.out)
 replace BK335 := ak (blk_drew BK335.out)
 replace HB := ak (below_drew1 HB.out)
 refine start_ (n := 11) (S := fun w' => w'.cell? ⟨gb334, 0, none⟩ = some (.slice A0_0 l0_0.length c0_0) ∧ w'.cell? ⟨gb334, 1, none⟩ = some (.slice A0_1 l0_1.length c0_1) ∧ w'.cell? ⟨gb335, 0, none⟩ = some (.slice A1_0 l1_0.length c1_0) ∧ w'.cell? ⟨gb335, 1, none⟩ = some (.slice A1_1 l1_1.length c1_1)) (ds := []) #[false, false, false, false, false, false, false, false, false, false, false] (by kernel_rfl) rfl rfl ⟨(blk_cell BK334.out 0).trans rfl, (blk_cell BK334.out 1).trans rfl, (blk_cell BK335.out 0).trans rfl, (blk_cell BK335.out 1).trans rfl⟩ (fun hHeld => ?_); refine with_tabW laws_FnExactCrossAlgebras.tab8 laws_FnExactCrossAlgebras.bits8 (fun HT_ HW_ => ?_)
 generalize w62.drew = w64 at BK334 BK335 HB hHeld ⊢
 refine take_ (i := 0) (N := some 28) (v := ?_) (a' := ?_) #[true, false, false, false, false, false, false, false, false, false, false] rfl rfl (take_ofW HT_.out HW_.out (by kernel_rfl)) (fun _ _ _ h => h) (Or.inl ⟨by rfl, ?_⟩) hHeld ?_ ?_
 rotate_left
 ·rintro w' ⟨s0, s1, s2, s3⟩
  go_simp
  with_reducible rfl
 rotate_left
 ·simp only [Act.put, List.setIfInBounds_toArray, List.set_cons_zero, List.set_cons_succ, i64_w, i32_w]
  rfl
 refine take_ (i := 2) (N := some 30) (v := ?_) (a' := ?_) #[true, false, true, false, false, false, false, false, false, false, false] rfl rfl (take_ofW HT_.out HW_.out (by kernel_rfl)) (fun _ _ _ h => h) (Or.inl ⟨by rfl, ?_⟩) hHeld ?_ ?_
 rotate_left
 ·rintro w' ⟨s0, s1, s2, s3⟩
  go_simp
  with_reducible rfl
 rotate_left
 ·simp only [Act.put, List.setIfInBounds_toArray, List.set_cons_zero, List.set_cons_succ, i64_w, i32_w]
  rfl
 refine join_ (σ := Value × Value × Value × Value × Value × Value × Nat) 2 #[true, true, true, true, true, true, true, true, true, false, false] (fun s_ => [(29, .agg #[s_.1, s_.2.1]), (31, .agg #[s_.2.2.1, s_.2.2.2.1]), (32, .tuple #[.agg #[s_.2.2.2.2.1, s_.2.2.2.2.2.1], .bool t356]), (6, .pointer (some ⟨s_.2.2.2.2.2.2, 0, none⟩)), (27, .tuple #[.agg #[s_.2.2.2.2.1, s_.2.2.2.2.2.1], .bool t356]), (33, .agg #[s_.2.2.2.2.1, s_.2.2.2.2.2.1]), (34, .bool t356)]) (fun s_ w' => (w'.cell? ⟨gb334, 0, none⟩ = some (.slice A0_0 l0_0.length c0_0) ∧ w'.cell? ⟨gb334, 1, none⟩ = some (.slice A0_1 l0_1.length c0_1) ∧ w'.cell? ⟨gb335, 0, none⟩ = some (.slice A1_0 l1_0.length c1_0) ∧ w'.cell? ⟨gb335, 1, none⟩ = some (.slice A1_1 l1_1.length c1_1)) ∧ (Kd.R (Kd.int .i64) 3 w' w.heap.size (fun _ => True) s_.1 t338) ∧ (Kd.S (Kd.slice 3 (Kd.int .i64)) 22 w' w.heap.size (fun k_ => some k_ ≠ (s_.1 : Value).ownBlock) s_.2.1 t341) ∧ (Kd.R (Kd.int .i64) 3 w' w.heap.size (fun _ => True) s_.2.2.1 t344) ∧ (Kd.S (Kd.slice 3 (Kd.int .i64)) 22 w' w.heap.size (fun k_ => some k_ ≠ (s_.2.2.1 : Value).ownBlock) s_.2.2.2.1 t347) ∧ (Kd.R (Kd.int .i64) 3 w' w.heap.size (fun _ => True) s_.2.2.2.2.1 t350) ∧ (Kd.S (Kd.slice 3 (Kd.int .i64)) 22 w' w.heap.size (fun k_ => some k_ ≠ (s_.2.2.2.2.1 : Value).ownBlock) s_.2.2.2.2.2.1 t353) ∧ (w'.heap[gb334]? = some (.cells #[.slice A0_0 l0_0.length c0_0, .slice A0_1 l0_1.length c0_1] 36 (0, 0))) ∧ (w'.heap[gb335]? = some (.cells #[.slice A1_0 l1_0.length c1_0, .slice A1_1 l1_1.length c1_1] 36 (0, 0))) ∧ (w'.heap[s_.2.2.2.2.2.2]? = some (.cells #[.slice none 0 0, .slice none 0 0] 25 (0, 0))) ∧ (w.heap.size ≤ s_.2.2.2.2.2.2) ∧ (w.heap.size ≤ s_.2.2.2.2.2.2) ∧ (gb334 ≠ s_.2.2.2.2.2.2) ∧ (s_.2.2.2.2.2.2 ≠ gb334) ∧ (gb335 ≠ s_.2.2.2.2.2.2) ∧ (s_.2.2.2.2.2.2 ≠ gb335) ∧ (Below w.heap.size w w')) ?_ ?_
 rotate_left
 ·intro hCont
  refine two_ (i := 1) (j := 8) (Ni := some 29) (Nj := some 6) #[true, true, true, false, false, false, false, false, false, false, false] #[true, false, true, false, false, false, false, false, true, false, false] rfl rfl rfl rfl (two_of HT_.out (by kernel_rfl)) (by decide) (by decide) (fun K hK => ?_) (fun K hK => ?_)
  ·skip
   refine goes_ Try.func25 (by kernel_rfl) rfl #[.agg #[.slice A0_0 l0_0.length c0_0, .slice A0_1 l0_1.length c0_1]] (by rfl) rfl rfl (by (try simp only [List.map_toArray, List.map_cons, List.map_nil]); first | done | rfl | (simp only [List.length_drop, List.length_take]; rfl)) ?_
   with_reducible refine (laws_toAlgebra.calls k _ _ l0_0 _ _ l0_1 t338 t341 _ ?side1 ?side2 ?side3 ?side4 A22.out).mono ?_
   (case side1 => exact kC (Kd.C_below HR0_0.out HB.out))
   (case side2 => exact HC0_0.out)
   (case side3 => exact kC (Kd.C_below HR0_1.out HB.out))
   (case side4 => exact HC0_1.out)
   rintro e w65 ⟨v339, v342, rfl, ho0, ho1, hb⟩
   refine ⟨_, rfl, ?_⟩
   obtain ⟨ag66, hag66⟩ := age_at hb
   have HO340 := ak (Kd.R_lower (age_newR ho0 hag66.out) (below_size (kB HB.out)))
   have HO343 := ak (Kd.S_lower (age_newS ho1 hag66.out) (below_size (kB HB.out)))
   replace BK334 := ak (blk_below (kK BK334.out) hb)
   replace BK335 := ak (blk_below (kK BK335.out) hb)
   replace HB := ak (below_step (kB HB.out) hb)
   (try clear hb)
   (try clear hb2)
   (try clear hk)
   (try clear hi)
   (try clear ho0)
   (try clear ho1)
   refine hK.out _ _ ⟨(blk_cell BK334.out 0).trans rfl, (blk_cell BK334.out 1).trans rfl, (blk_cell BK335.out 0).trans rfl, (blk_cell BK335.out 1).trans rfl⟩ (fun hHeld => ?_)
   clear hK K
   refine norm_ (a' := ?_) ?_ ?_
   rotate_left
   ·show Act.put _ (some 29) _ = _
    simp only [Act.put, List.setIfInBounds_toArray, List.set_cons_zero, List.set_cons_succ, i64_w, i32_w]
    rfl
   refine two_ (i := 3) (j := 8) (Ni := some 31) (Nj := some 6) #[true, true, true, true, false, false, false, false, false, false, false] #[true, true, true, false, false, false, false, false, true, false, false] rfl rfl rfl rfl (two_of HT_.out (by kernel_rfl)) (by decide) (by decide) (fun K hK => ?_) (fun K hK => ?_)
   ·skip
    refine goes_ Try.func25 (by kernel_rfl) rfl #[.agg #[.slice A1_0 l1_0.length c1_0, .slice A1_1 l1_1.length c1_1]] (by rfl) rfl rfl (by (try simp only [List.map_toArray, List.map_cons, List.map_nil]); first | done | rfl | (simp only [List.length_drop, List.length_take]; rfl)) ?_
    with_reducible refine (laws_toAlgebra.calls k _ _ l1_0 _ _ l1_1 t344 t347 _ ?side1 ?side2 ?side3 ?side4 A23.out).mono ?_
    (case side1 => exact kC (Kd.C_below HR1_0.out HB.out))
    (case side2 => exact HC1_0.out)
    (case side3 => exact kC (Kd.C_below HR1_1.out HB.out))
    (case side4 => exact HC1_1.out)
    rintro e w67 ⟨v345, v348, rfl, ho0, ho1, hb⟩
    refine ⟨_, rfl, ?_⟩
    obtain ⟨ag68, hag68⟩ := age_at hb
    replace HO340 := ak (age_oldR (kR HO340.out) hb hag68.out)
    replace HO343 := ak (age_oldS (kS HO343.out) hb hag68.out)
    have HO346 := ak (Kd.R_lower (age_newR ho0 hag68.out) (below_size (kB HB.out)))
    have HO349 := ak (Kd.S_lower (age_newS ho1 hag68.out) (below_size (kB HB.out)))
    replace BK334 := ak (blk_below (kK BK334.out) hb)
    replace BK335 := ak (blk_below (kK BK335.out) hb)
    replace HB := ak (below_step (kB HB.out) hb)
    (try clear hb)
    (try clear hb2)
    (try clear hk)
    (try clear hi)
    (try clear ho0)
    (try clear ho1)
    obtain ⟨Ao69, co69, eo69⟩ := Kd.R_slice HO340.out
    (first | subst eo69 | (injection eo69 with f1_ f2_ f3_; have f4_ := f1_.symm; have f5_ := f3_.symm; clear f1_ f2_ f3_; subst f4_; subst f5_))
    obtain ⟨Ao70, co70, eo70⟩ := Kd.S_slice HO343.out
    (first | subst eo70 | (injection eo70 with f1_ f2_ f3_; have f4_ := f1_.symm; have f5_ := f3_.symm; clear f1_ f2_ f3_; subst f4_; subst f5_))
    obtain ⟨Ao71, co71, eo71⟩ := Kd.R_slice HO346.out
    (first | subst eo71 | (injection eo71 with f1_ f2_ f3_; have f4_ := f1_.symm; have f5_ := f3_.symm; clear f1_ f2_ f3_; subst f4_; subst f5_))
    obtain ⟨Ao72, co72, eo72⟩ := Kd.S_slice HO349.out
    (first | subst eo72 | (injection eo72 with f1_ f2_ f3_; have f4_ := f1_.symm; have f5_ := f3_.symm; clear f1_ f2_ f3_; subst f4_; subst f5_))
    refine hK.out _ _ ⟨(blk_cell BK334.out 0).trans rfl, (blk_cell BK334.out 1).trans rfl, (blk_cell BK335.out 0).trans rfl, (blk_cell BK335.out 1).trans rfl⟩ (fun hHeld => ?_)
    clear hK K
    refine norm_ (a' := ?_) ?_ ?_
    rotate_left
    ·show Act.put _ (some 31) _ = _
     simp only [Act.put, List.setIfInBounds_toArray, List.set_cons_zero, List.set_cons_succ, i64_w, i32_w]
     rfl
    refine two_ (i := 4) (j := 8) (Ni := some 32) (Nj := some 6) #[true, true, true, true, true, false, false, false, false, false, false] #[true, true, true, true, false, false, false, false, true, false, false] rfl rfl rfl rfl (two_of HT_.out (by kernel_rfl)) (by decide) (by decide) (fun K hK => ?_) (fun K hK => ?_)
    ·skip
     refine goes_ Try.func24 (by kernel_rfl) rfl #[.agg #[.slice Ao69 t338.length co69, .slice Ao70 t341.length co70], .agg #[.slice Ao71 t344.length co71, .slice Ao72 t347.length co72]] (by rfl) rfl rfl (by (try simp only [List.map_toArray, List.map_cons, List.map_nil]); first | done | rfl | (simp only [List.length_drop, List.length_take]; rfl)) ?_
     with_reducible refine (spec_CrossAlgebras.calls k _ _ t338 _ _ t341 _ _ t344 _ _ t347 t350 t353 t356 _ ?side1 ?side2 ?side3 ?side4 ?side5 ?side6 ?side7 ?side8 A24.out).mono ?_
     (case side1 => exact kC (Kd.R_reads' HO340.out).2.2)
     (case side2 => exact (Kd.R_reads' HO340.out).2.1)
     (case side3 => exact kC (Kd.S_reads' HO343.out).2.2)
     (case side4 => exact (Kd.S_reads' HO343.out).2.1)
     (case side5 => exact kC (Kd.R_reads' HO346.out).2.2)
     (case side6 => exact (Kd.R_reads' HO346.out).2.1)
     (case side7 => exact kC (Kd.S_reads' HO349.out).2.2)
     (case side8 => exact (Kd.S_reads' HO349.out).2.1)
     rintro e w73 ⟨v351, v354, rfl, ho0, ho1, hb⟩
     refine ⟨_, rfl, ?_⟩
     obtain ⟨ag74, hag74⟩ := age_at hb
     replace HO340 := ak (age_oldR (kR HO340.out) hb hag74.out)
     replace HO343 := ak (age_oldS (kS HO343.out) hb hag74.out)
     replace HO346 := ak (age_oldR (kR HO346.out) hb hag74.out)
     replace HO349 := ak (age_oldS (kS HO349.out) hb hag74.out)
     have HO352 := ak (Kd.R_lower (age_newR ho0 hag74.out) (below_size (kB HB.out)))
     have HO355 := ak (Kd.S_lower (age_newS ho1 hag74.out) (below_size (kB HB.out)))
     replace BK334 := ak (blk_below (kK BK334.out) hb)
     replace BK335 := ak (blk_below (kK BK335.out) hb)
     replace HB := ak (below_step (kB HB.out) hb)
     (try clear hb)
     (try clear hb2)
     (try clear hk)
     (try clear hi)
     (try clear ho0)
     (try clear ho1)
     refine hK.out _ _ ⟨(blk_cell BK334.out 0).trans rfl, (blk_cell BK334.out 1).trans rfl, (blk_cell BK335.out 0).trans rfl, (blk_cell BK335.out 1).trans rfl⟩ (fun hHeld => ?_)
     clear hK K
     refine norm_ (a' := ?_) ?_ ?_
     rotate_left
     ·show Act.put _ (some 32) _ = _
      simp only [Act.put, List.setIfInBounds_toArray, List.set_cons_zero, List.set_cons_succ, i64_w, i32_w]
      rfl
     refine pure_ (i := 5) (N := some 27) (v := ?_) (a' := ?_) #[true, true, true, true, true, true, false, false, false, false, false] rfl rfl (any_of HT_.out (by kernel_rfl)) (fun _ _ _ h => h) (Or.inl ⟨by rfl, ?_⟩) ?_ ?_
     rotate_left
     ·intro w'
      go_simp
      with_reducible rfl
     rotate_left
     ·simp only [Act.put, List.setIfInBounds_toArray, List.set_cons_zero, List.set_cons_succ, i64_w, i32_w]
      rfl
     refine pure_ (i := 6) (N := some 33) (v := ?_) (a' := ?_) #[true, true, true, true, true, true, true, false, false, false, false] rfl rfl (any_of HT_.out (by kernel_rfl)) (fun _ _ _ h => h) (Or.inl ⟨by rfl, ?_⟩) ?_ ?_
     rotate_left
     ·intro w'
      go_simp
      with_reducible rfl
     rotate_left
     ·simp only [Act.put, List.setIfInBounds_toArray, List.set_cons_zero, List.set_cons_succ, i64_w, i32_w]
      rfl
     refine pure_ (i := 7) (N := some 34) (v := ?_) (a' := ?_) #[true, true, true, true, true, true, true, true, false, false, false] rfl rfl (any_of HT_.out (by kernel_rfl)) (fun _ _ _ h => h) (Or.inl ⟨by rfl, ?_⟩) ?_ ?_
     rotate_left
     ·intro w'
      go_simp
      with_reducible rfl
     rotate_left
     ·simp only [Act.put, List.setIfInBounds_toArray, List.set_cons_zero, List.set_cons_succ, i64_w, i32_w]
      rfl
     refine one_ (i := 8) (N := some 6) #[true, true, true, true, true, true, true, true, true, false, false] rfl rfl (one_of HT_.out (by kernel_rfl)) (by decide) (fun K hK => ?_)
     refine box_step ?hg (N := 6) ?hd (cs := #[.slice none 0 0, .slice none 0 0]) (t := 25) ?hr ?_; (case hd => rfl); (case hg => rfl); (case hr => first | (go_simp; done) | (go_simp; rfl))
     intro gb357 hg w75 hbox hb
     replace HO340 := ak (Kd.R_below (kR HO340.out) hb)
     replace HO343 := ak (Kd.S_below (kS HO343.out) hb)
     replace HO346 := ak (Kd.R_below (kR HO346.out) hb)
     replace HO349 := ak (Kd.S_below (kS HO349.out) hb)
     replace HO352 := ak (Kd.R_below (kR HO352.out) hb)
     replace HO355 := ak (Kd.S_below (kS HO355.out) hb)
     have BK357 := ak (hbox)
     have GW357 := ak (ge_box hg (kB HB.out))
     have GE357 := ak (ge_box hg (kB HB.out))
     replace HB := ak (below_step (kB HB.out) hb)
     have NB334_357 := ak ((ne_box hg (kK BK334.out)))
     have NB357_334 := ak ((ne_box' hg (kK BK334.out)))
     replace BK334 := ak (blk_below (kK BK334.out) hb)
     have NB335_357 := ak ((ne_box hg (kK BK335.out)))
     have NB357_335 := ak ((ne_box' hg (kK BK335.out)))
     replace BK335 := ak (blk_below (kK BK335.out) hb)
     clear hb hbox hg
     refine hK.out _ _ ⟨(blk_cell BK334.out 0).trans rfl, (blk_cell BK334.out 1).trans rfl, (blk_cell BK335.out 0).trans rfl, (blk_cell BK335.out 1).trans rfl⟩ (fun hHeld => ?_)
     clear hK K
     refine norm_ (a' := ?_) ?_ ?_
     rotate_left
     ·show Act.put _ (some 6) _ = _
      simp only [Act.put, List.setIfInBounds_toArray, List.set_cons_zero, List.set_cons_succ, i64_w, i32_w]
      rfl
     exact norm_ (by simp only [putAll, Act.put, List.setIfInBounds_toArray, List.set_cons_zero, List.set_cons_succ]) (hCont (.slice Ao69 t338.length co69, .slice Ao70 t341.length co70, .slice Ao71 t344.length co71, .slice Ao72 t347.length co72, v351, v354, gb357) _ ⟨hHeld, (kR (Kd.R_mono HO340.out (fun _ hk => trivial))), (kS (Kd.S_mono HO343.out (fun _ hk => hk.1.1.1))), (kR (Kd.R_mono HO346.out (fun _ hk => trivial))), (kS (Kd.S_mono HO349.out (fun _ hk => hk.1.1))), (kR (Kd.R_mono HO352.out (fun _ hk => trivial))), (kS (Kd.S_mono HO355.out (fun _ hk => hk.1))), (kK BK334.out), (kK BK335.out), (kK BK357.out), GW357.out, GE357.out, NB334_357.out, NB357_334.out, NB335_357.out, NB357_335.out, (bB HB.out)⟩)
    ·skip
     refine box_step ?hg (N := 6) ?hd (cs := #[.slice none 0 0, .slice none 0 0]) (t := 25) ?hr ?_; (case hd => rfl); (case hg => rfl); (case hr => first | (go_simp; done) | (go_simp; rfl))
     intro gb357 hg w69 hbox hb
     replace HO340 := ak (Kd.R_below (kR HO340.out) hb)
     replace HO343 := ak (Kd.S_below (kS HO343.out) hb)
     replace HO346 := ak (Kd.R_below (kR HO346.out) hb)
     replace HO349 := ak (Kd.S_below (kS HO349.out) hb)
     have BK357 := ak (hbox)
     have GW357 := ak (ge_box hg (kB HB.out))
     have GE357 := ak (ge_box hg (kB HB.out))
     replace HB := ak (below_step (kB HB.out) hb)
     have NB334_357 := ak ((ne_box hg (kK BK334.out)))
     have NB357_334 := ak ((ne_box' hg (kK BK334.out)))
     replace BK334 := ak (blk_below (kK BK334.out) hb)
     have NB335_357 := ak ((ne_box hg (kK BK335.out)))
     have NB357_335 := ak ((ne_box' hg (kK BK335.out)))
     replace BK335 := ak (blk_below (kK BK335.out) hb)
     clear hb hbox hg
     obtain ⟨Ao70, co70, eo70⟩ := Kd.R_slice HO340.out
     (first | subst eo70 | (injection eo70 with f1_ f2_ f3_; have f4_ := f1_.symm; have f5_ := f3_.symm; clear f1_ f2_ f3_; subst f4_; subst f5_))
     obtain ⟨Ao71, co71, eo71⟩ := Kd.S_slice HO343.out
     (first | subst eo71 | (injection eo71 with f1_ f2_ f3_; have f4_ := f1_.symm; have f5_ := f3_.symm; clear f1_ f2_ f3_; subst f4_; subst f5_))
     obtain ⟨Ao72, co72, eo72⟩ := Kd.R_slice HO346.out
     (first | subst eo72 | (injection eo72 with f1_ f2_ f3_; have f4_ := f1_.symm; have f5_ := f3_.symm; clear f1_ f2_ f3_; subst f4_; subst f5_))
     obtain ⟨Ao73, co73, eo73⟩ := Kd.S_slice HO349.out
     (first | subst eo73 | (injection eo73 with f1_ f2_ f3_; have f4_ := f1_.symm; have f5_ := f3_.symm; clear f1_ f2_ f3_; subst f4_; subst f5_))
     refine hK.out _ _ ⟨(blk_cell BK334.out 0).trans rfl, (blk_cell BK334.out 1).trans rfl, (blk_cell BK335.out 0).trans rfl, (blk_cell BK335.out 1).trans rfl⟩ (fun hHeld => ?_)
     clear hK K
     refine norm_ (a' := ?_) ?_ ?_
     rotate_left
     ·show Act.put _ (some 6) _ = _
      simp only [Act.put, List.setIfInBounds_toArray, List.set_cons_zero, List.set_cons_succ, i64_w, i32_w]
      rfl
     refine one_ (i := 4) (N := some 32) #[true, true, true, true, true, false, false, false, true, false, false] rfl rfl (one_of HT_.out (by kernel_rfl)) (by decide) (fun K hK => ?_)
     refine goes_ Try.func24 (by kernel_rfl) rfl #[.agg #[.slice Ao70 t338.length co70, .slice Ao71 t341.length co71], .agg #[.slice Ao72 t344.length co72, .slice Ao73 t347.length co73]] (by rfl) rfl rfl (by (try simp only [List.map_toArray, List.map_cons, List.map_nil]); first | done | rfl | (simp only [List.length_drop, List.length_take]; rfl)) ?_
     with_reducible refine (spec_CrossAlgebras.calls k _ _ t338 _ _ t341 _ _ t344 _ _ t347 t350 t353 t356 _ ?side1 ?side2 ?side3 ?side4 ?side5 ?side6 ?side7 ?side8 A24.out).mono ?_
     (case side1 => exact kC (Kd.R_reads' HO340.out).2.2)
     (case side2 => exact (Kd.R_reads' HO340.out).2.1)
     (case side3 => exact kC (Kd.S_reads' HO343.out).2.2)
     (case side4 => exact (Kd.S_reads' HO343.out).2.1)
     (case side5 => exact kC (Kd.R_reads' HO346.out).2.2)
     (case side6 => exact (Kd.R_reads' HO346.out).2.1)
     (case side7 => exact kC (Kd.S_reads' HO349.out).2.2)
     (case side8 => exact (Kd.S_reads' HO349.out).2.1)
     rintro e w74 ⟨v351, v354, rfl, ho0, ho1, hb⟩
     refine ⟨_, rfl, ?_⟩
     obtain ⟨ag75, hag75⟩ := age_at hb
     replace HO340 := ak (age_oldR (kR HO340.out) hb hag75.out)
     replace HO343 := ak (age_oldS (kS HO343.out) hb hag75.out)
     replace HO346 := ak (age_oldR (kR HO346.out) hb hag75.out)
     replace HO349 := ak (age_oldS (kS HO349.out) hb hag75.out)
     have HO352 := ak (Kd.R_lower (age_newR ho0 hag75.out) (below_size (kB HB.out)))
     have HO355 := ak (Kd.S_lower (age_newS ho1 hag75.out) (below_size (kB HB.out)))
     replace BK334 := ak (blk_below (kK BK334.out) hb)
     replace BK335 := ak (blk_below (kK BK335.out) hb)
     replace BK357 := ak (blk_below (kK BK357.out) hb)
     replace HB := ak (below_step (kB HB.out) hb)
     (try clear hb)
     (try clear hb2)
     (try clear hk)
     (try clear hi)
     (try clear ho0)
     (try clear ho1)
     refine hK.out _ _ ⟨(blk_cell BK334.out 0).trans rfl, (blk_cell BK334.out 1).trans rfl, (blk_cell BK335.out 0).trans rfl, (blk_cell BK335.out 1).trans rfl⟩ (fun hHeld => ?_)
     clear hK K
     refine norm_ (a' := ?_) ?_ ?_
     rotate_left
     ·show Act.put _ (some 32) _ = _
      simp only [Act.put, List.setIfInBounds_toArray, List.set_cons_zero, List.set_cons_succ, i64_w, i32_w]
      rfl
     refine pure_ (i := 5) (N := some 27) (v := ?_) (a' := ?_) #[true, true, true, true, true, true, false, false, true, false, false] rfl rfl (any_of HT_.out (by kernel_rfl)) (fun _ _ _ h => h) (Or.inl ⟨by rfl, ?_⟩) ?_ ?_
     rotate_left
     ·intro w'
      go_simp
      with_reducible rfl
     rotate_left
     ·simp only [Act.put, List.setIfInBounds_toArray, List.set_cons_zero, List.set_cons_succ, i64_w, i32_w]
      rfl
     refine pure_ (i := 6) (N := some 33) (v := ?_) (a' := ?_) #[true, true, true, true, true, true, true, false, true, false, false] rfl rfl (any_of HT_.out (by kernel_rfl)) (fun _ _ _ h => h) (Or.inl ⟨by rfl, ?_⟩) ?_ ?_
     rotate_left
     ·intro w'
      go_simp
      with_reducible rfl
     rotate_left
     ·simp only [Act.put, List.setIfInBounds_toArray, List.set_cons_zero, List.set_cons_succ, i64_w, i32_w]
      rfl
     refine pure_ (i := 7) (N := some 34) (v := ?_) (a' := ?_) #[true, true, true, true, true, true, true, true, true, false, false] rfl rfl (any_of HT_.out (by kernel_rfl)) (fun _ _ _ h => h) (Or.inl ⟨by rfl, ?_⟩) ?_ ?_
     rotate_left
     ·intro w'
      go_simp
      with_reducible rfl
     rotate_left
     ·simp only [Act.put, List.setIfInBounds_toArray, List.set_cons_zero, List.set_cons_succ, i64_w, i32_w]
      rfl
     exact norm_ (by simp only [putAll, Act.put, List.setIfInBounds_toArray, List.set_cons_zero, List.set_cons_succ]) (hCont (.slice Ao70 t338.length co70, .slice Ao71 t341.length co71, .slice Ao72 t344.length co72, .slice Ao73 t347.length co73, v351, v354, gb357) _ ⟨hHeld, (kR (Kd.R_mono HO340.out (fun _ hk => trivial))), (kS (Kd.S_mono HO343.out (fun _ hk => hk.1.1.1))), (kR (Kd.R_mono HO346.out (fun _ hk => trivial))), (kS (Kd.S_mono HO349.out (fun _ hk => hk.1.1))), (kR (Kd.R_mono HO352.out (fun _ hk => trivial))), (kS (Kd.S_mono HO355.out (fun _ hk => hk.1))), (kK BK334.out), (kK BK335.out), (kK BK357.out), GW357.out, GE357.out, NB334_357.out, NB357_334.out, NB335_357.out, NB357_335.out, (bB HB.out)⟩)
   ·skip
    refine box_step ?hg (N := 6) ?hd (cs := #[.slice none 0 0, .slice none 0 0]) (t := 25) ?hr ?_; (case hd => rfl); (case hg => rfl); (case hr => first | (go_simp; done) | (go_simp; rfl))
    intro gb357 hg w67 hbox hb
    replace HO340 := ak (Kd.R_below (kR HO340.out) hb)
    replace HO343 := ak (Kd.S_below (kS HO343.out) hb)
    have BK357 := ak (hbox)
    have GW357 := ak (ge_box hg (kB HB.out))
    have GE357 := ak (ge_box hg (kB HB.out))
    replace HB := ak (below_step (kB HB.out) hb)
    have NB334_357 := ak ((ne_box hg (kK BK334.out)))
    have NB357_334 := ak ((ne_box' hg (kK BK334.out)))
    replace BK334 := ak (blk_below (kK BK334.out) hb)
    have NB335_357 := ak ((ne_box hg (kK BK335.out)))
    have NB357_335 := ak ((ne_box' hg (kK BK335.out)))
    replace BK335 := ak (blk_below (kK BK335.out) hb)
    clear hb hbox hg
    refine hK.out _ _ ⟨(blk_cell BK334.out 0).trans rfl, (blk_cell BK334.out 1).trans rfl, (blk_cell BK335.out 0).trans rfl, (blk_cell BK335.out 1).trans rfl⟩ (fun hHeld => ?_)
    clear hK K
    refine norm_ (a' := ?_) ?_ ?_
    rotate_left
    ·show Act.put _ (some 6) _ = _
     simp only [Act.put, List.setIfInBounds_toArray, List.set_cons_zero, List.set_cons_succ, i64_w, i32_w]
     rfl
    refine one_ (i := 3) (N := some 31) #[true, true, true, true, false, false, false, false, true, false, false] rfl rfl (one_of HT_.out (by kernel_rfl)) (by decide) (fun K hK => ?_)
    refine goes_ Try.func25 (by kernel_rfl) rfl #[.agg #[.slice A1_0 l1_0.length c1_0, .slice A1_1 l1_1.length c1_1]] (by rfl) rfl rfl (by (try simp only [List.map_toArray, List.map_cons, List.map_nil]); first | done | rfl | (simp only [List.length_drop, List.length_take]; rfl)) ?_
    with_reducible refine (laws_toAlgebra.calls k _ _ l1_0 _ _ l1_1 t344 t347 _ ?side1 ?side2 ?side3 ?side4 A23.out).mono ?_
    (case side1 => exact kC (Kd.C_below HR1_0.out HB.out))
    (case side2 => exact HC1_0.out)
    (case side3 => exact kC (Kd.C_below HR1_1.out HB.out))
    (case side4 => exact HC1_1.out)
    rintro e w68 ⟨v345, v348, rfl, ho0, ho1, hb⟩
    refine ⟨_, rfl, ?_⟩
    obtain ⟨ag69, hag69⟩ := age_at hb
    replace HO340 := ak (age_oldR (kR HO340.out) hb hag69.out)
    replace HO343 := ak (age_oldS (kS HO343.out) hb hag69.out)
    have HO346 := ak (Kd.R_lower (age_newR ho0 hag69.out) (below_size (kB HB.out)))
    have HO349 := ak (Kd.S_lower (age_newS ho1 hag69.out) (below_size (kB HB.out)))
    replace BK334 := ak (blk_below (kK BK334.out) hb)
    replace BK335 := ak (blk_below (kK BK335.out) hb)
    replace BK357 := ak (blk_below (kK BK357.out) hb)
    replace HB := ak (below_step (kB HB.out) hb)
    (try clear hb)
    (try clear hb2)
    (try clear hk)
    (try clear hi)
    (try clear ho0)
    (try clear ho1)
    obtain ⟨Ao70, co70, eo70⟩ := Kd.R_slice HO340.out
    (first | subst eo70 | (injection eo70 with f1_ f2_ f3_; have f4_ := f1_.symm; have f5_ := f3_.symm; clear f1_ f2_ f3_; subst f4_; subst f5_))
    obtain ⟨Ao71, co71, eo71⟩ := Kd.S_slice HO343.out
    (first | subst eo71 | (injection eo71 with f1_ f2_ f3_; have f4_ := f1_.symm; have f5_ := f3_.symm; clear f1_ f2_ f3_; subst f4_; subst f5_))
    obtain ⟨Ao72, co72, eo72⟩ := Kd.R_slice HO346.out
    (first | subst eo72 | (injection eo72 with f1_ f2_ f3_; have f4_ := f1_.symm; have f5_ := f3_.symm; clear f1_ f2_ f3_; subst f4_; subst f5_))
    obtain ⟨Ao73, co73, eo73⟩ := Kd.S_slice HO349.out
    (first | subst eo73 | (injection eo73 with f1_ f2_ f3_; have f4_ := f1_.symm; have f5_ := f3_.symm; clear f1_ f2_ f3_; subst f4_; subst f5_))
    refine hK.out _ _ ⟨(blk_cell BK334.out 0).trans rfl, (blk_cell BK334.out 1).trans rfl, (blk_cell BK335.out 0).trans rfl, (blk_cell BK335.out 1).trans rfl⟩ (fun hHeld => ?_)
    clear hK K
    refine norm_ (a' := ?_) ?_ ?_
    rotate_left
    ·show Act.put _ (some 31) _ = _
     simp only [Act.put, List.setIfInBounds_toArray, List.set_cons_zero, List.set_cons_succ, i64_w, i32_w]
     rfl
    refine one_ (i := 4) (N := some 32) #[true, true, true, true, true, false, false, false, true, false, false] rfl rfl (one_of HT_.out (by kernel_rfl)) (by decide) (fun K hK => ?_)
    refine goes_ Try.func24 (by kernel_rfl) rfl #[.agg #[.slice Ao70 t338.length co70, .slice Ao71 t341.length co71], .agg #[.slice Ao72 t344.length co72, .slice Ao73 t347.length co73]] (by rfl) rfl rfl (by (try simp only [List.map_toArray, List.map_cons, List.map_nil]); first | done | rfl | (simp only [List.length_drop, List.length_take]; rfl)) ?_
    with_reducible refine (spec_CrossAlgebras.calls k _ _ t338 _ _ t341 _ _ t344 _ _ t347 t350 t353 t356 _ ?side1 ?side2 ?side3 ?side4 ?side5 ?side6 ?side7 ?side8 A24.out).mono ?_
    (case side1 => exact kC (Kd.R_reads' HO340.out).2.2)
    (case side2 => exact (Kd.R_reads' HO340.out).2.1)
    (case side3 => exact kC (Kd.S_reads' HO343.out).2.2)
    (case side4 => exact (Kd.S_reads' HO343.out).2.1)
    (case side5 => exact kC (Kd.R_reads' HO346.out).2.2)
    (case side6 => exact (Kd.R_reads' HO346.out).2.1)
    (case side7 => exact kC (Kd.S_reads' HO349.out).2.2)
    (case side8 => exact (Kd.S_reads' HO349.out).2.1)
    rintro e w74 ⟨v351, v354, rfl, ho0, ho1, hb⟩
    refine ⟨_, rfl, ?_⟩
    obtain ⟨ag75, hag75⟩ := age_at hb
    replace HO340 := ak (age_oldR (kR HO340.out) hb hag75.out)
    replace HO343 := ak (age_oldS (kS HO343.out) hb hag75.out)
    replace HO346 := ak (age_oldR (kR HO346.out) hb hag75.out)
    replace HO349 := ak (age_oldS (kS HO349.out) hb hag75.out)
    have HO352 := ak (Kd.R_lower (age_newR ho0 hag75.out) (below_size (kB HB.out)))
    have HO355 := ak (Kd.S_lower (age_newS ho1 hag75.out) (below_size (kB HB.out)))
    replace BK334 := ak (blk_below (kK BK334.out) hb)
    replace BK335 := ak (blk_below (kK BK335.out) hb)
    replace BK357 := ak (blk_below (kK BK357.out) hb)
    replace HB := ak (below_step (kB HB.out) hb)
    (try clear hb)
    (try clear hb2)
    (try clear hk)
    (try clear hi)
    (try clear ho0)
    (try clear ho1)
    refine hK.out _ _ ⟨(blk_cell BK334.out 0).trans rfl, (blk_cell BK334.out 1).trans rfl, (blk_cell BK335.out 0).trans rfl, (blk_cell BK335.out 1).trans rfl⟩ (fun hHeld => ?_)
    clear hK K
    refine norm_ (a' := ?_) ?_ ?_
    rotate_left
    ·show Act.put _ (some 32) _ = _
     simp only [Act.put, List.setIfInBounds_toArray, List.set_cons_zero, List.set_cons_succ, i64_w, i32_w]
     rfl
    refine pure_ (i := 5) (N := some 27) (v := ?_) (a' := ?_) #[true, true, true, true, true, true, false, false, true, false, false] rfl rfl (any_of HT_.out (by kernel_rfl)) (fun _ _ _ h => h) (Or.inl ⟨by rfl, ?_⟩) ?_ ?_
    rotate_left
    ·intro w'
     go_simp
     with_reducible rfl
    rotate_left
    ·simp only [Act.put, List.setIfInBounds_toArray, List.set_cons_zero, List.set_cons_succ, i64_w, i32_w]
     rfl
    refine pure_ (i := 6) (N := some 33) (v := ?_) (a' := ?_) #[true, true, true, true, true, true, true, false, true, false, false] rfl rfl (any_of HT_.out (by kernel_rfl)) (fun _ _ _ h => h) (Or.inl ⟨by rfl, ?_⟩) ?_ ?_
    rotate_left
    ·intro w'
     go_simp
     with_reducible rfl
    rotate_left
    ·simp only [Act.put, List.setIfInBounds_toArray, List.set_cons_zero, List.set_cons_succ, i64_w, i32_w]
     rfl
    refine pure_ (i := 7) (N := some 34) (v := ?_) (a' := ?_) #[true, true, true, true, true, true, true, true, true, false, false] rfl rfl (any_of HT_.out (by kernel_rfl)) (fun _ _ _ h => h) (Or.inl ⟨by rfl, ?_⟩) ?_ ?_
    rotate_left
    ·intro w'
     go_simp
     with_reducible rfl
    rotate_left
    ·simp only [Act.put, List.setIfInBounds_toArray, List.set_cons_zero, List.set_cons_succ, i64_w, i32_w]
     rfl
    exact norm_ (by simp only [putAll, Act.put, List.setIfInBounds_toArray, List.set_cons_zero, List.set_cons_succ]) (hCont (.slice Ao70 t338.length co70, .slice Ao71 t341.length co71, .slice Ao72 t344.length co72, .slice Ao73 t347.length co73, v351, v354, gb357) _ ⟨hHeld, (kR (Kd.R_mono HO340.out (fun _ hk => trivial))), (kS (Kd.S_mono HO343.out (fun _ hk => hk.1.1.1))), (kR (Kd.R_mono HO346.out (fun _ hk => trivial))), (kS (Kd.S_mono HO349.out (fun _ hk => hk.1.1))), (kR (Kd.R_mono HO352.out (fun _ hk => trivial))), (kS (Kd.S_mono HO355.out (fun _ hk => hk.1))), (kK BK334.out), (kK BK335.out), (kK BK357.out), GW357.out, GE357.out, NB334_357.out, NB357_334.out, NB335_357.out, NB357_335.out, (bB HB.out)⟩)
  ·skip
   refine box_step ?hg (N := 6) ?hd (cs := #[.slice none 0 0, .slice none 0 0]) (t := 25) ?hr ?_; (case hd => rfl); (case hg => rfl); (case hr => first | (go_simp; done) | (go_simp; rfl))
   intro gb357 hg w65 hbox hb
   have BK357 := ak (hbox)
   have GW357 := ak (ge_box hg (kB HB.out))
   have GE357 := ak (ge_box hg (kB HB.out))
   replace HB := ak (below_step (kB HB.out) hb)
   have NB334_357 := ak ((ne_box hg (kK BK334.out)))
   have NB357_334 := ak ((ne_box' hg (kK BK334.out)))
   replace BK334 := ak (blk_below (kK BK334.out) hb)
   have NB335_357 := ak ((ne_box hg (kK BK335.out)))
   have NB357_335 := ak ((ne_box' hg (kK BK335.out)))
   replace BK335 := ak (blk_below (kK BK335.out) hb)
   clear hb hbox hg
   refine hK.out _ _ ⟨(blk_cell BK334.out 0).trans rfl, (blk_cell BK334.out 1).trans rfl, (blk_cell BK335.out 0).trans rfl, (blk_cell BK335.out 1).trans rfl⟩ (fun hHeld => ?_)
   clear hK K
   refine norm_ (a' := ?_) ?_ ?_
   rotate_left
   ·show Act.put _ (some 6) _ = _
    simp only [Act.put, List.setIfInBounds_toArray, List.set_cons_zero, List.set_cons_succ, i64_w, i32_w]
    rfl
   refine one_ (i := 1) (N := some 29) #[true, true, true, false, false, false, false, false, true, false, false] rfl rfl (one_of HT_.out (by kernel_rfl)) (by decide) (fun K hK => ?_)
   refine goes_ Try.func25 (by kernel_rfl) rfl #[.agg #[.slice A0_0 l0_0.length c0_0, .slice A0_1 l0_1.length c0_1]] (by rfl) rfl rfl (by (try simp only [List.map_toArray, List.map_cons, List.map_nil]); first | done | rfl | (simp only [List.length_drop, List.length_take]; rfl)) ?_
   with_reducible refine (laws_toAlgebra.calls k _ _ l0_0 _ _ l0_1 t338 t341 _ ?side1 ?side2 ?side3 ?side4 A22.out).mono ?_
   (case side1 => exact kC (Kd.C_below HR0_0.out HB.out))
   (case side2 => exact HC0_0.out)
   (case side3 => exact kC (Kd.C_below HR0_1.out HB.out))
   (case side4 => exact HC0_1.out)
   rintro e w66 ⟨v339, v342, rfl, ho0, ho1, hb⟩
   refine ⟨_, rfl, ?_⟩
   obtain ⟨ag67, hag67⟩ := age_at hb
   have HO340 := ak (Kd.R_lower (age_newR ho0 hag67.out) (below_size (kB HB.out)))
   have HO343 := ak (Kd.S_lower (age_newS ho1 hag67.out) (below_size (kB HB.out)))
   replace BK334 := ak (blk_below (kK BK334.out) hb)
   replace BK335 := ak (blk_below (kK BK335.out) hb)
   replace BK357 := ak (blk_below (kK BK357.out) hb)
   replace HB := ak (below_step (kB HB.out) hb)
   (try clear hb)
   (try clear hb2)
   (try clear hk)
   (try clear hi)
   (try clear ho0)
   (try clear ho1)
   refine hK.out _ _ ⟨(blk_cell BK334.out 0).trans rfl, (blk_cell BK334.out 1).trans rfl, (blk_cell BK335.out 0).trans rfl, (blk_cell BK335.out 1).trans rfl⟩ (fun hHeld => ?_)
   clear hK K
   refine norm_ (a' := ?_) ?_ ?_
   rotate_left
   ·show Act.put _ (some 29) _ = _
    simp only [Act.put, List.setIfInBounds_toArray, List.set_cons_zero, List.set_cons_succ, i64_w, i32_w]
    rfl
   refine one_ (i := 3) (N := some 31) #[true, true, true, true, false, false, false, false, true, false, false] rfl rfl (one_of HT_.out (by kernel_rfl)) (by decide) (fun K hK => ?_)
   refine goes_ Try.func25 (by kernel_rfl) rfl #[.agg #[.slice A1_0 l1_0.length c1_0, .slice A1_1 l1_1.length c1_1]] (by rfl) rfl rfl (by (try simp only [List.map_toArray, List.map_cons, List.map_nil]); first | done | rfl | (simp only [List.length_drop, List.length_take]; rfl)) ?_
   with_reducible refine (laws_toAlgebra.calls k _ _ l1_0 _ _ l1_1 t344 t347 _ ?side1 ?side2 ?side3 ?side4 A23.out).mono ?_
   (case side1 => exact kC (Kd.C_below HR1_0.out HB.out))
   (case side2 => exact HC1_0.out)
   (case side3 => exact kC (Kd.C_below HR1_1.out HB.out))
   (case side4 => exact HC1_1.out)
   rintro e w68 ⟨v345, v348, rfl, ho0, ho1, hb⟩
   refine ⟨_, rfl, ?_⟩
   obtain ⟨ag69, hag69⟩ := age_at hb
   replace HO340 := ak (age_oldR (kR HO340.out) hb hag69.out)
   replace HO343 := ak (age_oldS (kS HO343.out) hb hag69.out)
   have HO346 := ak (Kd.R_lower (age_newR ho0 hag69.out) (below_size (kB HB.out)))
   have HO349 := ak (Kd.S_lower (age_newS ho1 hag69.out) (below_size (kB HB.out)))
   replace BK334 := ak (blk_below (kK BK334.out) hb)
   replace BK335 := ak (blk_below (kK BK335.out) hb)
   replace BK357 := ak (blk_below (kK BK357.out) hb)
   replace HB := ak (below_step (kB HB.out) hb)
   (try clear hb)
   (try clear hb2)
   (try clear hk)
   (try clear hi)
   (try clear ho0)
   (try clear ho1)
   obtain ⟨Ao70, co70, eo70⟩ := Kd.R_slice HO340.out
   (first | subst eo70 | (injection eo70 with f1_ f2_ f3_; have f4_ := f1_.symm; have f5_ := f3_.symm; clear f1_ f2_ f3_; subst f4_; subst f5_))
   obtain ⟨Ao71, co71, eo71⟩ := Kd.S_slice HO343.out
   (first | subst eo71 | (injection eo71 with f1_ f2_ f3_; have f4_ := f1_.symm; have f5_ := f3_.symm; clear f1_ f2_ f3_; subst f4_; subst f5_))
   obtain ⟨Ao72, co72, eo72⟩ := Kd.R_slice HO346.out
   (first | subst eo72 | (injection eo72 with f1_ f2_ f3_; have f4_ := f1_.symm; have f5_ := f3_.symm; clear f1_ f2_ f3_; subst f4_; subst f5_))
   obtain ⟨Ao73, co73, eo73⟩ := Kd.S_slice HO349.out
   (first | subst eo73 | (injection eo73 with f1_ f2_ f3_; have f4_ := f1_.symm; have f5_ := f3_.symm; clear f1_ f2_ f3_; subst f4_; subst f5_))
   refine hK.out _ _ ⟨(blk_cell BK334.out 0).trans rfl, (blk_cell BK334.out 1).trans rfl, (blk_cell BK335.out 0).trans rfl, (blk_cell BK335.out 1).trans rfl⟩ (fun hHeld => ?_)
   clear hK K
   refine norm_ (a' := ?_) ?_ ?_
   rotate_left
   ·show Act.put _ (some 31) _ = _
    simp only [Act.put, List.setIfInBounds_toArray, List.set_cons_zero, List.set_cons_succ, i64_w, i32_w]
    rfl
   refine one_ (i := 4) (N := some 32) #[true, true, true, true, true, false, false, false, true, false, false] rfl rfl (one_of HT_.out (by kernel_rfl)) (by decide) (fun K hK => ?_)
   refine goes_ Try.func24 (by kernel_rfl) rfl #[.agg #[.slice Ao70 t338.length co70, .slice Ao71 t341.length co71], .agg #[.slice Ao72 t344.length co72, .slice Ao73 t347.length co73]] (by rfl) rfl rfl (by (try simp only [List.map_toArray, List.map_cons, List.map_nil]); first | done | rfl | (simp only [List.length_drop, List.length_take]; rfl)) ?_
   with_reducible refine (spec_CrossAlgebras.calls k _ _ t338 _ _ t341 _ _ t344 _ _ t347 t350 t353 t356 _ ?side1 ?side2 ?side3 ?side4 ?side5 ?side6 ?side7 ?side8 A24.out).mono ?_
   (case side1 => exact kC (Kd.R_reads' HO340.out).2.2)
   (case side2 => exact (Kd.R_reads' HO340.out).2.1)
   (case side3 => exact kC (Kd.S_reads' HO343.out).2.2)
   (case side4 => exact (Kd.S_reads' HO343.out).2.1)
   (case side5 => exact kC (Kd.R_reads' HO346.out).2.2)
   (case side6 => exact (Kd.R_reads' HO346.out).2.1)
   (case side7 => exact kC (Kd.S_reads' HO349.out).2.2)
   (case side8 => exact (Kd.S_reads' HO349.out).2.1)
   rintro e w74 ⟨v351, v354, rfl, ho0, ho1, hb⟩
   refine ⟨_, rfl, ?_⟩
   obtain ⟨ag75, hag75⟩ := age_at hb
   replace HO340 := ak (age_oldR (kR HO340.out) hb hag75.out)
   replace HO343 := ak (age_oldS (kS HO343.out) hb hag75.out)
   replace HO346 := ak (age_oldR (kR HO346.out) hb hag75.out)
   replace HO349 := ak (age_oldS (kS HO349.out) hb hag75.out)
   have HO352 := ak (Kd.R_lower (age_newR ho0 hag75.out) (below_size (kB HB.out)))
   have HO355 := ak (Kd.S_lower (age_newS ho1 hag75.out) (below_size (kB HB.out)))
   replace BK334 := ak (blk_below (kK BK334.out) hb)
   replace BK335 := ak (blk_below (kK BK335.out) hb)
   replace BK357 := ak (blk_below (kK BK357.out) hb)
   replace HB := ak (below_step (kB HB.out) hb)
   (try clear hb)
   (try clear hb2)
   (try clear hk)
   (try clear hi)
   (try clear ho0)
   (try clear ho1)
   refine hK.out _ _ ⟨(blk_cell BK334.out 0).trans rfl, (blk_cell BK334.out 1).trans rfl, (blk_cell BK335.out 0).trans rfl, (blk_cell BK335.out 1).trans rfl⟩ (fun hHeld => ?_)
   clear hK K
   refine norm_ (a' := ?_) ?_ ?_
   rotate_left
   ·show Act.put _ (some 32) _ = _
    simp only [Act.put, List.setIfInBounds_toArray, List.set_cons_zero, List.set_cons_succ, i64_w, i32_w]
    rfl
   refine pure_ (i := 5) (N := some 27) (v := ?_) (a' := ?_) #[true, true, true, true, true, true, false, false, true, false, false] rfl rfl (any_of HT_.out (by kernel_rfl)) (fun _ _ _ h => h) (Or.inl ⟨by rfl, ?_⟩) ?_ ?_
   rotate_left
   ·intro w'
    go_simp
    with_reducible rfl
   rotate_left
   ·simp only [Act.put, List.setIfInBounds_toArray, List.set_cons_zero, List.set_cons_succ, i64_w, i32_w]
    rfl
   refine pure_ (i := 6) (N := some 33) (v := ?_) (a' := ?_) #[true, true, true, true, true, true, true, false, true, false, false] rfl rfl (any_of HT_.out (by kernel_rfl)) (fun _ _ _ h => h) (Or.inl ⟨by rfl, ?_⟩) ?_ ?_
   rotate_left
   ·intro w'
    go_simp
    with_reducible rfl
   rotate_left
   ·simp only [Act.put, List.setIfInBounds_toArray, List.set_cons_zero, List.set_cons_succ, i64_w, i32_w]
    rfl
   refine pure_ (i := 7) (N := some 34) (v := ?_) (a' := ?_) #[true, true, true, true, true, true, true, true, true, false, false] rfl rfl (any_of HT_.out (by kernel_rfl)) (fun _ _ _ h => h) (Or.inl ⟨by rfl, ?_⟩) ?_ ?_
   rotate_left
   ·intro w'
    go_simp
    with_reducible rfl
   rotate_left
   ·simp only [Act.put, List.setIfInBounds_toArray, List.set_cons_zero, List.set_cons_succ, i64_w, i32_w]
    rfl
   exact norm_ (by simp only [putAll, Act.put, List.setIfInBounds_toArray, List.set_cons_zero, List.set_cons_succ]) (hCont (.slice Ao70 t338.length co70, .slice Ao71 t341.length co71, .slice Ao72 t344.length co72, .slice Ao73 t347.length co73, v351, v354, gb357) _ ⟨hHeld, (kR (Kd.R_mono HO340.out (fun _ hk => trivial))), (kS (Kd.S_mono HO343.out (fun _ hk => hk.1.1.1))), (kR (Kd.R_mono HO346.out (fun _ hk => trivial))), (kS (Kd.S_mono HO349.out (fun _ hk => hk.1.1))), (kR (Kd.R_mono HO352.out (fun _ hk => trivial))), (kS (Kd.S_mono HO355.out (fun _ hk => hk.1))), (kK BK334.out), (kK BK335.out), (kK BK357.out), GW357.out, GE357.out, NB334_357.out, NB357_334.out, NB335_357.out, NB357_335.out, (bB HB.out)⟩)
 rintro ⟨v339, v342, v345, v348, v351, v354, gb357⟩ w76 ⟨hS_, h0_, h1_, h2_, h3_, h4_, h5_, h6_, h7_, h8_, h9_, h10_, h11_, h12_, h13_, h14_, h15_⟩
 have n0_ : Aside0 (Kd.R (Kd.int .i64) 3 w76 w.heap.size (fun _ => True) v339 t338) := ⟨h0_⟩
 have n1_ : Aside0 (Kd.S (Kd.slice 3 (Kd.int .i64)) 22 w76 w.heap.size (fun k_ => some k_ ≠ (v339 : Value).ownBlock) v342 t341) := ⟨h1_⟩
 have n2_ : Aside0 (Kd.R (Kd.int .i64) 3 w76 w.heap.size (fun _ => True) v345 t344) := ⟨h2_⟩
 have n3_ : Aside0 (Kd.S (Kd.slice 3 (Kd.int .i64)) 22 w76 w.heap.size (fun k_ => some k_ ≠ (v345 : Value).ownBlock) v348 t347) := ⟨h3_⟩
 have n4_ : Aside0 (Kd.R (Kd.int .i64) 3 w76 w.heap.size (fun _ => True) v351 t350) := ⟨h4_⟩
 have n5_ : Aside0 (Kd.S (Kd.slice 3 (Kd.int .i64)) 22 w76 w.heap.size (fun k_ => some k_ ≠ (v351 : Value).ownBlock) v354 t353) := ⟨h5_⟩
 have n6_ : Aside0 (w76.heap[gb334]? = some (.cells #[.slice A0_0 l0_0.length c0_0, .slice A0_1 l0_1.length c0_1] 36 (0, 0))) := ⟨h6_⟩
 have n7_ : Aside0 (w76.heap[gb335]? = some (.cells #[.slice A1_0 l1_0.length c1_0, .slice A1_1 l1_1.length c1_1] 36 (0, 0))) := ⟨h7_⟩
 have n8_ : Aside0 (w76.heap[gb357]? = some (.cells #[.slice none 0 0, .slice none 0 0] 25 (0, 0))) := ⟨h8_⟩
 have n9_ : Aside0 (w.heap.size ≤ gb357) := ⟨h9_⟩
 have n10_ : Aside0 (w.heap.size ≤ gb357) := ⟨h10_⟩
 have n11_ : Aside0 (gb334 ≠ gb357) := ⟨h11_⟩
 have n12_ : Aside0 (gb357 ≠ gb334) := ⟨h12_⟩
 have n13_ : Aside0 (gb335 ≠ gb357) := ⟨h13_⟩
 have n14_ : Aside0 (gb357 ≠ gb335) := ⟨h14_⟩
 have n15_ : Aside0 (Below w.heap.size w w76) := ⟨h15_⟩
 clear BK334
 clear BK335
 clear HB
 clear h0_ h1_ h2_ h3_ h4_ h5_ h6_ h7_ h8_ h9_ h10_ h11_ h12_ h13_ h14_ h15_
 have HO340 := n0_
 have HO343 := n1_
 have HO346 := n2_
 have HO349 := n3_
 have HO352 := n4_
 have HO355 := n5_
 have BK334 := n6_
 have BK335 := n7_
 have BK357 := n8_
 have GW357 := n9_
 have GE357 := n10_
 have NB334_357 := n11_
 have NB357_334 := n12_
 have NB335_357 := n13_
 have NB357_335 := n14_
 have HB := n15_
 clear n0_ n1_ n2_ n3_ n4_ n5_ n6_ n7_ n8_ n9_ n10_ n11_ n12_ n13_ n14_ n15_
 have hHeld : w76.cell? ⟨gb334, 0, none⟩ = some (.slice A0_0 l0_0.length c0_0) ∧ w76.cell? ⟨gb334, 1, none⟩ = some (.slice A0_1 l0_1.length c0_1) ∧ w76.cell? ⟨gb335, 0, none⟩ = some (.slice A1_0 l1_0.length c1_0) ∧ w76.cell? ⟨gb335, 1, none⟩ = some (.slice A1_1 l1_1.length c1_1) := hS_
 obtain ⟨Ao77, co77, eo77⟩ := Kd.R_slice HO352.out
 (first | subst eo77 | (injection eo77 with f1_ f2_ f3_; have f4_ := f1_.symm; have f5_ := f3_.symm; clear f1_ f2_ f3_; subst f4_; subst f5_))
 obtain ⟨Ao79, co79, eo79⟩ := Kd.S_slice HO355.out
 (first | subst eo79 | (injection eo79 with f1_ f2_ f3_; have f4_ := f1_.symm; have f5_ := f3_.symm; clear f1_ f2_ f3_; subst f4_; subst f5_))
 refine norm_ (a' := ?_) ?_ ?_
 rotate_left
 ·simp only [putAll, Act.put, List.setIfInBounds_toArray, List.set_cons_zero, List.set_cons_succ]
  rfl
 refine one_ (i := 9) (N := none) #[true, true, true, true, true, true, true, true, true, true, false] rfl rfl (one_of HT_.out (by kernel_rfl)) (by decide) (fun K hK => ?_)
 have hs78 : w76.cell? ⟨gb357, 0, none⟩ = some (.slice none 0 0) := (blk_cell BK357.out 0).trans rfl
 have hfs78 := blk_frozen BK357.out 0
 have hns78_0 := NB334_357.out
 have hns78_1 := NB335_357.out
 have hms78_0 := NB357_334.out
 have hms78_1 := NB357_335.out
 have hs80 : w76.cell? ⟨gb357, 1, none⟩ = some (.slice none 0 0) := (blk_cell BK357.out 1).trans rfl
 have hfs80 := blk_frozen BK357.out 1
 have hns80_0 := NB334_357.out
 have hns80_1 := NB335_357.out
 have hms80_0 := NB357_334.out
 have hms80_1 := NB357_335.out
 refine skip_ (w1 := ?_) (by rfl) rfl ?_ ?_
 rotate_left
 ·go_simp
  rfl
 refine hK.out _ _ ⟨((cell_far (p := ⟨gb357, _, none⟩) NB334_357.out _).trans (((cell_far (p := ⟨gb357, _, none⟩) NB334_357.out _).trans (hHeld.1)))), ((cell_far (p := ⟨gb357, _, none⟩) NB334_357.out _).trans (((cell_far (p := ⟨gb357, _, none⟩) NB334_357.out _).trans (hHeld.2.1)))), ((cell_far (p := ⟨gb357, _, none⟩) NB335_357.out _).trans (((cell_far (p := ⟨gb357, _, none⟩) NB335_357.out _).trans (hHeld.2.2.1)))), ((cell_far (p := ⟨gb357, _, none⟩) NB335_357.out _).trans (((cell_far (p := ⟨gb357, _, none⟩) NB335_357.out _).trans (hHeld.2.2.2))))⟩ (fun hHeld => ?_)
 clear hK K
 refine pure_ (i := 10) (N := some 7) (v := ?_) (a' := ?_) #[true, true, true, true, true, true, true, true, true, true, true] rfl rfl (any_of HT_.out (by kernel_rfl)) (fun _ _ _ h => h) (Or.inl ⟨by rfl, ?_⟩) ?_ ?_
 rotate_left
 ·intro w'
  go_simp
  with_reducible rfl
 rotate_left
 ·simp only [Act.put, List.setIfInBounds_toArray, List.set_cons_zero, List.set_cons_succ, i64_w, i32_w]
  rfl
 refine done_ (done_of HT_.out (by kernel_rfl)) ?_
 have hnb81 := NB334_357.out
 have hnc81 := NB357_334.out
 have hcz82_0 : w76.cell? ⟨gb334, 0, none⟩ = some (.slice A0_0 l0_0.length c0_0) := (blk_cell BK334.out 0).trans rfl
 have hcz82_1 : w76.cell? ⟨gb334, 1, none⟩ = some (.slice A0_1 l0_1.length c0_1) := (blk_cell BK334.out 1).trans rfl
 have hfz82_0 := blk_frozen BK334.out 0
 have hfz82_1 := blk_frozen BK334.out 1
 try go_wp2_with (first | ((with_reducible refine gate_callee (f := 25) rfl ?_); refine goesL_ (some 36) rfl rfl Try.func25 (by kernel_rfl) rfl #[.agg #[.slice A0_0 l0_0.length c0_0, .slice A0_1 l0_1.length c0_1]] rfl (by (try simp only [List.map_toArray, List.map_cons, List.map_nil]); first | done | rfl | (simp only [List.length_drop, List.length_take]; rfl)) ?_; (with_reducible refine (laws_toAlgebra.calls k _ _ l0_0 _ _ l0_1 t358 t361 _ ?side1 ?side2 ?side3 ?side4 A25.out).mono ?_); (case side1 => exact Kd.C_below HR0_0.out (by repeat (first | (with_reducible first | exact HB.out | refine below_set ?_ GE357.out) | exact HB.out))); (case side2 => exact HC0_0.out); (case side3 => exact Kd.C_below HR0_1.out (by repeat (first | (with_reducible first | exact HB.out | refine below_set ?_ GE357.out) | exact HB.out))); (case side4 => exact HC0_1.out); rintro e w83 ⟨v359, v362, rfl, ho0, ho1, hb⟩; refine ⟨_, rfl, ?_⟩; obtain ⟨ag84, hag84⟩ := age_at hb; replace HO340 := ak (age_oldR (kR (s2R HO340.out BK357.out)) hb hag84.out); replace HO343 := ak (age_oldS (kS (s2S HO343.out BK357.out)) hb hag84.out); replace HO346 := ak (age_oldR (kR (s2R HO346.out BK357.out)) hb hag84.out); replace HO349 := ak (age_oldS (kS (s2S HO349.out BK357.out)) hb hag84.out); replace HO352 := ak (age_oldR (kR (s2R HO352.out BK357.out)) hb hag84.out); replace HO355 := ak (age_oldS (kS (s2S HO355.out BK357.out)) hb hag84.out); have HO360 := ak (Kd.R_lower (age_newR ho0 hag84.out) (below_size (by repeat (first | (with_reducible first | exact HB.out | refine below_set ?_ GE357.out) | exact HB.out)))); have HO363 := ak (Kd.S_lower (age_newS ho1 hag84.out) (below_size (by repeat (first | (with_reducible first | exact HB.out | refine below_set ?_ GE357.out) | exact HB.out)))); replace BK334 := ak (blk_below (kK (blk_far (blk_far BK334.out NB334_357.out _) NB334_357.out _)) hb); replace BK335 := ak (blk_below (kK (blk_far (blk_far BK335.out NB335_357.out _) NB335_357.out _)) hb); replace BK357 := ak (blk_below (g := gb357) (o := .cells #[.slice Ao77 t350.length co77, .slice Ao79 t353.length co79] 25 (0, 0)) (by refine blk_put (cs := #[.slice Ao77 t350.length co77, .slice none 0 0]) ?_ 1 _ rfl; refine blk_put (cs := #[.slice none 0 0, .slice none 0 0]) ?_ 0 _ rfl; exact BK357.out) hb); replace HB := ak (below_step (by repeat (first | (with_reducible first | exact HB.out | refine below_set ?_ GE357.out) | exact HB.out)) hb); (try clear hb); (try clear hb2); (try clear hk); (try clear hi); (try clear ho0); (try clear ho1)) | ((with_reducible refine gate_dst (N := 8) rfl ?_); refine box_event ?hg (N := 8) ?hd (cs := #[.slice none 0 0, .slice none 0 0]) (t := 25) ?hr ?_; (case hd => rfl); (case hg => rfl); (case hr => first | (go_simp; done) | (go_simp; rfl)); intro gb364 hg w85 hbox hb; replace HO340 := ak (Kd.R_below (kR HO340.out) hb); replace HO343 := ak (Kd.S_below (kS HO343.out) hb); replace HO346 := ak (Kd.R_below (kR HO346.out) hb); replace HO349 := ak (Kd.S_below (kS HO349.out) hb); replace HO352 := ak (Kd.R_below (kR HO352.out) hb); replace HO355 := ak (Kd.S_below (kS HO355.out) hb); replace HO360 := ak (Kd.R_below (kR HO360.out) hb); replace HO363 := ak (Kd.S_below (kS HO363.out) hb); have BK364 := ak (hbox); have GW364 := ak (ge_box hg (kB HB.out)); have GE364 := ak (ge_box hg (kB HB.out)); replace HB := ak (below_step (kB HB.out) hb); have NB334_364 := ak ((ne_box hg (kK BK334.out))); have NB364_334 := ak ((ne_box' hg (kK BK334.out))); replace BK334 := ak (blk_below (kK BK334.out) hb); have NB335_364 := ak ((ne_box hg (kK BK335.out))); have NB364_335 := ak ((ne_box' hg (kK BK335.out))); replace BK335 := ak (blk_below (kK BK335.out) hb); have NB357_364 := ak ((ne_box hg (kK BK357.out))); have NB364_357 := ak ((ne_box' hg (kK BK357.out))); replace BK357 := ak (blk_below (kK BK357.out) hb); clear hb hbox hg; obtain ⟨Ao86, co86, eo86⟩ := Kd.R_slice HO360.out; subst eo86; have hnb87 := NB364_334.out; have hnc87 := NB334_364.out; have hnb88 := NB364_335.out; have hnc88 := NB335_364.out; have hnb89 := NB364_357.out; have hnc89 := NB357_364.out; have hcz90_0 : w85.cell? ⟨gb364, 0, none⟩ = some (.slice none 0 0) := (blk_cell BK364.out 0).trans rfl; have hcz90_1 : w85.cell? ⟨gb364, 1, none⟩ = some (.slice none 0 0) := (blk_cell BK364.out 1).trans rfl; have hfz90_0 := blk_frozen BK364.out 0; have hfz90_1 := blk_frozen BK364.out 1; obtain ⟨Ao91, co91, eo91⟩ := Kd.S_slice HO363.out; subst eo91; have hnb92 := NB335_357.out; have hnc92 := NB357_335.out; have hcz93_0 : w85.cell? ⟨gb335, 0, none⟩ = some (.slice A1_0 l1_0.length c1_0) := (blk_cell BK335.out 0).trans rfl; have hcz93_1 : w85.cell? ⟨gb335, 1, none⟩ = some (.slice A1_1 l1_1.length c1_1) := (blk_cell BK335.out 1).trans rfl; have hfz93_0 := blk_frozen BK335.out 0; have hfz93_1 := blk_frozen BK335.out 1) | ((with_reducible refine gate_callee (f := 25) rfl ?_); refine goesL_ (some 38) rfl rfl Try.func25 (by kernel_rfl) rfl #[.agg #[.slice A1_0 l1_0.length c1_0, .slice A1_1 l1_1.length c1_1]] rfl (by (try simp only [List.map_toArray, List.map_cons, List.map_nil]); first | done | rfl | (simp only [List.length_drop, List.length_take]; rfl)) ?_; (with_reducible refine (laws_toAlgebra.calls k _ _ l1_0 _ _ l1_1 t365 t368 _ ?side1 ?side2 ?side3 ?side4 A26.out).mono ?_); (case side1 => exact Kd.C_below HR1_0.out (by repeat (first | (with_reducible first | exact HB.out | refine below_set ?_ GE364.out) | exact HB.out))); (case side2 => exact HC1_0.out); (case side3 => exact Kd.C_below HR1_1.out (by repeat (first | (with_reducible first | exact HB.out | refine below_set ?_ GE364.out) | exact HB.out))); (case side4 => exact HC1_1.out); rintro e w94 ⟨v366, v369, rfl, ho0, ho1, hb⟩; refine ⟨_, rfl, ?_⟩; obtain ⟨ag95, hag95⟩ := age_at hb; replace HO340 := ak (age_oldR (kR (s2R HO340.out BK364.out)) hb hag95.out); replace HO343 := ak (age_oldS (kS (s2S HO343.out BK364.out)) hb hag95.out); replace HO346 := ak (age_oldR (kR (s2R HO346.out BK364.out)) hb hag95.out); replace HO349 := ak (age_oldS (kS (s2S HO349.out BK364.out)) hb hag95.out); replace HO352 := ak (age_oldR (kR (s2R HO352.out BK364.out)) hb hag95.out); replace HO355 := ak (age_oldS (kS (s2S HO355.out BK364.out)) hb hag95.out); replace HO360 := ak (age_oldR (kR (s2R HO360.out BK364.out)) hb hag95.out); replace HO363 := ak (age_oldS (kS (s2S HO363.out BK364.out)) hb hag95.out); have HO367 := ak (Kd.R_lower (age_newR ho0 hag95.out) (below_size (by repeat (first | (with_reducible first | exact HB.out | refine below_set ?_ GE364.out) | exact HB.out)))); have HO370 := ak (Kd.S_lower (age_newS ho1 hag95.out) (below_size (by repeat (first | (with_reducible first | exact HB.out | refine below_set ?_ GE364.out) | exact HB.out)))); replace BK334 := ak (blk_below (kK (blk_far (blk_far BK334.out NB334_364.out _) NB334_364.out _)) hb); replace BK335 := ak (blk_below (kK (blk_far (blk_far BK335.out NB335_364.out _) NB335_364.out _)) hb); replace BK357 := ak (blk_below (kK (blk_far (blk_far BK357.out NB357_364.out _) NB357_364.out _)) hb); replace BK364 := ak (blk_below (g := gb364) (o := .cells #[.slice Ao86 t358.length co86, .slice Ao91 t361.length co91] 25 (0, 0)) (by refine blk_put (cs := #[.slice Ao86 t358.length co86, .slice none 0 0]) ?_ 1 _ rfl; refine blk_put (cs := #[.slice none 0 0, .slice none 0 0]) ?_ 0 _ rfl; exact BK364.out) hb); replace HB := ak (below_step (by repeat (first | (with_reducible first | exact HB.out | refine below_set ?_ GE364.out) | exact HB.out)) hb); (try clear hb); (try clear hb2); (try clear hk); (try clear hi); (try clear ho0); (try clear ho1)) | ((with_reducible refine gate_dst (N := 9) rfl ?_); refine box_event ?hg (N := 9) ?hd (cs := #[.slice none 0 0, .slice none 0 0]) (t := 25) ?hr ?_; (case hd => rfl); (case hg => rfl); (case hr => first | (go_simp; done) | (go_simp; rfl)); intro gb371 hg w96 hbox hb; replace HO340 := ak (Kd.R_below (kR HO340.out) hb); replace HO343 := ak (Kd.S_below (kS HO343.out) hb); replace HO346 := ak (Kd.R_below (kR HO346.out) hb); replace HO349 := ak (Kd.S_below (kS HO349.out) hb); replace HO352 := ak (Kd.R_below (kR HO352.out) hb); replace HO355 := ak (Kd.S_below (kS HO355.out) hb); replace HO360 := ak (Kd.R_below (kR HO360.out) hb); replace HO363 := ak (Kd.S_below (kS HO363.out) hb); replace HO367 := ak (Kd.R_below (kR HO367.out) hb); replace HO370 := ak (Kd.S_below (kS HO370.out) hb); have BK371 := ak (hbox); have GW371 := ak (ge_box hg (kB HB.out)); have GE371 := ak (ge_box hg (kB HB.out)); replace HB := ak (below_step (kB HB.out) hb); have NB334_371 := ak ((ne_box hg (kK BK334.out))); have NB371_334 := ak ((ne_box' hg (kK BK334.out))); replace BK334 := ak (blk_below (kK BK334.out) hb); have NB335_371 := ak ((ne_box hg (kK BK335.out))); have NB371_335 := ak ((ne_box' hg (kK BK335.out))); replace BK335 := ak (blk_below (kK BK335.out) hb); have NB357_371 := ak ((ne_box hg (kK BK357.out))); have NB371_357 := ak ((ne_box' hg (kK BK357.out))); replace BK357 := ak (blk_below (kK BK357.out) hb); have NB364_371 := ak ((ne_box hg (kK BK364.out))); have NB371_364 := ak ((ne_box' hg (kK BK364.out))); replace BK364 := ak (blk_below (kK BK364.out) hb); clear hb hbox hg; obtain ⟨Ao97, co97, eo97⟩ := Kd.R_slice HO367.out; subst eo97; have hnb98 := NB371_334.out; have hnc98 := NB334_371.out; have hnb99 := NB371_335.out; have hnc99 := NB335_371.out; have hnb100 := NB371_357.out; have hnc100 := NB357_371.out; have hnb101 := NB371_364.out; have hnc101 := NB364_371.out; have hcz102_0 : w96.cell? ⟨gb371, 0, none⟩ = some (.slice none 0 0) := (blk_cell BK371.out 0).trans rfl; have hcz102_1 : w96.cell? ⟨gb371, 1, none⟩ = some (.slice none 0 0) := (blk_cell BK371.out 1).trans rfl; have hfz102_0 := blk_frozen BK371.out 0; have hfz102_1 := blk_frozen BK371.out 1; obtain ⟨Ao103, co103, eo103⟩ := Kd.S_slice HO370.out; subst eo103; have hcz104_0 : w96.cell? ⟨gb364, 0, none⟩ = some (.slice Ao86 t358.length co86) := (blk_cell BK364.out 0).trans rfl; have hcz104_1 : w96.cell? ⟨gb364, 1, none⟩ = some (.slice Ao91 t361.length co91) := (blk_cell BK364.out 1).trans rfl; have hfz104_0 := blk_frozen BK364.out 0; have hfz104_1 := blk_frozen BK364.out 1) | ((with_reducible refine gate_callee (f := 26) rfl ?_); refine goesL_ (some 42) rfl rfl Try.func26 (by kernel_rfl) rfl #[.agg #[.slice Ao86 t358.length co86, .slice Ao91 t361.length co91], .agg #[.slice Ao97 t365.length co97, .slice Ao103 t368.length co103]] rfl (by (try simp only [List.map_toArray, List.map_cons, List.map_nil]); first | done | rfl | (simp only [List.length_drop, List.length_take]; rfl)) ?_; (with_reducible refine (impl_CrossAlgebras.calls k _ _ t358 _ _ t361 _ _ t365 _ _ t368 t372 t375 t378 _ ?side1 ?side2 ?side3 ?side4 ?side5 ?side6 ?side7 ?side8 A27.out).mono ?_); (case side1 => refine (Kd.R_reads' (e := 3) (base := w.heap.size) (ok := fun k_ => ((True ∧ ag84 ≤ k_) ∧ k_ < ag95)) (n := t358.length) (c := co86) ?_).2.2; exact (kR (s2R HO360.out BK371.out))); (case side2 => exact (Kd.R_reads' HO360.out).2.1); (case side3 => refine (Kd.S_reads' (e := 22) (base := w.heap.size) (ok := fun k_ => ((some k_ ≠ (.slice Ao86 t358.length co86 : Value).ownBlock ∧ ag84 ≤ k_) ∧ k_ < ag95)) (n := t361.length) (c := co91) ?_).2.2; exact (kS (s2S HO363.out BK371.out))); (case side4 => exact (Kd.S_reads' HO363.out).2.1); (case side5 => refine (Kd.R_reads' (e := 3) (base := w.heap.size) (ok := fun k_ => (True ∧ ag95 ≤ k_)) (n := t365.length) (c := co97) ?_).2.2; exact (kR (s2R HO367.out BK371.out))); (case side6 => exact (Kd.R_reads' HO367.out).2.1); (case side7 => refine (Kd.S_reads' (e := 22) (base := w.heap.size) (ok := fun k_ => (some k_ ≠ (.slice Ao97 t365.length co97 : Value).ownBlock ∧ ag95 ≤ k_)) (n := t368.length) (c := co103) ?_).2.2; exact (kS (s2S HO370.out BK371.out))); (case side8 => exact (Kd.S_reads' HO370.out).2.1); rintro e w105 ⟨v373, v376, rfl, ho0, ho1, hb⟩; refine ⟨_, rfl, ?_⟩; obtain ⟨ag106, hag106⟩ := age_at hb; replace HO340 := ak (age_oldR (kR (s2R HO340.out BK371.out)) hb hag106.out); replace HO343 := ak (age_oldS (kS (s2S HO343.out BK371.out)) hb hag106.out); replace HO346 := ak (age_oldR (kR (s2R HO346.out BK371.out)) hb hag106.out); replace HO349 := ak (age_oldS (kS (s2S HO349.out BK371.out)) hb hag106.out); replace HO352 := ak (age_oldR (kR (s2R HO352.out BK371.out)) hb hag106.out); replace HO355 := ak (age_oldS (kS (s2S HO355.out BK371.out)) hb hag106.out); replace HO360 := ak (age_oldR (kR (s2R HO360.out BK371.out)) hb hag106.out); replace HO363 := ak (age_oldS (kS (s2S HO363.out BK371.out)) hb hag106.out); replace HO367 := ak (age_oldR (kR (s2R HO367.out BK371.out)) hb hag106.out); replace HO370 := ak (age_oldS (kS (s2S HO370.out BK371.out)) hb hag106.out); have HO374 := ak (Kd.R_lower (age_newR ho0 hag106.out) (below_size (by repeat (first | (with_reducible first | exact HB.out | refine below_set ?_ GE371.out) | exact HB.out)))); have HO377 := ak (Kd.S_lower (age_newS ho1 hag106.out) (below_size (by repeat (first | (with_reducible first | exact HB.out | refine below_set ?_ GE371.out) | exact HB.out)))); replace BK334 := ak (blk_below (kK (blk_far (blk_far BK334.out NB334_371.out _) NB334_371.out _)) hb); replace BK335 := ak (blk_below (kK (blk_far (blk_far BK335.out NB335_371.out _) NB335_371.out _)) hb); replace BK357 := ak (blk_below (kK (blk_far (blk_far BK357.out NB357_371.out _) NB357_371.out _)) hb); replace BK364 := ak (blk_below (kK (blk_far (blk_far BK364.out NB364_371.out _) NB364_371.out _)) hb); replace BK371 := ak (blk_below (g := gb371) (o := .cells #[.slice Ao97 t365.length co97, .slice Ao103 t368.length co103] 25 (0, 0)) (by refine blk_put (cs := #[.slice Ao97 t365.length co97, .slice none 0 0]) ?_ 1 _ rfl; refine blk_put (cs := #[.slice none 0 0, .slice none 0 0]) ?_ 0 _ rfl; exact BK371.out) hb); replace HB := ak (below_step (by repeat (first | (with_reducible first | exact HB.out | refine below_set ?_ GE371.out) | exact HB.out)) hb); (try clear hb); (try clear hb2); (try clear hk); (try clear hi); (try clear ho0); (try clear ho1)) | ((with_reducible refine gate_dst (N := 10) rfl ?_); refine box_event ?hg (N := 10) ?hd (cs := #[.slice none 0 0, .slice none 0 0]) (t := 25) ?hr ?_; (case hd => rfl); (case hg => rfl); (case hr => first | (go_simp; done) | (go_simp; rfl)); intro gb379 hg w107 hbox hb; replace HO340 := ak (Kd.R_below (kR HO340.out) hb); replace HO343 := ak (Kd.S_below (kS HO343.out) hb); replace HO346 := ak (Kd.R_below (kR HO346.out) hb); replace HO349 := ak (Kd.S_below (kS HO349.out) hb); replace HO352 := ak (Kd.R_below (kR HO352.out) hb); replace HO355 := ak (Kd.S_below (kS HO355.out) hb); replace HO360 := ak (Kd.R_below (kR HO360.out) hb); replace HO363 := ak (Kd.S_below (kS HO363.out) hb); replace HO367 := ak (Kd.R_below (kR HO367.out) hb); replace HO370 := ak (Kd.S_below (kS HO370.out) hb); replace HO374 := ak (Kd.R_below (kR HO374.out) hb); replace HO377 := ak (Kd.S_below (kS HO377.out) hb); have BK379 := ak (hbox); have GW379 := ak (ge_box hg (kB HB.out)); have GE379 := ak (ge_box hg (kB HB.out)); replace HB := ak (below_step (kB HB.out) hb); have NB334_379 := ak ((ne_box hg (kK BK334.out))); have NB379_334 := ak ((ne_box' hg (kK BK334.out))); replace BK334 := ak (blk_below (kK BK334.out) hb); have NB335_379 := ak ((ne_box hg (kK BK335.out))); have NB379_335 := ak ((ne_box' hg (kK BK335.out))); replace BK335 := ak (blk_below (kK BK335.out) hb); have NB357_379 := ak ((ne_box hg (kK BK357.out))); have NB379_357 := ak ((ne_box' hg (kK BK357.out))); replace BK357 := ak (blk_below (kK BK357.out) hb); have NB364_379 := ak ((ne_box hg (kK BK364.out))); have NB379_364 := ak ((ne_box' hg (kK BK364.out))); replace BK364 := ak (blk_below (kK BK364.out) hb); have NB371_379 := ak ((ne_box hg (kK BK371.out))); have NB379_371 := ak ((ne_box' hg (kK BK371.out))); replace BK371 := ak (blk_below (kK BK371.out) hb); clear hb hbox hg; obtain ⟨Ao108, co108, eo108⟩ := Kd.R_slice HO374.out; subst eo108; have hnb109 := NB379_334.out; have hnc109 := NB334_379.out; have hnb110 := NB379_335.out; have hnc110 := NB335_379.out; have hnb111 := NB379_357.out; have hnc111 := NB357_379.out; have hnb112 := NB379_364.out; have hnc112 := NB364_379.out; have hnb113 := NB379_371.out; have hnc113 := NB371_379.out; have hcz114_0 : w107.cell? ⟨gb379, 0, none⟩ = some (.slice none 0 0) := (blk_cell BK379.out 0).trans rfl; have hcz114_1 : w107.cell? ⟨gb379, 1, none⟩ = some (.slice none 0 0) := (blk_cell BK379.out 1).trans rfl; have hfz114_0 := blk_frozen BK379.out 0; have hfz114_1 := blk_frozen BK379.out 1; obtain ⟨Ao115, co115, eo115⟩ := Kd.S_slice HO377.out; subst eo115; have hcz116_0 : w107.cell? ⟨gb357, 0, none⟩ = some (.slice Ao77 t350.length co77) := (blk_cell BK357.out 0).trans rfl; have hcz116_1 : w107.cell? ⟨gb357, 1, none⟩ = some (.slice Ao79 t353.length co79) := (blk_cell BK357.out 1).trans rfl; have hfz116_0 := blk_frozen BK357.out 0; have hfz116_1 := blk_frozen BK357.out 1) | ((with_reducible refine gate_callee (f := 16) rfl ?_); refine goesL_ (some 47) rfl rfl Try.func16 (by kernel_rfl) rfl #[.agg #[.slice Ao108 t372.length co108, .slice Ao115 t375.length co115], .agg #[.slice Ao77 t350.length co77, .slice Ao79 t353.length co79]] rfl (by (try simp only [List.map_toArray, List.map_cons, List.map_nil]); first | done | rfl | (simp only [List.length_drop, List.length_take]; rfl)) ?_; (with_reducible refine (laws_eqAlgebra.calls k _ _ t372 _ _ t375 _ _ t350 _ _ t353 true _ ?side1 ?side2 ?side3 ?side4 ?side5 ?side6 ?side7 ?side8 A28.out).mono ?_); (case side1 => refine (Kd.R_reads' (e := 3) (base := w.heap.size) (ok := fun k_ => (True ∧ ag106 ≤ k_)) (n := t372.length) (c := co108) ?_).2.2; exact (kR (s2R HO374.out BK379.out))); (case side2 => exact (Kd.R_reads' HO374.out).2.1); (case side3 => refine (Kd.S_reads' (e := 22) (base := w.heap.size) (ok := fun k_ => (some k_ ≠ (.slice Ao108 t372.length co108 : Value).ownBlock ∧ ag106 ≤ k_)) (n := t375.length) (c := co115) ?_).2.2; exact (kS (s2S HO377.out BK379.out))); (case side4 => exact (Kd.S_reads' HO377.out).2.1); (case side5 => refine (Kd.R_reads' (e := 3) (base := w.heap.size) (ok := fun k_ => (((True ∧ k_ < ag84) ∧ k_ < ag95) ∧ k_ < ag106)) (n := t350.length) (c := co77) ?_).2.2; exact (kR (s2R HO352.out BK379.out))); (case side6 => exact (Kd.R_reads' HO352.out).2.1); (case side7 => refine (Kd.S_reads' (e := 22) (base := w.heap.size) (ok := fun k_ => (((some k_ ≠ (.slice Ao77 t350.length co77 : Value).ownBlock ∧ k_ < ag84) ∧ k_ < ag95) ∧ k_ < ag106)) (n := t353.length) (c := co79) ?_).2.2; exact (kS (s2S HO355.out BK379.out))); (case side8 => exact (Kd.S_reads' HO355.out).2.1); rintro e w117 ⟨rfl, hb⟩; refine ⟨_, rfl, ?_⟩; obtain ⟨ag118, hag118⟩ := age_at hb; replace HO340 := ak (age_oldR (kR (s2R HO340.out BK379.out)) hb hag118.out); replace HO343 := ak (age_oldS (kS (s2S HO343.out BK379.out)) hb hag118.out); replace HO346 := ak (age_oldR (kR (s2R HO346.out BK379.out)) hb hag118.out); replace HO349 := ak (age_oldS (kS (s2S HO349.out BK379.out)) hb hag118.out); replace HO352 := ak (age_oldR (kR (s2R HO352.out BK379.out)) hb hag118.out); replace HO355 := ak (age_oldS (kS (s2S HO355.out BK379.out)) hb hag118.out); replace HO360 := ak (age_oldR (kR (s2R HO360.out BK379.out)) hb hag118.out); replace HO363 := ak (age_oldS (kS (s2S HO363.out BK379.out)) hb hag118.out); replace HO367 := ak (age_oldR (kR (s2R HO367.out BK379.out)) hb hag118.out); replace HO370 := ak (age_oldS (kS (s2S HO370.out BK379.out)) hb hag118.out); replace HO374 := ak (age_oldR (kR (s2R HO374.out BK379.out)) hb hag118.out); replace HO377 := ak (age_oldS (kS (s2S HO377.out BK379.out)) hb hag118.out); replace BK334 := ak (blk_below (kK (blk_far (blk_far BK334.out NB334_379.out _) NB334_379.out _)) hb); replace BK335 := ak (blk_below (kK (blk_far (blk_far BK335.out NB335_379.out _) NB335_379.out _)) hb); replace BK357 := ak (blk_below (kK (blk_far (blk_far BK357.out NB357_379.out _) NB357_379.out _)) hb); replace BK364 := ak (blk_below (kK (blk_far (blk_far BK364.out NB364_379.out _) NB364_379.out _)) hb); replace BK371 := ak (blk_below (kK (blk_far (blk_far BK371.out NB371_379.out _) NB371_379.out _)) hb); replace BK379 := ak (blk_below (g := gb379) (o := .cells #[.slice Ao108 t372.length co108, .slice Ao115 t375.length co115] 25 (0, 0)) (by refine blk_put (cs := #[.slice Ao108 t372.length co108, .slice none 0 0]) ?_ 1 _ rfl; refine blk_put (cs := #[.slice none 0 0, .slice none 0 0]) ?_ 0 _ rfl; exact BK379.out) hb); replace HB := ak (below_step (by repeat (first | (with_reducible first | exact HB.out | refine below_set ?_ GE379.out) | exact HB.out)) hb); (try clear hb); (try clear hb2); (try clear hk); (try clear hi)))
 replace HO340 := ak (Kd.R_drew HO340.out)
 replace HO343 := ak (Kd.S_drew HO343.out)
 replace HO346 := ak (Kd.R_drew HO346.out)
 replace HO349 := ak (Kd.S_drew HO349.out)
 replace HO352 := ak (Kd.R_drew HO352.out)
 replace HO355 := ak (Kd.S_drew HO355.out)
 replace HO360 := ak (Kd.R_drew HO360.out)
 replace HO363 := ak (Kd.S_drew HO363.out)
 replace HO367 := ak (Kd.R_drew HO367.out)
 replace HO370 := ak (Kd.S_drew HO370.out)
 replace HO374 := ak (Kd.R_drew HO374.out)
 replace HO377 := ak (Kd.S_drew HO377.out)
 replace BK334 := ak (blk_drew BK334.out)
 replace BK335 := ak (blk_drew BK335.out)
 replace BK357 := ak (blk_drew BK357.out)
 replace BK364 := ak (blk_drew BK364.out)
 replace BK371 := ak (blk_drew BK371.out)
 replace BK379 := ak (blk_drew BK379.out)
 replace HB := ak (below_drew1 HB.out)
 refine start_ (n := 5) (S := fun w' => w'.cell? ⟨gb364, 0, none⟩ = some (.slice Ao86 t358.length co86) ∧ w'.cell? ⟨gb364, 1, none⟩ = some (.slice Ao91 t361.length co91) ∧ w'.cell? ⟨gb334, 0, none⟩ = some (.slice A0_0 l0_0.length c0_0) ∧ w'.cell? ⟨gb334, 1, none⟩ = some (.slice A0_1 l0_1.length c0_1)) (ds := []) #[false, false, false, false, false] (by kernel_rfl) rfl rfl ⟨(blk_cell BK364.out 0).trans rfl, (blk_cell BK364.out 1).trans rfl, (blk_cell BK334.out 0).trans rfl, (blk_cell BK334.out 1).trans rfl⟩ (fun hHeld => ?_)
 generalize w117.drew = w119 at HO340 HO343 HO346 HO349 HO352 HO355 HO360 HO363 HO367 HO370 HO374 HO377 BK334 BK335 BK357 BK364 BK371 BK379 HB hHeld ⊢
 refine take_ (i := 0) (N := some 54) (v := ?_) (a' := ?_) #[true, false, false, false, false] rfl rfl (by kernel_rfl) (fun _ _ _ h => h) (Or.inl ⟨by rfl, ?_⟩) hHeld ?_ ?_
 rotate_left
 ·rintro w' ⟨s0, s1, s2, s3⟩
  go_simp
  with_reducible rfl
 rotate_left
 ·simp only [Act.put, List.setIfInBounds_toArray, List.set_cons_zero, List.set_cons_succ, i64_w, i32_w]
  rfl
 refine take_ (i := 1) (N := some 55) (v := ?_) (a' := ?_) #[true, true, false, false, false] rfl rfl (by kernel_rfl) (fun _ _ _ h => h) (Or.inl ⟨by rfl, ?_⟩) hHeld ?_ ?_
 rotate_left
 ·rintro w' ⟨s0, s1, s2, s3⟩
  go_simp
  with_reducible rfl
 rotate_left
 ·simp only [Act.put, List.setIfInBounds_toArray, List.set_cons_zero, List.set_cons_succ, i64_w, i32_w]
  rfl
 refine one_ (i := 2) (N := some 56) #[true, true, true, false, false] rfl rfl (by kernel_rfl) (by decide) (fun K hK => ?_)
 refine goes_ Try.func25 (by kernel_rfl) rfl #[.agg #[.slice A0_0 l0_0.length c0_0, .slice A0_1 l0_1.length c0_1]] (by rfl) rfl rfl (by (try simp only [List.map_toArray, List.map_cons, List.map_nil]); first | done | rfl | (simp only [List.length_drop, List.length_take]; rfl)) ?_
 with_reducible refine (laws_toAlgebra.calls k _ _ l0_0 _ _ l0_1 t381 t384 _ ?side1 ?side2 ?side3 ?side4 A31.out).mono ?_
 (case side1 => exact kC (Kd.C_below HR0_0.out HB.out))
 (case side2 => exact HC0_0.out)
 (case side3 => exact kC (Kd.C_below HR0_1.out HB.out))
 (case side4 => exact HC0_1.out)
 rintro e w120 ⟨v382, v385, rfl, ho0, ho1, hb⟩
 refine ⟨_, rfl, ?_⟩
 obtain ⟨ag121, hag121⟩ := age_at hb
 replace HO340 := ak (age_oldR (kR HO340.out) hb hag121.out)
 replace HO343 := ak (age_oldS (kS HO343.out) hb hag121.out)
 replace HO346 := ak (age_oldR (kR HO346.out) hb hag121.out)
 replace HO349 := ak (age_oldS (kS HO349.out) hb hag121.out)
 replace HO352 := ak (age_oldR (kR HO352.out) hb hag121.out)
 replace HO355 := ak (age_oldS (kS HO355.out) hb hag121.out)
 replace HO360 := ak (age_oldR (kR HO360.out) hb hag121.out)
 replace HO363 := ak (age_oldS (kS HO363.out) hb hag121.out)
 replace HO367 := ak (age_oldR (kR HO367.out) hb hag121.out)
 replace HO370 := ak (age_oldS (kS HO370.out) hb hag121.out)
 replace HO374 := ak (age_oldR (kR HO374.out) hb hag121.out)
 replace HO377 := ak (age_oldS (kS HO377.out) hb hag121.out)
 have HO383 := ak (Kd.R_lower (age_newR ho0 hag121.out) (below_size (kB HB.out)))
 have HO386 := ak (Kd.S_lower (age_newS ho1 hag121.out) (below_size (kB HB.out)))
 replace BK334 := ak (blk_below (kK BK334.out) hb)
 replace BK335 := ak (blk_below (kK BK335.out) hb)
 replace BK357 := ak (blk_below (kK BK357.out) hb)
 replace BK364 := ak (blk_below (kK BK364.out) hb)
 replace BK371 := ak (blk_below (kK BK371.out) hb)
 replace BK379 := ak (blk_below (kK BK379.out) hb)
 replace HB := ak (below_step (kB HB.out) hb)
 (try clear hb)
 (try clear hb2)
 (try clear hk)
 (try clear hi)
 (try clear ho0)
 (try clear ho1)
 obtain ⟨Ao122, co122, eo122⟩ := Kd.R_slice HO383.out
 (first | subst eo122 | (injection eo122 with f1_ f2_ f3_; have f4_ := f1_.symm; have f5_ := f3_.symm; clear f1_ f2_ f3_; subst f4_; subst f5_))
 obtain ⟨Ao123, co123, eo123⟩ := Kd.S_slice HO386.out
 (first | subst eo123 | (injection eo123 with f1_ f2_ f3_; have f4_ := f1_.symm; have f5_ := f3_.symm; clear f1_ f2_ f3_; subst f4_; subst f5_))
 refine hK.out _ _ ⟨(blk_cell BK364.out 0).trans rfl, (blk_cell BK364.out 1).trans rfl, (blk_cell BK334.out 0).trans rfl, (blk_cell BK334.out 1).trans rfl⟩ (fun hHeld => ?_)
 clear hK K
 refine norm_ (a' := ?_) ?_ ?_
 rotate_left
 ·show Act.put _ (some 56) _ = _
  simp only [Act.put, List.setIfInBounds_toArray, List.set_cons_zero, List.set_cons_succ, i64_w, i32_w]
  rfl
 refine one_ (i := 3) (N := some 57) #[true, true, true, true, false] rfl rfl (by kernel_rfl) (by decide) (fun K hK => ?_)
 refine goes_ Try.func16 (by kernel_rfl) rfl #[.agg #[.slice Ao86 t358.length co86, .slice Ao91 t361.length co91], .agg #[.slice Ao122 t381.length co122, .slice Ao123 t384.length co123]] (by rfl) rfl rfl (by (try simp only [List.map_toArray, List.map_cons, List.map_nil]); first | done | rfl | (simp only [List.length_drop, List.length_take]; rfl)) ?_
 with_reducible refine (laws_eqAlgebra.calls k _ _ t358 _ _ t361 _ _ t381 _ _ t384 true _ ?side1 ?side2 ?side3 ?side4 ?side5 ?side6 ?side7 ?side8 A32.out).mono ?_
 (case side1 => exact kC (Kd.R_reads' HO360.out).2.2)
 (case side2 => exact (Kd.R_reads' HO360.out).2.1)
 (case side3 => exact kC (Kd.S_reads' HO363.out).2.2)
 (case side4 => exact (Kd.S_reads' HO363.out).2.1)
 (case side5 => exact kC (Kd.R_reads' HO383.out).2.2)
 (case side6 => exact (Kd.R_reads' HO383.out).2.1)
 (case side7 => exact kC (Kd.S_reads' HO386.out).2.2)
 (case side8 => exact (Kd.S_reads' HO386.out).2.1)
 rintro e w124 ⟨rfl, hb⟩
 refine ⟨_, rfl, ?_⟩
 obtain ⟨ag125, hag125⟩ := age_at hb
 replace HO340 := ak (age_oldR (kR HO340.out) hb hag125.out)
 replace HO343 := ak (age_oldS (kS HO343.out) hb hag125.out)
 replace HO346 := ak (age_oldR (kR HO346.out) hb hag125.out)
 replace HO349 := ak (age_oldS (kS HO349.out) hb hag125.out)
 replace HO352 := ak (age_oldR (kR HO352.out) hb hag125.out)
 replace HO355 := ak (age_oldS (kS HO355.out) hb hag125.out)
 replace HO360 := ak (age_oldR (kR HO360.out) hb hag125.out)
 replace HO363 := ak (age_oldS (kS HO363.out) hb hag125.out)
 replace HO367 := ak (age_oldR (kR HO367.out) hb hag125.out)
 replace HO370 := ak (age_oldS (kS HO370.out) hb hag125.out)
 replace HO374 := ak (age_oldR (kR HO374.out) hb hag125.out)
 replace HO377 := ak (age_oldS (kS HO377.out) hb hag125.out)
 replace HO383 := ak (age_oldR (kR HO383.out) hb hag125.out)
 replace HO386 := ak (age_oldS (kS HO386.out) hb hag125.out)
 replace BK334 := ak (blk_below (kK BK334.out) hb)
 replace BK335 := ak (blk_below (kK BK335.out) hb)
 replace BK357 := ak (blk_below (kK BK357.out) hb)
 replace BK364 := ak (blk_below (kK BK364.out) hb)
 replace BK371 := ak (blk_below (kK BK371.out) hb)
 replace BK379 := ak (blk_below (kK BK379.out) hb)
 replace HB := ak (below_step (kB HB.out) hb)
 (try clear hb)
 (try clear hb2)
 (try clear hk)
 (try clear hi)
 refine hK.out _ _ ⟨(blk_cell BK364.out 0).trans rfl, (blk_cell BK364.out 1).trans rfl, (blk_cell BK334.out 0).trans rfl, (blk_cell BK334.out 1).trans rfl⟩ (fun hHeld => ?_)
 clear hK K
 refine norm_ (a' := ?_) ?_ ?_
 rotate_left
 ·show Act.put _ (some 57) _ = _
  simp only [Act.put, List.setIfInBounds_toArray, List.set_cons_zero, List.set_cons_succ, i64_w, i32_w]
  rfl
 refine pure_ (i := 4) (N := some 58) (v := ?_) (a' := ?_) #[true, true, true, true, true] rfl rfl (by kernel_rfl) (fun _ _ _ h => h) (Or.inl ⟨by rfl, ?_⟩) ?_ ?_
 rotate_left
 ·intro w'
  go_simp
  with_reducible rfl
 rotate_left
 ·simp only [Act.put, List.setIfInBounds_toArray, List.set_cons_zero, List.set_cons_succ, i64_w, i32_w]
  rfl
 refine done_ (by kernel_rfl) ?_
 try go_wp2
 replace HO340 := ak (Kd.R_drew HO340.out)
 replace HO343 := ak (Kd.S_drew HO343.out)
 replace HO346 := ak (Kd.R_drew HO346.out)
 replace HO349 := ak (Kd.S_drew HO349.out)
 replace HO352 := ak (Kd.R_drew HO352.out)
 replace HO355 := ak (Kd.S_drew HO355.out)
 replace HO360 := ak (Kd.R_drew HO360.out)
 replace HO363 := ak (Kd.S_drew HO363.out)
 replace HO367 := ak (Kd.R_drew HO367.out)
 replace HO370 := ak (Kd.S_drew HO370.out)
 replace HO374 := ak (Kd.R_drew HO374.out)
 replace HO377 := ak (Kd.S_drew HO377.out)
 replace HO383 := ak (Kd.R_drew HO383.out)
 replace HO386 := ak (Kd.S_drew HO386.out)
 replace BK334 := ak (blk_drew BK334.out)
 replace BK335 := ak (blk_drew BK335.out)
 replace BK357 := ak (blk_drew BK357.out)
 replace BK364 := ak (blk_drew BK364.out)
 replace BK371 := ak (blk_drew BK371.out)
 replace BK379 := ak (blk_drew BK379.out)
 replace HB := ak (below_drew1 HB.out)
 refine start_ (n := 5) (S := fun w' => w'.cell? ⟨gb371, 0, none⟩ = some (.slice Ao97 t365.length co97) ∧ w'.cell? ⟨gb371, 1, none⟩ = some (.slice Ao103 t368.length co103) ∧ w'.cell? ⟨gb335, 0, none⟩ = some (.slice A1_0 l1_0.length c1_0) ∧ w'.cell? ⟨gb335, 1, none⟩ = some (.slice A1_1 l1_1.length c1_1)) (ds := []) #[false, false, false, false, false] (by kernel_rfl) rfl rfl ⟨(blk_cell BK371.out 0).trans rfl, (blk_cell BK371.out 1).trans rfl, (blk_cell BK335.out 0).trans rfl, (blk_cell BK335.out 1).trans rfl⟩ (fun hHeld => ?_)
 generalize w124.drew = w126 at HO340 HO343 HO346 HO349 HO352 HO355 HO360 HO363 HO367 HO370 HO374 HO377 HO383 HO386 BK334 BK335 BK357 BK364 BK371 BK379 HB hHeld ⊢
 refine take_ (i := 0) (N := some 59) (v := ?_) (a' := ?_) #[true, false, false, false, false] rfl rfl (by kernel_rfl) (fun _ _ _ h => h) (Or.inl ⟨by rfl, ?_⟩) hHeld ?_ ?_
 rotate_left
 ·rintro w' ⟨s0, s1, s2, s3⟩
  go_simp
  with_reducible rfl
 rotate_left
 ·simp only [Act.put, List.setIfInBounds_toArray, List.set_cons_zero, List.set_cons_succ, i64_w, i32_w]
  rfl
 refine take_ (i := 1) (N := some 60) (v := ?_) (a' := ?_) #[true, true, false, false, false] rfl rfl (by kernel_rfl) (fun _ _ _ h => h) (Or.inl ⟨by rfl, ?_⟩) hHeld ?_ ?_
 rotate_left
 ·rintro w' ⟨s0, s1, s2, s3⟩
  go_simp
  with_reducible rfl
 rotate_left
 ·simp only [Act.put, List.setIfInBounds_toArray, List.set_cons_zero, List.set_cons_succ, i64_w, i32_w]
  rfl
 refine one_ (i := 2) (N := some 61) #[true, true, true, false, false] rfl rfl (by kernel_rfl) (by decide) (fun K hK => ?_)
 refine goes_ Try.func25 (by kernel_rfl) rfl #[.agg #[.slice A1_0 l1_0.length c1_0, .slice A1_1 l1_1.length c1_1]] (by rfl) rfl rfl (by (try simp only [List.map_toArray, List.map_cons, List.map_nil]); first | done | rfl | (simp only [List.length_drop, List.length_take]; rfl)) ?_
 with_reducible refine (laws_toAlgebra.calls k _ _ l1_0 _ _ l1_1 t388 t391 _ ?side1 ?side2 ?side3 ?side4 A34.out).mono ?_
 (case side1 => exact kC (Kd.C_below HR1_0.out HB.out))
 (case side2 => exact HC1_0.out)
 (case side3 => exact kC (Kd.C_below HR1_1.out HB.out))
 (case side4 => exact HC1_1.out)
 rintro e w127 ⟨v389, v392, rfl, ho0, ho1, hb⟩
 refine ⟨_, rfl, ?_⟩
 obtain ⟨ag128, hag128⟩ := age_at hb
 replace HO340 := ak (age_oldR (kR HO340.out) hb hag128.out)
 replace HO343 := ak (age_oldS (kS HO343.out) hb hag128.out)
 replace HO346 := ak (age_oldR (kR HO346.out) hb hag128.out)
 replace HO349 := ak (age_oldS (kS HO349.out) hb hag128.out)
 replace HO352 := ak (age_oldR (kR HO352.out) hb hag128.out)
 replace HO355 := ak (age_oldS (kS HO355.out) hb hag128.out)
 replace HO360 := ak (age_oldR (kR HO360.out) hb hag128.out)
 replace HO363 := ak (age_oldS (kS HO363.out) hb hag128.out)
 replace HO367 := ak (age_oldR (kR HO367.out) hb hag128.out)
 replace HO370 := ak (age_oldS (kS HO370.out) hb hag128.out)
 replace HO374 := ak (age_oldR (kR HO374.out) hb hag128.out)
 replace HO377 := ak (age_oldS (kS HO377.out) hb hag128.out)
 replace HO383 := ak (age_oldR (kR HO383.out) hb hag128.out)
 replace HO386 := ak (age_oldS (kS HO386.out) hb hag128.out)
 have HO390 := ak (Kd.R_lower (age_newR ho0 hag128.out) (below_size (kB HB.out)))
 have HO393 := ak (Kd.S_lower (age_newS ho1 hag128.out) (below_size (kB HB.out)))
 replace BK334 := ak (blk_below (kK BK334.out) hb)
 replace BK335 := ak (blk_below (kK BK335.out) hb)
 replace BK357 := ak (blk_below (kK BK357.out) hb)
 replace BK364 := ak (blk_below (kK BK364.out) hb)
 replace BK371 := ak (blk_below (kK BK371.out) hb)
 replace BK379 := ak (blk_below (kK BK379.out) hb)
 replace HB := ak (below_step (kB HB.out) hb)
 (try clear hb)
 (try clear hb2)
 (try clear hk)
 (try clear hi)
 (try clear ho0)
 (try clear ho1)
 obtain ⟨Ao129, co129, eo129⟩ := Kd.R_slice HO390.out
 (first | subst eo129 | (injection eo129 with f1_ f2_ f3_; have f4_ := f1_.symm; have f5_ := f3_.symm; clear f1_ f2_ f3_; subst f4_; subst f5_))
 obtain ⟨Ao130, co130, eo130⟩ := Kd.S_slice HO393.out
 (first | subst eo130 | (injection eo130 with f1_ f2_ f3_; have f4_ := f1_.symm; have f5_ := f3_.symm; clear f1_ f2_ f3_; subst f4_; subst f5_))
 refine hK.out _ _ ⟨(blk_cell BK371.out 0).trans rfl, (blk_cell BK371.out 1).trans rfl, (blk_cell BK335.out 0).trans rfl, (blk_cell BK335.out 1).trans rfl⟩ (fun hHeld => ?_)
 clear hK K
 refine norm_ (a' := ?_) ?_ ?_
 rotate_left
 ·show Act.put _ (some 61) _ = _
  simp only [Act.put, List.setIfInBounds_toArray, List.set_cons_zero, List.set_cons_succ, i64_w, i32_w]
  rfl
 refine one_ (i := 3) (N := some 62) #[true, true, true, true, false] rfl rfl (by kernel_rfl) (by decide) (fun K hK => ?_)
 refine goes_ Try.func16 (by kernel_rfl) rfl #[.agg #[.slice Ao97 t365.length co97, .slice Ao103 t368.length co103], .agg #[.slice Ao129 t388.length co129, .slice Ao130 t391.length co130]] (by rfl) rfl rfl (by (try simp only [List.map_toArray, List.map_cons, List.map_nil]); first | done | rfl | (simp only [List.length_drop, List.length_take]; rfl)) ?_
 with_reducible refine (laws_eqAlgebra.calls k _ _ t365 _ _ t368 _ _ t388 _ _ t391 true _ ?side1 ?side2 ?side3 ?side4 ?side5 ?side6 ?side7 ?side8 A35.out).mono ?_
 (case side1 => exact kC (Kd.R_reads' HO367.out).2.2)
 (case side2 => exact (Kd.R_reads' HO367.out).2.1)
 (case side3 => exact kC (Kd.S_reads' HO370.out).2.2)
 (case side4 => exact (Kd.S_reads' HO370.out).2.1)
 (case side5 => exact kC (Kd.R_reads' HO390.out).2.2)
 (case side6 => exact (Kd.R_reads' HO390.out).2.1)
 (case side7 => exact kC (Kd.S_reads' HO393.out).2.2)
 (case side8 => exact (Kd.S_reads' HO393.out).2.1)
 rintro e w131 ⟨rfl, hb⟩
 refine ⟨_, rfl, ?_⟩
 obtain ⟨ag132, hag132⟩ := age_at hb
 replace HO340 := ak (age_oldR (kR HO340.out) hb hag132.out)
 replace HO343 := ak (age_oldS (kS HO343.out) hb hag132.out)
 replace HO346 := ak (age_oldR (kR HO346.out) hb hag132.out)
 replace HO349 := ak (age_oldS (kS HO349.out) hb hag132.out)
 replace HO352 := ak (age_oldR (kR HO352.out) hb hag132.out)
 replace HO355 := ak (age_oldS (kS HO355.out) hb hag132.out)
 replace HO360 := ak (age_oldR (kR HO360.out) hb hag132.out)
 replace HO363 := ak (age_oldS (kS HO363.out) hb hag132.out)
 replace HO367 := ak (age_oldR (kR HO367.out) hb hag132.out)
 replace HO370 := ak (age_oldS (kS HO370.out) hb hag132.out)
 replace HO374 := ak (age_oldR (kR HO374.out) hb hag132.out)
 replace HO377 := ak (age_oldS (kS HO377.out) hb hag132.out)
 replace HO383 := ak (age_oldR (kR HO383.out) hb hag132.out)
 replace HO386 := ak (age_oldS (kS HO386.out) hb hag132.out)
 replace HO390 := ak (age_oldR (kR HO390.out) hb hag132.out)
 replace HO393 := ak (age_oldS (kS HO393.out) hb hag132.out)
 replace BK334 := ak (blk_below (kK BK334.out) hb)
 replace BK335 := ak (blk_below (kK BK335.out) hb)
 replace BK357 := ak (blk_below (kK BK357.out) hb)
 replace BK364 := ak (blk_below (kK BK364.out) hb)
 replace BK371 := ak (blk_below (kK BK371.out) hb)
 replace BK379 := ak (blk_below (kK BK379.out) hb)
 replace HB := ak (below_step (kB HB.out) hb)
 (try clear hb)
 (try clear hb2)
 (try clear hk)
 (try clear hi)
 refine hK.out _ _ ⟨(blk_cell BK371.out 0).trans rfl, (blk_cell BK371.out 1).trans rfl, (blk_cell BK335.out 0).trans rfl, (blk_cell BK335.out 1).trans rfl⟩ (fun hHeld => ?_)
 clear hK K
 refine norm_ (a' := ?_) ?_ ?_
 rotate_left
 ·show Act.put _ (some 62) _ = _
  simp only [Act.put, List.setIfInBounds_toArray, List.set_cons_zero, List.set_cons_succ, i64_w, i32_w]
  rfl
 refine pure_ (i := 4) (N := some 63) (v := ?_) (a' := ?_) #[true, true, true, true, true] rfl rfl (by kernel_rfl) (fun _ _ _ h => h) (Or.inl ⟨by rfl, ?_⟩) ?_ ?_
 rotate_left
 ·intro w'
  go_simp
  with_reducible rfl
 rotate_left
 ·simp only [Act.put, List.setIfInBounds_toArray, List.set_cons_zero, List.set_cons_succ, i64_w, i32_w]
  rfl
 refine done_ (by kernel_rfl) ?_
 have hcz133_0 : w131.cell? ⟨gb364, 0, none⟩ = some (.slice Ao86 t358.length co86) := (blk_cell BK364.out 0).trans rfl
 have hcz133_1 : w131.cell? ⟨gb364, 1, none⟩ = some (.slice Ao91 t361.length co91) := (blk_cell BK364.out 1).trans rfl
 have hfz133_0 := blk_frozen BK364.out 0
 have hfz133_1 := blk_frozen BK364.out 1
 try go_wp2_with (first | ((with_reducible refine gate_callee (f := 19) rfl ?_); refine goesL_ (some 66) rfl rfl Try.func19 (by kernel_rfl) rfl #[.agg #[.slice Ao86 t358.length co86, .slice Ao91 t361.length co91], .int .i64 1] rfl (by (try simp only [List.map_toArray, List.map_cons, List.map_nil]); first | done | rfl | (simp only [List.length_drop, List.length_take]; rfl)) ?_; (with_reducible refine (laws_markAlgebra.calls k (fun k_ => some k_ = (.slice Ao86 t358.length co86 : Value).ownBlock) (.slice Ao86 t358.length co86) t358 (fun k_ => ((((((((((((((some k_ ≠ (.slice Ao86 t358.length co86 : Value).ownBlock ∧ ag84 ≤ k_) ∧ k_ < ag95) ∧ k_ < ag106) ∧ k_ < ag118) ∧ k_ < ag121) ∧ k_ < ag125) ∧ k_ < ag128) ∧ k_ < ag132) ∧ k_ ≠ gb334) ∧ k_ ≠ gb335) ∧ k_ ≠ gb357) ∧ k_ ≠ gb364) ∧ k_ ≠ gb371) ∧ k_ ≠ gb379)) (.slice Ao91 t361.length co91) t361 1 t395 t396 t397 w _ ?side1 ?side2 ?side3 ?side4 A37.out).mono ?_); (case side1 => exact bB HB.out); (case side2 => exact Kd.R_tight rfl (kR HO360.out)); (case side3 => exact (kS (Kd.S_types (Kd.S_types (Kd.S_types (Kd.S_types (Kd.S_types (Kd.S_types (HO363.out) BK334.out (by decide)) BK335.out (by decide)) BK357.out (by decide)) BK364.out (by decide)) BK371.out (by decide)) BK379.out (by decide)))); (case side4 => exact fun k_ e_ h_ => (h_.1.1.1.1.1.1.1.1.1.1.1.1.1.1) e_.symm); rintro e w134 ⟨rfl, hy0, hy1, hb, hkp⟩; refine ⟨_, rfl, ?_⟩; replace BK334 := ak (blk_kept (kK BK334.out) hkp (fun hs_ => Or.elim hs_ (fun hs_ => (Kd.R_ne HO360.out BK334.out (by decide)) hs_) (fun hs_ => (hs_.1.1.1.1.1.2) rfl))); replace BK335 := ak (blk_kept (kK BK335.out) hkp (fun hs_ => Or.elim hs_ (fun hs_ => (Kd.R_ne HO360.out BK335.out (by decide)) hs_) (fun hs_ => (hs_.1.1.1.1.2) rfl))); replace HO340 := ak (Kd.R_mono (Kd.R_kept (Kd.R_tight2 rfl (kR HO340.out)) hkp (fun k_ (hk_ : some k_ = (v339 : Value).ownBlock ∧ ((((((((True ∧ k_ < ag84) ∧ k_ < ag95) ∧ k_ < ag106) ∧ k_ < ag118) ∧ k_ < ag121) ∧ k_ < ag125) ∧ k_ < ag128) ∧ k_ < ag132)) hs_ => Or.elim hs_ (fun hs_ => Nat.not_lt.2 ((HO360.out.1 k_ hs_.symm).1.1.1.1.1.1.1.2) (hk_.2.1.1.1.1.1.1.1.2)) (fun hs_ => Nat.not_lt.2 (hs_.1.1.1.1.1.1.1.1.1.1.1.1.1.2) (hk_.2.1.1.1.1.1.1.1.2)))) (fun _ h_ => h_.2)); replace HO343 := ak (Kd.S_kept (kS HO343.out) hkp (fun k_ (hk_ : ((((((((some k_ ≠ (v339 : Value).ownBlock ∧ k_ < ag84) ∧ k_ < ag95) ∧ k_ < ag106) ∧ k_ < ag118) ∧ k_ < ag121) ∧ k_ < ag125) ∧ k_ < ag128) ∧ k_ < ag132)) hs_ => Or.elim hs_ (fun hs_ => Nat.not_lt.2 ((HO360.out.1 k_ hs_.symm).1.1.1.1.1.1.1.2) (hk_.1.1.1.1.1.1.1.2)) (fun hs_ => Nat.not_lt.2 (hs_.1.1.1.1.1.1.1.1.1.1.1.1.1.2) (hk_.1.1.1.1.1.1.1.2)))); replace HO346 := ak (Kd.R_mono (Kd.R_kept (Kd.R_tight2 rfl (kR HO346.out)) hkp (fun k_ (hk_ : some k_ = (v345 : Value).ownBlock ∧ ((((((((True ∧ k_ < ag84) ∧ k_ < ag95) ∧ k_ < ag106) ∧ k_ < ag118) ∧ k_ < ag121) ∧ k_ < ag125) ∧ k_ < ag128) ∧ k_ < ag132)) hs_ => Or.elim hs_ (fun hs_ => Nat.not_lt.2 ((HO360.out.1 k_ hs_.symm).1.1.1.1.1.1.1.2) (hk_.2.1.1.1.1.1.1.1.2)) (fun hs_ => Nat.not_lt.2 (hs_.1.1.1.1.1.1.1.1.1.1.1.1.1.2) (hk_.2.1.1.1.1.1.1.1.2)))) (fun _ h_ => h_.2)); replace HO349 := ak (Kd.S_kept (kS HO349.out) hkp (fun k_ (hk_ : ((((((((some k_ ≠ (v345 : Value).ownBlock ∧ k_ < ag84) ∧ k_ < ag95) ∧ k_ < ag106) ∧ k_ < ag118) ∧ k_ < ag121) ∧ k_ < ag125) ∧ k_ < ag128) ∧ k_ < ag132)) hs_ => Or.elim hs_ (fun hs_ => Nat.not_lt.2 ((HO360.out.1 k_ hs_.symm).1.1.1.1.1.1.1.2) (hk_.1.1.1.1.1.1.1.2)) (fun hs_ => Nat.not_lt.2 (hs_.1.1.1.1.1.1.1.1.1.1.1.1.1.2) (hk_.1.1.1.1.1.1.1.2)))); replace HO352 := ak (Kd.R_mono (Kd.R_kept (Kd.R_tight2 rfl (kR HO352.out)) hkp (fun k_ (hk_ : some k_ = (.slice Ao77 t350.length co77 : Value).ownBlock ∧ ((((((((True ∧ k_ < ag84) ∧ k_ < ag95) ∧ k_ < ag106) ∧ k_ < ag118) ∧ k_ < ag121) ∧ k_ < ag125) ∧ k_ < ag128) ∧ k_ < ag132)) hs_ => Or.elim hs_ (fun hs_ => Nat.not_lt.2 ((HO360.out.1 k_ hs_.symm).1.1.1.1.1.1.1.2) (hk_.2.1.1.1.1.1.1.1.2)) (fun hs_ => Nat.not_lt.2 (hs_.1.1.1.1.1.1.1.1.1.1.1.1.1.2) (hk_.2.1.1.1.1.1.1.1.2)))) (fun _ h_ => h_.2)); replace HO355 := ak (Kd.S_kept (kS HO355.out) hkp (fun k_ (hk_ : ((((((((some k_ ≠ (.slice Ao77 t350.length co77 : Value).ownBlock ∧ k_ < ag84) ∧ k_ < ag95) ∧ k_ < ag106) ∧ k_ < ag118) ∧ k_ < ag121) ∧ k_ < ag125) ∧ k_ < ag128) ∧ k_ < ag132)) hs_ => Or.elim hs_ (fun hs_ => Nat.not_lt.2 ((HO360.out.1 k_ hs_.symm).1.1.1.1.1.1.1.2) (hk_.1.1.1.1.1.1.1.2)) (fun hs_ => Nat.not_lt.2 (hs_.1.1.1.1.1.1.1.1.1.1.1.1.1.2) (hk_.1.1.1.1.1.1.1.2)))); replace BK357 := ak (blk_kept (kK BK357.out) hkp (fun hs_ => Or.elim hs_ (fun hs_ => (Kd.R_ne HO360.out BK357.out (by decide)) hs_) (fun hs_ => (hs_.1.1.1.2) rfl))); replace HO363 := ak (hy1); replace BK364 := ak (blk_kept (kK BK364.out) hkp (fun hs_ => Or.elim hs_ (fun hs_ => (Kd.R_ne HO360.out BK364.out (by decide)) hs_) (fun hs_ => (hs_.1.1.2) rfl))); replace HO367 := ak (Kd.R_mono (Kd.R_kept (Kd.R_tight2 rfl (kR HO367.out)) hkp (fun k_ (hk_ : some k_ = (.slice Ao97 t365.length co97 : Value).ownBlock ∧ (((((((True ∧ ag95 ≤ k_) ∧ k_ < ag106) ∧ k_ < ag118) ∧ k_ < ag121) ∧ k_ < ag125) ∧ k_ < ag128) ∧ k_ < ag132)) hs_ => Or.elim hs_ (fun hs_ => Nat.not_lt.2 (hk_.2.1.1.1.1.1.1.2) ((HO360.out.1 k_ hs_.symm).1.1.1.1.1.1.2)) (fun hs_ => Nat.not_lt.2 (hk_.2.1.1.1.1.1.1.2) (hs_.1.1.1.1.1.1.1.1.1.1.1.1.2)))) (fun _ h_ => h_.2)); replace HO370 := ak (Kd.S_kept (kS HO370.out) hkp (fun k_ (hk_ : (((((((some k_ ≠ (.slice Ao97 t365.length co97 : Value).ownBlock ∧ ag95 ≤ k_) ∧ k_ < ag106) ∧ k_ < ag118) ∧ k_ < ag121) ∧ k_ < ag125) ∧ k_ < ag128) ∧ k_ < ag132)) hs_ => Or.elim hs_ (fun hs_ => Nat.not_lt.2 (hk_.1.1.1.1.1.1.2) ((HO360.out.1 k_ hs_.symm).1.1.1.1.1.1.2)) (fun hs_ => Nat.not_lt.2 (hk_.1.1.1.1.1.1.2) (hs_.1.1.1.1.1.1.1.1.1.1.1.1.2)))); replace BK371 := ak (blk_kept (kK BK371.out) hkp (fun hs_ => Or.elim hs_ (fun hs_ => (Kd.R_ne HO360.out BK371.out (by decide)) hs_) (fun hs_ => (hs_.1.2) rfl))); replace HO374 := ak (Kd.R_mono (Kd.R_kept (Kd.R_tight2 rfl (kR HO374.out)) hkp (fun k_ (hk_ : some k_ = (.slice Ao108 t372.length co108 : Value).ownBlock ∧ ((((((True ∧ ag106 ≤ k_) ∧ k_ < ag118) ∧ k_ < ag121) ∧ k_ < ag125) ∧ k_ < ag128) ∧ k_ < ag132)) hs_ => Or.elim hs_ (fun hs_ => Nat.not_lt.2 (hk_.2.1.1.1.1.1.2) ((HO360.out.1 k_ hs_.symm).1.1.1.1.1.2)) (fun hs_ => Nat.not_lt.2 (hk_.2.1.1.1.1.1.2) (hs_.1.1.1.1.1.1.1.1.1.1.1.2)))) (fun _ h_ => h_.2)); replace HO377 := ak (Kd.S_kept (kS HO377.out) hkp (fun k_ (hk_ : ((((((some k_ ≠ (.slice Ao108 t372.length co108 : Value).ownBlock ∧ ag106 ≤ k_) ∧ k_ < ag118) ∧ k_ < ag121) ∧ k_ < ag125) ∧ k_ < ag128) ∧ k_ < ag132)) hs_ => Or.elim hs_ (fun hs_ => Nat.not_lt.2 (hk_.1.1.1.1.1.2) ((HO360.out.1 k_ hs_.symm).1.1.1.1.1.2)) (fun hs_ => Nat.not_lt.2 (hk_.1.1.1.1.1.2) (hs_.1.1.1.1.1.1.1.1.1.1.1.2)))); replace BK379 := ak (blk_kept (kK BK379.out) hkp (fun hs_ => Or.elim hs_ (fun hs_ => (Kd.R_ne HO360.out BK379.out (by decide)) hs_) (fun hs_ => (hs_.2) rfl))); replace HO383 := ak (Kd.R_mono (Kd.R_kept (Kd.R_tight2 rfl (kR HO383.out)) hkp (fun k_ (hk_ : some k_ = (.slice Ao122 t381.length co122 : Value).ownBlock ∧ ((((True ∧ ag121 ≤ k_) ∧ k_ < ag125) ∧ k_ < ag128) ∧ k_ < ag132)) hs_ => Or.elim hs_ (fun hs_ => Nat.not_lt.2 (hk_.2.1.1.1.2) ((HO360.out.1 k_ hs_.symm).1.1.1.2)) (fun hs_ => Nat.not_lt.2 (hk_.2.1.1.1.2) (hs_.1.1.1.1.1.1.1.1.1.2)))) (fun _ h_ => h_.2)); replace HO386 := ak (Kd.S_kept (kS HO386.out) hkp (fun k_ (hk_ : ((((some k_ ≠ (.slice Ao122 t381.length co122 : Value).ownBlock ∧ ag121 ≤ k_) ∧ k_ < ag125) ∧ k_ < ag128) ∧ k_ < ag132)) hs_ => Or.elim hs_ (fun hs_ => Nat.not_lt.2 (hk_.1.1.1.2) ((HO360.out.1 k_ hs_.symm).1.1.1.2)) (fun hs_ => Nat.not_lt.2 (hk_.1.1.1.2) (hs_.1.1.1.1.1.1.1.1.1.2)))); replace HO390 := ak (Kd.R_mono (Kd.R_kept (Kd.R_tight2 rfl (kR HO390.out)) hkp (fun k_ (hk_ : some k_ = (.slice Ao129 t388.length co129 : Value).ownBlock ∧ ((True ∧ ag128 ≤ k_) ∧ k_ < ag132)) hs_ => Or.elim hs_ (fun hs_ => Nat.not_lt.2 (hk_.2.1.2) ((HO360.out.1 k_ hs_.symm).1.2)) (fun hs_ => Nat.not_lt.2 (hk_.2.1.2) (hs_.1.1.1.1.1.1.1.2)))) (fun _ h_ => h_.2)); replace HO393 := ak (Kd.S_kept (kS HO393.out) hkp (fun k_ (hk_ : ((some k_ ≠ (.slice Ao129 t388.length co129 : Value).ownBlock ∧ ag128 ≤ k_) ∧ k_ < ag132)) hs_ => Or.elim hs_ (fun hs_ => Nat.not_lt.2 (hk_.1.2) ((HO360.out.1 k_ hs_.symm).1.2)) (fun hs_ => Nat.not_lt.2 (hk_.1.2) (hs_.1.1.1.1.1.1.1.2)))); replace HO360 := ak (Kd.R_reok rfl hy0 (fun k_ e_ => HO360.out.1 k_ e_)); replace HB := ak (hb); (try clear hb); (try clear hkp); (try clear hy0); (try clear hy1); have hcz135_0 : w134.cell? ⟨gb371, 0, none⟩ = some (.slice Ao97 t365.length co97) := (blk_cell BK371.out 0).trans rfl; have hcz135_1 : w134.cell? ⟨gb371, 1, none⟩ = some (.slice Ao103 t368.length co103) := (blk_cell BK371.out 1).trans rfl; have hfz135_0 := blk_frozen BK371.out 0; have hfz135_1 := blk_frozen BK371.out 1) | ((with_reducible refine gate_callee (f := 19) rfl ?_); refine goesL_ (some 69) rfl rfl Try.func19 (by kernel_rfl) rfl #[.agg #[.slice Ao97 t365.length co97, .slice Ao103 t368.length co103], .int .i64 t395] rfl (by (try simp only [List.map_toArray, List.map_cons, List.map_nil]); first | done | rfl | (simp only [List.length_drop, List.length_take]; rfl)) ?_; (with_reducible refine (laws_markAlgebra.calls k (fun k_ => some k_ = (.slice Ao97 t365.length co97 : Value).ownBlock) (.slice Ao97 t365.length co97) t365 (fun k_ => (((((((((((((some k_ ≠ (.slice Ao97 t365.length co97 : Value).ownBlock ∧ ag95 ≤ k_) ∧ k_ < ag106) ∧ k_ < ag118) ∧ k_ < ag121) ∧ k_ < ag125) ∧ k_ < ag128) ∧ k_ < ag132) ∧ k_ ≠ gb334) ∧ k_ ≠ gb335) ∧ k_ ≠ gb357) ∧ k_ ≠ gb364) ∧ k_ ≠ gb371) ∧ k_ ≠ gb379)) (.slice Ao103 t368.length co103) t368 t395 t398 t399 t400 w _ ?side1 ?side2 ?side3 ?side4 A38.out).mono ?_); (case side1 => exact bB HB.out); (case side2 => exact Kd.R_tight rfl (kR HO367.out)); (case side3 => exact (kS (Kd.S_types (Kd.S_types (Kd.S_types (Kd.S_types (Kd.S_types (Kd.S_types (HO370.out) BK334.out (by decide)) BK335.out (by decide)) BK357.out (by decide)) BK364.out (by decide)) BK371.out (by decide)) BK379.out (by decide)))); (case side4 => exact fun k_ e_ h_ => (h_.1.1.1.1.1.1.1.1.1.1.1.1.1) e_.symm); rintro e w136 ⟨rfl, hy0, hy1, hb, hkp⟩; refine ⟨_, rfl, ?_⟩; replace BK334 := ak (blk_kept (kK BK334.out) hkp (fun hs_ => Or.elim hs_ (fun hs_ => (Kd.R_ne HO367.out BK334.out (by decide)) hs_) (fun hs_ => (hs_.1.1.1.1.1.2) rfl))); replace BK335 := ak (blk_kept (kK BK335.out) hkp (fun hs_ => Or.elim hs_ (fun hs_ => (Kd.R_ne HO367.out BK335.out (by decide)) hs_) (fun hs_ => (hs_.1.1.1.1.2) rfl))); replace HO340 := ak (Kd.R_mono (Kd.R_kept (Kd.R_tight2 rfl (kR HO340.out)) hkp (fun k_ (hk_ : some k_ = (v339 : Value).ownBlock ∧ ((((((((True ∧ k_ < ag84) ∧ k_ < ag95) ∧ k_ < ag106) ∧ k_ < ag118) ∧ k_ < ag121) ∧ k_ < ag125) ∧ k_ < ag128) ∧ k_ < ag132)) hs_ => Or.elim hs_ (fun hs_ => Nat.not_lt.2 ((HO367.out.1 k_ hs_.symm).1.1.1.1.1.1.2) (hk_.2.1.1.1.1.1.1.2)) (fun hs_ => Nat.not_lt.2 (hs_.1.1.1.1.1.1.1.1.1.1.1.1.2) (hk_.2.1.1.1.1.1.1.2)))) (fun _ h_ => h_.2)); replace HO343 := ak (Kd.S_kept (kS HO343.out) hkp (fun k_ (hk_ : ((((((((some k_ ≠ (v339 : Value).ownBlock ∧ k_ < ag84) ∧ k_ < ag95) ∧ k_ < ag106) ∧ k_ < ag118) ∧ k_ < ag121) ∧ k_ < ag125) ∧ k_ < ag128) ∧ k_ < ag132)) hs_ => Or.elim hs_ (fun hs_ => Nat.not_lt.2 ((HO367.out.1 k_ hs_.symm).1.1.1.1.1.1.2) (hk_.1.1.1.1.1.1.2)) (fun hs_ => Nat.not_lt.2 (hs_.1.1.1.1.1.1.1.1.1.1.1.1.2) (hk_.1.1.1.1.1.1.2)))); replace HO346 := ak (Kd.R_mono (Kd.R_kept (Kd.R_tight2 rfl (kR HO346.out)) hkp (fun k_ (hk_ : some k_ = (v345 : Value).ownBlock ∧ ((((((((True ∧ k_ < ag84) ∧ k_ < ag95) ∧ k_ < ag106) ∧ k_ < ag118) ∧ k_ < ag121) ∧ k_ < ag125) ∧ k_ < ag128) ∧ k_ < ag132)) hs_ => Or.elim hs_ (fun hs_ => Nat.not_lt.2 ((HO367.out.1 k_ hs_.symm).1.1.1.1.1.1.2) (hk_.2.1.1.1.1.1.1.2)) (fun hs_ => Nat.not_lt.2 (hs_.1.1.1.1.1.1.1.1.1.1.1.1.2) (hk_.2.1.1.1.1.1.1.2)))) (fun _ h_ => h_.2)); replace HO349 := ak (Kd.S_kept (kS HO349.out) hkp (fun k_ (hk_ : ((((((((some k_ ≠ (v345 : Value).ownBlock ∧ k_ < ag84) ∧ k_ < ag95) ∧ k_ < ag106) ∧ k_ < ag118) ∧ k_ < ag121) ∧ k_ < ag125) ∧ k_ < ag128) ∧ k_ < ag132)) hs_ => Or.elim hs_ (fun hs_ => Nat.not_lt.2 ((HO367.out.1 k_ hs_.symm).1.1.1.1.1.1.2) (hk_.1.1.1.1.1.1.2)) (fun hs_ => Nat.not_lt.2 (hs_.1.1.1.1.1.1.1.1.1.1.1.1.2) (hk_.1.1.1.1.1.1.2)))); replace HO352 := ak (Kd.R_mono (Kd.R_kept (Kd.R_tight2 rfl (kR HO352.out)) hkp (fun k_ (hk_ : some k_ = (.slice Ao77 t350.length co77 : Value).ownBlock ∧ ((((((((True ∧ k_ < ag84) ∧ k_ < ag95) ∧ k_ < ag106) ∧ k_ < ag118) ∧ k_ < ag121) ∧ k_ < ag125) ∧ k_ < ag128) ∧ k_ < ag132)) hs_ => Or.elim hs_ (fun hs_ => Nat.not_lt.2 ((HO367.out.1 k_ hs_.symm).1.1.1.1.1.1.2) (hk_.2.1.1.1.1.1.1.2)) (fun hs_ => Nat.not_lt.2 (hs_.1.1.1.1.1.1.1.1.1.1.1.1.2) (hk_.2.1.1.1.1.1.1.2)))) (fun _ h_ => h_.2)); replace HO355 := ak (Kd.S_kept (kS HO355.out) hkp (fun k_ (hk_ : ((((((((some k_ ≠ (.slice Ao77 t350.length co77 : Value).ownBlock ∧ k_ < ag84) ∧ k_ < ag95) ∧ k_ < ag106) ∧ k_ < ag118) ∧ k_ < ag121) ∧ k_ < ag125) ∧ k_ < ag128) ∧ k_ < ag132)) hs_ => Or.elim hs_ (fun hs_ => Nat.not_lt.2 ((HO367.out.1 k_ hs_.symm).1.1.1.1.1.1.2) (hk_.1.1.1.1.1.1.2)) (fun hs_ => Nat.not_lt.2 (hs_.1.1.1.1.1.1.1.1.1.1.1.1.2) (hk_.1.1.1.1.1.1.2)))); replace BK357 := ak (blk_kept (kK BK357.out) hkp (fun hs_ => Or.elim hs_ (fun hs_ => (Kd.R_ne HO367.out BK357.out (by decide)) hs_) (fun hs_ => (hs_.1.1.1.2) rfl))); replace HO360 := ak (Kd.R_mono (Kd.R_kept (Kd.R_tight2 rfl (kR HO360.out)) hkp (fun k_ (hk_ : some k_ = (.slice Ao86 t358.length co86 : Value).ownBlock ∧ ((((((((True ∧ ag84 ≤ k_) ∧ k_ < ag95) ∧ k_ < ag106) ∧ k_ < ag118) ∧ k_ < ag121) ∧ k_ < ag125) ∧ k_ < ag128) ∧ k_ < ag132)) hs_ => Or.elim hs_ (fun hs_ => Nat.not_lt.2 ((HO367.out.1 k_ hs_.symm).1.1.1.1.1.1.2) (hk_.2.1.1.1.1.1.1.2)) (fun hs_ => Nat.not_lt.2 (hs_.1.1.1.1.1.1.1.1.1.1.1.1.2) (hk_.2.1.1.1.1.1.1.2)))) (fun _ h_ => h_.2)); replace HO363 := ak (Kd.S_kept (kS HO363.out) hkp (fun k_ (hk_ : ((((((((((((((some k_ ≠ (.slice Ao86 t358.length co86 : Value).ownBlock ∧ ag84 ≤ k_) ∧ k_ < ag95) ∧ k_ < ag106) ∧ k_ < ag118) ∧ k_ < ag121) ∧ k_ < ag125) ∧ k_ < ag128) ∧ k_ < ag132) ∧ k_ ≠ gb334) ∧ k_ ≠ gb335) ∧ k_ ≠ gb357) ∧ k_ ≠ gb364) ∧ k_ ≠ gb371) ∧ k_ ≠ gb379)) hs_ => Or.elim hs_ (fun hs_ => Nat.not_lt.2 ((HO367.out.1 k_ hs_.symm).1.1.1.1.1.1.2) (hk_.1.1.1.1.1.1.1.1.1.1.1.1.2)) (fun hs_ => Nat.not_lt.2 (hs_.1.1.1.1.1.1.1.1.1.1.1.1.2) (hk_.1.1.1.1.1.1.1.1.1.1.1.1.2)))); replace BK364 := ak (blk_kept (kK BK364.out) hkp (fun hs_ => Or.elim hs_ (fun hs_ => (Kd.R_ne HO367.out BK364.out (by decide)) hs_) (fun hs_ => (hs_.1.1.2) rfl))); replace HO370 := ak (hy1); replace BK371 := ak (blk_kept (kK BK371.out) hkp (fun hs_ => Or.elim hs_ (fun hs_ => (Kd.R_ne HO367.out BK371.out (by decide)) hs_) (fun hs_ => (hs_.1.2) rfl))); replace HO374 := ak (Kd.R_mono (Kd.R_kept (Kd.R_tight2 rfl (kR HO374.out)) hkp (fun k_ (hk_ : some k_ = (.slice Ao108 t372.length co108 : Value).ownBlock ∧ ((((((True ∧ ag106 ≤ k_) ∧ k_ < ag118) ∧ k_ < ag121) ∧ k_ < ag125) ∧ k_ < ag128) ∧ k_ < ag132)) hs_ => Or.elim hs_ (fun hs_ => Nat.not_lt.2 (hk_.2.1.1.1.1.1.2) ((HO367.out.1 k_ hs_.symm).1.1.1.1.1.2)) (fun hs_ => Nat.not_lt.2 (hk_.2.1.1.1.1.1.2) (hs_.1.1.1.1.1.1.1.1.1.1.1.2)))) (fun _ h_ => h_.2)); replace HO377 := ak (Kd.S_kept (kS HO377.out) hkp (fun k_ (hk_ : ((((((some k_ ≠ (.slice Ao108 t372.length co108 : Value).ownBlock ∧ ag106 ≤ k_) ∧ k_ < ag118) ∧ k_ < ag121) ∧ k_ < ag125) ∧ k_ < ag128) ∧ k_ < ag132)) hs_ => Or.elim hs_ (fun hs_ => Nat.not_lt.2 (hk_.1.1.1.1.1.2) ((HO367.out.1 k_ hs_.symm).1.1.1.1.1.2)) (fun hs_ => Nat.not_lt.2 (hk_.1.1.1.1.1.2) (hs_.1.1.1.1.1.1.1.1.1.1.1.2)))); replace BK379 := ak (blk_kept (kK BK379.out) hkp (fun hs_ => Or.elim hs_ (fun hs_ => (Kd.R_ne HO367.out BK379.out (by decide)) hs_) (fun hs_ => (hs_.2) rfl))); replace HO383 := ak (Kd.R_mono (Kd.R_kept (Kd.R_tight2 rfl (kR HO383.out)) hkp (fun k_ (hk_ : some k_ = (.slice Ao122 t381.length co122 : Value).ownBlock ∧ ((((True ∧ ag121 ≤ k_) ∧ k_ < ag125) ∧ k_ < ag128) ∧ k_ < ag132)) hs_ => Or.elim hs_ (fun hs_ => Nat.not_lt.2 (hk_.2.1.1.1.2) ((HO367.out.1 k_ hs_.symm).1.1.1.2)) (fun hs_ => Nat.not_lt.2 (hk_.2.1.1.1.2) (hs_.1.1.1.1.1.1.1.1.1.2)))) (fun _ h_ => h_.2)); replace HO386 := ak (Kd.S_kept (kS HO386.out) hkp (fun k_ (hk_ : ((((some k_ ≠ (.slice Ao122 t381.length co122 : Value).ownBlock ∧ ag121 ≤ k_) ∧ k_ < ag125) ∧ k_ < ag128) ∧ k_ < ag132)) hs_ => Or.elim hs_ (fun hs_ => Nat.not_lt.2 (hk_.1.1.1.2) ((HO367.out.1 k_ hs_.symm).1.1.1.2)) (fun hs_ => Nat.not_lt.2 (hk_.1.1.1.2) (hs_.1.1.1.1.1.1.1.1.1.2)))); replace HO390 := ak (Kd.R_mono (Kd.R_kept (Kd.R_tight2 rfl (kR HO390.out)) hkp (fun k_ (hk_ : some k_ = (.slice Ao129 t388.length co129 : Value).ownBlock ∧ ((True ∧ ag128 ≤ k_) ∧ k_ < ag132)) hs_ => Or.elim hs_ (fun hs_ => Nat.not_lt.2 (hk_.2.1.2) ((HO367.out.1 k_ hs_.symm).1.2)) (fun hs_ => Nat.not_lt.2 (hk_.2.1.2) (hs_.1.1.1.1.1.1.1.2)))) (fun _ h_ => h_.2)); replace HO393 := ak (Kd.S_kept (kS HO393.out) hkp (fun k_ (hk_ : ((some k_ ≠ (.slice Ao129 t388.length co129 : Value).ownBlock ∧ ag128 ≤ k_) ∧ k_ < ag132)) hs_ => Or.elim hs_ (fun hs_ => Nat.not_lt.2 (hk_.1.2) ((HO367.out.1 k_ hs_.symm).1.2)) (fun hs_ => Nat.not_lt.2 (hk_.1.2) (hs_.1.1.1.1.1.1.1.2)))); replace HO367 := ak (Kd.R_reok rfl hy0 (fun k_ e_ => HO367.out.1 k_ e_)); replace HB := ak (hb); (try clear hb); (try clear hkp); (try clear hy0); (try clear hy1); have hcz137_0 : w136.cell? ⟨gb379, 0, none⟩ = some (.slice Ao108 t372.length co108) := (blk_cell BK379.out 0).trans rfl; have hcz137_1 : w136.cell? ⟨gb379, 1, none⟩ = some (.slice Ao115 t375.length co115) := (blk_cell BK379.out 1).trans rfl; have hfz137_0 := blk_frozen BK379.out 0; have hfz137_1 := blk_frozen BK379.out 1; have hcz138_0 : w136.cell? ⟨gb357, 0, none⟩ = some (.slice Ao77 t350.length co77) := (blk_cell BK357.out 0).trans rfl; have hcz138_1 : w136.cell? ⟨gb357, 1, none⟩ = some (.slice Ao79 t353.length co79) := (blk_cell BK357.out 1).trans rfl; have hfz138_0 := blk_frozen BK357.out 0; have hfz138_1 := blk_frozen BK357.out 1) | (go_at_call 16; (with_reducible refine (laws_eqAlgebra.calls k _ _ t372 _ _ t375 _ _ t350 _ _ t353 true _ ?side1 ?side2 ?side3 ?side4 ?side5 ?side6 ?side7 ?side8 A40.out).mono ?_); (case side1 => exact kC (Kd.R_reads' HO374.out).2.2); (case side2 => exact (Kd.R_reads' HO374.out).2.1); (case side3 => exact kC (Kd.S_reads' HO377.out).2.2); (case side4 => exact (Kd.S_reads' HO377.out).2.1); (case side5 => exact kC (Kd.R_reads' HO352.out).2.2); (case side6 => exact (Kd.R_reads' HO352.out).2.1); (case side7 => exact kC (Kd.S_reads' HO355.out).2.2); (case side8 => exact (Kd.S_reads' HO355.out).2.1); rintro e w139 ⟨rfl, hb⟩; obtain ⟨ag140, hag140⟩ := age_at hb; replace HO340 := ak (age_oldR (kR HO340.out) hb hag140.out); replace HO343 := ak (age_oldS (kS HO343.out) hb hag140.out); replace HO346 := ak (age_oldR (kR HO346.out) hb hag140.out); replace HO349 := ak (age_oldS (kS HO349.out) hb hag140.out); replace HO352 := ak (age_oldR (kR HO352.out) hb hag140.out); replace HO355 := ak (age_oldS (kS HO355.out) hb hag140.out); replace HO360 := ak (age_oldR (kR HO360.out) hb hag140.out); replace HO363 := ak (age_oldS (kS HO363.out) hb hag140.out); replace HO367 := ak (age_oldR (kR HO367.out) hb hag140.out); replace HO370 := ak (age_oldS (kS HO370.out) hb hag140.out); replace HO374 := ak (age_oldR (kR HO374.out) hb hag140.out); replace HO377 := ak (age_oldS (kS HO377.out) hb hag140.out); replace HO383 := ak (age_oldR (kR HO383.out) hb hag140.out); replace HO386 := ak (age_oldS (kS HO386.out) hb hag140.out); replace HO390 := ak (age_oldR (kR HO390.out) hb hag140.out); replace HO393 := ak (age_oldS (kS HO393.out) hb hag140.out); replace BK334 := ak (blk_below (kK BK334.out) hb); replace BK335 := ak (blk_below (kK BK335.out) hb); replace BK357 := ak (blk_below (kK BK357.out) hb); replace BK364 := ak (blk_below (kK BK364.out) hb); replace BK371 := ak (blk_below (kK BK371.out) hb); replace BK379 := ak (blk_below (kK BK379.out) hb); replace HB := ak (below_step (kB HB.out) hb); (try clear hb); (try clear hb2); (try clear hk); (try clear hi); have hcz141_0 : w139.cell? ⟨gb379, 0, none⟩ = some (.slice Ao108 t372.length co108) := (blk_cell BK379.out 0).trans rfl; have hcz141_1 : w139.cell? ⟨gb379, 1, none⟩ = some (.slice Ao115 t375.length co115) := (blk_cell BK379.out 1).trans rfl; have hfz141_0 := blk_frozen BK379.out 0; have hfz141_1 := blk_frozen BK379.out 1) | ((with_reducible refine gate_callee (f := 19) rfl ?_); refine goesL_ (some 85) rfl rfl Try.func19 (by kernel_rfl) rfl #[.agg #[.slice Ao108 t372.length co108, .slice Ao115 t375.length co115], .int .i64 1] rfl (by (try simp only [List.map_toArray, List.map_cons, List.map_nil]); first | done | rfl | (simp only [List.length_drop, List.length_take]; rfl)) ?_; (with_reducible refine (laws_markAlgebra.calls k (fun k_ => some k_ = (.slice Ao108 t372.length co108 : Value).ownBlock) (.slice Ao108 t372.length co108) t372 (fun k_ => (((((((((((((some k_ ≠ (.slice Ao108 t372.length co108 : Value).ownBlock ∧ ag106 ≤ k_) ∧ k_ < ag118) ∧ k_ < ag121) ∧ k_ < ag125) ∧ k_ < ag128) ∧ k_ < ag132) ∧ k_ < ag140) ∧ k_ ≠ gb334) ∧ k_ ≠ gb335) ∧ k_ ≠ gb357) ∧ k_ ≠ gb364) ∧ k_ ≠ gb371) ∧ k_ ≠ gb379)) (.slice Ao115 t375.length co115) t375 1 t402 t403 t404 w _ ?side1 ?side2 ?side3 ?side4 A42.out).mono ?_); (case side1 => exact bB HB.out); (case side2 => exact Kd.R_tight rfl (kR HO374.out)); (case side3 => exact (kS (Kd.S_types (Kd.S_types (Kd.S_types (Kd.S_types (Kd.S_types (Kd.S_types (HO377.out) BK334.out (by decide)) BK335.out (by decide)) BK357.out (by decide)) BK364.out (by decide)) BK371.out (by decide)) BK379.out (by decide)))); (case side4 => exact fun k_ e_ h_ => (h_.1.1.1.1.1.1.1.1.1.1.1.1.1) e_.symm); rintro e w142 ⟨rfl, hy0, hy1, hb, hkp⟩; refine ⟨_, rfl, ?_⟩; replace BK334 := ak (blk_kept (kK BK334.out) hkp (fun hs_ => Or.elim hs_ (fun hs_ => (Kd.R_ne HO374.out BK334.out (by decide)) hs_) (fun hs_ => (hs_.1.1.1.1.1.2) rfl))); replace BK335 := ak (blk_kept (kK BK335.out) hkp (fun hs_ => Or.elim hs_ (fun hs_ => (Kd.R_ne HO374.out BK335.out (by decide)) hs_) (fun hs_ => (hs_.1.1.1.1.2) rfl))); replace HO340 := ak (Kd.R_mono (Kd.R_kept (Kd.R_tight2 rfl (kR HO340.out)) hkp (fun k_ (hk_ : some k_ = (v339 : Value).ownBlock ∧ (((((((((True ∧ k_ < ag84) ∧ k_ < ag95) ∧ k_ < ag106) ∧ k_ < ag118) ∧ k_ < ag121) ∧ k_ < ag125) ∧ k_ < ag128) ∧ k_ < ag132) ∧ k_ < ag140)) hs_ => Or.elim hs_ (fun hs_ => Nat.not_lt.2 ((HO374.out.1 k_ hs_.symm).1.1.1.1.1.1.2) (hk_.2.1.1.1.1.1.1.2)) (fun hs_ => Nat.not_lt.2 (hs_.1.1.1.1.1.1.1.1.1.1.1.1.2) (hk_.2.1.1.1.1.1.1.2)))) (fun _ h_ => h_.2)); replace HO343 := ak (Kd.S_kept (kS HO343.out) hkp (fun k_ (hk_ : (((((((((some k_ ≠ (v339 : Value).ownBlock ∧ k_ < ag84) ∧ k_ < ag95) ∧ k_ < ag106) ∧ k_ < ag118) ∧ k_ < ag121) ∧ k_ < ag125) ∧ k_ < ag128) ∧ k_ < ag132) ∧ k_ < ag140)) hs_ => Or.elim hs_ (fun hs_ => Nat.not_lt.2 ((HO374.out.1 k_ hs_.symm).1.1.1.1.1.1.2) (hk_.1.1.1.1.1.1.2)) (fun hs_ => Nat.not_lt.2 (hs_.1.1.1.1.1.1.1.1.1.1.1.1.2) (hk_.1.1.1.1.1.1.2)))); replace HO346 := ak (Kd.R_mono (Kd.R_kept (Kd.R_tight2 rfl (kR HO346.out)) hkp (fun k_ (hk_ : some k_ = (v345 : Value).ownBlock ∧ (((((((((True ∧ k_ < ag84) ∧ k_ < ag95) ∧ k_ < ag106) ∧ k_ < ag118) ∧ k_ < ag121) ∧ k_ < ag125) ∧ k_ < ag128) ∧ k_ < ag132) ∧ k_ < ag140)) hs_ => Or.elim hs_ (fun hs_ => Nat.not_lt.2 ((HO374.out.1 k_ hs_.symm).1.1.1.1.1.1.2) (hk_.2.1.1.1.1.1.1.2)) (fun hs_ => Nat.not_lt.2 (hs_.1.1.1.1.1.1.1.1.1.1.1.1.2) (hk_.2.1.1.1.1.1.1.2)))) (fun _ h_ => h_.2)); replace HO349 := ak (Kd.S_kept (kS HO349.out) hkp (fun k_ (hk_ : (((((((((some k_ ≠ (v345 : Value).ownBlock ∧ k_ < ag84) ∧ k_ < ag95) ∧ k_ < ag106) ∧ k_ < ag118) ∧ k_ < ag121) ∧ k_ < ag125) ∧ k_ < ag128) ∧ k_ < ag132) ∧ k_ < ag140)) hs_ => Or.elim hs_ (fun hs_ => Nat.not_lt.2 ((HO374.out.1 k_ hs_.symm).1.1.1.1.1.1.2) (hk_.1.1.1.1.1.1.2)) (fun hs_ => Nat.not_lt.2 (hs_.1.1.1.1.1.1.1.1.1.1.1.1.2) (hk_.1.1.1.1.1.1.2)))); replace HO352 := ak (Kd.R_mono (Kd.R_kept (Kd.R_tight2 rfl (kR HO352.out)) hkp (fun k_ (hk_ : some k_ = (.slice Ao77 t350.length co77 : Value).ownBlock ∧ (((((((((True ∧ k_ < ag84) ∧ k_ < ag95) ∧ k_ < ag106) ∧ k_ < ag118) ∧ k_ < ag121) ∧ k_ < ag125) ∧ k_ < ag128) ∧ k_ < ag132) ∧ k_ < ag140)) hs_ => Or.elim hs_ (fun hs_ => Nat.not_lt.2 ((HO374.out.1 k_ hs_.symm).1.1.1.1.1.1.2) (hk_.2.1.1.1.1.1.1.2)) (fun hs_ => Nat.not_lt.2 (hs_.1.1.1.1.1.1.1.1.1.1.1.1.2) (hk_.2.1.1.1.1.1.1.2)))) (fun _ h_ => h_.2)); replace HO355 := ak (Kd.S_kept (kS HO355.out) hkp (fun k_ (hk_ : (((((((((some k_ ≠ (.slice Ao77 t350.length co77 : Value).ownBlock ∧ k_ < ag84) ∧ k_ < ag95) ∧ k_ < ag106) ∧ k_ < ag118) ∧ k_ < ag121) ∧ k_ < ag125) ∧ k_ < ag128) ∧ k_ < ag132) ∧ k_ < ag140)) hs_ => Or.elim hs_ (fun hs_ => Nat.not_lt.2 ((HO374.out.1 k_ hs_.symm).1.1.1.1.1.1.2) (hk_.1.1.1.1.1.1.2)) (fun hs_ => Nat.not_lt.2 (hs_.1.1.1.1.1.1.1.1.1.1.1.1.2) (hk_.1.1.1.1.1.1.2)))); replace BK357 := ak (blk_kept (kK BK357.out) hkp (fun hs_ => Or.elim hs_ (fun hs_ => (Kd.R_ne HO374.out BK357.out (by decide)) hs_) (fun hs_ => (hs_.1.1.1.2) rfl))); replace HO360 := ak (Kd.R_mono (Kd.R_kept (Kd.R_tight2 rfl (kR HO360.out)) hkp (fun k_ (hk_ : some k_ = (.slice Ao86 t358.length co86 : Value).ownBlock ∧ (((((((((True ∧ ag84 ≤ k_) ∧ k_ < ag95) ∧ k_ < ag106) ∧ k_ < ag118) ∧ k_ < ag121) ∧ k_ < ag125) ∧ k_ < ag128) ∧ k_ < ag132) ∧ k_ < ag140)) hs_ => Or.elim hs_ (fun hs_ => Nat.not_lt.2 ((HO374.out.1 k_ hs_.symm).1.1.1.1.1.1.2) (hk_.2.1.1.1.1.1.1.2)) (fun hs_ => Nat.not_lt.2 (hs_.1.1.1.1.1.1.1.1.1.1.1.1.2) (hk_.2.1.1.1.1.1.1.2)))) (fun _ h_ => h_.2)); replace HO363 := ak (Kd.S_kept (kS HO363.out) hkp (fun k_ (hk_ : (((((((((((((((some k_ ≠ (.slice Ao86 t358.length co86 : Value).ownBlock ∧ ag84 ≤ k_) ∧ k_ < ag95) ∧ k_ < ag106) ∧ k_ < ag118) ∧ k_ < ag121) ∧ k_ < ag125) ∧ k_ < ag128) ∧ k_ < ag132) ∧ k_ ≠ gb334) ∧ k_ ≠ gb335) ∧ k_ ≠ gb357) ∧ k_ ≠ gb364) ∧ k_ ≠ gb371) ∧ k_ ≠ gb379) ∧ k_ < ag140)) hs_ => Or.elim hs_ (fun hs_ => Nat.not_lt.2 ((HO374.out.1 k_ hs_.symm).1.1.1.1.1.1.2) (hk_.1.1.1.1.1.1.1.1.1.1.1.1.2)) (fun hs_ => Nat.not_lt.2 (hs_.1.1.1.1.1.1.1.1.1.1.1.1.2) (hk_.1.1.1.1.1.1.1.1.1.1.1.1.2)))); replace BK364 := ak (blk_kept (kK BK364.out) hkp (fun hs_ => Or.elim hs_ (fun hs_ => (Kd.R_ne HO374.out BK364.out (by decide)) hs_) (fun hs_ => (hs_.1.1.2) rfl))); replace HO367 := ak (Kd.R_mono (Kd.R_kept (Kd.R_tight2 rfl (kR HO367.out)) hkp (fun k_ (hk_ : some k_ = (.slice Ao97 t365.length co97 : Value).ownBlock ∧ ((((((((True ∧ ag95 ≤ k_) ∧ k_ < ag106) ∧ k_ < ag118) ∧ k_ < ag121) ∧ k_ < ag125) ∧ k_ < ag128) ∧ k_ < ag132) ∧ k_ < ag140)) hs_ => Or.elim hs_ (fun hs_ => Nat.not_lt.2 ((HO374.out.1 k_ hs_.symm).1.1.1.1.1.1.2) (hk_.2.1.1.1.1.1.1.2)) (fun hs_ => Nat.not_lt.2 (hs_.1.1.1.1.1.1.1.1.1.1.1.1.2) (hk_.2.1.1.1.1.1.1.2)))) (fun _ h_ => h_.2)); replace HO370 := ak (Kd.S_kept (kS HO370.out) hkp (fun k_ (hk_ : ((((((((((((((some k_ ≠ (.slice Ao97 t365.length co97 : Value).ownBlock ∧ ag95 ≤ k_) ∧ k_ < ag106) ∧ k_ < ag118) ∧ k_ < ag121) ∧ k_ < ag125) ∧ k_ < ag128) ∧ k_ < ag132) ∧ k_ ≠ gb334) ∧ k_ ≠ gb335) ∧ k_ ≠ gb357) ∧ k_ ≠ gb364) ∧ k_ ≠ gb371) ∧ k_ ≠ gb379) ∧ k_ < ag140)) hs_ => Or.elim hs_ (fun hs_ => Nat.not_lt.2 ((HO374.out.1 k_ hs_.symm).1.1.1.1.1.1.2) (hk_.1.1.1.1.1.1.1.1.1.1.1.1.2)) (fun hs_ => Nat.not_lt.2 (hs_.1.1.1.1.1.1.1.1.1.1.1.1.2) (hk_.1.1.1.1.1.1.1.1.1.1.1.1.2)))); replace BK371 := ak (blk_kept (kK BK371.out) hkp (fun hs_ => Or.elim hs_ (fun hs_ => (Kd.R_ne HO374.out BK371.out (by decide)) hs_) (fun hs_ => (hs_.1.2) rfl))); replace HO377 := ak (hy1); replace BK379 := ak (blk_kept (kK BK379.out) hkp (fun hs_ => Or.elim hs_ (fun hs_ => (Kd.R_ne HO374.out BK379.out (by decide)) hs_) (fun hs_ => (hs_.2) rfl))); replace HO383 := ak (Kd.R_mono (Kd.R_kept (Kd.R_tight2 rfl (kR HO383.out)) hkp (fun k_ (hk_ : some k_ = (.slice Ao122 t381.length co122 : Value).ownBlock ∧ (((((True ∧ ag121 ≤ k_) ∧ k_ < ag125) ∧ k_ < ag128) ∧ k_ < ag132) ∧ k_ < ag140)) hs_ => Or.elim hs_ (fun hs_ => Nat.not_lt.2 (hk_.2.1.1.1.1.2) ((HO374.out.1 k_ hs_.symm).1.1.1.1.2)) (fun hs_ => Nat.not_lt.2 (hk_.2.1.1.1.1.2) (hs_.1.1.1.1.1.1.1.1.1.1.2)))) (fun _ h_ => h_.2)); replace HO386 := ak (Kd.S_kept (kS HO386.out) hkp (fun k_ (hk_ : (((((some k_ ≠ (.slice Ao122 t381.length co122 : Value).ownBlock ∧ ag121 ≤ k_) ∧ k_ < ag125) ∧ k_ < ag128) ∧ k_ < ag132) ∧ k_ < ag140)) hs_ => Or.elim hs_ (fun hs_ => Nat.not_lt.2 (hk_.1.1.1.1.2) ((HO374.out.1 k_ hs_.symm).1.1.1.1.2)) (fun hs_ => Nat.not_lt.2 (hk_.1.1.1.1.2) (hs_.1.1.1.1.1.1.1.1.1.1.2)))); replace HO390 := ak (Kd.R_mono (Kd.R_kept (Kd.R_tight2 rfl (kR HO390.out)) hkp (fun k_ (hk_ : some k_ = (.slice Ao129 t388.length co129 : Value).ownBlock ∧ (((True ∧ ag128 ≤ k_) ∧ k_ < ag132) ∧ k_ < ag140)) hs_ => Or.elim hs_ (fun hs_ => Nat.not_lt.2 (hk_.2.1.1.2) ((HO374.out.1 k_ hs_.symm).1.1.2)) (fun hs_ => Nat.not_lt.2 (hk_.2.1.1.2) (hs_.1.1.1.1.1.1.1.1.2)))) (fun _ h_ => h_.2)); replace HO393 := ak (Kd.S_kept (kS HO393.out) hkp (fun k_ (hk_ : (((some k_ ≠ (.slice Ao129 t388.length co129 : Value).ownBlock ∧ ag128 ≤ k_) ∧ k_ < ag132) ∧ k_ < ag140)) hs_ => Or.elim hs_ (fun hs_ => Nat.not_lt.2 (hk_.1.1.2) ((HO374.out.1 k_ hs_.symm).1.1.2)) (fun hs_ => Nat.not_lt.2 (hk_.1.1.2) (hs_.1.1.1.1.1.1.1.1.2)))); replace HO374 := ak (Kd.R_reok rfl hy0 (fun k_ e_ => HO374.out.1 k_ e_)); replace HB := ak (hb); (try clear hb); (try clear hkp); (try clear hy0); (try clear hy1); have hcz143_0 : w142.cell? ⟨gb379, 0, none⟩ = some (.slice Ao108 t372.length co108) := (blk_cell BK379.out 0).trans rfl; have hcz143_1 : w142.cell? ⟨gb379, 1, none⟩ = some (.slice Ao115 t375.length co115) := (blk_cell BK379.out 1).trans rfl; have hfz143_0 := blk_frozen BK379.out 0; have hfz143_1 := blk_frozen BK379.out 1) | ((with_reducible refine gate_callee (f := 20) rfl ?_); refine goesL_ (some 88) rfl rfl Try.func20 (by kernel_rfl) rfl #[.agg #[.slice Ao108 t403.length co108, .slice Ao115 t404.length co115], .int .i64 1] rfl (by (try simp only [List.map_toArray, List.map_cons, List.map_nil]); first | done | (rw [show t403.length = t372.length from (Kd.R_reads' HO374.out).1.symm, show t404.length = t375.length from (Kd.S_reads' HO377.out).1.symm] <;> rfl) | rfl | (simp only [List.length_drop, List.length_take]; rfl)) ?_; (with_reducible refine (laws_heldAlgebra.calls k _ _ t403 _ _ t404 1 t405 _ ?side1 ?side2 ?side3 ?side4 A43.out).mono ?_); (case side1 => exact kC (Kd.R_reads' HO374.out).2.2); (case side2 => rw [show t403.length = t372.length from (Kd.R_reads' HO374.out).1.symm]; exact (Kd.R_reads' HO374.out).2.1); (case side3 => exact kC (Kd.S_reads' HO377.out).2.2); (case side4 => rw [show t404.length = t375.length from (Kd.S_reads' HO377.out).1.symm]; exact (Kd.S_reads' HO377.out).2.1); rintro e w144 ⟨rfl, hb⟩; refine ⟨_, rfl, ?_⟩; obtain ⟨ag145, hag145⟩ := age_at hb; replace HO340 := ak (age_oldR (kR HO340.out) hb hag145.out); replace HO343 := ak (age_oldS (kS HO343.out) hb hag145.out); replace HO346 := ak (age_oldR (kR HO346.out) hb hag145.out); replace HO349 := ak (age_oldS (kS HO349.out) hb hag145.out); replace HO352 := ak (age_oldR (kR HO352.out) hb hag145.out); replace HO355 := ak (age_oldS (kS HO355.out) hb hag145.out); replace HO360 := ak (age_oldR (kR HO360.out) hb hag145.out); replace HO363 := ak (age_oldS (kS HO363.out) hb hag145.out); replace HO367 := ak (age_oldR (kR HO367.out) hb hag145.out); replace HO370 := ak (age_oldS (kS HO370.out) hb hag145.out); replace HO374 := ak (age_oldR (kR HO374.out) hb hag145.out); replace HO377 := ak (age_oldS (kS HO377.out) hb hag145.out); replace HO383 := ak (age_oldR (kR HO383.out) hb hag145.out); replace HO386 := ak (age_oldS (kS HO386.out) hb hag145.out); replace HO390 := ak (age_oldR (kR HO390.out) hb hag145.out); replace HO393 := ak (age_oldS (kS HO393.out) hb hag145.out); replace BK334 := ak (blk_below (kK BK334.out) hb); replace BK335 := ak (blk_below (kK BK335.out) hb); replace BK357 := ak (blk_below (kK BK357.out) hb); replace BK364 := ak (blk_below (kK BK364.out) hb); replace BK371 := ak (blk_below (kK BK371.out) hb); replace BK379 := ak (blk_below (kK BK379.out) hb); replace HB := ak (below_step (kB HB.out) hb); (try clear hb); (try clear hb2); (try clear hk); (try clear hi)))
 replace HO340 := ak (Kd.R_drew HO340.out)
 replace HO343 := ak (Kd.S_drew HO343.out)
 replace HO346 := ak (Kd.R_drew HO346.out)
 replace HO349 := ak (Kd.S_drew HO349.out)
 replace HO352 := ak (Kd.R_drew HO352.out)
 replace HO355 := ak (Kd.S_drew HO355.out)
 replace HO360 := ak (Kd.R_drew HO360.out)
 replace HO363 := ak (Kd.S_drew HO363.out)
 replace HO367 := ak (Kd.R_drew HO367.out)
 replace HO370 := ak (Kd.S_drew HO370.out)
 replace HO374 := ak (Kd.R_drew HO374.out)
 replace HO377 := ak (Kd.S_drew HO377.out)
 replace HO383 := ak (Kd.R_drew HO383.out)
 replace HO386 := ak (Kd.S_drew HO386.out)
 replace HO390 := ak (Kd.R_drew HO390.out)
 replace HO393 := ak (Kd.S_drew HO393.out)
 replace BK334 := ak (blk_drew BK334.out)
 replace BK335 := ak (blk_drew BK335.out)
 replace BK357 := ak (blk_drew BK357.out)
 replace BK364 := ak (blk_drew BK364.out)
 replace BK371 := ak (blk_drew BK371.out)
 replace BK379 := ak (blk_drew BK379.out)
 replace HB := ak (below_drew1 HB.out)
 refine start_ (n := 11) (S := fun w' => w'.cell? ⟨gb334, 0, none⟩ = some (.slice A0_0 l0_0.length c0_0) ∧ w'.cell? ⟨gb334, 1, none⟩ = some (.slice A0_1 l0_1.length c0_1) ∧ w'.cell? ⟨gb335, 0, none⟩ = some (.slice A1_0 l1_0.length c1_0) ∧ w'.cell? ⟨gb335, 1, none⟩ = some (.slice A1_1 l1_1.length c1_1)) (ds := []) #[false, false, false, false, false, false, false, false, false, false, false] (by kernel_rfl) rfl rfl ⟨(blk_cell BK334.out 0).trans rfl, (blk_cell BK334.out 1).trans rfl, (blk_cell BK335.out 0).trans rfl, (blk_cell BK335.out 1).trans rfl⟩ (fun hHeld => ?_); refine with_tabW laws_FnExactCrossAlgebras.tab31 laws_FnExactCrossAlgebras.bits31 (fun HT_ HW_ => ?_)
 generalize w144.drew = w146 at HO340 HO343 HO346 HO349 HO352 HO355 HO360 HO363 HO367 HO370 HO374 HO377 HO383 HO386 HO390 HO393 BK334 BK335 BK357 BK364 BK371 BK379 HB hHeld ⊢
 refine take_ (i := 0) (N := some 95) (v := ?_) (a' := ?_) #[true, false, false, false, false, false, false, false, false, false, false] rfl rfl (take_ofW HT_.out HW_.out (by kernel_rfl)) (fun _ _ _ h => h) (Or.inl ⟨by rfl, ?_⟩) hHeld ?_ ?_
 rotate_left
 ·rintro w' ⟨s0, s1, s2, s3⟩
  go_simp
  with_reducible rfl
 rotate_left
 ·simp only [Act.put, List.setIfInBounds_toArray, List.set_cons_zero, List.set_cons_succ, i64_w, i32_w]
  rfl
 refine take_ (i := 2) (N := some 97) (v := ?_) (a' := ?_) #[true, false, true, false, false, false, false, false, false, false, false] rfl rfl (take_ofW HT_.out HW_.out (by kernel_rfl)) (fun _ _ _ h => h) (Or.inl ⟨by rfl, ?_⟩) hHeld ?_ ?_
 rotate_left
 ·rintro w' ⟨s0, s1, s2, s3⟩
  go_simp
  with_reducible rfl
 rotate_left
 ·simp only [Act.put, List.setIfInBounds_toArray, List.set_cons_zero, List.set_cons_succ, i64_w, i32_w]
  rfl
 refine join_ (σ := Value × Value × Value × Value × Value × Value × Nat) 2 #[true, true, true, true, true, true, true, true, true, false, false] (fun s_ => [(96, .agg #[s_.1, s_.2.1]), (98, .agg #[s_.2.2.1, s_.2.2.2.1]), (99, .tuple #[.agg #[s_.2.2.2.2.1, s_.2.2.2.2.2.1], .bool t424]), (15, .pointer (some ⟨s_.2.2.2.2.2.2, 0, none⟩)), (94, .tuple #[.agg #[s_.2.2.2.2.1, s_.2.2.2.2.2.1], .bool t424]), (100, .agg #[s_.2.2.2.2.1, s_.2.2.2.2.2.1]), (101, .bool t424)]) (fun s_ w' => (w'.cell? ⟨gb334, 0, none⟩ = some (.slice A0_0 l0_0.length c0_0) ∧ w'.cell? ⟨gb334, 1, none⟩ = some (.slice A0_1 l0_1.length c0_1) ∧ w'.cell? ⟨gb335, 0, none⟩ = some (.slice A1_0 l1_0.length c1_0) ∧ w'.cell? ⟨gb335, 1, none⟩ = some (.slice A1_1 l1_1.length c1_1)) ∧ (Kd.R (Kd.int .i64) 3 w' w.heap.size (fun _ => True) v339 t338) ∧ (Kd.S (Kd.slice 3 (Kd.int .i64)) 22 w' w.heap.size (fun k_ => some k_ ≠ (v339 : Value).ownBlock) v342 t341) ∧ (Kd.R (Kd.int .i64) 3 w' w.heap.size (fun _ => True) v345 t344) ∧ (Kd.S (Kd.slice 3 (Kd.int .i64)) 22 w' w.heap.size (fun k_ => some k_ ≠ (v345 : Value).ownBlock) v348 t347) ∧ (Kd.R (Kd.int .i64) 3 w' w.heap.size (fun _ => True) (.slice Ao77 t350.length co77) t350) ∧ (Kd.S (Kd.slice 3 (Kd.int .i64)) 22 w' w.heap.size (fun k_ => some k_ ≠ (.slice Ao77 t350.length co77 : Value).ownBlock) (.slice Ao79 t353.length co79) t353) ∧ (Kd.R (Kd.int .i64) 3 w' w.heap.size (fun _ => True) (.slice Ao86 t358.length co86) t396) ∧ (Kd.S (Kd.slice 3 (Kd.int .i64)) 22 w' w.heap.size (fun k_ => some k_ ≠ (.slice Ao86 t358.length co86 : Value).ownBlock) (.slice Ao91 t361.length co91) t397) ∧ (Kd.R (Kd.int .i64) 3 w' w.heap.size (fun _ => True) (.slice Ao97 t365.length co97) t399) ∧ (Kd.S (Kd.slice 3 (Kd.int .i64)) 22 w' w.heap.size (fun k_ => some k_ ≠ (.slice Ao97 t365.length co97 : Value).ownBlock) (.slice Ao103 t368.length co103) t400) ∧ (Kd.R (Kd.int .i64) 3 w' w.heap.size (fun _ => True) (.slice Ao108 t372.length co108) t403) ∧ (Kd.S (Kd.slice 3 (Kd.int .i64)) 22 w' w.heap.size (fun k_ => some k_ ≠ (.slice Ao108 t372.length co108 : Value).ownBlock) (.slice Ao115 t375.length co115) t404) ∧ (Kd.R (Kd.int .i64) 3 w' w.heap.size (fun _ => True) (.slice Ao122 t381.length co122) t381) ∧ (Kd.S (Kd.slice 3 (Kd.int .i64)) 22 w' w.heap.size (fun k_ => some k_ ≠ (.slice Ao122 t381.length co122 : Value).ownBlock) (.slice Ao123 t384.length co123) t384) ∧ (Kd.R (Kd.int .i64) 3 w' w.heap.size (fun _ => True) (.slice Ao129 t388.length co129) t388) ∧ (Kd.S (Kd.slice 3 (Kd.int .i64)) 22 w' w.heap.size (fun k_ => some k_ ≠ (.slice Ao129 t388.length co129 : Value).ownBlock) (.slice Ao130 t391.length co130) t391) ∧ (Kd.R (Kd.int .i64) 3 w' w.heap.size (fun _ => True) s_.1 t406) ∧ (Kd.S (Kd.slice 3 (Kd.int .i64)) 22 w' w.heap.size (fun k_ => some k_ ≠ (s_.1 : Value).ownBlock) s_.2.1 t409) ∧ (Kd.R (Kd.int .i64) 3 w' w.heap.size (fun _ => True) s_.2.2.1 t412) ∧ (Kd.S (Kd.slice 3 (Kd.int .i64)) 22 w' w.heap.size (fun k_ => some k_ ≠ (s_.2.2.1 : Value).ownBlock) s_.2.2.2.1 t415) ∧ (Kd.R (Kd.int .i64) 3 w' w.heap.size (fun _ => True) s_.2.2.2.2.1 t418) ∧ (Kd.S (Kd.slice 3 (Kd.int .i64)) 22 w' w.heap.size (fun k_ => some k_ ≠ (s_.2.2.2.2.1 : Value).ownBlock) s_.2.2.2.2.2.1 t421) ∧ (w'.heap[gb334]? = some (.cells #[.slice A0_0 l0_0.length c0_0, .slice A0_1 l0_1.length c0_1] 36 (0, 0))) ∧ (w'.heap[gb335]? = some (.cells #[.slice A1_0 l1_0.length c1_0, .slice A1_1 l1_1.length c1_1] 36 (0, 0))) ∧ (w'.heap[gb357]? = some (.cells #[.slice Ao77 t350.length co77, .slice Ao79 t353.length co79] 25 (0, 0))) ∧ (w'.heap[gb364]? = some (.cells #[.slice Ao86 t358.length co86, .slice Ao91 t361.length co91] 25 (0, 0))) ∧ (w'.heap[gb371]? = some (.cells #[.slice Ao97 t365.length co97, .slice Ao103 t368.length co103] 25 (0, 0))) ∧ (w'.heap[gb379]? = some (.cells #[.slice Ao108 t372.length co108, .slice Ao115 t375.length co115] 25 (0, 0))) ∧ (w'.heap[s_.2.2.2.2.2.2]? = some (.cells #[.slice none 0 0, .slice none 0 0] 25 (0, 0))) ∧ (w.heap.size ≤ s_.2.2.2.2.2.2) ∧ (w.heap.size ≤ s_.2.2.2.2.2.2) ∧ (gb334 ≠ s_.2.2.2.2.2.2) ∧ (s_.2.2.2.2.2.2 ≠ gb334) ∧ (gb335 ≠ s_.2.2.2.2.2.2) ∧ (s_.2.2.2.2.2.2 ≠ gb335) ∧ (gb357 ≠ s_.2.2.2.2.2.2) ∧ (s_.2.2.2.2.2.2 ≠ gb357) ∧ (gb364 ≠ s_.2.2.2.2.2.2) ∧ (s_.2.2.2.2.2.2 ≠ gb364) ∧ (gb371 ≠ s_.2.2.2.2.2.2) ∧ (s_.2.2.2.2.2.2 ≠ gb371) ∧ (gb379 ≠ s_.2.2.2.2.2.2) ∧ (s_.2.2.2.2.2.2 ≠ gb379) ∧ (Below w.heap.size w w')) ?_ ?_
 rotate_left
 ·intro hCont
  refine two_ (i := 1) (j := 8) (Ni := some 96) (Nj := some 15) #[true, true, true, false, false, false, false, false, false, false, false] #[true, false, true, false, false, false, false, false, true, false, false] rfl rfl rfl rfl (two_of HT_.out (by kernel_rfl)) (by decide) (by decide) (fun K hK => ?_) (fun K hK => ?_)
  ·skip
   refine goes_ Try.func25 (by kernel_rfl) rfl #[.agg #[.slice A0_0 l0_0.length c0_0, .slice A0_1 l0_1.length c0_1]] (by rfl) rfl rfl (by (try simp only [List.map_toArray, List.map_cons, List.map_nil]); first | done | rfl | (simp only [List.length_drop, List.length_take]; rfl)) ?_
   with_reducible refine (laws_toAlgebra.calls k _ _ l0_0 _ _ l0_1 t406 t409 _ ?side1 ?side2 ?side3 ?side4 A46.out).mono ?_
   (case side1 => exact kC (Kd.C_below HR0_0.out HB.out))
   (case side2 => exact HC0_0.out)
   (case side3 => exact kC (Kd.C_below HR0_1.out HB.out))
   (case side4 => exact HC0_1.out)
   rintro e w147 ⟨v407, v410, rfl, ho0, ho1, hb⟩
   refine ⟨_, rfl, ?_⟩
   obtain ⟨ag148, hag148⟩ := age_at hb
   replace HO340 := ak (age_oldR (kR HO340.out) hb hag148.out)
   replace HO343 := ak (age_oldS (kS HO343.out) hb hag148.out)
   replace HO346 := ak (age_oldR (kR HO346.out) hb hag148.out)
   replace HO349 := ak (age_oldS (kS HO349.out) hb hag148.out)
   replace HO352 := ak (age_oldR (kR HO352.out) hb hag148.out)
   replace HO355 := ak (age_oldS (kS HO355.out) hb hag148.out)
   replace HO360 := ak (age_oldR (kR HO360.out) hb hag148.out)
   replace HO363 := ak (age_oldS (kS HO363.out) hb hag148.out)
   replace HO367 := ak (age_oldR (kR HO367.out) hb hag148.out)
   replace HO370 := ak (age_oldS (kS HO370.out) hb hag148.out)
   replace HO374 := ak (age_oldR (kR HO374.out) hb hag148.out)
   replace HO377 := ak (age_oldS (kS HO377.out) hb hag148.out)
   replace HO383 := ak (age_oldR (kR HO383.out) hb hag148.out)
   replace HO386 := ak (age_oldS (kS HO386.out) hb hag148.out)
   replace HO390 := ak (age_oldR (kR HO390.out) hb hag148.out)
   replace HO393 := ak (age_oldS (kS HO393.out) hb hag148.out)
   have HO408 := ak (Kd.R_lower (age_newR ho0 hag148.out) (below_size (kB HB.out)))
   have HO411 := ak (Kd.S_lower (age_newS ho1 hag148.out) (below_size (kB HB.out)))
   replace BK334 := ak (blk_below (kK BK334.out) hb)
   replace BK335 := ak (blk_below (kK BK335.out) hb)
   replace BK357 := ak (blk_below (kK BK357.out) hb)
   replace BK364 := ak (blk_below (kK BK364.out) hb)
   replace BK371 := ak (blk_below (kK BK371.out) hb)
   replace BK379 := ak (blk_below (kK BK379.out) hb)
   replace HB := ak (below_step (kB HB.out) hb)
   (try clear hb)
   (try clear hb2)
   (try clear hk)
   (try clear hi)
   (try clear ho0)
   (try clear ho1)
   refine hK.out _ _ ⟨(blk_cell BK334.out 0).trans rfl, (blk_cell BK334.out 1).trans rfl, (blk_cell BK335.out 0).trans rfl, (blk_cell BK335.out 1).trans rfl⟩ (fun hHeld => ?_)
   clear hK K
   refine norm_ (a' := ?_) ?_ ?_
   rotate_left
   ·show Act.put _ (some 96) _ = _
    simp only [Act.put, List.setIfInBounds_toArray, List.set_cons_zero, List.set_cons_succ, i64_w, i32_w]
    rfl
   refine two_ (i := 3) (j := 8) (Ni := some 98) (Nj := some 15) #[true, true, true, true, false, false, false, false, false, false, false] #[true, true, true, false, false, false, false, false, true, false, false] rfl rfl rfl rfl (two_of HT_.out (by kernel_rfl)) (by decide) (by decide) (fun K hK => ?_) (fun K hK => ?_)
   ·skip
    refine goes_ Try.func25 (by kernel_rfl) rfl #[.agg #[.slice A1_0 l1_0.length c1_0, .slice A1_1 l1_1.length c1_1]] (by rfl) rfl rfl (by (try simp only [List.map_toArray, List.map_cons, List.map_nil]); first | done | rfl | (simp only [List.length_drop, List.length_take]; rfl)) ?_
    with_reducible refine (laws_toAlgebra.calls k _ _ l1_0 _ _ l1_1 t412 t415 _ ?side1 ?side2 ?side3 ?side4 A47.out).mono ?_
    (case side1 => exact kC (Kd.C_below HR1_0.out HB.out))
    (case side2 => exact HC1_0.out)
    (case side3 => exact kC (Kd.C_below HR1_1.out HB.out))
    (case side4 => exact HC1_1.out)
    rintro e w149 ⟨v413, v416, rfl, ho0, ho1, hb⟩
    refine ⟨_, rfl, ?_⟩
    obtain ⟨ag150, hag150⟩ := age_at hb
    replace HO340 := ak (age_oldR (kR HO340.out) hb hag150.out)
    replace HO343 := ak (age_oldS (kS HO343.out) hb hag150.out)
    replace HO346 := ak (age_oldR (kR HO346.out) hb hag150.out)
    replace HO349 := ak (age_oldS (kS HO349.out) hb hag150.out)
    replace HO352 := ak (age_oldR (kR HO352.out) hb hag150.out)
    replace HO355 := ak (age_oldS (kS HO355.out) hb hag150.out)
    replace HO360 := ak (age_oldR (kR HO360.out) hb hag150.out)
    replace HO363 := ak (age_oldS (kS HO363.out) hb hag150.out)
    replace HO367 := ak (age_oldR (kR HO367.out) hb hag150.out)
    replace HO370 := ak (age_oldS (kS HO370.out) hb hag150.out)
    replace HO374 := ak (age_oldR (kR HO374.out) hb hag150.out)
    replace HO377 := ak (age_oldS (kS HO377.out) hb hag150.out)
    replace HO383 := ak (age_oldR (kR HO383.out) hb hag150.out)
    replace HO386 := ak (age_oldS (kS HO386.out) hb hag150.out)
    replace HO390 := ak (age_oldR (kR HO390.out) hb hag150.out)
    replace HO393 := ak (age_oldS (kS HO393.out) hb hag150.out)
    replace HO408 := ak (age_oldR (kR HO408.out) hb hag150.out)
    replace HO411 := ak (age_oldS (kS HO411.out) hb hag150.out)
    have HO414 := ak (Kd.R_lower (age_newR ho0 hag150.out) (below_size (kB HB.out)))
    have HO417 := ak (Kd.S_lower (age_newS ho1 hag150.out) (below_size (kB HB.out)))
    replace BK334 := ak (blk_below (kK BK334.out) hb)
    replace BK335 := ak (blk_below (kK BK335.out) hb)
    replace BK357 := ak (blk_below (kK BK357.out) hb)
    replace BK364 := ak (blk_below (kK BK364.out) hb)
    replace BK371 := ak (blk_below (kK BK371.out) hb)
    replace BK379 := ak (blk_below (kK BK379.out) hb)
    replace HB := ak (below_step (kB HB.out) hb)
    (try clear hb)
    (try clear hb2)
    (try clear hk)
    (try clear hi)
    (try clear ho0)
    (try clear ho1)
    obtain ⟨Ao151, co151, eo151⟩ := Kd.R_slice HO408.out
    (first | subst eo151 | (injection eo151 with f1_ f2_ f3_; have f4_ := f1_.symm; have f5_ := f3_.symm; clear f1_ f2_ f3_; subst f4_; subst f5_))
    obtain ⟨Ao152, co152, eo152⟩ := Kd.S_slice HO411.out
    (first | subst eo152 | (injection eo152 with f1_ f2_ f3_; have f4_ := f1_.symm; have f5_ := f3_.symm; clear f1_ f2_ f3_; subst f4_; subst f5_))
    obtain ⟨Ao153, co153, eo153⟩ := Kd.R_slice HO414.out
    (first | subst eo153 | (injection eo153 with f1_ f2_ f3_; have f4_ := f1_.symm; have f5_ := f3_.symm; clear f1_ f2_ f3_; subst f4_; subst f5_))
    obtain ⟨Ao154, co154, eo154⟩ := Kd.S_slice HO417.out
    (first | subst eo154 | (injection eo154 with f1_ f2_ f3_; have f4_ := f1_.symm; have f5_ := f3_.symm; clear f1_ f2_ f3_; subst f4_; subst f5_))
    refine hK.out _ _ ⟨(blk_cell BK334.out 0).trans rfl, (blk_cell BK334.out 1).trans rfl, (blk_cell BK335.out 0).trans rfl, (blk_cell BK335.out 1).trans rfl⟩ (fun hHeld => ?_)
    clear hK K
    refine norm_ (a' := ?_) ?_ ?_
    rotate_left
    ·show Act.put _ (some 98) _ = _
     simp only [Act.put, List.setIfInBounds_toArray, List.set_cons_zero, List.set_cons_succ, i64_w, i32_w]
     rfl
    refine two_ (i := 4) (j := 8) (Ni := some 99) (Nj := some 15) #[true, true, true, true, true, false, false, false, false, false, false] #[true, true, true, true, false, false, false, false, true, false, false] rfl rfl rfl rfl (two_of HT_.out (by kernel_rfl)) (by decide) (by decide) (fun K hK => ?_) (fun K hK => ?_)
    ·skip
     refine goes_ Try.func26 (by kernel_rfl) rfl #[.agg #[.slice Ao151 t406.length co151, .slice Ao152 t409.length co152], .agg #[.slice Ao153 t412.length co153, .slice Ao154 t415.length co154]] (by rfl) rfl rfl (by (try simp only [List.map_toArray, List.map_cons, List.map_nil]); first | done | rfl | (simp only [List.length_drop, List.length_take]; rfl)) ?_
     with_reducible refine (impl_CrossAlgebras.calls k _ _ t406 _ _ t409 _ _ t412 _ _ t415 t418 t421 t424 _ ?side1 ?side2 ?side3 ?side4 ?side5 ?side6 ?side7 ?side8 A48.out).mono ?_
     (case side1 => exact kC (Kd.R_reads' HO408.out).2.2)
     (case side2 => exact (Kd.R_reads' HO408.out).2.1)
     (case side3 => exact kC (Kd.S_reads' HO411.out).2.2)
     (case side4 => exact (Kd.S_reads' HO411.out).2.1)
     (case side5 => exact kC (Kd.R_reads' HO414.out).2.2)
     (case side6 => exact (Kd.R_reads' HO414.out).2.1)
     (case side7 => exact kC (Kd.S_reads' HO417.out).2.2)
     (case side8 => exact (Kd.S_reads' HO417.out).2.1)
     rintro e w155 ⟨v419, v422, rfl, ho0, ho1, hb⟩
     refine ⟨_, rfl, ?_⟩
     obtain ⟨ag156, hag156⟩ := age_at hb
     replace HO340 := ak (age_oldR (kR HO340.out) hb hag156.out)
     replace HO343 := ak (age_oldS (kS HO343.out) hb hag156.out)
     replace HO346 := ak (age_oldR (kR HO346.out) hb hag156.out)
     replace HO349 := ak (age_oldS (kS HO349.out) hb hag156.out)
     replace HO352 := ak (age_oldR (kR HO352.out) hb hag156.out)
     replace HO355 := ak (age_oldS (kS HO355.out) hb hag156.out)
     replace HO360 := ak (age_oldR (kR HO360.out) hb hag156.out)
     replace HO363 := ak (age_oldS (kS HO363.out) hb hag156.out)
     replace HO367 := ak (age_oldR (kR HO367.out) hb hag156.out)
     replace HO370 := ak (age_oldS (kS HO370.out) hb hag156.out)
     replace HO374 := ak (age_oldR (kR HO374.out) hb hag156.out)
     replace HO377 := ak (age_oldS (kS HO377.out) hb hag156.out)
     replace HO383 := ak (age_oldR (kR HO383.out) hb hag156.out)
     replace HO386 := ak (age_oldS (kS HO386.out) hb hag156.out)
     replace HO390 := ak (age_oldR (kR HO390.out) hb hag156.out)
     replace HO393 := ak (age_oldS (kS HO393.out) hb hag156.out)
     replace HO408 := ak (age_oldR (kR HO408.out) hb hag156.out)
     replace HO411 := ak (age_oldS (kS HO411.out) hb hag156.out)
     replace HO414 := ak (age_oldR (kR HO414.out) hb hag156.out)
     replace HO417 := ak (age_oldS (kS HO417.out) hb hag156.out)
     have HO420 := ak (Kd.R_lower (age_newR ho0 hag156.out) (below_size (kB HB.out)))
     have HO423 := ak (Kd.S_lower (age_newS ho1 hag156.out) (below_size (kB HB.out)))
     replace BK334 := ak (blk_below (kK BK334.out) hb)
     replace BK335 := ak (blk_below (kK BK335.out) hb)
     replace BK357 := ak (blk_below (kK BK357.out) hb)
     replace BK364 := ak (blk_below (kK BK364.out) hb)
     replace BK371 := ak (blk_below (kK BK371.out) hb)
     replace BK379 := ak (blk_below (kK BK379.out) hb)
     replace HB := ak (below_step (kB HB.out) hb)
     (try clear hb)
     (try clear hb2)
     (try clear hk)
     (try clear hi)
     (try clear ho0)
     (try clear ho1)
     refine hK.out _ _ ⟨(blk_cell BK334.out 0).trans rfl, (blk_cell BK334.out 1).trans rfl, (blk_cell BK335.out 0).trans rfl, (blk_cell BK335.out 1).trans rfl⟩ (fun hHeld => ?_)
     clear hK K
     refine norm_ (a' := ?_) ?_ ?_
     rotate_left
     ·show Act.put _ (some 99) _ = _
      simp only [Act.put, List.setIfInBounds_toArray, List.set_cons_zero, List.set_cons_succ, i64_w, i32_w]
      rfl
     refine pure_ (i := 5) (N := some 94) (v := ?_) (a' := ?_) #[true, true, true, true, true, true, false, false, false, false, false] rfl rfl (any_of HT_.out (by kernel_rfl)) (fun _ _ _ h => h) (Or.inl ⟨by rfl, ?_⟩) ?_ ?_
     rotate_left
     ·intro w'
      go_simp
      with_reducible rfl
     rotate_left
     ·simp only [Act.put, List.setIfInBounds_toArray, List.set_cons_zero, List.set_cons_succ, i64_w, i32_w]
      rfl
     refine pure_ (i := 6) (N := some 100) (v := ?_) (a' := ?_) #[true, true, true, true, true, true, true, false, false, false, false] rfl rfl (any_of HT_.out (by kernel_rfl)) (fun _ _ _ h => h) (Or.inl ⟨by rfl, ?_⟩) ?_ ?_
     rotate_left
     ·intro w'
      go_simp
      with_reducible rfl
     rotate_left
     ·simp only [Act.put, List.setIfInBounds_toArray, List.set_cons_zero, List.set_cons_succ, i64_w, i32_w]
      rfl
     refine pure_ (i := 7) (N := some 101) (v := ?_) (a' := ?_) #[true, true, true, true, true, true, true, true, false, false, false] rfl rfl (any_of HT_.out (by kernel_rfl)) (fun _ _ _ h => h) (Or.inl ⟨by rfl, ?_⟩) ?_ ?_
     rotate_left
     ·intro w'
      go_simp
      with_reducible rfl
     rotate_left
     ·simp only [Act.put, List.setIfInBounds_toArray, List.set_cons_zero, List.set_cons_succ, i64_w, i32_w]
      rfl
     refine one_ (i := 8) (N := some 15) #[true, true, true, true, true, true, true, true, true, false, false] rfl rfl (one_of HT_.out (by kernel_rfl)) (by decide) (fun K hK => ?_)
     refine box_step ?hg (N := 15) ?hd (cs := #[.slice none 0 0, .slice none 0 0]) (t := 25) ?hr ?_; (case hd => rfl); (case hg => rfl); (case hr => first | (go_simp; done) | (go_simp; rfl))
     intro gb425 hg w157 hbox hb
     replace HO340 := ak (Kd.R_below (kR HO340.out) hb)
     replace HO343 := ak (Kd.S_below (kS HO343.out) hb)
     replace HO346 := ak (Kd.R_below (kR HO346.out) hb)
     replace HO349 := ak (Kd.S_below (kS HO349.out) hb)
     replace HO352 := ak (Kd.R_below (kR HO352.out) hb)
     replace HO355 := ak (Kd.S_below (kS HO355.out) hb)
     replace HO360 := ak (Kd.R_below (kR HO360.out) hb)
     replace HO363 := ak (Kd.S_below (kS HO363.out) hb)
     replace HO367 := ak (Kd.R_below (kR HO367.out) hb)
     replace HO370 := ak (Kd.S_below (kS HO370.out) hb)
     replace HO374 := ak (Kd.R_below (kR HO374.out) hb)
     replace HO377 := ak (Kd.S_below (kS HO377.out) hb)
     replace HO383 := ak (Kd.R_below (kR HO383.out) hb)
     replace HO386 := ak (Kd.S_below (kS HO386.out) hb)
     replace HO390 := ak (Kd.R_below (kR HO390.out) hb)
     replace HO393 := ak (Kd.S_below (kS HO393.out) hb)
     replace HO408 := ak (Kd.R_below (kR HO408.out) hb)
     replace HO411 := ak (Kd.S_below (kS HO411.out) hb)
     replace HO414 := ak (Kd.R_below (kR HO414.out) hb)
     replace HO417 := ak (Kd.S_below (kS HO417.out) hb)
     replace HO420 := ak (Kd.R_below (kR HO420.out) hb)
     replace HO423 := ak (Kd.S_below (kS HO423.out) hb)
     have BK425 := ak (hbox)
     have GW425 := ak (ge_box hg (kB HB.out))
     have GE425 := ak (ge_box hg (kB HB.out))
     replace HB := ak (below_step (kB HB.out) hb)
     have NB334_425 := ak ((ne_box hg (kK BK334.out)))
     have NB425_334 := ak ((ne_box' hg (kK BK334.out)))
     replace BK334 := ak (blk_below (kK BK334.out) hb)
     have NB335_425 := ak ((ne_box hg (kK BK335.out)))
     have NB425_335 := ak ((ne_box' hg (kK BK335.out)))
     replace BK335 := ak (blk_below (kK BK335.out) hb)
     have NB357_425 := ak ((ne_box hg (kK BK357.out)))
     have NB425_357 := ak ((ne_box' hg (kK BK357.out)))
     replace BK357 := ak (blk_below (kK BK357.out) hb)
     have NB364_425 := ak ((ne_box hg (kK BK364.out)))
     have NB425_364 := ak ((ne_box' hg (kK BK364.out)))
     replace BK364 := ak (blk_below (kK BK364.out) hb)
     have NB371_425 := ak ((ne_box hg (kK BK371.out)))
     have NB425_371 := ak ((ne_box' hg (kK BK371.out)))
     replace BK371 := ak (blk_below (kK BK371.out) hb)
     have NB379_425 := ak ((ne_box hg (kK BK379.out)))
     have NB425_379 := ak ((ne_box' hg (kK BK379.out)))
     replace BK379 := ak (blk_below (kK BK379.out) hb)
     clear hb hbox hg
     refine hK.out _ _ ⟨(blk_cell BK334.out 0).trans rfl, (blk_cell BK334.out 1).trans rfl, (blk_cell BK335.out 0).trans rfl, (blk_cell BK335.out 1).trans rfl⟩ (fun hHeld => ?_)
     clear hK K
     refine norm_ (a' := ?_) ?_ ?_
     rotate_left
     ·show Act.put _ (some 15) _ = _
      simp only [Act.put, List.setIfInBounds_toArray, List.set_cons_zero, List.set_cons_succ, i64_w, i32_w]
      rfl
     exact norm_ (by simp only [putAll, Act.put, List.setIfInBounds_toArray, List.set_cons_zero, List.set_cons_succ]) (hCont (.slice Ao151 t406.length co151, .slice Ao152 t409.length co152, .slice Ao153 t412.length co153, .slice Ao154 t415.length co154, v419, v422, gb425) _ ⟨hHeld, (kR (Kd.R_mono HO340.out (fun _ hk => trivial))), (kS (Kd.S_mono HO343.out (fun _ hk => hk.1.1.1.1.1.1.1.1.1.1.1.1.1))), (kR (Kd.R_mono HO346.out (fun _ hk => trivial))), (kS (Kd.S_mono HO349.out (fun _ hk => hk.1.1.1.1.1.1.1.1.1.1.1.1.1))), (kR (Kd.R_mono HO352.out (fun _ hk => trivial))), (kS (Kd.S_mono HO355.out (fun _ hk => hk.1.1.1.1.1.1.1.1.1.1.1.1.1))), (kR (Kd.R_mono HO360.out (fun _ hk => trivial))), (kS (Kd.S_mono HO363.out (fun _ hk => hk.1.1.1.1.1.1.1.1.1.1.1.1.1.1.1.1.1.1.1))), (kR (Kd.R_mono HO367.out (fun _ hk => trivial))), (kS (Kd.S_mono HO370.out (fun _ hk => hk.1.1.1.1.1.1.1.1.1.1.1.1.1.1.1.1.1.1))), (kR (Kd.R_mono HO374.out (fun _ hk => trivial))), (kS (Kd.S_mono HO377.out (fun _ hk => hk.1.1.1.1.1.1.1.1.1.1.1.1.1.1.1.1.1))), (kR (Kd.R_mono HO383.out (fun _ hk => trivial))), (kS (Kd.S_mono HO386.out (fun _ hk => hk.1.1.1.1.1.1.1.1.1))), (kR (Kd.R_mono HO390.out (fun _ hk => trivial))), (kS (Kd.S_mono HO393.out (fun _ hk => hk.1.1.1.1.1.1.1))), (kR (Kd.R_mono HO408.out (fun _ hk => trivial))), (kS (Kd.S_mono HO411.out (fun _ hk => hk.1.1.1))), (kR (Kd.R_mono HO414.out (fun _ hk => trivial))), (kS (Kd.S_mono HO417.out (fun _ hk => hk.1.1))), (kR (Kd.R_mono HO420.out (fun _ hk => trivial))), (kS (Kd.S_mono HO423.out (fun _ hk => hk.1))), (kK BK334.out), (kK BK335.out), (kK BK357.out), (kK BK364.out), (kK BK371.out), (kK BK379.out), (kK BK425.out), GW425.out, GE425.out, NB334_425.out, NB425_334.out, NB335_425.out, NB425_335.out, NB357_425.out, NB425_357.out, NB364_425.out, NB425_364.out, NB371_425.out, NB425_371.out, NB379_425.out, NB425_379.out, (bB HB.out)⟩)
    ·skip
     refine box_step ?hg (N := 15) ?hd (cs := #[.slice none 0 0, .slice none 0 0]) (t := 25) ?hr ?_; (case hd => rfl); (case hg => rfl); (case hr => first | (go_simp; done) | (go_simp; rfl))
     intro gb425 hg w151 hbox hb
     replace HO340 := ak (Kd.R_below (kR HO340.out) hb)
     replace HO343 := ak (Kd.S_below (kS HO343.out) hb)
     replace HO346 := ak (Kd.R_below (kR HO346.out) hb)
     replace HO349 := ak (Kd.S_below (kS HO349.out) hb)
     replace HO352 := ak (Kd.R_below (kR HO352.out) hb)
     replace HO355 := ak (Kd.S_below (kS HO355.out) hb)
     replace HO360 := ak (Kd.R_below (kR HO360.out) hb)
     replace HO363 := ak (Kd.S_below (kS HO363.out) hb)
     replace HO367 := ak (Kd.R_below (kR HO367.out) hb)
     replace HO370 := ak (Kd.S_below (kS HO370.out) hb)
     replace HO374 := ak (Kd.R_below (kR HO374.out) hb)
     replace HO377 := ak (Kd.S_below (kS HO377.out) hb)
     replace HO383 := ak (Kd.R_below (kR HO383.out) hb)
     replace HO386 := ak (Kd.S_below (kS HO386.out) hb)
     replace HO390 := ak (Kd.R_below (kR HO390.out) hb)
     replace HO393 := ak (Kd.S_below (kS HO393.out) hb)
     replace HO408 := ak (Kd.R_below (kR HO408.out) hb)
     replace HO411 := ak (Kd.S_below (kS HO411.out) hb)
     replace HO414 := ak (Kd.R_below (kR HO414.out) hb)
     replace HO417 := ak (Kd.S_below (kS HO417.out) hb)
     have BK425 := ak (hbox)
     have GW425 := ak (ge_box hg (kB HB.out))
     have GE425 := ak (ge_box hg (kB HB.out))
     replace HB := ak (below_step (kB HB.out) hb)
     have NB334_425 := ak ((ne_box hg (kK BK334.out)))
     have NB425_334 := ak ((ne_box' hg (kK BK334.out)))
     replace BK334 := ak (blk_below (kK BK334.out) hb)
     have NB335_425 := ak ((ne_box hg (kK BK335.out)))
     have NB425_335 := ak ((ne_box' hg (kK BK335.out)))
     replace BK335 := ak (blk_below (kK BK335.out) hb)
     have NB357_425 := ak ((ne_box hg (kK BK357.out)))
     have NB425_357 := ak ((ne_box' hg (kK BK357.out)))
     replace BK357 := ak (blk_below (kK BK357.out) hb)
     have NB364_425 := ak ((ne_box hg (kK BK364.out)))
     have NB425_364 := ak ((ne_box' hg (kK BK364.out)))
     replace BK364 := ak (blk_below (kK BK364.out) hb)
     have NB371_425 := ak ((ne_box hg (kK BK371.out)))
     have NB425_371 := ak ((ne_box' hg (kK BK371.out)))
     replace BK371 := ak (blk_below (kK BK371.out) hb)
     have NB379_425 := ak ((ne_box hg (kK BK379.out)))
     have NB425_379 := ak ((ne_box' hg (kK BK379.out)))
     replace BK379 := ak (blk_below (kK BK379.out) hb)
     clear hb hbox hg
     obtain ⟨Ao152, co152, eo152⟩ := Kd.R_slice HO408.out
     (first | subst eo152 | (injection eo152 with f1_ f2_ f3_; have f4_ := f1_.symm; have f5_ := f3_.symm; clear f1_ f2_ f3_; subst f4_; subst f5_))
     obtain ⟨Ao153, co153, eo153⟩ := Kd.S_slice HO411.out
     (first | subst eo153 | (injection eo153 with f1_ f2_ f3_; have f4_ := f1_.symm; have f5_ := f3_.symm; clear f1_ f2_ f3_; subst f4_; subst f5_))
     obtain ⟨Ao154, co154, eo154⟩ := Kd.R_slice HO414.out
     (first | subst eo154 | (injection eo154 with f1_ f2_ f3_; have f4_ := f1_.symm; have f5_ := f3_.symm; clear f1_ f2_ f3_; subst f4_; subst f5_))
     obtain ⟨Ao155, co155, eo155⟩ := Kd.S_slice HO417.out
     (first | subst eo155 | (injection eo155 with f1_ f2_ f3_; have f4_ := f1_.symm; have f5_ := f3_.symm; clear f1_ f2_ f3_; subst f4_; subst f5_))
     refine hK.out _ _ ⟨(blk_cell BK334.out 0).trans rfl, (blk_cell BK334.out 1).trans rfl, (blk_cell BK335.out 0).trans rfl, (blk_cell BK335.out 1).trans rfl⟩ (fun hHeld => ?_)
     clear hK K
     refine norm_ (a' := ?_) ?_ ?_
     rotate_left
     ·show Act.put _ (some 15) _ = _
      simp only [Act.put, List.setIfInBounds_toArray, List.set_cons_zero, List.set_cons_succ, i64_w, i32_w]
      rfl
     refine one_ (i := 4) (N := some 99) #[true, true, true, true, true, false, false, false, true, false, false] rfl rfl (one_of HT_.out (by kernel_rfl)) (by decide) (fun K hK => ?_)
     refine goes_ Try.func26 (by kernel_rfl) rfl #[.agg #[.slice Ao152 t406.length co152, .slice Ao153 t409.length co153], .agg #[.slice Ao154 t412.length co154, .slice Ao155 t415.length co155]] (by rfl) rfl rfl (by (try simp only [List.map_toArray, List.map_cons, List.map_nil]); first | done | rfl | (simp only [List.length_drop, List.length_take]; rfl)) ?_
     with_reducible refine (impl_CrossAlgebras.calls k _ _ t406 _ _ t409 _ _ t412 _ _ t415 t418 t421 t424 _ ?side1 ?side2 ?side3 ?side4 ?side5 ?side6 ?side7 ?side8 A48.out).mono ?_
     (case side1 => exact kC (Kd.R_reads' HO408.out).2.2)
     (case side2 => exact (Kd.R_reads' HO408.out).2.1)
     (case side3 => exact kC (Kd.S_reads' HO411.out).2.2)
     (case side4 => exact (Kd.S_reads' HO411.out).2.1)
     (case side5 => exact kC (Kd.R_reads' HO414.out).2.2)
     (case side6 => exact (Kd.R_reads' HO414.out).2.1)
     (case side7 => exact kC (Kd.S_reads' HO417.out).2.2)
     (case side8 => exact (Kd.S_reads' HO417.out).2.1)
     rintro e w156 ⟨v419, v422, rfl, ho0, ho1, hb⟩
     refine ⟨_, rfl, ?_⟩
     obtain ⟨ag157, hag157⟩ := age_at hb
     replace HO340 := ak (age_oldR (kR HO340.out) hb hag157.out)
     replace HO343 := ak (age_oldS (kS HO343.out) hb hag157.out)
     replace HO346 := ak (age_oldR (kR HO346.out) hb hag157.out)
     replace HO349 := ak (age_oldS (kS HO349.out) hb hag157.out)
     replace HO352 := ak (age_oldR (kR HO352.out) hb hag157.out)
     replace HO355 := ak (age_oldS (kS HO355.out) hb hag157.out)
     replace HO360 := ak (age_oldR (kR HO360.out) hb hag157.out)
     replace HO363 := ak (age_oldS (kS HO363.out) hb hag157.out)
     replace HO367 := ak (age_oldR (kR HO367.out) hb hag157.out)
     replace HO370 := ak (age_oldS (kS HO370.out) hb hag157.out)
     replace HO374 := ak (age_oldR (kR HO374.out) hb hag157.out)
     replace HO377 := ak (age_oldS (kS HO377.out) hb hag157.out)
     replace HO383 := ak (age_oldR (kR HO383.out) hb hag157.out)
     replace HO386 := ak (age_oldS (kS HO386.out) hb hag157.out)
     replace HO390 := ak (age_oldR (kR HO390.out) hb hag157.out)
     replace HO393 := ak (age_oldS (kS HO393.out) hb hag157.out)
     replace HO408 := ak (age_oldR (kR HO408.out) hb hag157.out)
     replace HO411 := ak (age_oldS (kS HO411.out) hb hag157.out)
     replace HO414 := ak (age_oldR (kR HO414.out) hb hag157.out)
     replace HO417 := ak (age_oldS (kS HO417.out) hb hag157.out)
     have HO420 := ak (Kd.R_lower (age_newR ho0 hag157.out) (below_size (kB HB.out)))
     have HO423 := ak (Kd.S_lower (age_newS ho1 hag157.out) (below_size (kB HB.out)))
     replace BK334 := ak (blk_below (kK BK334.out) hb)
     replace BK335 := ak (blk_below (kK BK335.out) hb)
     replace BK357 := ak (blk_below (kK BK357.out) hb)
     replace BK364 := ak (blk_below (kK BK364.out) hb)
     replace BK371 := ak (blk_below (kK BK371.out) hb)
     replace BK379 := ak (blk_below (kK BK379.out) hb)
     replace BK425 := ak (blk_below (kK BK425.out) hb)
     replace HB := ak (below_step (kB HB.out) hb)
     (try clear hb)
     (try clear hb2)
     (try clear hk)
     (try clear hi)
     (try clear ho0)
     (try clear ho1)
     refine hK.out _ _ ⟨(blk_cell BK334.out 0).trans rfl, (blk_cell BK334.out 1).trans rfl, (blk_cell BK335.out 0).trans rfl, (blk_cell BK335.out 1).trans rfl⟩ (fun hHeld => ?_)
     clear hK K
     refine norm_ (a' := ?_) ?_ ?_
     rotate_left
     ·show Act.put _ (some 99) _ = _
      simp only [Act.put, List.setIfInBounds_toArray, List.set_cons_zero, List.set_cons_succ, i64_w, i32_w]
      rfl
     refine pure_ (i := 5) (N := some 94) (v := ?_) (a' := ?_) #[true, true, true, true, true, true, false, false, true, false, false] rfl rfl (any_of HT_.out (by kernel_rfl)) (fun _ _ _ h => h) (Or.inl ⟨by rfl, ?_⟩) ?_ ?_
     rotate_left
     ·intro w'
      go_simp
      with_reducible rfl
     rotate_left
     ·simp only [Act.put, List.setIfInBounds_toArray, List.set_cons_zero, List.set_cons_succ, i64_w, i32_w]
      rfl
     refine pure_ (i := 6) (N := some 100) (v := ?_) (a' := ?_) #[true, true, true, true, true, true, true, false, true, false, false] rfl rfl (any_of HT_.out (by kernel_rfl)) (fun _ _ _ h => h) (Or.inl ⟨by rfl, ?_⟩) ?_ ?_
     rotate_left
     ·intro w'
      go_simp
      with_reducible rfl
     rotate_left
     ·simp only [Act.put, List.setIfInBounds_toArray, List.set_cons_zero, List.set_cons_succ, i64_w, i32_w]
      rfl
     refine pure_ (i := 7) (N := some 101) (v := ?_) (a' := ?_) #[true, true, true, true, true, true, true, true, true, false, false] rfl rfl (any_of HT_.out (by kernel_rfl)) (fun _ _ _ h => h) (Or.inl ⟨by rfl, ?_⟩) ?_ ?_
     rotate_left
     ·intro w'
      go_simp
      with_reducible rfl
     rotate_left
     ·simp only [Act.put, List.setIfInBounds_toArray, List.set_cons_zero, List.set_cons_succ, i64_w, i32_w]
      rfl
     exact norm_ (by simp only [putAll, Act.put, List.setIfInBounds_toArray, List.set_cons_zero, List.set_cons_succ]) (hCont (.slice Ao152 t406.length co152, .slice Ao153 t409.length co153, .slice Ao154 t412.length co154, .slice Ao155 t415.length co155, v419, v422, gb425) _ ⟨hHeld, (kR (Kd.R_mono HO340.out (fun _ hk => trivial))), (kS (Kd.S_mono HO343.out (fun _ hk => hk.1.1.1.1.1.1.1.1.1.1.1.1.1))), (kR (Kd.R_mono HO346.out (fun _ hk => trivial))), (kS (Kd.S_mono HO349.out (fun _ hk => hk.1.1.1.1.1.1.1.1.1.1.1.1.1))), (kR (Kd.R_mono HO352.out (fun _ hk => trivial))), (kS (Kd.S_mono HO355.out (fun _ hk => hk.1.1.1.1.1.1.1.1.1.1.1.1.1))), (kR (Kd.R_mono HO360.out (fun _ hk => trivial))), (kS (Kd.S_mono HO363.out (fun _ hk => hk.1.1.1.1.1.1.1.1.1.1.1.1.1.1.1.1.1.1.1))), (kR (Kd.R_mono HO367.out (fun _ hk => trivial))), (kS (Kd.S_mono HO370.out (fun _ hk => hk.1.1.1.1.1.1.1.1.1.1.1.1.1.1.1.1.1.1))), (kR (Kd.R_mono HO374.out (fun _ hk => trivial))), (kS (Kd.S_mono HO377.out (fun _ hk => hk.1.1.1.1.1.1.1.1.1.1.1.1.1.1.1.1.1))), (kR (Kd.R_mono HO383.out (fun _ hk => trivial))), (kS (Kd.S_mono HO386.out (fun _ hk => hk.1.1.1.1.1.1.1.1.1))), (kR (Kd.R_mono HO390.out (fun _ hk => trivial))), (kS (Kd.S_mono HO393.out (fun _ hk => hk.1.1.1.1.1.1.1))), (kR (Kd.R_mono HO408.out (fun _ hk => trivial))), (kS (Kd.S_mono HO411.out (fun _ hk => hk.1.1.1))), (kR (Kd.R_mono HO414.out (fun _ hk => trivial))), (kS (Kd.S_mono HO417.out (fun _ hk => hk.1.1))), (kR (Kd.R_mono HO420.out (fun _ hk => trivial))), (kS (Kd.S_mono HO423.out (fun _ hk => hk.1))), (kK BK334.out), (kK BK335.out), (kK BK357.out), (kK BK364.out), (kK BK371.out), (kK BK379.out), (kK BK425.out), GW425.out, GE425.out, NB334_425.out, NB425_334.out, NB335_425.out, NB425_335.out, NB357_425.out, NB425_357.out, NB364_425.out, NB425_364.out, NB371_425.out, NB425_371.out, NB379_425.out, NB425_379.out, (bB HB.out)⟩)
   ·skip
    refine box_step ?hg (N := 15) ?hd (cs := #[.slice none 0 0, .slice none 0 0]) (t := 25) ?hr ?_; (case hd => rfl); (case hg => rfl); (case hr => first | (go_simp; done) | (go_simp; rfl))
    intro gb425 hg w149 hbox hb
    replace HO340 := ak (Kd.R_below (kR HO340.out) hb)
    replace HO343 := ak (Kd.S_below (kS HO343.out) hb)
    replace HO346 := ak (Kd.R_below (kR HO346.out) hb)
    replace HO349 := ak (Kd.S_below (kS HO349.out) hb)
    replace HO352 := ak (Kd.R_below (kR HO352.out) hb)
    replace HO355 := ak (Kd.S_below (kS HO355.out) hb)
    replace HO360 := ak (Kd.R_below (kR HO360.out) hb)
    replace HO363 := ak (Kd.S_below (kS HO363.out) hb)
    replace HO367 := ak (Kd.R_below (kR HO367.out) hb)
    replace HO370 := ak (Kd.S_below (kS HO370.out) hb)
    replace HO374 := ak (Kd.R_below (kR HO374.out) hb)
    replace HO377 := ak (Kd.S_below (kS HO377.out) hb)
    replace HO383 := ak (Kd.R_below (kR HO383.out) hb)
    replace HO386 := ak (Kd.S_below (kS HO386.out) hb)
    replace HO390 := ak (Kd.R_below (kR HO390.out) hb)
    replace HO393 := ak (Kd.S_below (kS HO393.out) hb)
    replace HO408 := ak (Kd.R_below (kR HO408.out) hb)
    replace HO411 := ak (Kd.S_below (kS HO411.out) hb)
    have BK425 := ak (hbox)
    have GW425 := ak (ge_box hg (kB HB.out))
    have GE425 := ak (ge_box hg (kB HB.out))
    replace HB := ak (below_step (kB HB.out) hb)
    have NB334_425 := ak ((ne_box hg (kK BK334.out)))
    have NB425_334 := ak ((ne_box' hg (kK BK334.out)))
    replace BK334 := ak (blk_below (kK BK334.out) hb)
    have NB335_425 := ak ((ne_box hg (kK BK335.out)))
    have NB425_335 := ak ((ne_box' hg (kK BK335.out)))
    replace BK335 := ak (blk_below (kK BK335.out) hb)
    have NB357_425 := ak ((ne_box hg (kK BK357.out)))
    have NB425_357 := ak ((ne_box' hg (kK BK357.out)))
    replace BK357 := ak (blk_below (kK BK357.out) hb)
    have NB364_425 := ak ((ne_box hg (kK BK364.out)))
    have NB425_364 := ak ((ne_box' hg (kK BK364.out)))
    replace BK364 := ak (blk_below (kK BK364.out) hb)
    have NB371_425 := ak ((ne_box hg (kK BK371.out)))
    have NB425_371 := ak ((ne_box' hg (kK BK371.out)))
    replace BK371 := ak (blk_below (kK BK371.out) hb)
    have NB379_425 := ak ((ne_box hg (kK BK379.out)))
    have NB425_379 := ak ((ne_box' hg (kK BK379.out)))
    replace BK379 := ak (blk_below (kK BK379.out) hb)
    clear hb hbox hg
    refine hK.out _ _ ⟨(blk_cell BK334.out 0).trans rfl, (blk_cell BK334.out 1).trans rfl, (blk_cell BK335.out 0).trans rfl, (blk_cell BK335.out 1).trans rfl⟩ (fun hHeld => ?_)
    clear hK K
    refine norm_ (a' := ?_) ?_ ?_
    rotate_left
    ·show Act.put _ (some 15) _ = _
     simp only [Act.put, List.setIfInBounds_toArray, List.set_cons_zero, List.set_cons_succ, i64_w, i32_w]
     rfl
    refine one_ (i := 3) (N := some 98) #[true, true, true, true, false, false, false, false, true, false, false] rfl rfl (one_of HT_.out (by kernel_rfl)) (by decide) (fun K hK => ?_)
    refine goes_ Try.func25 (by kernel_rfl) rfl #[.agg #[.slice A1_0 l1_0.length c1_0, .slice A1_1 l1_1.length c1_1]] (by rfl) rfl rfl (by (try simp only [List.map_toArray, List.map_cons, List.map_nil]); first | done | rfl | (simp only [List.length_drop, List.length_take]; rfl)) ?_
    with_reducible refine (laws_toAlgebra.calls k _ _ l1_0 _ _ l1_1 t412 t415 _ ?side1 ?side2 ?side3 ?side4 A47.out).mono ?_
    (case side1 => exact kC (Kd.C_below HR1_0.out HB.out))
    (case side2 => exact HC1_0.out)
    (case side3 => exact kC (Kd.C_below HR1_1.out HB.out))
    (case side4 => exact HC1_1.out)
    rintro e w150 ⟨v413, v416, rfl, ho0, ho1, hb⟩
    refine ⟨_, rfl, ?_⟩
    obtain ⟨ag151, hag151⟩ := age_at hb
    replace HO340 := ak (age_oldR (kR HO340.out) hb hag151.out)
    replace HO343 := ak (age_oldS (kS HO343.out) hb hag151.out)
    replace HO346 := ak (age_oldR (kR HO346.out) hb hag151.out)
    replace HO349 := ak (age_oldS (kS HO349.out) hb hag151.out)
    replace HO352 := ak (age_oldR (kR HO352.out) hb hag151.out)
    replace HO355 := ak (age_oldS (kS HO355.out) hb hag151.out)
    replace HO360 := ak (age_oldR (kR HO360.out) hb hag151.out)
    replace HO363 := ak (age_oldS (kS HO363.out) hb hag151.out)
    replace HO367 := ak (age_oldR (kR HO367.out) hb hag151.out)
    replace HO370 := ak (age_oldS (kS HO370.out) hb hag151.out)
    replace HO374 := ak (age_oldR (kR HO374.out) hb hag151.out)
    replace HO377 := ak (age_oldS (kS HO377.out) hb hag151.out)
    replace HO383 := ak (age_oldR (kR HO383.out) hb hag151.out)
    replace HO386 := ak (age_oldS (kS HO386.out) hb hag151.out)
    replace HO390 := ak (age_oldR (kR HO390.out) hb hag151.out)
    replace HO393 := ak (age_oldS (kS HO393.out) hb hag151.out)
    replace HO408 := ak (age_oldR (kR HO408.out) hb hag151.out)
    replace HO411 := ak (age_oldS (kS HO411.out) hb hag151.out)
    have HO414 := ak (Kd.R_lower (age_newR ho0 hag151.out) (below_size (kB HB.out)))
    have HO417 := ak (Kd.S_lower (age_newS ho1 hag151.out) (below_size (kB HB.out)))
    replace BK334 := ak (blk_below (kK BK334.out) hb)
    replace BK335 := ak (blk_below (kK BK335.out) hb)
    replace BK357 := ak (blk_below (kK BK357.out) hb)
    replace BK364 := ak (blk_below (kK BK364.out) hb)
    replace BK371 := ak (blk_below (kK BK371.out) hb)
    replace BK379 := ak (blk_below (kK BK379.out) hb)
    replace BK425 := ak (blk_below (kK BK425.out) hb)
    replace HB := ak (below_step (kB HB.out) hb)
    (try clear hb)
    (try clear hb2)
    (try clear hk)
    (try clear hi)
    (try clear ho0)
    (try clear ho1)
    obtain ⟨Ao152, co152, eo152⟩ := Kd.R_slice HO408.out
    (first | subst eo152 | (injection eo152 with f1_ f2_ f3_; have f4_ := f1_.symm; have f5_ := f3_.symm; clear f1_ f2_ f3_; subst f4_; subst f5_))
    obtain ⟨Ao153, co153, eo153⟩ := Kd.S_slice HO411.out
    (first | subst eo153 | (injection eo153 with f1_ f2_ f3_; have f4_ := f1_.symm; have f5_ := f3_.symm; clear f1_ f2_ f3_; subst f4_; subst f5_))
    obtain ⟨Ao154, co154, eo154⟩ := Kd.R_slice HO414.out
    (first | subst eo154 | (injection eo154 with f1_ f2_ f3_; have f4_ := f1_.symm; have f5_ := f3_.symm; clear f1_ f2_ f3_; subst f4_; subst f5_))
    obtain ⟨Ao155, co155, eo155⟩ := Kd.S_slice HO417.out
    (first | subst eo155 | (injection eo155 with f1_ f2_ f3_; have f4_ := f1_.symm; have f5_ := f3_.symm; clear f1_ f2_ f3_; subst f4_; subst f5_))
    refine hK.out _ _ ⟨(blk_cell BK334.out 0).trans rfl, (blk_cell BK334.out 1).trans rfl, (blk_cell BK335.out 0).trans rfl, (blk_cell BK335.out 1).trans rfl⟩ (fun hHeld => ?_)
    clear hK K
    refine norm_ (a' := ?_) ?_ ?_
    rotate_left
    ·show Act.put _ (some 98) _ = _
     simp only [Act.put, List.setIfInBounds_toArray, List.set_cons_zero, List.set_cons_succ, i64_w, i32_w]
     rfl
    refine one_ (i := 4) (N := some 99) #[true, true, true, true, true, false, false, false, true, false, false] rfl rfl (one_of HT_.out (by kernel_rfl)) (by decide) (fun K hK => ?_)
    refine goes_ Try.func26 (by kernel_rfl) rfl #[.agg #[.slice Ao152 t406.length co152, .slice Ao153 t409.length co153], .agg #[.slice Ao154 t412.length co154, .slice Ao155 t415.length co155]] (by rfl) rfl rfl (by (try simp only [List.map_toArray, List.map_cons, List.map_nil]); first | done | rfl | (simp only [List.length_drop, List.length_take]; rfl)) ?_
    with_reducible refine (impl_CrossAlgebras.calls k _ _ t406 _ _ t409 _ _ t412 _ _ t415 t418 t421 t424 _ ?side1 ?side2 ?side3 ?side4 ?side5 ?side6 ?side7 ?side8 A48.out).mono ?_
    (case side1 => exact kC (Kd.R_reads' HO408.out).2.2)
    (case side2 => exact (Kd.R_reads' HO408.out).2.1)
    (case side3 => exact kC (Kd.S_reads' HO411.out).2.2)
    (case side4 => exact (Kd.S_reads' HO411.out).2.1)
    (case side5 => exact kC (Kd.R_reads' HO414.out).2.2)
    (case side6 => exact (Kd.R_reads' HO414.out).2.1)
    (case side7 => exact kC (Kd.S_reads' HO417.out).2.2)
    (case side8 => exact (Kd.S_reads' HO417.out).2.1)
    rintro e w156 ⟨v419, v422, rfl, ho0, ho1, hb⟩
    refine ⟨_, rfl, ?_⟩
    obtain ⟨ag157, hag157⟩ := age_at hb
    replace HO340 := ak (age_oldR (kR HO340.out) hb hag157.out)
    replace HO343 := ak (age_oldS (kS HO343.out) hb hag157.out)
    replace HO346 := ak (age_oldR (kR HO346.out) hb hag157.out)
    replace HO349 := ak (age_oldS (kS HO349.out) hb hag157.out)
    replace HO352 := ak (age_oldR (kR HO352.out) hb hag157.out)
    replace HO355 := ak (age_oldS (kS HO355.out) hb hag157.out)
    replace HO360 := ak (age_oldR (kR HO360.out) hb hag157.out)
    replace HO363 := ak (age_oldS (kS HO363.out) hb hag157.out)
    replace HO367 := ak (age_oldR (kR HO367.out) hb hag157.out)
    replace HO370 := ak (age_oldS (kS HO370.out) hb hag157.out)
    replace HO374 := ak (age_oldR (kR HO374.out) hb hag157.out)
    replace HO377 := ak (age_oldS (kS HO377.out) hb hag157.out)
    replace HO383 := ak (age_oldR (kR HO383.out) hb hag157.out)
    replace HO386 := ak (age_oldS (kS HO386.out) hb hag157.out)
    replace HO390 := ak (age_oldR (kR HO390.out) hb hag157.out)
    replace HO393 := ak (age_oldS (kS HO393.out) hb hag157.out)
    replace HO408 := ak (age_oldR (kR HO408.out) hb hag157.out)
    replace HO411 := ak (age_oldS (kS HO411.out) hb hag157.out)
    replace HO414 := ak (age_oldR (kR HO414.out) hb hag157.out)
    replace HO417 := ak (age_oldS (kS HO417.out) hb hag157.out)
    have HO420 := ak (Kd.R_lower (age_newR ho0 hag157.out) (below_size (kB HB.out)))
    have HO423 := ak (Kd.S_lower (age_newS ho1 hag157.out) (below_size (kB HB.out)))
    replace BK334 := ak (blk_below (kK BK334.out) hb)
    replace BK335 := ak (blk_below (kK BK335.out) hb)
    replace BK357 := ak (blk_below (kK BK357.out) hb)
    replace BK364 := ak (blk_below (kK BK364.out) hb)
    replace BK371 := ak (blk_below (kK BK371.out) hb)
    replace BK379 := ak (blk_below (kK BK379.out) hb)
    replace BK425 := ak (blk_below (kK BK425.out) hb)
    replace HB := ak (below_step (kB HB.out) hb)
    (try clear hb)
    (try clear hb2)
    (try clear hk)
    (try clear hi)
    (try clear ho0)
    (try clear ho1)
    refine hK.out _ _ ⟨(blk_cell BK334.out 0).trans rfl, (blk_cell BK334.out 1).trans rfl, (blk_cell BK335.out 0).trans rfl, (blk_cell BK335.out 1).trans rfl⟩ (fun hHeld => ?_)
    clear hK K
    refine norm_ (a' := ?_) ?_ ?_
    rotate_left
    ·show Act.put _ (some 99) _ = _
     simp only [Act.put, List.setIfInBounds_toArray, List.set_cons_zero, List.set_cons_succ, i64_w, i32_w]
     rfl
    refine pure_ (i := 5) (N := some 94) (v := ?_) (a' := ?_) #[true, true, true, true, true, true, false, false, true, false, false] rfl rfl (any_of HT_.out (by kernel_rfl)) (fun _ _ _ h => h) (Or.inl ⟨by rfl, ?_⟩) ?_ ?_
    rotate_left
    ·intro w'
     go_simp
     with_reducible rfl
    rotate_left
    ·simp only [Act.put, List.setIfInBounds_toArray, List.set_cons_zero, List.set_cons_succ, i64_w, i32_w]
     rfl
    refine pure_ (i := 6) (N := some 100) (v := ?_) (a' := ?_) #[true, true, true, true, true, true, true, false, true, false, false] rfl rfl (any_of HT_.out (by kernel_rfl)) (fun _ _ _ h => h) (Or.inl ⟨by rfl, ?_⟩) ?_ ?_
    rotate_left
    ·intro w'
     go_simp
     with_reducible rfl
    rotate_left
    ·simp only [Act.put, List.setIfInBounds_toArray, List.set_cons_zero, List.set_cons_succ, i64_w, i32_w]
     rfl
    refine pure_ (i := 7) (N := some 101) (v := ?_) (a' := ?_) #[true, true, true, true, true, true, true, true, true, false, false] rfl rfl (any_of HT_.out (by kernel_rfl)) (fun _ _ _ h => h) (Or.inl ⟨by rfl, ?_⟩) ?_ ?_
    rotate_left
    ·intro w'
     go_simp
     with_reducible rfl
    rotate_left
    ·simp only [Act.put, List.setIfInBounds_toArray, List.set_cons_zero, List.set_cons_succ, i64_w, i32_w]
     rfl
    exact norm_ (by simp only [putAll, Act.put, List.setIfInBounds_toArray, List.set_cons_zero, List.set_cons_succ]) (hCont (.slice Ao152 t406.length co152, .slice Ao153 t409.length co153, .slice Ao154 t412.length co154, .slice Ao155 t415.length co155, v419, v422, gb425) _ ⟨hHeld, (kR (Kd.R_mono HO340.out (fun _ hk => trivial))), (kS (Kd.S_mono HO343.out (fun _ hk => hk.1.1.1.1.1.1.1.1.1.1.1.1.1))), (kR (Kd.R_mono HO346.out (fun _ hk => trivial))), (kS (Kd.S_mono HO349.out (fun _ hk => hk.1.1.1.1.1.1.1.1.1.1.1.1.1))), (kR (Kd.R_mono HO352.out (fun _ hk => trivial))), (kS (Kd.S_mono HO355.out (fun _ hk => hk.1.1.1.1.1.1.1.1.1.1.1.1.1))), (kR (Kd.R_mono HO360.out (fun _ hk => trivial))), (kS (Kd.S_mono HO363.out (fun _ hk => hk.1.1.1.1.1.1.1.1.1.1.1.1.1.1.1.1.1.1.1))), (kR (Kd.R_mono HO367.out (fun _ hk => trivial))), (kS (Kd.S_mono HO370.out (fun _ hk => hk.1.1.1.1.1.1.1.1.1.1.1.1.1.1.1.1.1.1))), (kR (Kd.R_mono HO374.out (fun _ hk => trivial))), (kS (Kd.S_mono HO377.out (fun _ hk => hk.1.1.1.1.1.1.1.1.1.1.1.1.1.1.1.1.1))), (kR (Kd.R_mono HO383.out (fun _ hk => trivial))), (kS (Kd.S_mono HO386.out (fun _ hk => hk.1.1.1.1.1.1.1.1.1))), (kR (Kd.R_mono HO390.out (fun _ hk => trivial))), (kS (Kd.S_mono HO393.out (fun _ hk => hk.1.1.1.1.1.1.1))), (kR (Kd.R_mono HO408.out (fun _ hk => trivial))), (kS (Kd.S_mono HO411.out (fun _ hk => hk.1.1.1))), (kR (Kd.R_mono HO414.out (fun _ hk => trivial))), (kS (Kd.S_mono HO417.out (fun _ hk => hk.1.1))), (kR (Kd.R_mono HO420.out (fun _ hk => trivial))), (kS (Kd.S_mono HO423.out (fun _ hk => hk.1))), (kK BK334.out), (kK BK335.out), (kK BK357.out), (kK BK364.out), (kK BK371.out), (kK BK379.out), (kK BK425.out), GW425.out, GE425.out, NB334_425.out, NB425_334.out, NB335_425.out, NB425_335.out, NB357_425.out, NB425_357.out, NB364_425.out, NB425_364.out, NB371_425.out, NB425_371.out, NB379_425.out, NB425_379.out, (bB HB.out)⟩)
  ·skip
   refine box_step ?hg (N := 15) ?hd (cs := #[.slice none 0 0, .slice none 0 0]) (t := 25) ?hr ?_; (case hd => rfl); (case hg => rfl); (case hr => first | (go_simp; done) | (go_simp; rfl))
   intro gb425 hg w147 hbox hb
   replace HO340 := ak (Kd.R_below (kR HO340.out) hb)
   replace HO343 := ak (Kd.S_below (kS HO343.out) hb)
   replace HO346 := ak (Kd.R_below (kR HO346.out) hb)
   replace HO349 := ak (Kd.S_below (kS HO349.out) hb)
   replace HO352 := ak (Kd.R_below (kR HO352.out) hb)
   replace HO355 := ak (Kd.S_below (kS HO355.out) hb)
   replace HO360 := ak (Kd.R_below (kR HO360.out) hb)
   replace HO363 := ak (Kd.S_below (kS HO363.out) hb)
   replace HO367 := ak (Kd.R_below (kR HO367.out) hb)
   replace HO370 := ak (Kd.S_below (kS HO370.out) hb)
   replace HO374 := ak (Kd.R_below (kR HO374.out) hb)
   replace HO377 := ak (Kd.S_below (kS HO377.out) hb)
   replace HO383 := ak (Kd.R_below (kR HO383.out) hb)
   replace HO386 := ak (Kd.S_below (kS HO386.out) hb)
   replace HO390 := ak (Kd.R_below (kR HO390.out) hb)
   replace HO393 := ak (Kd.S_below (kS HO393.out) hb)
   have BK425 := ak (hbox)
   have GW425 := ak (ge_box hg (kB HB.out))
   have GE425 := ak (ge_box hg (kB HB.out))
   replace HB := ak (below_step (kB HB.out) hb)
   have NB334_425 := ak ((ne_box hg (kK BK334.out)))
   have NB425_334 := ak ((ne_box' hg (kK BK334.out)))
   replace BK334 := ak (blk_below (kK BK334.out) hb)
   have NB335_425 := ak ((ne_box hg (kK BK335.out)))
   have NB425_335 := ak ((ne_box' hg (kK BK335.out)))
   replace BK335 := ak (blk_below (kK BK335.out) hb)
   have NB357_425 := ak ((ne_box hg (kK BK357.out)))
   have NB425_357 := ak ((ne_box' hg (kK BK357.out)))
   replace BK357 := ak (blk_below (kK BK357.out) hb)
   have NB364_425 := ak ((ne_box hg (kK BK364.out)))
   have NB425_364 := ak ((ne_box' hg (kK BK364.out)))
   replace BK364 := ak (blk_below (kK BK364.out) hb)
   have NB371_425 := ak ((ne_box hg (kK BK371.out)))
   have NB425_371 := ak ((ne_box' hg (kK BK371.out)))
   replace BK371 := ak (blk_below (kK BK371.out) hb)
   have NB379_425 := ak ((ne_box hg (kK BK379.out)))
   have NB425_379 := ak ((ne_box' hg (kK BK379.out)))
   replace BK379 := ak (blk_below (kK BK379.out) hb)
   clear hb hbox hg
   refine hK.out _ _ ⟨(blk_cell BK334.out 0).trans rfl, (blk_cell BK334.out 1).trans rfl, (blk_cell BK335.out 0).trans rfl, (blk_cell BK335.out 1).trans rfl⟩ (fun hHeld => ?_)
   clear hK K
   refine norm_ (a' := ?_) ?_ ?_
   rotate_left
   ·show Act.put _ (some 15) _ = _
    simp only [Act.put, List.setIfInBounds_toArray, List.set_cons_zero, List.set_cons_succ, i64_w, i32_w]
    rfl
   refine one_ (i := 1) (N := some 96) #[true, true, true, false, false, false, false, false, true, false, false] rfl rfl (one_of HT_.out (by kernel_rfl)) (by decide) (fun K hK => ?_)
   refine goes_ Try.func25 (by kernel_rfl) rfl #[.agg #[.slice A0_0 l0_0.length c0_0, .slice A0_1 l0_1.length c0_1]] (by rfl) rfl rfl (by (try simp only [List.map_toArray, List.map_cons, List.map_nil]); first | done | rfl | (simp only [List.length_drop, List.length_take]; rfl)) ?_
   with_reducible refine (laws_toAlgebra.calls k _ _ l0_0 _ _ l0_1 t406 t409 _ ?side1 ?side2 ?side3 ?side4 A46.out).mono ?_
   (case side1 => exact kC (Kd.C_below HR0_0.out HB.out))
   (case side2 => exact HC0_0.out)
   (case side3 => exact kC (Kd.C_below HR0_1.out HB.out))
   (case side4 => exact HC0_1.out)
   rintro e w148 ⟨v407, v410, rfl, ho0, ho1, hb⟩
   refine ⟨_, rfl, ?_⟩
   obtain ⟨ag149, hag149⟩ := age_at hb
   replace HO340 := ak (age_oldR (kR HO340.out) hb hag149.out)
   replace HO343 := ak (age_oldS (kS HO343.out) hb hag149.out)
   replace HO346 := ak (age_oldR (kR HO346.out) hb hag149.out)
   replace HO349 := ak (age_oldS (kS HO349.out) hb hag149.out)
   replace HO352 := ak (age_oldR (kR HO352.out) hb hag149.out)
   replace HO355 := ak (age_oldS (kS HO355.out) hb hag149.out)
   replace HO360 := ak (age_oldR (kR HO360.out) hb hag149.out)
   replace HO363 := ak (age_oldS (kS HO363.out) hb hag149.out)
   replace HO367 := ak (age_oldR (kR HO367.out) hb hag149.out)
   replace HO370 := ak (age_oldS (kS HO370.out) hb hag149.out)
   replace HO374 := ak (age_oldR (kR HO374.out) hb hag149.out)
   replace HO377 := ak (age_oldS (kS HO377.out) hb hag149.out)
   replace HO383 := ak (age_oldR (kR HO383.out) hb hag149.out)
   replace HO386 := ak (age_oldS (kS HO386.out) hb hag149.out)
   replace HO390 := ak (age_oldR (kR HO390.out) hb hag149.out)
   replace HO393 := ak (age_oldS (kS HO393.out) hb hag149.out)
   have HO408 := ak (Kd.R_lower (age_newR ho0 hag149.out) (below_size (kB HB.out)))
   have HO411 := ak (Kd.S_lower (age_newS ho1 hag149.out) (below_size (kB HB.out)))
   replace BK334 := ak (blk_below (kK BK334.out) hb)
   replace BK335 := ak (blk_below (kK BK335.out) hb)
   replace BK357 := ak (blk_below (kK BK357.out) hb)
   replace BK364 := ak (blk_below (kK BK364.out) hb)
   replace BK371 := ak (blk_below (kK BK371.out) hb)
   replace BK379 := ak (blk_below (kK BK379.out) hb)
   replace BK425 := ak (blk_below (kK BK425.out) hb)
   replace HB := ak (below_step (kB HB.out) hb)
   (try clear hb)
   (try clear hb2)
   (try clear hk)
   (try clear hi)
   (try clear ho0)
   (try clear ho1)
   refine hK.out _ _ ⟨(blk_cell BK334.out 0).trans rfl, (blk_cell BK334.out 1).trans rfl, (blk_cell BK335.out 0).trans rfl, (blk_cell BK335.out 1).trans rfl⟩ (fun hHeld => ?_)
   clear hK K
   refine norm_ (a' := ?_) ?_ ?_
   rotate_left
   ·show Act.put _ (some 96) _ = _
    simp only [Act.put, List.setIfInBounds_toArray, List.set_cons_zero, List.set_cons_succ, i64_w, i32_w]
    rfl
   refine one_ (i := 3) (N := some 98) #[true, true, true, true, false, false, false, false, true, false, false] rfl rfl (one_of HT_.out (by kernel_rfl)) (by decide) (fun K hK => ?_)
   refine goes_ Try.func25 (by kernel_rfl) rfl #[.agg #[.slice A1_0 l1_0.length c1_0, .slice A1_1 l1_1.length c1_1]] (by rfl) rfl rfl (by (try simp only [List.map_toArray, List.map_cons, List.map_nil]); first | done | rfl | (simp only [List.length_drop, List.length_take]; rfl)) ?_
   with_reducible refine (laws_toAlgebra.calls k _ _ l1_0 _ _ l1_1 t412 t415 _ ?side1 ?side2 ?side3 ?side4 A47.out).mono ?_
   (case side1 => exact kC (Kd.C_below HR1_0.out HB.out))
   (case side2 => exact HC1_0.out)
   (case side3 => exact kC (Kd.C_below HR1_1.out HB.out))
   (case side4 => exact HC1_1.out)
   rintro e w150 ⟨v413, v416, rfl, ho0, ho1, hb⟩
   refine ⟨_, rfl, ?_⟩
   obtain ⟨ag151, hag151⟩ := age_at hb
   replace HO340 := ak (age_oldR (kR HO340.out) hb hag151.out)
   replace HO343 := ak (age_oldS (kS HO343.out) hb hag151.out)
   replace HO346 := ak (age_oldR (kR HO346.out) hb hag151.out)
   replace HO349 := ak (age_oldS (kS HO349.out) hb hag151.out)
   replace HO352 := ak (age_oldR (kR HO352.out) hb hag151.out)
   replace HO355 := ak (age_oldS (kS HO355.out) hb hag151.out)
   replace HO360 := ak (age_oldR (kR HO360.out) hb hag151.out)
   replace HO363 := ak (age_oldS (kS HO363.out) hb hag151.out)
   replace HO367 := ak (age_oldR (kR HO367.out) hb hag151.out)
   replace HO370 := ak (age_oldS (kS HO370.out) hb hag151.out)
   replace HO374 := ak (age_oldR (kR HO374.out) hb hag151.out)
   replace HO377 := ak (age_oldS (kS HO377.out) hb hag151.out)
   replace HO383 := ak (age_oldR (kR HO383.out) hb hag151.out)
   replace HO386 := ak (age_oldS (kS HO386.out) hb hag151.out)
   replace HO390 := ak (age_oldR (kR HO390.out) hb hag151.out)
   replace HO393 := ak (age_oldS (kS HO393.out) hb hag151.out)
   replace HO408 := ak (age_oldR (kR HO408.out) hb hag151.out)
   replace HO411 := ak (age_oldS (kS HO411.out) hb hag151.out)
   have HO414 := ak (Kd.R_lower (age_newR ho0 hag151.out) (below_size (kB HB.out)))
   have HO417 := ak (Kd.S_lower (age_newS ho1 hag151.out) (below_size (kB HB.out)))
   replace BK334 := ak (blk_below (kK BK334.out) hb)
   replace BK335 := ak (blk_below (kK BK335.out) hb)
   replace BK357 := ak (blk_below (kK BK357.out) hb)
   replace BK364 := ak (blk_below (kK BK364.out) hb)
   replace BK371 := ak (blk_below (kK BK371.out) hb)
   replace BK379 := ak (blk_below (kK BK379.out) hb)
   replace BK425 := ak (blk_below (kK BK425.out) hb)
   replace HB := ak (below_step (kB HB.out) hb)
   (try clear hb)
   (try clear hb2)
   (try clear hk)
   (try clear hi)
   (try clear ho0)
   (try clear ho1)
   obtain ⟨Ao152, co152, eo152⟩ := Kd.R_slice HO408.out
   (first | subst eo152 | (injection eo152 with f1_ f2_ f3_; have f4_ := f1_.symm; have f5_ := f3_.symm; clear f1_ f2_ f3_; subst f4_; subst f5_))
   obtain ⟨Ao153, co153, eo153⟩ := Kd.S_slice HO411.out
   (first | subst eo153 | (injection eo153 with f1_ f2_ f3_; have f4_ := f1_.symm; have f5_ := f3_.symm; clear f1_ f2_ f3_; subst f4_; subst f5_))
   obtain ⟨Ao154, co154, eo154⟩ := Kd.R_slice HO414.out
   (first | subst eo154 | (injection eo154 with f1_ f2_ f3_; have f4_ := f1_.symm; have f5_ := f3_.symm; clear f1_ f2_ f3_; subst f4_; subst f5_))
   obtain ⟨Ao155, co155, eo155⟩ := Kd.S_slice HO417.out
   (first | subst eo155 | (injection eo155 with f1_ f2_ f3_; have f4_ := f1_.symm; have f5_ := f3_.symm; clear f1_ f2_ f3_; subst f4_; subst f5_))
   refine hK.out _ _ ⟨(blk_cell BK334.out 0).trans rfl, (blk_cell BK334.out 1).trans rfl, (blk_cell BK335.out 0).trans rfl, (blk_cell BK335.out 1).trans rfl⟩ (fun hHeld => ?_)
   clear hK K
   refine norm_ (a' := ?_) ?_ ?_
   rotate_left
   ·show Act.put _ (some 98) _ = _
    simp only [Act.put, List.setIfInBounds_toArray, List.set_cons_zero, List.set_cons_succ, i64_w, i32_w]
    rfl
   refine one_ (i := 4) (N := some 99) #[true, true, true, true, true, false, false, false, true, false, false] rfl rfl (one_of HT_.out (by kernel_rfl)) (by decide) (fun K hK => ?_)
   refine goes_ Try.func26 (by kernel_rfl) rfl #[.agg #[.slice Ao152 t406.length co152, .slice Ao153 t409.length co153], .agg #[.slice Ao154 t412.length co154, .slice Ao155 t415.length co155]] (by rfl) rfl rfl (by (try simp only [List.map_toArray, List.map_cons, List.map_nil]); first | done | rfl | (simp only [List.length_drop, List.length_take]; rfl)) ?_
   with_reducible refine (impl_CrossAlgebras.calls k _ _ t406 _ _ t409 _ _ t412 _ _ t415 t418 t421 t424 _ ?side1 ?side2 ?side3 ?side4 ?side5 ?side6 ?side7 ?side8 A48.out).mono ?_
   (case side1 => exact kC (Kd.R_reads' HO408.out).2.2)
   (case side2 => exact (Kd.R_reads' HO408.out).2.1)
   (case side3 => exact kC (Kd.S_reads' HO411.out).2.2)
   (case side4 => exact (Kd.S_reads' HO411.out).2.1)
   (case side5 => exact kC (Kd.R_reads' HO414.out).2.2)
   (case side6 => exact (Kd.R_reads' HO414.out).2.1)
   (case side7 => exact kC (Kd.S_reads' HO417.out).2.2)
   (case side8 => exact (Kd.S_reads' HO417.out).2.1)
   rintro e w156 ⟨v419, v422, rfl, ho0, ho1, hb⟩
   refine ⟨_, rfl, ?_⟩
   obtain ⟨ag157, hag157⟩ := age_at hb
   replace HO340 := ak (age_oldR (kR HO340.out) hb hag157.out)
   replace HO343 := ak (age_oldS (kS HO343.out) hb hag157.out)
   replace HO346 := ak (age_oldR (kR HO346.out) hb hag157.out)
   replace HO349 := ak (age_oldS (kS HO349.out) hb hag157.out)
   replace HO352 := ak (age_oldR (kR HO352.out) hb hag157.out)
   replace HO355 := ak (age_oldS (kS HO355.out) hb hag157.out)
   replace HO360 := ak (age_oldR (kR HO360.out) hb hag157.out)
   replace HO363 := ak (age_oldS (kS HO363.out) hb hag157.out)
   replace HO367 := ak (age_oldR (kR HO367.out) hb hag157.out)
   replace HO370 := ak (age_oldS (kS HO370.out) hb hag157.out)
   replace HO374 := ak (age_oldR (kR HO374.out) hb hag157.out)
   replace HO377 := ak (age_oldS (kS HO377.out) hb hag157.out)
   replace HO383 := ak (age_oldR (kR HO383.out) hb hag157.out)
   replace HO386 := ak (age_oldS (kS HO386.out) hb hag157.out)
   replace HO390 := ak (age_oldR (kR HO390.out) hb hag157.out)
   replace HO393 := ak (age_oldS (kS HO393.out) hb hag157.out)
   replace HO408 := ak (age_oldR (kR HO408.out) hb hag157.out)
   replace HO411 := ak (age_oldS (kS HO411.out) hb hag157.out)
   replace HO414 := ak (age_oldR (kR HO414.out) hb hag157.out)
   replace HO417 := ak (age_oldS (kS HO417.out) hb hag157.out)
   have HO420 := ak (Kd.R_lower (age_newR ho0 hag157.out) (below_size (kB HB.out)))
   have HO423 := ak (Kd.S_lower (age_newS ho1 hag157.out) (below_size (kB HB.out)))
   replace BK334 := ak (blk_below (kK BK334.out) hb)
   replace BK335 := ak (blk_below (kK BK335.out) hb)
   replace BK357 := ak (blk_below (kK BK357.out) hb)
   replace BK364 := ak (blk_below (kK BK364.out) hb)
   replace BK371 := ak (blk_below (kK BK371.out) hb)
   replace BK379 := ak (blk_below (kK BK379.out) hb)
   replace BK425 := ak (blk_below (kK BK425.out) hb)
   replace HB := ak (below_step (kB HB.out) hb)
   (try clear hb)
   (try clear hb2)
   (try clear hk)
   (try clear hi)
   (try clear ho0)
   (try clear ho1)
   refine hK.out _ _ ⟨(blk_cell BK334.out 0).trans rfl, (blk_cell BK334.out 1).trans rfl, (blk_cell BK335.out 0).trans rfl, (blk_cell BK335.out 1).trans rfl⟩ (fun hHeld => ?_)
   clear hK K
   refine norm_ (a' := ?_) ?_ ?_
   rotate_left
   ·show Act.put _ (some 99) _ = _
    simp only [Act.put, List.setIfInBounds_toArray, List.set_cons_zero, List.set_cons_succ, i64_w, i32_w]
    rfl
   refine pure_ (i := 5) (N := some 94) (v := ?_) (a' := ?_) #[true, true, true, true, true, true, false, false, true, false, false] rfl rfl (any_of HT_.out (by kernel_rfl)) (fun _ _ _ h => h) (Or.inl ⟨by rfl, ?_⟩) ?_ ?_
   rotate_left
   ·intro w'
    go_simp
    with_reducible rfl
   rotate_left
   ·simp only [Act.put, List.setIfInBounds_toArray, List.set_cons_zero, List.set_cons_succ, i64_w, i32_w]
    rfl
   refine pure_ (i := 6) (N := some 100) (v := ?_) (a' := ?_) #[true, true, true, true, true, true, true, false, true, false, false] rfl rfl (any_of HT_.out (by kernel_rfl)) (fun _ _ _ h => h) (Or.inl ⟨by rfl, ?_⟩) ?_ ?_
   rotate_left
   ·intro w'
    go_simp
    with_reducible rfl
   rotate_left
   ·simp only [Act.put, List.setIfInBounds_toArray, List.set_cons_zero, List.set_cons_succ, i64_w, i32_w]
    rfl
   refine pure_ (i := 7) (N := some 101) (v := ?_) (a' := ?_) #[true, true, true, true, true, true, true, true, true, false, false] rfl rfl (any_of HT_.out (by kernel_rfl)) (fun _ _ _ h => h) (Or.inl ⟨by rfl, ?_⟩) ?_ ?_
   rotate_left
   ·intro w'
    go_simp
    with_reducible rfl
   rotate_left
   ·simp only [Act.put, List.setIfInBounds_toArray, List.set_cons_zero, List.set_cons_succ, i64_w, i32_w]
    rfl
   exact norm_ (by simp only [putAll, Act.put, List.setIfInBounds_toArray, List.set_cons_zero, List.set_cons_succ]) (hCont (.slice Ao152 t406.length co152, .slice Ao153 t409.length co153, .slice Ao154 t412.length co154, .slice Ao155 t415.length co155, v419, v422, gb425) _ ⟨hHeld, (kR (Kd.R_mono HO340.out (fun _ hk => trivial))), (kS (Kd.S_mono HO343.out (fun _ hk => hk.1.1.1.1.1.1.1.1.1.1.1.1.1))), (kR (Kd.R_mono HO346.out (fun _ hk => trivial))), (kS (Kd.S_mono HO349.out (fun _ hk => hk.1.1.1.1.1.1.1.1.1.1.1.1.1))), (kR (Kd.R_mono HO352.out (fun _ hk => trivial))), (kS (Kd.S_mono HO355.out (fun _ hk => hk.1.1.1.1.1.1.1.1.1.1.1.1.1))), (kR (Kd.R_mono HO360.out (fun _ hk => trivial))), (kS (Kd.S_mono HO363.out (fun _ hk => hk.1.1.1.1.1.1.1.1.1.1.1.1.1.1.1.1.1.1.1))), (kR (Kd.R_mono HO367.out (fun _ hk => trivial))), (kS (Kd.S_mono HO370.out (fun _ hk => hk.1.1.1.1.1.1.1.1.1.1.1.1.1.1.1.1.1.1))), (kR (Kd.R_mono HO374.out (fun _ hk => trivial))), (kS (Kd.S_mono HO377.out (fun _ hk => hk.1.1.1.1.1.1.1.1.1.1.1.1.1.1.1.1.1))), (kR (Kd.R_mono HO383.out (fun _ hk => trivial))), (kS (Kd.S_mono HO386.out (fun _ hk => hk.1.1.1.1.1.1.1.1.1))), (kR (Kd.R_mono HO390.out (fun _ hk => trivial))), (kS (Kd.S_mono HO393.out (fun _ hk => hk.1.1.1.1.1.1.1))), (kR (Kd.R_mono HO408.out (fun _ hk => trivial))), (kS (Kd.S_mono HO411.out (fun _ hk => hk.1.1.1))), (kR (Kd.R_mono HO414.out (fun _ hk => trivial))), (kS (Kd.S_mono HO417.out (fun _ hk => hk.1.1))), (kR (Kd.R_mono HO420.out (fun _ hk => trivial))), (kS (Kd.S_mono HO423.out (fun _ hk => hk.1))), (kK BK334.out), (kK BK335.out), (kK BK357.out), (kK BK364.out), (kK BK371.out), (kK BK379.out), (kK BK425.out), GW425.out, GE425.out, NB334_425.out, NB425_334.out, NB335_425.out, NB425_335.out, NB357_425.out, NB425_357.out, NB364_425.out, NB425_364.out, NB371_425.out, NB425_371.out, NB379_425.out, NB425_379.out, (bB HB.out)⟩)
 rintro ⟨v407, v410, v413, v416, v419, v422, gb425⟩ w158 ⟨hS_, h0_, h1_, h2_, h3_, h4_, h5_, h6_, h7_, h8_, h9_, h10_, h11_, h12_, h13_, h14_, h15_, h16_, h17_, h18_, h19_, h20_, h21_, h22_, h23_, h24_, h25_, h26_, h27_, h28_, h29_, h30_, h31_, h32_, h33_, h34_, h35_, h36_, h37_, h38_, h39_, h40_, h41_, h42_, h43_⟩
 have n0_ : Aside0 (Kd.R (Kd.int .i64) 3 w158 w.heap.size (fun _ => True) v339 t338) := ⟨h0_⟩
 have n1_ : Aside0 (Kd.S (Kd.slice 3 (Kd.int .i64)) 22 w158 w.heap.size (fun k_ => some k_ ≠ (v339 : Value).ownBlock) v342 t341) := ⟨h1_⟩
 have n2_ : Aside0 (Kd.R (Kd.int .i64) 3 w158 w.heap.size (fun _ => True) v345 t344) := ⟨h2_⟩
 have n3_ : Aside0 (Kd.S (Kd.slice 3 (Kd.int .i64)) 22 w158 w.heap.size (fun k_ => some k_ ≠ (v345 : Value).ownBlock) v348 t347) := ⟨h3_⟩
 have n4_ : Aside0 (Kd.R (Kd.int .i64) 3 w158 w.heap.size (fun _ => True) (.slice Ao77 t350.length co77) t350) := ⟨h4_⟩
 have n5_ : Aside0 (Kd.S (Kd.slice 3 (Kd.int .i64)) 22 w158 w.heap.size (fun k_ => some k_ ≠ (.slice Ao77 t350.length co77 : Value).ownBlock) (.slice Ao79 t353.length co79) t353) := ⟨h5_⟩
 have n6_ : Aside0 (Kd.R (Kd.int .i64) 3 w158 w.heap.size (fun _ => True) (.slice Ao86 t358.length co86) t396) := ⟨h6_⟩
 have n7_ : Aside0 (Kd.S (Kd.slice 3 (Kd.int .i64)) 22 w158 w.heap.size (fun k_ => some k_ ≠ (.slice Ao86 t358.length co86 : Value).ownBlock) (.slice Ao91 t361.length co91) t397) := ⟨h7_⟩
 have n8_ : Aside0 (Kd.R (Kd.int .i64) 3 w158 w.heap.size (fun _ => True) (.slice Ao97 t365.length co97) t399) := ⟨h8_⟩
 have n9_ : Aside0 (Kd.S (Kd.slice 3 (Kd.int .i64)) 22 w158 w.heap.size (fun k_ => some k_ ≠ (.slice Ao97 t365.length co97 : Value).ownBlock) (.slice Ao103 t368.length co103) t400) := ⟨h9_⟩
 have n10_ : Aside0 (Kd.R (Kd.int .i64) 3 w158 w.heap.size (fun _ => True) (.slice Ao108 t372.length co108) t403) := ⟨h10_⟩
 have n11_ : Aside0 (Kd.S (Kd.slice 3 (Kd.int .i64)) 22 w158 w.heap.size (fun k_ => some k_ ≠ (.slice Ao108 t372.length co108 : Value).ownBlock) (.slice Ao115 t375.length co115) t404) := ⟨h11_⟩
 have n12_ : Aside0 (Kd.R (Kd.int .i64) 3 w158 w.heap.size (fun _ => True) (.slice Ao122 t381.length co122) t381) := ⟨h12_⟩
 have n13_ : Aside0 (Kd.S (Kd.slice 3 (Kd.int .i64)) 22 w158 w.heap.size (fun k_ => some k_ ≠ (.slice Ao122 t381.length co122 : Value).ownBlock) (.slice Ao123 t384.length co123) t384) := ⟨h13_⟩
 have n14_ : Aside0 (Kd.R (Kd.int .i64) 3 w158 w.heap.size (fun _ => True) (.slice Ao129 t388.length co129) t388) := ⟨h14_⟩
 have n15_ : Aside0 (Kd.S (Kd.slice 3 (Kd.int .i64)) 22 w158 w.heap.size (fun k_ => some k_ ≠ (.slice Ao129 t388.length co129 : Value).ownBlock) (.slice Ao130 t391.length co130) t391) := ⟨h15_⟩
 have n16_ : Aside0 (Kd.R (Kd.int .i64) 3 w158 w.heap.size (fun _ => True) v407 t406) := ⟨h16_⟩
 have n17_ : Aside0 (Kd.S (Kd.slice 3 (Kd.int .i64)) 22 w158 w.heap.size (fun k_ => some k_ ≠ (v407 : Value).ownBlock) v410 t409) := ⟨h17_⟩
 have n18_ : Aside0 (Kd.R (Kd.int .i64) 3 w158 w.heap.size (fun _ => True) v413 t412) := ⟨h18_⟩
 have n19_ : Aside0 (Kd.S (Kd.slice 3 (Kd.int .i64)) 22 w158 w.heap.size (fun k_ => some k_ ≠ (v413 : Value).ownBlock) v416 t415) := ⟨h19_⟩
 have n20_ : Aside0 (Kd.R (Kd.int .i64) 3 w158 w.heap.size (fun _ => True) v419 t418) := ⟨h20_⟩
 have n21_ : Aside0 (Kd.S (Kd.slice 3 (Kd.int .i64)) 22 w158 w.heap.size (fun k_ => some k_ ≠ (v419 : Value).ownBlock) v422 t421) := ⟨h21_⟩
 have n22_ : Aside0 (w158.heap[gb334]? = some (.cells #[.slice A0_0 l0_0.length c0_0, .slice A0_1 l0_1.length c0_1] 36 (0, 0))) := ⟨h22_⟩
 have n23_ : Aside0 (w158.heap[gb335]? = some (.cells #[.slice A1_0 l1_0.length c1_0, .slice A1_1 l1_1.length c1_1] 36 (0, 0))) := ⟨h23_⟩
 have n24_ : Aside0 (w158.heap[gb357]? = some (.cells #[.slice Ao77 t350.length co77, .slice Ao79 t353.length co79] 25 (0, 0))) := ⟨h24_⟩
 have n25_ : Aside0 (w158.heap[gb364]? = some (.cells #[.slice Ao86 t358.length co86, .slice Ao91 t361.length co91] 25 (0, 0))) := ⟨h25_⟩
 have n26_ : Aside0 (w158.heap[gb371]? = some (.cells #[.slice Ao97 t365.length co97, .slice Ao103 t368.length co103] 25 (0, 0))) := ⟨h26_⟩
 have n27_ : Aside0 (w158.heap[gb379]? = some (.cells #[.slice Ao108 t372.length co108, .slice Ao115 t375.length co115] 25 (0, 0))) := ⟨h27_⟩
 have n28_ : Aside0 (w158.heap[gb425]? = some (.cells #[.slice none 0 0, .slice none 0 0] 25 (0, 0))) := ⟨h28_⟩
 have n29_ : Aside0 (w.heap.size ≤ gb425) := ⟨h29_⟩
 have n30_ : Aside0 (w.heap.size ≤ gb425) := ⟨h30_⟩
 have n31_ : Aside0 (gb334 ≠ gb425) := ⟨h31_⟩
 have n32_ : Aside0 (gb425 ≠ gb334) := ⟨h32_⟩
 have n33_ : Aside0 (gb335 ≠ gb425) := ⟨h33_⟩
 have n34_ : Aside0 (gb425 ≠ gb335) := ⟨h34_⟩
 have n35_ : Aside0 (gb357 ≠ gb425) := ⟨h35_⟩
 have n36_ : Aside0 (gb425 ≠ gb357) := ⟨h36_⟩
 have n37_ : Aside0 (gb364 ≠ gb425) := ⟨h37_⟩
 have n38_ : Aside0 (gb425 ≠ gb364) := ⟨h38_⟩
 have n39_ : Aside0 (gb371 ≠ gb425) := ⟨h39_⟩
 have n40_ : Aside0 (gb425 ≠ gb371) := ⟨h40_⟩
 have n41_ : Aside0 (gb379 ≠ gb425) := ⟨h41_⟩
 have n42_ : Aside0 (gb425 ≠ gb379) := ⟨h42_⟩
 have n43_ : Aside0 (Below w.heap.size w w158) := ⟨h43_⟩
 clear HO340
 clear HO343
 clear HO346
 clear HO349
 clear HO352
 clear HO355
 clear HO360
 clear HO363
 clear HO367
 clear HO370
 clear HO374
 clear HO377
 clear HO383
 clear HO386
 clear HO390
 clear HO393
 clear BK334
 clear BK335
 clear BK357
 clear BK364
 clear BK371
 clear BK379
 clear HB
 clear h0_ h1_ h2_ h3_ h4_ h5_ h6_ h7_ h8_ h9_ h10_ h11_ h12_ h13_ h14_ h15_ h16_ h17_ h18_ h19_ h20_ h21_ h22_ h23_ h24_ h25_ h26_ h27_ h28_ h29_ h30_ h31_ h32_ h33_ h34_ h35_ h36_ h37_ h38_ h39_ h40_ h41_ h42_ h43_
 have HO340 := n0_
 have HO343 := n1_
 have HO346 := n2_
 have HO349 := n3_
 have HO352 := n4_
 have HO355 := n5_
 have HO360 := n6_
 have HO363 := n7_
 have HO367 := n8_
 have HO370 := n9_
 have HO374 := n10_
 have HO377 := n11_
 have HO383 := n12_
 have HO386 := n13_
 have HO390 := n14_
 have HO393 := n15_
 have HO408 := n16_
 have HO411 := n17_
 have HO414 := n18_
 have HO417 := n19_
 have HO420 := n20_
 have HO423 := n21_
 have BK334 := n22_
 have BK335 := n23_
 have BK357 := n24_
 have BK364 := n25_
 have BK371 := n26_
 have BK379 := n27_
 have BK425 := n28_
 have GW425 := n29_
 have GE425 := n30_
 have NB334_425 := n31_
 have NB425_334 := n32_
 have NB335_425 := n33_
 have NB425_335 := n34_
 have NB357_425 := n35_
 have NB425_357 := n36_
 have NB364_425 := n37_
 have NB425_364 := n38_
 have NB371_425 := n39_
 have NB425_371 := n40_
 have NB379_425 := n41_
 have NB425_379 := n42_
 have HB := n43_
 clear n0_ n1_ n2_ n3_ n4_ n5_ n6_ n7_ n8_ n9_ n10_ n11_ n12_ n13_ n14_ n15_ n16_ n17_ n18_ n19_ n20_ n21_ n22_ n23_ n24_ n25_ n26_ n27_ n28_ n29_ n30_ n31_ n32_ n33_ n34_ n35_ n36_ n37_ n38_ n39_ n40_ n41_ n42_ n43_
 have hHeld : w158.cell? ⟨gb334, 0, none⟩ = some (.slice A0_0 l0_0.length c0_0) ∧ w158.cell? ⟨gb334, 1, none⟩ = some (.slice A0_1 l0_1.length c0_1) ∧ w158.cell? ⟨gb335, 0, none⟩ = some (.slice A1_0 l1_0.length c1_0) ∧ w158.cell? ⟨gb335, 1, none⟩ = some (.slice A1_1 l1_1.length c1_1) := hS_
 obtain ⟨Ao159, co159, eo159⟩ := Kd.R_slice HO420.out
 (first | subst eo159 | (injection eo159 with f1_ f2_ f3_; have f4_ := f1_.symm; have f5_ := f3_.symm; clear f1_ f2_ f3_; subst f4_; subst f5_))
 obtain ⟨Ao161, co161, eo161⟩ := Kd.S_slice HO423.out
 (first | subst eo161 | (injection eo161 with f1_ f2_ f3_; have f4_ := f1_.symm; have f5_ := f3_.symm; clear f1_ f2_ f3_; subst f4_; subst f5_))
 refine norm_ (a' := ?_) ?_ ?_
 rotate_left
 ·simp only [putAll, Act.put, List.setIfInBounds_toArray, List.set_cons_zero, List.set_cons_succ]
  rfl
 refine one_ (i := 9) (N := none) #[true, true, true, true, true, true, true, true, true, true, false] rfl rfl (one_of HT_.out (by kernel_rfl)) (by decide) (fun K hK => ?_)
 have hs160 : w158.cell? ⟨gb425, 0, none⟩ = some (.slice none 0 0) := (blk_cell BK425.out 0).trans rfl
 have hfs160 := blk_frozen BK425.out 0
 have hns160_0 := NB334_425.out
 have hns160_1 := NB335_425.out
 have hns160_2 := NB357_425.out
 have hns160_3 := NB364_425.out
 have hns160_4 := NB371_425.out
 have hns160_5 := NB379_425.out
 have hms160_0 := NB425_334.out
 have hms160_1 := NB425_335.out
 have hms160_2 := NB425_357.out
 have hms160_3 := NB425_364.out
 have hms160_4 := NB425_371.out
 have hms160_5 := NB425_379.out
 have hs162 : w158.cell? ⟨gb425, 1, none⟩ = some (.slice none 0 0) := (blk_cell BK425.out 1).trans rfl
 have hfs162 := blk_frozen BK425.out 1
 have hns162_0 := NB334_425.out
 have hns162_1 := NB335_425.out
 have hns162_2 := NB357_425.out
 have hns162_3 := NB364_425.out
 have hns162_4 := NB371_425.out
 have hns162_5 := NB379_425.out
 have hms162_0 := NB425_334.out
 have hms162_1 := NB425_335.out
 have hms162_2 := NB425_357.out
 have hms162_3 := NB425_364.out
 have hms162_4 := NB425_371.out
 have hms162_5 := NB425_379.out
 refine skip_ (w1 := ?_) (by rfl) rfl ?_ ?_
 rotate_left
 ·go_simp
  rfl
 refine hK.out _ _ ⟨((cell_far (p := ⟨gb425, _, none⟩) NB334_425.out _).trans (((cell_far (p := ⟨gb425, _, none⟩) NB334_425.out _).trans (hHeld.1)))), ((cell_far (p := ⟨gb425, _, none⟩) NB334_425.out _).trans (((cell_far (p := ⟨gb425, _, none⟩) NB334_425.out _).trans (hHeld.2.1)))), ((cell_far (p := ⟨gb425, _, none⟩) NB335_425.out _).trans (((cell_far (p := ⟨gb425, _, none⟩) NB335_425.out _).trans (hHeld.2.2.1)))), ((cell_far (p := ⟨gb425, _, none⟩) NB335_425.out _).trans (((cell_far (p := ⟨gb425, _, none⟩) NB335_425.out _).trans (hHeld.2.2.2))))⟩ (fun hHeld => ?_)
 clear hK K
 refine pure_ (i := 10) (N := some 16) (v := ?_) (a' := ?_) #[true, true, true, true, true, true, true, true, true, true, true] rfl rfl (any_of HT_.out (by kernel_rfl)) (fun _ _ _ h => h) (Or.inl ⟨by rfl, ?_⟩) ?_ ?_
 rotate_left
 ·intro w'
  go_simp
  with_reducible rfl
 rotate_left
 ·simp only [Act.put, List.setIfInBounds_toArray, List.set_cons_zero, List.set_cons_succ, i64_w, i32_w]
  rfl
 refine done_ (done_of HT_.out (by kernel_rfl)) ?_
 have hnb163 := NB425_334.out
 have hnc163 := NB334_425.out
 have hnb164 := NB425_335.out
 have hnc164 := NB335_425.out
 have hnb165 := NB425_357.out
 have hnc165 := NB357_425.out
 have hnb166 := NB425_364.out
 have hnc166 := NB364_425.out
 have hnb167 := NB425_371.out
 have hnc167 := NB371_425.out
 have hnb168 := NB425_379.out
 have hnc168 := NB379_425.out
 have hcz169_0 : w158.cell? ⟨gb425, 0, none⟩ = some (.slice none 0 0) := (blk_cell BK425.out 0).trans rfl
 have hcz169_1 : w158.cell? ⟨gb425, 1, none⟩ = some (.slice none 0 0) := (blk_cell BK425.out 1).trans rfl
 have hfz169_0 := blk_frozen BK425.out 0
 have hfz169_1 := blk_frozen BK425.out 1
 have hcz170_0 : w158.cell? ⟨gb357, 0, none⟩ = some (.slice Ao77 t350.length co77) := (blk_cell BK357.out 0).trans rfl
 have hcz170_1 : w158.cell? ⟨gb357, 1, none⟩ = some (.slice Ao79 t353.length co79) := (blk_cell BK357.out 1).trans rfl
 have hfz170_0 := blk_frozen BK357.out 0
 have hfz170_1 := blk_frozen BK357.out 1
 try go_wp2_with (first | ((with_reducible refine gate_callee (f := 16) rfl ?_); refine goesL_ (some 104) rfl rfl Try.func16 (by kernel_rfl) rfl #[.agg #[.slice Ao159 t418.length co159, .slice Ao161 t421.length co161], .agg #[.slice Ao77 t350.length co77, .slice Ao79 t353.length co79]] rfl (by (try simp only [List.map_toArray, List.map_cons, List.map_nil]); first | done | rfl | (simp only [List.length_drop, List.length_take]; rfl)) ?_; (with_reducible refine (laws_eqAlgebra.calls k _ _ t418 _ _ t421 _ _ t350 _ _ t353 true _ ?side1 ?side2 ?side3 ?side4 ?side5 ?side6 ?side7 ?side8 A49.out).mono ?_); (case side1 => refine (Kd.R_reads' (e := 3) (base := w.heap.size) (ok := fun k_ => True) (n := t418.length) (c := co159) ?_).2.2; exact (kR (s2R HO420.out BK425.out))); (case side2 => exact (Kd.R_reads' HO420.out).2.1); (case side3 => refine (Kd.S_reads' (e := 22) (base := w.heap.size) (ok := fun k_ => some k_ ≠ (.slice Ao159 t418.length co159 : Value).ownBlock) (n := t421.length) (c := co161) ?_).2.2; exact (kS (s2S HO423.out BK425.out))); (case side4 => exact (Kd.S_reads' HO423.out).2.1); (case side5 => refine (Kd.R_reads' (e := 3) (base := w.heap.size) (ok := fun k_ => True) (n := t350.length) (c := co77) ?_).2.2; exact (kR (s2R HO352.out BK425.out))); (case side6 => exact (Kd.R_reads' HO352.out).2.1); (case side7 => refine (Kd.S_reads' (e := 22) (base := w.heap.size) (ok := fun k_ => some k_ ≠ (.slice Ao77 t350.length co77 : Value).ownBlock) (n := t353.length) (c := co79) ?_).2.2; exact (kS (s2S HO355.out BK425.out))); (case side8 => exact (Kd.S_reads' HO355.out).2.1); rintro e w171 ⟨rfl, hb⟩; refine ⟨_, rfl, ?_⟩; obtain ⟨ag172, hag172⟩ := age_at hb; replace HO340 := ak (age_oldR (kR (s2R HO340.out BK425.out)) hb hag172.out); replace HO343 := ak (age_oldS (kS (s2S HO343.out BK425.out)) hb hag172.out); replace HO346 := ak (age_oldR (kR (s2R HO346.out BK425.out)) hb hag172.out); replace HO349 := ak (age_oldS (kS (s2S HO349.out BK425.out)) hb hag172.out); replace HO352 := ak (age_oldR (kR (s2R HO352.out BK425.out)) hb hag172.out); replace HO355 := ak (age_oldS (kS (s2S HO355.out BK425.out)) hb hag172.out); replace HO360 := ak (age_oldR (kR (s2R HO360.out BK425.out)) hb hag172.out); replace HO363 := ak (age_oldS (kS (s2S HO363.out BK425.out)) hb hag172.out); replace HO367 := ak (age_oldR (kR (s2R HO367.out BK425.out)) hb hag172.out); replace HO370 := ak (age_oldS (kS (s2S HO370.out BK425.out)) hb hag172.out); replace HO374 := ak (age_oldR (kR (s2R HO374.out BK425.out)) hb hag172.out); replace HO377 := ak (age_oldS (kS (s2S HO377.out BK425.out)) hb hag172.out); replace HO383 := ak (age_oldR (kR (s2R HO383.out BK425.out)) hb hag172.out); replace HO386 := ak (age_oldS (kS (s2S HO386.out BK425.out)) hb hag172.out); replace HO390 := ak (age_oldR (kR (s2R HO390.out BK425.out)) hb hag172.out); replace HO393 := ak (age_oldS (kS (s2S HO393.out BK425.out)) hb hag172.out); replace HO408 := ak (age_oldR (kR (s2R HO408.out BK425.out)) hb hag172.out); replace HO411 := ak (age_oldS (kS (s2S HO411.out BK425.out)) hb hag172.out); replace HO414 := ak (age_oldR (kR (s2R HO414.out BK425.out)) hb hag172.out); replace HO417 := ak (age_oldS (kS (s2S HO417.out BK425.out)) hb hag172.out); replace HO420 := ak (age_oldR (kR (s2R HO420.out BK425.out)) hb hag172.out); replace HO423 := ak (age_oldS (kS (s2S HO423.out BK425.out)) hb hag172.out); replace BK334 := ak (blk_below (kK (blk_far (blk_far BK334.out NB334_425.out _) NB334_425.out _)) hb); replace BK335 := ak (blk_below (kK (blk_far (blk_far BK335.out NB335_425.out _) NB335_425.out _)) hb); replace BK357 := ak (blk_below (kK (blk_far (blk_far BK357.out NB357_425.out _) NB357_425.out _)) hb); replace BK364 := ak (blk_below (kK (blk_far (blk_far BK364.out NB364_425.out _) NB364_425.out _)) hb); replace BK371 := ak (blk_below (kK (blk_far (blk_far BK371.out NB371_425.out _) NB371_425.out _)) hb); replace BK379 := ak (blk_below (kK (blk_far (blk_far BK379.out NB379_425.out _) NB379_425.out _)) hb); replace BK425 := ak (blk_below (g := gb425) (o := .cells #[.slice Ao159 t418.length co159, .slice Ao161 t421.length co161] 25 (0, 0)) (by refine blk_put (cs := #[.slice Ao159 t418.length co159, .slice none 0 0]) ?_ 1 _ rfl; refine blk_put (cs := #[.slice none 0 0, .slice none 0 0]) ?_ 0 _ rfl; exact BK425.out) hb); replace HB := ak (below_step (by repeat (first | (with_reducible first | exact HB.out | refine below_set ?_ GE425.out) | exact HB.out)) hb); (try clear hb); (try clear hb2); (try clear hk); (try clear hi); have hcz173_0 : w171.cell? ⟨gb379, 0, none⟩ = some (.slice Ao108 t372.length co108) := (blk_cell BK379.out 0).trans rfl; have hcz173_1 : w171.cell? ⟨gb379, 1, none⟩ = some (.slice Ao115 t375.length co115) := (blk_cell BK379.out 1).trans rfl; have hfz173_0 := blk_frozen BK379.out 0; have hfz173_1 := blk_frozen BK379.out 1) | ((with_reducible refine gate_callee (f := 20) rfl ?_); refine goesL_ (some 113) rfl rfl Try.func20 (by kernel_rfl) rfl #[.agg #[.slice Ao108 t403.length co108, .slice Ao115 t404.length co115], .int .i64 1] rfl (by (try simp only [List.map_toArray, List.map_cons, List.map_nil]); first | done | (rw [show t403.length = t372.length from (Kd.R_reads' HO374.out).1.symm, show t404.length = t375.length from (Kd.S_reads' HO377.out).1.symm] <;> rfl) | rfl | (simp only [List.length_drop, List.length_take]; rfl)) ?_; (with_reducible refine (laws_heldAlgebra.calls k _ _ t403 _ _ t404 1 t427 _ ?side1 ?side2 ?side3 ?side4 A52.out).mono ?_); (case side1 => exact kC (Kd.R_reads' HO374.out).2.2); (case side2 => rw [show t403.length = t372.length from (Kd.R_reads' HO374.out).1.symm]; exact (Kd.R_reads' HO374.out).2.1); (case side3 => exact kC (Kd.S_reads' HO377.out).2.2); (case side4 => rw [show t404.length = t375.length from (Kd.S_reads' HO377.out).1.symm]; exact (Kd.S_reads' HO377.out).2.1); rintro e w174 ⟨rfl, hb⟩; refine ⟨_, rfl, ?_⟩; obtain ⟨ag175, hag175⟩ := age_at hb; replace HO340 := ak (age_oldR (kR HO340.out) hb hag175.out); replace HO343 := ak (age_oldS (kS HO343.out) hb hag175.out); replace HO346 := ak (age_oldR (kR HO346.out) hb hag175.out); replace HO349 := ak (age_oldS (kS HO349.out) hb hag175.out); replace HO352 := ak (age_oldR (kR HO352.out) hb hag175.out); replace HO355 := ak (age_oldS (kS HO355.out) hb hag175.out); replace HO360 := ak (age_oldR (kR HO360.out) hb hag175.out); replace HO363 := ak (age_oldS (kS HO363.out) hb hag175.out); replace HO367 := ak (age_oldR (kR HO367.out) hb hag175.out); replace HO370 := ak (age_oldS (kS HO370.out) hb hag175.out); replace HO374 := ak (age_oldR (kR HO374.out) hb hag175.out); replace HO377 := ak (age_oldS (kS HO377.out) hb hag175.out); replace HO383 := ak (age_oldR (kR HO383.out) hb hag175.out); replace HO386 := ak (age_oldS (kS HO386.out) hb hag175.out); replace HO390 := ak (age_oldR (kR HO390.out) hb hag175.out); replace HO393 := ak (age_oldS (kS HO393.out) hb hag175.out); replace HO408 := ak (age_oldR (kR HO408.out) hb hag175.out); replace HO411 := ak (age_oldS (kS HO411.out) hb hag175.out); replace HO414 := ak (age_oldR (kR HO414.out) hb hag175.out); replace HO417 := ak (age_oldS (kS HO417.out) hb hag175.out); replace HO420 := ak (age_oldR (kR HO420.out) hb hag175.out); replace HO423 := ak (age_oldS (kS HO423.out) hb hag175.out); replace BK334 := ak (blk_below (kK BK334.out) hb); replace BK335 := ak (blk_below (kK BK335.out) hb); replace BK357 := ak (blk_below (kK BK357.out) hb); replace BK364 := ak (blk_below (kK BK364.out) hb); replace BK371 := ak (blk_below (kK BK371.out) hb); replace BK379 := ak (blk_below (kK BK379.out) hb); replace BK425 := ak (blk_below (kK BK425.out) hb); replace HB := ak (below_step (kB HB.out) hb); (try clear hb); (try clear hb2); (try clear hk); (try clear hi)))
 go_ret
 exact ⟨by first | rfl | (simp [errW_none, errW_some] <;> rfl) | (simp [*, errW_none, errW_some] <;> rfl), by repeat (first | (with_reducible first | exact HB.out | apply below_alloc | apply pw_below_drewN | apply below_drew1 | refine below_set ?_ GE334.out | refine below_set ?_ GE335.out | refine below_set ?_ GE357.out | refine below_set ?_ GE364.out | refine below_set ?_ GE371.out | refine below_set ?_ GE379.out | refine below_set ?_ GE425.out) | exact HB.out)⟩
/-- THE ONE PURE STATEMENT of laws_FnExactCrossAlgebras: yours. -/
def laws_FnExactCrossAlgebras.Pure : Prop := ∀ (l0_0 : List Int) (l0_1 : List (List Int)) (l1_0 : List Int) (l1_1 : List (List Int)), l0_0.length ≤ maxLen → (∀ x ∈ l0_0, (Lit.int .i64 x).wf = true) → l0_1.length ≤ maxLen → (∀ r ∈ l0_1, r.length ≤ maxLen ∧ ∀ x ∈ r, (Lit.int .i64 x).wf = true) → l1_0.length ≤ maxLen → (∀ x ∈ l1_0, (Lit.int .i64 x).wf = true) → l1_1.length ≤ maxLen → (∀ r ∈ l1_1, r.length ≤ maxLen ∧ ∀ x ∈ r, (Lit.int .i64 x).wf = true) → ∃ k, laws_FnExactCrossAlgebras.f k l0_0 l0_1 l1_0 l1_1 = some true
theorem laws_FnExactCrossAlgebras.walk (P : laws_FnExactCrossAlgebras.Pure) (A0_0 : Option Addr) (c0_0 : Nat) (l0_0 : List Int) (A0_1 : Option Addr) (c0_1 : Nat) (l0_1 : List (List Int)) (A1_0 : Option Addr) (c1_0 : Nat) (l1_0 : List Int) (A1_1 : Option Addr) (c1_1 : Nat) (l1_1 : List (List Int)) (w : World) (hr0_0 : Kd.C (Kd.int .i64) w A0_0 l0_0.length l0_0) (hc0_0 : l0_0.length ≤ c0_0) (hm0_0 : l0_0.length ≤ maxLen) (hw0_0 : (∀ x ∈ l0_0, (Lit.int .i64 x).wf = true)) (hr0_1 : Kd.C (Kd.slice 3 (Kd.int .i64)) w A0_1 l0_1.length l0_1) (hc0_1 : l0_1.length ≤ c0_1) (hm0_1 : l0_1.length ≤ maxLen) (hw0_1 : (∀ r ∈ l0_1, r.length ≤ maxLen ∧ ∀ x ∈ r, (Lit.int .i64 x).wf = true)) (hr1_0 : Kd.C (Kd.int .i64) w A1_0 l1_0.length l1_0) (hc1_0 : l1_0.length ≤ c1_0) (hm1_0 : l1_0.length ≤ maxLen) (hw1_0 : (∀ x ∈ l1_0, (Lit.int .i64 x).wf = true)) (hr1_1 : Kd.C (Kd.slice 3 (Kd.int .i64)) w A1_1 l1_1.length l1_1) (hc1_1 : l1_1.length ≤ c1_1) (hm1_1 : l1_1.length ≤ maxLen) (hw1_1 : (∀ r ∈ l1_1, r.length ≤ maxLen ∧ ∀ x ∈ r, (Lit.int .i64 x).wf = true)) :
  Calls Try.prog 5 #[.agg #[.slice A0_0 l0_0.length c0_0, .slice A0_1 l0_1.length c0_1], .agg #[.slice A1_0 l1_0.length c1_0, .slice A1_1 l1_1.length c1_1]] w fun e w' => e = .returned (.bool true) ∧ Below w.heap.size w w' := by
 obtain ⟨k, h⟩ := P l0_0 l0_1 l1_0 l1_1 hm0_0 hw0_0 hm0_1 hw0_1 hm1_0 hw1_0 hm1_1 hw1_1
 refine (laws_FnExactCrossAlgebras.calls k _ _ l0_0 _ _ l0_1 _ _ l1_0 _ _ l1_1 true w hr0_0 hc0_0 hr0_1 hc0_1 hr1_0 hc1_0 hr1_1 hc1_1 ⟨rfl⟩ h).mono ?_
 rintro e w' ⟨rfl, hd⟩
 exact ⟨rfl, hd⟩
end Go.Proofs.Ytjidbgmkhapklaa.P

-- shrunk
