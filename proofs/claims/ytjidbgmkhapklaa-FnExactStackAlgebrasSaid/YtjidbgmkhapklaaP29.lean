-- Printed by this session's wip/print2.py (the kit's print.py, widened) out of the translation. Lean checks it.
import Derived.Test.YtjidbgmkhapklaaP0
import Derived.Test.YtjidbgmkhapklaaP3
import Derived.Test.YtjidbgmkhapklaaP4
import Derived.Test.YtjidbgmkhapklaaP5
import Derived.Test.YtjidbgmkhapklaaP6
import Derived.Test.YtjidbgmkhapklaaP7
import Derived.Test.YtjidbgmkhapklaaP9
import Derived.Test.YtjidbgmkhapklaaP17
import Derived.Test.YtjidbgmkhapklaaP28
namespace Go.Proofs.Ytjidbgmkhapklaa.P
open Go.RowKit Go.Proofs.YtjidbgmkhapklaaW.PrintWords Go.Proofs.YtjidbgmkhapklaaW.PrintLast Go.Proofs.YtjidbgmkhapklaaW.PrintMore
attribute [local go_sem] max2_int min2_int max_two min_two max_three min_three max_four min_four   -- for this text's walks alone
set_option linter.unusedVariables false
set_option linter.unusedSimpArgs false

/-! ### laws_FnExactStackAlgebras: function 6 -/
def laws_FnExactStackAlgebras.f (k : Nat) (l0_0 : List Int) (l0_1 : List (List Int)) (l1_0 : List Int) (l1_1 : List (List Int)) : Option (Bool) := (laws_szAlgebra.f k l0_0 l0_1 1048576).bind fun t352 => (if t352 < 0 then (some true) else ((laws_szAlgebra.f k l1_0 l1_1 t352).bind fun t353 => (if t353 < 0 then (some true) else ((laws_toAlgebra.f k l0_0 l0_1).bind fun bt354 => ((laws_toAlgebra.f k l1_0 l1_1).bind fun bt360 => ((spec_StackAlgebras.f k bt354.1 bt354.2 bt360.1 bt360.2).bind fun bt366 => ((laws_toAlgebra.f k l0_0 l0_1).bind fun bt374 => ((laws_toAlgebra.f k l1_0 l1_1).bind fun bt381 => ((impl_StackAlgebras.f k bt374.1 bt374.2 bt381.1 bt381.2).bind fun bt388 => ((laws_eqAlgebra.f k bt388.1 bt388.2.1 bt366.1 bt366.2.1).bind fun t396 => (if t396 = true then (if (bt388.2.2 != bt366.2.2) = true then (some false) else ((laws_toAlgebra.f k l0_0 l0_1).bind fun bt397 => ((laws_eqAlgebra.f k bt374.1 bt374.2 bt397.1 bt397.2).bind fun t403 => (if t403 = true then ((laws_toAlgebra.f k l1_0 l1_1).bind fun bt404 => ((laws_eqAlgebra.f k bt381.1 bt381.2 bt404.1 bt404.2).bind fun t410 => (if t410 = true then ((laws_markAlgebra.f k bt374.1 bt374.2 1).bind fun bt411 => ((laws_markAlgebra.f k bt381.1 bt381.2 bt411.1).bind fun bt414 => (if bt414.1 < 0 then (some false) else ((laws_eqAlgebra.f k bt388.1 bt388.2.1 bt366.1 bt366.2.1).bind fun t417 => (if t417 = true then ((laws_markAlgebra.f k bt388.1 bt388.2.1 1).bind fun bt418 => ((laws_heldAlgebra.f k bt418.2.1 bt418.2.2 1).bind fun t421 => (if t421 < 0 then (some false) else (if t421 = bt418.1 then ((laws_toAlgebra.f k l0_0 l0_1).bind fun bt422 => ((laws_toAlgebra.f k l1_0 l1_1).bind fun bt428 => ((impl_StackAlgebras.f k bt422.1 bt422.2 bt428.1 bt428.2).bind fun bt434 => ((laws_eqAlgebra.f k bt434.1 bt434.2.1 bt366.1 bt366.2.1).bind fun t442 => (if t442 = true then (if (bt434.2.2 != bt366.2.2) = true then (some false) else ((laws_heldAlgebra.f k bt418.2.1 bt418.2.2 1).bind fun t443 => (if t443 < 0 then (some false) else (if t443 = bt418.1 then (some true) else (some false))))) else (some false)))))) else (some false))))) else (some false)))))) else (some false)))) else (some false))))) else (some false))))))))))))
def laws_FnExactStackAlgebras.T8 : Bool × List (List Nat × List Nat) := (true, [([], []), ([0], [0]), ([], []), ([2, 1], [2]), ([1, 3, 3], [1, 3]), ([4], [4]), ([5], [5]), ([5], [5]), ([], []), ([8, 6, 4, 0, 1, 2, 3, 4, 5, 6, 8], [6, 8]), ([7, 9, 0, 1, 2, 3, 4, 5, 6, 7, 8, 9], [7])])
def laws_FnExactStackAlgebras.B8 : List Nat := [0, 1, 0, 7, 15, 31, 63, 63, 0, 383, 1023]
theorem laws_FnExactStackAlgebras.tab8 : rtab .any (opsOf Try.f6 8) = laws_FnExactStackAlgebras.T8 := by kernel_rfl
theorem laws_FnExactStackAlgebras.bits8 : waitsOk laws_FnExactStackAlgebras.T8.2 laws_FnExactStackAlgebras.B8 = true := by kernel_rfl
def laws_FnExactStackAlgebras.T31 : Bool × List (List Nat × List Nat) := (true, [([], []), ([0], [0]), ([], []), ([2, 1], [2]), ([1, 3, 3], [1, 3]), ([4], [4]), ([5], [5]), ([5], [5]), ([], []), ([8, 6, 4, 0, 1, 2, 3, 4, 5, 6, 8], [6, 8]), ([7, 9, 0, 1, 2, 3, 4, 5, 6, 7, 8, 9], [7])])
def laws_FnExactStackAlgebras.B31 : List Nat := [0, 1, 0, 7, 15, 31, 63, 63, 0, 383, 1023]
theorem laws_FnExactStackAlgebras.tab31 : rtab .any (opsOf Try.f6 31) = laws_FnExactStackAlgebras.T31 := by kernel_rfl
theorem laws_FnExactStackAlgebras.bits31 : waitsOk laws_FnExactStackAlgebras.T31.2 laws_FnExactStackAlgebras.B31 = true := by kernel_rfl
set_option maxHeartbeats 8000000 in
set_option maxRecDepth 100000 in
theorem laws_FnExactStackAlgebras.calls (k : Nat) (A0_0 : Option Addr) (c0_0 : Nat) (l0_0 : List Int) (A0_1 : Option Addr) (c0_1 : Nat) (l0_1 : List (List Int)) (A1_0 : Option Addr) (c1_0 : Nat) (l1_0 : List Int) (A1_1 : Option Addr) (c1_1 : Nat) (l1_1 : List (List Int)) (r : Bool) (w : World) (hr0_0 : Kd.C (Kd.int .i64) w A0_0 l0_0.length l0_0) (hc0_0 : l0_0.length ≤ c0_0) (hr0_1 : Kd.C (Kd.slice 3 (Kd.int .i64)) w A0_1 l0_1.length l0_1) (hc0_1 : l0_1.length ≤ c0_1) (hr1_0 : Kd.C (Kd.int .i64) w A1_0 l1_0.length l1_0) (hc1_0 : l1_0.length ≤ c1_0) (hr1_1 : Kd.C (Kd.slice 3 (Kd.int .i64)) w A1_1 l1_1.length l1_1) (hc1_1 : l1_1.length ≤ c1_1) (hrt : Aside0 (r = true)) (h : laws_FnExactStackAlgebras.f k l0_0 l0_1 l1_0 l1_1 = some r) :
  Calls Try.prog 6 #[.agg #[.slice A0_0 l0_0.length c0_0, .slice A0_1 l0_1.length c0_1], .agg #[.slice A1_0 l1_0.length c1_0, .slice A1_1 l1_1.length c1_1]] w fun e w' => e = .returned (.bool r) ∧ Below w.heap.size w w' := by
 have hu36 := Try.underlying36
 have hu25 := Try.underlying25
 have HR0_0 := ak hr0_0
 have HC0_0 := ak hc0_0
 clear hr0_0 hc0_0
 have HR0_1 := ak hr0_1
 have HC0_1 := ak hc0_1
 clear hr0_1 hc0_1
 have HR1_0 := ak hr1_0
 have HC1_0 := ak hc1_0
 clear hr1_0 hc1_0
 have HR1_1 := ak hr1_1
 have HC1_1 := ak hc1_1
 clear hr1_1 hc1_1
 have HB := ak (Below.refl w.heap.size w)
 have H : ((laws_szAlgebra.f k l0_0 l0_1 1048576).bind fun t352 => (if t352 < 0 then (some true) else ((laws_szAlgebra.f k l1_0 l1_1 t352).bind fun t353 => (if t353 < 0 then (some true) else ((laws_toAlgebra.f k l0_0 l0_1).bind fun bt354 => ((laws_toAlgebra.f k l1_0 l1_1).bind fun bt360 => ((spec_StackAlgebras.f k bt354.1 bt354.2 bt360.1 bt360.2).bind fun bt366 => ((laws_toAlgebra.f k l0_0 l0_1).bind fun bt374 => ((laws_toAlgebra.f k l1_0 l1_1).bind fun bt381 => ((impl_StackAlgebras.f k bt374.1 bt374.2 bt381.1 bt381.2).bind fun bt388 => ((laws_eqAlgebra.f k bt388.1 bt388.2.1 bt366.1 bt366.2.1).bind fun t396 => (if t396 = true then (if (bt388.2.2 != bt366.2.2) = true then (some false) else ((laws_toAlgebra.f k l0_0 l0_1).bind fun bt397 => ((laws_eqAlgebra.f k bt374.1 bt374.2 bt397.1 bt397.2).bind fun t403 => (if t403 = true then ((laws_toAlgebra.f k l1_0 l1_1).bind fun bt404 => ((laws_eqAlgebra.f k bt381.1 bt381.2 bt404.1 bt404.2).bind fun t410 => (if t410 = true then ((laws_markAlgebra.f k bt374.1 bt374.2 1).bind fun bt411 => ((laws_markAlgebra.f k bt381.1 bt381.2 bt411.1).bind fun bt414 => (if bt414.1 < 0 then (some false) else ((laws_eqAlgebra.f k bt388.1 bt388.2.1 bt366.1 bt366.2.1).bind fun t417 => (if t417 = true then ((laws_markAlgebra.f k bt388.1 bt388.2.1 1).bind fun bt418 => ((laws_heldAlgebra.f k bt418.2.1 bt418.2.2 1).bind fun t421 => (if t421 < 0 then (some false) else (if t421 = bt418.1 then ((laws_toAlgebra.f k l0_0 l0_1).bind fun bt422 => ((laws_toAlgebra.f k l1_0 l1_1).bind fun bt428 => ((impl_StackAlgebras.f k bt422.1 bt422.2 bt428.1 bt428.2).bind fun bt434 => ((laws_eqAlgebra.f k bt434.1 bt434.2.1 bt366.1 bt366.2.1).bind fun t442 => (if t442 = true then (if (bt434.2.2 != bt366.2.2) = true then (some false) else ((laws_heldAlgebra.f k bt418.2.1 bt418.2.2 1).bind fun t443 => (if t443 < 0 then (some false) else (if t443 = bt418.1 then (some true) else (some false))))) else (some false)))))) else (some false))))) else (some false)))))) else (some false)))) else (some false))))) else (some false))))))))))))) = some r := h
 clear h
 replace H := bi H
 obtain ⟨t352, A30, H⟩ := H
 try dsimp only at H
 have A3 := ak A30
 clear A30
 by_cases c4 : t352 < 0
 ·rw [if_pos c4] at H
  have c4b0 : decide (t352 < 0) = true := decide_eq_true c4
  clear c4
  obtain rfl := Option.some.inj H
  go_enter Try.func6, Try.ntmps6
  go_wp2_with (first | ((with_reducible refine gate_dst (N := 2) rfl ?_); refine box_event ?hg (N := 2) ?hd (cs := #[.slice A0_0 l0_0.length c0_0, .slice A0_1 l0_1.length c0_1]) (t := 36) ?hr ?_; (case hd => rfl); (case hg => rfl); (case hr => first | (go_simp; done) | (go_simp; rfl)); intro gb350 hg w5 hbox hb; have BK350 := ak (hbox); have GW350 := ak (ge_box hg (kB HB.out)); have GE350 := ak (ge_box hg (kB HB.out)); replace HB := ak (below_step (kB HB.out) hb); clear hb hbox hg) | ((with_reducible refine gate_dst (N := 3) rfl ?_); refine box_event ?hg (N := 3) ?hd (cs := #[.slice A1_0 l1_0.length c1_0, .slice A1_1 l1_1.length c1_1]) (t := 36) ?hr ?_; (case hd => rfl); (case hg => rfl); (case hr => first | (go_simp; done) | (go_simp; rfl)); intro gb351 hg w6 hbox hb; have BK351 := ak (hbox); have GW351 := ak (ge_box hg (kB HB.out)); have GE351 := ak (ge_box hg (kB HB.out)); replace HB := ak (below_step (kB HB.out) hb); have NB350_351 := ak ((ne_box hg (kK BK350.out))); have NB351_350 := ak ((ne_box' hg (kK BK350.out))); replace BK350 := ak (blk_below (kK BK350.out) hb); clear hb hbox hg; have hnb7 := NB350_351.out; have hnc7 := NB351_350.out; have hcz8_0 : w6.cell? ⟨gb350, 0, none⟩ = some (.slice A0_0 l0_0.length c0_0) := (blk_cell BK350.out 0).trans rfl; have hcz8_1 : w6.cell? ⟨gb350, 1, none⟩ = some (.slice A0_1 l0_1.length c0_1) := (blk_cell BK350.out 1).trans rfl; have hfz8_0 := blk_frozen BK350.out 0; have hfz8_1 := blk_frozen BK350.out 1) | ((with_reducible refine gate_callee (f := 23) rfl ?_); refine goesL_ (some 19) rfl rfl Try.func23 (by kernel_rfl) rfl #[.agg #[.slice A0_0 l0_0.length c0_0, .slice A0_1 l0_1.length c0_1], .int .i64 1048576] rfl (by (try simp only [List.map_toArray, List.map_cons, List.map_nil]); first | done | rfl | (simp only [List.length_drop, List.length_take]; rfl)) ?_; (with_reducible refine (laws_szAlgebra.calls k _ _ l0_0 _ _ l0_1 1048576 t352 _ ?side1 ?side2 ?side3 ?side4 A3.out).mono ?_); (case side1 => exact kC (Kd.C_below HR0_0.out HB.out)); (case side2 => exact HC0_0.out); (case side3 => exact kC (Kd.C_below HR0_1.out HB.out)); (case side4 => exact HC0_1.out); rintro e w9 ⟨rfl, hb⟩; refine ⟨_, rfl, ?_⟩; obtain ⟨ag10, hag10⟩ := age_at hb; replace BK350 := ak (blk_below (kK BK350.out) hb); replace BK351 := ak (blk_below (kK BK351.out) hb); replace HB := ak (below_step (kB HB.out) hb); (try clear hb); (try clear hb2); (try clear hk); (try clear hi)))
  go_ret
  exact ⟨by first | rfl | (simp [errW_none, errW_some] <;> rfl) | (simp [*, errW_none, errW_some] <;> rfl), by repeat (first | (with_reducible first | exact HB.out | apply below_alloc | apply pw_below_drewN | apply below_drew1 | refine below_set ?_ GE350.out | refine below_set ?_ GE351.out) | exact HB.out)⟩
 rw [if_neg c4] at H
 have c4b0 : decide (t352 < 0) = false := decide_eq_false c4
 clear c4
 replace H := bi H
 obtain ⟨t353, A110, H⟩ := H
 try dsimp only at H
 have A11 := ak A110
 clear A110
 by_cases c12 : t353 < 0
 ·rw [if_pos c12] at H
  have c12b0 : decide (t353 < 0) = true := decide_eq_true c12
  clear c12
  obtain rfl := Option.some.inj H
  go_enter Try.func6, Try.ntmps6
  go_wp2_with (first | ((with_reducible refine gate_dst (N := 2) rfl ?_); refine box_event ?hg (N := 2) ?hd (cs := #[.slice A0_0 l0_0.length c0_0, .slice A0_1 l0_1.length c0_1]) (t := 36) ?hr ?_; (case hd => rfl); (case hg => rfl); (case hr => first | (go_simp; done) | (go_simp; rfl)); intro gb350 hg w13 hbox hb; have BK350 := ak (hbox); have GW350 := ak (ge_box hg (kB HB.out)); have GE350 := ak (ge_box hg (kB HB.out)); replace HB := ak (below_step (kB HB.out) hb); clear hb hbox hg) | ((with_reducible refine gate_dst (N := 3) rfl ?_); refine box_event ?hg (N := 3) ?hd (cs := #[.slice A1_0 l1_0.length c1_0, .slice A1_1 l1_1.length c1_1]) (t := 36) ?hr ?_; (case hd => rfl); (case hg => rfl); (case hr => first | (go_simp; done) | (go_simp; rfl)); intro gb351 hg w14 hbox hb; have BK351 := ak (hbox); have GW351 := ak (ge_box hg (kB HB.out)); have GE351 := ak (ge_box hg (kB HB.out)); replace HB := ak (below_step (kB HB.out) hb); have NB350_351 := ak ((ne_box hg (kK BK350.out))); have NB351_350 := ak ((ne_box' hg (kK BK350.out))); replace BK350 := ak (blk_below (kK BK350.out) hb); clear hb hbox hg; have hnb15 := NB350_351.out; have hnc15 := NB351_350.out; have hcz16_0 : w14.cell? ⟨gb350, 0, none⟩ = some (.slice A0_0 l0_0.length c0_0) := (blk_cell BK350.out 0).trans rfl; have hcz16_1 : w14.cell? ⟨gb350, 1, none⟩ = some (.slice A0_1 l0_1.length c0_1) := (blk_cell BK350.out 1).trans rfl; have hfz16_0 := blk_frozen BK350.out 0; have hfz16_1 := blk_frozen BK350.out 1) | ((with_reducible refine gate_callee (f := 23) rfl ?_); refine goesL_ (some 19) rfl rfl Try.func23 (by kernel_rfl) rfl #[.agg #[.slice A0_0 l0_0.length c0_0, .slice A0_1 l0_1.length c0_1], .int .i64 1048576] rfl (by (try simp only [List.map_toArray, List.map_cons, List.map_nil]); first | done | rfl | (simp only [List.length_drop, List.length_take]; rfl)) ?_; (with_reducible refine (laws_szAlgebra.calls k _ _ l0_0 _ _ l0_1 1048576 t352 _ ?side1 ?side2 ?side3 ?side4 A3.out).mono ?_); (case side1 => exact kC (Kd.C_below HR0_0.out HB.out)); (case side2 => exact HC0_0.out); (case side3 => exact kC (Kd.C_below HR0_1.out HB.out)); (case side4 => exact HC0_1.out); rintro e w17 ⟨rfl, hb⟩; refine ⟨_, rfl, ?_⟩; obtain ⟨ag18, hag18⟩ := age_at hb; replace BK350 := ak (blk_below (kK BK350.out) hb); replace BK351 := ak (blk_below (kK BK351.out) hb); replace HB := ak (below_step (kB HB.out) hb); (try clear hb); (try clear hb2); (try clear hk); (try clear hi); have hcz19_0 : w17.cell? ⟨gb351, 0, none⟩ = some (.slice A1_0 l1_0.length c1_0) := (blk_cell BK351.out 0).trans rfl; have hcz19_1 : w17.cell? ⟨gb351, 1, none⟩ = some (.slice A1_1 l1_1.length c1_1) := (blk_cell BK351.out 1).trans rfl; have hfz19_0 := blk_frozen BK351.out 0; have hfz19_1 := blk_frozen BK351.out 1) | ((with_reducible refine gate_callee (f := 23) rfl ?_); refine goesL_ (some 24) rfl rfl Try.func23 (by kernel_rfl) rfl #[.agg #[.slice A1_0 l1_0.length c1_0, .slice A1_1 l1_1.length c1_1], .int .i64 t352] rfl (by (try simp only [List.map_toArray, List.map_cons, List.map_nil]); first | done | rfl | (simp only [List.length_drop, List.length_take]; rfl)) ?_; (with_reducible refine (laws_szAlgebra.calls k _ _ l1_0 _ _ l1_1 t352 t353 _ ?side1 ?side2 ?side3 ?side4 A11.out).mono ?_); (case side1 => exact kC (Kd.C_below HR1_0.out HB.out)); (case side2 => exact HC1_0.out); (case side3 => exact kC (Kd.C_below HR1_1.out HB.out)); (case side4 => exact HC1_1.out); rintro e w20 ⟨rfl, hb⟩; refine ⟨_, rfl, ?_⟩; obtain ⟨ag21, hag21⟩ := age_at hb; replace BK350 := ak (blk_below (kK BK350.out) hb); replace BK351 := ak (blk_below (kK BK351.out) hb); replace HB := ak (below_step (kB HB.out) hb); (try clear hb); (try clear hb2); (try clear hk); (try clear hi)))
  go_ret
  exact ⟨by first | rfl | (simp [errW_none, errW_some] <;> rfl) | (simp [*, errW_none, errW_some] <;> rfl), by repeat (first | (with_reducible first | exact HB.out | apply below_alloc | apply pw_below_drewN | apply below_drew1 | refine below_set ?_ GE350.out | refine below_set ?_ GE351.out) | exact HB.out)⟩
 rw [if_neg c12] at H
 have c12b0 : decide (t353 < 0) = false := decide_eq_false c12
 clear c12
 replace H := bi H
 obtain ⟨⟨t354, t357⟩, A220, H⟩ := H
 try dsimp only at H
 have A22 := ak A220
 clear A220
 replace H := bi H
 obtain ⟨⟨t360, t363⟩, A230, H⟩ := H
 try dsimp only at H
 have A23 := ak A230
 clear A230
 replace H := bi H
 obtain ⟨⟨t366, t369, t372⟩, A240, H⟩ := H
 try dsimp only at H
 have A24 := ak A240
 clear A240
 replace H := bi H
 obtain ⟨⟨t374, t377⟩, A250, H⟩ := H
 try dsimp only at H
 have A25 := ak A250
 clear A250
 replace H := bi H
 obtain ⟨⟨t381, t384⟩, A260, H⟩ := H
 try dsimp only at H
 have A26 := ak A260
 clear A260
 replace H := bi H
 obtain ⟨⟨t388, t391, t394⟩, A270, H⟩ := H
 try dsimp only at H
 have A27 := ak A270
 clear A270
 replace H := bi H
 obtain ⟨t396, A280, H⟩ := H
 try dsimp only at H
 have A28 := ak A280
 clear A280
 by_cases c29 : t396 = true
 rotate_left
 ·replace c29 := Bool.eq_false_iff.mpr c29
  subst c29
  rw [if_neg (show ¬ (false = true) by decide)] at H
  exact absurd (Option.some.inj H) (by rw [hrt.out]; decide)
 subst c29
 rw [if_pos rfl] at H
 by_cases c30 : (t394 != t372) = true
 ·rw [if_pos c30] at H
  have c30b0 : (t394 != t372) = true := c30
  (try (have c30b1 : decide (t394 = t372) = false := by simpa using c30))
  (try (have c30b2 : (t394 == t372) = false := by simpa using c30))
  (try (have c30b3 : ¬ (t394 = t372) := by simpa using c30))
  clear c30
  exact absurd (Option.some.inj H) (by rw [hrt.out]; decide)
 rw [if_neg c30] at H
 have c30b0 : (t394 != t372) = false := by simpa using c30
 (try (have c30b1 : decide (t394 = t372) = true := by simpa using c30))
 (try (have c30b2 : (t394 == t372) = true := by simpa using c30))
 clear c30
 replace H := bi H
 obtain ⟨⟨t397, t400⟩, A310, H⟩ := H
 try dsimp only at H
 have A31 := ak A310
 clear A310
 replace H := bi H
 obtain ⟨t403, A320, H⟩ := H
 try dsimp only at H
 have A32 := ak A320
 clear A320
 by_cases c33 : t403 = true
 rotate_left
 ·replace c33 := Bool.eq_false_iff.mpr c33
  subst c33
  rw [if_neg (show ¬ (false = true) by decide)] at H
  exact absurd (Option.some.inj H) (by rw [hrt.out]; decide)
 subst c33
 rw [if_pos rfl] at H
 replace H := bi H
 obtain ⟨⟨t404, t407⟩, A340, H⟩ := H
 try dsimp only at H
 have A34 := ak A340
 clear A340
 replace H := bi H
 obtain ⟨t410, A350, H⟩ := H
 try dsimp only at H
 have A35 := ak A350
 clear A350
 by_cases c36 : t410 = true
 rotate_left
 ·replace c36 := Bool.eq_false_iff.mpr c36
  subst c36
  rw [if_neg (show ¬ (false = true) by decide)] at H
  exact absurd (Option.some.inj H) (by rw [hrt.out]; decide)
 subst c36
 rw [if_pos rfl] at H
 replace H := bi H
 obtain ⟨⟨t411, t412, t413⟩, A370, H⟩ := H
 try dsimp only at H
 have A37 := ak A370
 clear A370
 replace H := bi H
 obtain ⟨⟨t414, t415, t416⟩, A380, H⟩ := H
 try dsimp only at H
 have A38 := ak A380
 clear A380
 by_cases c39 : t414 < 0
 ·rw [if_pos c39] at H
  have c39b0 : decide (t414 < 0) = true := decide_eq_true c39
  clear c39
  exact absurd (Option.some.inj H) (by rw [hrt.out]; decide)
 rw [if_neg c39] at H
 have c39b0 : decide (t414 < 0) = false := decide_eq_false c39
 clear c39
 replace H := bi H
 obtain ⟨t417, A400, H⟩ := H
 try dsimp only at H
 have A40 := ak A400
 clear A400
 by_cases c41 : t417 = true
 rotate_left
 ·replace c41 := Bool.eq_false_iff.mpr c41
  subst c41
  rw [if_neg (show ¬ (false = true) by decide)] at H
  exact absurd (Option.some.inj H) (by rw [hrt.out]; decide)
 subst c41
 rw [if_pos rfl] at H
 replace H := bi H
 obtain ⟨⟨t418, t419, t420⟩, A420, H⟩ := H
 try dsimp only at H
 have A42 := ak A420
 clear A420
 replace H := bi H
 obtain ⟨t421, A430, H⟩ := H
 try dsimp only at H
 have A43 := ak A430
 clear A430
 by_cases c44 : t421 < 0
 ·rw [if_pos c44] at H
  have c44b0 : decide (t421 < 0) = true := decide_eq_true c44
  clear c44
  exact absurd (Option.some.inj H) (by rw [hrt.out]; decide)
 rw [if_neg c44] at H
 have c44b0 : decide (t421 < 0) = false := decide_eq_false c44
 clear c44
 by_cases c45 : t421 = t418
 rotate_left
 ·rw [if_neg c45] at H
  have c45b0 : (t421 == t418) = false := beq_eq_false_iff_ne.mpr c45
  have c45b1 : (t421 != t418) = true := bne_iff_ne.mpr c45
  exact absurd (Option.some.inj H) (by rw [hrt.out]; decide)
 rw [if_pos c45] at H
 have c45b0 : (t421 == t418) = true := beq_iff_eq.mpr c45
 have c45b1 : (t421 != t418) = false := bne_eq_false_iff_eq.mpr c45
 clear c45
 replace H := bi H
 obtain ⟨⟨t422, t425⟩, A460, H⟩ := H
 try dsimp only at H
 have A46 := ak A460
 clear A460
 replace H := bi H
 obtain ⟨⟨t428, t431⟩, A470, H⟩ := H
 try dsimp only at H
 have A47 := ak A470
 clear A470
 replace H := bi H
 obtain ⟨⟨t434, t437, t440⟩, A480, H⟩ := H
 try dsimp only at H
 have A48 := ak A480
 clear A480
 replace H := bi H
 obtain ⟨t442, A490, H⟩ := H
 try dsimp only at H
 have A49 := ak A490
 clear A490
 by_cases c50 : t442 = true
 rotate_left
 ·replace c50 := Bool.eq_false_iff.mpr c50
  subst c50
  rw [if_neg (show ¬ (false = true) by decide)] at H
  exact absurd (Option.some.inj H) (by rw [hrt.out]; decide)
 subst c50
 rw [if_pos rfl] at H
 by_cases c51 : (t440 != t372) = true
 ·rw [if_pos c51] at H
  have c51b0 : (t440 != t372) = true := c51
  (try (have c51b1 : decide (t440 = t372) = false := by simpa using c51))
  (try (have c51b2 : (t440 == t372) = false := by simpa using c51))
  (try (have c51b3 : ¬ (t440 = t372) := by simpa using c51))
  clear c51
  exact absurd (Option.some.inj H) (by rw [hrt.out]; decide)
 rw [if_neg c51] at H
 have c51b0 : (t440 != t372) = false := by simpa using c51
 (try (have c51b1 : decide (t440 = t372) = true := by simpa using c51))
 (try (have c51b2 : (t440 == t372) = true := by simpa using c51))
 clear c51
 replace H := bi H
 obtain ⟨t443, A520, H⟩ := H
 try dsimp only at H
 have A52 := ak A520
 clear A520
 by_cases c53 : t443 < 0
 ·rw [if_pos c53] at H
  have c53b0 : decide (t443 < 0) = true := decide_eq_true c53
  clear c53
  exact absurd (Option.some.inj H) (by rw [hrt.out]; decide)
 rw [if_neg c53] at H
 have c53b0 : decide (t443 < 0) = false := decide_eq_false c53
 clear c53
 by_cases c54 : t443 = t418
 rotate_left
 ·rw [if_neg c54] at H
  have c54b0 : (t443 == t418) = false := beq_eq_false_iff_ne.mpr c54
  have c54b1 : (t443 != t418) = true := bne_iff_ne.mpr c54
  exact absurd (Option.some.inj H) (by rw [hrt.out]; decide)
 rw [if_pos c54] at H
 have c54b0 : (t443 == t418) = true := beq_iff_eq.mpr c54
 have c54b1 : (t443 != t418) = false := bne_eq_false_iff_eq.mpr c54
 clear c54
 obtain rfl := Option.some.inj H
 go_enter Try.func6, Try.ntmps6
 try go_wp2_with (first | ((with_reducible refine gate_dst (N := 2) rfl ?_); refine box_event ?hg (N := 2) ?hd (cs := #[.slice A0_0 l0_0.length c0_0, .slice A0_1 l0_1.length c0_1]) (t := 36) ?hr ?_; (case hd => rfl); (case hg => rfl); (case hr => first | (go_simp; done) | (go_simp; rfl)); intro gb350 hg w55 hbox hb; have BK350 := ak (hbox); have GW350 := ak (ge_box hg (kB HB.out)); have GE350 := ak (ge_box hg (kB HB.out)); replace HB := ak (below_step (kB HB.out) hb); clear hb hbox hg) | ((with_reducible refine gate_dst (N := 3) rfl ?_); refine box_event ?hg (N := 3) ?hd (cs := #[.slice A1_0 l1_0.length c1_0, .slice A1_1 l1_1.length c1_1]) (t := 36) ?hr ?_; (case hd => rfl); (case hg => rfl); (case hr => first | (go_simp; done) | (go_simp; rfl)); intro gb351 hg w56 hbox hb; have BK351 := ak (hbox); have GW351 := ak (ge_box hg (kB HB.out)); have GE351 := ak (ge_box hg (kB HB.out)); replace HB := ak (below_step (kB HB.out) hb); have NB350_351 := ak ((ne_box hg (kK BK350.out))); have NB351_350 := ak ((ne_box' hg (kK BK350.out))); replace BK350 := ak (blk_below (kK BK350.out) hb); clear hb hbox hg; have hnb57 := NB350_351.out; have hnc57 := NB351_350.out; have hcz58_0 : w56.cell? ⟨gb350, 0, none⟩ = some (.slice A0_0 l0_0.length c0_0) := (blk_cell BK350.out 0).trans rfl; have hcz58_1 : w56.cell? ⟨gb350, 1, none⟩ = some (.slice A0_1 l0_1.length c0_1) := (blk_cell BK350.out 1).trans rfl; have hfz58_0 := blk_frozen BK350.out 0; have hfz58_1 := blk_frozen BK350.out 1) | ((with_reducible refine gate_callee (f := 23) rfl ?_); refine goesL_ (some 19) rfl rfl Try.func23 (by kernel_rfl) rfl #[.agg #[.slice A0_0 l0_0.length c0_0, .slice A0_1 l0_1.length c0_1], .int .i64 1048576] rfl (by (try simp only [List.map_toArray, List.map_cons, List.map_nil]); first | done | rfl | (simp only [List.length_drop, List.length_take]; rfl)) ?_; (with_reducible refine (laws_szAlgebra.calls k _ _ l0_0 _ _ l0_1 1048576 t352 _ ?side1 ?side2 ?side3 ?side4 A3.out).mono ?_); (case side1 => exact kC (Kd.C_below HR0_0.out HB.out)); (case side2 => exact HC0_0.out); (case side3 => exact kC (Kd.C_below HR0_1.out HB.out)); (case side4 => exact HC0_1.out); rintro e w59 ⟨rfl, hb⟩; refine ⟨_, rfl, ?_⟩; obtain ⟨ag60, hag60⟩ := age_at hb; replace BK350 := ak (blk_below (kK BK350.out) hb); replace BK351 := ak (blk_below (kK BK351.out) hb); replace HB := ak (below_step (kB HB.out) hb); (try clear hb); (try clear hb2); (try clear hk); (try clear hi); have hcz61_0 : w59.cell? ⟨gb351, 0, none⟩ = some (.slice A1_0 l1_0.length c1_0) := (blk_cell BK351.out 0).trans rfl; have hcz61_1 : w59.cell? ⟨gb351, 1, none⟩ = some (.slice A1_1 l1_1.length c1_1) := (blk_cell BK351.out 1).trans rfl; have hfz61_0 := blk_frozen BK351.out 0; have hfz61_1 := blk_frozen BK351.out 1) | ((with_reducible refine gate_callee (f := 23) rfl ?_); refine goesL_ (some 24) rfl rfl Try.func23 (by kernel_rfl) rfl #[.agg #[.slice A1_0 l1_0.length c1_0, .slice A1_1 l1_1.length c1_1], .int .i64 t352] rfl (by (try simp only [List.map_toArray, List.map_cons, List.map_nil]); first | done | rfl | (simp only [List.length_drop, List.length_take]; rfl)) ?_; (with_reducible refine (laws_szAlgebra.calls k _ _ l1_0 _ _ l1_1 t352 t353 _ ?side1 ?side2 ?side3 ?side4 A11.out).mono ?_); (case side1 => exact kC (Kd.C_below HR1_0.out HB.out)); (case side2 => exact HC1_0.out); (case side3 => exact kC (Kd.C_below HR1_1.out HB.out)); (case side4 => exact HC1_1.out); rintro e w62 ⟨rfl, hb⟩; refine ⟨_, rfl, ?_⟩; obtain ⟨ag63, hag63⟩ := age_at hb; replace BK350 := ak (blk_below (kK BK350.out) hb); replace BK351 := ak (blk_below (kK BK351.out) hb); replace HB := ak (below_step (kB HB.out) hb); (try clear hb); (try clear hb2); (try clear hk); (try clear hi)))
 replace BK350 := ak (blk_drew BK350.out)
 replace BK351 := ak (blk_drew BK351.out)
 replace HB := ak (below_drew1 HB.out)
 refine start_ (n := 11) (S := fun w' => w'.cell? ⟨gb350, 0, none⟩ = some (.slice A0_0 l0_0.length c0_0) ∧ w'.cell? ⟨gb350, 1, none⟩ = some (.slice A0_1 l0_1.length c0_1) ∧ w'.cell? ⟨gb351, 0, none⟩ = some (.slice A1_0 l1_0.length c1_0) ∧ w'.cell? ⟨gb351, 1, none⟩ = some (.slice A1_1 l1_1.length c1_1)) (ds := []) #[false, false, false, false, false, false, false, false, false, false, false] (by kernel_rfl) rfl rfl ⟨(blk_cell BK350.out 0).trans rfl, (blk_cell BK350.out 1).trans rfl, (blk_cell BK351.out 0).trans rfl, (blk_cell BK351.out 1).trans rfl⟩ (fun hHeld => ?_); refine with_tabW laws_FnExactStackAlgebras.tab8 laws_FnExactStackAlgebras.bits8 (fun HT_ HW_ => ?_)
 generalize w62.drew = w64 at BK350 BK351 HB hHeld ⊢
 refine take_ (i := 0) (N := some 28) (v := ?_) (a' := ?_) #[true, false, false, false, false, false, false, false, false, false, false] rfl rfl (take_ofW HT_.out HW_.out (by kernel_rfl)) (fun _ _ _ h => h) (Or.inl ⟨by rfl, ?_⟩) hHeld ?_ ?_
 rotate_left
 ·rintro w' ⟨s0, s1, s2, s3⟩
  go_simp
  with_reducible rfl
 rotate_left
 ·simp only [Act.put, List.setIfInBounds_toArray, List.set_cons_zero, List.set_cons_succ, i64_w, i32_w]
  rfl
 refine take_ (i := 2) (N := some 30) (v := ?_) (a' := ?_) #[true, false, true, false, false, false, false, false, false, false, false] rfl rfl (take_ofW HT_.out HW_.out (by kernel_rfl)) (fun _ _ _ h => h) (Or.inl ⟨by rfl, ?_⟩) hHeld ?_ ?_
 rotate_left
 ·rintro w' ⟨s0, s1, s2, s3⟩
  go_simp
  with_reducible rfl
 rotate_left
 ·simp only [Act.put, List.setIfInBounds_toArray, List.set_cons_zero, List.set_cons_succ, i64_w, i32_w]
  rfl
 refine join_ (σ := Value × Value × Value × Value × Value × Value × Nat) 2 #[true, true, true, true, true, true, true, true, true, false, false] (fun s_ => [(29, .agg #[s_.1, s_.2.1]), (31, .agg #[s_.2.2.1, s_.2.2.2.1]), (32, .tuple #[.agg #[s_.2.2.2.2.1, s_.2.2.2.2.2.1], .bool t372]), (6, .pointer (some ⟨s_.2.2.2.2.2.2, 0, none⟩)), (27, .tuple #[.agg #[s_.2.2.2.2.1, s_.2.2.2.2.2.1], .bool t372]), (33, .agg #[s_.2.2.2.2.1, s_.2.2.2.2.2.1]), (34, .bool t372)]) (fun s_ w' => (w'.cell? ⟨gb350, 0, none⟩ = some (.slice A0_0 l0_0.length c0_0) ∧ w'.cell? ⟨gb350, 1, none⟩ = some (.slice A0_1 l0_1.length c0_1) ∧ w'.cell? ⟨gb351, 0, none⟩ = some (.slice A1_0 l1_0.length c1_0) ∧ w'.cell? ⟨gb351, 1, none⟩ = some (.slice A1_1 l1_1.length c1_1)) ∧ (Kd.R (Kd.int .i64) 3 w' w.heap.size (fun _ => True) s_.1 t354) ∧ (Kd.S (Kd.slice 3 (Kd.int .i64)) 22 w' w.heap.size (fun k_ => some k_ ≠ (s_.1 : Value).ownBlock) s_.2.1 t357) ∧ (Kd.R (Kd.int .i64) 3 w' w.heap.size (fun _ => True) s_.2.2.1 t360) ∧ (Kd.S (Kd.slice 3 (Kd.int .i64)) 22 w' w.heap.size (fun k_ => some k_ ≠ (s_.2.2.1 : Value).ownBlock) s_.2.2.2.1 t363) ∧ (Kd.R (Kd.int .i64) 3 w' w.heap.size (fun _ => True) s_.2.2.2.2.1 t366) ∧ (Kd.S (Kd.slice 3 (Kd.int .i64)) 22 w' w.heap.size (fun k_ => some k_ ≠ (s_.2.2.2.2.1 : Value).ownBlock) s_.2.2.2.2.2.1 t369) ∧ (w'.heap[gb350]? = some (.cells #[.slice A0_0 l0_0.length c0_0, .slice A0_1 l0_1.length c0_1] 36 (0, 0))) ∧ (w'.heap[gb351]? = some (.cells #[.slice A1_0 l1_0.length c1_0, .slice A1_1 l1_1.length c1_1] 36 (0, 0))) ∧ (w'.heap[s_.2.2.2.2.2.2]? = some (.cells #[.slice none 0 0, .slice none 0 0] 25 (0, 0))) ∧ (w.heap.size ≤ s_.2.2.2.2.2.2) ∧ (w.heap.size ≤ s_.2.2.2.2.2.2) ∧ (gb350 ≠ s_.2.2.2.2.2.2) ∧ (s_.2.2.2.2.2.2 ≠ gb350) ∧ (gb351 ≠ s_.2.2.2.2.2.2) ∧ (s_.2.2.2.2.2.2 ≠ gb351) ∧ (Below w.heap.size w w')) ?_ ?_
 rotate_left
 ·intro hCont
  refine two_ (i := 1) (j := 8) (Ni := some 29) (Nj := some 6) #[true, true, true, false, false, false, false, false, false, false, false] #[true, false, true, false, false, false, false, false, true, false, false] rfl rfl rfl rfl (two_of HT_.out (by kernel_rfl)) (by decide) (by decide) (fun K hK => ?_) (fun K hK => ?_)
  ·skip
   refine goes_ Try.func25 (by kernel_rfl) rfl #[.agg #[.slice A0_0 l0_0.length c0_0, .slice A0_1 l0_1.length c0_1]] (by rfl) rfl rfl (by (try simp only [List.map_toArray, List.map_cons, List.map_nil]); first | done | rfl | (simp only [List.length_drop, List.length_take]; rfl)) ?_
   with_reducible refine (laws_toAlgebra.calls k _ _ l0_0 _ _ l0_1 t354 t357 _ ?side1 ?side2 ?side3 ?side4 A22.out).mono ?_
   (case side1 => exact kC (Kd.C_below HR0_0.out HB.out))
   (case side2 => exact HC0_0.out)
   (case side3 => exact kC (Kd.C_below HR0_1.out HB.out))
   (case side4 => exact HC0_1.out)
   rintro e w65 ⟨v355, v358, rfl, ho0, ho1, hb⟩
   refine ⟨_, rfl, ?_⟩
   obtain ⟨ag66, hag66⟩ := age_at hb
   have HO356 := ak (Kd.R_lower (age_newR ho0 hag66.out) (below_size (kB HB.out)))
   have HO359 := ak (Kd.S_lower (age_newS ho1 hag66.out) (below_size (kB HB.out)))
   replace BK350 := ak (blk_below (kK BK350.out) hb)
   replace BK351 := ak (blk_below (kK BK351.out) hb)
   replace HB := ak (below_step (kB HB.out) hb)
   (try clear hb)
   (try clear hb2)
   (try clear hk)
   (try clear hi)
   (try clear ho0)
   (try clear ho1)
   refine hK.out _ _ ⟨(blk_cell BK350.out 0).trans rfl, (blk_cell BK350.out 1).trans rfl, (blk_cell BK351.out 0).trans rfl, (blk_cell BK351.out 1).trans rfl⟩ (fun hHeld => ?_)
   clear hK K
   refine norm_ (a' := ?_) ?_ ?_
   rotate_left
   ·show Act.put _ (some 29) _ = _
    simp only [Act.put, List.setIfInBounds_toArray, List.set_cons_zero, List.set_cons_succ, i64_w, i32_w]
    rfl
   refine two_ (i := 3) (j := 8) (Ni := some 31) (Nj := some 6) #[true, true, true, true, false, false, false, false, false, false, false] #[true, true, true, false, false, false, false, false, true, false, false] rfl rfl rfl rfl (two_of HT_.out (by kernel_rfl)) (by decide) (by decide) (fun K hK => ?_) (fun K hK => ?_)
   ·skip
    refine goes_ Try.func25 (by kernel_rfl) rfl #[.agg #[.slice A1_0 l1_0.length c1_0, .slice A1_1 l1_1.length c1_1]] (by rfl) rfl rfl (by (try simp only [List.map_toArray, List.map_cons, List.map_nil]); first | done | rfl | (simp only [List.length_drop, List.length_take]; rfl)) ?_
    with_reducible refine (laws_toAlgebra.calls k _ _ l1_0 _ _ l1_1 t360 t363 _ ?side1 ?side2 ?side3 ?side4 A23.out).mono ?_
    (case side1 => exact kC (Kd.C_below HR1_0.out HB.out))
    (case side2 => exact HC1_0.out)
    (case side3 => exact kC (Kd.C_below HR1_1.out HB.out))
    (case side4 => exact HC1_1.out)
    rintro e w67 ⟨v361, v364, rfl, ho0, ho1, hb⟩
    refine ⟨_, rfl, ?_⟩
    obtain ⟨ag68, hag68⟩ := age_at hb
    replace HO356 := ak (age_oldR (kR HO356.out) hb hag68.out)
    replace HO359 := ak (age_oldS (kS HO359.out) hb hag68.out)
    have HO362 := ak (Kd.R_lower (age_newR ho0 hag68.out) (below_size (kB HB.out)))
    have HO365 := ak (Kd.S_lower (age_newS ho1 hag68.out) (below_size (kB HB.out)))
    replace BK350 := ak (blk_below (kK BK350.out) hb)
    replace BK351 := ak (blk_below (kK BK351.out) hb)
    replace HB := ak (below_step (kB HB.out) hb)
    (try clear hb)
    (try clear hb2)
    (try clear hk)
    (try clear hi)
    (try clear ho0)
    (try clear ho1)
    obtain ⟨Ao69, co69, eo69⟩ := Kd.R_slice HO356.out
    (first | subst eo69 | (injection eo69 with f1_ f2_ f3_; have f4_ := f1_.symm; have f5_ := f3_.symm; clear f1_ f2_ f3_; subst f4_; subst f5_))
    obtain ⟨Ao70, co70, eo70⟩ := Kd.S_slice HO359.out
    (first | subst eo70 | (injection eo70 with f1_ f2_ f3_; have f4_ := f1_.symm; have f5_ := f3_.symm; clear f1_ f2_ f3_; subst f4_; subst f5_))
    obtain ⟨Ao71, co71, eo71⟩ := Kd.R_slice HO362.out
    (first | subst eo71 | (injection eo71 with f1_ f2_ f3_; have f4_ := f1_.symm; have f5_ := f3_.symm; clear f1_ f2_ f3_; subst f4_; subst f5_))
    obtain ⟨Ao72, co72, eo72⟩ := Kd.S_slice HO365.out
    (first | subst eo72 | (injection eo72 with f1_ f2_ f3_; have f4_ := f1_.symm; have f5_ := f3_.symm; clear f1_ f2_ f3_; subst f4_; subst f5_))
    refine hK.out _ _ ⟨(blk_cell BK350.out 0).trans rfl, (blk_cell BK350.out 1).trans rfl, (blk_cell BK351.out 0).trans rfl, (blk_cell BK351.out 1).trans rfl⟩ (fun hHeld => ?_)
    clear hK K
    refine norm_ (a' := ?_) ?_ ?_
    rotate_left
    ·show Act.put _ (some 31) _ = _
     simp only [Act.put, List.setIfInBounds_toArray, List.set_cons_zero, List.set_cons_succ, i64_w, i32_w]
     rfl
    refine two_ (i := 4) (j := 8) (Ni := some 32) (Nj := some 6) #[true, true, true, true, true, false, false, false, false, false, false] #[true, true, true, true, false, false, false, false, true, false, false] rfl rfl rfl rfl (two_of HT_.out (by kernel_rfl)) (by decide) (by decide) (fun K hK => ?_) (fun K hK => ?_)
    ·skip
     refine goes_ Try.func27 (by kernel_rfl) rfl #[.agg #[.slice Ao69 t354.length co69, .slice Ao70 t357.length co70], .agg #[.slice Ao71 t360.length co71, .slice Ao72 t363.length co72]] (by rfl) rfl rfl (by (try simp only [List.map_toArray, List.map_cons, List.map_nil]); first | done | rfl | (simp only [List.length_drop, List.length_take]; rfl)) ?_
     with_reducible refine (spec_StackAlgebras.calls k _ _ t354 _ _ t357 _ _ t360 _ _ t363 t366 t369 t372 _ ?side1 ?side2 ?side3 ?side4 ?side5 ?side6 ?side7 ?side8 A24.out).mono ?_
     (case side1 => exact kC (Kd.R_reads' HO356.out).2.2)
     (case side2 => exact (Kd.R_reads' HO356.out).2.1)
     (case side3 => exact kC (Kd.S_reads' HO359.out).2.2)
     (case side4 => exact (Kd.S_reads' HO359.out).2.1)
     (case side5 => exact kC (Kd.R_reads' HO362.out).2.2)
     (case side6 => exact (Kd.R_reads' HO362.out).2.1)
     (case side7 => exact kC (Kd.S_reads' HO365.out).2.2)
     (case side8 => exact (Kd.S_reads' HO365.out).2.1)
     rintro e w73 ⟨v367, v370, rfl, ho0, ho1, hb⟩
     refine ⟨_, rfl, ?_⟩
     obtain ⟨ag74, hag74⟩ := age_at hb
     replace HO356 := ak (age_oldR (kR HO356.out) hb hag74.out)
     replace HO359 := ak (age_oldS (kS HO359.out) hb hag74.out)
     replace HO362 := ak (age_oldR (kR HO362.out) hb hag74.out)
     replace HO365 := ak (age_oldS (kS HO365.out) hb hag74.out)
     have HO368 := ak (Kd.R_lower (age_newR ho0 hag74.out) (below_size (kB HB.out)))
     have HO371 := ak (Kd.S_lower (age_newS ho1 hag74.out) (below_size (kB HB.out)))
     replace BK350 := ak (blk_below (kK BK350.out) hb)
     replace BK351 := ak (blk_below (kK BK351.out) hb)
     replace HB := ak (below_step (kB HB.out) hb)
     (try clear hb)
     (try clear hb2)
     (try clear hk)
     (try clear hi)
     (try clear ho0)
     (try clear ho1)
     refine hK.out _ _ ⟨(blk_cell BK350.out 0).trans rfl, (blk_cell BK350.out 1).trans rfl, (blk_cell BK351.out 0).trans rfl, (blk_cell BK351.out 1).trans rfl⟩ (fun hHeld => ?_)
     clear hK K
     refine norm_ (a' := ?_) ?_ ?_
     rotate_left
     ·show Act.put _ (some 32) _ = _
      simp only [Act.put, List.setIfInBounds_toArray, List.set_cons_zero, List.set_cons_succ, i64_w, i32_w]
      rfl
     refine pure_ (i := 5) (N := some 27) (v := ?_) (a' := ?_) #[true, true, true, true, true, true, false, false, false, false, false] rfl rfl (any_of HT_.out (by kernel_rfl)) (fun _ _ _ h => h) (Or.inl ⟨by rfl, ?_⟩) ?_ ?_
     rotate_left
     ·intro w'
      go_simp
      with_reducible rfl
     rotate_left
     ·simp only [Act.put, List.setIfInBounds_toArray, List.set_cons_zero, List.set_cons_succ, i64_w, i32_w]
      rfl
     refine pure_ (i := 6) (N := some 33) (v := ?_) (a' := ?_) #[true, true, true, true, true, true, true, false, false, false, false] rfl rfl (any_of HT_.out (by kernel_rfl)) (fun _ _ _ h => h) (Or.inl ⟨by rfl, ?_⟩) ?_ ?_
     rotate_left
     ·intro w'
      go_simp
      with_reducible rfl
     rotate_left
     ·simp only [Act.put, List.setIfInBounds_toArray, List.set_cons_zero, List.set_cons_succ, i64_w, i32_w]
      rfl
     refine pure_ (i := 7) (N := some 34) (v := ?_) (a' := ?_) #[true, true, true, true, true, true, true, true, false, false, false] rfl rfl (any_of HT_.out (by kernel_rfl)) (fun _ _ _ h => h) (Or.inl ⟨by rfl, ?_⟩) ?_ ?_
     rotate_left
     ·intro w'
      go_simp
      with_reducible rfl
     rotate_left
     ·simp only [Act.put, List.setIfInBounds_toArray, List.set_cons_zero, List.set_cons_succ, i64_w, i32_w]
      rfl
     refine one_ (i := 8) (N := some 6) #[true, true, true, true, true, true, true, true, true, false, false] rfl rfl (one_of HT_.out (by kernel_rfl)) (by decide) (fun K hK => ?_)
     refine box_step ?hg (N := 6) ?hd (cs := #[.slice none 0 0, .slice none 0 0]) (t := 25) ?hr ?_; (case hd => rfl); (case hg => rfl); (case hr => first | (go_simp; done) | (go_simp; rfl))
     intro gb373 hg w75 hbox hb
     replace HO356 := ak (Kd.R_below (kR HO356.out) hb)
     replace HO359 := ak (Kd.S_below (kS HO359.out) hb)
     replace HO362 := ak (Kd.R_below (kR HO362.out) hb)
     replace HO365 := ak (Kd.S_below (kS HO365.out) hb)
     replace HO368 := ak (Kd.R_below (kR HO368.out) hb)
     replace HO371 := ak (Kd.S_below (kS HO371.out) hb)
     have BK373 := ak (hbox)
     have GW373 := ak (ge_box hg (kB HB.out))
     have GE373 := ak (ge_box hg (kB HB.out))
     replace HB := ak (below_step (kB HB.out) hb)
     have NB350_373 := ak ((ne_box hg (kK BK350.out)))
     have NB373_350 := ak ((ne_box' hg (kK BK350.out)))
     replace BK350 := ak (blk_below (kK BK350.out) hb)
     have NB351_373 := ak ((ne_box hg (kK BK351.out)))
     have NB373_351 := ak ((ne_box' hg (kK BK351.out)))
     replace BK351 := ak (blk_below (kK BK351.out) hb)
     clear hb hbox hg
     refine hK.out _ _ ⟨(blk_cell BK350.out 0).trans rfl, (blk_cell BK350.out 1).trans rfl, (blk_cell BK351.out 0).trans rfl, (blk_cell BK351.out 1).trans rfl⟩ (fun hHeld => ?_)
     clear hK K
     refine norm_ (a' := ?_) ?_ ?_
     rotate_left
     ·show Act.put _ (some 6) _ = _
      simp only [Act.put, List.setIfInBounds_toArray, List.set_cons_zero, List.set_cons_succ, i64_w, i32_w]
      rfl
     exact norm_ (by simp only [putAll, Act.put, List.setIfInBounds_toArray, List.set_cons_zero, List.set_cons_succ]) (hCont (.slice Ao69 t354.length co69, .slice Ao70 t357.length co70, .slice Ao71 t360.length co71, .slice Ao72 t363.length co72, v367, v370, gb373) _ ⟨hHeld, (kR (Kd.R_mono HO356.out (fun _ hk => trivial))), (kS (Kd.S_mono HO359.out (fun _ hk => hk.1.1.1))), (kR (Kd.R_mono HO362.out (fun _ hk => trivial))), (kS (Kd.S_mono HO365.out (fun _ hk => hk.1.1))), (kR (Kd.R_mono HO368.out (fun _ hk => trivial))), (kS (Kd.S_mono HO371.out (fun _ hk => hk.1))), (kK BK350.out), (kK BK351.out), (kK BK373.out), GW373.out, GE373.out, NB350_373.out, NB373_350.out, NB351_373.out, NB373_351.out, (bB HB.out)⟩)
    ·skip
     refine box_step ?hg (N := 6) ?hd (cs := #[.slice none 0 0, .slice none 0 0]) (t := 25) ?hr ?_; (case hd => rfl); (case hg => rfl); (case hr => first | (go_simp; done) | (go_simp; rfl))
     intro gb373 hg w69 hbox hb
     replace HO356 := ak (Kd.R_below (kR HO356.out) hb)
     replace HO359 := ak (Kd.S_below (kS HO359.out) hb)
     replace HO362 := ak (Kd.R_below (kR HO362.out) hb)
     replace HO365 := ak (Kd.S_below (kS HO365.out) hb)
     have BK373 := ak (hbox)
     have GW373 := ak (ge_box hg (kB HB.out))
     have GE373 := ak (ge_box hg (kB HB.out))
     replace HB := ak (below_step (kB HB.out) hb)
     have NB350_373 := ak ((ne_box hg (kK BK350.out)))
     have NB373_350 := ak ((ne_box' hg (kK BK350.out)))
     replace BK350 := ak (blk_below (kK BK350.out) hb)
     have NB351_373 := ak ((ne_box hg (kK BK351.out)))
     have NB373_351 := ak ((ne_box' hg (kK BK351.out)))
     replace BK351 := ak (blk_below (kK BK351.out) hb)
     clear hb hbox hg
     obtain ⟨Ao70, co70, eo70⟩ := Kd.R_slice HO356.out
     (first | subst eo70 | (injection eo70 with f1_ f2_ f3_; have f4_ := f1_.symm; have f5_ := f3_.symm; clear f1_ f2_ f3_; subst f4_; subst f5_))
     obtain ⟨Ao71, co71, eo71⟩ := Kd.S_slice HO359.out
     (first | subst eo71 | (injection eo71 with f1_ f2_ f3_; have f4_ := f1_.symm; have f5_ := f3_.symm; clear f1_ f2_ f3_; subst f4_; subst f5_))
     obtain ⟨Ao72, co72, eo72⟩ := Kd.R_slice HO362.out
     (first | subst eo72 | (injection eo72 with f1_ f2_ f3_; have f4_ := f1_.symm; have f5_ := f3_.symm; clear f1_ f2_ f3_; subst f4_; subst f5_))
     obtain ⟨Ao73, co73, eo73⟩ := Kd.S_slice HO365.out
     (first | subst eo73 | (injection eo73 with f1_ f2_ f3_; have f4_ := f1_.symm; have f5_ := f3_.symm; clear f1_ f2_ f3_; subst f4_; subst f5_))
     refine hK.out _ _ ⟨(blk_cell BK350.out 0).trans rfl, (blk_cell BK350.out 1).trans rfl, (blk_cell BK351.out 0).trans rfl, (blk_cell BK351.out 1).trans rfl⟩ (fun hHeld => ?_)
     clear hK K
     refine norm_ (a' := ?_) ?_ ?_
     rotate_left
     ·show Act.put _ (some 6) _ = _
      simp only [Act.put, List.setIfInBounds_toArray, List.set_cons_zero, List.set_cons_succ, i64_w, i32_w]
      rfl
     refine one_ (i := 4) (N := some 32) #[true, true, true, true, true, false, false, false, true, false, false] rfl rfl (one_of HT_.out (by kernel_rfl)) (by decide) (fun K hK => ?_)
     refine goes_ Try.func27 (by kernel_rfl) rfl #[.agg #[.slice Ao70 t354.length co70, .slice Ao71 t357.length co71], .agg #[.slice Ao72 t360.length co72, .slice Ao73 t363.length co73]] (by rfl) rfl rfl (by (try simp only [List.map_toArray, List.map_cons, List.map_nil]); first | done | rfl | (simp only [List.length_drop, List.length_take]; rfl)) ?_
     with_reducible refine (spec_StackAlgebras.calls k _ _ t354 _ _ t357 _ _ t360 _ _ t363 t366 t369 t372 _ ?side1 ?side2 ?side3 ?side4 ?side5 ?side6 ?side7 ?side8 A24.out).mono ?_
     (case side1 => exact kC (Kd.R_reads' HO356.out).2.2)
     (case side2 => exact (Kd.R_reads' HO356.out).2.1)
     (case side3 => exact kC (Kd.S_reads' HO359.out).2.2)
     (case side4 => exact (Kd.S_reads' HO359.out).2.1)
     (case side5 => exact kC (Kd.R_reads' HO362.out).2.2)
     (case side6 => exact (Kd.R_reads' HO362.out).2.1)
     (case side7 => exact kC (Kd.S_reads' HO365.out).2.2)
     (case side8 => exact (Kd.S_reads' HO365.out).2.1)
     rintro e w74 ⟨v367, v370, rfl, ho0, ho1, hb⟩
     refine ⟨_, rfl, ?_⟩
     obtain ⟨ag75, hag75⟩ := age_at hb
     replace HO356 := ak (age_oldR (kR HO356.out) hb hag75.out)
     replace HO359 := ak (age_oldS (kS HO359.out) hb hag75.out)
     replace HO362 := ak (age_oldR (kR HO362.out) hb hag75.out)
     replace HO365 := ak (age_oldS (kS HO365.out) hb hag75.out)
     have HO368 := ak (Kd.R_lower (age_newR ho0 hag75.out) (below_size (kB HB.out)))
     have HO371 := ak (Kd.S_lower (age_newS ho1 hag75.out) (below_size (kB HB.out)))
     replace BK350 := ak (blk_below (kK BK350.out) hb)
     replace BK351 := ak (blk_below (kK BK351.out) hb)
     replace BK373 := ak (blk_below (kK BK373.out) hb)
     replace HB := ak (below_step (kB HB.out) hb)
     (try clear hb)
     (try clear hb2)
     (try clear hk)
     (try clear hi)
     (try clear ho0)
     (try clear ho1)
     refine hK.out _ _ ⟨(blk_cell BK350.out 0).trans rfl, (blk_cell BK350.out 1).trans rfl, (blk_cell BK351.out 0).trans rfl, (blk_cell BK351.out 1).trans rfl⟩ (fun hHeld => ?_)
     clear hK K
     refine norm_ (a' := ?_) ?_ ?_
     rotate_left
     ·show Act.put _ (some 32) _ = _
      simp only [Act.put, List.setIfInBounds_toArray, List.set_cons_zero, List.set_cons_succ, i64_w, i32_w]
      rfl
     refine pure_ (i := 5) (N := some 27) (v := ?_) (a' := ?_) #[true, true, true, true, true, true, false, false, true, false, false] rfl rfl (any_of HT_.out (by kernel_rfl)) (fun _ _ _ h => h) (Or.inl ⟨by rfl, ?_⟩) ?_ ?_
     rotate_left
     ·intro w'
      go_simp
      with_reducible rfl
     rotate_left
     ·simp only [Act.put, List.setIfInBounds_toArray, List.set_cons_zero, List.set_cons_succ, i64_w, i32_w]
      rfl
     refine pure_ (i := 6) (N := some 33) (v := ?_) (a' := ?_) #[true, true, true, true, true, true, true, false, true, false, false] rfl rfl (any_of HT_.out (by kernel_rfl)) (fun _ _ _ h => h) (Or.inl ⟨by rfl, ?_⟩) ?_ ?_
     rotate_left
     ·intro w'
      go_simp
      with_reducible rfl
     rotate_left
     ·simp only [Act.put, List.setIfInBounds_toArray, List.set_cons_zero, List.set_cons_succ, i64_w, i32_w]
      rfl
     refine pure_ (i := 7) (N := some 34) (v := ?_) (a' := ?_) #[true, true, true, true, true, true, true, true, true, false, false] rfl rfl (any_of HT_.out (by kernel_rfl)) (fun _ _ _ h => h) (Or.inl ⟨by rfl, ?_⟩) ?_ ?_
     rotate_left
     ·intro w'
      go_simp
      with_reducible rfl
     rotate_left
     ·simp only [Act.put, List.setIfInBounds_toArray, List.set_cons_zero, List.set_cons_succ, i64_w, i32_w]
      rfl
     exact norm_ (by simp only [putAll, Act.put, List.setIfInBounds_toArray, List.set_cons_zero, List.set_cons_succ]) (hCont (.slice Ao70 t354.length co70, .slice Ao71 t357.length co71, .slice Ao72 t360.length co72, .slice Ao73 t363.length co73, v367, v370, gb373) _ ⟨hHeld, (kR (Kd.R_mono HO356.out (fun _ hk => trivial))), (kS (Kd.S_mono HO359.out (fun _ hk => hk.1.1.1))), (kR (Kd.R_mono HO362.out (fun _ hk => trivial))), (kS (Kd.S_mono HO365.out (fun _ hk => hk.1.1))), (kR (Kd.R_mono HO368.out (fun _ hk => trivial))), (kS (Kd.S_mono HO371.out (fun _ hk => hk.1))), (kK BK350.out), (kK BK351.out), (kK BK373.out), GW373.out, GE373.out, NB350_373.out, NB373_350.out, NB351_373.out, NB373_351.out, (bB HB.out)⟩)
   ·skip
    refine box_step ?hg (N := 6) ?hd (cs := #[.slice none 0 0, .slice none 0 0]) (t := 25) ?hr ?_; (case hd => rfl); (case hg => rfl); (case hr => first | (go_simp; done) | (go_simp; rfl))
    intro gb373 hg w67 hbox hb
    replace HO356 := ak (Kd.R_below (kR HO356.out) hb)
    replace HO359 := ak (Kd.S_below (kS HO359.out) hb)
    have BK373 := ak (hbox)
    have GW373 := ak (ge_box hg (kB HB.out))
    have GE373 := ak (ge_box hg (kB HB.out))
    replace HB := ak (below_step (kB HB.out) hb)
    have NB350_373 := ak ((ne_box hg (kK BK350.out)))
    have NB373_350 := ak ((ne_box' hg (kK BK350.out)))
    replace BK350 := ak (blk_below (kK BK350.out) hb)
    have NB351_373 := ak ((ne_box hg (kK BK351.out)))
    have NB373_351 := ak ((ne_box' hg (kK BK351.out)))
    replace BK351 := ak (blk_below (kK BK351.out) hb)
    clear hb hbox hg
    refine hK.out _ _ ⟨(blk_cell BK350.out 0).trans rfl, (blk_cell BK350.out 1).trans rfl, (blk_cell BK351.out 0).trans rfl, (blk_cell BK351.out 1).trans rfl⟩ (fun hHeld => ?_)
    clear hK K
    refine norm_ (a' := ?_) ?_ ?_
    rotate_left
    ·show Act.put _ (some 6) _ = _
     simp only [Act.put, List.setIfInBounds_toArray, List.set_cons_zero, List.set_cons_succ, i64_w, i32_w]
     rfl
    refine one_ (i := 3) (N := some 31) #[true, true, true, true, false, false, false, false, true, false, false] rfl rfl (one_of HT_.out (by kernel_rfl)) (by decide) (fun K hK => ?_)
    refine goes_ Try.func25 (by kernel_rfl) rfl #[.agg #[.slice A1_0 l1_0.length c1_0, .slice A1_1 l1_1.length c1_1]] (by rfl) rfl rfl (by (try simp only [List.map_toArray, List.map_cons, List.map_nil]); first | done | rfl | (simp only [List.length_drop, List.length_take]; rfl)) ?_
    with_reducible refine (laws_toAlgebra.calls k _ _ l1_0 _ _ l1_1 t360 t363 _ ?side1 ?side2 ?side3 ?side4 A23.out).mono ?_
    (case side1 => exact kC (Kd.C_below HR1_0.out HB.out))
    (case side2 => exact HC1_0.out)
    (case side3 => exact kC (Kd.C_below HR1_1.out HB.out))
    (case side4 => exact HC1_1.out)
    rintro e w68 ⟨v361, v364, rfl, ho0, ho1, hb⟩
    refine ⟨_, rfl, ?_⟩
    obtain ⟨ag69, hag69⟩ := age_at hb
    replace HO356 := ak (age_oldR (kR HO356.out) hb hag69.out)
    replace HO359 := ak (age_oldS (kS HO359.out) hb hag69.out)
    have HO362 := ak (Kd.R_lower (age_newR ho0 hag69.out) (below_size (kB HB.out)))
    have HO365 := ak (Kd.S_lower (age_newS ho1 hag69.out) (below_size (kB HB.out)))
    replace BK350 := ak (blk_below (kK BK350.out) hb)
    replace BK351 := ak (blk_below (kK BK351.out) hb)
    replace BK373 := ak (blk_below (kK BK373.out) hb)
    replace HB := ak (below_step (kB HB.out) hb)
    (try clear hb)
    (try clear hb2)
    (try clear hk)
    (try clear hi)
    (try clear ho0)
    (try clear ho1)
    obtain ⟨Ao70, co70, eo70⟩ := Kd.R_slice HO356.out
    (first | subst eo70 | (injection eo70 with f1_ f2_ f3_; have f4_ := f1_.symm; have f5_ := f3_.symm; clear f1_ f2_ f3_; subst f4_; subst f5_))
    obtain ⟨Ao71, co71, eo71⟩ := Kd.S_slice HO359.out
    (first | subst eo71 | (injection eo71 with f1_ f2_ f3_; have f4_ := f1_.symm; have f5_ := f3_.symm; clear f1_ f2_ f3_; subst f4_; subst f5_))
    obtain ⟨Ao72, co72, eo72⟩ := Kd.R_slice HO362.out
    (first | subst eo72 | (injection eo72 with f1_ f2_ f3_; have f4_ := f1_.symm; have f5_ := f3_.symm; clear f1_ f2_ f3_; subst f4_; subst f5_))
    obtain ⟨Ao73, co73, eo73⟩ := Kd.S_slice HO365.out
    (first | subst eo73 | (injection eo73 with f1_ f2_ f3_; have f4_ := f1_.symm; have f5_ := f3_.symm; clear f1_ f2_ f3_; subst f4_; subst f5_))
    refine hK.out _ _ ⟨(blk_cell BK350.out 0).trans rfl, (blk_cell BK350.out 1).trans rfl, (blk_cell BK351.out 0).trans rfl, (blk_cell BK351.out 1).trans rfl⟩ (fun hHeld => ?_)
    clear hK K
    refine norm_ (a' := ?_) ?_ ?_
    rotate_left
    ·show Act.put _ (some 31) _ = _
     simp only [Act.put, List.setIfInBounds_toArray, List.set_cons_zero, List.set_cons_succ, i64_w, i32_w]
     rfl
    refine one_ (i := 4) (N := some 32) #[true, true, true, true, true, false, false, false, true, false, false] rfl rfl (one_of HT_.out (by kernel_rfl)) (by decide) (fun K hK => ?_)
    refine goes_ Try.func27 (by kernel_rfl) rfl #[.agg #[.slice Ao70 t354.length co70, .slice Ao71 t357.length co71], .agg #[.slice Ao72 t360.length co72, .slice Ao73 t363.length co73]] (by rfl) rfl rfl (by (try simp only [List.map_toArray, List.map_cons, List.map_nil]); first | done | rfl | (simp only [List.length_drop, List.length_take]; rfl)) ?_
    with_reducible refine (spec_StackAlgebras.calls k _ _ t354 _ _ t357 _ _ t360 _ _ t363 t366 t369 t372 _ ?side1 ?side2 ?side3 ?side4 ?side5 ?side6 ?side7 ?side8 A24.out).mono ?_
    (case side1 => exact kC (Kd.R_reads' HO356.out).2.2)
    (case side2 => exact (Kd.R_reads' HO356.out).2.1)
    (case side3 => exact kC (Kd.S_reads' HO359.out).2.2)
    (case side4 => exact (Kd.S_reads' HO359.out).2.1)
    (case side5 => exact kC (Kd.R_reads' HO362.out).2.2)
    (case side6 => exact (Kd.R_reads' HO362.out).2.1)
    (case side7 => exact kC (Kd.S_reads' HO365.out).2.2)
    (case side8 => exact (Kd.S_reads' HO365.out).2.1)
    rintro e w74 ⟨v367, v370, rfl, ho0, ho1, hb⟩
    refine ⟨_, rfl, ?_⟩
    obtain ⟨ag75, hag75⟩ := age_at hb
    replace HO356 := ak (age_oldR (kR HO356.out) hb hag75.out)
    replace HO359 := ak (age_oldS (kS HO359.out) hb hag75.out)
    replace HO362 := ak (age_oldR (kR HO362.out) hb hag75.out)
    replace HO365 := ak (age_oldS (kS HO365.out) hb hag75.out)
    have HO368 := ak (Kd.R_lower (age_newR ho0 hag75.out) (below_size (kB HB.out)))
    have HO371 := ak (Kd.S_lower (age_newS ho1 hag75.out) (below_size (kB HB.out)))
    replace BK350 := ak (blk_below (kK BK350.out) hb)
    replace BK351 := ak (blk_below (kK BK351.out) hb)
    replace BK373 := ak (blk_below (kK BK373.out) hb)
    replace HB := ak (below_step (kB HB.out) hb)
    (try clear hb)
    (try clear hb2)
    (try clear hk)
    (try clear hi)
    (try clear ho0)
    (try clear ho1)
    refine hK.out _ _ ⟨(blk_cell BK350.out 0).trans rfl, (blk_cell BK350.out 1).trans rfl, (blk_cell BK351.out 0).trans rfl, (blk_cell BK351.out 1).trans rfl⟩ (fun hHeld => ?_)
    clear hK K
    refine norm_ (a' := ?_) ?_ ?_
    rotate_left
    ·show Act.put _ (some 32) _ = _
     simp only [Act.put, List.setIfInBounds_toArray, List.set_cons_zero, List.set_cons_succ, i64_w, i32_w]
     rfl
    refine pure_ (i := 5) (N := some 27) (v := ?_) (a' := ?_) #[true, true, true, true, true, true, false, false, true, false, false] rfl rfl (any_of HT_.out (by kernel_rfl)) (fun _ _ _ h => h) (Or.inl ⟨by rfl, ?_⟩) ?_ ?_
    rotate_left
    ·intro w'
     go_simp
     with_reducible rfl
    rotate_left
    ·simp only [Act.put, List.setIfInBounds_toArray, List.set_cons_zero, List.set_cons_succ, i64_w, i32_w]
     rfl
    refine pure_ (i := 6) (N := some 33) (v := ?_) (a' := ?_) #[true, true, true, true, true, true, true, false, true, false, false] rfl rfl (any_of HT_.out (by kernel_rfl)) (fun _ _ _ h => h) (Or.inl ⟨by rfl, ?_⟩) ?_ ?_
    rotate_left
    ·intro w'
     go_simp
     with_reducible rfl
    rotate_left
    ·simp only [Act.put, List.setIfInBounds_toArray, List.set_cons_zero, List.set_cons_succ, i64_w, i32_w]
     rfl
    refine pure_ (i := 7) (N := some 34) (v := ?_) (a' := ?_) #[true, true, true, true, true, true, true, true, true, false, false] rfl rfl (any_of HT_.out (by kernel_rfl)) (fun _ _ _ h => h) (Or.inl ⟨by rfl, ?_⟩) ?_ ?_
    rotate_left
    ·intro w'
     go_simp
     with_reducible rfl
    rotate_left
    ·simp only [Act.put, List.setIfInBounds_toArray, List.set_cons_zero, List.set_cons_succ, i64_w, i32_w]
     rfl
    exact norm_ (by simp only [putAll, Act.put, List.setIfInBounds_toArray, List.set_cons_zero, List.set_cons_succ]) (hCont (.slice Ao70 t354.length co70, .slice Ao71 t357.length co71, .slice Ao72 t360.length co72, .slice Ao73 t363.length co73, v367, v370, gb373) _ ⟨hHeld, (kR (Kd.R_mono HO356.out (fun _ hk => trivial))), (kS (Kd.S_mono HO359.out (fun _ hk => hk.1.1.1))), (kR (Kd.R_mono HO362.out (fun _ hk => trivial))), (kS (Kd.S_mono HO365.out (fun _ hk => hk.1.1))), (kR (Kd.R_mono HO368.out (fun _ hk => trivial))), (kS (Kd.S_mono HO371.out (fun _ hk => hk.1))), (kK BK350.out), (kK BK351.out), (kK BK373.out), GW373.out, GE373.out, NB350_373.out, NB373_350.out, NB351_373.out, NB373_351.out, (bB HB.out)⟩)
  ·skip
   refine box_step ?hg (N := 6) ?hd (cs := #[.slice none 0 0, .slice none 0 0]) (t := 25) ?hr ?_; (case hd => rfl); (case hg => rfl); (case hr => first | (go_simp; done) | (go_simp; rfl))
   intro gb373 hg w65 hbox hb
   have BK373 := ak (hbox)
   have GW373 := ak (ge_box hg (kB HB.out))
   have GE373 := ak (ge_box hg (kB HB.out))
   replace HB := ak (below_step (kB HB.out) hb)
   have NB350_373 := ak ((ne_box hg (kK BK350.out)))
   have NB373_350 := ak ((ne_box' hg (kK BK350.out)))
   replace BK350 := ak (blk_below (kK BK350.out) hb)
   have NB351_373 := ak ((ne_box hg (kK BK351.out)))
   have NB373_351 := ak ((ne_box' hg (kK BK351.out)))
   replace BK351 := ak (blk_below (kK BK351.out) hb)
   clear hb hbox hg
   refine hK.out _ _ ⟨(blk_cell BK350.out 0).trans rfl, (blk_cell BK350.out 1).trans rfl, (blk_cell BK351.out 0).trans rfl, (blk_cell BK351.out 1).trans rfl⟩ (fun hHeld => ?_)
   clear hK K
   refine norm_ (a' := ?_) ?_ ?_
   rotate_left
   ·show Act.put _ (some 6) _ = _
    simp only [Act.put, List.setIfInBounds_toArray, List.set_cons_zero, List.set_cons_succ, i64_w, i32_w]
    rfl
   refine one_ (i := 1) (N := some 29) #[true, true, true, false, false, false, false, false, true, false, false] rfl rfl (one_of HT_.out (by kernel_rfl)) (by decide) (fun K hK => ?_)
   refine goes_ Try.func25 (by kernel_rfl) rfl #[.agg #[.slice A0_0 l0_0.length c0_0, .slice A0_1 l0_1.length c0_1]] (by rfl) rfl rfl (by (try simp only [List.map_toArray, List.map_cons, List.map_nil]); first | done | rfl | (simp only [List.length_drop, List.length_take]; rfl)) ?_
   with_reducible refine (laws_toAlgebra.calls k _ _ l0_0 _ _ l0_1 t354 t357 _ ?side1 ?side2 ?side3 ?side4 A22.out).mono ?_
   (case side1 => exact kC (Kd.C_below HR0_0.out HB.out))
   (case side2 => exact HC0_0.out)
   (case side3 => exact kC (Kd.C_below HR0_1.out HB.out))
   (case side4 => exact HC0_1.out)
   rintro e w66 ⟨v355, v358, rfl, ho0, ho1, hb⟩
   refine ⟨_, rfl, ?_⟩
   obtain ⟨ag67, hag67⟩ := age_at hb
   have HO356 := ak (Kd.R_lower (age_newR ho0 hag67.out) (below_size (kB HB.out)))
   have HO359 := ak (Kd.S_lower (age_newS ho1 hag67.out) (below_size (kB HB.out)))
   replace BK350 := ak (blk_below (kK BK350.out) hb)
   replace BK351 := ak (blk_below (kK BK351.out) hb)
   replace BK373 := ak (blk_below (kK BK373.out) hb)
   replace HB := ak (below_step (kB HB.out) hb)
   (try clear hb)
   (try clear hb2)
   (try clear hk)
   (try clear hi)
   (try clear ho0)
   (try clear ho1)
   refine hK.out _ _ ⟨(blk_cell BK350.out 0).trans rfl, (blk_cell BK350.out 1).trans rfl, (blk_cell BK351.out 0).trans rfl, (blk_cell BK351.out 1).trans rfl⟩ (fun hHeld => ?_)
   clear hK K
   refine norm_ (a' := ?_) ?_ ?_
   rotate_left
   ·show Act.put _ (some 29) _ = _
    simp only [Act.put, List.setIfInBounds_toArray, List.set_cons_zero, List.set_cons_succ, i64_w, i32_w]
    rfl
   refine one_ (i := 3) (N := some 31) #[true, true, true, true, false, false, false, false, true, false, false] rfl rfl (one_of HT_.out (by kernel_rfl)) (by decide) (fun K hK => ?_)
   refine goes_ Try.func25 (by kernel_rfl) rfl #[.agg #[.slice A1_0 l1_0.length c1_0, .slice A1_1 l1_1.length c1_1]] (by rfl) rfl rfl (by (try simp only [List.map_toArray, List.map_cons, List.map_nil]); first | done | rfl | (simp only [List.length_drop, List.length_take]; rfl)) ?_
   with_reducible refine (laws_toAlgebra.calls k _ _ l1_0 _ _ l1_1 t360 t363 _ ?side1 ?side2 ?side3 ?side4 A23.out).mono ?_
   (case side1 => exact kC (Kd.C_below HR1_0.out HB.out))
   (case side2 => exact HC1_0.out)
   (case side3 => exact kC (Kd.C_below HR1_1.out HB.out))
   (case side4 => exact HC1_1.out)
   rintro e w68 ⟨v361, v364, rfl, ho0, ho1, hb⟩
   refine ⟨_, rfl, ?_⟩
   obtain ⟨ag69, hag69⟩ := age_at hb
   replace HO356 := ak (age_oldR (kR HO356.out) hb hag69.out)
   replace HO359 := ak (age_oldS (kS HO359.out) hb hag69.out)
   have HO362 := ak (Kd.R_lower (age_newR ho0 hag69.out) (below_size (kB HB.out)))
   have HO365 := ak (Kd.S_lower (age_newS ho1 hag69.out) (below_size (kB HB.out)))
   replace BK350 := ak (blk_below (kK BK350.out) hb)
   replace BK351 := ak (blk_below (kK BK351.out) hb)
   replace BK373 := ak (blk_below (kK BK373.out) hb)
   replace HB := ak (below_step (kB HB.out) hb)
   (try clear hb)
   (try clear hb2)
   (try clear hk)
   (try clear hi)
   (try clear ho0)
   (try clear ho1)
   obtain ⟨Ao70, co70, eo70⟩ := Kd.R_slice HO356.out
   (first | subst eo70 | (injection eo70 with f1_ f2_ f3_; have f4_ := f1_.symm; have f5_ := f3_.symm; clear f1_ f2_ f3_; subst f4_; subst f5_))
   obtain ⟨Ao71, co71, eo71⟩ := Kd.S_slice HO359.out
   (first | subst eo71 | (injection eo71 with f1_ f2_ f3_; have f4_ := f1_.symm; have f5_ := f3_.symm; clear f1_ f2_ f3_; subst f4_; subst f5_))
   obtain ⟨Ao72, co72, eo72⟩ := Kd.R_slice HO362.out
   (first | subst eo72 | (injection eo72 with f1_ f2_ f3_; have f4_ := f1_.symm; have f5_ := f3_.symm; clear f1_ f2_ f3_; subst f4_; subst f5_))
   obtain ⟨Ao73, co73, eo73⟩ := Kd.S_slice HO365.out
   (first | subst eo73 | (injection eo73 with f1_ f2_ f3_; have f4_ := f1_.symm; have f5_ := f3_.symm; clear f1_ f2_ f3_; subst f4_; subst f5_))
   refine hK.out _ _ ⟨(blk_cell BK350.out 0).trans rfl, (blk_cell BK350.out 1).trans rfl, (blk_cell BK351.out 0).trans rfl, (blk_cell BK351.out 1).trans rfl⟩ (fun hHeld => ?_)
   clear hK K
   refine norm_ (a' := ?_) ?_ ?_
   rotate_left
   ·show Act.put _ (some 31) _ = _
    simp only [Act.put, List.setIfInBounds_toArray, List.set_cons_zero, List.set_cons_succ, i64_w, i32_w]
    rfl
   refine one_ (i := 4) (N := some 32) #[true, true, true, true, true, false, false, false, true, false, false] rfl rfl (one_of HT_.out (by kernel_rfl)) (by decide) (fun K hK => ?_)
   refine goes_ Try.func27 (by kernel_rfl) rfl #[.agg #[.slice Ao70 t354.length co70, .slice Ao71 t357.length co71], .agg #[.slice Ao72 t360.length co72, .slice Ao73 t363.length co73]] (by rfl) rfl rfl (by (try simp only [List.map_toArray, List.map_cons, List.map_nil]); first | done | rfl | (simp only [List.length_drop, List.length_take]; rfl)) ?_
   with_reducible refine (spec_StackAlgebras.calls k _ _ t354 _ _ t357 _ _ t360 _ _ t363 t366 t369 t372 _ ?side1 ?side2 ?side3 ?side4 ?side5 ?side6 ?side7 ?side8 A24.out).mono ?_
   (case side1 => exact kC (Kd.R_reads' HO356.out).2.2)
   (case side2 => exact (Kd.R_reads' HO356.out).2.1)
   (case side3 => exact kC (Kd.S_reads' HO359.out).2.2)
   (case side4 => exact (Kd.S_reads' HO359.out).2.1)
   (case side5 => exact kC (Kd.R_reads' HO362.out).2.2)
   (case side6 => exact (Kd.R_reads' HO362.out).2.1)
   (case side7 => exact kC (Kd.S_reads' HO365.out).2.2)
   (case side8 => exact (Kd.S_reads' HO365.out).2.1)
   rintro e w74 ⟨v367, v370, rfl, ho0, ho1, hb⟩
   refine ⟨_, rfl, ?_⟩
   obtain ⟨ag75, hag75⟩ := age_at hb
   replace HO356 := ak (age_oldR (kR HO356.out) hb hag75.out)
   replace HO359 := ak (age_oldS (kS HO359.out) hb hag75.out)
   replace HO362 := ak (age_oldR (kR HO362.out) hb hag75.out)
   replace HO365 := ak (age_oldS (kS HO365.out) hb hag75.out)
   have HO368 := ak (Kd.R_lower (age_newR ho0 hag75.out) (below_size (kB HB.out)))
   have HO371 := ak (Kd.S_lower (age_newS ho1 hag75.out) (below_size (kB HB.out)))
   replace BK350 := ak (blk_below (kK BK350.out) hb)
   replace BK351 := ak (blk_below (kK BK351.out) hb)
   replace BK373 := ak (blk_below (kK BK373.out) hb)
   replace HB := ak (below_step (kB HB.out) hb)
   (try clear hb)
   (try clear hb2)
   (try clear hk)
   (try clear hi)
   (try clear ho0)
   (try clear ho1)
   refine hK.out _ _ ⟨(blk_cell BK350.out 0).trans rfl, (blk_cell BK350.out 1).trans rfl, (blk_cell BK351.out 0).trans rfl, (blk_cell BK351.out 1).trans rfl⟩ (fun hHeld => ?_)
   clear hK K
   refine norm_ (a' := ?_) ?_ ?_
   rotate_left
   ·show Act.put _ (some 32) _ = _
    simp only [Act.put, List.setIfInBounds_toArray, List.set_cons_zero, List.set_cons_succ, i64_w, i32_w]
    rfl
   refine pure_ (i := 5) (N := some 27) (v := ?_) (a' := ?_) #[true, true, true, true, true, true, false, false, true, false, false] rfl rfl (any_of HT_.out (by kernel_rfl)) (fun _ _ _ h => h) (Or.inl ⟨by rfl, ?_⟩) ?_ ?_
   rotate_left
   ·intro w'
    go_simp
    with_reducible rfl
   rotate_left
   ·simp only [Act.put, List.setIfInBounds_toArray, List.set_cons_zero, List.set_cons_succ, i64_w, i32_w]
    rfl
   refine pure_ (i := 6) (N := some 33) (v := ?_) (a' := ?_) #[true, true, true, true, true, true, true, false, true, false, false] rfl rfl (any_of HT_.out (by kernel_rfl)) (fun _ _ _ h => h) (Or.inl ⟨by rfl, ?_⟩) ?_ ?_
   rotate_left
   ·intro w'
    go_simp
    with_reducible rfl
   rotate_left
   ·simp only [Act.put, List.setIfInBounds_toArray, List.set_cons_zero, List.set_cons_succ, i64_w, i32_w]
    rfl
   refine pure_ (i := 7) (N := some 34) (v := ?_) (a' := ?_) #[true, true, true, true, true, true, true, true, true, false, false] rfl rfl (any_of HT_.out (by kernel_rfl)) (fun _ _ _ h => h) (Or.inl ⟨by rfl, ?_⟩) ?_ ?_
   rotate_left
   ·intro w'
    go_simp
    with_reducible rfl
   rotate_left
   ·simp only [Act.put, List.setIfInBounds_toArray, List.set_cons_zero, List.set_cons_succ, i64_w, i32_w]
    rfl
   exact norm_ (by simp only [putAll, Act.put, List.setIfInBounds_toArray, List.set_cons_zero, List.set_cons_succ]) (hCont (.slice Ao70 t354.length co70, .slice Ao71 t357.length co71, .slice Ao72 t360.length co72, .slice Ao73 t363.length co73, v367, v370, gb373) _ ⟨hHeld, (kR (Kd.R_mono HO356.out (fun _ hk => trivial))), (kS (Kd.S_mono HO359.out (fun _ hk => hk.1.1.1))), (kR (Kd.R_mono HO362.out (fun _ hk => trivial))), (kS (Kd.S_mono HO365.out (fun _ hk => hk.1.1))), (kR (Kd.R_mono HO368.out (fun _ hk => trivial))), (kS (Kd.S_mono HO371.out (fun _ hk => hk.1))), (kK BK350.out), (kK BK351.out), (kK BK373.out), GW373.out, GE373.out, NB350_373.out, NB373_350.out, NB351_373.out, NB373_351.out, (bB HB.out)⟩)
 rintro ⟨v355, v358, v361, v364, v367, v370, gb373⟩ w76 ⟨hS_, h0_, h1_, h2_, h3_, h4_, h5_, h6_, h7_, h8_, h9_, h10_, h11_, h12_, h13_, h14_, h15_⟩
 have n0_ : Aside0 (Kd.R (Kd.int .i64) 3 w76 w.heap.size (fun _ => True) v355 t354) := ⟨h0_⟩
 have n1_ : Aside0 (Kd.S (Kd.slice 3 (Kd.int .i64)) 22 w76 w.heap.size (fun k_ => some k_ ≠ (v355 : Value).ownBlock) v358 t357) := ⟨h1_⟩
 have n2_ : Aside0 (Kd.R (Kd.int .i64) 3 w76 w.heap.size (fun _ => True) v361 t360) := ⟨h2_⟩
 have n3_ : Aside0 (Kd.S (Kd.slice 3 (Kd.int .i64)) 22 w76 w.heap.size (fun k_ => some k_ ≠ (v361 : Value).ownBlock) v364 t363) := ⟨h3_⟩
 have n4_ : Aside0 (Kd.R (Kd.int .i64) 3 w76 w.heap.size (fun _ => True) v367 t366) := ⟨h4_⟩
 have n5_ : Aside0 (Kd.S (Kd.slice 3 (Kd.int .i64)) 22 w76 w.heap.size (fun k_ => some k_ ≠ (v367 : Value).ownBlock) v370 t369) := ⟨h5_⟩
 have n6_ : Aside0 (w76.heap[gb350]? = some (.cells #[.slice A0_0 l0_0.length c0_0, .slice A0_1 l0_1.length c0_1] 36 (0, 0))) := ⟨h6_⟩
 have n7_ : Aside0 (w76.heap[gb351]? = some (.cells #[.slice A1_0 l1_0.length c1_0, .slice A1_1 l1_1.length c1_1] 36 (0, 0))) := ⟨h7_⟩
 have n8_ : Aside0 (w76.heap[gb373]? = some (.cells #[.slice none 0 0, .slice none 0 0] 25 (0, 0))) := ⟨h8_⟩
 have n9_ : Aside0 (w.heap.size ≤ gb373) := ⟨h9_⟩
 have n10_ : Aside0 (w.heap.size ≤ gb373) := ⟨h10_⟩
 have n11_ : Aside0 (gb350 ≠ gb373) := ⟨h11_⟩
 have n12_ : Aside0 (gb373 ≠ gb350) := ⟨h12_⟩
 have n13_ : Aside0 (gb351 ≠ gb373) := ⟨h13_⟩
 have n14_ : Aside0 (gb373 ≠ gb351) := ⟨h14_⟩
 have n15_ : Aside0 (Below w.heap.size w w76) := ⟨h15_⟩
 clear BK350
 clear BK351
 clear HB
 clear h0_ h1_ h2_ h3_ h4_ h5_ h6_ h7_ h8_ h9_ h10_ h11_ h12_ h13_ h14_ h15_
 have HO356 := n0_
 have HO359 := n1_
 have HO362 := n2_
 have HO365 := n3_
 have HO368 := n4_
 have HO371 := n5_
 have BK350 := n6_
 have BK351 := n7_
 have BK373 := n8_
 have GW373 := n9_
 have GE373 := n10_
 have NB350_373 := n11_
 have NB373_350 := n12_
 have NB351_373 := n13_
 have NB373_351 := n14_
 have HB := n15_
 clear n0_ n1_ n2_ n3_ n4_ n5_ n6_ n7_ n8_ n9_ n10_ n11_ n12_ n13_ n14_ n15_
 have hHeld : w76.cell? ⟨gb350, 0, none⟩ = some (.slice A0_0 l0_0.length c0_0) ∧ w76.cell? ⟨gb350, 1, none⟩ = some (.slice A0_1 l0_1.length c0_1) ∧ w76.cell? ⟨gb351, 0, none⟩ = some (.slice A1_0 l1_0.length c1_0) ∧ w76.cell? ⟨gb351, 1, none⟩ = some (.slice A1_1 l1_1.length c1_1) := hS_
 obtain ⟨Ao77, co77, eo77⟩ := Kd.R_slice HO368.out
 (first | subst eo77 | (injection eo77 with f1_ f2_ f3_; have f4_ := f1_.symm; have f5_ := f3_.symm; clear f1_ f2_ f3_; subst f4_; subst f5_))
 obtain ⟨Ao79, co79, eo79⟩ := Kd.S_slice HO371.out
 (first | subst eo79 | (injection eo79 with f1_ f2_ f3_; have f4_ := f1_.symm; have f5_ := f3_.symm; clear f1_ f2_ f3_; subst f4_; subst f5_))
 refine norm_ (a' := ?_) ?_ ?_
 rotate_left
 ·simp only [putAll, Act.put, List.setIfInBounds_toArray, List.set_cons_zero, List.set_cons_succ]
  rfl
 refine one_ (i := 9) (N := none) #[true, true, true, true, true, true, true, true, true, true, false] rfl rfl (one_of HT_.out (by kernel_rfl)) (by decide) (fun K hK => ?_)
 have hs78 : w76.cell? ⟨gb373, 0, none⟩ = some (.slice none 0 0) := (blk_cell BK373.out 0).trans rfl
 have hfs78 := blk_frozen BK373.out 0
 have hns78_0 := NB350_373.out
 have hns78_1 := NB351_373.out
 have hms78_0 := NB373_350.out
 have hms78_1 := NB373_351.out
 have hs80 : w76.cell? ⟨gb373, 1, none⟩ = some (.slice none 0 0) := (blk_cell BK373.out 1).trans rfl
 have hfs80 := blk_frozen BK373.out 1
 have hns80_0 := NB350_373.out
 have hns80_1 := NB351_373.out
 have hms80_0 := NB373_350.out
 have hms80_1 := NB373_351.out
 refine skip_ (w1 := ?_) (by rfl) rfl ?_ ?_
 rotate_left
 ·go_simp
  rfl
 refine hK.out _ _ ⟨((cell_far (p := ⟨gb373, _, none⟩) NB350_373.out _).trans (((cell_far (p := ⟨gb373, _, none⟩) NB350_373.out _).trans (hHeld.1)))), ((cell_far (p := ⟨gb373, _, none⟩) NB350_373.out _).trans (((cell_far (p := ⟨gb373, _, none⟩) NB350_373.out _).trans (hHeld.2.1)))), ((cell_far (p := ⟨gb373, _, none⟩) NB351_373.out _).trans (((cell_far (p := ⟨gb373, _, none⟩) NB351_373.out _).trans (hHeld.2.2.1)))), ((cell_far (p := ⟨gb373, _, none⟩) NB351_373.out _).trans (((cell_far (p := ⟨gb373, _, none⟩) NB351_373.out _).trans (hHeld.2.2.2))))⟩ (fun hHeld => ?_)
 clear hK K
 refine pure_ (i := 10) (N := some 7) (v := ?_) (a' := ?_) #[true, true, true, true, true, true, true, true, true, true, true] rfl rfl (any_of HT_.out (by kernel_rfl)) (fun _ _ _ h => h) (Or.inl ⟨by rfl, ?_⟩) ?_ ?_
 rotate_left
 ·intro w'
  go_simp
  with_reducible rfl
 rotate_left
 ·simp only [Act.put, List.setIfInBounds_toArray, List.set_cons_zero, List.set_cons_succ, i64_w, i32_w]
  rfl
 refine done_ (done_of HT_.out (by kernel_rfl)) ?_
 have hnb81 := NB350_373.out
 have hnc81 := NB373_350.out
 have hcz82_0 : w76.cell? ⟨gb350, 0, none⟩ = some (.slice A0_0 l0_0.length c0_0) := (blk_cell BK350.out 0).trans rfl
 have hcz82_1 : w76.cell? ⟨gb350, 1, none⟩ = some (.slice A0_1 l0_1.length c0_1) := (blk_cell BK350.out 1).trans rfl
 have hfz82_0 := blk_frozen BK350.out 0
 have hfz82_1 := blk_frozen BK350.out 1
 try go_wp2_with (first | ((with_reducible refine gate_callee (f := 25) rfl ?_); refine goesL_ (some 36) rfl rfl Try.func25 (by kernel_rfl) rfl #[.agg #[.slice A0_0 l0_0.length c0_0, .slice A0_1 l0_1.length c0_1]] rfl (by (try simp only [List.map_toArray, List.map_cons, List.map_nil]); first | done | rfl | (simp only [List.length_drop, List.length_take]; rfl)) ?_; (with_reducible refine (laws_toAlgebra.calls k _ _ l0_0 _ _ l0_1 t374 t377 _ ?side1 ?side2 ?side3 ?side4 A25.out).mono ?_); (case side1 => exact Kd.C_below HR0_0.out (by repeat (first | (with_reducible first | exact HB.out | refine below_set ?_ GE373.out) | exact HB.out))); (case side2 => exact HC0_0.out); (case side3 => exact Kd.C_below HR0_1.out (by repeat (first | (with_reducible first | exact HB.out | refine below_set ?_ GE373.out) | exact HB.out))); (case side4 => exact HC0_1.out); rintro e w83 ⟨v375, v378, rfl, ho0, ho1, hb⟩; refine ⟨_, rfl, ?_⟩; obtain ⟨ag84, hag84⟩ := age_at hb; replace HO356 := ak (age_oldR (kR (s2R HO356.out BK373.out)) hb hag84.out); replace HO359 := ak (age_oldS (kS (s2S HO359.out BK373.out)) hb hag84.out); replace HO362 := ak (age_oldR (kR (s2R HO362.out BK373.out)) hb hag84.out); replace HO365 := ak (age_oldS (kS (s2S HO365.out BK373.out)) hb hag84.out); replace HO368 := ak (age_oldR (kR (s2R HO368.out BK373.out)) hb hag84.out); replace HO371 := ak (age_oldS (kS (s2S HO371.out BK373.out)) hb hag84.out); have HO376 := ak (Kd.R_lower (age_newR ho0 hag84.out) (below_size (by repeat (first | (with_reducible first | exact HB.out | refine below_set ?_ GE373.out) | exact HB.out)))); have HO379 := ak (Kd.S_lower (age_newS ho1 hag84.out) (below_size (by repeat (first | (with_reducible first | exact HB.out | refine below_set ?_ GE373.out) | exact HB.out)))); replace BK350 := ak (blk_below (kK (blk_far (blk_far BK350.out NB350_373.out _) NB350_373.out _)) hb); replace BK351 := ak (blk_below (kK (blk_far (blk_far BK351.out NB351_373.out _) NB351_373.out _)) hb); replace BK373 := ak (blk_below (g := gb373) (o := .cells #[.slice Ao77 t366.length co77, .slice Ao79 t369.length co79] 25 (0, 0)) (by refine blk_put (cs := #[.slice Ao77 t366.length co77, .slice none 0 0]) ?_ 1 _ rfl; refine blk_put (cs := #[.slice none 0 0, .slice none 0 0]) ?_ 0 _ rfl; exact BK373.out) hb); replace HB := ak (below_step (by repeat (first | (with_reducible first | exact HB.out | refine below_set ?_ GE373.out) | exact HB.out)) hb); (try clear hb); (try clear hb2); (try clear hk); (try clear hi); (try clear ho0); (try clear ho1)) | ((with_reducible refine gate_dst (N := 8) rfl ?_); refine box_event ?hg (N := 8) ?hd (cs := #[.slice none 0 0, .slice none 0 0]) (t := 25) ?hr ?_; (case hd => rfl); (case hg => rfl); (case hr => first | (go_simp; done) | (go_simp; rfl)); intro gb380 hg w85 hbox hb; replace HO356 := ak (Kd.R_below (kR HO356.out) hb); replace HO359 := ak (Kd.S_below (kS HO359.out) hb); replace HO362 := ak (Kd.R_below (kR HO362.out) hb); replace HO365 := ak (Kd.S_below (kS HO365.out) hb); replace HO368 := ak (Kd.R_below (kR HO368.out) hb); replace HO371 := ak (Kd.S_below (kS HO371.out) hb); replace HO376 := ak (Kd.R_below (kR HO376.out) hb); replace HO379 := ak (Kd.S_below (kS HO379.out) hb); have BK380 := ak (hbox); have GW380 := ak (ge_box hg (kB HB.out)); have GE380 := ak (ge_box hg (kB HB.out)); replace HB := ak (below_step (kB HB.out) hb); have NB350_380 := ak ((ne_box hg (kK BK350.out))); have NB380_350 := ak ((ne_box' hg (kK BK350.out))); replace BK350 := ak (blk_below (kK BK350.out) hb); have NB351_380 := ak ((ne_box hg (kK BK351.out))); have NB380_351 := ak ((ne_box' hg (kK BK351.out))); replace BK351 := ak (blk_below (kK BK351.out) hb); have NB373_380 := ak ((ne_box hg (kK BK373.out))); have NB380_373 := ak ((ne_box' hg (kK BK373.out))); replace BK373 := ak (blk_below (kK BK373.out) hb); clear hb hbox hg; obtain ⟨Ao86, co86, eo86⟩ := Kd.R_slice HO376.out; subst eo86; have hnb87 := NB380_350.out; have hnc87 := NB350_380.out; have hnb88 := NB380_351.out; have hnc88 := NB351_380.out; have hnb89 := NB380_373.out; have hnc89 := NB373_380.out; have hcz90_0 : w85.cell? ⟨gb380, 0, none⟩ = some (.slice none 0 0) := (blk_cell BK380.out 0).trans rfl; have hcz90_1 : w85.cell? ⟨gb380, 1, none⟩ = some (.slice none 0 0) := (blk_cell BK380.out 1).trans rfl; have hfz90_0 := blk_frozen BK380.out 0; have hfz90_1 := blk_frozen BK380.out 1; obtain ⟨Ao91, co91, eo91⟩ := Kd.S_slice HO379.out; subst eo91; have hnb92 := NB351_373.out; have hnc92 := NB373_351.out; have hcz93_0 : w85.cell? ⟨gb351, 0, none⟩ = some (.slice A1_0 l1_0.length c1_0) := (blk_cell BK351.out 0).trans rfl; have hcz93_1 : w85.cell? ⟨gb351, 1, none⟩ = some (.slice A1_1 l1_1.length c1_1) := (blk_cell BK351.out 1).trans rfl; have hfz93_0 := blk_frozen BK351.out 0; have hfz93_1 := blk_frozen BK351.out 1) | ((with_reducible refine gate_callee (f := 25) rfl ?_); refine goesL_ (some 38) rfl rfl Try.func25 (by kernel_rfl) rfl #[.agg #[.slice A1_0 l1_0.length c1_0, .slice A1_1 l1_1.length c1_1]] rfl (by (try simp only [List.map_toArray, List.map_cons, List.map_nil]); first | done | rfl | (simp only [List.length_drop, List.length_take]; rfl)) ?_; (with_reducible refine (laws_toAlgebra.calls k _ _ l1_0 _ _ l1_1 t381 t384 _ ?side1 ?side2 ?side3 ?side4 A26.out).mono ?_); (case side1 => exact Kd.C_below HR1_0.out (by repeat (first | (with_reducible first | exact HB.out | refine below_set ?_ GE380.out) | exact HB.out))); (case side2 => exact HC1_0.out); (case side3 => exact Kd.C_below HR1_1.out (by repeat (first | (with_reducible first | exact HB.out | refine below_set ?_ GE380.out) | exact HB.out))); (case side4 => exact HC1_1.out); rintro e w94 ⟨v382, v385, rfl, ho0, ho1, hb⟩; refine ⟨_, rfl, ?_⟩; obtain ⟨ag95, hag95⟩ := age_at hb; replace HO356 := ak (age_oldR (kR (s2R HO356.out BK380.out)) hb hag95.out); replace HO359 := ak (age_oldS (kS (s2S HO359.out BK380.out)) hb hag95.out); replace HO362 := ak (age_oldR (kR (s2R HO362.out BK380.out)) hb hag95.out); replace HO365 := ak (age_oldS (kS (s2S HO365.out BK380.out)) hb hag95.out); replace HO368 := ak (age_oldR (kR (s2R HO368.out BK380.out)) hb hag95.out); replace HO371 := ak (age_oldS (kS (s2S HO371.out BK380.out)) hb hag95.out); replace HO376 := ak (age_oldR (kR (s2R HO376.out BK380.out)) hb hag95.out); replace HO379 := ak (age_oldS (kS (s2S HO379.out BK380.out)) hb hag95.out); have HO383 := ak (Kd.R_lower (age_newR ho0 hag95.out) (below_size (by repeat (first | (with_reducible first | exact HB.out | refine below_set ?_ GE380.out) | exact HB.out)))); have HO386 := ak (Kd.S_lower (age_newS ho1 hag95.out) (below_size (by repeat (first | (with_reducible first | exact HB.out | refine below_set ?_ GE380.out) | exact HB.out)))); replace BK350 := ak (blk_below (kK (blk_far (blk_far BK350.out NB350_380.out _) NB350_380.out _)) hb); replace BK351 := ak (blk_below (kK (blk_far (blk_far BK351.out NB351_380.out _) NB351_380.out _)) hb); replace BK373 := ak (blk_below (kK (blk_far (blk_far BK373.out NB373_380.out _) NB373_380.out _)) hb); replace BK380 := ak (blk_below (g := gb380) (o := .cells #[.slice Ao86 t374.length co86, .slice Ao91 t377.length co91] 25 (0, 0)) (by refine blk_put (cs := #[.slice Ao86 t374.length co86, .slice none 0 0]) ?_ 1 _ rfl; refine blk_put (cs := #[.slice none 0 0, .slice none 0 0]) ?_ 0 _ rfl; exact BK380.out) hb); replace HB := ak (below_step (by repeat (first | (with_reducible first | exact HB.out | refine below_set ?_ GE380.out) | exact HB.out)) hb); (try clear hb); (try clear hb2); (try clear hk); (try clear hi); (try clear ho0); (try clear ho1)) | ((with_reducible refine gate_dst (N := 9) rfl ?_); refine box_event ?hg (N := 9) ?hd (cs := #[.slice none 0 0, .slice none 0 0]) (t := 25) ?hr ?_; (case hd => rfl); (case hg => rfl); (case hr => first | (go_simp; done) | (go_simp; rfl)); intro gb387 hg w96 hbox hb; replace HO356 := ak (Kd.R_below (kR HO356.out) hb); replace HO359 := ak (Kd.S_below (kS HO359.out) hb); replace HO362 := ak (Kd.R_below (kR HO362.out) hb); replace HO365 := ak (Kd.S_below (kS HO365.out) hb); replace HO368 := ak (Kd.R_below (kR HO368.out) hb); replace HO371 := ak (Kd.S_below (kS HO371.out) hb); replace HO376 := ak (Kd.R_below (kR HO376.out) hb); replace HO379 := ak (Kd.S_below (kS HO379.out) hb); replace HO383 := ak (Kd.R_below (kR HO383.out) hb); replace HO386 := ak (Kd.S_below (kS HO386.out) hb); have BK387 := ak (hbox); have GW387 := ak (ge_box hg (kB HB.out)); have GE387 := ak (ge_box hg (kB HB.out)); replace HB := ak (below_step (kB HB.out) hb); have NB350_387 := ak ((ne_box hg (kK BK350.out))); have NB387_350 := ak ((ne_box' hg (kK BK350.out))); replace BK350 := ak (blk_below (kK BK350.out) hb); have NB351_387 := ak ((ne_box hg (kK BK351.out))); have NB387_351 := ak ((ne_box' hg (kK BK351.out))); replace BK351 := ak (blk_below (kK BK351.out) hb); have NB373_387 := ak ((ne_box hg (kK BK373.out))); have NB387_373 := ak ((ne_box' hg (kK BK373.out))); replace BK373 := ak (blk_below (kK BK373.out) hb); have NB380_387 := ak ((ne_box hg (kK BK380.out))); have NB387_380 := ak ((ne_box' hg (kK BK380.out))); replace BK380 := ak (blk_below (kK BK380.out) hb); clear hb hbox hg; obtain ⟨Ao97, co97, eo97⟩ := Kd.R_slice HO383.out; subst eo97; have hnb98 := NB387_350.out; have hnc98 := NB350_387.out; have hnb99 := NB387_351.out; have hnc99 := NB351_387.out; have hnb100 := NB387_373.out; have hnc100 := NB373_387.out; have hnb101 := NB387_380.out; have hnc101 := NB380_387.out; have hcz102_0 : w96.cell? ⟨gb387, 0, none⟩ = some (.slice none 0 0) := (blk_cell BK387.out 0).trans rfl; have hcz102_1 : w96.cell? ⟨gb387, 1, none⟩ = some (.slice none 0 0) := (blk_cell BK387.out 1).trans rfl; have hfz102_0 := blk_frozen BK387.out 0; have hfz102_1 := blk_frozen BK387.out 1; obtain ⟨Ao103, co103, eo103⟩ := Kd.S_slice HO386.out; subst eo103; have hcz104_0 : w96.cell? ⟨gb380, 0, none⟩ = some (.slice Ao86 t374.length co86) := (blk_cell BK380.out 0).trans rfl; have hcz104_1 : w96.cell? ⟨gb380, 1, none⟩ = some (.slice Ao91 t377.length co91) := (blk_cell BK380.out 1).trans rfl; have hfz104_0 := blk_frozen BK380.out 0; have hfz104_1 := blk_frozen BK380.out 1) | ((with_reducible refine gate_callee (f := 28) rfl ?_); refine goesL_ (some 42) rfl rfl Try.func28 (by kernel_rfl) rfl #[.agg #[.slice Ao86 t374.length co86, .slice Ao91 t377.length co91], .agg #[.slice Ao97 t381.length co97, .slice Ao103 t384.length co103]] rfl (by (try simp only [List.map_toArray, List.map_cons, List.map_nil]); first | done | rfl | (simp only [List.length_drop, List.length_take]; rfl)) ?_; (with_reducible refine (impl_StackAlgebras.calls k _ _ t374 _ _ t377 _ _ t381 _ _ t384 t388 t391 t394 _ ?side1 ?side2 ?side3 ?side4 ?side5 ?side6 ?side7 ?side8 A27.out).mono ?_); (case side1 => refine (Kd.R_reads' (e := 3) (base := w.heap.size) (ok := fun k_ => ((True ∧ ag84 ≤ k_) ∧ k_ < ag95)) (n := t374.length) (c := co86) ?_).2.2; exact (kR (s2R HO376.out BK387.out))); (case side2 => exact (Kd.R_reads' HO376.out).2.1); (case side3 => refine (Kd.S_reads' (e := 22) (base := w.heap.size) (ok := fun k_ => ((some k_ ≠ (.slice Ao86 t374.length co86 : Value).ownBlock ∧ ag84 ≤ k_) ∧ k_ < ag95)) (n := t377.length) (c := co91) ?_).2.2; exact (kS (s2S HO379.out BK387.out))); (case side4 => exact (Kd.S_reads' HO379.out).2.1); (case side5 => refine (Kd.R_reads' (e := 3) (base := w.heap.size) (ok := fun k_ => (True ∧ ag95 ≤ k_)) (n := t381.length) (c := co97) ?_).2.2; exact (kR (s2R HO383.out BK387.out))); (case side6 => exact (Kd.R_reads' HO383.out).2.1); (case side7 => refine (Kd.S_reads' (e := 22) (base := w.heap.size) (ok := fun k_ => (some k_ ≠ (.slice Ao97 t381.length co97 : Value).ownBlock ∧ ag95 ≤ k_)) (n := t384.length) (c := co103) ?_).2.2; exact (kS (s2S HO386.out BK387.out))); (case side8 => exact (Kd.S_reads' HO386.out).2.1); rintro e w105 ⟨v389, v392, rfl, ho0, ho1, hb⟩; refine ⟨_, rfl, ?_⟩; obtain ⟨ag106, hag106⟩ := age_at hb; replace HO356 := ak (age_oldR (kR (s2R HO356.out BK387.out)) hb hag106.out); replace HO359 := ak (age_oldS (kS (s2S HO359.out BK387.out)) hb hag106.out); replace HO362 := ak (age_oldR (kR (s2R HO362.out BK387.out)) hb hag106.out); replace HO365 := ak (age_oldS (kS (s2S HO365.out BK387.out)) hb hag106.out); replace HO368 := ak (age_oldR (kR (s2R HO368.out BK387.out)) hb hag106.out); replace HO371 := ak (age_oldS (kS (s2S HO371.out BK387.out)) hb hag106.out); replace HO376 := ak (age_oldR (kR (s2R HO376.out BK387.out)) hb hag106.out); replace HO379 := ak (age_oldS (kS (s2S HO379.out BK387.out)) hb hag106.out); replace HO383 := ak (age_oldR (kR (s2R HO383.out BK387.out)) hb hag106.out); replace HO386 := ak (age_oldS (kS (s2S HO386.out BK387.out)) hb hag106.out); have HO390 := ak (Kd.R_lower (age_newR ho0 hag106.out) (below_size (by repeat (first | (with_reducible first | exact HB.out | refine below_set ?_ GE387.out) | exact HB.out)))); have HO393 := ak (Kd.S_lower (age_newS ho1 hag106.out) (below_size (by repeat (first | (with_reducible first | exact HB.out | refine below_set ?_ GE387.out) | exact HB.out)))); replace BK350 := ak (blk_below (kK (blk_far (blk_far BK350.out NB350_387.out _) NB350_387.out _)) hb); replace BK351 := ak (blk_below (kK (blk_far (blk_far BK351.out NB351_387.out _) NB351_387.out _)) hb); replace BK373 := ak (blk_below (kK (blk_far (blk_far BK373.out NB373_387.out _) NB373_387.out _)) hb); replace BK380 := ak (blk_below (kK (blk_far (blk_far BK380.out NB380_387.out _) NB380_387.out _)) hb); replace BK387 := ak (blk_below (g := gb387) (o := .cells #[.slice Ao97 t381.length co97, .slice Ao103 t384.length co103] 25 (0, 0)) (by refine blk_put (cs := #[.slice Ao97 t381.length co97, .slice none 0 0]) ?_ 1 _ rfl; refine blk_put (cs := #[.slice none 0 0, .slice none 0 0]) ?_ 0 _ rfl; exact BK387.out) hb); replace HB := ak (below_step (by repeat (first | (with_reducible first | exact HB.out | refine below_set ?_ GE387.out) | exact HB.out)) hb); (try clear hb); (try clear hb2); (try clear hk); (try clear hi); (try clear ho0); (try clear ho1)) | ((with_reducible refine gate_dst (N := 10) rfl ?_); refine box_event ?hg (N := 10) ?hd (cs := #[.slice none 0 0, .slice none 0 0]) (t := 25) ?hr ?_; (case hd => rfl); (case hg => rfl); (case hr => first | (go_simp; done) | (go_simp; rfl)); intro gb395 hg w107 hbox hb; replace HO356 := ak (Kd.R_below (kR HO356.out) hb); replace HO359 := ak (Kd.S_below (kS HO359.out) hb); replace HO362 := ak (Kd.R_below (kR HO362.out) hb); replace HO365 := ak (Kd.S_below (kS HO365.out) hb); replace HO368 := ak (Kd.R_below (kR HO368.out) hb); replace HO371 := ak (Kd.S_below (kS HO371.out) hb); replace HO376 := ak (Kd.R_below (kR HO376.out) hb); replace HO379 := ak (Kd.S_below (kS HO379.out) hb); replace HO383 := ak (Kd.R_below (kR HO383.out) hb); replace HO386 := ak (Kd.S_below (kS HO386.out) hb); replace HO390 := ak (Kd.R_below (kR HO390.out) hb); replace HO393 := ak (Kd.S_below (kS HO393.out) hb); have BK395 := ak (hbox); have GW395 := ak (ge_box hg (kB HB.out)); have GE395 := ak (ge_box hg (kB HB.out)); replace HB := ak (below_step (kB HB.out) hb); have NB350_395 := ak ((ne_box hg (kK BK350.out))); have NB395_350 := ak ((ne_box' hg (kK BK350.out))); replace BK350 := ak (blk_below (kK BK350.out) hb); have NB351_395 := ak ((ne_box hg (kK BK351.out))); have NB395_351 := ak ((ne_box' hg (kK BK351.out))); replace BK351 := ak (blk_below (kK BK351.out) hb); have NB373_395 := ak ((ne_box hg (kK BK373.out))); have NB395_373 := ak ((ne_box' hg (kK BK373.out))); replace BK373 := ak (blk_below (kK BK373.out) hb); have NB380_395 := ak ((ne_box hg (kK BK380.out))); have NB395_380 := ak ((ne_box' hg (kK BK380.out))); replace BK380 := ak (blk_below (kK BK380.out) hb); have NB387_395 := ak ((ne_box hg (kK BK387.out))); have NB395_387 := ak ((ne_box' hg (kK BK387.out))); replace BK387 := ak (blk_below (kK BK387.out) hb); clear hb hbox hg; obtain ⟨Ao108, co108, eo108⟩ := Kd.R_slice HO390.out; subst eo108; have hnb109 := NB395_350.out; have hnc109 := NB350_395.out; have hnb110 := NB395_351.out; have hnc110 := NB351_395.out; have hnb111 := NB395_373.out; have hnc111 := NB373_395.out; have hnb112 := NB395_380.out; have hnc112 := NB380_395.out; have hnb113 := NB395_387.out; have hnc113 := NB387_395.out; have hcz114_0 : w107.cell? ⟨gb395, 0, none⟩ = some (.slice none 0 0) := (blk_cell BK395.out 0).trans rfl; have hcz114_1 : w107.cell? ⟨gb395, 1, none⟩ = some (.slice none 0 0) := (blk_cell BK395.out 1).trans rfl; have hfz114_0 := blk_frozen BK395.out 0; have hfz114_1 := blk_frozen BK395.out 1; obtain ⟨Ao115, co115, eo115⟩ := Kd.S_slice HO393.out; subst eo115; have hcz116_0 : w107.cell? ⟨gb373, 0, none⟩ = some (.slice Ao77 t366.length co77) := (blk_cell BK373.out 0).trans rfl; have hcz116_1 : w107.cell? ⟨gb373, 1, none⟩ = some (.slice Ao79 t369.length co79) := (blk_cell BK373.out 1).trans rfl; have hfz116_0 := blk_frozen BK373.out 0; have hfz116_1 := blk_frozen BK373.out 1) | ((with_reducible refine gate_callee (f := 16) rfl ?_); refine goesL_ (some 47) rfl rfl Try.func16 (by kernel_rfl) rfl #[.agg #[.slice Ao108 t388.length co108, .slice Ao115 t391.length co115], .agg #[.slice Ao77 t366.length co77, .slice Ao79 t369.length co79]] rfl (by (try simp only [List.map_toArray, List.map_cons, List.map_nil]); first | done | rfl | (simp only [List.length_drop, List.length_take]; rfl)) ?_; (with_reducible refine (laws_eqAlgebra.calls k _ _ t388 _ _ t391 _ _ t366 _ _ t369 true _ ?side1 ?side2 ?side3 ?side4 ?side5 ?side6 ?side7 ?side8 A28.out).mono ?_); (case side1 => refine (Kd.R_reads' (e := 3) (base := w.heap.size) (ok := fun k_ => (True ∧ ag106 ≤ k_)) (n := t388.length) (c := co108) ?_).2.2; exact (kR (s2R HO390.out BK395.out))); (case side2 => exact (Kd.R_reads' HO390.out).2.1); (case side3 => refine (Kd.S_reads' (e := 22) (base := w.heap.size) (ok := fun k_ => (some k_ ≠ (.slice Ao108 t388.length co108 : Value).ownBlock ∧ ag106 ≤ k_)) (n := t391.length) (c := co115) ?_).2.2; exact (kS (s2S HO393.out BK395.out))); (case side4 => exact (Kd.S_reads' HO393.out).2.1); (case side5 => refine (Kd.R_reads' (e := 3) (base := w.heap.size) (ok := fun k_ => (((True ∧ k_ < ag84) ∧ k_ < ag95) ∧ k_ < ag106)) (n := t366.length) (c := co77) ?_).2.2; exact (kR (s2R HO368.out BK395.out))); (case side6 => exact (Kd.R_reads' HO368.out).2.1); (case side7 => refine (Kd.S_reads' (e := 22) (base := w.heap.size) (ok := fun k_ => (((some k_ ≠ (.slice Ao77 t366.length co77 : Value).ownBlock ∧ k_ < ag84) ∧ k_ < ag95) ∧ k_ < ag106)) (n := t369.length) (c := co79) ?_).2.2; exact (kS (s2S HO371.out BK395.out))); (case side8 => exact (Kd.S_reads' HO371.out).2.1); rintro e w117 ⟨rfl, hb⟩; refine ⟨_, rfl, ?_⟩; obtain ⟨ag118, hag118⟩ := age_at hb; replace HO356 := ak (age_oldR (kR (s2R HO356.out BK395.out)) hb hag118.out); replace HO359 := ak (age_oldS (kS (s2S HO359.out BK395.out)) hb hag118.out); replace HO362 := ak (age_oldR (kR (s2R HO362.out BK395.out)) hb hag118.out); replace HO365 := ak (age_oldS (kS (s2S HO365.out BK395.out)) hb hag118.out); replace HO368 := ak (age_oldR (kR (s2R HO368.out BK395.out)) hb hag118.out); replace HO371 := ak (age_oldS (kS (s2S HO371.out BK395.out)) hb hag118.out); replace HO376 := ak (age_oldR (kR (s2R HO376.out BK395.out)) hb hag118.out); replace HO379 := ak (age_oldS (kS (s2S HO379.out BK395.out)) hb hag118.out); replace HO383 := ak (age_oldR (kR (s2R HO383.out BK395.out)) hb hag118.out); replace HO386 := ak (age_oldS (kS (s2S HO386.out BK395.out)) hb hag118.out); replace HO390 := ak (age_oldR (kR (s2R HO390.out BK395.out)) hb hag118.out); replace HO393 := ak (age_oldS (kS (s2S HO393.out BK395.out)) hb hag118.out); replace BK350 := ak (blk_below (kK (blk_far (blk_far BK350.out NB350_395.out _) NB350_395.out _)) hb); replace BK351 := ak (blk_below (kK (blk_far (blk_far BK351.out NB351_395.out _) NB351_395.out _)) hb); replace BK373 := ak (blk_below (kK (blk_far (blk_far BK373.out NB373_395.out _) NB373_395.out _)) hb); replace BK380 := ak (blk_below (kK (blk_far (blk_far BK380.out NB380_395.out _) NB380_395.out _)) hb); replace BK387 := ak (blk_below (kK (blk_far (blk_far BK387.out NB387_395.out _) NB387_395.out _)) hb); replace BK395 := ak (blk_below (g := gb395) (o := .cells #[.slice Ao108 t388.length co108, .slice Ao115 t391.length co115] 25 (0, 0)) (by refine blk_put (cs := #[.slice Ao108 t388.length co108, .slice none 0 0]) ?_ 1 _ rfl; refine blk_put (cs := #[.slice none 0 0, .slice none 0 0]) ?_ 0 _ rfl; exact BK395.out) hb); replace HB := ak (below_step (by repeat (first | (with_reducible first | exact HB.out | refine below_set ?_ GE395.out) | exact HB.out)) hb); (try clear hb); (try clear hb2); (try clear hk); (try clear hi)))
 replace HO356 := ak (Kd.R_drew HO356.out)
 replace HO359 := ak (Kd.S_drew HO359.out)
 replace HO362 := ak (Kd.R_drew HO362.out)
 replace HO365 := ak (Kd.S_drew HO365.out)
 replace HO368 := ak (Kd.R_drew HO368.out)
 replace HO371 := ak (Kd.S_drew HO371.out)
 replace HO376 := ak (Kd.R_drew HO376.out)
 replace HO379 := ak (Kd.S_drew HO379.out)
 replace HO383 := ak (Kd.R_drew HO383.out)
 replace HO386 := ak (Kd.S_drew HO386.out)
 replace HO390 := ak (Kd.R_drew HO390.out)
 replace HO393 := ak (Kd.S_drew HO393.out)
 replace BK350 := ak (blk_drew BK350.out)
 replace BK351 := ak (blk_drew BK351.out)
 replace BK373 := ak (blk_drew BK373.out)
 replace BK380 := ak (blk_drew BK380.out)
 replace BK387 := ak (blk_drew BK387.out)
 replace BK395 := ak (blk_drew BK395.out)
 replace HB := ak (below_drew1 HB.out)
 refine start_ (n := 5) (S := fun w' => w'.cell? ⟨gb380, 0, none⟩ = some (.slice Ao86 t374.length co86) ∧ w'.cell? ⟨gb380, 1, none⟩ = some (.slice Ao91 t377.length co91) ∧ w'.cell? ⟨gb350, 0, none⟩ = some (.slice A0_0 l0_0.length c0_0) ∧ w'.cell? ⟨gb350, 1, none⟩ = some (.slice A0_1 l0_1.length c0_1)) (ds := []) #[false, false, false, false, false] (by kernel_rfl) rfl rfl ⟨(blk_cell BK380.out 0).trans rfl, (blk_cell BK380.out 1).trans rfl, (blk_cell BK350.out 0).trans rfl, (blk_cell BK350.out 1).trans rfl⟩ (fun hHeld => ?_)
 generalize w117.drew = w119 at HO356 HO359 HO362 HO365 HO368 HO371 HO376 HO379 HO383 HO386 HO390 HO393 BK350 BK351 BK373 BK380 BK387 BK395 HB hHeld ⊢
 refine take_ (i := 0) (N := some 54) (v := ?_) (a' := ?_) #[true, false, false, false, false] rfl rfl (by kernel_rfl) (fun _ _ _ h => h) (Or.inl ⟨by rfl, ?_⟩) hHeld ?_ ?_
 rotate_left
 ·rintro w' ⟨s0, s1, s2, s3⟩
  go_simp
  with_reducible rfl
 rotate_left
 ·simp only [Act.put, List.setIfInBounds_toArray, List.set_cons_zero, List.set_cons_succ, i64_w, i32_w]
  rfl
 refine take_ (i := 1) (N := some 55) (v := ?_) (a' := ?_) #[true, true, false, false, false] rfl rfl (by kernel_rfl) (fun _ _ _ h => h) (Or.inl ⟨by rfl, ?_⟩) hHeld ?_ ?_
 rotate_left
 ·rintro w' ⟨s0, s1, s2, s3⟩
  go_simp
  with_reducible rfl
 rotate_left
 ·simp only [Act.put, List.setIfInBounds_toArray, List.set_cons_zero, List.set_cons_succ, i64_w, i32_w]
  rfl
 refine one_ (i := 2) (N := some 56) #[true, true, true, false, false] rfl rfl (by kernel_rfl) (by decide) (fun K hK => ?_)
 refine goes_ Try.func25 (by kernel_rfl) rfl #[.agg #[.slice A0_0 l0_0.length c0_0, .slice A0_1 l0_1.length c0_1]] (by rfl) rfl rfl (by (try simp only [List.map_toArray, List.map_cons, List.map_nil]); first | done | rfl | (simp only [List.length_drop, List.length_take]; rfl)) ?_
 with_reducible refine (laws_toAlgebra.calls k _ _ l0_0 _ _ l0_1 t397 t400 _ ?side1 ?side2 ?side3 ?side4 A31.out).mono ?_
 (case side1 => exact kC (Kd.C_below HR0_0.out HB.out))
 (case side2 => exact HC0_0.out)
 (case side3 => exact kC (Kd.C_below HR0_1.out HB.out))
 (case side4 => exact HC0_1.out)
 rintro e w120 ⟨v398, v401, rfl, ho0, ho1, hb⟩
 refine ⟨_, rfl, ?_⟩
 obtain ⟨ag121, hag121⟩ := age_at hb
 replace HO356 := ak (age_oldR (kR HO356.out) hb hag121.out)
 replace HO359 := ak (age_oldS (kS HO359.out) hb hag121.out)
 replace HO362 := ak (age_oldR (kR HO362.out) hb hag121.out)
 replace HO365 := ak (age_oldS (kS HO365.out) hb hag121.out)
 replace HO368 := ak (age_oldR (kR HO368.out) hb hag121.out)
 replace HO371 := ak (age_oldS (kS HO371.out) hb hag121.out)
 replace HO376 := ak (age_oldR (kR HO376.out) hb hag121.out)
 replace HO379 := ak (age_oldS (kS HO379.out) hb hag121.out)
 replace HO383 := ak (age_oldR (kR HO383.out) hb hag121.out)
 replace HO386 := ak (age_oldS (kS HO386.out) hb hag121.out)
 replace HO390 := ak (age_oldR (kR HO390.out) hb hag121.out)
 replace HO393 := ak (age_oldS (kS HO393.out) hb hag121.out)
 have HO399 := ak (Kd.R_lower (age_newR ho0 hag121.out) (below_size (kB HB.out)))
 have HO402 := ak (Kd.S_lower (age_newS ho1 hag121.out) (below_size (kB HB.out)))
 replace BK350 := ak (blk_below (kK BK350.out) hb)
 replace BK351 := ak (blk_below (kK BK351.out) hb)
 replace BK373 := ak (blk_below (kK BK373.out) hb)
 replace BK380 := ak (blk_below (kK BK380.out) hb)
 replace BK387 := ak (blk_below (kK BK387.out) hb)
 replace BK395 := ak (blk_below (kK BK395.out) hb)
 replace HB := ak (below_step (kB HB.out) hb)
 (try clear hb)
 (try clear hb2)
 (try clear hk)
 (try clear hi)
 (try clear ho0)
 (try clear ho1)
 obtain ⟨Ao122, co122, eo122⟩ := Kd.R_slice HO399.out
 (first | subst eo122 | (injection eo122 with f1_ f2_ f3_; have f4_ := f1_.symm; have f5_ := f3_.symm; clear f1_ f2_ f3_; subst f4_; subst f5_))
 obtain ⟨Ao123, co123, eo123⟩ := Kd.S_slice HO402.out
 (first | subst eo123 | (injection eo123 with f1_ f2_ f3_; have f4_ := f1_.symm; have f5_ := f3_.symm; clear f1_ f2_ f3_; subst f4_; subst f5_))
 refine hK.out _ _ ⟨(blk_cell BK380.out 0).trans rfl, (blk_cell BK380.out 1).trans rfl, (blk_cell BK350.out 0).trans rfl, (blk_cell BK350.out 1).trans rfl⟩ (fun hHeld => ?_)
 clear hK K
 refine norm_ (a' := ?_) ?_ ?_
 rotate_left
 ·show Act.put _ (some 56) _ = _
  simp only [Act.put, List.setIfInBounds_toArray, List.set_cons_zero, List.set_cons_succ, i64_w, i32_w]
  rfl
 refine one_ (i := 3) (N := some 57) #[true, true, true, true, false] rfl rfl (by kernel_rfl) (by decide) (fun K hK => ?_)
 refine goes_ Try.func16 (by kernel_rfl) rfl #[.agg #[.slice Ao86 t374.length co86, .slice Ao91 t377.length co91], .agg #[.slice Ao122 t397.length co122, .slice Ao123 t400.length co123]] (by rfl) rfl rfl (by (try simp only [List.map_toArray, List.map_cons, List.map_nil]); first | done | rfl | (simp only [List.length_drop, List.length_take]; rfl)) ?_
 with_reducible refine (laws_eqAlgebra.calls k _ _ t374 _ _ t377 _ _ t397 _ _ t400 true _ ?side1 ?side2 ?side3 ?side4 ?side5 ?side6 ?side7 ?side8 A32.out).mono ?_
 (case side1 => exact kC (Kd.R_reads' HO376.out).2.2)
 (case side2 => exact (Kd.R_reads' HO376.out).2.1)
 (case side3 => exact kC (Kd.S_reads' HO379.out).2.2)
 (case side4 => exact (Kd.S_reads' HO379.out).2.1)
 (case side5 => exact kC (Kd.R_reads' HO399.out).2.2)
 (case side6 => exact (Kd.R_reads' HO399.out).2.1)
 (case side7 => exact kC (Kd.S_reads' HO402.out).2.2)
 (case side8 => exact (Kd.S_reads' HO402.out).2.1)
 rintro e w124 ⟨rfl, hb⟩
 refine ⟨_, rfl, ?_⟩
 obtain ⟨ag125, hag125⟩ := age_at hb
 replace HO356 := ak (age_oldR (kR HO356.out) hb hag125.out)
 replace HO359 := ak (age_oldS (kS HO359.out) hb hag125.out)
 replace HO362 := ak (age_oldR (kR HO362.out) hb hag125.out)
 replace HO365 := ak (age_oldS (kS HO365.out) hb hag125.out)
 replace HO368 := ak (age_oldR (kR HO368.out) hb hag125.out)
 replace HO371 := ak (age_oldS (kS HO371.out) hb hag125.out)
 replace HO376 := ak (age_oldR (kR HO376.out) hb hag125.out)
 replace HO379 := ak (age_oldS (kS HO379.out) hb hag125.out)
 replace HO383 := ak (age_oldR (kR HO383.out) hb hag125.out)
 replace HO386 := ak (age_oldS (kS HO386.out) hb hag125.out)
 replace HO390 := ak (age_oldR (kR HO390.out) hb hag125.out)
 replace HO393 := ak (age_oldS (kS HO393.out) hb hag125.out)
 replace HO399 := ak (age_oldR (kR HO399.out) hb hag125.out)
 replace HO402 := ak (age_oldS (kS HO402.out) hb hag125.out)
 replace BK350 := ak (blk_below (kK BK350.out) hb)
 replace BK351 := ak (blk_below (kK BK351.out) hb)
 replace BK373 := ak (blk_below (kK BK373.out) hb)
 replace BK380 := ak (blk_below (kK BK380.out) hb)
 replace BK387 := ak (blk_below (kK BK387.out) hb)
 replace BK395 := ak (blk_below (kK BK395.out) hb)
 replace HB := ak (below_step (kB HB.out) hb)
 (try clear hb)
 (try clear hb2)
 (try clear hk)
 (try clear hi)
 refine hK.out _ _ ⟨(blk_cell BK380.out 0).trans rfl, (blk_cell BK380.out 1).trans rfl, (blk_cell BK350.out 0).trans rfl, (blk_cell BK350.out 1).trans rfl⟩ (fun hHeld => ?_)
 clear hK K
 refine norm_ (a' := ?_) ?_ ?_
 rotate_left
 ·show Act.put _ (some 57) _ = _
  simp only [Act.put, List.setIfInBounds_toArray, List.set_cons_zero, List.set_cons_succ, i64_w, i32_w]
  rfl
 refine pure_ (i := 4) (N := some 58) (v := ?_) (a' := ?_) #[true, true, true, true, true] rfl rfl (by kernel_rfl) (fun _ _ _ h => h) (Or.inl ⟨by rfl, ?_⟩) ?_ ?_
 rotate_left
 ·intro w'
  go_simp
  with_reducible rfl
 rotate_left
 ·simp only [Act.put, List.setIfInBounds_toArray, List.set_cons_zero, List.set_cons_succ, i64_w, i32_w]
  rfl
 refine done_ (by kernel_rfl) ?_
 try go_wp2
 replace HO356 := ak (Kd.R_drew HO356.out)
 replace HO359 := ak (Kd.S_drew HO359.out)
 replace HO362 := ak (Kd.R_drew HO362.out)
 replace HO365 := ak (Kd.S_drew HO365.out)
 replace HO368 := ak (Kd.R_drew HO368.out)
 replace HO371 := ak (Kd.S_drew HO371.out)
 replace HO376 := ak (Kd.R_drew HO376.out)
 replace HO379 := ak (Kd.S_drew HO379.out)
 replace HO383 := ak (Kd.R_drew HO383.out)
 replace HO386 := ak (Kd.S_drew HO386.out)
 replace HO390 := ak (Kd.R_drew HO390.out)
 replace HO393 := ak (Kd.S_drew HO393.out)
 replace HO399 := ak (Kd.R_drew HO399.out)
 replace HO402 := ak (Kd.S_drew HO402.out)
 replace BK350 := ak (blk_drew BK350.out)
 replace BK351 := ak (blk_drew BK351.out)
 replace BK373 := ak (blk_drew BK373.out)
 replace BK380 := ak (blk_drew BK380.out)
 replace BK387 := ak (blk_drew BK387.out)
 replace BK395 := ak (blk_drew BK395.out)
 replace HB := ak (below_drew1 HB.out)
 refine start_ (n := 5) (S := fun w' => w'.cell? ⟨gb387, 0, none⟩ = some (.slice Ao97 t381.length co97) ∧ w'.cell? ⟨gb387, 1, none⟩ = some (.slice Ao103 t384.length co103) ∧ w'.cell? ⟨gb351, 0, none⟩ = some (.slice A1_0 l1_0.length c1_0) ∧ w'.cell? ⟨gb351, 1, none⟩ = some (.slice A1_1 l1_1.length c1_1)) (ds := []) #[false, false, false, false, false] (by kernel_rfl) rfl rfl ⟨(blk_cell BK387.out 0).trans rfl, (blk_cell BK387.out 1).trans rfl, (blk_cell BK351.out 0).trans rfl, (blk_cell BK351.out 1).trans rfl⟩ (fun hHeld => ?_)
 generalize w124.drew = w126 at HO356 HO359 HO362 HO365 HO368 HO371 HO376 HO379 HO383 HO386 HO390 HO393 HO399 HO402 BK350 BK351 BK373 BK380 BK387 BK395 HB hHeld ⊢
 refine take_ (i := 0) (N := some 59) (v := ?_) (a' := ?_) #[true, false, false, false, false] rfl rfl (by kernel_rfl) (fun _ _ _ h => h) (Or.inl ⟨by rfl, ?_⟩) hHeld ?_ ?_
 rotate_left
 ·rintro w' ⟨s0, s1, s2, s3⟩
  go_simp
  with_reducible rfl
 rotate_left
 ·simp only [Act.put, List.setIfInBounds_toArray, List.set_cons_zero, List.set_cons_succ, i64_w, i32_w]
  rfl
 refine take_ (i := 1) (N := some 60) (v := ?_) (a' := ?_) #[true, true, false, false, false] rfl rfl (by kernel_rfl) (fun _ _ _ h => h) (Or.inl ⟨by rfl, ?_⟩) hHeld ?_ ?_
 rotate_left
 ·rintro w' ⟨s0, s1, s2, s3⟩
  go_simp
  with_reducible rfl
 rotate_left
 ·simp only [Act.put, List.setIfInBounds_toArray, List.set_cons_zero, List.set_cons_succ, i64_w, i32_w]
  rfl
 refine one_ (i := 2) (N := some 61) #[true, true, true, false, false] rfl rfl (by kernel_rfl) (by decide) (fun K hK => ?_)
 refine goes_ Try.func25 (by kernel_rfl) rfl #[.agg #[.slice A1_0 l1_0.length c1_0, .slice A1_1 l1_1.length c1_1]] (by rfl) rfl rfl (by (try simp only [List.map_toArray, List.map_cons, List.map_nil]); first | done | rfl | (simp only [List.length_drop, List.length_take]; rfl)) ?_
 with_reducible refine (laws_toAlgebra.calls k _ _ l1_0 _ _ l1_1 t404 t407 _ ?side1 ?side2 ?side3 ?side4 A34.out).mono ?_
 (case side1 => exact kC (Kd.C_below HR1_0.out HB.out))
 (case side2 => exact HC1_0.out)
 (case side3 => exact kC (Kd.C_below HR1_1.out HB.out))
 (case side4 => exact HC1_1.out)
 rintro e w127 ⟨v405, v408, rfl, ho0, ho1, hb⟩
 refine ⟨_, rfl, ?_⟩
 obtain ⟨ag128, hag128⟩ := age_at hb
 replace HO356 := ak (age_oldR (kR HO356.out) hb hag128.out)
 replace HO359 := ak (age_oldS (kS HO359.out) hb hag128.out)
 replace HO362 := ak (age_oldR (kR HO362.out) hb hag128.out)
 replace HO365 := ak (age_oldS (kS HO365.out) hb hag128.out)
 replace HO368 := ak (age_oldR (kR HO368.out) hb hag128.out)
 replace HO371 := ak (age_oldS (kS HO371.out) hb hag128.out)
 replace HO376 := ak (age_oldR (kR HO376.out) hb hag128.out)
 replace HO379 := ak (age_oldS (kS HO379.out) hb hag128.out)
 replace HO383 := ak (age_oldR (kR HO383.out) hb hag128.out)
 replace HO386 := ak (age_oldS (kS HO386.out) hb hag128.out)
 replace HO390 := ak (age_oldR (kR HO390.out) hb hag128.out)
 replace HO393 := ak (age_oldS (kS HO393.out) hb hag128.out)
 replace HO399 := ak (age_oldR (kR HO399.out) hb hag128.out)
 replace HO402 := ak (age_oldS (kS HO402.out) hb hag128.out)
 have HO406 := ak (Kd.R_lower (age_newR ho0 hag128.out) (below_size (kB HB.out)))
 have HO409 := ak (Kd.S_lower (age_newS ho1 hag128.out) (below_size (kB HB.out)))
 replace BK350 := ak (blk_below (kK BK350.out) hb)
 replace BK351 := ak (blk_below (kK BK351.out) hb)
 replace BK373 := ak (blk_below (kK BK373.out) hb)
 replace BK380 := ak (blk_below (kK BK380.out) hb)
 replace BK387 := ak (blk_below (kK BK387.out) hb)
 replace BK395 := ak (blk_below (kK BK395.out) hb)
 replace HB := ak (below_step (kB HB.out) hb)
 (try clear hb)
 (try clear hb2)
 (try clear hk)
 (try clear hi)
 (try clear ho0)
 (try clear ho1)
 obtain ⟨Ao129, co129, eo129⟩ := Kd.R_slice HO406.out
 (first | subst eo129 | (injection eo129 with f1_ f2_ f3_; have f4_ := f1_.symm; have f5_ := f3_.symm; clear f1_ f2_ f3_; subst f4_; subst f5_))
 obtain ⟨Ao130, co130, eo130⟩ := Kd.S_slice HO409.out
 (first | subst eo130 | (injection eo130 with f1_ f2_ f3_; have f4_ := f1_.symm; have f5_ := f3_.symm; clear f1_ f2_ f3_; subst f4_; subst f5_))
 refine hK.out _ _ ⟨(blk_cell BK387.out 0).trans rfl, (blk_cell BK387.out 1).trans rfl, (blk_cell BK351.out 0).trans rfl, (blk_cell BK351.out 1).trans rfl⟩ (fun hHeld => ?_)
 clear hK K
 refine norm_ (a' := ?_) ?_ ?_
 rotate_left
 ·show Act.put _ (some 61) _ = _
  simp only [Act.put, List.setIfInBounds_toArray, List.set_cons_zero, List.set_cons_succ, i64_w, i32_w]
  rfl
 refine one_ (i := 3) (N := some 62) #[true, true, true, true, false] rfl rfl (by kernel_rfl) (by decide) (fun K hK => ?_)
 refine goes_ Try.func16 (by kernel_rfl) rfl #[.agg #[.slice Ao97 t381.length co97, .slice Ao103 t384.length co103], .agg #[.slice Ao129 t404.length co129, .slice Ao130 t407.length co130]] (by rfl) rfl rfl (by (try simp only [List.map_toArray, List.map_cons, List.map_nil]); first | done | rfl | (simp only [List.length_drop, List.length_take]; rfl)) ?_
 with_reducible refine (laws_eqAlgebra.calls k _ _ t381 _ _ t384 _ _ t404 _ _ t407 true _ ?side1 ?side2 ?side3 ?side4 ?side5 ?side6 ?side7 ?side8 A35.out).mono ?_
 (case side1 => exact kC (Kd.R_reads' HO383.out).2.2)
 (case side2 => exact (Kd.R_reads' HO383.out).2.1)
 (case side3 => exact kC (Kd.S_reads' HO386.out).2.2)
 (case side4 => exact (Kd.S_reads' HO386.out).2.1)
 (case side5 => exact kC (Kd.R_reads' HO406.out).2.2)
 (case side6 => exact (Kd.R_reads' HO406.out).2.1)
 (case side7 => exact kC (Kd.S_reads' HO409.out).2.2)
 (case side8 => exact (Kd.S_reads' HO409.out).2.1)
 rintro e w131 ⟨rfl, hb⟩
 refine ⟨_, rfl, ?_⟩
 obtain ⟨ag132, hag132⟩ := age_at hb
 replace HO356 := ak (age_oldR (kR HO356.out) hb hag132.out)
 replace HO359 := ak (age_oldS (kS HO359.out) hb hag132.out)
 replace HO362 := ak (age_oldR (kR HO362.out) hb hag132.out)
 replace HO365 := ak (age_oldS (kS HO365.out) hb hag132.out)
 replace HO368 := ak (age_oldR (kR HO368.out) hb hag132.out)
 replace HO371 := ak (age_oldS (kS HO371.out) hb hag132.out)
 replace HO376 := ak (age_oldR (kR HO376.out) hb hag132.out)
 replace HO379 := ak (age_oldS (kS HO379.out) hb hag132.out)
 replace HO383 := ak (age_oldR (kR HO383.out) hb hag132.out)
 replace HO386 := ak (age_oldS (kS HO386.out) hb hag132.out)
 replace HO390 := ak (age_oldR (kR HO390.out) hb hag132.out)
 replace HO393 := ak (age_oldS (kS HO393.out) hb hag132.out)
 replace HO399 := ak (age_oldR (kR HO399.out) hb hag132.out)
 replace HO402 := ak (age_oldS (kS HO402.out) hb hag132.out)
 replace HO406 := ak (age_oldR (kR HO406.out) hb hag132.out)
 replace HO409 := ak (age_oldS (kS HO409.out) hb hag132.out)
 replace BK350 := ak (blk_below (kK BK350.out) hb)
 replace BK351 := ak (blk_below (kK BK351.out) hb)
 replace BK373 := ak (blk_below (kK BK373.out) hb)
 replace BK380 := ak (blk_below (kK BK380.out) hb)
 replace BK387 := ak (blk_below (kK BK387.out) hb)
 replace BK395 := ak (blk_below (kK BK395.out) hb)
 replace HB := ak (below_step (kB HB.out) hb)
 (try clear hb)
 (try clear hb2)
 (try clear hk)
 (try clear hi)
 refine hK.out _ _ ⟨(blk_cell BK387.out 0).trans rfl, (blk_cell BK387.out 1).trans rfl, (blk_cell BK351.out 0).trans rfl, (blk_cell BK351.out 1).trans rfl⟩ (fun hHeld => ?_)
 clear hK K
 refine norm_ (a' := ?_) ?_ ?_
 rotate_left
 ·show Act.put _ (some 62) _ = _
  simp only [Act.put, List.setIfInBounds_toArray, List.set_cons_zero, List.set_cons_succ, i64_w, i32_w]
  rfl
 refine pure_ (i := 4) (N := some 63) (v := ?_) (a' := ?_) #[true, true, true, true, true] rfl rfl (by kernel_rfl) (fun _ _ _ h => h) (Or.inl ⟨by rfl, ?_⟩) ?_ ?_
 rotate_left
 ·intro w'
  go_simp
  with_reducible rfl
 rotate_left
 ·simp only [Act.put, List.setIfInBounds_toArray, List.set_cons_zero, List.set_cons_succ, i64_w, i32_w]
  rfl
 refine done_ (by kernel_rfl) ?_
 have hcz133_0 : w131.cell? ⟨gb380, 0, none⟩ = some (.slice Ao86 t374.length co86) := (blk_cell BK380.out 0).trans rfl
 have hcz133_1 : w131.cell? ⟨gb380, 1, none⟩ = some (.slice Ao91 t377.length co91) := (blk_cell BK380.out 1).trans rfl
 have hfz133_0 := blk_frozen BK380.out 0
 have hfz133_1 := blk_frozen BK380.out 1
 try go_wp2_with (first | ((with_reducible refine gate_callee (f := 19) rfl ?_); refine goesL_ (some 66) rfl rfl Try.func19 (by kernel_rfl) rfl #[.agg #[.slice Ao86 t374.length co86, .slice Ao91 t377.length co91], .int .i64 1] rfl (by (try simp only [List.map_toArray, List.map_cons, List.map_nil]); first | done | rfl | (simp only [List.length_drop, List.length_take]; rfl)) ?_; (with_reducible refine (laws_markAlgebra.calls k (fun k_ => some k_ = (.slice Ao86 t374.length co86 : Value).ownBlock) (.slice Ao86 t374.length co86) t374 (fun k_ => ((((((((((((((some k_ ≠ (.slice Ao86 t374.length co86 : Value).ownBlock ∧ ag84 ≤ k_) ∧ k_ < ag95) ∧ k_ < ag106) ∧ k_ < ag118) ∧ k_ < ag121) ∧ k_ < ag125) ∧ k_ < ag128) ∧ k_ < ag132) ∧ k_ ≠ gb350) ∧ k_ ≠ gb351) ∧ k_ ≠ gb373) ∧ k_ ≠ gb380) ∧ k_ ≠ gb387) ∧ k_ ≠ gb395)) (.slice Ao91 t377.length co91) t377 1 t411 t412 t413 w _ ?side1 ?side2 ?side3 ?side4 A37.out).mono ?_); (case side1 => exact bB HB.out); (case side2 => exact Kd.R_tight rfl (kR HO376.out)); (case side3 => exact (kS (Kd.S_types (Kd.S_types (Kd.S_types (Kd.S_types (Kd.S_types (Kd.S_types (HO379.out) BK350.out (by decide)) BK351.out (by decide)) BK373.out (by decide)) BK380.out (by decide)) BK387.out (by decide)) BK395.out (by decide)))); (case side4 => exact fun k_ e_ h_ => (h_.1.1.1.1.1.1.1.1.1.1.1.1.1.1) e_.symm); rintro e w134 ⟨rfl, hy0, hy1, hb, hkp⟩; refine ⟨_, rfl, ?_⟩; replace BK350 := ak (blk_kept (kK BK350.out) hkp (fun hs_ => Or.elim hs_ (fun hs_ => (Kd.R_ne HO376.out BK350.out (by decide)) hs_) (fun hs_ => (hs_.1.1.1.1.1.2) rfl))); replace BK351 := ak (blk_kept (kK BK351.out) hkp (fun hs_ => Or.elim hs_ (fun hs_ => (Kd.R_ne HO376.out BK351.out (by decide)) hs_) (fun hs_ => (hs_.1.1.1.1.2) rfl))); replace HO356 := ak (Kd.R_mono (Kd.R_kept (Kd.R_tight2 rfl (kR HO356.out)) hkp (fun k_ (hk_ : some k_ = (v355 : Value).ownBlock ∧ ((((((((True ∧ k_ < ag84) ∧ k_ < ag95) ∧ k_ < ag106) ∧ k_ < ag118) ∧ k_ < ag121) ∧ k_ < ag125) ∧ k_ < ag128) ∧ k_ < ag132)) hs_ => Or.elim hs_ (fun hs_ => Nat.not_lt.2 ((HO376.out.1 k_ hs_.symm).1.1.1.1.1.1.1.2) (hk_.2.1.1.1.1.1.1.1.2)) (fun hs_ => Nat.not_lt.2 (hs_.1.1.1.1.1.1.1.1.1.1.1.1.1.2) (hk_.2.1.1.1.1.1.1.1.2)))) (fun _ h_ => h_.2)); replace HO359 := ak (Kd.S_kept (kS HO359.out) hkp (fun k_ (hk_ : ((((((((some k_ ≠ (v355 : Value).ownBlock ∧ k_ < ag84) ∧ k_ < ag95) ∧ k_ < ag106) ∧ k_ < ag118) ∧ k_ < ag121) ∧ k_ < ag125) ∧ k_ < ag128) ∧ k_ < ag132)) hs_ => Or.elim hs_ (fun hs_ => Nat.not_lt.2 ((HO376.out.1 k_ hs_.symm).1.1.1.1.1.1.1.2) (hk_.1.1.1.1.1.1.1.2)) (fun hs_ => Nat.not_lt.2 (hs_.1.1.1.1.1.1.1.1.1.1.1.1.1.2) (hk_.1.1.1.1.1.1.1.2)))); replace HO362 := ak (Kd.R_mono (Kd.R_kept (Kd.R_tight2 rfl (kR HO362.out)) hkp (fun k_ (hk_ : some k_ = (v361 : Value).ownBlock ∧ ((((((((True ∧ k_ < ag84) ∧ k_ < ag95) ∧ k_ < ag106) ∧ k_ < ag118) ∧ k_ < ag121) ∧ k_ < ag125) ∧ k_ < ag128) ∧ k_ < ag132)) hs_ => Or.elim hs_ (fun hs_ => Nat.not_lt.2 ((HO376.out.1 k_ hs_.symm).1.1.1.1.1.1.1.2) (hk_.2.1.1.1.1.1.1.1.2)) (fun hs_ => Nat.not_lt.2 (hs_.1.1.1.1.1.1.1.1.1.1.1.1.1.2) (hk_.2.1.1.1.1.1.1.1.2)))) (fun _ h_ => h_.2)); replace HO365 := ak (Kd.S_kept (kS HO365.out) hkp (fun k_ (hk_ : ((((((((some k_ ≠ (v361 : Value).ownBlock ∧ k_ < ag84) ∧ k_ < ag95) ∧ k_ < ag106) ∧ k_ < ag118) ∧ k_ < ag121) ∧ k_ < ag125) ∧ k_ < ag128) ∧ k_ < ag132)) hs_ => Or.elim hs_ (fun hs_ => Nat.not_lt.2 ((HO376.out.1 k_ hs_.symm).1.1.1.1.1.1.1.2) (hk_.1.1.1.1.1.1.1.2)) (fun hs_ => Nat.not_lt.2 (hs_.1.1.1.1.1.1.1.1.1.1.1.1.1.2) (hk_.1.1.1.1.1.1.1.2)))); replace HO368 := ak (Kd.R_mono (Kd.R_kept (Kd.R_tight2 rfl (kR HO368.out)) hkp (fun k_ (hk_ : some k_ = (.slice Ao77 t366.length co77 : Value).ownBlock ∧ ((((((((True ∧ k_ < ag84) ∧ k_ < ag95) ∧ k_ < ag106) ∧ k_ < ag118) ∧ k_ < ag121) ∧ k_ < ag125) ∧ k_ < ag128) ∧ k_ < ag132)) hs_ => Or.elim hs_ (fun hs_ => Nat.not_lt.2 ((HO376.out.1 k_ hs_.symm).1.1.1.1.1.1.1.2) (hk_.2.1.1.1.1.1.1.1.2)) (fun hs_ => Nat.not_lt.2 (hs_.1.1.1.1.1.1.1.1.1.1.1.1.1.2) (hk_.2.1.1.1.1.1.1.1.2)))) (fun _ h_ => h_.2)); replace HO371 := ak (Kd.S_kept (kS HO371.out) hkp (fun k_ (hk_ : ((((((((some k_ ≠ (.slice Ao77 t366.length co77 : Value).ownBlock ∧ k_ < ag84) ∧ k_ < ag95) ∧ k_ < ag106) ∧ k_ < ag118) ∧ k_ < ag121) ∧ k_ < ag125) ∧ k_ < ag128) ∧ k_ < ag132)) hs_ => Or.elim hs_ (fun hs_ => Nat.not_lt.2 ((HO376.out.1 k_ hs_.symm).1.1.1.1.1.1.1.2) (hk_.1.1.1.1.1.1.1.2)) (fun hs_ => Nat.not_lt.2 (hs_.1.1.1.1.1.1.1.1.1.1.1.1.1.2) (hk_.1.1.1.1.1.1.1.2)))); replace BK373 := ak (blk_kept (kK BK373.out) hkp (fun hs_ => Or.elim hs_ (fun hs_ => (Kd.R_ne HO376.out BK373.out (by decide)) hs_) (fun hs_ => (hs_.1.1.1.2) rfl))); replace HO379 := ak (hy1); replace BK380 := ak (blk_kept (kK BK380.out) hkp (fun hs_ => Or.elim hs_ (fun hs_ => (Kd.R_ne HO376.out BK380.out (by decide)) hs_) (fun hs_ => (hs_.1.1.2) rfl))); replace HO383 := ak (Kd.R_mono (Kd.R_kept (Kd.R_tight2 rfl (kR HO383.out)) hkp (fun k_ (hk_ : some k_ = (.slice Ao97 t381.length co97 : Value).ownBlock ∧ (((((((True ∧ ag95 ≤ k_) ∧ k_ < ag106) ∧ k_ < ag118) ∧ k_ < ag121) ∧ k_ < ag125) ∧ k_ < ag128) ∧ k_ < ag132)) hs_ => Or.elim hs_ (fun hs_ => Nat.not_lt.2 (hk_.2.1.1.1.1.1.1.2) ((HO376.out.1 k_ hs_.symm).1.1.1.1.1.1.2)) (fun hs_ => Nat.not_lt.2 (hk_.2.1.1.1.1.1.1.2) (hs_.1.1.1.1.1.1.1.1.1.1.1.1.2)))) (fun _ h_ => h_.2)); replace HO386 := ak (Kd.S_kept (kS HO386.out) hkp (fun k_ (hk_ : (((((((some k_ ≠ (.slice Ao97 t381.length co97 : Value).ownBlock ∧ ag95 ≤ k_) ∧ k_ < ag106) ∧ k_ < ag118) ∧ k_ < ag121) ∧ k_ < ag125) ∧ k_ < ag128) ∧ k_ < ag132)) hs_ => Or.elim hs_ (fun hs_ => Nat.not_lt.2 (hk_.1.1.1.1.1.1.2) ((HO376.out.1 k_ hs_.symm).1.1.1.1.1.1.2)) (fun hs_ => Nat.not_lt.2 (hk_.1.1.1.1.1.1.2) (hs_.1.1.1.1.1.1.1.1.1.1.1.1.2)))); replace BK387 := ak (blk_kept (kK BK387.out) hkp (fun hs_ => Or.elim hs_ (fun hs_ => (Kd.R_ne HO376.out BK387.out (by decide)) hs_) (fun hs_ => (hs_.1.2) rfl))); replace HO390 := ak (Kd.R_mono (Kd.R_kept (Kd.R_tight2 rfl (kR HO390.out)) hkp (fun k_ (hk_ : some k_ = (.slice Ao108 t388.length co108 : Value).ownBlock ∧ ((((((True ∧ ag106 ≤ k_) ∧ k_ < ag118) ∧ k_ < ag121) ∧ k_ < ag125) ∧ k_ < ag128) ∧ k_ < ag132)) hs_ => Or.elim hs_ (fun hs_ => Nat.not_lt.2 (hk_.2.1.1.1.1.1.2) ((HO376.out.1 k_ hs_.symm).1.1.1.1.1.2)) (fun hs_ => Nat.not_lt.2 (hk_.2.1.1.1.1.1.2) (hs_.1.1.1.1.1.1.1.1.1.1.1.2)))) (fun _ h_ => h_.2)); replace HO393 := ak (Kd.S_kept (kS HO393.out) hkp (fun k_ (hk_ : ((((((some k_ ≠ (.slice Ao108 t388.length co108 : Value).ownBlock ∧ ag106 ≤ k_) ∧ k_ < ag118) ∧ k_ < ag121) ∧ k_ < ag125) ∧ k_ < ag128) ∧ k_ < ag132)) hs_ => Or.elim hs_ (fun hs_ => Nat.not_lt.2 (hk_.1.1.1.1.1.2) ((HO376.out.1 k_ hs_.symm).1.1.1.1.1.2)) (fun hs_ => Nat.not_lt.2 (hk_.1.1.1.1.1.2) (hs_.1.1.1.1.1.1.1.1.1.1.1.2)))); replace BK395 := ak (blk_kept (kK BK395.out) hkp (fun hs_ => Or.elim hs_ (fun hs_ => (Kd.R_ne HO376.out BK395.out (by decide)) hs_) (fun hs_ => (hs_.2) rfl))); replace HO399 := ak (Kd.R_mono (Kd.R_kept (Kd.R_tight2 rfl (kR HO399.out)) hkp (fun k_ (hk_ : some k_ = (.slice Ao122 t397.length co122 : Value).ownBlock ∧ ((((True ∧ ag121 ≤ k_) ∧ k_ < ag125) ∧ k_ < ag128) ∧ k_ < ag132)) hs_ => Or.elim hs_ (fun hs_ => Nat.not_lt.2 (hk_.2.1.1.1.2) ((HO376.out.1 k_ hs_.symm).1.1.1.2)) (fun hs_ => Nat.not_lt.2 (hk_.2.1.1.1.2) (hs_.1.1.1.1.1.1.1.1.1.2)))) (fun _ h_ => h_.2)); replace HO402 := ak (Kd.S_kept (kS HO402.out) hkp (fun k_ (hk_ : ((((some k_ ≠ (.slice Ao122 t397.length co122 : Value).ownBlock ∧ ag121 ≤ k_) ∧ k_ < ag125) ∧ k_ < ag128) ∧ k_ < ag132)) hs_ => Or.elim hs_ (fun hs_ => Nat.not_lt.2 (hk_.1.1.1.2) ((HO376.out.1 k_ hs_.symm).1.1.1.2)) (fun hs_ => Nat.not_lt.2 (hk_.1.1.1.2) (hs_.1.1.1.1.1.1.1.1.1.2)))); replace HO406 := ak (Kd.R_mono (Kd.R_kept (Kd.R_tight2 rfl (kR HO406.out)) hkp (fun k_ (hk_ : some k_ = (.slice Ao129 t404.length co129 : Value).ownBlock ∧ ((True ∧ ag128 ≤ k_) ∧ k_ < ag132)) hs_ => Or.elim hs_ (fun hs_ => Nat.not_lt.2 (hk_.2.1.2) ((HO376.out.1 k_ hs_.symm).1.2)) (fun hs_ => Nat.not_lt.2 (hk_.2.1.2) (hs_.1.1.1.1.1.1.1.2)))) (fun _ h_ => h_.2)); replace HO409 := ak (Kd.S_kept (kS HO409.out) hkp (fun k_ (hk_ : ((some k_ ≠ (.slice Ao129 t404.length co129 : Value).ownBlock ∧ ag128 ≤ k_) ∧ k_ < ag132)) hs_ => Or.elim hs_ (fun hs_ => Nat.not_lt.2 (hk_.1.2) ((HO376.out.1 k_ hs_.symm).1.2)) (fun hs_ => Nat.not_lt.2 (hk_.1.2) (hs_.1.1.1.1.1.1.1.2)))); replace HO376 := ak (Kd.R_reok rfl hy0 (fun k_ e_ => HO376.out.1 k_ e_)); replace HB := ak (hb); (try clear hb); (try clear hkp); (try clear hy0); (try clear hy1); have hcz135_0 : w134.cell? ⟨gb387, 0, none⟩ = some (.slice Ao97 t381.length co97) := (blk_cell BK387.out 0).trans rfl; have hcz135_1 : w134.cell? ⟨gb387, 1, none⟩ = some (.slice Ao103 t384.length co103) := (blk_cell BK387.out 1).trans rfl; have hfz135_0 := blk_frozen BK387.out 0; have hfz135_1 := blk_frozen BK387.out 1) | ((with_reducible refine gate_callee (f := 19) rfl ?_); refine goesL_ (some 69) rfl rfl Try.func19 (by kernel_rfl) rfl #[.agg #[.slice Ao97 t381.length co97, .slice Ao103 t384.length co103], .int .i64 t411] rfl (by (try simp only [List.map_toArray, List.map_cons, List.map_nil]); first | done | rfl | (simp only [List.length_drop, List.length_take]; rfl)) ?_; (with_reducible refine (laws_markAlgebra.calls k (fun k_ => some k_ = (.slice Ao97 t381.length co97 : Value).ownBlock) (.slice Ao97 t381.length co97) t381 (fun k_ => (((((((((((((some k_ ≠ (.slice Ao97 t381.length co97 : Value).ownBlock ∧ ag95 ≤ k_) ∧ k_ < ag106) ∧ k_ < ag118) ∧ k_ < ag121) ∧ k_ < ag125) ∧ k_ < ag128) ∧ k_ < ag132) ∧ k_ ≠ gb350) ∧ k_ ≠ gb351) ∧ k_ ≠ gb373) ∧ k_ ≠ gb380) ∧ k_ ≠ gb387) ∧ k_ ≠ gb395)) (.slice Ao103 t384.length co103) t384 t411 t414 t415 t416 w _ ?side1 ?side2 ?side3 ?side4 A38.out).mono ?_); (case side1 => exact bB HB.out); (case side2 => exact Kd.R_tight rfl (kR HO383.out)); (case side3 => exact (kS (Kd.S_types (Kd.S_types (Kd.S_types (Kd.S_types (Kd.S_types (Kd.S_types (HO386.out) BK350.out (by decide)) BK351.out (by decide)) BK373.out (by decide)) BK380.out (by decide)) BK387.out (by decide)) BK395.out (by decide)))); (case side4 => exact fun k_ e_ h_ => (h_.1.1.1.1.1.1.1.1.1.1.1.1.1) e_.symm); rintro e w136 ⟨rfl, hy0, hy1, hb, hkp⟩; refine ⟨_, rfl, ?_⟩; replace BK350 := ak (blk_kept (kK BK350.out) hkp (fun hs_ => Or.elim hs_ (fun hs_ => (Kd.R_ne HO383.out BK350.out (by decide)) hs_) (fun hs_ => (hs_.1.1.1.1.1.2) rfl))); replace BK351 := ak (blk_kept (kK BK351.out) hkp (fun hs_ => Or.elim hs_ (fun hs_ => (Kd.R_ne HO383.out BK351.out (by decide)) hs_) (fun hs_ => (hs_.1.1.1.1.2) rfl))); replace HO356 := ak (Kd.R_mono (Kd.R_kept (Kd.R_tight2 rfl (kR HO356.out)) hkp (fun k_ (hk_ : some k_ = (v355 : Value).ownBlock ∧ ((((((((True ∧ k_ < ag84) ∧ k_ < ag95) ∧ k_ < ag106) ∧ k_ < ag118) ∧ k_ < ag121) ∧ k_ < ag125) ∧ k_ < ag128) ∧ k_ < ag132)) hs_ => Or.elim hs_ (fun hs_ => Nat.not_lt.2 ((HO383.out.1 k_ hs_.symm).1.1.1.1.1.1.2) (hk_.2.1.1.1.1.1.1.2)) (fun hs_ => Nat.not_lt.2 (hs_.1.1.1.1.1.1.1.1.1.1.1.1.2) (hk_.2.1.1.1.1.1.1.2)))) (fun _ h_ => h_.2)); replace HO359 := ak (Kd.S_kept (kS HO359.out) hkp (fun k_ (hk_ : ((((((((some k_ ≠ (v355 : Value).ownBlock ∧ k_ < ag84) ∧ k_ < ag95) ∧ k_ < ag106) ∧ k_ < ag118) ∧ k_ < ag121) ∧ k_ < ag125) ∧ k_ < ag128) ∧ k_ < ag132)) hs_ => Or.elim hs_ (fun hs_ => Nat.not_lt.2 ((HO383.out.1 k_ hs_.symm).1.1.1.1.1.1.2) (hk_.1.1.1.1.1.1.2)) (fun hs_ => Nat.not_lt.2 (hs_.1.1.1.1.1.1.1.1.1.1.1.1.2) (hk_.1.1.1.1.1.1.2)))); replace HO362 := ak (Kd.R_mono (Kd.R_kept (Kd.R_tight2 rfl (kR HO362.out)) hkp (fun k_ (hk_ : some k_ = (v361 : Value).ownBlock ∧ ((((((((True ∧ k_ < ag84) ∧ k_ < ag95) ∧ k_ < ag106) ∧ k_ < ag118) ∧ k_ < ag121) ∧ k_ < ag125) ∧ k_ < ag128) ∧ k_ < ag132)) hs_ => Or.elim hs_ (fun hs_ => Nat.not_lt.2 ((HO383.out.1 k_ hs_.symm).1.1.1.1.1.1.2) (hk_.2.1.1.1.1.1.1.2)) (fun hs_ => Nat.not_lt.2 (hs_.1.1.1.1.1.1.1.1.1.1.1.1.2) (hk_.2.1.1.1.1.1.1.2)))) (fun _ h_ => h_.2)); replace HO365 := ak (Kd.S_kept (kS HO365.out) hkp (fun k_ (hk_ : ((((((((some k_ ≠ (v361 : Value).ownBlock ∧ k_ < ag84) ∧ k_ < ag95) ∧ k_ < ag106) ∧ k_ < ag118) ∧ k_ < ag121) ∧ k_ < ag125) ∧ k_ < ag128) ∧ k_ < ag132)) hs_ => Or.elim hs_ (fun hs_ => Nat.not_lt.2 ((HO383.out.1 k_ hs_.symm).1.1.1.1.1.1.2) (hk_.1.1.1.1.1.1.2)) (fun hs_ => Nat.not_lt.2 (hs_.1.1.1.1.1.1.1.1.1.1.1.1.2) (hk_.1.1.1.1.1.1.2)))); replace HO368 := ak (Kd.R_mono (Kd.R_kept (Kd.R_tight2 rfl (kR HO368.out)) hkp (fun k_ (hk_ : some k_ = (.slice Ao77 t366.length co77 : Value).ownBlock ∧ ((((((((True ∧ k_ < ag84) ∧ k_ < ag95) ∧ k_ < ag106) ∧ k_ < ag118) ∧ k_ < ag121) ∧ k_ < ag125) ∧ k_ < ag128) ∧ k_ < ag132)) hs_ => Or.elim hs_ (fun hs_ => Nat.not_lt.2 ((HO383.out.1 k_ hs_.symm).1.1.1.1.1.1.2) (hk_.2.1.1.1.1.1.1.2)) (fun hs_ => Nat.not_lt.2 (hs_.1.1.1.1.1.1.1.1.1.1.1.1.2) (hk_.2.1.1.1.1.1.1.2)))) (fun _ h_ => h_.2)); replace HO371 := ak (Kd.S_kept (kS HO371.out) hkp (fun k_ (hk_ : ((((((((some k_ ≠ (.slice Ao77 t366.length co77 : Value).ownBlock ∧ k_ < ag84) ∧ k_ < ag95) ∧ k_ < ag106) ∧ k_ < ag118) ∧ k_ < ag121) ∧ k_ < ag125) ∧ k_ < ag128) ∧ k_ < ag132)) hs_ => Or.elim hs_ (fun hs_ => Nat.not_lt.2 ((HO383.out.1 k_ hs_.symm).1.1.1.1.1.1.2) (hk_.1.1.1.1.1.1.2)) (fun hs_ => Nat.not_lt.2 (hs_.1.1.1.1.1.1.1.1.1.1.1.1.2) (hk_.1.1.1.1.1.1.2)))); replace BK373 := ak (blk_kept (kK BK373.out) hkp (fun hs_ => Or.elim hs_ (fun hs_ => (Kd.R_ne HO383.out BK373.out (by decide)) hs_) (fun hs_ => (hs_.1.1.1.2) rfl))); replace HO376 := ak (Kd.R_mono (Kd.R_kept (Kd.R_tight2 rfl (kR HO376.out)) hkp (fun k_ (hk_ : some k_ = (.slice Ao86 t374.length co86 : Value).ownBlock ∧ ((((((((True ∧ ag84 ≤ k_) ∧ k_ < ag95) ∧ k_ < ag106) ∧ k_ < ag118) ∧ k_ < ag121) ∧ k_ < ag125) ∧ k_ < ag128) ∧ k_ < ag132)) hs_ => Or.elim hs_ (fun hs_ => Nat.not_lt.2 ((HO383.out.1 k_ hs_.symm).1.1.1.1.1.1.2) (hk_.2.1.1.1.1.1.1.2)) (fun hs_ => Nat.not_lt.2 (hs_.1.1.1.1.1.1.1.1.1.1.1.1.2) (hk_.2.1.1.1.1.1.1.2)))) (fun _ h_ => h_.2)); replace HO379 := ak (Kd.S_kept (kS HO379.out) hkp (fun k_ (hk_ : ((((((((((((((some k_ ≠ (.slice Ao86 t374.length co86 : Value).ownBlock ∧ ag84 ≤ k_) ∧ k_ < ag95) ∧ k_ < ag106) ∧ k_ < ag118) ∧ k_ < ag121) ∧ k_ < ag125) ∧ k_ < ag128) ∧ k_ < ag132) ∧ k_ ≠ gb350) ∧ k_ ≠ gb351) ∧ k_ ≠ gb373) ∧ k_ ≠ gb380) ∧ k_ ≠ gb387) ∧ k_ ≠ gb395)) hs_ => Or.elim hs_ (fun hs_ => Nat.not_lt.2 ((HO383.out.1 k_ hs_.symm).1.1.1.1.1.1.2) (hk_.1.1.1.1.1.1.1.1.1.1.1.1.2)) (fun hs_ => Nat.not_lt.2 (hs_.1.1.1.1.1.1.1.1.1.1.1.1.2) (hk_.1.1.1.1.1.1.1.1.1.1.1.1.2)))); replace BK380 := ak (blk_kept (kK BK380.out) hkp (fun hs_ => Or.elim hs_ (fun hs_ => (Kd.R_ne HO383.out BK380.out (by decide)) hs_) (fun hs_ => (hs_.1.1.2) rfl))); replace HO386 := ak (hy1); replace BK387 := ak (blk_kept (kK BK387.out) hkp (fun hs_ => Or.elim hs_ (fun hs_ => (Kd.R_ne HO383.out BK387.out (by decide)) hs_) (fun hs_ => (hs_.1.2) rfl))); replace HO390 := ak (Kd.R_mono (Kd.R_kept (Kd.R_tight2 rfl (kR HO390.out)) hkp (fun k_ (hk_ : some k_ = (.slice Ao108 t388.length co108 : Value).ownBlock ∧ ((((((True ∧ ag106 ≤ k_) ∧ k_ < ag118) ∧ k_ < ag121) ∧ k_ < ag125) ∧ k_ < ag128) ∧ k_ < ag132)) hs_ => Or.elim hs_ (fun hs_ => Nat.not_lt.2 (hk_.2.1.1.1.1.1.2) ((HO383.out.1 k_ hs_.symm).1.1.1.1.1.2)) (fun hs_ => Nat.not_lt.2 (hk_.2.1.1.1.1.1.2) (hs_.1.1.1.1.1.1.1.1.1.1.1.2)))) (fun _ h_ => h_.2)); replace HO393 := ak (Kd.S_kept (kS HO393.out) hkp (fun k_ (hk_ : ((((((some k_ ≠ (.slice Ao108 t388.length co108 : Value).ownBlock ∧ ag106 ≤ k_) ∧ k_ < ag118) ∧ k_ < ag121) ∧ k_ < ag125) ∧ k_ < ag128) ∧ k_ < ag132)) hs_ => Or.elim hs_ (fun hs_ => Nat.not_lt.2 (hk_.1.1.1.1.1.2) ((HO383.out.1 k_ hs_.symm).1.1.1.1.1.2)) (fun hs_ => Nat.not_lt.2 (hk_.1.1.1.1.1.2) (hs_.1.1.1.1.1.1.1.1.1.1.1.2)))); replace BK395 := ak (blk_kept (kK BK395.out) hkp (fun hs_ => Or.elim hs_ (fun hs_ => (Kd.R_ne HO383.out BK395.out (by decide)) hs_) (fun hs_ => (hs_.2) rfl))); replace HO399 := ak (Kd.R_mono (Kd.R_kept (Kd.R_tight2 rfl (kR HO399.out)) hkp (fun k_ (hk_ : some k_ = (.slice Ao122 t397.length co122 : Value).ownBlock ∧ ((((True ∧ ag121 ≤ k_) ∧ k_ < ag125) ∧ k_ < ag128) ∧ k_ < ag132)) hs_ => Or.elim hs_ (fun hs_ => Nat.not_lt.2 (hk_.2.1.1.1.2) ((HO383.out.1 k_ hs_.symm).1.1.1.2)) (fun hs_ => Nat.not_lt.2 (hk_.2.1.1.1.2) (hs_.1.1.1.1.1.1.1.1.1.2)))) (fun _ h_ => h_.2)); replace HO402 := ak (Kd.S_kept (kS HO402.out) hkp (fun k_ (hk_ : ((((some k_ ≠ (.slice Ao122 t397.length co122 : Value).ownBlock ∧ ag121 ≤ k_) ∧ k_ < ag125) ∧ k_ < ag128) ∧ k_ < ag132)) hs_ => Or.elim hs_ (fun hs_ => Nat.not_lt.2 (hk_.1.1.1.2) ((HO383.out.1 k_ hs_.symm).1.1.1.2)) (fun hs_ => Nat.not_lt.2 (hk_.1.1.1.2) (hs_.1.1.1.1.1.1.1.1.1.2)))); replace HO406 := ak (Kd.R_mono (Kd.R_kept (Kd.R_tight2 rfl (kR HO406.out)) hkp (fun k_ (hk_ : some k_ = (.slice Ao129 t404.length co129 : Value).ownBlock ∧ ((True ∧ ag128 ≤ k_) ∧ k_ < ag132)) hs_ => Or.elim hs_ (fun hs_ => Nat.not_lt.2 (hk_.2.1.2) ((HO383.out.1 k_ hs_.symm).1.2)) (fun hs_ => Nat.not_lt.2 (hk_.2.1.2) (hs_.1.1.1.1.1.1.1.2)))) (fun _ h_ => h_.2)); replace HO409 := ak (Kd.S_kept (kS HO409.out) hkp (fun k_ (hk_ : ((some k_ ≠ (.slice Ao129 t404.length co129 : Value).ownBlock ∧ ag128 ≤ k_) ∧ k_ < ag132)) hs_ => Or.elim hs_ (fun hs_ => Nat.not_lt.2 (hk_.1.2) ((HO383.out.1 k_ hs_.symm).1.2)) (fun hs_ => Nat.not_lt.2 (hk_.1.2) (hs_.1.1.1.1.1.1.1.2)))); replace HO383 := ak (Kd.R_reok rfl hy0 (fun k_ e_ => HO383.out.1 k_ e_)); replace HB := ak (hb); (try clear hb); (try clear hkp); (try clear hy0); (try clear hy1); have hcz137_0 : w136.cell? ⟨gb395, 0, none⟩ = some (.slice Ao108 t388.length co108) := (blk_cell BK395.out 0).trans rfl; have hcz137_1 : w136.cell? ⟨gb395, 1, none⟩ = some (.slice Ao115 t391.length co115) := (blk_cell BK395.out 1).trans rfl; have hfz137_0 := blk_frozen BK395.out 0; have hfz137_1 := blk_frozen BK395.out 1; have hcz138_0 : w136.cell? ⟨gb373, 0, none⟩ = some (.slice Ao77 t366.length co77) := (blk_cell BK373.out 0).trans rfl; have hcz138_1 : w136.cell? ⟨gb373, 1, none⟩ = some (.slice Ao79 t369.length co79) := (blk_cell BK373.out 1).trans rfl; have hfz138_0 := blk_frozen BK373.out 0; have hfz138_1 := blk_frozen BK373.out 1) | (go_at_call 16; (with_reducible refine (laws_eqAlgebra.calls k _ _ t388 _ _ t391 _ _ t366 _ _ t369 true _ ?side1 ?side2 ?side3 ?side4 ?side5 ?side6 ?side7 ?side8 A40.out).mono ?_); (case side1 => exact kC (Kd.R_reads' HO390.out).2.2); (case side2 => exact (Kd.R_reads' HO390.out).2.1); (case side3 => exact kC (Kd.S_reads' HO393.out).2.2); (case side4 => exact (Kd.S_reads' HO393.out).2.1); (case side5 => exact kC (Kd.R_reads' HO368.out).2.2); (case side6 => exact (Kd.R_reads' HO368.out).2.1); (case side7 => exact kC (Kd.S_reads' HO371.out).2.2); (case side8 => exact (Kd.S_reads' HO371.out).2.1); rintro e w139 ⟨rfl, hb⟩; obtain ⟨ag140, hag140⟩ := age_at hb; replace HO356 := ak (age_oldR (kR HO356.out) hb hag140.out); replace HO359 := ak (age_oldS (kS HO359.out) hb hag140.out); replace HO362 := ak (age_oldR (kR HO362.out) hb hag140.out); replace HO365 := ak (age_oldS (kS HO365.out) hb hag140.out); replace HO368 := ak (age_oldR (kR HO368.out) hb hag140.out); replace HO371 := ak (age_oldS (kS HO371.out) hb hag140.out); replace HO376 := ak (age_oldR (kR HO376.out) hb hag140.out); replace HO379 := ak (age_oldS (kS HO379.out) hb hag140.out); replace HO383 := ak (age_oldR (kR HO383.out) hb hag140.out); replace HO386 := ak (age_oldS (kS HO386.out) hb hag140.out); replace HO390 := ak (age_oldR (kR HO390.out) hb hag140.out); replace HO393 := ak (age_oldS (kS HO393.out) hb hag140.out); replace HO399 := ak (age_oldR (kR HO399.out) hb hag140.out); replace HO402 := ak (age_oldS (kS HO402.out) hb hag140.out); replace HO406 := ak (age_oldR (kR HO406.out) hb hag140.out); replace HO409 := ak (age_oldS (kS HO409.out) hb hag140.out); replace BK350 := ak (blk_below (kK BK350.out) hb); replace BK351 := ak (blk_below (kK BK351.out) hb); replace BK373 := ak (blk_below (kK BK373.out) hb); replace BK380 := ak (blk_below (kK BK380.out) hb); replace BK387 := ak (blk_below (kK BK387.out) hb); replace BK395 := ak (blk_below (kK BK395.out) hb); replace HB := ak (below_step (kB HB.out) hb); (try clear hb); (try clear hb2); (try clear hk); (try clear hi); have hcz141_0 : w139.cell? ⟨gb395, 0, none⟩ = some (.slice Ao108 t388.length co108) := (blk_cell BK395.out 0).trans rfl; have hcz141_1 : w139.cell? ⟨gb395, 1, none⟩ = some (.slice Ao115 t391.length co115) := (blk_cell BK395.out 1).trans rfl; have hfz141_0 := blk_frozen BK395.out 0; have hfz141_1 := blk_frozen BK395.out 1) | ((with_reducible refine gate_callee (f := 19) rfl ?_); refine goesL_ (some 85) rfl rfl Try.func19 (by kernel_rfl) rfl #[.agg #[.slice Ao108 t388.length co108, .slice Ao115 t391.length co115], .int .i64 1] rfl (by (try simp only [List.map_toArray, List.map_cons, List.map_nil]); first | done | rfl | (simp only [List.length_drop, List.length_take]; rfl)) ?_; (with_reducible refine (laws_markAlgebra.calls k (fun k_ => some k_ = (.slice Ao108 t388.length co108 : Value).ownBlock) (.slice Ao108 t388.length co108) t388 (fun k_ => (((((((((((((some k_ ≠ (.slice Ao108 t388.length co108 : Value).ownBlock ∧ ag106 ≤ k_) ∧ k_ < ag118) ∧ k_ < ag121) ∧ k_ < ag125) ∧ k_ < ag128) ∧ k_ < ag132) ∧ k_ < ag140) ∧ k_ ≠ gb350) ∧ k_ ≠ gb351) ∧ k_ ≠ gb373) ∧ k_ ≠ gb380) ∧ k_ ≠ gb387) ∧ k_ ≠ gb395)) (.slice Ao115 t391.length co115) t391 1 t418 t419 t420 w _ ?side1 ?side2 ?side3 ?side4 A42.out).mono ?_); (case side1 => exact bB HB.out); (case side2 => exact Kd.R_tight rfl (kR HO390.out)); (case side3 => exact (kS (Kd.S_types (Kd.S_types (Kd.S_types (Kd.S_types (Kd.S_types (Kd.S_types (HO393.out) BK350.out (by decide)) BK351.out (by decide)) BK373.out (by decide)) BK380.out (by decide)) BK387.out (by decide)) BK395.out (by decide)))); (case side4 => exact fun k_ e_ h_ => (h_.1.1.1.1.1.1.1.1.1.1.1.1.1) e_.symm); rintro e w142 ⟨rfl, hy0, hy1, hb, hkp⟩; refine ⟨_, rfl, ?_⟩; replace BK350 := ak (blk_kept (kK BK350.out) hkp (fun hs_ => Or.elim hs_ (fun hs_ => (Kd.R_ne HO390.out BK350.out (by decide)) hs_) (fun hs_ => (hs_.1.1.1.1.1.2) rfl))); replace BK351 := ak (blk_kept (kK BK351.out) hkp (fun hs_ => Or.elim hs_ (fun hs_ => (Kd.R_ne HO390.out BK351.out (by decide)) hs_) (fun hs_ => (hs_.1.1.1.1.2) rfl))); replace HO356 := ak (Kd.R_mono (Kd.R_kept (Kd.R_tight2 rfl (kR HO356.out)) hkp (fun k_ (hk_ : some k_ = (v355 : Value).ownBlock ∧ (((((((((True ∧ k_ < ag84) ∧ k_ < ag95) ∧ k_ < ag106) ∧ k_ < ag118) ∧ k_ < ag121) ∧ k_ < ag125) ∧ k_ < ag128) ∧ k_ < ag132) ∧ k_ < ag140)) hs_ => Or.elim hs_ (fun hs_ => Nat.not_lt.2 ((HO390.out.1 k_ hs_.symm).1.1.1.1.1.1.2) (hk_.2.1.1.1.1.1.1.2)) (fun hs_ => Nat.not_lt.2 (hs_.1.1.1.1.1.1.1.1.1.1.1.1.2) (hk_.2.1.1.1.1.1.1.2)))) (fun _ h_ => h_.2)); replace HO359 := ak (Kd.S_kept (kS HO359.out) hkp (fun k_ (hk_ : (((((((((some k_ ≠ (v355 : Value).ownBlock ∧ k_ < ag84) ∧ k_ < ag95) ∧ k_ < ag106) ∧ k_ < ag118) ∧ k_ < ag121) ∧ k_ < ag125) ∧ k_ < ag128) ∧ k_ < ag132) ∧ k_ < ag140)) hs_ => Or.elim hs_ (fun hs_ => Nat.not_lt.2 ((HO390.out.1 k_ hs_.symm).1.1.1.1.1.1.2) (hk_.1.1.1.1.1.1.2)) (fun hs_ => Nat.not_lt.2 (hs_.1.1.1.1.1.1.1.1.1.1.1.1.2) (hk_.1.1.1.1.1.1.2)))); replace HO362 := ak (Kd.R_mono (Kd.R_kept (Kd.R_tight2 rfl (kR HO362.out)) hkp (fun k_ (hk_ : some k_ = (v361 : Value).ownBlock ∧ (((((((((True ∧ k_ < ag84) ∧ k_ < ag95) ∧ k_ < ag106) ∧ k_ < ag118) ∧ k_ < ag121) ∧ k_ < ag125) ∧ k_ < ag128) ∧ k_ < ag132) ∧ k_ < ag140)) hs_ => Or.elim hs_ (fun hs_ => Nat.not_lt.2 ((HO390.out.1 k_ hs_.symm).1.1.1.1.1.1.2) (hk_.2.1.1.1.1.1.1.2)) (fun hs_ => Nat.not_lt.2 (hs_.1.1.1.1.1.1.1.1.1.1.1.1.2) (hk_.2.1.1.1.1.1.1.2)))) (fun _ h_ => h_.2)); replace HO365 := ak (Kd.S_kept (kS HO365.out) hkp (fun k_ (hk_ : (((((((((some k_ ≠ (v361 : Value).ownBlock ∧ k_ < ag84) ∧ k_ < ag95) ∧ k_ < ag106) ∧ k_ < ag118) ∧ k_ < ag121) ∧ k_ < ag125) ∧ k_ < ag128) ∧ k_ < ag132) ∧ k_ < ag140)) hs_ => Or.elim hs_ (fun hs_ => Nat.not_lt.2 ((HO390.out.1 k_ hs_.symm).1.1.1.1.1.1.2) (hk_.1.1.1.1.1.1.2)) (fun hs_ => Nat.not_lt.2 (hs_.1.1.1.1.1.1.1.1.1.1.1.1.2) (hk_.1.1.1.1.1.1.2)))); replace HO368 := ak (Kd.R_mono (Kd.R_kept (Kd.R_tight2 rfl (kR HO368.out)) hkp (fun k_ (hk_ : some k_ = (.slice Ao77 t366.length co77 : Value).ownBlock ∧ (((((((((True ∧ k_ < ag84) ∧ k_ < ag95) ∧ k_ < ag106) ∧ k_ < ag118) ∧ k_ < ag121) ∧ k_ < ag125) ∧ k_ < ag128) ∧ k_ < ag132) ∧ k_ < ag140)) hs_ => Or.elim hs_ (fun hs_ => Nat.not_lt.2 ((HO390.out.1 k_ hs_.symm).1.1.1.1.1.1.2) (hk_.2.1.1.1.1.1.1.2)) (fun hs_ => Nat.not_lt.2 (hs_.1.1.1.1.1.1.1.1.1.1.1.1.2) (hk_.2.1.1.1.1.1.1.2)))) (fun _ h_ => h_.2)); replace HO371 := ak (Kd.S_kept (kS HO371.out) hkp (fun k_ (hk_ : (((((((((some k_ ≠ (.slice Ao77 t366.length co77 : Value).ownBlock ∧ k_ < ag84) ∧ k_ < ag95) ∧ k_ < ag106) ∧ k_ < ag118) ∧ k_ < ag121) ∧ k_ < ag125) ∧ k_ < ag128) ∧ k_ < ag132) ∧ k_ < ag140)) hs_ => Or.elim hs_ (fun hs_ => Nat.not_lt.2 ((HO390.out.1 k_ hs_.symm).1.1.1.1.1.1.2) (hk_.1.1.1.1.1.1.2)) (fun hs_ => Nat.not_lt.2 (hs_.1.1.1.1.1.1.1.1.1.1.1.1.2) (hk_.1.1.1.1.1.1.2)))); replace BK373 := ak (blk_kept (kK BK373.out) hkp (fun hs_ => Or.elim hs_ (fun hs_ => (Kd.R_ne HO390.out BK373.out (by decide)) hs_) (fun hs_ => (hs_.1.1.1.2) rfl))); replace HO376 := ak (Kd.R_mono (Kd.R_kept (Kd.R_tight2 rfl (kR HO376.out)) hkp (fun k_ (hk_ : some k_ = (.slice Ao86 t374.length co86 : Value).ownBlock ∧ (((((((((True ∧ ag84 ≤ k_) ∧ k_ < ag95) ∧ k_ < ag106) ∧ k_ < ag118) ∧ k_ < ag121) ∧ k_ < ag125) ∧ k_ < ag128) ∧ k_ < ag132) ∧ k_ < ag140)) hs_ => Or.elim hs_ (fun hs_ => Nat.not_lt.2 ((HO390.out.1 k_ hs_.symm).1.1.1.1.1.1.2) (hk_.2.1.1.1.1.1.1.2)) (fun hs_ => Nat.not_lt.2 (hs_.1.1.1.1.1.1.1.1.1.1.1.1.2) (hk_.2.1.1.1.1.1.1.2)))) (fun _ h_ => h_.2)); replace HO379 := ak (Kd.S_kept (kS HO379.out) hkp (fun k_ (hk_ : (((((((((((((((some k_ ≠ (.slice Ao86 t374.length co86 : Value).ownBlock ∧ ag84 ≤ k_) ∧ k_ < ag95) ∧ k_ < ag106) ∧ k_ < ag118) ∧ k_ < ag121) ∧ k_ < ag125) ∧ k_ < ag128) ∧ k_ < ag132) ∧ k_ ≠ gb350) ∧ k_ ≠ gb351) ∧ k_ ≠ gb373) ∧ k_ ≠ gb380) ∧ k_ ≠ gb387) ∧ k_ ≠ gb395) ∧ k_ < ag140)) hs_ => Or.elim hs_ (fun hs_ => Nat.not_lt.2 ((HO390.out.1 k_ hs_.symm).1.1.1.1.1.1.2) (hk_.1.1.1.1.1.1.1.1.1.1.1.1.2)) (fun hs_ => Nat.not_lt.2 (hs_.1.1.1.1.1.1.1.1.1.1.1.1.2) (hk_.1.1.1.1.1.1.1.1.1.1.1.1.2)))); replace BK380 := ak (blk_kept (kK BK380.out) hkp (fun hs_ => Or.elim hs_ (fun hs_ => (Kd.R_ne HO390.out BK380.out (by decide)) hs_) (fun hs_ => (hs_.1.1.2) rfl))); replace HO383 := ak (Kd.R_mono (Kd.R_kept (Kd.R_tight2 rfl (kR HO383.out)) hkp (fun k_ (hk_ : some k_ = (.slice Ao97 t381.length co97 : Value).ownBlock ∧ ((((((((True ∧ ag95 ≤ k_) ∧ k_ < ag106) ∧ k_ < ag118) ∧ k_ < ag121) ∧ k_ < ag125) ∧ k_ < ag128) ∧ k_ < ag132) ∧ k_ < ag140)) hs_ => Or.elim hs_ (fun hs_ => Nat.not_lt.2 ((HO390.out.1 k_ hs_.symm).1.1.1.1.1.1.2) (hk_.2.1.1.1.1.1.1.2)) (fun hs_ => Nat.not_lt.2 (hs_.1.1.1.1.1.1.1.1.1.1.1.1.2) (hk_.2.1.1.1.1.1.1.2)))) (fun _ h_ => h_.2)); replace HO386 := ak (Kd.S_kept (kS HO386.out) hkp (fun k_ (hk_ : ((((((((((((((some k_ ≠ (.slice Ao97 t381.length co97 : Value).ownBlock ∧ ag95 ≤ k_) ∧ k_ < ag106) ∧ k_ < ag118) ∧ k_ < ag121) ∧ k_ < ag125) ∧ k_ < ag128) ∧ k_ < ag132) ∧ k_ ≠ gb350) ∧ k_ ≠ gb351) ∧ k_ ≠ gb373) ∧ k_ ≠ gb380) ∧ k_ ≠ gb387) ∧ k_ ≠ gb395) ∧ k_ < ag140)) hs_ => Or.elim hs_ (fun hs_ => Nat.not_lt.2 ((HO390.out.1 k_ hs_.symm).1.1.1.1.1.1.2) (hk_.1.1.1.1.1.1.1.1.1.1.1.1.2)) (fun hs_ => Nat.not_lt.2 (hs_.1.1.1.1.1.1.1.1.1.1.1.1.2) (hk_.1.1.1.1.1.1.1.1.1.1.1.1.2)))); replace BK387 := ak (blk_kept (kK BK387.out) hkp (fun hs_ => Or.elim hs_ (fun hs_ => (Kd.R_ne HO390.out BK387.out (by decide)) hs_) (fun hs_ => (hs_.1.2) rfl))); replace HO393 := ak (hy1); replace BK395 := ak (blk_kept (kK BK395.out) hkp (fun hs_ => Or.elim hs_ (fun hs_ => (Kd.R_ne HO390.out BK395.out (by decide)) hs_) (fun hs_ => (hs_.2) rfl))); replace HO399 := ak (Kd.R_mono (Kd.R_kept (Kd.R_tight2 rfl (kR HO399.out)) hkp (fun k_ (hk_ : some k_ = (.slice Ao122 t397.length co122 : Value).ownBlock ∧ (((((True ∧ ag121 ≤ k_) ∧ k_ < ag125) ∧ k_ < ag128) ∧ k_ < ag132) ∧ k_ < ag140)) hs_ => Or.elim hs_ (fun hs_ => Nat.not_lt.2 (hk_.2.1.1.1.1.2) ((HO390.out.1 k_ hs_.symm).1.1.1.1.2)) (fun hs_ => Nat.not_lt.2 (hk_.2.1.1.1.1.2) (hs_.1.1.1.1.1.1.1.1.1.1.2)))) (fun _ h_ => h_.2)); replace HO402 := ak (Kd.S_kept (kS HO402.out) hkp (fun k_ (hk_ : (((((some k_ ≠ (.slice Ao122 t397.length co122 : Value).ownBlock ∧ ag121 ≤ k_) ∧ k_ < ag125) ∧ k_ < ag128) ∧ k_ < ag132) ∧ k_ < ag140)) hs_ => Or.elim hs_ (fun hs_ => Nat.not_lt.2 (hk_.1.1.1.1.2) ((HO390.out.1 k_ hs_.symm).1.1.1.1.2)) (fun hs_ => Nat.not_lt.2 (hk_.1.1.1.1.2) (hs_.1.1.1.1.1.1.1.1.1.1.2)))); replace HO406 := ak (Kd.R_mono (Kd.R_kept (Kd.R_tight2 rfl (kR HO406.out)) hkp (fun k_ (hk_ : some k_ = (.slice Ao129 t404.length co129 : Value).ownBlock ∧ (((True ∧ ag128 ≤ k_) ∧ k_ < ag132) ∧ k_ < ag140)) hs_ => Or.elim hs_ (fun hs_ => Nat.not_lt.2 (hk_.2.1.1.2) ((HO390.out.1 k_ hs_.symm).1.1.2)) (fun hs_ => Nat.not_lt.2 (hk_.2.1.1.2) (hs_.1.1.1.1.1.1.1.1.2)))) (fun _ h_ => h_.2)); replace HO409 := ak (Kd.S_kept (kS HO409.out) hkp (fun k_ (hk_ : (((some k_ ≠ (.slice Ao129 t404.length co129 : Value).ownBlock ∧ ag128 ≤ k_) ∧ k_ < ag132) ∧ k_ < ag140)) hs_ => Or.elim hs_ (fun hs_ => Nat.not_lt.2 (hk_.1.1.2) ((HO390.out.1 k_ hs_.symm).1.1.2)) (fun hs_ => Nat.not_lt.2 (hk_.1.1.2) (hs_.1.1.1.1.1.1.1.1.2)))); replace HO390 := ak (Kd.R_reok rfl hy0 (fun k_ e_ => HO390.out.1 k_ e_)); replace HB := ak (hb); (try clear hb); (try clear hkp); (try clear hy0); (try clear hy1); have hcz143_0 : w142.cell? ⟨gb395, 0, none⟩ = some (.slice Ao108 t388.length co108) := (blk_cell BK395.out 0).trans rfl; have hcz143_1 : w142.cell? ⟨gb395, 1, none⟩ = some (.slice Ao115 t391.length co115) := (blk_cell BK395.out 1).trans rfl; have hfz143_0 := blk_frozen BK395.out 0; have hfz143_1 := blk_frozen BK395.out 1) | ((with_reducible refine gate_callee (f := 20) rfl ?_); refine goesL_ (some 88) rfl rfl Try.func20 (by kernel_rfl) rfl #[.agg #[.slice Ao108 t419.length co108, .slice Ao115 t420.length co115], .int .i64 1] rfl (by (try simp only [List.map_toArray, List.map_cons, List.map_nil]); first | done | (rw [show t419.length = t388.length from (Kd.R_reads' HO390.out).1.symm, show t420.length = t391.length from (Kd.S_reads' HO393.out).1.symm] <;> rfl) | rfl | (simp only [List.length_drop, List.length_take]; rfl)) ?_; (with_reducible refine (laws_heldAlgebra.calls k _ _ t419 _ _ t420 1 t421 _ ?side1 ?side2 ?side3 ?side4 A43.out).mono ?_); (case side1 => exact kC (Kd.R_reads' HO390.out).2.2); (case side2 => rw [show t419.length = t388.length from (Kd.R_reads' HO390.out).1.symm]; exact (Kd.R_reads' HO390.out).2.1); (case side3 => exact kC (Kd.S_reads' HO393.out).2.2); (case side4 => rw [show t420.length = t391.length from (Kd.S_reads' HO393.out).1.symm]; exact (Kd.S_reads' HO393.out).2.1); rintro e w144 ⟨rfl, hb⟩; refine ⟨_, rfl, ?_⟩; obtain ⟨ag145, hag145⟩ := age_at hb; replace HO356 := ak (age_oldR (kR HO356.out) hb hag145.out); replace HO359 := ak (age_oldS (kS HO359.out) hb hag145.out); replace HO362 := ak (age_oldR (kR HO362.out) hb hag145.out); replace HO365 := ak (age_oldS (kS HO365.out) hb hag145.out); replace HO368 := ak (age_oldR (kR HO368.out) hb hag145.out); replace HO371 := ak (age_oldS (kS HO371.out) hb hag145.out); replace HO376 := ak (age_oldR (kR HO376.out) hb hag145.out); replace HO379 := ak (age_oldS (kS HO379.out) hb hag145.out); replace HO383 := ak (age_oldR (kR HO383.out) hb hag145.out); replace HO386 := ak (age_oldS (kS HO386.out) hb hag145.out); replace HO390 := ak (age_oldR (kR HO390.out) hb hag145.out); replace HO393 := ak (age_oldS (kS HO393.out) hb hag145.out); replace HO399 := ak (age_oldR (kR HO399.out) hb hag145.out); replace HO402 := ak (age_oldS (kS HO402.out) hb hag145.out); replace HO406 := ak (age_oldR (kR HO406.out) hb hag145.out); replace HO409 := ak (age_oldS (kS HO409.out) hb hag145.out); replace BK350 := ak (blk_below (kK BK350.out) hb); replace BK351 := ak (blk_below (kK BK351.out) hb); replace BK373 := ak (blk_below (kK BK373.out) hb); replace BK380 := ak (blk_below (kK BK380.out) hb); replace BK387 := ak (blk_below (kK BK387.out) hb); replace BK395 := ak (blk_below (kK BK395.out) hb); replace HB := ak (below_step (kB HB.out) hb); (try clear hb); (try clear hb2); (try clear hk); (try clear hi)))
 replace HO356 := ak (Kd.R_drew HO356.out)
 replace HO359 := ak (Kd.S_drew HO359.out)
 replace HO362 := ak (Kd.R_drew HO362.out)
 replace HO365 := ak (Kd.S_drew HO365.out)
 replace HO368 := ak (Kd.R_drew HO368.out)
 replace HO371 := ak (Kd.S_drew HO371.out)
 replace HO376 := ak (Kd.R_drew HO376.out)
 replace HO379 := ak (Kd.S_drew HO379.out)
 replace HO383 := ak (Kd.R_drew HO383.out)
 replace HO386 := ak (Kd.S_drew HO386.out)
 replace HO390 := ak (Kd.R_drew HO390.out)
 replace HO393 := ak (Kd.S_drew HO393.out)
 replace HO399 := ak (Kd.R_drew HO399.out)
 replace HO402 := ak (Kd.S_drew HO402.out)
 replace HO406 := ak (Kd.R_drew HO406.out)
 replace HO409 := ak (Kd.S_drew HO409.out)
 replace BK350 := ak (blk_drew BK350.out)
 replace BK351 := ak (blk_drew BK351.out)
 replace BK373 := ak (blk_drew BK373.out)
 replace BK380 := ak (blk_drew BK380.out)
 replace BK387 := ak (blk_drew BK387.out)
 replace BK395 := ak (blk_drew BK395.out)
 replace HB := ak (below_drew1 HB.out)
 refine start_ (n := 11) (S := fun w' => w'.cell? ⟨gb350, 0, none⟩ = some (.slice A0_0 l0_0.length c0_0) ∧ w'.cell? ⟨gb350, 1, none⟩ = some (.slice A0_1 l0_1.length c0_1) ∧ w'.cell? ⟨gb351, 0, none⟩ = some (.slice A1_0 l1_0.length c1_0) ∧ w'.cell? ⟨gb351, 1, none⟩ = some (.slice A1_1 l1_1.length c1_1)) (ds := []) #[false, false, false, false, false, false, false, false, false, false, false] (by kernel_rfl) rfl rfl ⟨(blk_cell BK350.out 0).trans rfl, (blk_cell BK350.out 1).trans rfl, (blk_cell BK351.out 0).trans rfl, (blk_cell BK351.out 1).trans rfl⟩ (fun hHeld => ?_); refine with_tabW laws_FnExactStackAlgebras.tab31 laws_FnExactStackAlgebras.bits31 (fun HT_ HW_ => ?_)
 generalize w144.drew = w146 at HO356 HO359 HO362 HO365 HO368 HO371 HO376 HO379 HO383 HO386 HO390 HO393 HO399 HO402 HO406 HO409 BK350 BK351 BK373 BK380 BK387 BK395 HB hHeld ⊢
 refine take_ (i := 0) (N := some 95) (v := ?_) (a' := ?_) #[true, false, false, false, false, false, false, false, false, false, false] rfl rfl (take_ofW HT_.out HW_.out (by kernel_rfl)) (fun _ _ _ h => h) (Or.inl ⟨by rfl, ?_⟩) hHeld ?_ ?_
 rotate_left
 ·rintro w' ⟨s0, s1, s2, s3⟩
  go_simp
  with_reducible rfl
 rotate_left
 ·simp only [Act.put, List.setIfInBounds_toArray, List.set_cons_zero, List.set_cons_succ, i64_w, i32_w]
  rfl
 refine take_ (i := 2) (N := some 97) (v := ?_) (a' := ?_) #[true, false, true, false, false, false, false, false, false, false, false] rfl rfl (take_ofW HT_.out HW_.out (by kernel_rfl)) (fun _ _ _ h => h) (Or.inl ⟨by rfl, ?_⟩) hHeld ?_ ?_
 rotate_left
 ·rintro w' ⟨s0, s1, s2, s3⟩
  go_simp
  with_reducible rfl
 rotate_left
 ·simp only [Act.put, List.setIfInBounds_toArray, List.set_cons_zero, List.set_cons_succ, i64_w, i32_w]
  rfl
 refine join_ (σ := Value × Value × Value × Value × Value × Value × Nat) 2 #[true, true, true, true, true, true, true, true, true, false, false] (fun s_ => [(96, .agg #[s_.1, s_.2.1]), (98, .agg #[s_.2.2.1, s_.2.2.2.1]), (99, .tuple #[.agg #[s_.2.2.2.2.1, s_.2.2.2.2.2.1], .bool t440]), (15, .pointer (some ⟨s_.2.2.2.2.2.2, 0, none⟩)), (94, .tuple #[.agg #[s_.2.2.2.2.1, s_.2.2.2.2.2.1], .bool t440]), (100, .agg #[s_.2.2.2.2.1, s_.2.2.2.2.2.1]), (101, .bool t440)]) (fun s_ w' => (w'.cell? ⟨gb350, 0, none⟩ = some (.slice A0_0 l0_0.length c0_0) ∧ w'.cell? ⟨gb350, 1, none⟩ = some (.slice A0_1 l0_1.length c0_1) ∧ w'.cell? ⟨gb351, 0, none⟩ = some (.slice A1_0 l1_0.length c1_0) ∧ w'.cell? ⟨gb351, 1, none⟩ = some (.slice A1_1 l1_1.length c1_1)) ∧ (Kd.R (Kd.int .i64) 3 w' w.heap.size (fun _ => True) v355 t354) ∧ (Kd.S (Kd.slice 3 (Kd.int .i64)) 22 w' w.heap.size (fun k_ => some k_ ≠ (v355 : Value).ownBlock) v358 t357) ∧ (Kd.R (Kd.int .i64) 3 w' w.heap.size (fun _ => True) v361 t360) ∧ (Kd.S (Kd.slice 3 (Kd.int .i64)) 22 w' w.heap.size (fun k_ => some k_ ≠ (v361 : Value).ownBlock) v364 t363) ∧ (Kd.R (Kd.int .i64) 3 w' w.heap.size (fun _ => True) (.slice Ao77 t366.length co77) t366) ∧ (Kd.S (Kd.slice 3 (Kd.int .i64)) 22 w' w.heap.size (fun k_ => some k_ ≠ (.slice Ao77 t366.length co77 : Value).ownBlock) (.slice Ao79 t369.length co79) t369) ∧ (Kd.R (Kd.int .i64) 3 w' w.heap.size (fun _ => True) (.slice Ao86 t374.length co86) t412) ∧ (Kd.S (Kd.slice 3 (Kd.int .i64)) 22 w' w.heap.size (fun k_ => some k_ ≠ (.slice Ao86 t374.length co86 : Value).ownBlock) (.slice Ao91 t377.length co91) t413) ∧ (Kd.R (Kd.int .i64) 3 w' w.heap.size (fun _ => True) (.slice Ao97 t381.length co97) t415) ∧ (Kd.S (Kd.slice 3 (Kd.int .i64)) 22 w' w.heap.size (fun k_ => some k_ ≠ (.slice Ao97 t381.length co97 : Value).ownBlock) (.slice Ao103 t384.length co103) t416) ∧ (Kd.R (Kd.int .i64) 3 w' w.heap.size (fun _ => True) (.slice Ao108 t388.length co108) t419) ∧ (Kd.S (Kd.slice 3 (Kd.int .i64)) 22 w' w.heap.size (fun k_ => some k_ ≠ (.slice Ao108 t388.length co108 : Value).ownBlock) (.slice Ao115 t391.length co115) t420) ∧ (Kd.R (Kd.int .i64) 3 w' w.heap.size (fun _ => True) (.slice Ao122 t397.length co122) t397) ∧ (Kd.S (Kd.slice 3 (Kd.int .i64)) 22 w' w.heap.size (fun k_ => some k_ ≠ (.slice Ao122 t397.length co122 : Value).ownBlock) (.slice Ao123 t400.length co123) t400) ∧ (Kd.R (Kd.int .i64) 3 w' w.heap.size (fun _ => True) (.slice Ao129 t404.length co129) t404) ∧ (Kd.S (Kd.slice 3 (Kd.int .i64)) 22 w' w.heap.size (fun k_ => some k_ ≠ (.slice Ao129 t404.length co129 : Value).ownBlock) (.slice Ao130 t407.length co130) t407) ∧ (Kd.R (Kd.int .i64) 3 w' w.heap.size (fun _ => True) s_.1 t422) ∧ (Kd.S (Kd.slice 3 (Kd.int .i64)) 22 w' w.heap.size (fun k_ => some k_ ≠ (s_.1 : Value).ownBlock) s_.2.1 t425) ∧ (Kd.R (Kd.int .i64) 3 w' w.heap.size (fun _ => True) s_.2.2.1 t428) ∧ (Kd.S (Kd.slice 3 (Kd.int .i64)) 22 w' w.heap.size (fun k_ => some k_ ≠ (s_.2.2.1 : Value).ownBlock) s_.2.2.2.1 t431) ∧ (Kd.R (Kd.int .i64) 3 w' w.heap.size (fun _ => True) s_.2.2.2.2.1 t434) ∧ (Kd.S (Kd.slice 3 (Kd.int .i64)) 22 w' w.heap.size (fun k_ => some k_ ≠ (s_.2.2.2.2.1 : Value).ownBlock) s_.2.2.2.2.2.1 t437) ∧ (w'.heap[gb350]? = some (.cells #[.slice A0_0 l0_0.length c0_0, .slice A0_1 l0_1.length c0_1] 36 (0, 0))) ∧ (w'.heap[gb351]? = some (.cells #[.slice A1_0 l1_0.length c1_0, .slice A1_1 l1_1.length c1_1] 36 (0, 0))) ∧ (w'.heap[gb373]? = some (.cells #[.slice Ao77 t366.length co77, .slice Ao79 t369.length co79] 25 (0, 0))) ∧ (w'.heap[gb380]? = some (.cells #[.slice Ao86 t374.length co86, .slice Ao91 t377.length co91] 25 (0, 0))) ∧ (w'.heap[gb387]? = some (.cells #[.slice Ao97 t381.length co97, .slice Ao103 t384.length co103] 25 (0, 0))) ∧ (w'.heap[gb395]? = some (.cells #[.slice Ao108 t388.length co108, .slice Ao115 t391.length co115] 25 (0, 0))) ∧ (w'.heap[s_.2.2.2.2.2.2]? = some (.cells #[.slice none 0 0, .slice none 0 0] 25 (0, 0))) ∧ (w.heap.size ≤ s_.2.2.2.2.2.2) ∧ (w.heap.size ≤ s_.2.2.2.2.2.2) ∧ (gb350 ≠ s_.2.2.2.2.2.2) ∧ (s_.2.2.2.2.2.2 ≠ gb350) ∧ (gb351 ≠ s_.2.2.2.2.2.2) ∧ (s_.2.2.2.2.2.2 ≠ gb351) ∧ (gb373 ≠ s_.2.2.2.2.2.2) ∧ (s_.2.2.2.2.2.2 ≠ gb373) ∧ (gb380 ≠ s_.2.2.2.2.2.2) ∧ (s_.2.2.2.2.2.2 ≠ gb380) ∧ (gb387 ≠ s_.2.2.2.2.2.2) ∧ (s_.2.2.2.2.2.2 ≠ gb387) ∧ (gb395 ≠ s_.2.2.2.2.2.2) ∧ (s_.2.2.2.2.2.2 ≠ gb395) ∧ (Below w.heap.size w w')) ?_ ?_
 rotate_left
 ·intro hCont
  refine two_ (i := 1) (j := 8) (Ni := some 96) (Nj := some 15) #[true, true, true, false, false, false, false, false, false, false, false] #[true, false, true, false, false, false, false, false, true, false, false] rfl rfl rfl rfl (two_of HT_.out (by kernel_rfl)) (by decide) (by decide) (fun K hK => ?_) (fun K hK => ?_)
  ·skip
   refine goes_ Try.func25 (by kernel_rfl) rfl #[.agg #[.slice A0_0 l0_0.length c0_0, .slice A0_1 l0_1.length c0_1]] (by rfl) rfl rfl (by (try simp only [List.map_toArray, List.map_cons, List.map_nil]); first | done | rfl | (simp only [List.length_drop, List.length_take]; rfl)) ?_
   with_reducible refine (laws_toAlgebra.calls k _ _ l0_0 _ _ l0_1 t422 t425 _ ?side1 ?side2 ?side3 ?side4 A46.out).mono ?_
   (case side1 => exact kC (Kd.C_below HR0_0.out HB.out))
   (case side2 => exact HC0_0.out)
   (case side3 => exact kC (Kd.C_below HR0_1.out HB.out))
   (case side4 => exact HC0_1.out)
   rintro e w147 ⟨v423, v426, rfl, ho0, ho1, hb⟩
   refine ⟨_, rfl, ?_⟩
   obtain ⟨ag148, hag148⟩ := age_at hb
   replace HO356 := ak (age_oldR (kR HO356.out) hb hag148.out)
   replace HO359 := ak (age_oldS (kS HO359.out) hb hag148.out)
   replace HO362 := ak (age_oldR (kR HO362.out) hb hag148.out)
   replace HO365 := ak (age_oldS (kS HO365.out) hb hag148.out)
   replace HO368 := ak (age_oldR (kR HO368.out) hb hag148.out)
   replace HO371 := ak (age_oldS (kS HO371.out) hb hag148.out)
   replace HO376 := ak (age_oldR (kR HO376.out) hb hag148.out)
   replace HO379 := ak (age_oldS (kS HO379.out) hb hag148.out)
   replace HO383 := ak (age_oldR (kR HO383.out) hb hag148.out)
   replace HO386 := ak (age_oldS (kS HO386.out) hb hag148.out)
   replace HO390 := ak (age_oldR (kR HO390.out) hb hag148.out)
   replace HO393 := ak (age_oldS (kS HO393.out) hb hag148.out)
   replace HO399 := ak (age_oldR (kR HO399.out) hb hag148.out)
   replace HO402 := ak (age_oldS (kS HO402.out) hb hag148.out)
   replace HO406 := ak (age_oldR (kR HO406.out) hb hag148.out)
   replace HO409 := ak (age_oldS (kS HO409.out) hb hag148.out)
   have HO424 := ak (Kd.R_lower (age_newR ho0 hag148.out) (below_size (kB HB.out)))
   have HO427 := ak (Kd.S_lower (age_newS ho1 hag148.out) (below_size (kB HB.out)))
   replace BK350 := ak (blk_below (kK BK350.out) hb)
   replace BK351 := ak (blk_below (kK BK351.out) hb)
   replace BK373 := ak (blk_below (kK BK373.out) hb)
   replace BK380 := ak (blk_below (kK BK380.out) hb)
   replace BK387 := ak (blk_below (kK BK387.out) hb)
   replace BK395 := ak (blk_below (kK BK395.out) hb)
   replace HB := ak (below_step (kB HB.out) hb)
   (try clear hb)
   (try clear hb2)
   (try clear hk)
   (try clear hi)
   (try clear ho0)
   (try clear ho1)
   refine hK.out _ _ ⟨(blk_cell BK350.out 0).trans rfl, (blk_cell BK350.out 1).trans rfl, (blk_cell BK351.out 0).trans rfl, (blk_cell BK351.out 1).trans rfl⟩ (fun hHeld => ?_)
   clear hK K
   refine norm_ (a' := ?_) ?_ ?_
   rotate_left
   ·show Act.put _ (some 96) _ = _
    simp only [Act.put, List.setIfInBounds_toArray, List.set_cons_zero, List.set_cons_succ, i64_w, i32_w]
    rfl
   refine two_ (i := 3) (j := 8) (Ni := some 98) (Nj := some 15) #[true, true, true, true, false, false, false, false, false, false, false] #[true, true, true, false, false, false, false, false, true, false, false] rfl rfl rfl rfl (two_of HT_.out (by kernel_rfl)) (by decide) (by decide) (fun K hK => ?_) (fun K hK => ?_)
   ·skip
    refine goes_ Try.func25 (by kernel_rfl) rfl #[.agg #[.slice A1_0 l1_0.length c1_0, .slice A1_1 l1_1.length c1_1]] (by rfl) rfl rfl (by (try simp only [List.map_toArray, List.map_cons, List.map_nil]); first | done | rfl | (simp only [List.length_drop, List.length_take]; rfl)) ?_
    with_reducible refine (laws_toAlgebra.calls k _ _ l1_0 _ _ l1_1 t428 t431 _ ?side1 ?side2 ?side3 ?side4 A47.out).mono ?_
    (case side1 => exact kC (Kd.C_below HR1_0.out HB.out))
    (case side2 => exact HC1_0.out)
    (case side3 => exact kC (Kd.C_below HR1_1.out HB.out))
    (case side4 => exact HC1_1.out)
    rintro e w149 ⟨v429, v432, rfl, ho0, ho1, hb⟩
    refine ⟨_, rfl, ?_⟩
    obtain ⟨ag150, hag150⟩ := age_at hb
    replace HO356 := ak (age_oldR (kR HO356.out) hb hag150.out)
    replace HO359 := ak (age_oldS (kS HO359.out) hb hag150.out)
    replace HO362 := ak (age_oldR (kR HO362.out) hb hag150.out)
    replace HO365 := ak (age_oldS (kS HO365.out) hb hag150.out)
    replace HO368 := ak (age_oldR (kR HO368.out) hb hag150.out)
    replace HO371 := ak (age_oldS (kS HO371.out) hb hag150.out)
    replace HO376 := ak (age_oldR (kR HO376.out) hb hag150.out)
    replace HO379 := ak (age_oldS (kS HO379.out) hb hag150.out)
    replace HO383 := ak (age_oldR (kR HO383.out) hb hag150.out)
    replace HO386 := ak (age_oldS (kS HO386.out) hb hag150.out)
    replace HO390 := ak (age_oldR (kR HO390.out) hb hag150.out)
    replace HO393 := ak (age_oldS (kS HO393.out) hb hag150.out)
    replace HO399 := ak (age_oldR (kR HO399.out) hb hag150.out)
    replace HO402 := ak (age_oldS (kS HO402.out) hb hag150.out)
    replace HO406 := ak (age_oldR (kR HO406.out) hb hag150.out)
    replace HO409 := ak (age_oldS (kS HO409.out) hb hag150.out)
    replace HO424 := ak (age_oldR (kR HO424.out) hb hag150.out)
    replace HO427 := ak (age_oldS (kS HO427.out) hb hag150.out)
    have HO430 := ak (Kd.R_lower (age_newR ho0 hag150.out) (below_size (kB HB.out)))
    have HO433 := ak (Kd.S_lower (age_newS ho1 hag150.out) (below_size (kB HB.out)))
    replace BK350 := ak (blk_below (kK BK350.out) hb)
    replace BK351 := ak (blk_below (kK BK351.out) hb)
    replace BK373 := ak (blk_below (kK BK373.out) hb)
    replace BK380 := ak (blk_below (kK BK380.out) hb)
    replace BK387 := ak (blk_below (kK BK387.out) hb)
    replace BK395 := ak (blk_below (kK BK395.out) hb)
    replace HB := ak (below_step (kB HB.out) hb)
    (try clear hb)
    (try clear hb2)
    (try clear hk)
    (try clear hi)
    (try clear ho0)
    (try clear ho1)
    obtain ⟨Ao151, co151, eo151⟩ := Kd.R_slice HO424.out
    (first | subst eo151 | (injection eo151 with f1_ f2_ f3_; have f4_ := f1_.symm; have f5_ := f3_.symm; clear f1_ f2_ f3_; subst f4_; subst f5_))
    obtain ⟨Ao152, co152, eo152⟩ := Kd.S_slice HO427.out
    (first | subst eo152 | (injection eo152 with f1_ f2_ f3_; have f4_ := f1_.symm; have f5_ := f3_.symm; clear f1_ f2_ f3_; subst f4_; subst f5_))
    obtain ⟨Ao153, co153, eo153⟩ := Kd.R_slice HO430.out
    (first | subst eo153 | (injection eo153 with f1_ f2_ f3_; have f4_ := f1_.symm; have f5_ := f3_.symm; clear f1_ f2_ f3_; subst f4_; subst f5_))
    obtain ⟨Ao154, co154, eo154⟩ := Kd.S_slice HO433.out
    (first | subst eo154 | (injection eo154 with f1_ f2_ f3_; have f4_ := f1_.symm; have f5_ := f3_.symm; clear f1_ f2_ f3_; subst f4_; subst f5_))
    refine hK.out _ _ ⟨(blk_cell BK350.out 0).trans rfl, (blk_cell BK350.out 1).trans rfl, (blk_cell BK351.out 0).trans rfl, (blk_cell BK351.out 1).trans rfl⟩ (fun hHeld => ?_)
    clear hK K
    refine norm_ (a' := ?_) ?_ ?_
    rotate_left
    ·show Act.put _ (some 98) _ = _
     simp only [Act.put, List.setIfInBounds_toArray, List.set_cons_zero, List.set_cons_succ, i64_w, i32_w]
     rfl
    refine two_ (i := 4) (j := 8) (Ni := some 99) (Nj := some 15) #[true, true, true, true, true, false, false, false, false, false, false] #[true, true, true, true, false, false, false, false, true, false, false] rfl rfl rfl rfl (two_of HT_.out (by kernel_rfl)) (by decide) (by decide) (fun K hK => ?_) (fun K hK => ?_)
    ·skip
     refine goes_ Try.func28 (by kernel_rfl) rfl #[.agg #[.slice Ao151 t422.length co151, .slice Ao152 t425.length co152], .agg #[.slice Ao153 t428.length co153, .slice Ao154 t431.length co154]] (by rfl) rfl rfl (by (try simp only [List.map_toArray, List.map_cons, List.map_nil]); first | done | rfl | (simp only [List.length_drop, List.length_take]; rfl)) ?_
     with_reducible refine (impl_StackAlgebras.calls k _ _ t422 _ _ t425 _ _ t428 _ _ t431 t434 t437 t440 _ ?side1 ?side2 ?side3 ?side4 ?side5 ?side6 ?side7 ?side8 A48.out).mono ?_
     (case side1 => exact kC (Kd.R_reads' HO424.out).2.2)
     (case side2 => exact (Kd.R_reads' HO424.out).2.1)
     (case side3 => exact kC (Kd.S_reads' HO427.out).2.2)
     (case side4 => exact (Kd.S_reads' HO427.out).2.1)
     (case side5 => exact kC (Kd.R_reads' HO430.out).2.2)
     (case side6 => exact (Kd.R_reads' HO430.out).2.1)
     (case side7 => exact kC (Kd.S_reads' HO433.out).2.2)
     (case side8 => exact (Kd.S_reads' HO433.out).2.1)
     rintro e w155 ⟨v435, v438, rfl, ho0, ho1, hb⟩
     refine ⟨_, rfl, ?_⟩
     obtain ⟨ag156, hag156⟩ := age_at hb
     replace HO356 := ak (age_oldR (kR HO356.out) hb hag156.out)
     replace HO359 := ak (age_oldS (kS HO359.out) hb hag156.out)
     replace HO362 := ak (age_oldR (kR HO362.out) hb hag156.out)
     replace HO365 := ak (age_oldS (kS HO365.out) hb hag156.out)
     replace HO368 := ak (age_oldR (kR HO368.out) hb hag156.out)
     replace HO371 := ak (age_oldS (kS HO371.out) hb hag156.out)
     replace HO376 := ak (age_oldR (kR HO376.out) hb hag156.out)
     replace HO379 := ak (age_oldS (kS HO379.out) hb hag156.out)
     replace HO383 := ak (age_oldR (kR HO383.out) hb hag156.out)
     replace HO386 := ak (age_oldS (kS HO386.out) hb hag156.out)
     replace HO390 := ak (age_oldR (kR HO390.out) hb hag156.out)
     replace HO393 := ak (age_oldS (kS HO393.out) hb hag156.out)
     replace HO399 := ak (age_oldR (kR HO399.out) hb hag156.out)
     replace HO402 := ak (age_oldS (kS HO402.out) hb hag156.out)
     replace HO406 := ak (age_oldR (kR HO406.out) hb hag156.out)
     replace HO409 := ak (age_oldS (kS HO409.out) hb hag156.out)
     replace HO424 := ak (age_oldR (kR HO424.out) hb hag156.out)
     replace HO427 := ak (age_oldS (kS HO427.out) hb hag156.out)
     replace HO430 := ak (age_oldR (kR HO430.out) hb hag156.out)
     replace HO433 := ak (age_oldS (kS HO433.out) hb hag156.out)
     have HO436 := ak (Kd.R_lower (age_newR ho0 hag156.out) (below_size (kB HB.out)))
     have HO439 := ak (Kd.S_lower (age_newS ho1 hag156.out) (below_size (kB HB.out)))
     replace BK350 := ak (blk_below (kK BK350.out) hb)
     replace BK351 := ak (blk_below (kK BK351.out) hb)
     replace BK373 := ak (blk_below (kK BK373.out) hb)
     replace BK380 := ak (blk_below (kK BK380.out) hb)
     replace BK387 := ak (blk_below (kK BK387.out) hb)
     replace BK395 := ak (blk_below (kK BK395.out) hb)
     replace HB := ak (below_step (kB HB.out) hb)
     (try clear hb)
     (try clear hb2)
     (try clear hk)
     (try clear hi)
     (try clear ho0)
     (try clear ho1)
     refine hK.out _ _ ⟨(blk_cell BK350.out 0).trans rfl, (blk_cell BK350.out 1).trans rfl, (blk_cell BK351.out 0).trans rfl, (blk_cell BK351.out 1).trans rfl⟩ (fun hHeld => ?_)
     clear hK K
     refine norm_ (a' := ?_) ?_ ?_
     rotate_left
     ·show Act.put _ (some 99) _ = _
      simp only [Act.put, List.setIfInBounds_toArray, List.set_cons_zero, List.set_cons_succ, i64_w, i32_w]
      rfl
     refine pure_ (i := 5) (N := some 94) (v := ?_) (a' := ?_) #[true, true, true, true, true, true, false, false, false, false, false] rfl rfl (any_of HT_.out (by kernel_rfl)) (fun _ _ _ h => h) (Or.inl ⟨by rfl, ?_⟩) ?_ ?_
     rotate_left
     ·intro w'
      go_simp
      with_reducible rfl
     rotate_left
     ·simp only [Act.put, List.setIfInBounds_toArray, List.set_cons_zero, List.set_cons_succ, i64_w, i32_w]
      rfl
     refine pure_ (i := 6) (N := some 100) (v := ?_) (a' := ?_) #[true, true, true, true, true, true, true, false, false, false, false] rfl rfl (any_of HT_.out (by kernel_rfl)) (fun _ _ _ h => h) (Or.inl ⟨by rfl, ?_⟩) ?_ ?_
     rotate_left
     ·intro w'
      go_simp
      with_reducible rfl
     rotate_left
     ·simp only [Act.put, List.setIfInBounds_toArray, List.set_cons_zero, List.set_cons_succ, i64_w, i32_w]
      rfl
     refine pure_ (i := 7) (N := some 101) (v := ?_) (a' := ?_) #[true, true, true, true, true, true, true, true, false, false, false] rfl rfl (any_of HT_.out (by kernel_rfl)) (fun _ _ _ h => h) (Or.inl ⟨by rfl, ?_⟩) ?_ ?_
     rotate_left
     ·intro w'
      go_simp
      with_reducible rfl
     rotate_left
     ·simp only [Act.put, List.setIfInBounds_toArray, List.set_cons_zero, List.set_cons_succ, i64_w, i32_w]
      rfl
     refine one_ (i := 8) (N := some 15) #[true, true, true, true, true, true, true, true, true, false, false] rfl rfl (one_of HT_.out (by kernel_rfl)) (by decide) (fun K hK => ?_)
     refine box_step ?hg (N := 15) ?hd (cs := #[.slice none 0 0, .slice none 0 0]) (t := 25) ?hr ?_; (case hd => rfl); (case hg => rfl); (case hr => first | (go_simp; done) | (go_simp; rfl))
     intro gb441 hg w157 hbox hb
     replace HO356 := ak (Kd.R_below (kR HO356.out) hb)
     replace HO359 := ak (Kd.S_below (kS HO359.out) hb)
     replace HO362 := ak (Kd.R_below (kR HO362.out) hb)
     replace HO365 := ak (Kd.S_below (kS HO365.out) hb)
     replace HO368 := ak (Kd.R_below (kR HO368.out) hb)
     replace HO371 := ak (Kd.S_below (kS HO371.out) hb)
     replace HO376 := ak (Kd.R_below (kR HO376.out) hb)
     replace HO379 := ak (Kd.S_below (kS HO379.out) hb)
     replace HO383 := ak (Kd.R_below (kR HO383.out) hb)
     replace HO386 := ak (Kd.S_below (kS HO386.out) hb)
     replace HO390 := ak (Kd.R_below (kR HO390.out) hb)
     replace HO393 := ak (Kd.S_below (kS HO393.out) hb)
     replace HO399 := ak (Kd.R_below (kR HO399.out) hb)
     replace HO402 := ak (Kd.S_below (kS HO402.out) hb)
     replace HO406 := ak (Kd.R_below (kR HO406.out) hb)
     replace HO409 := ak (Kd.S_below (kS HO409.out) hb)
     replace HO424 := ak (Kd.R_below (kR HO424.out) hb)
     replace HO427 := ak (Kd.S_below (kS HO427.out) hb)
     replace HO430 := ak (Kd.R_below (kR HO430.out) hb)
     replace HO433 := ak (Kd.S_below (kS HO433.out) hb)
     replace HO436 := ak (Kd.R_below (kR HO436.out) hb)
     replace HO439 := ak (Kd.S_below (kS HO439.out) hb)
     have BK441 := ak (hbox)
     have GW441 := ak (ge_box hg (kB HB.out))
     have GE441 := ak (ge_box hg (kB HB.out))
     replace HB := ak (below_step (kB HB.out) hb)
     have NB350_441 := ak ((ne_box hg (kK BK350.out)))
     have NB441_350 := ak ((ne_box' hg (kK BK350.out)))
     replace BK350 := ak (blk_below (kK BK350.out) hb)
     have NB351_441 := ak ((ne_box hg (kK BK351.out)))
     have NB441_351 := ak ((ne_box' hg (kK BK351.out)))
     replace BK351 := ak (blk_below (kK BK351.out) hb)
     have NB373_441 := ak ((ne_box hg (kK BK373.out)))
     have NB441_373 := ak ((ne_box' hg (kK BK373.out)))
     replace BK373 := ak (blk_below (kK BK373.out) hb)
     have NB380_441 := ak ((ne_box hg (kK BK380.out)))
     have NB441_380 := ak ((ne_box' hg (kK BK380.out)))
     replace BK380 := ak (blk_below (kK BK380.out) hb)
     have NB387_441 := ak ((ne_box hg (kK BK387.out)))
     have NB441_387 := ak ((ne_box' hg (kK BK387.out)))
     replace BK387 := ak (blk_below (kK BK387.out) hb)
     have NB395_441 := ak ((ne_box hg (kK BK395.out)))
     have NB441_395 := ak ((ne_box' hg (kK BK395.out)))
     replace BK395 := ak (blk_below (kK BK395.out) hb)
     clear hb hbox hg
     refine hK.out _ _ ⟨(blk_cell BK350.out 0).trans rfl, (blk_cell BK350.out 1).trans rfl, (blk_cell BK351.out 0).trans rfl, (blk_cell BK351.out 1).trans rfl⟩ (fun hHeld => ?_)
     clear hK K
     refine norm_ (a' := ?_) ?_ ?_
     rotate_left
     ·show Act.put _ (some 15) _ = _
      simp only [Act.put, List.setIfInBounds_toArray, List.set_cons_zero, List.set_cons_succ, i64_w, i32_w]
      rfl
     exact norm_ (by simp only [putAll, Act.put, List.setIfInBounds_toArray, List.set_cons_zero, List.set_cons_succ]) (hCont (.slice Ao151 t422.length co151, .slice Ao152 t425.length co152, .slice Ao153 t428.length co153, .slice Ao154 t431.length co154, v435, v438, gb441) _ ⟨hHeld, (kR (Kd.R_mono HO356.out (fun _ hk => trivial))), (kS (Kd.S_mono HO359.out (fun _ hk => hk.1.1.1.1.1.1.1.1.1.1.1.1.1))), (kR (Kd.R_mono HO362.out (fun _ hk => trivial))), (kS (Kd.S_mono HO365.out (fun _ hk => hk.1.1.1.1.1.1.1.1.1.1.1.1.1))), (kR (Kd.R_mono HO368.out (fun _ hk => trivial))), (kS (Kd.S_mono HO371.out (fun _ hk => hk.1.1.1.1.1.1.1.1.1.1.1.1.1))), (kR (Kd.R_mono HO376.out (fun _ hk => trivial))), (kS (Kd.S_mono HO379.out (fun _ hk => hk.1.1.1.1.1.1.1.1.1.1.1.1.1.1.1.1.1.1.1))), (kR (Kd.R_mono HO383.out (fun _ hk => trivial))), (kS (Kd.S_mono HO386.out (fun _ hk => hk.1.1.1.1.1.1.1.1.1.1.1.1.1.1.1.1.1.1))), (kR (Kd.R_mono HO390.out (fun _ hk => trivial))), (kS (Kd.S_mono HO393.out (fun _ hk => hk.1.1.1.1.1.1.1.1.1.1.1.1.1.1.1.1.1))), (kR (Kd.R_mono HO399.out (fun _ hk => trivial))), (kS (Kd.S_mono HO402.out (fun _ hk => hk.1.1.1.1.1.1.1.1.1))), (kR (Kd.R_mono HO406.out (fun _ hk => trivial))), (kS (Kd.S_mono HO409.out (fun _ hk => hk.1.1.1.1.1.1.1))), (kR (Kd.R_mono HO424.out (fun _ hk => trivial))), (kS (Kd.S_mono HO427.out (fun _ hk => hk.1.1.1))), (kR (Kd.R_mono HO430.out (fun _ hk => trivial))), (kS (Kd.S_mono HO433.out (fun _ hk => hk.1.1))), (kR (Kd.R_mono HO436.out (fun _ hk => trivial))), (kS (Kd.S_mono HO439.out (fun _ hk => hk.1))), (kK BK350.out), (kK BK351.out), (kK BK373.out), (kK BK380.out), (kK BK387.out), (kK BK395.out), (kK BK441.out), GW441.out, GE441.out, NB350_441.out, NB441_350.out, NB351_441.out, NB441_351.out, NB373_441.out, NB441_373.out, NB380_441.out, NB441_380.out, NB387_441.out, NB441_387.out, NB395_441.out, NB441_395.out, (bB HB.out)⟩)
    ·skip
     refine box_step ?hg (N := 15) ?hd (cs := #[.slice none 0 0, .slice none 0 0]) (t := 25) ?hr ?_; (case hd => rfl); (case hg => rfl); (case hr => first | (go_simp; done) | (go_simp; rfl))
     intro gb441 hg w151 hbox hb
     replace HO356 := ak (Kd.R_below (kR HO356.out) hb)
     replace HO359 := ak (Kd.S_below (kS HO359.out) hb)
     replace HO362 := ak (Kd.R_below (kR HO362.out) hb)
     replace HO365 := ak (Kd.S_below (kS HO365.out) hb)
     replace HO368 := ak (Kd.R_below (kR HO368.out) hb)
     replace HO371 := ak (Kd.S_below (kS HO371.out) hb)
     replace HO376 := ak (Kd.R_below (kR HO376.out) hb)
     replace HO379 := ak (Kd.S_below (kS HO379.out) hb)
     replace HO383 := ak (Kd.R_below (kR HO383.out) hb)
     replace HO386 := ak (Kd.S_below (kS HO386.out) hb)
     replace HO390 := ak (Kd.R_below (kR HO390.out) hb)
     replace HO393 := ak (Kd.S_below (kS HO393.out) hb)
     replace HO399 := ak (Kd.R_below (kR HO399.out) hb)
     replace HO402 := ak (Kd.S_below (kS HO402.out) hb)
     replace HO406 := ak (Kd.R_below (kR HO406.out) hb)
     replace HO409 := ak (Kd.S_below (kS HO409.out) hb)
     replace HO424 := ak (Kd.R_below (kR HO424.out) hb)
     replace HO427 := ak (Kd.S_below (kS HO427.out) hb)
     replace HO430 := ak (Kd.R_below (kR HO430.out) hb)
     replace HO433 := ak (Kd.S_below (kS HO433.out) hb)
     have BK441 := ak (hbox)
     have GW441 := ak (ge_box hg (kB HB.out))
     have GE441 := ak (ge_box hg (kB HB.out))
     replace HB := ak (below_step (kB HB.out) hb)
     have NB350_441 := ak ((ne_box hg (kK BK350.out)))
     have NB441_350 := ak ((ne_box' hg (kK BK350.out)))
     replace BK350 := ak (blk_below (kK BK350.out) hb)
     have NB351_441 := ak ((ne_box hg (kK BK351.out)))
     have NB441_351 := ak ((ne_box' hg (kK BK351.out)))
     replace BK351 := ak (blk_below (kK BK351.out) hb)
     have NB373_441 := ak ((ne_box hg (kK BK373.out)))
     have NB441_373 := ak ((ne_box' hg (kK BK373.out)))
     replace BK373 := ak (blk_below (kK BK373.out) hb)
     have NB380_441 := ak ((ne_box hg (kK BK380.out)))
     have NB441_380 := ak ((ne_box' hg (kK BK380.out)))
     replace BK380 := ak (blk_below (kK BK380.out) hb)
     have NB387_441 := ak ((ne_box hg (kK BK387.out)))
     have NB441_387 := ak ((ne_box' hg (kK BK387.out)))
     replace BK387 := ak (blk_below (kK BK387.out) hb)
     have NB395_441 := ak ((ne_box hg (kK BK395.out)))
     have NB441_395 := ak ((ne_box' hg (kK BK395.out)))
     replace BK395 := ak (blk_below (kK BK395.out) hb)
     clear hb hbox hg
     obtain ⟨Ao152, co152, eo152⟩ := Kd.R_slice HO424.out
     (first | subst eo152 | (injection eo152 with f1_ f2_ f3_; have f4_ := f1_.symm; have f5_ := f3_.symm; clear f1_ f2_ f3_; subst f4_; subst f5_))
     obtain ⟨Ao153, co153, eo153⟩ := Kd.S_slice HO427.out
     (first | subst eo153 | (injection eo153 with f1_ f2_ f3_; have f4_ := f1_.symm; have f5_ := f3_.symm; clear f1_ f2_ f3_; subst f4_; subst f5_))
     obtain ⟨Ao154, co154, eo154⟩ := Kd.R_slice HO430.out
     (first | subst eo154 | (injection eo154 with f1_ f2_ f3_; have f4_ := f1_.symm; have f5_ := f3_.symm; clear f1_ f2_ f3_; subst f4_; subst f5_))
     obtain ⟨Ao155, co155, eo155⟩ := Kd.S_slice HO433.out
     (first | subst eo155 | (injection eo155 with f1_ f2_ f3_; have f4_ := f1_.symm; have f5_ := f3_.symm; clear f1_ f2_ f3_; subst f4_; subst f5_))
     refine hK.out _ _ ⟨(blk_cell BK350.out 0).trans rfl, (blk_cell BK350.out 1).trans rfl, (blk_cell BK351.out 0).trans rfl, (blk_cell BK351.out 1).trans rfl⟩ (fun hHeld => ?_)
     clear hK K
     refine norm_ (a' := ?_) ?_ ?_
     rotate_left
     ·show Act.put _ (some 15) _ = _
      simp only [Act.put, List.setIfInBounds_toArray, List.set_cons_zero, List.set_cons_succ, i64_w, i32_w]
      rfl
     refine one_ (i := 4) (N := some 99) #[true, true, true, true, true, false, false, false, true, false, false] rfl rfl (one_of HT_.out (by kernel_rfl)) (by decide) (fun K hK => ?_)
     refine goes_ Try.func28 (by kernel_rfl) rfl #[.agg #[.slice Ao152 t422.length co152, .slice Ao153 t425.length co153], .agg #[.slice Ao154 t428.length co154, .slice Ao155 t431.length co155]] (by rfl) rfl rfl (by (try simp only [List.map_toArray, List.map_cons, List.map_nil]); first | done | rfl | (simp only [List.length_drop, List.length_take]; rfl)) ?_
     with_reducible refine (impl_StackAlgebras.calls k _ _ t422 _ _ t425 _ _ t428 _ _ t431 t434 t437 t440 _ ?side1 ?side2 ?side3 ?side4 ?side5 ?side6 ?side7 ?side8 A48.out).mono ?_
     (case side1 => exact kC (Kd.R_reads' HO424.out).2.2)
     (case side2 => exact (Kd.R_reads' HO424.out).2.1)
     (case side3 => exact kC (Kd.S_reads' HO427.out).2.2)
     (case side4 => exact (Kd.S_reads' HO427.out).2.1)
     (case side5 => exact kC (Kd.R_reads' HO430.out).2.2)
     (case side6 => exact (Kd.R_reads' HO430.out).2.1)
     (case side7 => exact kC (Kd.S_reads' HO433.out).2.2)
     (case side8 => exact (Kd.S_reads' HO433.out).2.1)
     rintro e w156 ⟨v435, v438, rfl, ho0, ho1, hb⟩
     refine ⟨_, rfl, ?_⟩
     obtain ⟨ag157, hag157⟩ := age_at hb
     replace HO356 := ak (age_oldR (kR HO356.out) hb hag157.out)
     replace HO359 := ak (age_oldS (kS HO359.out) hb hag157.out)
     replace HO362 := ak (age_oldR (kR HO362.out) hb hag157.out)
     replace HO365 := ak (age_oldS (kS HO365.out) hb hag157.out)
     replace HO368 := ak (age_oldR (kR HO368.out) hb hag157.out)
     replace HO371 := ak (age_oldS (kS HO371.out) hb hag157.out)
     replace HO376 := ak (age_oldR (kR HO376.out) hb hag157.out)
     replace HO379 := ak (age_oldS (kS HO379.out) hb hag157.out)
     replace HO383 := ak (age_oldR (kR HO383.out) hb hag157.out)
     replace HO386 := ak (age_oldS (kS HO386.out) hb hag157.out)
     replace HO390 := ak (age_oldR (kR HO390.out) hb hag157.out)
     replace HO393 := ak (age_oldS (kS HO393.out) hb hag157.out)
     replace HO399 := ak (age_oldR (kR HO399.out) hb hag157.out)
     replace HO402 := ak (age_oldS (kS HO402.out) hb hag157.out)
     replace HO406 := ak (age_oldR (kR HO406.out) hb hag157.out)
     replace HO409 := ak (age_oldS (kS HO409.out) hb hag157.out)
     replace HO424 := ak (age_oldR (kR HO424.out) hb hag157.out)
     replace HO427 := ak (age_oldS (kS HO427.out) hb hag157.out)
     replace HO430 := ak (age_oldR (kR HO430.out) hb hag157.out)
     replace HO433 := ak (age_oldS (kS HO433.out) hb hag157.out)
     have HO436 := ak (Kd.R_lower (age_newR ho0 hag157.out) (below_size (kB HB.out)))
     have HO439 := ak (Kd.S_lower (age_newS ho1 hag157.out) (below_size (kB HB.out)))
     replace BK350 := ak (blk_below (kK BK350.out) hb)
     replace BK351 := ak (blk_below (kK BK351.out) hb)
     replace BK373 := ak (blk_below (kK BK373.out) hb)
     replace BK380 := ak (blk_below (kK BK380.out) hb)
     replace BK387 := ak (blk_below (kK BK387.out) hb)
     replace BK395 := ak (blk_below (kK BK395.out) hb)
     replace BK441 := ak (blk_below (kK BK441.out) hb)
     replace HB := ak (below_step (kB HB.out) hb)
     (try clear hb)
     (try clear hb2)
     (try clear hk)
     (try clear hi)
     (try clear ho0)
     (try clear ho1)
     refine hK.out _ _ ⟨(blk_cell BK350.out 0).trans rfl, (blk_cell BK350.out 1).trans rfl, (blk_cell BK351.out 0).trans rfl, (blk_cell BK351.out 1).trans rfl⟩ (fun hHeld => ?_)
     clear hK K
     refine norm_ (a' := ?_) ?_ ?_
     rotate_left
     ·show Act.put _ (some 99) _ = _
      simp only [Act.put, List.setIfInBounds_toArray, List.set_cons_zero, List.set_cons_succ, i64_w, i32_w]
      rfl
     refine pure_ (i := 5) (N := some 94) (v := ?_) (a' := ?_) #[true, true, true, true, true, true, false, false, true, false, false] rfl rfl (any_of HT_.out (by kernel_rfl)) (fun _ _ _ h => h) (Or.inl ⟨by rfl, ?_⟩) ?_ ?_
     rotate_left
     ·intro w'
      go_simp
      with_reducible rfl
     rotate_left
     ·simp only [Act.put, List.setIfInBounds_toArray, List.set_cons_zero, List.set_cons_succ, i64_w, i32_w]
      rfl
     refine pure_ (i := 6) (N := some 100) (v := ?_) (a' := ?_) #[true, true, true, true, true, true, true, false, true, false, false] rfl rfl (any_of HT_.out (by kernel_rfl)) (fun _ _ _ h => h) (Or.inl ⟨by rfl, ?_⟩) ?_ ?_
     rotate_left
     ·intro w'
      go_simp
      with_reducible rfl
     rotate_left
     ·simp only [Act.put, List.setIfInBounds_toArray, List.set_cons_zero, List.set_cons_succ, i64_w, i32_w]
      rfl
     refine pure_ (i := 7) (N := some 101) (v := ?_) (a' := ?_) #[true, true, true, true, true, true, true, true, true, false, false] rfl rfl (any_of HT_.out (by kernel_rfl)) (fun _ _ _ h => h) (Or.inl ⟨by rfl, ?_⟩) ?_ ?_
     rotate_left
     ·intro w'
      go_simp
      with_reducible rfl
     rotate_left
     ·simp only [Act.put, List.setIfInBounds_toArray, List.set_cons_zero, List.set_cons_succ, i64_w, i32_w]
      rfl
     exact norm_ (by simp only [putAll, Act.put, List.setIfInBounds_toArray, List.set_cons_zero, List.set_cons_succ]) (hCont (.slice Ao152 t422.length co152, .slice Ao153 t425.length co153, .slice Ao154 t428.length co154, .slice Ao155 t431.length co155, v435, v438, gb441) _ ⟨hHeld, (kR (Kd.R_mono HO356.out (fun _ hk => trivial))), (kS (Kd.S_mono HO359.out (fun _ hk => hk.1.1.1.1.1.1.1.1.1.1.1.1.1))), (kR (Kd.R_mono HO362.out (fun _ hk => trivial))), (kS (Kd.S_mono HO365.out (fun _ hk => hk.1.1.1.1.1.1.1.1.1.1.1.1.1))), (kR (Kd.R_mono HO368.out (fun _ hk => trivial))), (kS (Kd.S_mono HO371.out (fun _ hk => hk.1.1.1.1.1.1.1.1.1.1.1.1.1))), (kR (Kd.R_mono HO376.out (fun _ hk => trivial))), (kS (Kd.S_mono HO379.out (fun _ hk => hk.1.1.1.1.1.1.1.1.1.1.1.1.1.1.1.1.1.1.1))), (kR (Kd.R_mono HO383.out (fun _ hk => trivial))), (kS (Kd.S_mono HO386.out (fun _ hk => hk.1.1.1.1.1.1.1.1.1.1.1.1.1.1.1.1.1.1))), (kR (Kd.R_mono HO390.out (fun _ hk => trivial))), (kS (Kd.S_mono HO393.out (fun _ hk => hk.1.1.1.1.1.1.1.1.1.1.1.1.1.1.1.1.1))), (kR (Kd.R_mono HO399.out (fun _ hk => trivial))), (kS (Kd.S_mono HO402.out (fun _ hk => hk.1.1.1.1.1.1.1.1.1))), (kR (Kd.R_mono HO406.out (fun _ hk => trivial))), (kS (Kd.S_mono HO409.out (fun _ hk => hk.1.1.1.1.1.1.1))), (kR (Kd.R_mono HO424.out (fun _ hk => trivial))), (kS (Kd.S_mono HO427.out (fun _ hk => hk.1.1.1))), (kR (Kd.R_mono HO430.out (fun _ hk => trivial))), (kS (Kd.S_mono HO433.out (fun _ hk => hk.1.1))), (kR (Kd.R_mono HO436.out (fun _ hk => trivial))), (kS (Kd.S_mono HO439.out (fun _ hk => hk.1))), (kK BK350.out), (kK BK351.out), (kK BK373.out), (kK BK380.out), (kK BK387.out), (kK BK395.out), (kK BK441.out), GW441.out, GE441.out, NB350_441.out, NB441_350.out, NB351_441.out, NB441_351.out, NB373_441.out, NB441_373.out, NB380_441.out, NB441_380.out, NB387_441.out, NB441_387.out, NB395_441.out, NB441_395.out, (bB HB.out)⟩)
   ·skip
    refine box_step ?hg (N := 15) ?hd (cs := #[.slice none 0 0, .slice none 0 0]) (t := 25) ?hr ?_; (case hd => rfl); (case hg => rfl); (case hr => first | (go_simp; done) | (go_simp; rfl))
    intro gb441 hg w149 hbox hb
    replace HO356 := ak (Kd.R_below (kR HO356.out) hb)
    replace HO359 := ak (Kd.S_below (kS HO359.out) hb)
    replace HO362 := ak (Kd.R_below (kR HO362.out) hb)
    replace HO365 := ak (Kd.S_below (kS HO365.out) hb)
    replace HO368 := ak (Kd.R_below (kR HO368.out) hb)
    replace HO371 := ak (Kd.S_below (kS HO371.out) hb)
    replace HO376 := ak (Kd.R_below (kR HO376.out) hb)
    replace HO379 := ak (Kd.S_below (kS HO379.out) hb)
    replace HO383 := ak (Kd.R_below (kR HO383.out) hb)
    replace HO386 := ak (Kd.S_below (kS HO386.out) hb)
    replace HO390 := ak (Kd.R_below (kR HO390.out) hb)
    replace HO393 := ak (Kd.S_below (kS HO393.out) hb)
    replace HO399 := ak (Kd.R_below (kR HO399.out) hb)
    replace HO402 := ak (Kd.S_below (kS HO402.out) hb)
    replace HO406 := ak (Kd.R_below (kR HO406.out) hb)
    replace HO409 := ak (Kd.S_below (kS HO409.out) hb)
    replace HO424 := ak (Kd.R_below (kR HO424.out) hb)
    replace HO427 := ak (Kd.S_below (kS HO427.out) hb)
    have BK441 := ak (hbox)
    have GW441 := ak (ge_box hg (kB HB.out))
    have GE441 := ak (ge_box hg (kB HB.out))
    replace HB := ak (below_step (kB HB.out) hb)
    have NB350_441 := ak ((ne_box hg (kK BK350.out)))
    have NB441_350 := ak ((ne_box' hg (kK BK350.out)))
    replace BK350 := ak (blk_below (kK BK350.out) hb)
    have NB351_441 := ak ((ne_box hg (kK BK351.out)))
    have NB441_351 := ak ((ne_box' hg (kK BK351.out)))
    replace BK351 := ak (blk_below (kK BK351.out) hb)
    have NB373_441 := ak ((ne_box hg (kK BK373.out)))
    have NB441_373 := ak ((ne_box' hg (kK BK373.out)))
    replace BK373 := ak (blk_below (kK BK373.out) hb)
    have NB380_441 := ak ((ne_box hg (kK BK380.out)))
    have NB441_380 := ak ((ne_box' hg (kK BK380.out)))
    replace BK380 := ak (blk_below (kK BK380.out) hb)
    have NB387_441 := ak ((ne_box hg (kK BK387.out)))
    have NB441_387 := ak ((ne_box' hg (kK BK387.out)))
    replace BK387 := ak (blk_below (kK BK387.out) hb)
    have NB395_441 := ak ((ne_box hg (kK BK395.out)))
    have NB441_395 := ak ((ne_box' hg (kK BK395.out)))
    replace BK395 := ak (blk_below (kK BK395.out) hb)
    clear hb hbox hg
    refine hK.out _ _ ⟨(blk_cell BK350.out 0).trans rfl, (blk_cell BK350.out 1).trans rfl, (blk_cell BK351.out 0).trans rfl, (blk_cell BK351.out 1).trans rfl⟩ (fun hHeld => ?_)
    clear hK K
    refine norm_ (a' := ?_) ?_ ?_
    rotate_left
    ·show Act.put _ (some 15) _ = _
     simp only [Act.put, List.setIfInBounds_toArray, List.set_cons_zero, List.set_cons_succ, i64_w, i32_w]
     rfl
    refine one_ (i := 3) (N := some 98) #[true, true, true, true, false, false, false, false, true, false, false] rfl rfl (one_of HT_.out (by kernel_rfl)) (by decide) (fun K hK => ?_)
    refine goes_ Try.func25 (by kernel_rfl) rfl #[.agg #[.slice A1_0 l1_0.length c1_0, .slice A1_1 l1_1.length c1_1]] (by rfl) rfl rfl (by (try simp only [List.map_toArray, List.map_cons, List.map_nil]); first | done | rfl | (simp only [List.length_drop, List.length_take]; rfl)) ?_
    with_reducible refine (laws_toAlgebra.calls k _ _ l1_0 _ _ l1_1 t428 t431 _ ?side1 ?side2 ?side3 ?side4 A47.out).mono ?_
    (case side1 => exact kC (Kd.C_below HR1_0.out HB.out))
    (case side2 => exact HC1_0.out)
    (case side3 => exact kC (Kd.C_below HR1_1.out HB.out))
    (case side4 => exact HC1_1.out)
    rintro e w150 ⟨v429, v432, rfl, ho0, ho1, hb⟩
    refine ⟨_, rfl, ?_⟩
    obtain ⟨ag151, hag151⟩ := age_at hb
    replace HO356 := ak (age_oldR (kR HO356.out) hb hag151.out)
    replace HO359 := ak (age_oldS (kS HO359.out) hb hag151.out)
    replace HO362 := ak (age_oldR (kR HO362.out) hb hag151.out)
    replace HO365 := ak (age_oldS (kS HO365.out) hb hag151.out)
    replace HO368 := ak (age_oldR (kR HO368.out) hb hag151.out)
    replace HO371 := ak (age_oldS (kS HO371.out) hb hag151.out)
    replace HO376 := ak (age_oldR (kR HO376.out) hb hag151.out)
    replace HO379 := ak (age_oldS (kS HO379.out) hb hag151.out)
    replace HO383 := ak (age_oldR (kR HO383.out) hb hag151.out)
    replace HO386 := ak (age_oldS (kS HO386.out) hb hag151.out)
    replace HO390 := ak (age_oldR (kR HO390.out) hb hag151.out)
    replace HO393 := ak (age_oldS (kS HO393.out) hb hag151.out)
    replace HO399 := ak (age_oldR (kR HO399.out) hb hag151.out)
    replace HO402 := ak (age_oldS (kS HO402.out) hb hag151.out)
    replace HO406 := ak (age_oldR (kR HO406.out) hb hag151.out)
    replace HO409 := ak (age_oldS (kS HO409.out) hb hag151.out)
    replace HO424 := ak (age_oldR (kR HO424.out) hb hag151.out)
    replace HO427 := ak (age_oldS (kS HO427.out) hb hag151.out)
    have HO430 := ak (Kd.R_lower (age_newR ho0 hag151.out) (below_size (kB HB.out)))
    have HO433 := ak (Kd.S_lower (age_newS ho1 hag151.out) (below_size (kB HB.out)))
    replace BK350 := ak (blk_below (kK BK350.out) hb)
    replace BK351 := ak (blk_below (kK BK351.out) hb)
    replace BK373 := ak (blk_below (kK BK373.out) hb)
    replace BK380 := ak (blk_below (kK BK380.out) hb)
    replace BK387 := ak (blk_below (kK BK387.out) hb)
    replace BK395 := ak (blk_below (kK BK395.out) hb)
    replace BK441 := ak (blk_below (kK BK441.out) hb)
    replace HB := ak (below_step (kB HB.out) hb)
    (try clear hb)
    (try clear hb2)
    (try clear hk)
    (try clear hi)
    (try clear ho0)
    (try clear ho1)
    obtain ⟨Ao152, co152, eo152⟩ := Kd.R_slice HO424.out
    (first | subst eo152 | (injection eo152 with f1_ f2_ f3_; have f4_ := f1_.symm; have f5_ := f3_.symm; clear f1_ f2_ f3_; subst f4_; subst f5_))
    obtain ⟨Ao153, co153, eo153⟩ := Kd.S_slice HO427.out
    (first | subst eo153 | (injection eo153 with f1_ f2_ f3_; have f4_ := f1_.symm; have f5_ := f3_.symm; clear f1_ f2_ f3_; subst f4_; subst f5_))
    obtain ⟨Ao154, co154, eo154⟩ := Kd.R_slice HO430.out
    (first | subst eo154 | (injection eo154 with f1_ f2_ f3_; have f4_ := f1_.symm; have f5_ := f3_.symm; clear f1_ f2_ f3_; subst f4_; subst f5_))
    obtain ⟨Ao155, co155, eo155⟩ := Kd.S_slice HO433.out
    (first | subst eo155 | (injection eo155 with f1_ f2_ f3_; have f4_ := f1_.symm; have f5_ := f3_.symm; clear f1_ f2_ f3_; subst f4_; subst f5_))
    refine hK.out _ _ ⟨(blk_cell BK350.out 0).trans rfl, (blk_cell BK350.out 1).trans rfl, (blk_cell BK351.out 0).trans rfl, (blk_cell BK351.out 1).trans rfl⟩ (fun hHeld => ?_)
    clear hK K
    refine norm_ (a' := ?_) ?_ ?_
    rotate_left
    ·show Act.put _ (some 98) _ = _
     simp only [Act.put, List.setIfInBounds_toArray, List.set_cons_zero, List.set_cons_succ, i64_w, i32_w]
     rfl
    refine one_ (i := 4) (N := some 99) #[true, true, true, true, true, false, false, false, true, false, false] rfl rfl (one_of HT_.out (by kernel_rfl)) (by decide) (fun K hK => ?_)
    refine goes_ Try.func28 (by kernel_rfl) rfl #[.agg #[.slice Ao152 t422.length co152, .slice Ao153 t425.length co153], .agg #[.slice Ao154 t428.length co154, .slice Ao155 t431.length co155]] (by rfl) rfl rfl (by (try simp only [List.map_toArray, List.map_cons, List.map_nil]); first | done | rfl | (simp only [List.length_drop, List.length_take]; rfl)) ?_
    with_reducible refine (impl_StackAlgebras.calls k _ _ t422 _ _ t425 _ _ t428 _ _ t431 t434 t437 t440 _ ?side1 ?side2 ?side3 ?side4 ?side5 ?side6 ?side7 ?side8 A48.out).mono ?_
    (case side1 => exact kC (Kd.R_reads' HO424.out).2.2)
    (case side2 => exact (Kd.R_reads' HO424.out).2.1)
    (case side3 => exact kC (Kd.S_reads' HO427.out).2.2)
    (case side4 => exact (Kd.S_reads' HO427.out).2.1)
    (case side5 => exact kC (Kd.R_reads' HO430.out).2.2)
    (case side6 => exact (Kd.R_reads' HO430.out).2.1)
    (case side7 => exact kC (Kd.S_reads' HO433.out).2.2)
    (case side8 => exact (Kd.S_reads' HO433.out).2.1)
    rintro e w156 ⟨v435, v438, rfl, ho0, ho1, hb⟩
    refine ⟨_, rfl, ?_⟩
    obtain ⟨ag157, hag157⟩ := age_at hb
    replace HO356 := ak (age_oldR (kR HO356.out) hb hag157.out)
    replace HO359 := ak (age_oldS (kS HO359.out) hb hag157.out)
    replace HO362 := ak (age_oldR (kR HO362.out) hb hag157.out)
    replace HO365 := ak (age_oldS (kS HO365.out) hb hag157.out)
    replace HO368 := ak (age_oldR (kR HO368.out) hb hag157.out)
    replace HO371 := ak (age_oldS (kS HO371.out) hb hag157.out)
    replace HO376 := ak (age_oldR (kR HO376.out) hb hag157.out)
    replace HO379 := ak (age_oldS (kS HO379.out) hb hag157.out)
    replace HO383 := ak (age_oldR (kR HO383.out) hb hag157.out)
    replace HO386 := ak (age_oldS (kS HO386.out) hb hag157.out)
    replace HO390 := ak (age_oldR (kR HO390.out) hb hag157.out)
    replace HO393 := ak (age_oldS (kS HO393.out) hb hag157.out)
    replace HO399 := ak (age_oldR (kR HO399.out) hb hag157.out)
    replace HO402 := ak (age_oldS (kS HO402.out) hb hag157.out)
    replace HO406 := ak (age_oldR (kR HO406.out) hb hag157.out)
    replace HO409 := ak (age_oldS (kS HO409.out) hb hag157.out)
    replace HO424 := ak (age_oldR (kR HO424.out) hb hag157.out)
    replace HO427 := ak (age_oldS (kS HO427.out) hb hag157.out)
    replace HO430 := ak (age_oldR (kR HO430.out) hb hag157.out)
    replace HO433 := ak (age_oldS (kS HO433.out) hb hag157.out)
    have HO436 := ak (Kd.R_lower (age_newR ho0 hag157.out) (below_size (kB HB.out)))
    have HO439 := ak (Kd.S_lower (age_newS ho1 hag157.out) (below_size (kB HB.out)))
    replace BK350 := ak (blk_below (kK BK350.out) hb)
    replace BK351 := ak (blk_below (kK BK351.out) hb)
    replace BK373 := ak (blk_below (kK BK373.out) hb)
    replace BK380 := ak (blk_below (kK BK380.out) hb)
    replace BK387 := ak (blk_below (kK BK387.out) hb)
    replace BK395 := ak (blk_below (kK BK395.out) hb)
    replace BK441 := ak (blk_below (kK BK441.out) hb)
    replace HB := ak (below_step (kB HB.out) hb)
    (try clear hb)
    (try clear hb2)
    (try clear hk)
    (try clear hi)
    (try clear ho0)
    (try clear ho1)
    refine hK.out _ _ ⟨(blk_cell BK350.out 0).trans rfl, (blk_cell BK350.out 1).trans rfl, (blk_cell BK351.out 0).trans rfl, (blk_cell BK351.out 1).trans rfl⟩ (fun hHeld => ?_)
    clear hK K
    refine norm_ (a' := ?_) ?_ ?_
    rotate_left
    ·show Act.put _ (some 99) _ = _
     simp only [Act.put, List.setIfInBounds_toArray, List.set_cons_zero, List.set_cons_succ, i64_w, i32_w]
     rfl
    refine pure_ (i := 5) (N := some 94) (v := ?_) (a' := ?_) #[true, true, true, true, true, true, false, false, true, false, false] rfl rfl (any_of HT_.out (by kernel_rfl)) (fun _ _ _ h => h) (Or.inl ⟨by rfl, ?_⟩) ?_ ?_
    rotate_left
    ·intro w'
     go_simp
     with_reducible rfl
    rotate_left
    ·simp only [Act.put, List.setIfInBounds_toArray, List.set_cons_zero, List.set_cons_succ, i64_w, i32_w]
     rfl
    refine pure_ (i := 6) (N := some 100) (v := ?_) (a' := ?_) #[true, true, true, true, true, true, true, false, true, false, false] rfl rfl (any_of HT_.out (by kernel_rfl)) (fun _ _ _ h => h) (Or.inl ⟨by rfl, ?_⟩) ?_ ?_
    rotate_left
    ·intro w'
     go_simp
     with_reducible rfl
    rotate_left
    ·simp only [Act.put, List.setIfInBounds_toArray, List.set_cons_zero, List.set_cons_succ, i64_w, i32_w]
     rfl
    refine pure_ (i := 7) (N := some 101) (v := ?_) (a' := ?_) #[true, true, true, true, true, true, true, true, true, false, false] rfl rfl (any_of HT_.out (by kernel_rfl)) (fun _ _ _ h => h) (Or.inl ⟨by rfl, ?_⟩) ?_ ?_
    rotate_left
    ·intro w'
     go_simp
     with_reducible rfl
    rotate_left
    ·simp only [Act.put, List.setIfInBounds_toArray, List.set_cons_zero, List.set_cons_succ, i64_w, i32_w]
     rfl
    exact norm_ (by simp only [putAll, Act.put, List.setIfInBounds_toArray, List.set_cons_zero, List.set_cons_succ]) (hCont (.slice Ao152 t422.length co152, .slice Ao153 t425.length co153, .slice Ao154 t428.length co154, .slice Ao155 t431.length co155, v435, v438, gb441) _ ⟨hHeld, (kR (Kd.R_mono HO356.out (fun _ hk => trivial))), (kS (Kd.S_mono HO359.out (fun _ hk => hk.1.1.1.1.1.1.1.1.1.1.1.1.1))), (kR (Kd.R_mono HO362.out (fun _ hk => trivial))), (kS (Kd.S_mono HO365.out (fun _ hk => hk.1.1.1.1.1.1.1.1.1.1.1.1.1))), (kR (Kd.R_mono HO368.out (fun _ hk => trivial))), (kS (Kd.S_mono HO371.out (fun _ hk => hk.1.1.1.1.1.1.1.1.1.1.1.1.1))), (kR (Kd.R_mono HO376.out (fun _ hk => trivial))), (kS (Kd.S_mono HO379.out (fun _ hk => hk.1.1.1.1.1.1.1.1.1.1.1.1.1.1.1.1.1.1.1))), (kR (Kd.R_mono HO383.out (fun _ hk => trivial))), (kS (Kd.S_mono HO386.out (fun _ hk => hk.1.1.1.1.1.1.1.1.1.1.1.1.1.1.1.1.1.1))), (kR (Kd.R_mono HO390.out (fun _ hk => trivial))), (kS (Kd.S_mono HO393.out (fun _ hk => hk.1.1.1.1.1.1.1.1.1.1.1.1.1.1.1.1.1))), (kR (Kd.R_mono HO399.out (fun _ hk => trivial))), (kS (Kd.S_mono HO402.out (fun _ hk => hk.1.1.1.1.1.1.1.1.1))), (kR (Kd.R_mono HO406.out (fun _ hk => trivial))), (kS (Kd.S_mono HO409.out (fun _ hk => hk.1.1.1.1.1.1.1))), (kR (Kd.R_mono HO424.out (fun _ hk => trivial))), (kS (Kd.S_mono HO427.out (fun _ hk => hk.1.1.1))), (kR (Kd.R_mono HO430.out (fun _ hk => trivial))), (kS (Kd.S_mono HO433.out (fun _ hk => hk.1.1))), (kR (Kd.R_mono HO436.out (fun _ hk => trivial))), (kS (Kd.S_mono HO439.out (fun _ hk => hk.1))), (kK BK350.out), (kK BK351.out), (kK BK373.out), (kK BK380.out), (kK BK387.out), (kK BK395.out), (kK BK441.out), GW441.out, GE441.out, NB350_441.out, NB441_350.out, NB351_441.out, NB441_351.out, NB373_441.out, NB441_373.out, NB380_441.out, NB441_380.out, NB387_441.out, NB441_387.out, NB395_441.out, NB441_395.out, (bB HB.out)⟩)
  ·skip
   refine box_step ?hg (N := 15) ?hd (cs := #[.slice none 0 0, .slice none 0 0]) (t := 25) ?hr ?_; (case hd => rfl); (case hg => rfl); (case hr => first | (go_simp; done) | (go_simp; rfl))
   intro gb441 hg w147 hbox hb
   replace HO356 := ak (Kd.R_below (kR HO356.out) hb)
   replace HO359 := ak (Kd.S_below (kS HO359.out) hb)
   replace HO362 := ak (Kd.R_below (kR HO362.out) hb)
   replace HO365 := ak (Kd.S_below (kS HO365.out) hb)
   replace HO368 := ak (Kd.R_below (kR HO368.out) hb)
   replace HO371 := ak (Kd.S_below (kS HO371.out) hb)
   replace HO376 := ak (Kd.R_below (kR HO376.out) hb)
   replace HO379 := ak (Kd.S_below (kS HO379.out) hb)
   replace HO383 := ak (Kd.R_below (kR HO383.out) hb)
   replace HO386 := ak (Kd.S_below (kS HO386.out) hb)
   replace HO390 := ak (Kd.R_below (kR HO390.out) hb)
   replace HO393 := ak (Kd.S_below (kS HO393.out) hb)
   replace HO399 := ak (Kd.R_below (kR HO399.out) hb)
   replace HO402 := ak (Kd.S_below (kS HO402.out) hb)
   replace HO406 := ak (Kd.R_below (kR HO406.out) hb)
   replace HO409 := ak (Kd.S_below (kS HO409.out) hb)
   have BK441 := ak (hbox)
   have GW441 := ak (ge_box hg (kB HB.out))
   have GE441 := ak (ge_box hg (kB HB.out))
   replace HB := ak (below_step (kB HB.out) hb)
   have NB350_441 := ak ((ne_box hg (kK BK350.out)))
   have NB441_350 := ak ((ne_box' hg (kK BK350.out)))
   replace BK350 := ak (blk_below (kK BK350.out) hb)
   have NB351_441 := ak ((ne_box hg (kK BK351.out)))
   have NB441_351 := ak ((ne_box' hg (kK BK351.out)))
   replace BK351 := ak (blk_below (kK BK351.out) hb)
   have NB373_441 := ak ((ne_box hg (kK BK373.out)))
   have NB441_373 := ak ((ne_box' hg (kK BK373.out)))
   replace BK373 := ak (blk_below (kK BK373.out) hb)
   have NB380_441 := ak ((ne_box hg (kK BK380.out)))
   have NB441_380 := ak ((ne_box' hg (kK BK380.out)))
   replace BK380 := ak (blk_below (kK BK380.out) hb)
   have NB387_441 := ak ((ne_box hg (kK BK387.out)))
   have NB441_387 := ak ((ne_box' hg (kK BK387.out)))
   replace BK387 := ak (blk_below (kK BK387.out) hb)
   have NB395_441 := ak ((ne_box hg (kK BK395.out)))
   have NB441_395 := ak ((ne_box' hg (kK BK395.out)))
   replace BK395 := ak (blk_below (kK BK395.out) hb)
   clear hb hbox hg
   refine hK.out _ _ ⟨(blk_cell BK350.out 0).trans rfl, (blk_cell BK350.out 1).trans rfl, (blk_cell BK351.out 0).trans rfl, (blk_cell BK351.out 1).trans rfl⟩ (fun hHeld => ?_)
   clear hK K
   refine norm_ (a' := ?_) ?_ ?_
   rotate_left
   ·show Act.put _ (some 15) _ = _
    simp only [Act.put, List.setIfInBounds_toArray, List.set_cons_zero, List.set_cons_succ, i64_w, i32_w]
    rfl
   refine one_ (i := 1) (N := some 96) #[true, true, true, false, false, false, false, false, true, false, false] rfl rfl (one_of HT_.out (by kernel_rfl)) (by decide) (fun K hK => ?_)
   refine goes_ Try.func25 (by kernel_rfl) rfl #[.agg #[.slice A0_0 l0_0.length c0_0, .slice A0_1 l0_1.length c0_1]] (by rfl) rfl rfl (by (try simp only [List.map_toArray, List.map_cons, List.map_nil]); first | done | rfl | (simp only [List.length_drop, List.length_take]; rfl)) ?_
   with_reducible refine (laws_toAlgebra.calls k _ _ l0_0 _ _ l0_1 t422 t425 _ ?side1 ?side2 ?side3 ?side4 A46.out).mono ?_
   (case side1 => exact kC (Kd.C_below HR0_0.out HB.out))
   (case side2 => exact HC0_0.out)
   (case side3 => exact kC (Kd.C_below HR0_1.out HB.out))
   (case side4 => exact HC0_1.out)
   rintro e w148 ⟨v423, v426, rfl, ho0, ho1, hb⟩
   refine ⟨_, rfl, ?_⟩
   obtain ⟨ag149, hag149⟩ := age_at hb
   replace HO356 := ak (age_oldR (kR HO356.out) hb hag149.out)
   replace HO359 := ak (age_oldS (kS HO359.out) hb hag149.out)
   replace HO362 := ak (age_oldR (kR HO362.out) hb hag149.out)
   replace HO365 := ak (age_oldS (kS HO365.out) hb hag149.out)
   replace HO368 := ak (age_oldR (kR HO368.out) hb hag149.out)
   replace HO371 := ak (age_oldS (kS HO371.out) hb hag149.out)
   replace HO376 := ak (age_oldR (kR HO376.out) hb hag149.out)
   replace HO379 := ak (age_oldS (kS HO379.out) hb hag149.out)
   replace HO383 := ak (age_oldR (kR HO383.out) hb hag149.out)
   replace HO386 := ak (age_oldS (kS HO386.out) hb hag149.out)
   replace HO390 := ak (age_oldR (kR HO390.out) hb hag149.out)
   replace HO393 := ak (age_oldS (kS HO393.out) hb hag149.out)
   replace HO399 := ak (age_oldR (kR HO399.out) hb hag149.out)
   replace HO402 := ak (age_oldS (kS HO402.out) hb hag149.out)
   replace HO406 := ak (age_oldR (kR HO406.out) hb hag149.out)
   replace HO409 := ak (age_oldS (kS HO409.out) hb hag149.out)
   have HO424 := ak (Kd.R_lower (age_newR ho0 hag149.out) (below_size (kB HB.out)))
   have HO427 := ak (Kd.S_lower (age_newS ho1 hag149.out) (below_size (kB HB.out)))
   replace BK350 := ak (blk_below (kK BK350.out) hb)
   replace BK351 := ak (blk_below (kK BK351.out) hb)
   replace BK373 := ak (blk_below (kK BK373.out) hb)
   replace BK380 := ak (blk_below (kK BK380.out) hb)
   replace BK387 := ak (blk_below (kK BK387.out) hb)
   replace BK395 := ak (blk_below (kK BK395.out) hb)
   replace BK441 := ak (blk_below (kK BK441.out) hb)
   replace HB := ak (below_step (kB HB.out) hb)
   (try clear hb)
   (try clear hb2)
   (try clear hk)
   (try clear hi)
   (try clear ho0)
   (try clear ho1)
   refine hK.out _ _ ⟨(blk_cell BK350.out 0).trans rfl, (blk_cell BK350.out 1).trans rfl, (blk_cell BK351.out 0).trans rfl, (blk_cell BK351.out 1).trans rfl⟩ (fun hHeld => ?_)
   clear hK K
   refine norm_ (a' := ?_) ?_ ?_
   rotate_left
   ·show Act.put _ (some 96) _ = _
    simp only [Act.put, List.setIfInBounds_toArray, List.set_cons_zero, List.set_cons_succ, i64_w, i32_w]
    rfl
   refine one_ (i := 3) (N := some 98) #[true, true, true, true, false, false, false, false, true, false, false] rfl rfl (one_of HT_.out (by kernel_rfl)) (by decide) (fun K hK => ?_)
   refine goes_ Try.func25 (by kernel_rfl) rfl #[.agg #[.slice A1_0 l1_0.length c1_0, .slice A1_1 l1_1.length c1_1]] (by rfl) rfl rfl (by (try simp only [List.map_toArray, List.map_cons, List.map_nil]); first | done | rfl | (simp only [List.length_drop, List.length_take]; rfl)) ?_
   with_reducible refine (laws_toAlgebra.calls k _ _ l1_0 _ _ l1_1 t428 t431 _ ?side1 ?side2 ?side3 ?side4 A47.out).mono ?_
   (case side1 => exact kC (Kd.C_below HR1_0.out HB.out))
   (case side2 => exact HC1_0.out)
   (case side3 => exact kC (Kd.C_below HR1_1.out HB.out))
   (case side4 => exact HC1_1.out)
   rintro e w150 ⟨v429, v432, rfl, ho0, ho1, hb⟩
   refine ⟨_, rfl, ?_⟩
   obtain ⟨ag151, hag151⟩ := age_at hb
   replace HO356 := ak (age_oldR (kR HO356.out) hb hag151.out)
   replace HO359 := ak (age_oldS (kS HO359.out) hb hag151.out)
   replace HO362 := ak (age_oldR (kR HO362.out) hb hag151.out)
   replace HO365 := ak (age_oldS (kS HO365.out) hb hag151.out)
   replace HO368 := ak (age_oldR (kR HO368.out) hb hag151.out)
   replace HO371 := ak (age_oldS (kS HO371.out) hb hag151.out)
   replace HO376 := ak (age_oldR (kR HO376.out) hb hag151.out)
   replace HO379 := ak (age_oldS (kS HO379.out) hb hag151.out)
   replace HO383 := ak (age_oldR (kR HO383.out) hb hag151.out)
   replace HO386 := ak (age_oldS (kS HO386.out) hb hag151.out)
   replace HO390 := ak (age_oldR (kR HO390.out) hb hag151.out)
   replace HO393 := ak (age_oldS (kS HO393.out) hb hag151.out)
   replace HO399 := ak (age_oldR (kR HO399.out) hb hag151.out)
   replace HO402 := ak (age_oldS (kS HO402.out) hb hag151.out)
   replace HO406 := ak (age_oldR (kR HO406.out) hb hag151.out)
   replace HO409 := ak (age_oldS (kS HO409.out) hb hag151.out)
   replace HO424 := ak (age_oldR (kR HO424.out) hb hag151.out)
   replace HO427 := ak (age_oldS (kS HO427.out) hb hag151.out)
   have HO430 := ak (Kd.R_lower (age_newR ho0 hag151.out) (below_size (kB HB.out)))
   have HO433 := ak (Kd.S_lower (age_newS ho1 hag151.out) (below_size (kB HB.out)))
   replace BK350 := ak (blk_below (kK BK350.out) hb)
   replace BK351 := ak (blk_below (kK BK351.out) hb)
   replace BK373 := ak (blk_below (kK BK373.out) hb)
   replace BK380 := ak (blk_below (kK BK380.out) hb)
   replace BK387 := ak (blk_below (kK BK387.out) hb)
   replace BK395 := ak (blk_below (kK BK395.out) hb)
   replace BK441 := ak (blk_below (kK BK441.out) hb)
   replace HB := ak (below_step (kB HB.out) hb)
   (try clear hb)
   (try clear hb2)
   (try clear hk)
   (try clear hi)
   (try clear ho0)
   (try clear ho1)
   obtain ⟨Ao152, co152, eo152⟩ := Kd.R_slice HO424.out
   (first | subst eo152 | (injection eo152 with f1_ f2_ f3_; have f4_ := f1_.symm; have f5_ := f3_.symm; clear f1_ f2_ f3_; subst f4_; subst f5_))
   obtain ⟨Ao153, co153, eo153⟩ := Kd.S_slice HO427.out
   (first | subst eo153 | (injection eo153 with f1_ f2_ f3_; have f4_ := f1_.symm; have f5_ := f3_.symm; clear f1_ f2_ f3_; subst f4_; subst f5_))
   obtain ⟨Ao154, co154, eo154⟩ := Kd.R_slice HO430.out
   (first | subst eo154 | (injection eo154 with f1_ f2_ f3_; have f4_ := f1_.symm; have f5_ := f3_.symm; clear f1_ f2_ f3_; subst f4_; subst f5_))
   obtain ⟨Ao155, co155, eo155⟩ := Kd.S_slice HO433.out
   (first | subst eo155 | (injection eo155 with f1_ f2_ f3_; have f4_ := f1_.symm; have f5_ := f3_.symm; clear f1_ f2_ f3_; subst f4_; subst f5_))
   refine hK.out _ _ ⟨(blk_cell BK350.out 0).trans rfl, (blk_cell BK350.out 1).trans rfl, (blk_cell BK351.out 0).trans rfl, (blk_cell BK351.out 1).trans rfl⟩ (fun hHeld => ?_)
   clear hK K
   refine norm_ (a' := ?_) ?_ ?_
   rotate_left
   ·show Act.put _ (some 98) _ = _
    simp only [Act.put, List.setIfInBounds_toArray, List.set_cons_zero, List.set_cons_succ, i64_w, i32_w]
    rfl
   refine one_ (i := 4) (N := some 99) #[true, true, true, true, true, false, false, false, true, false, false] rfl rfl (one_of HT_.out (by kernel_rfl)) (by decide) (fun K hK => ?_)
   refine goes_ Try.func28 (by kernel_rfl) rfl #[.agg #[.slice Ao152 t422.length co152, .slice Ao153 t425.length co153], .agg #[.slice Ao154 t428.length co154, .slice Ao155 t431.length co155]] (by rfl) rfl rfl (by (try simp only [List.map_toArray, List.map_cons, List.map_nil]); first | done | rfl | (simp only [List.length_drop, List.length_take]; rfl)) ?_
   with_reducible refine (impl_StackAlgebras.calls k _ _ t422 _ _ t425 _ _ t428 _ _ t431 t434 t437 t440 _ ?side1 ?side2 ?side3 ?side4 ?side5 ?side6 ?side7 ?side8 A48.out).mono ?_
   (case side1 => exact kC (Kd.R_reads' HO424.out).2.2)
   (case side2 => exact (Kd.R_reads' HO424.out).2.1)
   (case side3 => exact kC (Kd.S_reads' HO427.out).2.2)
   (case side4 => exact (Kd.S_reads' HO427.out).2.1)
   (case side5 => exact kC (Kd.R_reads' HO430.out).2.2)
   (case side6 => exact (Kd.R_reads' HO430.out).2.1)
   (case side7 => exact kC (Kd.S_reads' HO433.out).2.2)
   (case side8 => exact (Kd.S_reads' HO433.out).2.1)
   rintro e w156 ⟨v435, v438, rfl, ho0, ho1, hb⟩
   refine ⟨_, rfl, ?_⟩
   obtain ⟨ag157, hag157⟩ := age_at hb
   replace HO356 := ak (age_oldR (kR HO356.out) hb hag157.out)
   replace HO359 := ak (age_oldS (kS HO359.out) hb hag157.out)
   replace HO362 := ak (age_oldR (kR HO362.out) hb hag157.out)
   replace HO365 := ak (age_oldS (kS HO365.out) hb hag157.out)
   replace HO368 := ak (age_oldR (kR HO368.out) hb hag157.out)
   replace HO371 := ak (age_oldS (kS HO371.out) hb hag157.out)
   replace HO376 := ak (age_oldR (kR HO376.out) hb hag157.out)
   replace HO379 := ak (age_oldS (kS HO379.out) hb hag157.out)
   replace HO383 := ak (age_oldR (kR HO383.out) hb hag157.out)
   replace HO386 := ak (age_oldS (kS HO386.out) hb hag157.out)
   replace HO390 := ak (age_oldR (kR HO390.out) hb hag157.out)
   replace HO393 := ak (age_oldS (kS HO393.out) hb hag157.out)
   replace HO399 := ak (age_oldR (kR HO399.out) hb hag157.out)
   replace HO402 := ak (age_oldS (kS HO402.out) hb hag157.out)
   replace HO406 := ak (age_oldR (kR HO406.out) hb hag157.out)
   replace HO409 := ak (age_oldS (kS HO409.out) hb hag157.out)
   replace HO424 := ak (age_oldR (kR HO424.out) hb hag157.out)
   replace HO427 := ak (age_oldS (kS HO427.out) hb hag157.out)
   replace HO430 := ak (age_oldR (kR HO430.out) hb hag157.out)
   replace HO433 := ak (age_oldS (kS HO433.out) hb hag157.out)
   have HO436 := ak (Kd.R_lower (age_newR ho0 hag157.out) (below_size (kB HB.out)))
   have HO439 := ak (Kd.S_lower (age_newS ho1 hag157.out) (below_size (kB HB.out)))
   replace BK350 := ak (blk_below (kK BK350.out) hb)
   replace BK351 := ak (blk_below (kK BK351.out) hb)
   replace BK373 := ak (blk_below (kK BK373.out) hb)
   replace BK380 := ak (blk_below (kK BK380.out) hb)
   replace BK387 := ak (blk_below (kK BK387.out) hb)
   replace BK395 := ak (blk_below (kK BK395.out) hb)
   replace BK441 := ak (blk_below (kK BK441.out) hb)
   replace HB := ak (below_step (kB HB.out) hb)
   (try clear hb)
   (try clear hb2)
   (try clear hk)
   (try clear hi)
   (try clear ho0)
   (try clear ho1)
   refine hK.out _ _ ⟨(blk_cell BK350.out 0).trans rfl, (blk_cell BK350.out 1).trans rfl, (blk_cell BK351.out 0).trans rfl, (blk_cell BK351.out 1).trans rfl⟩ (fun hHeld => ?_)
   clear hK K
   refine norm_ (a' := ?_) ?_ ?_
   rotate_left
   ·show Act.put _ (some 99) _ = _
    simp only [Act.put, List.setIfInBounds_toArray, List.set_cons_zero, List.set_cons_succ, i64_w, i32_w]
    rfl
   refine pure_ (i := 5) (N := some 94) (v := ?_) (a' := ?_) #[true, true, true, true, true, true, false, false, true, false, false] rfl rfl (any_of HT_.out (by kernel_rfl)) (fun _ _ _ h => h) (Or.inl ⟨by rfl, ?_⟩) ?_ ?_
   rotate_left
   ·intro w'
    go_simp
    with_reducible rfl
   rotate_left
   ·simp only [Act.put, List.setIfInBounds_toArray, List.set_cons_zero, List.set_cons_succ, i64_w, i32_w]
    rfl
   refine pure_ (i := 6) (N := some 100) (v := ?_) (a' := ?_) #[true, true, true, true, true, true, true, false, true, false, false] rfl rfl (any_of HT_.out (by kernel_rfl)) (fun _ _ _ h => h) (Or.inl ⟨by rfl, ?_⟩) ?_ ?_
   rotate_left
   ·intro w'
    go_simp
    with_reducible rfl
   rotate_left
   ·simp only [Act.put, List.setIfInBounds_toArray, List.set_cons_zero, List.set_cons_succ, i64_w, i32_w]
    rfl
   refine pure_ (i := 7) (N := some 101) (v := ?_) (a' := ?_) #[true, true, true, true, true, true, true, true, true, false, false] rfl rfl (any_of HT_.out (by kernel_rfl)) (fun _ _ _ h => h) (Or.inl ⟨by rfl, ?_⟩) ?_ ?_
   rotate_left
   ·intro w'
    go_simp
    with_reducible rfl
   rotate_left
   ·simp only [Act.put, List.setIfInBounds_toArray, List.set_cons_zero, List.set_cons_succ, i64_w, i32_w]
    rfl
   exact norm_ (by simp only [putAll, Act.put, List.setIfInBounds_toArray, List.set_cons_zero, List.set_cons_succ]) (hCont (.slice Ao152 t422.length co152, .slice Ao153 t425.length co153, .slice Ao154 t428.length co154, .slice Ao155 t431.length co155, v435, v438, gb441) _ ⟨hHeld, (kR (Kd.R_mono HO356.out (fun _ hk => trivial))), (kS (Kd.S_mono HO359.out (fun _ hk => hk.1.1.1.1.1.1.1.1.1.1.1.1.1))), (kR (Kd.R_mono HO362.out (fun _ hk => trivial))), (kS (Kd.S_mono HO365.out (fun _ hk => hk.1.1.1.1.1.1.1.1.1.1.1.1.1))), (kR (Kd.R_mono HO368.out (fun _ hk => trivial))), (kS (Kd.S_mono HO371.out (fun _ hk => hk.1.1.1.1.1.1.1.1.1.1.1.1.1))), (kR (Kd.R_mono HO376.out (fun _ hk => trivial))), (kS (Kd.S_mono HO379.out (fun _ hk => hk.1.1.1.1.1.1.1.1.1.1.1.1.1.1.1.1.1.1.1))), (kR (Kd.R_mono HO383.out (fun _ hk => trivial))), (kS (Kd.S_mono HO386.out (fun _ hk => hk.1.1.1.1.1.1.1.1.1.1.1.1.1.1.1.1.1.1))), (kR (Kd.R_mono HO390.out (fun _ hk => trivial))), (kS (Kd.S_mono HO393.out (fun _ hk => hk.1.1.1.1.1.1.1.1.1.1.1.1.1.1.1.1.1))), (kR (Kd.R_mono HO399.out (fun _ hk => trivial))), (kS (Kd.S_mono HO402.out (fun _ hk => hk.1.1.1.1.1.1.1.1.1))), (kR (Kd.R_mono HO406.out (fun _ hk => trivial))), (kS (Kd.S_mono HO409.out (fun _ hk => hk.1.1.1.1.1.1.1))), (kR (Kd.R_mono HO424.out (fun _ hk => trivial))), (kS (Kd.S_mono HO427.out (fun _ hk => hk.1.1.1))), (kR (Kd.R_mono HO430.out (fun _ hk => trivial))), (kS (Kd.S_mono HO433.out (fun _ hk => hk.1.1))), (kR (Kd.R_mono HO436.out (fun _ hk => trivial))), (kS (Kd.S_mono HO439.out (fun _ hk => hk.1))), (kK BK350.out), (kK BK351.out), (kK BK373.out), (kK BK380.out), (kK BK387.out), (kK BK395.out), (kK BK441.out), GW441.out, GE441.out, NB350_441.out, NB441_350.out, NB351_441.out, NB441_351.out, NB373_441.out, NB441_373.out, NB380_441.out, NB441_380.out, NB387_441.out, NB441_387.out, NB395_441.out, NB441_395.out, (bB HB.out)⟩)
 rintro ⟨v423, v426, v429, v432, v435, v438, gb441⟩ w158 ⟨hS_, h0_, h1_, h2_, h3_, h4_, h5_, h6_, h7_, h8_, h9_, h10_, h11_, h12_, h13_, h14_, h15_, h16_, h17_, h18_, h19_, h20_, h21_, h22_, h23_, h24_, h25_, h26_, h27_, h28_, h29_, h30_, h31_, h32_, h33_, h34_, h35_, h36_, h37_, h38_, h39_, h40_, h41_, h42_, h43_⟩
 have n0_ : Aside0 (Kd.R (Kd.int .i64) 3 w158 w.heap.size (fun _ => True) v355 t354) := ⟨h0_⟩
 have n1_ : Aside0 (Kd.S (Kd.slice 3 (Kd.int .i64)) 22 w158 w.heap.size (fun k_ => some k_ ≠ (v355 : Value).ownBlock) v358 t357) := ⟨h1_⟩
 have n2_ : Aside0 (Kd.R (Kd.int .i64) 3 w158 w.heap.size (fun _ => True) v361 t360) := ⟨h2_⟩
 have n3_ : Aside0 (Kd.S (Kd.slice 3 (Kd.int .i64)) 22 w158 w.heap.size (fun k_ => some k_ ≠ (v361 : Value).ownBlock) v364 t363) := ⟨h3_⟩
 have n4_ : Aside0 (Kd.R (Kd.int .i64) 3 w158 w.heap.size (fun _ => True) (.slice Ao77 t366.length co77) t366) := ⟨h4_⟩
 have n5_ : Aside0 (Kd.S (Kd.slice 3 (Kd.int .i64)) 22 w158 w.heap.size (fun k_ => some k_ ≠ (.slice Ao77 t366.length co77 : Value).ownBlock) (.slice Ao79 t369.length co79) t369) := ⟨h5_⟩
 have n6_ : Aside0 (Kd.R (Kd.int .i64) 3 w158 w.heap.size (fun _ => True) (.slice Ao86 t374.length co86) t412) := ⟨h6_⟩
 have n7_ : Aside0 (Kd.S (Kd.slice 3 (Kd.int .i64)) 22 w158 w.heap.size (fun k_ => some k_ ≠ (.slice Ao86 t374.length co86 : Value).ownBlock) (.slice Ao91 t377.length co91) t413) := ⟨h7_⟩
 have n8_ : Aside0 (Kd.R (Kd.int .i64) 3 w158 w.heap.size (fun _ => True) (.slice Ao97 t381.length co97) t415) := ⟨h8_⟩
 have n9_ : Aside0 (Kd.S (Kd.slice 3 (Kd.int .i64)) 22 w158 w.heap.size (fun k_ => some k_ ≠ (.slice Ao97 t381.length co97 : Value).ownBlock) (.slice Ao103 t384.length co103) t416) := ⟨h9_⟩
 have n10_ : Aside0 (Kd.R (Kd.int .i64) 3 w158 w.heap.size (fun _ => True) (.slice Ao108 t388.length co108) t419) := ⟨h10_⟩
 have n11_ : Aside0 (Kd.S (Kd.slice 3 (Kd.int .i64)) 22 w158 w.heap.size (fun k_ => some k_ ≠ (.slice Ao108 t388.length co108 : Value).ownBlock) (.slice Ao115 t391.length co115) t420) := ⟨h11_⟩
 have n12_ : Aside0 (Kd.R (Kd.int .i64) 3 w158 w.heap.size (fun _ => True) (.slice Ao122 t397.length co122) t397) := ⟨h12_⟩
 have n13_ : Aside0 (Kd.S (Kd.slice 3 (Kd.int .i64)) 22 w158 w.heap.size (fun k_ => some k_ ≠ (.slice Ao122 t397.length co122 : Value).ownBlock) (.slice Ao123 t400.length co123) t400) := ⟨h13_⟩
 have n14_ : Aside0 (Kd.R (Kd.int .i64) 3 w158 w.heap.size (fun _ => True) (.slice Ao129 t404.length co129) t404) := ⟨h14_⟩
 have n15_ : Aside0 (Kd.S (Kd.slice 3 (Kd.int .i64)) 22 w158 w.heap.size (fun k_ => some k_ ≠ (.slice Ao129 t404.length co129 : Value).ownBlock) (.slice Ao130 t407.length co130) t407) := ⟨h15_⟩
 have n16_ : Aside0 (Kd.R (Kd.int .i64) 3 w158 w.heap.size (fun _ => True) v423 t422) := ⟨h16_⟩
 have n17_ : Aside0 (Kd.S (Kd.slice 3 (Kd.int .i64)) 22 w158 w.heap.size (fun k_ => some k_ ≠ (v423 : Value).ownBlock) v426 t425) := ⟨h17_⟩
 have n18_ : Aside0 (Kd.R (Kd.int .i64) 3 w158 w.heap.size (fun _ => True) v429 t428) := ⟨h18_⟩
 have n19_ : Aside0 (Kd.S (Kd.slice 3 (Kd.int .i64)) 22 w158 w.heap.size (fun k_ => some k_ ≠ (v429 : Value).ownBlock) v432 t431) := ⟨h19_⟩
 have n20_ : Aside0 (Kd.R (Kd.int .i64) 3 w158 w.heap.size (fun _ => True) v435 t434) := ⟨h20_⟩
 have n21_ : Aside0 (Kd.S (Kd.slice 3 (Kd.int .i64)) 22 w158 w.heap.size (fun k_ => some k_ ≠ (v435 : Value).ownBlock) v438 t437) := ⟨h21_⟩
 have n22_ : Aside0 (w158.heap[gb350]? = some (.cells #[.slice A0_0 l0_0.length c0_0, .slice A0_1 l0_1.length c0_1] 36 (0, 0))) := ⟨h22_⟩
 have n23_ : Aside0 (w158.heap[gb351]? = some (.cells #[.slice A1_0 l1_0.length c1_0, .slice A1_1 l1_1.length c1_1] 36 (0, 0))) := ⟨h23_⟩
 have n24_ : Aside0 (w158.heap[gb373]? = some (.cells #[.slice Ao77 t366.length co77, .slice Ao79 t369.length co79] 25 (0, 0))) := ⟨h24_⟩
 have n25_ : Aside0 (w158.heap[gb380]? = some (.cells #[.slice Ao86 t374.length co86, .slice Ao91 t377.length co91] 25 (0, 0))) := ⟨h25_⟩
 have n26_ : Aside0 (w158.heap[gb387]? = some (.cells #[.slice Ao97 t381.length co97, .slice Ao103 t384.length co103] 25 (0, 0))) := ⟨h26_⟩
 have n27_ : Aside0 (w158.heap[gb395]? = some (.cells #[.slice Ao108 t388.length co108, .slice Ao115 t391.length co115] 25 (0, 0))) := ⟨h27_⟩
 have n28_ : Aside0 (w158.heap[gb441]? = some (.cells #[.slice none 0 0, .slice none 0 0] 25 (0, 0))) := ⟨h28_⟩
 have n29_ : Aside0 (w.heap.size ≤ gb441) := ⟨h29_⟩
 have n30_ : Aside0 (w.heap.size ≤ gb441) := ⟨h30_⟩
 have n31_ : Aside0 (gb350 ≠ gb441) := ⟨h31_⟩
 have n32_ : Aside0 (gb441 ≠ gb350) := ⟨h32_⟩
 have n33_ : Aside0 (gb351 ≠ gb441) := ⟨h33_⟩
 have n34_ : Aside0 (gb441 ≠ gb351) := ⟨h34_⟩
 have n35_ : Aside0 (gb373 ≠ gb441) := ⟨h35_⟩
 have n36_ : Aside0 (gb441 ≠ gb373) := ⟨h36_⟩
 have n37_ : Aside0 (gb380 ≠ gb441) := ⟨h37_⟩
 have n38_ : Aside0 (gb441 ≠ gb380) := ⟨h38_⟩
 have n39_ : Aside0 (gb387 ≠ gb441) := ⟨h39_⟩
 have n40_ : Aside0 (gb441 ≠ gb387) := ⟨h40_⟩
 have n41_ : Aside0 (gb395 ≠ gb441) := ⟨h41_⟩
 have n42_ : Aside0 (gb441 ≠ gb395) := ⟨h42_⟩
 have n43_ : Aside0 (Below w.heap.size w w158) := ⟨h43_⟩
 clear HO356
 clear HO359
 clear HO362
 clear HO365
 clear HO368
 clear HO371
 clear HO376
 clear HO379
 clear HO383
 clear HO386
 clear HO390
 clear HO393
 clear HO399
 clear HO402
 clear HO406
 clear HO409
 clear BK350
 clear BK351
 clear BK373
 clear BK380
 clear BK387
 clear BK395
 clear HB
 clear h0_ h1_ h2_ h3_ h4_ h5_ h6_ h7_ h8_ h9_ h10_ h11_ h12_ h13_ h14_ h15_ h16_ h17_ h18_ h19_ h20_ h21_ h22_ h23_ h24_ h25_ h26_ h27_ h28_ h29_ h30_ h31_ h32_ h33_ h34_ h35_ h36_ h37_ h38_ h39_ h40_ h41_ h42_ h43_
 have HO356 := n0_
 have HO359 := n1_
 have HO362 := n2_
 have HO365 := n3_
 have HO368 := n4_
 have HO371 := n5_
 have HO376 := n6_
 have HO379 := n7_
 have HO383 := n8_
 have HO386 := n9_
 have HO390 := n10_
 have HO393 := n11_
 have HO399 := n12_
 have HO402 := n13_
 have HO406 := n14_
 have HO409 := n15_
 have HO424 := n16_
 have HO427 := n17_
 have HO430 := n18_
 have HO433 := n19_
 have HO436 := n20_
 have HO439 := n21_
 have BK350 := n22_
 have BK351 := n23_
 have BK373 := n24_
 have BK380 := n25_
 have BK387 := n26_
 have BK395 := n27_
 have BK441 := n28_
 have GW441 := n29_
 have GE441 := n30_
 have NB350_441 := n31_
 have NB441_350 := n32_
 have NB351_441 := n33_
 have NB441_351 := n34_
 have NB373_441 := n35_
 have NB441_373 := n36_
 have NB380_441 := n37_
 have NB441_380 := n38_
 have NB387_441 := n39_
 have NB441_387 := n40_
 have NB395_441 := n41_
 have NB441_395 := n42_
 have HB := n43_
 clear n0_ n1_ n2_ n3_ n4_ n5_ n6_ n7_ n8_ n9_ n10_ n11_ n12_ n13_ n14_ n15_ n16_ n17_ n18_ n19_ n20_ n21_ n22_ n23_ n24_ n25_ n26_ n27_ n28_ n29_ n30_ n31_ n32_ n33_ n34_ n35_ n36_ n37_ n38_ n39_ n40_ n41_ n42_ n43_
 have hHeld : w158.cell? ⟨gb350, 0, none⟩ = some (.slice A0_0 l0_0.length c0_0) ∧ w158.cell? ⟨gb350, 1, none⟩ = some (.slice A0_1 l0_1.length c0_1) ∧ w158.cell? ⟨gb351, 0, none⟩ = some (.slice A1_0 l1_0.length c1_0) ∧ w158.cell? ⟨gb351, 1, none⟩ = some (.slice A1_1 l1_1.length c1_1) := hS_
 obtain ⟨Ao159, co159, eo159⟩ := Kd.R_slice HO436.out
 (first | subst eo159 | (injection eo159 with f1_ f2_ f3_; have f4_ := f1_.symm; have f5_ := f3_.symm; clear f1_ f2_ f3_; subst f4_; subst f5_))
 obtain ⟨Ao161, co161, eo161⟩ := Kd.S_slice HO439.out
 (first | subst eo161 | (injection eo161 with f1_ f2_ f3_; have f4_ := f1_.symm; have f5_ := f3_.symm; clear f1_ f2_ f3_; subst f4_; subst f5_))
 refine norm_ (a' := ?_) ?_ ?_
 rotate_left
 ·simp only [putAll, Act.put, List.setIfInBounds_toArray, List.set_cons_zero, List.set_cons_succ]
  rfl
 refine one_ (i := 9) (N := none) #[true, true, true, true, true, true, true, true, true, true, false] rfl rfl (one_of HT_.out (by kernel_rfl)) (by decide) (fun K hK => ?_)
 have hs160 : w158.cell? ⟨gb441, 0, none⟩ = some (.slice none 0 0) := (blk_cell BK441.out 0).trans rfl
 have hfs160 := blk_frozen BK441.out 0
 have hns160_0 := NB350_441.out
 have hns160_1 := NB351_441.out
 have hns160_2 := NB373_441.out
 have hns160_3 := NB380_441.out
 have hns160_4 := NB387_441.out
 have hns160_5 := NB395_441.out
 have hms160_0 := NB441_350.out
 have hms160_1 := NB441_351.out
 have hms160_2 := NB441_373.out
 have hms160_3 := NB441_380.out
 have hms160_4 := NB441_387.out
 have hms160_5 := NB441_395.out
 have hs162 : w158.cell? ⟨gb441, 1, none⟩ = some (.slice none 0 0) := (blk_cell BK441.out 1).trans rfl
 have hfs162 := blk_frozen BK441.out 1
 have hns162_0 := NB350_441.out
 have hns162_1 := NB351_441.out
 have hns162_2 := NB373_441.out
 have hns162_3 := NB380_441.out
 have hns162_4 := NB387_441.out
 have hns162_5 := NB395_441.out
 have hms162_0 := NB441_350.out
 have hms162_1 := NB441_351.out
 have hms162_2 := NB441_373.out
 have hms162_3 := NB441_380.out
 have hms162_4 := NB441_387.out
 have hms162_5 := NB441_395.out
 refine skip_ (w1 := ?_) (by rfl) rfl ?_ ?_
 rotate_left
 ·go_simp
  rfl
 refine hK.out _ _ ⟨((cell_far (p := ⟨gb441, _, none⟩) NB350_441.out _).trans (((cell_far (p := ⟨gb441, _, none⟩) NB350_441.out _).trans (hHeld.1)))), ((cell_far (p := ⟨gb441, _, none⟩) NB350_441.out _).trans (((cell_far (p := ⟨gb441, _, none⟩) NB350_441.out _).trans (hHeld.2.1)))), ((cell_far (p := ⟨gb441, _, none⟩) NB351_441.out _).trans (((cell_far (p := ⟨gb441, _, none⟩) NB351_441.out _).trans (hHeld.2.2.1)))), ((cell_far (p := ⟨gb441, _, none⟩) NB351_441.out _).trans (((cell_far (p := ⟨gb441, _, none⟩) NB351_441.out _).trans (hHeld.2.2.2))))⟩ (fun hHeld => ?_)
 clear hK K
 refine pure_ (i := 10) (N := some 16) (v := ?_) (a' := ?_) #[true, true, true, true, true, true, true, true, true, true, true] rfl rfl (any_of HT_.out (by kernel_rfl)) (fun _ _ _ h => h) (Or.inl ⟨by rfl, ?_⟩) ?_ ?_
 rotate_left
 ·intro w'
  go_simp
  with_reducible rfl
 rotate_left
 ·simp only [Act.put, List.setIfInBounds_toArray, List.set_cons_zero, List.set_cons_succ, i64_w, i32_w]
  rfl
 refine done_ (done_of HT_.out (by kernel_rfl)) ?_
 have hnb163 := NB441_350.out
 have hnc163 := NB350_441.out
 have hnb164 := NB441_351.out
 have hnc164 := NB351_441.out
 have hnb165 := NB441_373.out
 have hnc165 := NB373_441.out
 have hnb166 := NB441_380.out
 have hnc166 := NB380_441.out
 have hnb167 := NB441_387.out
 have hnc167 := NB387_441.out
 have hnb168 := NB441_395.out
 have hnc168 := NB395_441.out
 have hcz169_0 : w158.cell? ⟨gb441, 0, none⟩ = some (.slice none 0 0) := (blk_cell BK441.out 0).trans rfl
 have hcz169_1 : w158.cell? ⟨gb441, 1, none⟩ = some (.slice none 0 0) := (blk_cell BK441.out 1).trans rfl
 have hfz169_0 := blk_frozen BK441.out 0
 have hfz169_1 := blk_frozen BK441.out 1
 have hcz170_0 : w158.cell? ⟨gb373, 0, none⟩ = some (.slice Ao77 t366.length co77) := (blk_cell BK373.out 0).trans rfl
 have hcz170_1 : w158.cell? ⟨gb373, 1, none⟩ = some (.slice Ao79 t369.length co79) := (blk_cell BK373.out 1).trans rfl
 have hfz170_0 := blk_frozen BK373.out 0
 have hfz170_1 := blk_frozen BK373.out 1
 try go_wp2_with (first | ((with_reducible refine gate_callee (f := 16) rfl ?_); refine goesL_ (some 104) rfl rfl Try.func16 (by kernel_rfl) rfl #[.agg #[.slice Ao159 t434.length co159, .slice Ao161 t437.length co161], .agg #[.slice Ao77 t366.length co77, .slice Ao79 t369.length co79]] rfl (by (try simp only [List.map_toArray, List.map_cons, List.map_nil]); first | done | rfl | (simp only [List.length_drop, List.length_take]; rfl)) ?_; (with_reducible refine (laws_eqAlgebra.calls k _ _ t434 _ _ t437 _ _ t366 _ _ t369 true _ ?side1 ?side2 ?side3 ?side4 ?side5 ?side6 ?side7 ?side8 A49.out).mono ?_); (case side1 => refine (Kd.R_reads' (e := 3) (base := w.heap.size) (ok := fun k_ => True) (n := t434.length) (c := co159) ?_).2.2; exact (kR (s2R HO436.out BK441.out))); (case side2 => exact (Kd.R_reads' HO436.out).2.1); (case side3 => refine (Kd.S_reads' (e := 22) (base := w.heap.size) (ok := fun k_ => some k_ ≠ (.slice Ao159 t434.length co159 : Value).ownBlock) (n := t437.length) (c := co161) ?_).2.2; exact (kS (s2S HO439.out BK441.out))); (case side4 => exact (Kd.S_reads' HO439.out).2.1); (case side5 => refine (Kd.R_reads' (e := 3) (base := w.heap.size) (ok := fun k_ => True) (n := t366.length) (c := co77) ?_).2.2; exact (kR (s2R HO368.out BK441.out))); (case side6 => exact (Kd.R_reads' HO368.out).2.1); (case side7 => refine (Kd.S_reads' (e := 22) (base := w.heap.size) (ok := fun k_ => some k_ ≠ (.slice Ao77 t366.length co77 : Value).ownBlock) (n := t369.length) (c := co79) ?_).2.2; exact (kS (s2S HO371.out BK441.out))); (case side8 => exact (Kd.S_reads' HO371.out).2.1); rintro e w171 ⟨rfl, hb⟩; refine ⟨_, rfl, ?_⟩; obtain ⟨ag172, hag172⟩ := age_at hb; replace HO356 := ak (age_oldR (kR (s2R HO356.out BK441.out)) hb hag172.out); replace HO359 := ak (age_oldS (kS (s2S HO359.out BK441.out)) hb hag172.out); replace HO362 := ak (age_oldR (kR (s2R HO362.out BK441.out)) hb hag172.out); replace HO365 := ak (age_oldS (kS (s2S HO365.out BK441.out)) hb hag172.out); replace HO368 := ak (age_oldR (kR (s2R HO368.out BK441.out)) hb hag172.out); replace HO371 := ak (age_oldS (kS (s2S HO371.out BK441.out)) hb hag172.out); replace HO376 := ak (age_oldR (kR (s2R HO376.out BK441.out)) hb hag172.out); replace HO379 := ak (age_oldS (kS (s2S HO379.out BK441.out)) hb hag172.out); replace HO383 := ak (age_oldR (kR (s2R HO383.out BK441.out)) hb hag172.out); replace HO386 := ak (age_oldS (kS (s2S HO386.out BK441.out)) hb hag172.out); replace HO390 := ak (age_oldR (kR (s2R HO390.out BK441.out)) hb hag172.out); replace HO393 := ak (age_oldS (kS (s2S HO393.out BK441.out)) hb hag172.out); replace HO399 := ak (age_oldR (kR (s2R HO399.out BK441.out)) hb hag172.out); replace HO402 := ak (age_oldS (kS (s2S HO402.out BK441.out)) hb hag172.out); replace HO406 := ak (age_oldR (kR (s2R HO406.out BK441.out)) hb hag172.out); replace HO409 := ak (age_oldS (kS (s2S HO409.out BK441.out)) hb hag172.out); replace HO424 := ak (age_oldR (kR (s2R HO424.out BK441.out)) hb hag172.out); replace HO427 := ak (age_oldS (kS (s2S HO427.out BK441.out)) hb hag172.out); replace HO430 := ak (age_oldR (kR (s2R HO430.out BK441.out)) hb hag172.out); replace HO433 := ak (age_oldS (kS (s2S HO433.out BK441.out)) hb hag172.out); replace HO436 := ak (age_oldR (kR (s2R HO436.out BK441.out)) hb hag172.out); replace HO439 := ak (age_oldS (kS (s2S HO439.out BK441.out)) hb hag172.out); replace BK350 := ak (blk_below (kK (blk_far (blk_far BK350.out NB350_441.out _) NB350_441.out _)) hb); replace BK351 := ak (blk_below (kK (blk_far (blk_far BK351.out NB351_441.out _) NB351_441.out _)) hb); replace BK373 := ak (blk_below (kK (blk_far (blk_far BK373.out NB373_441.out _) NB373_441.out _)) hb); replace BK380 := ak (blk_below (kK (blk_far (blk_far BK380.out NB380_441.out _) NB380_441.out _)) hb); replace BK387 := ak (blk_below (kK (blk_far (blk_far BK387.out NB387_441.out _) NB387_441.out _)) hb); replace BK395 := ak (blk_below (kK (blk_far (blk_far BK395.out NB395_441.out _) NB395_441.out _)) hb); replace BK441 := ak (blk_below (g := gb441) (o := .cells #[.slice Ao159 t434.length co159, .slice Ao161 t437.length co161] 25 (0, 0)) (by refine blk_put (cs := #[.slice Ao159 t434.length co159, .slice none 0 0]) ?_ 1 _ rfl; refine blk_put (cs := #[.slice none 0 0, .slice none 0 0]) ?_ 0 _ rfl; exact BK441.out) hb); replace HB := ak (below_step (by repeat (first | (with_reducible first | exact HB.out | refine below_set ?_ GE441.out) | exact HB.out)) hb); (try clear hb); (try clear hb2); (try clear hk); (try clear hi); have hcz173_0 : w171.cell? ⟨gb395, 0, none⟩ = some (.slice Ao108 t388.length co108) := (blk_cell BK395.out 0).trans rfl; have hcz173_1 : w171.cell? ⟨gb395, 1, none⟩ = some (.slice Ao115 t391.length co115) := (blk_cell BK395.out 1).trans rfl; have hfz173_0 := blk_frozen BK395.out 0; have hfz173_1 := blk_frozen BK395.out 1) | ((with_reducible refine gate_callee (f := 20) rfl ?_); refine goesL_ (some 113) rfl rfl Try.func20 (by kernel_rfl) rfl #[.agg #[.slice Ao108 t419.length co108, .slice Ao115 t420.length co115], .int .i64 1] rfl (by (try simp only [List.map_toArray, List.map_cons, List.map_nil]); first | done | (rw [show t419.length = t388.length from (Kd.R_reads' HO390.out).1.symm, show t420.length = t391.length from (Kd.S_reads' HO393.out).1.symm] <;> rfl) | rfl | (simp only [List.length_drop, List.length_take]; rfl)) ?_; (with_reducible refine (laws_heldAlgebra.calls k _ _ t419 _ _ t420 1 t443 _ ?side1 ?side2 ?side3 ?side4 A52.out).mono ?_); (case side1 => exact kC (Kd.R_reads' HO390.out).2.2); (case side2 => rw [show t419.length = t388.length from (Kd.R_reads' HO390.out).1.symm]; exact (Kd.R_reads' HO390.out).2.1); (case side3 => exact kC (Kd.S_reads' HO393.out).2.2); (case side4 => rw [show t420.length = t391.length from (Kd.S_reads' HO393.out).1.symm]; exact (Kd.S_reads' HO393.out).2.1); rintro e w174 ⟨rfl, hb⟩; refine ⟨_, rfl, ?_⟩; obtain ⟨ag175, hag175⟩ := age_at hb; replace HO356 := ak (age_oldR (kR HO356.out) hb hag175.out); replace HO359 := ak (age_oldS (kS HO359.out) hb hag175.out); replace HO362 := ak (age_oldR (kR HO362.out) hb hag175.out); replace HO365 := ak (age_oldS (kS HO365.out) hb hag175.out); replace HO368 := ak (age_oldR (kR HO368.out) hb hag175.out); replace HO371 := ak (age_oldS (kS HO371.out) hb hag175.out); replace HO376 := ak (age_oldR (kR HO376.out) hb hag175.out); replace HO379 := ak (age_oldS (kS HO379.out) hb hag175.out); replace HO383 := ak (age_oldR (kR HO383.out) hb hag175.out); replace HO386 := ak (age_oldS (kS HO386.out) hb hag175.out); replace HO390 := ak (age_oldR (kR HO390.out) hb hag175.out); replace HO393 := ak (age_oldS (kS HO393.out) hb hag175.out); replace HO399 := ak (age_oldR (kR HO399.out) hb hag175.out); replace HO402 := ak (age_oldS (kS HO402.out) hb hag175.out); replace HO406 := ak (age_oldR (kR HO406.out) hb hag175.out); replace HO409 := ak (age_oldS (kS HO409.out) hb hag175.out); replace HO424 := ak (age_oldR (kR HO424.out) hb hag175.out); replace HO427 := ak (age_oldS (kS HO427.out) hb hag175.out); replace HO430 := ak (age_oldR (kR HO430.out) hb hag175.out); replace HO433 := ak (age_oldS (kS HO433.out) hb hag175.out); replace HO436 := ak (age_oldR (kR HO436.out) hb hag175.out); replace HO439 := ak (age_oldS (kS HO439.out) hb hag175.out); replace BK350 := ak (blk_below (kK BK350.out) hb); replace BK351 := ak (blk_below (kK BK351.out) hb); replace BK373 := ak (blk_below (kK BK373.out) hb); replace BK380 := ak (blk_below (kK BK380.out) hb); replace BK387 := ak (blk_below (kK BK387.out) hb); replace BK395 := ak (blk_below (kK BK395.out) hb); replace BK441 := ak (blk_below (kK BK441.out) hb); replace HB := ak (below_step (kB HB.out) hb); (try clear hb); (try clear hb2); (try clear hk); (try clear hi)))
 go_ret
 exact ⟨by first | rfl | (simp [errW_none, errW_some] <;> rfl) | (simp [*, errW_none, errW_some] <;> rfl), by repeat (first | (with_reducible first | exact HB.out | apply below_alloc | apply pw_below_drewN | apply below_drew1 | refine below_set ?_ GE350.out | refine below_set ?_ GE351.out | refine below_set ?_ GE373.out | refine below_set ?_ GE380.out | refine below_set ?_ GE387.out | refine below_set ?_ GE395.out | refine below_set ?_ GE441.out) | exact HB.out)⟩
/-- THE ONE PURE STATEMENT of laws_FnExactStackAlgebras: yours. -/
def laws_FnExactStackAlgebras.Pure : Prop := ∀ (l0_0 : List Int) (l0_1 : List (List Int)) (l1_0 : List Int) (l1_1 : List (List Int)), l0_0.length ≤ maxLen → (∀ x ∈ l0_0, (Lit.int .i64 x).wf = true) → l0_1.length ≤ maxLen → (∀ r ∈ l0_1, r.length ≤ maxLen ∧ ∀ x ∈ r, (Lit.int .i64 x).wf = true) → l1_0.length ≤ maxLen → (∀ x ∈ l1_0, (Lit.int .i64 x).wf = true) → l1_1.length ≤ maxLen → (∀ r ∈ l1_1, r.length ≤ maxLen ∧ ∀ x ∈ r, (Lit.int .i64 x).wf = true) → ∃ k, laws_FnExactStackAlgebras.f k l0_0 l0_1 l1_0 l1_1 = some true
theorem laws_FnExactStackAlgebras.walk (P : laws_FnExactStackAlgebras.Pure) (A0_0 : Option Addr) (c0_0 : Nat) (l0_0 : List Int) (A0_1 : Option Addr) (c0_1 : Nat) (l0_1 : List (List Int)) (A1_0 : Option Addr) (c1_0 : Nat) (l1_0 : List Int) (A1_1 : Option Addr) (c1_1 : Nat) (l1_1 : List (List Int)) (w : World) (hr0_0 : Kd.C (Kd.int .i64) w A0_0 l0_0.length l0_0) (hc0_0 : l0_0.length ≤ c0_0) (hm0_0 : l0_0.length ≤ maxLen) (hw0_0 : (∀ x ∈ l0_0, (Lit.int .i64 x).wf = true)) (hr0_1 : Kd.C (Kd.slice 3 (Kd.int .i64)) w A0_1 l0_1.length l0_1) (hc0_1 : l0_1.length ≤ c0_1) (hm0_1 : l0_1.length ≤ maxLen) (hw0_1 : (∀ r ∈ l0_1, r.length ≤ maxLen ∧ ∀ x ∈ r, (Lit.int .i64 x).wf = true)) (hr1_0 : Kd.C (Kd.int .i64) w A1_0 l1_0.length l1_0) (hc1_0 : l1_0.length ≤ c1_0) (hm1_0 : l1_0.length ≤ maxLen) (hw1_0 : (∀ x ∈ l1_0, (Lit.int .i64 x).wf = true)) (hr1_1 : Kd.C (Kd.slice 3 (Kd.int .i64)) w A1_1 l1_1.length l1_1) (hc1_1 : l1_1.length ≤ c1_1) (hm1_1 : l1_1.length ≤ maxLen) (hw1_1 : (∀ r ∈ l1_1, r.length ≤ maxLen ∧ ∀ x ∈ r, (Lit.int .i64 x).wf = true)) :
  Calls Try.prog 6 #[.agg #[.slice A0_0 l0_0.length c0_0, .slice A0_1 l0_1.length c0_1], .agg #[.slice A1_0 l1_0.length c1_0, .slice A1_1 l1_1.length c1_1]] w fun e w' => e = .returned (.bool true) ∧ Below w.heap.size w w' := by
 obtain ⟨k, h⟩ := P l0_0 l0_1 l1_0 l1_1 hm0_0 hw0_0 hm0_1 hw0_1 hm1_0 hw1_0 hm1_1 hw1_1
 refine (laws_FnExactStackAlgebras.calls k _ _ l0_0 _ _ l0_1 _ _ l1_0 _ _ l1_1 true w hr0_0 hc0_0 hr0_1 hc0_1 hr1_0 hc1_0 hr1_1 hc1_1 ⟨rfl⟩ h).mono ?_
 rintro e w' ⟨rfl, hd⟩
 exact ⟨rfl, hd⟩
end Go.Proofs.Ytjidbgmkhapklaa.P

-- shrunk
