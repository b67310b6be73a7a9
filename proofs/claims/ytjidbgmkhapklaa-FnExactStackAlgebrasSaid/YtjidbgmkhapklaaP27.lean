-- Printed by this session's wip/print2.py (the kit's print.py, widened) out of the translation. Lean checks it.
import Derived.Test.YtjidbgmkhapklaaP0
import Derived.Test.YtjidbgmkhapklaaP26
namespace Go.Proofs.Ytjidbgmkhapklaa.P
open Go.RowKit Go.Proofs.YtjidbgmkhapklaaW.PrintWords Go.Proofs.YtjidbgmkhapklaaW.PrintLast Go.Proofs.YtjidbgmkhapklaaW.PrintMore
attribute [local go_sem] max2_int min2_int max_two min_two max_three min_three max_four min_four   -- for this text's walks alone
set_option linter.unusedVariables false
set_option linter.unusedSimpArgs false

/-! ### impl_stack: function 76 -/
mutual
def impl_stack.l0 : Nat → List Int → Int → List Int → Int → Int → List Int → List (List Int) → List Int → List (List Int) → Int → Option (List Int × (List (List Int)))
 | 0, _, _, _, _, _, _, _, _, _, _ => none
 | k + 1, x6, x7, x27, x28, x29, x311000, x311001, x312000, x312001, x317000 => if x29 < x28 then (if 0 ≤ x29 then (if x29 < (x27.length : Int) then (if 0 ≤ x317000 then (if x6.length < 17592186044416 then (impl_stack.l0 k (x6 ++ [Go.bits .or .i64 (Go.bits .andNot .i64 (rd x27 x29) (shl .i64 1 x317000)) x7]) x7 x27 x28 (wrap64 (x29 + 1)) x311000 x311001 x312000 x312001 x317000) else (none)) else (none)) else (none)) else (none)) else (impl_stack.l1 k x6 x312000 (x312000.length : Int) 0 x311000 x311001 x312000 x312001 x317000)
def impl_stack.l1 : Nat → List Int → List Int → Int → Int → List Int → List (List Int) → List Int → List (List Int) → Int → Option (List Int × (List (List Int)))
 | 0, _, _, _, _, _, _, _, _, _ => none
 | k + 1, x6, x44, x45, x46, x311000, x311001, x312000, x312001, x317000 => if x46 < x45 then (if 0 ≤ x46 then (if x46 < (x44.length : Int) then (if 0 ≤ x317000 then (if x6.length < 17592186044416 then (impl_stack.l1 k (x6 ++ [shl .i64 (rd x44 x46) x317000]) x44 x45 (wrap64 (x46 + 1)) x311000 x311001 x312000 x312001 x317000) else (none)) else (none)) else (none)) else (none)) else ((bu_stack_1.f k x6 x317000 x312000 x312001 x311000 x311001).bind fun bt326 => (some (bt326.1, bt326.2)))
end
def impl_stack.f (k : Nat) (l0_0 : List Int) (l0_1 : List (List Int)) (l1_0 : List Int) (l1_1 : List (List Int)) : Option (List Int × (List (List Int))) := if 0 ≤ (wrap64 ((l0_0.length : Int) - 1)) then (if (wrap64 ((l0_0.length : Int) - 1)) ≤ (l0_0.length : Int) then (impl_stack.l0 k (([] : List Int)) (shl .i64 (wrap64 ((shl .i64 1 (l1_0.length : Int)) - 1)) (wrap64 ((l0_0.length : Int) - 1))) (l0_0.take ((wrap64 ((l0_0.length : Int) - 1)) : Int).toNat) ((l0_0.take ((wrap64 ((l0_0.length : Int) - 1)) : Int).toNat).length : Int) 0 l0_0 l0_1 l1_0 l1_1 (wrap64 ((l0_0.length : Int) - 1))) else (none)) else (none)
set_option maxHeartbeats 8000000 in
set_option maxRecDepth 100000 in
theorem impl_stack.calls (k : Nat) (A0_0 : Option Addr) (c0_0 : Nat) (l0_0 : List Int) (A0_1 : Option Addr) (c0_1 : Nat) (l0_1 : List (List Int)) (A1_0 : Option Addr) (c1_0 : Nat) (l1_0 : List Int) (A1_1 : Option Addr) (c1_1 : Nat) (l1_1 : List (List Int)) (r1 : List Int) (r2 : List (List Int)) (w : World) (hr0_0 : Kd.C (Kd.int .i64) w A0_0 l0_0.length l0_0) (hc0_0 : l0_0.length ≤ c0_0) (hr0_1 : Kd.C (Kd.slice 3 (Kd.int .i64)) w A0_1 l0_1.length l0_1) (hc0_1 : l0_1.length ≤ c0_1) (hr1_0 : Kd.C (Kd.int .i64) w A1_0 l1_0.length l1_0) (hc1_0 : l1_0.length ≤ c1_0) (hr1_1 : Kd.C (Kd.slice 3 (Kd.int .i64)) w A1_1 l1_1.length l1_1) (hc1_1 : l1_1.length ≤ c1_1) (h : impl_stack.f k l0_0 l0_1 l1_0 l1_1 = some (r1, r2)) :
  Calls Try.prog 76 #[.agg #[.slice A0_0 l0_0.length c0_0, .slice A0_1 l0_1.length c0_1], .agg #[.slice A1_0 l1_0.length c1_0, .slice A1_1 l1_1.length c1_1]] w fun e w' => ∃ v0_ v1_ : Value, e = .returned (.agg #[v0_, v1_]) ∧ Kd.R (Kd.int .i64) 3 w' w.heap.size (fun _ => True) v0_ r1 ∧ Kd.S (Kd.slice 3 (Kd.int .i64)) 22 w' w.heap.size (fun k_ => some k_ ≠ (v0_ : Value).ownBlock) v1_ r2 ∧ Below w.heap.size w w' := by
 have hu25 := Try.underlying25
 have HR0_0 := ak hr0_0
 have HC0_0 := ak hc0_0
 clear hr0_0 hc0_0
 have HR0_1 := ak hr0_1
 have HC0_1 := ak hc0_1
 clear hr0_1 hc0_1
 have HR1_0 := ak hr1_0
 have HC1_0 := ak hc1_0
 clear hr1_0 hc1_0
 have HR1_1 := ak hr1_1
 have HC1_1 := ak hc1_1
 clear hr1_1 hc1_1
 have HB := ak (Below.refl w.heap.size w)
 have H : (if 0 ≤ (wrap64 ((l0_0.length : Int) - 1)) then (if (wrap64 ((l0_0.length : Int) - 1)) ≤ (l0_0.length : Int) then (impl_stack.l0 k (([] : List Int)) (shl .i64 (wrap64 ((shl .i64 1 (l1_0.length : Int)) - 1)) (wrap64 ((l0_0.length : Int) - 1))) (l0_0.take ((wrap64 ((l0_0.length : Int) - 1)) : Int).toNat) ((l0_0.take ((wrap64 ((l0_0.length : Int) - 1)) : Int).toNat).length : Int) 0 l0_0 l0_1 l1_0 l1_1 (wrap64 ((l0_0.length : Int) - 1))) else (none)) else (none)) = some (r1, r2) := h
 clear h
 obtain ⟨y313, hy313⟩ : ∃ y_ : List Int, y_ = (([] : List Int)) := ⟨_, rfl⟩
 replace H : (if 0 ≤ (wrap64 ((l0_0.length : Int) - 1)) then (if (wrap64 ((l0_0.length : Int) - 1)) ≤ (l0_0.length : Int) then (impl_stack.l0 k y313 (shl .i64 (wrap64 ((shl .i64 1 (l1_0.length : Int)) - 1)) (wrap64 ((l0_0.length : Int) - 1))) (l0_0.take ((wrap64 ((l0_0.length : Int) - 1)) : Int).toNat) ((l0_0.take ((wrap64 ((l0_0.length : Int) - 1)) : Int).toNat).length : Int) 0 l0_0 l0_1 l1_0 l1_1 (wrap64 ((l0_0.length : Int) - 1))) else (none)) else (none)) = some (r1, r2) := by first | (rw [hy313]; with_reducible exact H) | (have H2_ := (Option.bind_some _ _).symm.trans H; rw [hy313]; with_reducible exact H2_) | (have H2_ := (Option.bind_some _ _).symm.trans H; with_reducible exact H2_) | with_reducible exact H | (rw [hy313]; exact H) | exact H
 have Ny313 := ak hy313
 clear hy313
 obtain ⟨ji3, hji3⟩ : ∃ j_ : Int, (shl .i64 1 (l1_0.length : Int)) = j_ := ⟨_, rfl⟩
 replace H : (if 0 ≤ (wrap64 ((l0_0.length : Int) - 1)) then (if (wrap64 ((l0_0.length : Int) - 1)) ≤ (l0_0.length : Int) then (impl_stack.l0 k y313 (shl .i64 (wrap64 ((ji3) - 1)) (wrap64 ((l0_0.length : Int) - 1))) (l0_0.take ((wrap64 ((l0_0.length : Int) - 1)) : Int).toNat) ((l0_0.take ((wrap64 ((l0_0.length : Int) - 1)) : Int).toNat).length : Int) 0 l0_0 l0_1 l1_0 l1_1 (wrap64 ((l0_0.length : Int) - 1))) else (none)) else (none)) = some (r1, r2) := by first | (rw [hji3] at H; exact H) | (simp only [hji3] at H ⊢; exact H)
 have hji3_ : (IntKind.i64.wrap (1 * 2 ^ min (l1_0.length : Int).toNat 64)) = ji3 := hji3
 have hji3z : (l1_0.length : Int) ≤ 64 → (IntKind.i64.wrap (1 * 2 ^ (l1_0.length : Int).toNat)) = ji3 := shl_small hji3
 have hji3p : (IntKind.i64.wrap (1 * 2 ^ min l1_0.length 64)) = ji3 := hji3_
 have hji3q : (l1_0.length : Int) ≤ 64 → (IntKind.i64.wrap (1 * 2 ^ l1_0.length)) = ji3 := hji3z
 have hji3r : (IntKind.i64.wrap (2 ^ min l1_0.length 64)) = ji3 := by have h_ := hji3p; rw [Int.one_mul] at h_; exact h_
 have hji3s : (l1_0.length : Int) ≤ 64 → (IntKind.i64.wrap (2 ^ l1_0.length)) = ji3 := fun hle_ => by have h_ := hji3q hle_; rw [Int.one_mul] at h_; exact h_
 have hji3u : (IntKind.i64.wrap (2 ^ min (l1_0.length : Int).toNat 64)) = ji3 := by have h_ := hji3_; rw [Int.one_mul] at h_; exact h_
 have hji3v : (l1_0.length : Int) ≤ 64 → (IntKind.i64.wrap (2 ^ (l1_0.length : Int).toNat)) = ji3 := fun hle_ => by have h_ := hji3z hle_; rw [Int.one_mul] at h_; exact h_
 have hji3y : (wrap64 (1 * 2 ^ min (l1_0.length : Int).toNat 64)) = ji3 := (i64_w _).symm.trans hji3_
 have hji3x : (l1_0.length : Int) ≤ 64 → (wrap64 (1 * 2 ^ (l1_0.length : Int).toNat)) = ji3 := fun h_ => (i64_w _).symm.trans (hji3z h_)
 obtain ⟨ji4, hji4⟩ : ∃ j_ : Int, (wrap64 ((l0_0.length : Int) - 1)) = j_ := ⟨_, rfl⟩
 replace H : (if 0 ≤ (ji4) then (if (ji4) ≤ (l0_0.length : Int) then (impl_stack.l0 k y313 (shl .i64 (wrap64 ((ji3) - 1)) (ji4)) (l0_0.take ((ji4) : Int).toNat) ((l0_0.take ((ji4) : Int).toNat).length : Int) 0 l0_0 l0_1 l1_0 l1_1 ji4) else (none)) else (none)) = some (r1, r2) := by first | (rw [hji4] at H; exact H) | (simp only [hji4] at H ⊢; exact H)
 have hji4w : (IntKind.i64.wrap ((l0_0.length : Int) - 1)) = ji4 := (i64_w _).trans hji4
 replace H := oi H
 obtain ⟨c5, H⟩ := H
 have c5b0 := eq_true c5
 have c5b1 : decide (0 ≤ (ji4)) = true := decide_eq_true c5
 clear c5
 obtain ⟨ji6, hji6⟩ : ∃ j_ : Int, (shl .i64 (wrap64 ((ji3) - 1)) (ji4)) = j_ := ⟨_, rfl⟩
 replace H : (if (ji4) ≤ (l0_0.length : Int) then (impl_stack.l0 k y313 ji6 (l0_0.take ((ji4) : Int).toNat) ((l0_0.take ((ji4) : Int).toNat).length : Int) 0 l0_0 l0_1 l1_0 l1_1 ji4) else (none)) = some (r1, r2) := by first | (rw [hji6] at H; exact H) | (simp only [hji6] at H ⊢; exact H)
 have hji6_ : (IntKind.i64.wrap ((wrap64 ((ji3) - 1)) * 2 ^ min (ji4).toNat 64)) = ji6 := hji6
 have hji6z : (ji4) ≤ 64 → (IntKind.i64.wrap ((wrap64 ((ji3) - 1)) * 2 ^ (ji4).toNat)) = ji6 := shl_small hji6
 have hji6y : (wrap64 ((wrap64 ((ji3) - 1)) * 2 ^ min (ji4).toNat 64)) = ji6 := (i64_w _).symm.trans hji6_
 have hji6x : (ji4) ≤ 64 → (wrap64 ((wrap64 ((ji3) - 1)) * 2 ^ (ji4).toNat)) = ji6 := fun h_ => (i64_w _).symm.trans (hji6z h_)
 have c7b0 := eq_true (of_decide_eq_true (by first | (with_reducible assumption) | assumption) : 0 ≤ (ji4))
 replace H := oi H
 obtain ⟨c8, H⟩ := H
 have c8b0 := eq_true c8
 have c8b1 : decide ((ji4) ≤ (l0_0.length : Int)) = true := decide_eq_true c8
 clear c8
 have H' := ak H
 clear H
 have hmf : ∀ (fn : Fn) (first cap : Array Value) (w : World), (Instr.makeFunc fn first cap).run Try.prog w = .ok (.func fn first cap) w := fun _ _ _ _ => rfl
 go_enter Try.func76, Try.ntmps76
 go_wp2_with (first | ((with_reducible refine gate_dst (N := 2) rfl ?_); refine box_event ?hg (N := 2) ?hd (cs := #[.slice A0_0 l0_0.length c0_0, .slice A0_1 l0_1.length c0_1]) (t := 25) ?hr ?_; (case hd => rfl); (case hg => rfl); (case hr => first | (go_simp; done) | (go_simp; rfl)); intro gb310 hg w9 hbox hb; have BK310 := ak (hbox); have GW310 := ak ((by rw [hg]; exact (below_size (bB HB.out)) : w.heap.size ≤ gb310)); have GE310 := ak ((by rw [hg]; exact (below_size (bB HB.out)) : w.heap.size ≤ gb310)); replace HB := ak (below_step (bB HB.out) hb); clear hb hbox hg) | ((with_reducible refine gate_dst (N := 3) rfl ?_); refine box_event ?hg (N := 3) ?hd (cs := #[.slice A1_0 l1_0.length c1_0, .slice A1_1 l1_1.length c1_1]) (t := 25) ?hr ?_; (case hd => rfl); (case hg => rfl); (case hr => first | (go_simp; done) | (go_simp; rfl)); intro gb311 hg w10 hbox hb; have BK311 := ak (hbox); have GW311 := ak ((by rw [hg]; exact (below_size (bB HB.out)) : w.heap.size ≤ gb311)); have GE311 := ak ((by rw [hg]; exact (below_size (bB HB.out)) : w.heap.size ≤ gb311)); replace HB := ak (below_step (bB HB.out) hb); have NB310_311 := ak ((ne_box hg (kK BK310.out))); have NB311_310 := ak ((ne_box' hg (kK BK310.out))); replace BK310 := ak (blk_below (kK BK310.out) hb); clear hb hbox hg) | ((with_reducible refine gate_dst (N := 4) rfl ?_); refine box_event ?hg (N := 4) ?hd (cs := #[.slice none 0 0, .slice none 0 0]) (t := 25) ?hr ?_; (case hd => rfl); (case hg => rfl); (case hr => first | (go_simp; done) | (go_simp; rfl)); intro gb312 hg w11 hbox hb; have BK312 := ak (hbox); have GW312 := ak ((by rw [hg]; exact (below_size (bB HB.out)) : w.heap.size ≤ gb312)); have GE312 := ak ((by rw [hg]; exact (below_size (bB HB.out)) : w.heap.size ≤ gb312)); replace HB := ak (below_step (bB HB.out) hb); have NB310_312 := ak ((ne_box hg (kK BK310.out))); have NB312_310 := ak ((ne_box' hg (kK BK310.out))); replace BK310 := ak (blk_below (kK BK310.out) hb); have NB311_312 := ak ((ne_box hg (kK BK311.out))); have NB312_311 := ak ((ne_box' hg (kK BK311.out))); replace BK311 := ak (blk_below (kK BK311.out) hb); clear hb hbox hg; have hnb12 := NB310_311.out; have hnc12 := NB311_310.out; have hnb13 := NB310_312.out; have hnc13 := NB312_310.out; have hcz14_0 : w11.cell? ⟨gb310, 0, none⟩ = some (.slice A0_0 l0_0.length c0_0) := (blk_cell BK310.out 0).trans rfl; have hcz14_1 : w11.cell? ⟨gb310, 1, none⟩ = some (.slice A0_1 l0_1.length c0_1) := (blk_cell BK310.out 1).trans rfl; have hfz14_0 := blk_frozen BK310.out 0; have hfz14_1 := blk_frozen BK310.out 1) | ((with_reducible refine gate_dst (N := 16) rfl ?_); refine Kd.R_lit (Kd.int .i64) _ 3 ?hg (N := 16) ?hd (xs := ([] : List Int)) (inner := []) (ok := fun _ => True) (okp := fun _ => True) ?hr ?hp (fun _ hk => hk) trivial (Below.refl _ _) (Nat.le_refl _) (by simp) ?_; (case hd => rfl); (case hg => rfl); (case hr => first | (go_simp; done) | (go_simp; rfl)); (case hp => exact (Reps.none _ _)); intro v314 w15 ho16 hb hg_ hnew_; clear hg_ hnew_; (first | rw [← Ny313.out] at ho16 | (simp only [Int.reduceToNat] at ho16; rw [← Ny313.out] at ho16)); have HO315 := ak (Kd.R_lower ho16 (below_size (bB HB.out))); replace BK310 := ak (blk_below (kK BK310.out) hb); replace BK311 := ak (blk_below (kK BK311.out) hb); replace BK312 := ak (blk_below (kK BK312.out) hb); replace HB := ak (below_step (bB HB.out) hb); clear hb ho16) | ((with_reducible refine gate_dst (N := 5) rfl ?_); refine box_event ?hg (N := 5) ?hd (cs := #[.int .i64 0]) (t := 3) ?hr ?_; (case hd => rfl); (case hg => rfl); (case hr => first | (go_simp; done) | (go_simp; rfl)); intro gb316 hg w17 hbox hb; replace HO315 := ak (Kd.R_below (Kd.R_elderB (kR HO315.out) gb316 (Nat.le_of_eq hg.symm)) hb); have BK316 := ak (hbox); have GW316 := ak ((by rw [hg]; exact (below_size (bB HB.out)) : w.heap.size ≤ gb316)); have GE316 := ak ((by rw [hg]; exact (below_size (bB HB.out)) : w.heap.size ≤ gb316)); replace HB := ak (below_step (bB HB.out) hb); have NB310_316 := ak ((ne_box hg (kK BK310.out))); have NB316_310 := ak ((ne_box' hg (kK BK310.out))); replace BK310 := ak (blk_below (kK BK310.out) hb); have NB311_316 := ak ((ne_box hg (kK BK311.out))); have NB316_311 := ak ((ne_box' hg (kK BK311.out))); replace BK311 := ak (blk_below (kK BK311.out) hb); have NB312_316 := ak ((ne_box hg (kK BK312.out))); have NB316_312 := ak ((ne_box' hg (kK BK312.out))); replace BK312 := ak (blk_below (kK BK312.out) hb); clear hb hbox hg; have hnb18 := NB316_310.out; have hnc18 := NB310_316.out; have hnb19 := NB316_311.out; have hnc19 := NB311_316.out; have hnb20 := NB316_312.out; have hnc20 := NB312_316.out; have hcz21_0 : w17.cell? ⟨gb316, 0, none⟩ = some (.int .i64 0) := (blk_cell BK316.out 0).trans rfl; have hfz21_0 := blk_frozen BK316.out 0; have hnb22 := NB311_312.out; have hnc22 := NB312_311.out; have hcz23_0 : w17.cell? ⟨gb311, 0, none⟩ = some (.slice A1_0 l1_0.length c1_0) := (blk_cell BK311.out 0).trans rfl; have hcz23_1 : w17.cell? ⟨gb311, 1, none⟩ = some (.slice A1_1 l1_1.length c1_1) := (blk_cell BK311.out 1).trans rfl; have hfz23_0 := blk_frozen BK311.out 0; have hfz23_1 := blk_frozen BK311.out 1; have hcz24_0 : w17.cell? ⟨gb310, 0, none⟩ = some (.slice A0_0 l0_0.length c0_0) := (blk_cell BK310.out 0).trans rfl; have hcz24_1 : w17.cell? ⟨gb310, 1, none⟩ = some (.slice A0_1 l0_1.length c0_1) := (blk_cell BK310.out 1).trans rfl; have hfz24_0 := blk_frozen BK310.out 0; have hfz24_1 := blk_frozen BK310.out 1; obtain ⟨i025, hi025, _, hsz25, _⟩ := info_parts info3; obtain ⟨hcut25, hA25, hC25⟩ := print_take_of (P := Try.prog) (Value.int .i64) 0 22 3 .i64 Try.underlying22 hi025 hsz25 A0_0 c0_0 l0_0 (ji4) (of_decide_eq_true (by first | (with_reducible assumption) | assumption)) (of_decide_eq_true (by first | (with_reducible assumption) | assumption)) HC0_0.out; have HR317 := ak (Kd.C_of_reads (h1 := fun _ => rfl) (hA25 _ (Kd.reads_of_C HR0_0.out))); have HC317 := ak hC25; clear hA25 hC25 hi025 hsz25))
 repeat ((refine wp_region_quiet_lit ?_ ?_ ?_; kernel_rfl; kernel_rfl; (repeat (first | go_big_quiet_step (first | ((with_reducible refine gate_dst (N := 2) rfl ?_); refine box_event ?hg (N := 2) ?hd (cs := #[.slice A0_0 l0_0.length c0_0, .slice A0_1 l0_1.length c0_1]) (t := 25) ?hr ?_; (case hd => rfl); (case hg => rfl); (case hr => first | (go_simp; done) | (go_simp; rfl)); intro gb310 hg w9 hbox hb; have BK310 := ak (hbox); have GW310 := ak ((by rw [hg]; exact (below_size (bB HB.out)) : w.heap.size ≤ gb310)); have GE310 := ak ((by rw [hg]; exact (below_size (bB HB.out)) : w.heap.size ≤ gb310)); replace HB := ak (below_step (bB HB.out) hb); clear hb hbox hg) | ((with_reducible refine gate_dst (N := 3) rfl ?_); refine box_event ?hg (N := 3) ?hd (cs := #[.slice A1_0 l1_0.length c1_0, .slice A1_1 l1_1.length c1_1]) (t := 25) ?hr ?_; (case hd => rfl); (case hg => rfl); (case hr => first | (go_simp; done) | (go_simp; rfl)); intro gb311 hg w10 hbox hb; have BK311 := ak (hbox); have GW311 := ak ((by rw [hg]; exact (below_size (bB HB.out)) : w.heap.size ≤ gb311)); have GE311 := ak ((by rw [hg]; exact (below_size (bB HB.out)) : w.heap.size ≤ gb311)); replace HB := ak (below_step (bB HB.out) hb); have NB310_311 := ak ((ne_box hg (kK BK310.out))); have NB311_310 := ak ((ne_box' hg (kK BK310.out))); replace BK310 := ak (blk_below (kK BK310.out) hb); clear hb hbox hg) | ((with_reducible refine gate_dst (N := 4) rfl ?_); refine box_event ?hg (N := 4) ?hd (cs := #[.slice none 0 0, .slice none 0 0]) (t := 25) ?hr ?_; (case hd => rfl); (case hg => rfl); (case hr => first | (go_simp; done) | (go_simp; rfl)); intro gb312 hg w11 hbox hb; have BK312 := ak (hbox); have GW312 := ak ((by rw [hg]; exact (below_size (bB HB.out)) : w.heap.size ≤ gb312)); have GE312 := ak ((by rw [hg]; exact (below_size (bB HB.out)) : w.heap.size ≤ gb312)); replace HB := ak (below_step (bB HB.out) hb); have NB310_312 := ak ((ne_box hg (kK BK310.out))); have NB312_310 := ak ((ne_box' hg (kK BK310.out))); replace BK310 := ak (blk_below (kK BK310.out) hb); have NB311_312 := ak ((ne_box hg (kK BK311.out))); have NB312_311 := ak ((ne_box' hg (kK BK311.out))); replace BK311 := ak (blk_below (kK BK311.out) hb); clear hb hbox hg; have hnb12 := NB310_311.out; have hnc12 := NB311_310.out; have hnb13 := NB310_312.out; have hnc13 := NB312_310.out; have hcz14_0 : w11.cell? ⟨gb310, 0, none⟩ = some (.slice A0_0 l0_0.length c0_0) := (blk_cell BK310.out 0).trans rfl; have hcz14_1 : w11.cell? ⟨gb310, 1, none⟩ = some (.slice A0_1 l0_1.length c0_1) := (blk_cell BK310.out 1).trans rfl; have hfz14_0 := blk_frozen BK310.out 0; have hfz14_1 := blk_frozen BK310.out 1) | ((with_reducible refine gate_dst (N := 16) rfl ?_); refine Kd.R_lit (Kd.int .i64) _ 3 ?hg (N := 16) ?hd (xs := ([] : List Int)) (inner := []) (ok := fun _ => True) (okp := fun _ => True) ?hr ?hp (fun _ hk => hk) trivial (Below.refl _ _) (Nat.le_refl _) (by simp) ?_; (case hd => rfl); (case hg => rfl); (case hr => first | (go_simp; done) | (go_simp; rfl)); (case hp => exact (Reps.none _ _)); intro v314 w15 ho16 hb hg_ hnew_; clear hg_ hnew_; (first | rw [← Ny313.out] at ho16 | (simp only [Int.reduceToNat] at ho16; rw [← Ny313.out] at ho16)); have HO315 := ak (Kd.R_lower ho16 (below_size (bB HB.out))); replace BK310 := ak (blk_below (kK BK310.out) hb); replace BK311 := ak (blk_below (kK BK311.out) hb); replace BK312 := ak (blk_below (kK BK312.out) hb); replace HB := ak (below_step (bB HB.out) hb); clear hb ho16) | ((with_reducible refine gate_dst (N := 5) rfl ?_); refine box_event ?hg (N := 5) ?hd (cs := #[.int .i64 0]) (t := 3) ?hr ?_; (case hd => rfl); (case hg => rfl); (case hr => first | (go_simp; done) | (go_simp; rfl)); intro gb316 hg w17 hbox hb; replace HO315 := ak (Kd.R_below (Kd.R_elderB (kR HO315.out) gb316 (Nat.le_of_eq hg.symm)) hb); have BK316 := ak (hbox); have GW316 := ak ((by rw [hg]; exact (below_size (bB HB.out)) : w.heap.size ≤ gb316)); have GE316 := ak ((by rw [hg]; exact (below_size (bB HB.out)) : w.heap.size ≤ gb316)); replace HB := ak (below_step (bB HB.out) hb); have NB310_316 := ak ((ne_box hg (kK BK310.out))); have NB316_310 := ak ((ne_box' hg (kK BK310.out))); replace BK310 := ak (blk_below (kK BK310.out) hb); have NB311_316 := ak ((ne_box hg (kK BK311.out))); have NB316_311 := ak ((ne_box' hg (kK BK311.out))); replace BK311 := ak (blk_below (kK BK311.out) hb); have NB312_316 := ak ((ne_box hg (kK BK312.out))); have NB316_312 := ak ((ne_box' hg (kK BK312.out))); replace BK312 := ak (blk_below (kK BK312.out) hb); clear hb hbox hg; have hnb18 := NB316_310.out; have hnc18 := NB310_316.out; have hnb19 := NB316_311.out; have hnc19 := NB311_316.out; have hnb20 := NB316_312.out; have hnc20 := NB312_316.out; have hcz21_0 : w17.cell? ⟨gb316, 0, none⟩ = some (.int .i64 0) := (blk_cell BK316.out 0).trans rfl; have hfz21_0 := blk_frozen BK316.out 0; have hnb22 := NB311_312.out; have hnc22 := NB312_311.out; have hcz23_0 : w17.cell? ⟨gb311, 0, none⟩ = some (.slice A1_0 l1_0.length c1_0) := (blk_cell BK311.out 0).trans rfl; have hcz23_1 : w17.cell? ⟨gb311, 1, none⟩ = some (.slice A1_1 l1_1.length c1_1) := (blk_cell BK311.out 1).trans rfl; have hfz23_0 := blk_frozen BK311.out 0; have hfz23_1 := blk_frozen BK311.out 1; have hcz24_0 : w17.cell? ⟨gb310, 0, none⟩ = some (.slice A0_0 l0_0.length c0_0) := (blk_cell BK310.out 0).trans rfl; have hcz24_1 : w17.cell? ⟨gb310, 1, none⟩ = some (.slice A0_1 l0_1.length c0_1) := (blk_cell BK310.out 1).trans rfl; have hfz24_0 := blk_frozen BK310.out 0; have hfz24_1 := blk_frozen BK310.out 1; obtain ⟨i025, hi025, _, hsz25, _⟩ := info_parts info3; obtain ⟨hcut25, hA25, hC25⟩ := print_take_of (P := Try.prog) (Value.int .i64) 0 22 3 .i64 Try.underlying22 hi025 hsz25 A0_0 c0_0 l0_0 (ji4) (of_decide_eq_true (by first | (with_reducible assumption) | assumption)) (of_decide_eq_true (by first | (with_reducible assumption) | assumption)) HC0_0.out; have HR317 := ak (Kd.C_of_reads (h1 := fun _ => rfl) (hA25 _ (Kd.reads_of_C HR0_0.out))); have HC317 := ak hC25; clear hA25 hC25 hi025 hsz25)) | (refine wpQuiet_step (fun K hK => ?_); go_simp; refine hK _ ?_; clear hK K))); refine wpQuiet_nil ?_; intro _ hw'; obtain ⟨nq, hw''⟩ := hw'; subst hw''); try go_wp2_with (first | ((with_reducible refine gate_dst (N := 2) rfl ?_); refine box_event ?hg (N := 2) ?hd (cs := #[.slice A0_0 l0_0.length c0_0, .slice A0_1 l0_1.length c0_1]) (t := 25) ?hr ?_; (case hd => rfl); (case hg => rfl); (case hr => first | (go_simp; done) | (go_simp; rfl)); intro gb310 hg w9 hbox hb; have BK310 := ak (hbox); have GW310 := ak ((by rw [hg]; exact (below_size (bB HB.out)) : w.heap.size ≤ gb310)); have GE310 := ak ((by rw [hg]; exact (below_size (bB HB.out)) : w.heap.size ≤ gb310)); replace HB := ak (below_step (bB HB.out) hb); clear hb hbox hg) | ((with_reducible refine gate_dst (N := 3) rfl ?_); refine box_event ?hg (N := 3) ?hd (cs := #[.slice A1_0 l1_0.length c1_0, .slice A1_1 l1_1.length c1_1]) (t := 25) ?hr ?_; (case hd => rfl); (case hg => rfl); (case hr => first | (go_simp; done) | (go_simp; rfl)); intro gb311 hg w10 hbox hb; have BK311 := ak (hbox); have GW311 := ak ((by rw [hg]; exact (below_size (bB HB.out)) : w.heap.size ≤ gb311)); have GE311 := ak ((by rw [hg]; exact (below_size (bB HB.out)) : w.heap.size ≤ gb311)); replace HB := ak (below_step (bB HB.out) hb); have NB310_311 := ak ((ne_box hg (kK BK310.out))); have NB311_310 := ak ((ne_box' hg (kK BK310.out))); replace BK310 := ak (blk_below (kK BK310.out) hb); clear hb hbox hg) | ((with_reducible refine gate_dst (N := 4) rfl ?_); refine box_event ?hg (N := 4) ?hd (cs := #[.slice none 0 0, .slice none 0 0]) (t := 25) ?hr ?_; (case hd => rfl); (case hg => rfl); (case hr => first | (go_simp; done) | (go_simp; rfl)); intro gb312 hg w11 hbox hb; have BK312 := ak (hbox); have GW312 := ak ((by rw [hg]; exact (below_size (bB HB.out)) : w.heap.size ≤ gb312)); have GE312 := ak ((by rw [hg]; exact (below_size (bB HB.out)) : w.heap.size ≤ gb312)); replace HB := ak (below_step (bB HB.out) hb); have NB310_312 := ak ((ne_box hg (kK BK310.out))); have NB312_310 := ak ((ne_box' hg (kK BK310.out))); replace BK310 := ak (blk_below (kK BK310.out) hb); have NB311_312 := ak ((ne_box hg (kK BK311.out))); have NB312_311 := ak ((ne_box' hg (kK BK311.out))); replace BK311 := ak (blk_below (kK BK311.out) hb); clear hb hbox hg; have hnb12 := NB310_311.out; have hnc12 := NB311_310.out; have hnb13 := NB310_312.out; have hnc13 := NB312_310.out; have hcz14_0 : w11.cell? ⟨gb310, 0, none⟩ = some (.slice A0_0 l0_0.length c0_0) := (blk_cell BK310.out 0).trans rfl; have hcz14_1 : w11.cell? ⟨gb310, 1, none⟩ = some (.slice A0_1 l0_1.length c0_1) := (blk_cell BK310.out 1).trans rfl; have hfz14_0 := blk_frozen BK310.out 0; have hfz14_1 := blk_frozen BK310.out 1) | ((with_reducible refine gate_dst (N := 16) rfl ?_); refine Kd.R_lit (Kd.int .i64) _ 3 ?hg (N := 16) ?hd (xs := ([] : List Int)) (inner := []) (ok := fun _ => True) (okp := fun _ => True) ?hr ?hp (fun _ hk => hk) trivial (Below.refl _ _) (Nat.le_refl _) (by simp) ?_; (case hd => rfl); (case hg => rfl); (case hr => first | (go_simp; done) | (go_simp; rfl)); (case hp => exact (Reps.none _ _)); intro v314 w15 ho16 hb hg_ hnew_; clear hg_ hnew_; (first | rw [← Ny313.out] at ho16 | (simp only [Int.reduceToNat] at ho16; rw [← Ny313.out] at ho16)); have HO315 := ak (Kd.R_lower ho16 (below_size (bB HB.out))); replace BK310 := ak (blk_below (kK BK310.out) hb); replace BK311 := ak (blk_below (kK BK311.out) hb); replace BK312 := ak (blk_below (kK BK312.out) hb); replace HB := ak (below_step (bB HB.out) hb); clear hb ho16) | ((with_reducible refine gate_dst (N := 5) rfl ?_); refine box_event ?hg (N := 5) ?hd (cs := #[.int .i64 0]) (t := 3) ?hr ?_; (case hd => rfl); (case hg => rfl); (case hr => first | (go_simp; done) | (go_simp; rfl)); intro gb316 hg w17 hbox hb; replace HO315 := ak (Kd.R_below (Kd.R_elderB (kR HO315.out) gb316 (Nat.le_of_eq hg.symm)) hb); have BK316 := ak (hbox); have GW316 := ak ((by rw [hg]; exact (below_size (bB HB.out)) : w.heap.size ≤ gb316)); have GE316 := ak ((by rw [hg]; exact (below_size (bB HB.out)) : w.heap.size ≤ gb316)); replace HB := ak (below_step (bB HB.out) hb); have NB310_316 := ak ((ne_box hg (kK BK310.out))); have NB316_310 := ak ((ne_box' hg (kK BK310.out))); replace BK310 := ak (blk_below (kK BK310.out) hb); have NB311_316 := ak ((ne_box hg (kK BK311.out))); have NB316_311 := ak ((ne_box' hg (kK BK311.out))); replace BK311 := ak (blk_below (kK BK311.out) hb); have NB312_316 := ak ((ne_box hg (kK BK312.out))); have NB316_312 := ak ((ne_box' hg (kK BK312.out))); replace BK312 := ak (blk_below (kK BK312.out) hb); clear hb hbox hg; have hnb18 := NB316_310.out; have hnc18 := NB310_316.out; have hnb19 := NB316_311.out; have hnc19 := NB311_316.out; have hnb20 := NB316_312.out; have hnc20 := NB312_316.out; have hcz21_0 : w17.cell? ⟨gb316, 0, none⟩ = some (.int .i64 0) := (blk_cell BK316.out 0).trans rfl; have hfz21_0 := blk_frozen BK316.out 0; have hnb22 := NB311_312.out; have hnc22 := NB312_311.out; have hcz23_0 : w17.cell? ⟨gb311, 0, none⟩ = some (.slice A1_0 l1_0.length c1_0) := (blk_cell BK311.out 0).trans rfl; have hcz23_1 : w17.cell? ⟨gb311, 1, none⟩ = some (.slice A1_1 l1_1.length c1_1) := (blk_cell BK311.out 1).trans rfl; have hfz23_0 := blk_frozen BK311.out 0; have hfz23_1 := blk_frozen BK311.out 1; have hcz24_0 : w17.cell? ⟨gb310, 0, none⟩ = some (.slice A0_0 l0_0.length c0_0) := (blk_cell BK310.out 0).trans rfl; have hcz24_1 : w17.cell? ⟨gb310, 1, none⟩ = some (.slice A0_1 l0_1.length c0_1) := (blk_cell BK310.out 1).trans rfl; have hfz24_0 := blk_frozen BK310.out 0; have hfz24_1 := blk_frozen BK310.out 1; obtain ⟨i025, hi025, _, hsz25, _⟩ := info_parts info3; obtain ⟨hcut25, hA25, hC25⟩ := print_take_of (P := Try.prog) (Value.int .i64) 0 22 3 .i64 Try.underlying22 hi025 hsz25 A0_0 c0_0 l0_0 (ji4) (of_decide_eq_true (by first | (with_reducible assumption) | assumption)) (of_decide_eq_true (by first | (with_reducible assumption) | assumption)) HC0_0.out; have HR317 := ak (Kd.C_of_reads (h1 := fun _ => rfl) (hA25 _ (Kd.reads_of_C HR0_0.out))); have HC317 := ak hC25; clear hA25 hC25 hi025 hsz25)))
 go_loopg [6, 29] k (fun kq v6 v29 w' => ∃ (x6_1 : List Int) (x29_1 : Int), v29 = .int .i64 x29_1 ∧ Aside0 (impl_stack.l0 kq x6_1 ji6 (l0_0.take ((ji4) : Int).toNat) ((l0_0.take ((ji4) : Int).toNat).length : Int) x29_1 l0_0 l0_1 l1_0 l1_1 ji4 = some (r1, r2)) ∧ Aside0 (kq ≤ k) ∧ Aside0 (Kd.R (Kd.int .i64) 3 w' w.heap.size (fun k_ => k_ ≠ gb316) v6 x6_1) ∧ Aside0 (w'.heap[gb310]? = some (.cells #[(.slice A0_0 l0_0.length c0_0), (.slice A0_1 l0_1.length c0_1)] 25 (0, 0))) ∧ Aside0 (w'.heap[gb311]? = some (.cells #[(.slice A1_0 l1_0.length c1_0), (.slice A1_1 l1_1.length c1_1)] 25 (0, 0))) ∧ Aside0 (w'.heap[gb312]? = some (.cells #[(.slice none 0 0), (.slice none 0 0)] 25 (0, 0))) ∧ Aside0 (w'.heap[gb316]? = some (.cells #[.int .i64 ji4] 3 (0, 0))) ∧ Aside0 (Below w.heap.size w w'))
 case atStart => exact ⟨(y313), (0), (by first | rfl | (simp; done) | (simp [*]; done)), H', ⟨Nat.le_refl _⟩, ⟨by (with_reducible repeat (first | apply Kd.R_alloc | apply Kd.R_drewN | apply Kd.R_drew)); exact Kd.R_mono (Kd.R_far (p := ⟨gb316, 0, none⟩) (Kd.R_mono HO315.out (fun k_ hk => (⟨hk, hk.2⟩ : _ ∧ k_ ≠ gb316))) (fun _ hk => hk.2) (.int .i64 ji4)) (fun _ hk => hk.1.2)⟩, ⟨by (with_reducible repeat (first | refine blk_drewN ?_ _ | refine blk_drew ?_ | refine blk_alloc ?_ _)); refine blk_far ?_ NB310_316.out _; (with_reducible repeat (first | refine blk_drewN ?_ _ | refine blk_drew ?_ | refine blk_alloc ?_ _)); exact BK310.out⟩, ⟨by (with_reducible repeat (first | refine blk_drewN ?_ _ | refine blk_drew ?_ | refine blk_alloc ?_ _)); refine blk_far ?_ NB311_316.out _; (with_reducible repeat (first | refine blk_drewN ?_ _ | refine blk_drew ?_ | refine blk_alloc ?_ _)); exact BK311.out⟩, ⟨by (with_reducible repeat (first | refine blk_drewN ?_ _ | refine blk_drew ?_ | refine blk_alloc ?_ _)); refine blk_far ?_ NB312_316.out _; (with_reducible repeat (first | refine blk_drewN ?_ _ | refine blk_drew ?_ | refine blk_alloc ?_ _)); exact BK312.out⟩, ⟨by (with_reducible repeat (first | refine blk_drewN ?_ _ | refine blk_drew ?_ | refine blk_alloc ?_ _)); refine blk_put (cs := #[.int .i64 0]) ?_ 0 _ rfl; (with_reducible repeat (first | refine blk_drewN ?_ _ | refine blk_drew ?_ | refine blk_alloc ?_ _)); exact BK316.out⟩, ⟨by repeat (first | (with_reducible first | exact HB.out | apply below_alloc | apply pw_below_drewN | apply below_drew1 | refine below_set ?_ GE310.out | refine below_set ?_ GE311.out | refine below_set ?_ GE312.out | refine below_set ?_ GE316.out) | exact HB.out)⟩⟩
 case round =>
  clear H'
  try clear c1
  try clear c2
  try clear p2
  try clear c5
  try clear c5b0
  try clear c5b1
  try clear p6
  try clear c7
  try clear c7b0
  try clear c8
  try clear c8b0
  try clear c8b1
  try clear c12
  try clear c13
  try clear c18
  try clear c19
  try clear c20
  try clear c22
  try clear hcz14_0
  try clear hcz14_1
  try clear hcz21_0
  try clear hcz23_0
  try clear hcz23_1
  try clear hcz24_0
  try clear hcz24_1
  try clear hfz14_0
  try clear hfz14_1
  try clear hfz21_0
  try clear hfz23_0
  try clear hfz23_1
  try clear hfz24_0
  try clear hfz24_1
  obtain ⟨x6_1, x29_1, rfl, HA, HK1, HO_6, BK310, BK311, BK312, BK316, HB⟩ := hrel
  cases gk with
  | zero => exact absurd HA.out (by simp [impl_stack.l0])
  | succ k1 =>
   have H := HA.out
   clear HA
   simp only [impl_stack.l0] at H
   by_cases c26 : x29_1 < ((l0_0.take ((ji4) : Int).toNat).length : Int)
   ·rw [if_pos c26] at H
    have c26b0 : decide (x29_1 < ((l0_0.take ((ji4) : Int).toNat).length : Int)) = true := decide_eq_true c26
    have c26m0 : decide (x29_1 < max ji4 0) = true := decide_eq_true (by have h_ := c26; rw [List.length_take] at h_; omega)
    have c26m1 : decide (x29_1 < (ji4.toNat : Int)) = true := decide_eq_true (by have h_ := c26; rw [List.length_take] at h_; omega)
    have c26m2 : (x29_1 < max ji4 0) = True := eq_true (of_decide_eq_true c26m0)
    clear c26
    replace H := oi H
    obtain ⟨c27, H⟩ := H
    have c27b0 : decide (0 ≤ x29_1) = true := decide_eq_true c27
    clear c27
    replace H := oi H
    obtain ⟨c28, H⟩ := H
    have c28b0 : decide (x29_1 < ((l0_0.take ((ji4) : Int).toNat).length : Int)) = true := decide_eq_true c28
    have c28m0 : decide (x29_1 < max ji4 0) = true := decide_eq_true (by have h_ := c28; rw [List.length_take] at h_; omega)
    have c28m1 : decide (x29_1 < (ji4.toNat : Int)) = true := decide_eq_true (by have h_ := c28; rw [List.length_take] at h_; omega)
    have c28m2 : (x29_1 < max ji4 0) = True := eq_true (of_decide_eq_true c28m0)
    clear c28
    replace H := oi H
    obtain ⟨c29, H⟩ := H
    have c29b0 := eq_true c29
    have c29b1 : decide (0 ≤ ji4) = true := decide_eq_true c29
    clear c29
    obtain ⟨ji30, hji30⟩ : ∃ j_ : Int, (shl .i64 1 ji4) = j_ := ⟨_, rfl⟩
    replace H : (if x6_1.length < 17592186044416 then (impl_stack.l0 k1 (x6_1 ++ [Go.bits .or .i64 (Go.bits .andNot .i64 (rd (l0_0.take ((ji4) : Int).toNat) x29_1) (ji30)) ji6]) ji6 (l0_0.take ((ji4) : Int).toNat) ((l0_0.take ((ji4) : Int).toNat).length : Int) (wrap64 (x29_1 + 1)) l0_0 l0_1 l1_0 l1_1 ji4) else (none)) = some (r1, r2) := by first | (rw [hji30] at H; exact H) | (simp only [hji30] at H ⊢; exact H)
    have hji30_ : (IntKind.i64.wrap (1 * 2 ^ min ji4.toNat 64)) = ji30 := hji30
    have hji30z : ji4 ≤ 64 → (IntKind.i64.wrap (1 * 2 ^ ji4.toNat)) = ji30 := shl_small hji30
    have hji30u : (IntKind.i64.wrap (2 ^ min ji4.toNat 64)) = ji30 := by have h_ := hji30_; rw [Int.one_mul] at h_; exact h_
    have hji30v : ji4 ≤ 64 → (IntKind.i64.wrap (2 ^ ji4.toNat)) = ji30 := fun hle_ => by have h_ := hji30z hle_; rw [Int.one_mul] at h_; exact h_
    have hji30y : (wrap64 (1 * 2 ^ min ji4.toNat 64)) = ji30 := (i64_w _).symm.trans hji30_
    have hji30x : ji4 ≤ 64 → (wrap64 (1 * 2 ^ ji4.toNat)) = ji30 := fun h_ => (i64_w _).symm.trans (hji30z h_)
    replace H := oi H
    obtain ⟨c31, H⟩ := H
    have LMc31 := ak c31
    clear c31
    obtain ⟨y319, hy319⟩ : ∃ y_ : List Int, y_ = (x6_1 ++ [Go.bits .or .i64 (Go.bits .andNot .i64 (rd (l0_0.take ((ji4) : Int).toNat) x29_1) (ji30)) ji6]) := ⟨_, rfl⟩
    replace H : (impl_stack.l0 k1 y319 ji6 (l0_0.take ((ji4) : Int).toNat) ((l0_0.take ((ji4) : Int).toNat).length : Int) (wrap64 (x29_1 + 1)) l0_0 l0_1 l1_0 l1_1 ji4) = some (r1, r2) := by first | (rw [hy319]; with_reducible exact H) | (have H2_ := (Option.bind_some _ _).symm.trans H; rw [hy319]; with_reducible exact H2_) | (have H2_ := (Option.bind_some _ _).symm.trans H; with_reducible exact H2_) | with_reducible exact H | (rw [hy319]; exact H) | exact H
    have Ny319 := ak hy319
    clear hy319
    have H' := ak H
    clear H
    have p318 : 0 ≤ (x29_1 : Int) := of_decide_eq_true (by first | (with_reducible assumption) | assumption)
    have q318 : x29_1 < ((l0_0.take ((ji4) : Int).toNat).length : Int) := of_decide_eq_true (by first | (with_reducible assumption) | assumption)
    obtain ⟨ad318, e318, hx318_0⟩ := Kd.at_int HR317.out x29_1 p318 q318
    cases e318
    replace hx318_0 := (HB.out.cell (World.block_lt_of_cell? w _ hx318_0)).trans hx318_0
    replace p318 := eq_true p318
    replace q318 := eq_true q318
    have hnb32 := NB316_310.out
    have hnc32 := NB310_316.out
    have hnb33 := NB316_311.out
    have hnc33 := NB311_316.out
    have hnb34 := NB316_312.out
    have hnc34 := NB312_316.out
    have hcz35_0 : wr.cell? ⟨gb316, 0, none⟩ = some (.int .i64 ji4) := (blk_cell BK316.out 0).trans rfl
    have hfz35_0 := blk_frozen BK316.out 0
    go_wp2_with (first | ((with_reducible refine gate_builtin (b := .append) (xs := #[.tmp 33, .tmp 40]) rfl ?_); at_builtin; refine Kd.R_append (Kd.int .i64) (w0 := w) w.heap.size rfl (.tmp 33) (.tmp 40) 22 3 (.int .i64 0) 8 rfl Try.underlying22 info3 rfl (by decide) (by omega) u6 x6_1 (Go.bits .or .i64 (Go.bits .andNot .i64 (rd (l0_0.take ((ji4) : Int).toNat) x29_1) (ji30)) ji6) [.int .i64 (Go.bits .or .i64 (Go.bits .andNot .i64 (rd (l0_0.take ((ji4) : Int).toNat) x29_1) (ji30)) ji6)] (fun k_ => k_ ≠ gb316) (fun _ => False) rfl rfl ?aP (fun _ hk => hk.elim) ?aF ?aO ?aB ?aS ?aL ?_; (case aP => exact rfl); (case aB => exact (bB HB.out)); (case aF => exact (fun k_ hk => Kd.freshB (g := gb316) (o := .cells #[.int .i64 ji4] 3 (0, 0)) (kK BK316.out) k_ hk)); (case aO => exact (kR HO_6.out)); (case aS => exact (below_size (bB HB.out))); (case aL => have := LMc31.out; omega); intro v320 w36 ho hb hg hat; rw [← Ny319.out] at ho; replace BK310 := ak (blk_grown (g := gb310) (o := .cells #[.slice (some ad318) l0_0.length c0_0, .slice A0_1 l0_1.length c0_1] 25 (0, 0)) (kK BK310.out) hg (Kd.R_ne HO_6.out BK310.out (by decide))); replace BK311 := ak (blk_grown (g := gb311) (o := .cells #[.slice A1_0 l1_0.length c1_0, .slice A1_1 l1_1.length c1_1] 25 (0, 0)) (kK BK311.out) hg (Kd.R_ne HO_6.out BK311.out (by decide))); replace BK312 := ak (blk_grown (g := gb312) (o := .cells #[.slice none 0 0, .slice none 0 0] 25 (0, 0)) (kK BK312.out) hg (Kd.R_ne HO_6.out BK312.out (by decide))); replace BK316 := ak (blk_grown (g := gb316) (o := .cells #[.int .i64 ji4] 3 (0, 0)) (kK BK316.out) hg (Kd.R_away HO_6.out (fun _ hk => hk))); replace HB := ak (hb); have HO321 := ak (ho); clear HO_6; clear ho hb hg hat))
    repeat ((refine wp_region_quiet_lit ?_ ?_ ?_; kernel_rfl; kernel_rfl; (repeat (first | go_big_quiet_step (first | ((with_reducible refine gate_builtin (b := .append) (xs := #[.tmp 33, .tmp 40]) rfl ?_); at_builtin; refine Kd.R_append (Kd.int .i64) (w0 := w) w.heap.size rfl (.tmp 33) (.tmp 40) 22 3 (.int .i64 0) 8 rfl Try.underlying22 info3 rfl (by decide) (by omega) u6 x6_1 (Go.bits .or .i64 (Go.bits .andNot .i64 (rd (l0_0.take ((ji4) : Int).toNat) x29_1) (ji30)) ji6) [.int .i64 (Go.bits .or .i64 (Go.bits .andNot .i64 (rd (l0_0.take ((ji4) : Int).toNat) x29_1) (ji30)) ji6)] (fun k_ => k_ ≠ gb316) (fun _ => False) rfl rfl ?aP (fun _ hk => hk.elim) ?aF ?aO ?aB ?aS ?aL ?_; (case aP => exact rfl); (case aB => exact (bB HB.out)); (case aF => exact (fun k_ hk => Kd.freshB (g := gb316) (o := .cells #[.int .i64 ji4] 3 (0, 0)) (kK BK316.out) k_ hk)); (case aO => exact (kR HO_6.out)); (case aS => exact (below_size (bB HB.out))); (case aL => have := LMc31.out; omega); intro v320 w36 ho hb hg hat; rw [← Ny319.out] at ho; replace BK310 := ak (blk_grown (g := gb310) (o := .cells #[.slice (some ad318) l0_0.length c0_0, .slice A0_1 l0_1.length c0_1] 25 (0, 0)) (kK BK310.out) hg (Kd.R_ne HO_6.out BK310.out (by decide))); replace BK311 := ak (blk_grown (g := gb311) (o := .cells #[.slice A1_0 l1_0.length c1_0, .slice A1_1 l1_1.length c1_1] 25 (0, 0)) (kK BK311.out) hg (Kd.R_ne HO_6.out BK311.out (by decide))); replace BK312 := ak (blk_grown (g := gb312) (o := .cells #[.slice none 0 0, .slice none 0 0] 25 (0, 0)) (kK BK312.out) hg (Kd.R_ne HO_6.out BK312.out (by decide))); replace BK316 := ak (blk_grown (g := gb316) (o := .cells #[.int .i64 ji4] 3 (0, 0)) (kK BK316.out) hg (Kd.R_away HO_6.out (fun _ hk => hk))); replace HB := ak (hb); have HO321 := ak (ho); clear HO_6; clear ho hb hg hat)) | (refine wpQuiet_step (fun K hK => ?_); go_simp; refine hK _ ?_; clear hK K))); refine wpQuiet_nil ?_; intro _ hw'; obtain ⟨nq, hw''⟩ := hw'; subst hw''); try go_wp2_with (first | ((with_reducible refine gate_builtin (b := .append) (xs := #[.tmp 33, .tmp 40]) rfl ?_); at_builtin; refine Kd.R_append (Kd.int .i64) (w0 := w) w.heap.size rfl (.tmp 33) (.tmp 40) 22 3 (.int .i64 0) 8 rfl Try.underlying22 info3 rfl (by decide) (by omega) u6 x6_1 (Go.bits .or .i64 (Go.bits .andNot .i64 (rd (l0_0.take ((ji4) : Int).toNat) x29_1) (ji30)) ji6) [.int .i64 (Go.bits .or .i64 (Go.bits .andNot .i64 (rd (l0_0.take ((ji4) : Int).toNat) x29_1) (ji30)) ji6)] (fun k_ => k_ ≠ gb316) (fun _ => False) rfl rfl ?aP (fun _ hk => hk.elim) ?aF ?aO ?aB ?aS ?aL ?_; (case aP => exact rfl); (case aB => exact (bB HB.out)); (case aF => exact (fun k_ hk => Kd.freshB (g := gb316) (o := .cells #[.int .i64 ji4] 3 (0, 0)) (kK BK316.out) k_ hk)); (case aO => exact (kR HO_6.out)); (case aS => exact (below_size (bB HB.out))); (case aL => have := LMc31.out; omega); intro v320 w36 ho hb hg hat; rw [← Ny319.out] at ho; replace BK310 := ak (blk_grown (g := gb310) (o := .cells #[.slice (some ad318) l0_0.length c0_0, .slice A0_1 l0_1.length c0_1] 25 (0, 0)) (kK BK310.out) hg (Kd.R_ne HO_6.out BK310.out (by decide))); replace BK311 := ak (blk_grown (g := gb311) (o := .cells #[.slice A1_0 l1_0.length c1_0, .slice A1_1 l1_1.length c1_1] 25 (0, 0)) (kK BK311.out) hg (Kd.R_ne HO_6.out BK311.out (by decide))); replace BK312 := ak (blk_grown (g := gb312) (o := .cells #[.slice none 0 0, .slice none 0 0] 25 (0, 0)) (kK BK312.out) hg (Kd.R_ne HO_6.out BK312.out (by decide))); replace BK316 := ak (blk_grown (g := gb316) (o := .cells #[.int .i64 ji4] 3 (0, 0)) (kK BK316.out) hg (Kd.R_away HO_6.out (fun _ hk => hk))); replace HB := ak (hb); have HO321 := ak (ho); clear HO_6; clear ho hb hg hat)))
    go_roundg k1
    case measure => have := HK1.out; omega
    case rel => exact ⟨(y319), (wrap64 (x29_1 + 1)), (by first | rfl | (simp; done) | (simp [*]; done)), H', ⟨by have := HK1.out; omega⟩, ⟨by (with_reducible repeat (first | apply Kd.R_alloc | apply Kd.R_drewN | apply Kd.R_drew)); exact HO321.out⟩, ⟨by (with_reducible repeat (first | refine blk_drewN ?_ _ | refine blk_drew ?_ | refine blk_alloc ?_ _)); exact BK310.out⟩, ⟨by (with_reducible repeat (first | refine blk_drewN ?_ _ | refine blk_drew ?_ | refine blk_alloc ?_ _)); exact BK311.out⟩, ⟨by (with_reducible repeat (first | refine blk_drewN ?_ _ | refine blk_drew ?_ | refine blk_alloc ?_ _)); exact BK312.out⟩, ⟨by (with_reducible repeat (first | refine blk_drewN ?_ _ | refine blk_drew ?_ | refine blk_alloc ?_ _)); exact BK316.out⟩, ⟨by repeat (first | (with_reducible first | exact HB.out | apply below_alloc | apply pw_below_drewN | apply below_drew1 | refine below_set ?_ GE310.out | refine below_set ?_ GE311.out | refine below_set ?_ GE312.out | refine below_set ?_ GE316.out) | exact HB.out)⟩⟩
   rw [if_neg c26] at H
   have c26b0 : decide (x29_1 < ((l0_0.take ((ji4) : Int).toNat).length : Int)) = false := decide_eq_false c26
   have c26m0 : decide (x29_1 < max ji4 0) = false := decide_eq_false (by have hl_ : ji4 ≤ (l0_0.length : Int) := (by have h2_ := HR0_0.out.2.1; have h3_ := hji4; unfold wrap64 at h3_; omega); have h_ := c26; rw [List.length_take] at h_; omega)
   have c26m1 : decide (x29_1 < (ji4.toNat : Int)) = false := decide_eq_false (by have hl_ : ji4 ≤ (l0_0.length : Int) := (by have h2_ := HR0_0.out.2.1; have h3_ := hji4; unfold wrap64 at h3_; omega); have h_ := c26; rw [List.length_take] at h_; omega)
   have c26m2 : (x29_1 < max ji4 0) = False := eq_false (of_decide_eq_false c26m0)
   clear c26
   have H' := ak H
   clear H
   have hnb37 := NB311_310.out
   have hnc37 := NB310_311.out
   have hnb38 := NB311_312.out
   have hnc38 := NB312_311.out
   have hnb39 := NB311_316.out
   have hnc39 := NB316_311.out
   have hcz40_0 : wr.cell? ⟨gb311, 0, none⟩ = some (.slice A1_0 l1_0.length c1_0) := (blk_cell BK311.out 0).trans rfl
   have hcz40_1 : wr.cell? ⟨gb311, 1, none⟩ = some (.slice A1_1 l1_1.length c1_1) := (blk_cell BK311.out 1).trans rfl
   have hfz40_0 := blk_frozen BK311.out 0
   have hfz40_1 := blk_frozen BK311.out 1
   go_wp2
   repeat ((refine wp_region_quiet_lit ?_ ?_ ?_; kernel_rfl; kernel_rfl; (repeat (first | go_big_quiet_step (fail) | (refine wpQuiet_step (fun K hK => ?_); go_simp; refine hK _ ?_; clear hK K))); refine wpQuiet_nil ?_; intro _ hw'; obtain ⟨nq, hw''⟩ := hw'; subst hw''); try go_wp2)
   go_loopg [6, 46] k1 (fun kq v6 v46 w' => ∃ (x6_2 : List Int) (x46_2 : Int), v46 = .int .i64 x46_2 ∧ Aside0 (impl_stack.l1 kq x6_2 l1_0 (l1_0.length : Int) x46_2 l0_0 l0_1 l1_0 l1_1 ji4 = some (r1, r2)) ∧ Aside0 (kq ≤ k1) ∧ Aside0 (Kd.R (Kd.int .i64) 3 w' w.heap.size (fun k_ => k_ ≠ gb316) v6 x6_2) ∧ Aside0 (w'.heap[gb310]? = some (.cells #[(.slice A0_0 l0_0.length c0_0), (.slice A0_1 l0_1.length c0_1)] 25 (0, 0))) ∧ Aside0 (w'.heap[gb311]? = some (.cells #[(.slice A1_0 l1_0.length c1_0), (.slice A1_1 l1_1.length c1_1)] 25 (0, 0))) ∧ Aside0 (w'.heap[gb312]? = some (.cells #[(.slice none 0 0), (.slice none 0 0)] 25 (0, 0))) ∧ Aside0 (w'.heap[gb316]? = some (.cells #[.int .i64 ji4] 3 (0, 0))) ∧ Aside0 (Below w.heap.size w w'))
   case atStart => exact ⟨(x6_1), (0), (by first | rfl | (simp; done) | (simp [*]; done)), H', ⟨Nat.le_refl _⟩, ⟨by (with_reducible repeat (first | apply Kd.R_alloc | apply Kd.R_drewN | apply Kd.R_drew)); exact HO_6.out⟩, ⟨by (with_reducible repeat (first | refine blk_drewN ?_ _ | refine blk_drew ?_ | refine blk_alloc ?_ _)); exact BK310.out⟩, ⟨by (with_reducible repeat (first | refine blk_drewN ?_ _ | refine blk_drew ?_ | refine blk_alloc ?_ _)); exact BK311.out⟩, ⟨by (with_reducible repeat (first | refine blk_drewN ?_ _ | refine blk_drew ?_ | refine blk_alloc ?_ _)); exact BK312.out⟩, ⟨by (with_reducible repeat (first | refine blk_drewN ?_ _ | refine blk_drew ?_ | refine blk_alloc ?_ _)); exact BK316.out⟩, ⟨by repeat (first | (with_reducible first | exact HB.out | apply below_alloc | apply pw_below_drewN | apply below_drew1 | refine below_set ?_ GE310.out | refine below_set ?_ GE311.out | refine below_set ?_ GE312.out | refine below_set ?_ GE316.out) | exact HB.out)⟩⟩
   case round =>
    clear H'
    try clear c1
    try clear c2
    try clear p2
    try clear c3
    try clear p3
    try clear q3
    try clear hx3
    try clear c5
    try clear c5b0
    try clear c5b1
    try clear p6
    try clear c7
    try clear c7b0
    try clear c8
    try clear c8b0
    try clear c8b1
    try clear c12
    try clear c13
    try clear c18
    try clear c19
    try clear c20
    try clear c22
    try clear c26
    try clear c26b0
    try clear c27
    try clear c27b0
    try clear c28
    try clear c28b0
    try clear c29
    try clear c29b0
    try clear c29b1
    try clear c31
    try clear p31
    try clear q31
    try clear hx31
    try clear c32
    try clear c33
    try clear c34
    try clear c37
    try clear c38
    try clear c39
    try clear hcz14_0
    try clear hcz14_1
    try clear hcz21_0
    try clear hcz23_0
    try clear hcz23_1
    try clear hcz24_0
    try clear hcz24_1
    try clear hcz35_0
    try clear hcz40_0
    try clear hcz40_1
    try clear hfz14_0
    try clear hfz14_1
    try clear hfz21_0
    try clear hfz23_0
    try clear hfz23_1
    try clear hfz24_0
    try clear hfz24_1
    try clear hfz35_0
    try clear hfz40_0
    try clear hfz40_1
    try clear hx318_0
    try clear p2
    try clear p318
    try clear p6
    try clear q318
    obtain ⟨x6_2, x46_2, rfl, HA, HK2, HO_6, BK310, BK311, BK312, BK316, HB⟩ := hrel
    cases gk with
    | zero => exact absurd HA.out (by simp [impl_stack.l1])
    | succ k2 =>
     have H := HA.out
     clear HA
     simp only [impl_stack.l1] at H
     by_cases c41 : x46_2 < (l1_0.length : Int)
     rotate_left
     ·rw [if_neg c41] at H
      have c41b0 : decide (x46_2 < (l1_0.length : Int)) = false := decide_eq_false c41
      clear c41
      replace H := bi H
      obtain ⟨⟨t326, t329⟩, A520, H⟩ := H
      try dsimp only at H
      have A52 := ak A520
      clear A520
      simp only [Option.some.injEq, Prod.mk.injEq] at H
      obtain ⟨rfl, rfl⟩ := H
      obtain ⟨Ao53, co53, eo53⟩ := Kd.R_slice HO_6.out
      subst eo53
      go_wp2_with (first | (go_at_call 60; (with_reducible refine (bu_stack_1.calls k2 _ _ x6_2 gb316 ji4 gb311 A1_0 c1_0 l1_0 A1_1 c1_1 l1_1 gb310 A0_0 c0_0 l0_0 A0_1 c0_1 l0_1 t326 t329 _ ?side1 ?side2 ?side3 ?side4 ?side5 ?side6 ?side7 ?side8 ?side9 ?side10 ?side11 ?side12 ?side13 A52.out).mono ?_); (case side1 => exact kC (Kd.R_reads' HO_6.out).2.2); (case side2 => exact (Kd.R_reads' HO_6.out).2.1); (case side3 => exact kC (Kd.C_below HR1_0.out HB.out)); (case side4 => exact HC1_0.out); (case side5 => exact kC (Kd.C_below HR1_1.out HB.out)); (case side6 => exact HC1_1.out); (case side7 => exact kC (Kd.C_below HR0_0.out HB.out)); (case side8 => exact HC0_0.out); (case side9 => exact kC (Kd.C_below HR0_1.out HB.out)); (case side10 => exact HC0_1.out); (case side11 => exact (show _ from by (with_reducible repeat (first | refine blk_drewN ?_ _ | refine blk_drew ?_ | refine blk_alloc ?_ _)); exact BK316.out)); (case side12 => exact (show _ from by (with_reducible repeat (first | refine blk_drewN ?_ _ | refine blk_drew ?_ | refine blk_alloc ?_ _)); exact BK311.out)); (case side13 => exact (show _ from by (with_reducible repeat (first | refine blk_drewN ?_ _ | refine blk_drew ?_ | refine blk_alloc ?_ _)); exact BK310.out)); rintro e w54 ⟨v327, v330, rfl, ho0, ho1, hb⟩; have HO328 := ak (Kd.R_lower (Kd.R_newB (Kd.R_new' ho0 (Kd.R_lt (kR HO_6.out))) (g := gb316) (o := .cells #[.int .i64 ji4] 3 (0, 0)) (kK BK316.out)) (below_size (bB HB.out))); have HO331 := ak (Kd.S_lower (Kd.S_newB (Kd.S_new' ho1 (Kd.R_lt (kR HO_6.out))) (g := gb316) (o := .cells #[.int .i64 ji4] 3 (0, 0)) (kK BK316.out)) (below_size (bB HB.out))); replace HO_6 := ak (Kd.R_elder' (kR HO_6.out) (Kd.R_base ho0) hb); replace BK310 := ak (blk_below (kK BK310.out) hb); replace BK311 := ak (blk_below (kK BK311.out) hb); replace BK312 := ak (blk_below (kK BK312.out) hb); replace BK316 := ak (blk_below (kK BK316.out) hb); replace HB := ak (below_step (bB HB.out) hb); (try clear hb); (try clear hb2); (try clear hk); (try clear hi); (try clear ho0); (try clear ho1); obtain ⟨Ao55, co55, eo55⟩ := Kd.R_slice HO328.out; subst eo55; have hnb56 := NB312_310.out; have hnc56 := NB310_312.out; have hnb57 := NB312_311.out; have hnc57 := NB311_312.out; have hnb58 := NB312_316.out; have hnc58 := NB316_312.out; have hcz59_0 : w54.cell? ⟨gb312, 0, none⟩ = some (.slice none 0 0) := (blk_cell BK312.out 0).trans rfl; have hcz59_1 : w54.cell? ⟨gb312, 1, none⟩ = some (.slice none 0 0) := (blk_cell BK312.out 1).trans rfl; have hfz59_0 := blk_frozen BK312.out 0; have hfz59_1 := blk_frozen BK312.out 1; obtain ⟨Ao60, co60, eo60⟩ := Kd.S_slice HO331.out; subst eo60))
      repeat ((refine wp_region_quiet_lit ?_ ?_ ?_; kernel_rfl; kernel_rfl; (repeat (first | go_big_quiet_step (first | (go_at_call 60; (with_reducible refine (bu_stack_1.calls k2 _ _ x6_2 gb316 ji4 gb311 A1_0 c1_0 l1_0 A1_1 c1_1 l1_1 gb310 A0_0 c0_0 l0_0 A0_1 c0_1 l0_1 t326 t329 _ ?side1 ?side2 ?side3 ?side4 ?side5 ?side6 ?side7 ?side8 ?side9 ?side10 ?side11 ?side12 ?side13 A52.out).mono ?_); (case side1 => exact kC (Kd.R_reads' HO_6.out).2.2); (case side2 => exact (Kd.R_reads' HO_6.out).2.1); (case side3 => exact kC (Kd.C_below HR1_0.out HB.out)); (case side4 => exact HC1_0.out); (case side5 => exact kC (Kd.C_below HR1_1.out HB.out)); (case side6 => exact HC1_1.out); (case side7 => exact kC (Kd.C_below HR0_0.out HB.out)); (case side8 => exact HC0_0.out); (case side9 => exact kC (Kd.C_below HR0_1.out HB.out)); (case side10 => exact HC0_1.out); (case side11 => exact (show _ from by (with_reducible repeat (first | refine blk_drewN ?_ _ | refine blk_drew ?_ | refine blk_alloc ?_ _)); exact BK316.out)); (case side12 => exact (show _ from by (with_reducible repeat (first | refine blk_drewN ?_ _ | refine blk_drew ?_ | refine blk_alloc ?_ _)); exact BK311.out)); (case side13 => exact (show _ from by (with_reducible repeat (first | refine blk_drewN ?_ _ | refine blk_drew ?_ | refine blk_alloc ?_ _)); exact BK310.out)); rintro e w54 ⟨v327, v330, rfl, ho0, ho1, hb⟩; have HO328 := ak (Kd.R_lower (Kd.R_newB (Kd.R_new' ho0 (Kd.R_lt (kR HO_6.out))) (g := gb316) (o := .cells #[.int .i64 ji4] 3 (0, 0)) (kK BK316.out)) (below_size (bB HB.out))); have HO331 := ak (Kd.S_lower (Kd.S_newB (Kd.S_new' ho1 (Kd.R_lt (kR HO_6.out))) (g := gb316) (o := .cells #[.int .i64 ji4] 3 (0, 0)) (kK BK316.out)) (below_size (bB HB.out))); replace HO_6 := ak (Kd.R_elder' (kR HO_6.out) (Kd.R_base ho0) hb); replace BK310 := ak (blk_below (kK BK310.out) hb); replace BK311 := ak (blk_below (kK BK311.out) hb); replace BK312 := ak (blk_below (kK BK312.out) hb); replace BK316 := ak (blk_below (kK BK316.out) hb); replace HB := ak (below_step (bB HB.out) hb); (try clear hb); (try clear hb2); (try clear hk); (try clear hi); (try clear ho0); (try clear ho1); obtain ⟨Ao55, co55, eo55⟩ := Kd.R_slice HO328.out; subst eo55; have hnb56 := NB312_310.out; have hnc56 := NB310_312.out; have hnb57 := NB312_311.out; have hnc57 := NB311_312.out; have hnb58 := NB312_316.out; have hnc58 := NB316_312.out; have hcz59_0 : w54.cell? ⟨gb312, 0, none⟩ = some (.slice none 0 0) := (blk_cell BK312.out 0).trans rfl; have hcz59_1 : w54.cell? ⟨gb312, 1, none⟩ = some (.slice none 0 0) := (blk_cell BK312.out 1).trans rfl; have hfz59_0 := blk_frozen BK312.out 0; have hfz59_1 := blk_frozen BK312.out 1; obtain ⟨Ao60, co60, eo60⟩ := Kd.S_slice HO331.out; subst eo60)) | (refine wpQuiet_step (fun K hK => ?_); go_simp; refine hK _ ?_; clear hK K))); refine wpQuiet_nil ?_; intro _ hw'; obtain ⟨nq, hw''⟩ := hw'; subst hw''); try go_wp2_with (first | (go_at_call 60; (with_reducible refine (bu_stack_1.calls k2 _ _ x6_2 gb316 ji4 gb311 A1_0 c1_0 l1_0 A1_1 c1_1 l1_1 gb310 A0_0 c0_0 l0_0 A0_1 c0_1 l0_1 t326 t329 _ ?side1 ?side2 ?side3 ?side4 ?side5 ?side6 ?side7 ?side8 ?side9 ?side10 ?side11 ?side12 ?side13 A52.out).mono ?_); (case side1 => exact kC (Kd.R_reads' HO_6.out).2.2); (case side2 => exact (Kd.R_reads' HO_6.out).2.1); (case side3 => exact kC (Kd.C_below HR1_0.out HB.out)); (case side4 => exact HC1_0.out); (case side5 => exact kC (Kd.C_below HR1_1.out HB.out)); (case side6 => exact HC1_1.out); (case side7 => exact kC (Kd.C_below HR0_0.out HB.out)); (case side8 => exact HC0_0.out); (case side9 => exact kC (Kd.C_below HR0_1.out HB.out)); (case side10 => exact HC0_1.out); (case side11 => exact (show _ from by (with_reducible repeat (first | refine blk_drewN ?_ _ | refine blk_drew ?_ | refine blk_alloc ?_ _)); exact BK316.out)); (case side12 => exact (show _ from by (with_reducible repeat (first | refine blk_drewN ?_ _ | refine blk_drew ?_ | refine blk_alloc ?_ _)); exact BK311.out)); (case side13 => exact (show _ from by (with_reducible repeat (first | refine blk_drewN ?_ _ | refine blk_drew ?_ | refine blk_alloc ?_ _)); exact BK310.out)); rintro e w54 ⟨v327, v330, rfl, ho0, ho1, hb⟩; have HO328 := ak (Kd.R_lower (Kd.R_newB (Kd.R_new' ho0 (Kd.R_lt (kR HO_6.out))) (g := gb316) (o := .cells #[.int .i64 ji4] 3 (0, 0)) (kK BK316.out)) (below_size (bB HB.out))); have HO331 := ak (Kd.S_lower (Kd.S_newB (Kd.S_new' ho1 (Kd.R_lt (kR HO_6.out))) (g := gb316) (o := .cells #[.int .i64 ji4] 3 (0, 0)) (kK BK316.out)) (below_size (bB HB.out))); replace HO_6 := ak (Kd.R_elder' (kR HO_6.out) (Kd.R_base ho0) hb); replace BK310 := ak (blk_below (kK BK310.out) hb); replace BK311 := ak (blk_below (kK BK311.out) hb); replace BK312 := ak (blk_below (kK BK312.out) hb); replace BK316 := ak (blk_below (kK BK316.out) hb); replace HB := ak (below_step (bB HB.out) hb); (try clear hb); (try clear hb2); (try clear hk); (try clear hi); (try clear ho0); (try clear ho1); obtain ⟨Ao55, co55, eo55⟩ := Kd.R_slice HO328.out; subst eo55; have hnb56 := NB312_310.out; have hnc56 := NB310_312.out; have hnb57 := NB312_311.out; have hnc57 := NB311_312.out; have hnb58 := NB312_316.out; have hnc58 := NB316_312.out; have hcz59_0 : w54.cell? ⟨gb312, 0, none⟩ = some (.slice none 0 0) := (blk_cell BK312.out 0).trans rfl; have hcz59_1 : w54.cell? ⟨gb312, 1, none⟩ = some (.slice none 0 0) := (blk_cell BK312.out 1).trans rfl; have hfz59_0 := blk_frozen BK312.out 0; have hfz59_1 := blk_frozen BK312.out 1; obtain ⟨Ao60, co60, eo60⟩ := Kd.S_slice HO331.out; subst eo60)))
      refine bodyPost_ret (results_cell_row rfl _ _ gb312 25 #[.slice Ao55 t326.length co55, .slice Ao60 t329.length co60] (0, 0) _ rfl (by (with_reducible repeat (first | refine blk_drewN ?_ _ | refine blk_drew ?_ | refine blk_alloc ?_ _)); refine blk_put (cs := #[.slice Ao55 t326.length co55, .slice none 0 0]) ?_ 1 _ rfl; (with_reducible repeat (first | refine blk_drewN ?_ _ | refine blk_drew ?_ | refine blk_alloc ?_ _)); refine blk_put (cs := #[.slice none 0 0, .slice none 0 0]) ?_ 0 _ rfl; (with_reducible repeat (first | refine blk_drewN ?_ _ | refine blk_drew ?_ | refine blk_alloc ?_ _)); exact BK312.out) Try.underlying25 rfl (by kernel_rfl)) rfl ?_
      exact ⟨_, _, by first | rfl | (simp [errW_none, errW_some] <;> rfl) | (simp only [← hji3, ← hji4, ← hji6]; first | rfl | (simp [errW_none, errW_some] <;> rfl)) | (simp [*, errW_none, errW_some] <;> rfl), by (with_reducible repeat (first | apply Kd.R_alloc | apply Kd.R_drewN | apply Kd.R_drew)); exact Kd.R_mono (Kd.R_far (p := ⟨gb312, 1, none⟩) (Kd.R_far (p := ⟨gb312, 0, none⟩) (Kd.R_types HO328.out BK312.out (by decide)) (fun _ hk => hk.2) (.slice Ao55 t326.length co55)) (fun _ hk => hk.2) (.slice Ao60 t329.length co60)) (fun _ hk => trivial), by (with_reducible repeat (first | apply Kd.S_alloc | apply Kd.S_drewN | apply Kd.S_drew)); exact Kd.S_mono (Kd.S_far (p := ⟨gb312, 1, none⟩) (Kd.S_far (p := ⟨gb312, 0, none⟩) (Kd.S_types HO331.out BK312.out (by decide)) (fun _ hk => hk.2) (.slice Ao55 t326.length co55)) (fun _ hk => hk.2) (.slice Ao60 t329.length co60)) (fun _ hk => hk.1.1.1), by repeat (first | (with_reducible first | exact HB.out | apply below_alloc | apply pw_below_drewN | apply below_drew1 | refine below_set ?_ GE310.out | refine below_set ?_ GE311.out | refine below_set ?_ GE312.out | refine below_set ?_ GE316.out) | exact HB.out)⟩
     rw [if_pos c41] at H
     have c41b0 : decide (x46_2 < (l1_0.length : Int)) = true := decide_eq_true c41
     clear c41
     replace H := oi H
     obtain ⟨c42, H⟩ := H
     have c42b0 : decide (0 ≤ x46_2) = true := decide_eq_true c42
     clear c42
     replace H := oi H
     obtain ⟨c43, H⟩ := H
     have c43b0 : decide (x46_2 < (l1_0.length : Int)) = true := decide_eq_true c43
     clear c43
     replace H := oi H
     obtain ⟨c44, H⟩ := H
     have c44b0 := eq_true c44
     have c44b1 : decide (0 ≤ ji4) = true := decide_eq_true c44
     clear c44
     obtain ⟨ji45, hji45⟩ : ∃ j_ : Int, (shl .i64 (rd l1_0 x46_2) ji4) = j_ := ⟨_, rfl⟩
     replace H : (if x6_2.length < 17592186044416 then (impl_stack.l1 k2 (x6_2 ++ [ji45]) l1_0 (l1_0.length : Int) (wrap64 (x46_2 + 1)) l0_0 l0_1 l1_0 l1_1 ji4) else (none)) = some (r1, r2) := by first | (rw [hji45] at H; exact H) | (simp only [hji45] at H ⊢; exact H)
     have hji45_ : (IntKind.i64.wrap ((rd l1_0 x46_2) * 2 ^ min ji4.toNat 64)) = ji45 := hji45
     have hji45z : ji4 ≤ 64 → (IntKind.i64.wrap ((rd l1_0 x46_2) * 2 ^ ji4.toNat)) = ji45 := shl_small hji45
     have hji45y : (wrap64 ((rd l1_0 x46_2) * 2 ^ min ji4.toNat 64)) = ji45 := (i64_w _).symm.trans hji45_
     have hji45x : ji4 ≤ 64 → (wrap64 ((rd l1_0 x46_2) * 2 ^ ji4.toNat)) = ji45 := fun h_ => (i64_w _).symm.trans (hji45z h_)
     replace H := oi H
     obtain ⟨c46, H⟩ := H
     have LMc46 := ak c46
     clear c46
     obtain ⟨y323, hy323⟩ : ∃ y_ : List Int, y_ = (x6_2 ++ [ji45]) := ⟨_, rfl⟩
     replace H : (impl_stack.l1 k2 y323 l1_0 (l1_0.length : Int) (wrap64 (x46_2 + 1)) l0_0 l0_1 l1_0 l1_1 ji4) = some (r1, r2) := by first | (rw [hy323]; with_reducible exact H) | (have H2_ := (Option.bind_some _ _).symm.trans H; rw [hy323]; with_reducible exact H2_) | (have H2_ := (Option.bind_some _ _).symm.trans H; with_reducible exact H2_) | with_reducible exact H | (rw [hy323]; exact H) | exact H
     have Ny323 := ak hy323
     clear hy323
     have H' := ak H
     clear H
     have p322 : 0 ≤ (x46_2 : Int) := of_decide_eq_true (by first | (with_reducible assumption) | assumption)
     have q322 : x46_2 < (l1_0.length : Int) := of_decide_eq_true (by first | (with_reducible assumption) | assumption)
     obtain ⟨ad322, e322, hx322_0⟩ := Kd.at_int HR1_0.out x46_2 p322 q322
     cases e322
     replace hx322_0 := (HB.out.cell (World.block_lt_of_cell? w _ hx322_0)).trans hx322_0
     replace p322 := eq_true p322
     replace q322 := eq_true q322
     have hnb47 := NB316_310.out
     have hnc47 := NB310_316.out
     have hnb48 := NB316_311.out
     have hnc48 := NB311_316.out
     have hnb49 := NB316_312.out
     have hnc49 := NB312_316.out
     have hcz50_0 : wr.cell? ⟨gb316, 0, none⟩ = some (.int .i64 ji4) := (blk_cell BK316.out 0).trans rfl
     have hfz50_0 := blk_frozen BK316.out 0
     go_wp2_with (first | ((with_reducible refine gate_builtin (b := .append) (xs := #[.tmp 50, .tmp 54]) rfl ?_); at_builtin; refine Kd.R_append (Kd.int .i64) (w0 := w) w.heap.size rfl (.tmp 50) (.tmp 54) 22 3 (.int .i64 0) 8 rfl Try.underlying22 info3 rfl (by decide) (by omega) u6 x6_2 ji45 [.int .i64 ji45] (fun k_ => k_ ≠ gb316) (fun _ => False) rfl rfl ?aP (fun _ hk => hk.elim) ?aF ?aO ?aB ?aS ?aL ?_; (case aP => exact rfl); (case aB => exact (bB HB.out)); (case aF => exact (fun k_ hk => Kd.freshB (g := gb316) (o := .cells #[.int .i64 ji4] 3 (0, 0)) (kK BK316.out) k_ hk)); (case aO => exact (kR HO_6.out)); (case aS => exact (below_size (bB HB.out))); (case aL => have := LMc46.out; omega); intro v324 w51 ho hb hg hat; rw [← Ny323.out] at ho; replace BK310 := ak (blk_grown (g := gb310) (o := .cells #[.slice A0_0 l0_0.length c0_0, .slice A0_1 l0_1.length c0_1] 25 (0, 0)) (kK BK310.out) hg (Kd.R_ne HO_6.out BK310.out (by decide))); replace BK311 := ak (blk_grown (g := gb311) (o := .cells #[.slice (some ad322) l1_0.length c1_0, .slice A1_1 l1_1.length c1_1] 25 (0, 0)) (kK BK311.out) hg (Kd.R_ne HO_6.out BK311.out (by decide))); replace BK312 := ak (blk_grown (g := gb312) (o := .cells #[.slice none 0 0, .slice none 0 0] 25 (0, 0)) (kK BK312.out) hg (Kd.R_ne HO_6.out BK312.out (by decide))); replace BK316 := ak (blk_grown (g := gb316) (o := .cells #[.int .i64 ji4] 3 (0, 0)) (kK BK316.out) hg (Kd.R_away HO_6.out (fun _ hk => hk))); replace HB := ak (hb); have HO325 := ak (ho); clear HO_6; clear ho hb hg hat))
     repeat ((refine wp_region_quiet_lit ?_ ?_ ?_; kernel_rfl; kernel_rfl; (repeat (first | go_big_quiet_step (first | ((with_reducible refine gate_builtin (b := .append) (xs := #[.tmp 50, .tmp 54]) rfl ?_); at_builtin; refine Kd.R_append (Kd.int .i64) (w0 := w) w.heap.size rfl (.tmp 50) (.tmp 54) 22 3 (.int .i64 0) 8 rfl Try.underlying22 info3 rfl (by decide) (by omega) u6 x6_2 ji45 [.int .i64 ji45] (fun k_ => k_ ≠ gb316) (fun _ => False) rfl rfl ?aP (fun _ hk => hk.elim) ?aF ?aO ?aB ?aS ?aL ?_; (case aP => exact rfl); (case aB => exact (bB HB.out)); (case aF => exact (fun k_ hk => Kd.freshB (g := gb316) (o := .cells #[.int .i64 ji4] 3 (0, 0)) (kK BK316.out) k_ hk)); (case aO => exact (kR HO_6.out)); (case aS => exact (below_size (bB HB.out))); (case aL => have := LMc46.out; omega); intro v324 w51 ho hb hg hat; rw [← Ny323.out] at ho; replace BK310 := ak (blk_grown (g := gb310) (o := .cells #[.slice A0_0 l0_0.length c0_0, .slice A0_1 l0_1.length c0_1] 25 (0, 0)) (kK BK310.out) hg (Kd.R_ne HO_6.out BK310.out (by decide))); replace BK311 := ak (blk_grown (g := gb311) (o := .cells #[.slice (some ad322) l1_0.length c1_0, .slice A1_1 l1_1.length c1_1] 25 (0, 0)) (kK BK311.out) hg (Kd.R_ne HO_6.out BK311.out (by decide))); replace BK312 := ak (blk_grown (g := gb312) (o := .cells #[.slice none 0 0, .slice none 0 0] 25 (0, 0)) (kK BK312.out) hg (Kd.R_ne HO_6.out BK312.out (by decide))); replace BK316 := ak (blk_grown (g := gb316) (o := .cells #[.int .i64 ji4] 3 (0, 0)) (kK BK316.out) hg (Kd.R_away HO_6.out (fun _ hk => hk))); replace HB := ak (hb); have HO325 := ak (ho); clear HO_6; clear ho hb hg hat)) | (refine wpQuiet_step (fun K hK => ?_); go_simp; refine hK _ ?_; clear hK K))); refine wpQuiet_nil ?_; intro _ hw'; obtain ⟨nq, hw''⟩ := hw'; subst hw''); try go_wp2_with (first | ((with_reducible refine gate_builtin (b := .append) (xs := #[.tmp 50, .tmp 54]) rfl ?_); at_builtin; refine Kd.R_append (Kd.int .i64) (w0 := w) w.heap.size rfl (.tmp 50) (.tmp 54) 22 3 (.int .i64 0) 8 rfl Try.underlying22 info3 rfl (by decide) (by omega) u6 x6_2 ji45 [.int .i64 ji45] (fun k_ => k_ ≠ gb316) (fun _ => False) rfl rfl ?aP (fun _ hk => hk.elim) ?aF ?aO ?aB ?aS ?aL ?_; (case aP => exact rfl); (case aB => exact (bB HB.out)); (case aF => exact (fun k_ hk => Kd.freshB (g := gb316) (o := .cells #[.int .i64 ji4] 3 (0, 0)) (kK BK316.out) k_ hk)); (case aO => exact (kR HO_6.out)); (case aS => exact (below_size (bB HB.out))); (case aL => have := LMc46.out; omega); intro v324 w51 ho hb hg hat; rw [← Ny323.out] at ho; replace BK310 := ak (blk_grown (g := gb310) (o := .cells #[.slice A0_0 l0_0.length c0_0, .slice A0_1 l0_1.length c0_1] 25 (0, 0)) (kK BK310.out) hg (Kd.R_ne HO_6.out BK310.out (by decide))); replace BK311 := ak (blk_grown (g := gb311) (o := .cells #[.slice (some ad322) l1_0.length c1_0, .slice A1_1 l1_1.length c1_1] 25 (0, 0)) (kK BK311.out) hg (Kd.R_ne HO_6.out BK311.out (by decide))); replace BK312 := ak (blk_grown (g := gb312) (o := .cells #[.slice none 0 0, .slice none 0 0] 25 (0, 0)) (kK BK312.out) hg (Kd.R_ne HO_6.out BK312.out (by decide))); replace BK316 := ak (blk_grown (g := gb316) (o := .cells #[.int .i64 ji4] 3 (0, 0)) (kK BK316.out) hg (Kd.R_away HO_6.out (fun _ hk => hk))); replace HB := ak (hb); have HO325 := ak (ho); clear HO_6; clear ho hb hg hat)))
     go_roundg k2
     case measure => have := HK1.out; have := HK2.out; omega
     case rel => exact ⟨(y323), (wrap64 (x46_2 + 1)), (by first | rfl | (simp; done) | (simp [*]; done)), H', ⟨by have := HK1.out; have := HK2.out; omega⟩, ⟨by (with_reducible repeat (first | apply Kd.R_alloc | apply Kd.R_drewN | apply Kd.R_drew)); exact HO325.out⟩, ⟨by (with_reducible repeat (first | refine blk_drewN ?_ _ | refine blk_drew ?_ | refine blk_alloc ?_ _)); exact BK310.out⟩, ⟨by (with_reducible repeat (first | refine blk_drewN ?_ _ | refine blk_drew ?_ | refine blk_alloc ?_ _)); exact BK311.out⟩, ⟨by (with_reducible repeat (first | refine blk_drewN ?_ _ | refine blk_drew ?_ | refine blk_alloc ?_ _)); exact BK312.out⟩, ⟨by (with_reducible repeat (first | refine blk_drewN ?_ _ | refine blk_drew ?_ | refine blk_alloc ?_ _)); exact BK316.out⟩, ⟨by repeat (first | (with_reducible first | exact HB.out | apply below_alloc | apply pw_below_drewN | apply below_drew1 | refine below_set ?_ GE310.out | refine below_set ?_ GE311.out | refine below_set ?_ GE312.out | refine below_set ?_ GE316.out) | exact HB.out)⟩⟩
end Go.Proofs.Ytjidbgmkhapklaa.P

-- shrunk
