-- Printed by this session's wip/print2.py (the kit's print.py, widened) out of the translation. Lean checks it.
import Derived.Test.YtomapoenndlbiaaP0
import Derived.Test.YtomapoenndlbiaaP7
import Derived.Test.YtomapoenndlbiaaP14
import Derived.Test.YtomapoenndlbiaaP16
namespace Go.Proofs.Ytomapoenndlbiaa.P
open Go.RowKit Go.Proofs.YtomapoenndlbiaaW.PrintWords Go.Proofs.YtomapoenndlbiaaW.PrintLast Go.Proofs.YtomapoenndlbiaaW.PrintMore
attribute [local go_sem] max2_int min2_int max_two min_two max_three min_three max_four min_four   -- for this text's walks alone
set_option linter.unusedVariables false
set_option linter.unusedSimpArgs false

/-! ### spec_imageOf: function 46 -/
def spec_imageOf.l0 : Nat → List Int → Int → Int → Option (Int)
 | 0, _, _, _ => none
 | k + 1, x0, x3, x4 => if x4 < (x0.length : Int) then (if 0 ≤ x4 then ((spec_power.f k (rd x0 x4)).bind fun t444 => (spec_imageOf.l0 k x0 (Go.bits .or .i64 x3 t444) (wrap64 (x4 + 1)))) else (none)) else (some x3)
def spec_imageOf.f (k : Nat) (l0 : List Int) : Option (Int) := spec_imageOf.l0 k l0 0 0
set_option maxHeartbeats 8000000 in
set_option maxRecDepth 100000 in
theorem spec_imageOf.calls (k : Nat) (A0 : Option Addr) (c0 : Nat) (l0 : List Int) (r : Int) (w : World) (hr0 : Kd.C (Kd.int .i64) w A0 l0.length l0) (hc0 : l0.length ≤ c0) (h : spec_imageOf.f k l0 = some r) :
  Calls Try.prog 46 #[.slice A0 l0.length c0] w fun e w' => e = .returned (.int .i64 r) ∧ Drawn0 w w' := by
 have HR0 := ak hr0
 have HC0 := ak hc0
 clear hr0 hc0
 have H : (spec_imageOf.l0 k l0 0 0) = some r := h
 clear h
 have H' := ak H
 clear H
 go_enter Try.func46, Try.ntmps46
 go_wp2
 go_loopg [3, 4] k (fun kq v3 v4 w' => ∃ (x3_1 : Int) (x4_1 : Int), v3 = .int .i64 x3_1 ∧ v4 = .int .i64 x4_1 ∧ Aside0 (spec_imageOf.l0 kq l0 x3_1 x4_1 = some r) ∧ Aside0 (kq ≤ k) ∧ Drawn0 w w')
 case atStart => exact ⟨(0), (0), (by first | rfl | (simp; done) | (simp [*]; done)), (by first | rfl | (simp; done) | (simp [*]; done)), H', ⟨Nat.le_refl _⟩, by repeat (first | exact Drawn0.refl _ | apply Drawn0.step)⟩
 case round =>
  clear H'
  obtain ⟨x3_1, x4_1, rfl, rfl, HA, HK1, ⟨m1, rfl⟩⟩ := hrel
  cases gk with
  | zero => exact absurd HA.out (by simp [spec_imageOf.l0])
  | succ k1 =>
   have H := HA.out
   clear HA
   simp only [spec_imageOf.l0] at H
   by_cases c2 : x4_1 < (l0.length : Int)
   rotate_left
   ·rw [if_neg c2] at H
    have c2b0 : decide (x4_1 < (l0.length : Int)) = false := decide_eq_false c2
    clear c2
    obtain rfl := Option.some.inj H
    go_wp2
    go_ret
    exact ⟨by first | rfl | (simp; done) | (simp [*]; done), by repeat (first | exact Drawn0.refl _ | apply Drawn0.step)⟩
   rw [if_pos c2] at H
   have c2b0 : decide (x4_1 < (l0.length : Int)) = true := decide_eq_true c2
   clear c2
   replace H := oi H
   obtain ⟨c3, H⟩ := H
   have c3b0 : decide (0 ≤ x4_1) = true := decide_eq_true c3
   clear c3
   replace H := bi H
   obtain ⟨t444, A40, H⟩ := H
   try dsimp only at H
   have A4 := ak A40
   clear A40
   have H' := ak H
   clear H
   have p443 : 0 ≤ (x4_1 : Int) := of_decide_eq_true (by first | (with_reducible assumption) | assumption)
   have q443 : x4_1 < (l0.length : Int) := of_decide_eq_true (by first | (with_reducible assumption) | assumption)
   obtain ⟨ad443, e443, hx443_0⟩ := Kd.at_int HR0.out x4_1 p443 q443
   cases e443
   replace p443 := eq_true p443
   replace q443 := eq_true q443
   go_wp2_with (first | ((with_reducible refine gate_callee (f := 45) rfl ?_); refine goesL_ (some 16) rfl rfl Try.func45 (by kernel_rfl) rfl #[.int .i64 (rd l0 x4_1)] rfl (by (try simp only [List.map_toArray, List.map_cons, List.map_nil]); first | done | rfl | (simp only [List.length_drop, List.length_take]; rfl)) ?_; (with_reducible refine (spec_power.calls k1 (rd l0 x4_1) t444 _ A4.out).mono ?_); rintro e w' ⟨rfl, ⟨nd, rfl⟩⟩; refine ⟨_, rfl, ?_⟩))
   go_roundg k1
   case measure => have := HK1.out; omega
   case rel => exact ⟨(Go.bits .or .i64 x3_1 t444), (wrap64 (x4_1 + 1)), (by first | rfl | (simp; done) | (simp [*]; done)), (by first | rfl | (simp; done) | (simp [*]; done)), H', ⟨by have := HK1.out; omega⟩, by repeat (first | exact Drawn0.refl _ | apply Drawn0.step)⟩
/-! ### spec_ImageOf: function 22 -/
def spec_ImageOf.f (k : Nat) (l0_0 : List Int) (l0_1 : List (List Int)) (l1_0 : List Int) (l1_1 : List (List Int)) (l2 : List Int) : Option (Int) := (spec_validAlgebra.f k l0_0 l0_1).bind fun t447 => (if t447 = true then ((spec_validAlgebra.f k l1_0 l1_1).bind fun t448 => (if t448 = true then ((spec_isMap.f k l0_0 l0_1 l1_0 l1_1 l2).bind fun t449 => (if t449 = true then ((spec_imageOf.f k l2).bind fun t450 => (some t450)) else (some (-1)))) else (some (-1)))) else (some (-1)))
set_option maxHeartbeats 8000000 in
set_option maxRecDepth 100000 in
theorem spec_ImageOf.calls (k : Nat) (A0_0 : Option Addr) (c0_0 : Nat) (l0_0 : List Int) (A0_1 : Option Addr) (c0_1 : Nat) (l0_1 : List (List Int)) (A1_0 : Option Addr) (c1_0 : Nat) (l1_0 : List Int) (A1_1 : Option Addr) (c1_1 : Nat) (l1_1 : List (List Int)) (A2 : Option Addr) (c2 : Nat) (l2 : List Int) (r : Int) (w : World) (hr0_0 : Kd.C (Kd.int .i64) w A0_0 l0_0.length l0_0) (hc0_0 : l0_0.length ≤ c0_0) (hr0_1 : Kd.C (Kd.slice 3 (Kd.int .i64)) w A0_1 l0_1.length l0_1) (hc0_1 : l0_1.length ≤ c0_1) (hr1_0 : Kd.C (Kd.int .i64) w A1_0 l1_0.length l1_0) (hc1_0 : l1_0.length ≤ c1_0) (hr1_1 : Kd.C (Kd.slice 3 (Kd.int .i64)) w A1_1 l1_1.length l1_1) (hc1_1 : l1_1.length ≤ c1_1) (hr2 : Kd.C (Kd.int .i64) w A2 l2.length l2) (hc2 : l2.length ≤ c2) (h : spec_ImageOf.f k l0_0 l0_1 l1_0 l1_1 l2 = some r) :
  Calls Try.prog 22 #[.agg #[.slice A0_0 l0_0.length c0_0, .slice A0_1 l0_1.length c0_1], .agg #[.slice A1_0 l1_0.length c1_0, .slice A1_1 l1_1.length c1_1], .slice A2 l2.length c2] w fun e w' => e = .returned (.int .i64 r) ∧ Below w.heap.size w w' := by
 have hu28 := Try.underlying28
 have HR0_0 := ak hr0_0
 have HC0_0 := ak hc0_0
 clear hr0_0 hc0_0
 have HR0_1 := ak hr0_1
 have HC0_1 := ak hc0_1
 clear hr0_1 hc0_1
 have HR1_0 := ak hr1_0
 have HC1_0 := ak hc1_0
 clear hr1_0 hc1_0
 have HR1_1 := ak hr1_1
 have HC1_1 := ak hc1_1
 clear hr1_1 hc1_1
 have HR2 := ak hr2
 have HC2 := ak hc2
 clear hr2 hc2
 have HB := ak (Below.refl w.heap.size w)
 have H : ((spec_validAlgebra.f k l0_0 l0_1).bind fun t447 => (if t447 = true then ((spec_validAlgebra.f k l1_0 l1_1).bind fun t448 => (if t448 = true then ((spec_isMap.f k l0_0 l0_1 l1_0 l1_1 l2).bind fun t449 => (if t449 = true then ((spec_imageOf.f k l2).bind fun t450 => (some t450)) else (some (-1)))) else (some (-1)))) else (some (-1)))) = some r := h
 clear h
 replace H := bi H
 obtain ⟨t447, A40, H⟩ := H
 try dsimp only at H
 have A4 := ak A40
 clear A40
 by_cases c5 : t447 = true
 rotate_left
 ·replace c5 := Bool.eq_false_iff.mpr c5
  subst c5
  rw [if_neg (show ¬ (false = true) by decide)] at H
  obtain rfl := Option.some.inj H
  go_enter Try.func22, Try.ntmps22
  go_wp2_with (first | ((with_reducible refine gate_dst (N := 3) rfl ?_); refine box_event ?hg (N := 3) ?hd (cs := #[.slice A0_0 l0_0.length c0_0, .slice A0_1 l0_1.length c0_1]) (t := 28) ?hr ?_; (case hd => rfl); (case hg => rfl); (case hr => first | (go_simp; done) | (go_simp; rfl)); intro gb445 hg w38 hbox hb; have BK445 := ak (hbox); have GW445 := ak ((by rw [hg]; exact (below_size (bB HB.out)) : w.heap.size ≤ gb445)); have GE445 := ak ((by rw [hg]; exact (below_size (bB HB.out)) : w.heap.size ≤ gb445)); replace HB := ak (below_step (bB HB.out) hb); clear hb hbox hg) | ((with_reducible refine gate_dst (N := 4) rfl ?_); refine box_event ?hg (N := 4) ?hd (cs := #[.slice A1_0 l1_0.length c1_0, .slice A1_1 l1_1.length c1_1]) (t := 28) ?hr ?_; (case hd => rfl); (case hg => rfl); (case hr => first | (go_simp; done) | (go_simp; rfl)); intro gb446 hg w39 hbox hb; have BK446 := ak (hbox); have GW446 := ak ((by rw [hg]; exact (below_size (bB HB.out)) : w.heap.size ≤ gb446)); have GE446 := ak ((by rw [hg]; exact (below_size (bB HB.out)) : w.heap.size ≤ gb446)); replace HB := ak (below_step (bB HB.out) hb); have NB445_446 := ak ((ne_box hg (kK BK445.out))); have NB446_445 := ak ((ne_box' hg (kK BK445.out))); replace BK445 := ak (blk_below (kK BK445.out) hb); clear hb hbox hg; have hnb40 := NB445_446.out; have hnc40 := NB446_445.out; have hcz41_0 : w39.cell? ⟨gb445, 0, none⟩ = some (.slice A0_0 l0_0.length c0_0) := (blk_cell BK445.out 0).trans rfl; have hcz41_1 : w39.cell? ⟨gb445, 1, none⟩ = some (.slice A0_1 l0_1.length c0_1) := (blk_cell BK445.out 1).trans rfl; have hfz41_0 := blk_frozen BK445.out 0; have hfz41_1 := blk_frozen BK445.out 1) | ((with_reducible refine gate_callee (f := 37) rfl ?_); refine goesL_ (some 8) rfl rfl Try.func37 (by kernel_rfl) rfl #[.agg #[.slice A0_0 l0_0.length c0_0, .slice A0_1 l0_1.length c0_1]] rfl (by (try simp only [List.map_toArray, List.map_cons, List.map_nil]); first | done | rfl | (simp only [List.length_drop, List.length_take]; rfl)) ?_; (with_reducible refine (spec_validAlgebra.calls k _ _ l0_0 _ _ l0_1 false _ ?side1 ?side2 ?side3 ?side4 A4.out).mono ?_); (case side1 => exact kC (Kd.C_below HR0_0.out HB.out)); (case side2 => exact HC0_0.out); (case side3 => exact kC (Kd.C_below HR0_1.out HB.out)); (case side4 => exact HC0_1.out); rintro e w42 ⟨rfl, hb⟩; refine ⟨_, rfl, ?_⟩; replace BK445 := ak (blk_below (kK BK445.out) hb); replace BK446 := ak (blk_below (kK BK446.out) hb); replace HB := ak (below_step (bB HB.out) hb); (try clear hb); (try clear hb2); (try clear hk); (try clear hi)))
  go_ret
  exact ⟨by first | rfl | (simp [errW_none, errW_some] <;> rfl) | (simp [*, errW_none, errW_some] <;> rfl), by repeat (first | (with_reducible first | exact HB.out | apply below_alloc | apply pw_below_drewN | apply below_drew1 | refine below_set ?_ GE445.out | refine below_set ?_ GE446.out) | exact HB.out)⟩
 subst c5
 rw [if_pos rfl] at H
 replace H := bi H
 obtain ⟨t448, A60, H⟩ := H
 try dsimp only at H
 have A6 := ak A60
 clear A60
 by_cases c7 : t448 = true
 rotate_left
 ·replace c7 := Bool.eq_false_iff.mpr c7
  subst c7
  rw [if_neg (show ¬ (false = true) by decide)] at H
  obtain rfl := Option.some.inj H
  go_enter Try.func22, Try.ntmps22
  go_wp2_with (first | ((with_reducible refine gate_dst (N := 3) rfl ?_); refine box_event ?hg (N := 3) ?hd (cs := #[.slice A0_0 l0_0.length c0_0, .slice A0_1 l0_1.length c0_1]) (t := 28) ?hr ?_; (case hd => rfl); (case hg => rfl); (case hr => first | (go_simp; done) | (go_simp; rfl)); intro gb445 hg w31 hbox hb; have BK445 := ak (hbox); have GW445 := ak ((by rw [hg]; exact (below_size (bB HB.out)) : w.heap.size ≤ gb445)); have GE445 := ak ((by rw [hg]; exact (below_size (bB HB.out)) : w.heap.size ≤ gb445)); replace HB := ak (below_step (bB HB.out) hb); clear hb hbox hg) | ((with_reducible refine gate_dst (N := 4) rfl ?_); refine box_event ?hg (N := 4) ?hd (cs := #[.slice A1_0 l1_0.length c1_0, .slice A1_1 l1_1.length c1_1]) (t := 28) ?hr ?_; (case hd => rfl); (case hg => rfl); (case hr => first | (go_simp; done) | (go_simp; rfl)); intro gb446 hg w32 hbox hb; have BK446 := ak (hbox); have GW446 := ak ((by rw [hg]; exact (below_size (bB HB.out)) : w.heap.size ≤ gb446)); have GE446 := ak ((by rw [hg]; exact (below_size (bB HB.out)) : w.heap.size ≤ gb446)); replace HB := ak (below_step (bB HB.out) hb); have NB445_446 := ak ((ne_box hg (kK BK445.out))); have NB446_445 := ak ((ne_box' hg (kK BK445.out))); replace BK445 := ak (blk_below (kK BK445.out) hb); clear hb hbox hg; have hnb33 := NB445_446.out; have hnc33 := NB446_445.out; have hcz34_0 : w32.cell? ⟨gb445, 0, none⟩ = some (.slice A0_0 l0_0.length c0_0) := (blk_cell BK445.out 0).trans rfl; have hcz34_1 : w32.cell? ⟨gb445, 1, none⟩ = some (.slice A0_1 l0_1.length c0_1) := (blk_cell BK445.out 1).trans rfl; have hfz34_0 := blk_frozen BK445.out 0; have hfz34_1 := blk_frozen BK445.out 1) | ((with_reducible refine gate_callee (f := 37) rfl ?_); refine goesL_ (some 8) rfl rfl Try.func37 (by kernel_rfl) rfl #[.agg #[.slice A0_0 l0_0.length c0_0, .slice A0_1 l0_1.length c0_1]] rfl (by (try simp only [List.map_toArray, List.map_cons, List.map_nil]); first | done | rfl | (simp only [List.length_drop, List.length_take]; rfl)) ?_; (with_reducible refine (spec_validAlgebra.calls k _ _ l0_0 _ _ l0_1 true _ ?side1 ?side2 ?side3 ?side4 A4.out).mono ?_); (case side1 => exact kC (Kd.C_below HR0_0.out HB.out)); (case side2 => exact HC0_0.out); (case side3 => exact kC (Kd.C_below HR0_1.out HB.out)); (case side4 => exact HC0_1.out); rintro e w35 ⟨rfl, hb⟩; refine ⟨_, rfl, ?_⟩; replace BK445 := ak (blk_below (kK BK445.out) hb); replace BK446 := ak (blk_below (kK BK446.out) hb); replace HB := ak (below_step (bB HB.out) hb); (try clear hb); (try clear hb2); (try clear hk); (try clear hi); have hcz36_0 : w35.cell? ⟨gb446, 0, none⟩ = some (.slice A1_0 l1_0.length c1_0) := (blk_cell BK446.out 0).trans rfl; have hcz36_1 : w35.cell? ⟨gb446, 1, none⟩ = some (.slice A1_1 l1_1.length c1_1) := (blk_cell BK446.out 1).trans rfl; have hfz36_0 := blk_frozen BK446.out 0; have hfz36_1 := blk_frozen BK446.out 1) | (go_at_call 37; (with_reducible refine (spec_validAlgebra.calls k _ _ l1_0 _ _ l1_1 false _ ?side1 ?side2 ?side3 ?side4 A6.out).mono ?_); (case side1 => exact kC (Kd.C_below HR1_0.out HB.out)); (case side2 => exact HC1_0.out); (case side3 => exact kC (Kd.C_below HR1_1.out HB.out)); (case side4 => exact HC1_1.out); rintro e w37 ⟨rfl, hb⟩; replace BK445 := ak (blk_below (kK BK445.out) hb); replace BK446 := ak (blk_below (kK BK446.out) hb); replace HB := ak (below_step (bB HB.out) hb); (try clear hb); (try clear hb2); (try clear hk); (try clear hi)))
  go_ret
  exact ⟨by first | rfl | (simp [errW_none, errW_some] <;> rfl) | (simp [*, errW_none, errW_some] <;> rfl), by repeat (first | (with_reducible first | exact HB.out | apply below_alloc | apply pw_below_drewN | apply below_drew1 | refine below_set ?_ GE445.out | refine below_set ?_ GE446.out) | exact HB.out)⟩
 subst c7
 rw [if_pos rfl] at H
 replace H := bi H
 obtain ⟨t449, A80, H⟩ := H
 try dsimp only at H
 have A8 := ak A80
 clear A80
 by_cases c9 : t449 = true
 rotate_left
 ·replace c9 := Bool.eq_false_iff.mpr c9
  subst c9
  rw [if_neg (show ¬ (false = true) by decide)] at H
  obtain rfl := Option.some.inj H
  go_enter Try.func22, Try.ntmps22
  go_wp2_with (first | ((with_reducible refine gate_dst (N := 3) rfl ?_); refine box_event ?hg (N := 3) ?hd (cs := #[.slice A0_0 l0_0.length c0_0, .slice A0_1 l0_1.length c0_1]) (t := 28) ?hr ?_; (case hd => rfl); (case hg => rfl); (case hr => first | (go_simp; done) | (go_simp; rfl)); intro gb445 hg w21 hbox hb; have BK445 := ak (hbox); have GW445 := ak ((by rw [hg]; exact (below_size (bB HB.out)) : w.heap.size ≤ gb445)); have GE445 := ak ((by rw [hg]; exact (below_size (bB HB.out)) : w.heap.size ≤ gb445)); replace HB := ak (below_step (bB HB.out) hb); clear hb hbox hg) | ((with_reducible refine gate_dst (N := 4) rfl ?_); refine box_event ?hg (N := 4) ?hd (cs := #[.slice A1_0 l1_0.length c1_0, .slice A1_1 l1_1.length c1_1]) (t := 28) ?hr ?_; (case hd => rfl); (case hg => rfl); (case hr => first | (go_simp; done) | (go_simp; rfl)); intro gb446 hg w22 hbox hb; have BK446 := ak (hbox); have GW446 := ak ((by rw [hg]; exact (below_size (bB HB.out)) : w.heap.size ≤ gb446)); have GE446 := ak ((by rw [hg]; exact (below_size (bB HB.out)) : w.heap.size ≤ gb446)); replace HB := ak (below_step (bB HB.out) hb); have NB445_446 := ak ((ne_box hg (kK BK445.out))); have NB446_445 := ak ((ne_box' hg (kK BK445.out))); replace BK445 := ak (blk_below (kK BK445.out) hb); clear hb hbox hg; have hnb23 := NB445_446.out; have hnc23 := NB446_445.out; have hcz24_0 : w22.cell? ⟨gb445, 0, none⟩ = some (.slice A0_0 l0_0.length c0_0) := (blk_cell BK445.out 0).trans rfl; have hcz24_1 : w22.cell? ⟨gb445, 1, none⟩ = some (.slice A0_1 l0_1.length c0_1) := (blk_cell BK445.out 1).trans rfl; have hfz24_0 := blk_frozen BK445.out 0; have hfz24_1 := blk_frozen BK445.out 1) | ((with_reducible refine gate_callee (f := 37) rfl ?_); refine goesL_ (some 8) rfl rfl Try.func37 (by kernel_rfl) rfl #[.agg #[.slice A0_0 l0_0.length c0_0, .slice A0_1 l0_1.length c0_1]] rfl (by (try simp only [List.map_toArray, List.map_cons, List.map_nil]); first | done | rfl | (simp only [List.length_drop, List.length_take]; rfl)) ?_; (with_reducible refine (spec_validAlgebra.calls k _ _ l0_0 _ _ l0_1 true _ ?side1 ?side2 ?side3 ?side4 A4.out).mono ?_); (case side1 => exact kC (Kd.C_below HR0_0.out HB.out)); (case side2 => exact HC0_0.out); (case side3 => exact kC (Kd.C_below HR0_1.out HB.out)); (case side4 => exact HC0_1.out); rintro e w25 ⟨rfl, hb⟩; refine ⟨_, rfl, ?_⟩; replace BK445 := ak (blk_below (kK BK445.out) hb); replace BK446 := ak (blk_below (kK BK446.out) hb); replace HB := ak (below_step (bB HB.out) hb); (try clear hb); (try clear hb2); (try clear hk); (try clear hi); have hcz26_0 : w25.cell? ⟨gb446, 0, none⟩ = some (.slice A1_0 l1_0.length c1_0) := (blk_cell BK446.out 0).trans rfl; have hcz26_1 : w25.cell? ⟨gb446, 1, none⟩ = some (.slice A1_1 l1_1.length c1_1) := (blk_cell BK446.out 1).trans rfl; have hfz26_0 := blk_frozen BK446.out 0; have hfz26_1 := blk_frozen BK446.out 1) | (go_at_call 37; (with_reducible refine (spec_validAlgebra.calls k _ _ l1_0 _ _ l1_1 true _ ?side1 ?side2 ?side3 ?side4 A6.out).mono ?_); (case side1 => exact kC (Kd.C_below HR1_0.out HB.out)); (case side2 => exact HC1_0.out); (case side3 => exact kC (Kd.C_below HR1_1.out HB.out)); (case side4 => exact HC1_1.out); rintro e w27 ⟨rfl, hb⟩; replace BK445 := ak (blk_below (kK BK445.out) hb); replace BK446 := ak (blk_below (kK BK446.out) hb); replace HB := ak (below_step (bB HB.out) hb); (try clear hb); (try clear hb2); (try clear hk); (try clear hi); have hcz28_0 : w27.cell? ⟨gb445, 0, none⟩ = some (.slice A0_0 l0_0.length c0_0) := (blk_cell BK445.out 0).trans rfl; have hcz28_1 : w27.cell? ⟨gb445, 1, none⟩ = some (.slice A0_1 l0_1.length c0_1) := (blk_cell BK445.out 1).trans rfl; have hfz28_0 := blk_frozen BK445.out 0; have hfz28_1 := blk_frozen BK445.out 1; have hcz29_0 : w27.cell? ⟨gb446, 0, none⟩ = some (.slice A1_0 l1_0.length c1_0) := (blk_cell BK446.out 0).trans rfl; have hcz29_1 : w27.cell? ⟨gb446, 1, none⟩ = some (.slice A1_1 l1_1.length c1_1) := (blk_cell BK446.out 1).trans rfl; have hfz29_0 := blk_frozen BK446.out 0; have hfz29_1 := blk_frozen BK446.out 1) | (go_at_call 43; (with_reducible refine (spec_isMap.calls k _ _ l0_0 _ _ l0_1 _ _ l1_0 _ _ l1_1 _ _ l2 false _ ?side1 ?side2 ?side3 ?side4 ?side5 ?side6 ?side7 ?side8 ?side9 ?side10 A8.out).mono ?_); (case side1 => exact kC (Kd.C_below HR0_0.out HB.out)); (case side2 => exact HC0_0.out); (case side3 => exact kC (Kd.C_below HR0_1.out HB.out)); (case side4 => exact HC0_1.out); (case side5 => exact kC (Kd.C_below HR1_0.out HB.out)); (case side6 => exact HC1_0.out); (case side7 => exact kC (Kd.C_below HR1_1.out HB.out)); (case side8 => exact HC1_1.out); (case side9 => exact kC (Kd.C_below HR2.out HB.out)); (case side10 => exact HC2.out); rintro e w30 ⟨rfl, hb⟩; replace BK445 := ak (blk_below (kK BK445.out) hb); replace BK446 := ak (blk_below (kK BK446.out) hb); replace HB := ak (below_step (bB HB.out) hb); (try clear hb); (try clear hb2); (try clear hk); (try clear hi)))
  go_ret
  exact ⟨by first | rfl | (simp [errW_none, errW_some] <;> rfl) | (simp [*, errW_none, errW_some] <;> rfl), by repeat (first | (with_reducible first | exact HB.out | apply below_alloc | apply pw_below_drewN | apply below_drew1 | refine below_set ?_ GE445.out | refine below_set ?_ GE446.out) | exact HB.out)⟩
 subst c9
 rw [if_pos rfl] at H
 replace H := bi H
 obtain ⟨t450, A100, H⟩ := H
 try dsimp only at H
 have A10 := ak A100
 clear A100
 obtain rfl := Option.some.inj H
 go_enter Try.func22, Try.ntmps22
 go_wp2_with (first | ((with_reducible refine gate_dst (N := 3) rfl ?_); refine box_event ?hg (N := 3) ?hd (cs := #[.slice A0_0 l0_0.length c0_0, .slice A0_1 l0_1.length c0_1]) (t := 28) ?hr ?_; (case hd => rfl); (case hg => rfl); (case hr => first | (go_simp; done) | (go_simp; rfl)); intro gb445 hg w11 hbox hb; have BK445 := ak (hbox); have GW445 := ak ((by rw [hg]; exact (below_size (bB HB.out)) : w.heap.size ≤ gb445)); have GE445 := ak ((by rw [hg]; exact (below_size (bB HB.out)) : w.heap.size ≤ gb445)); replace HB := ak (below_step (bB HB.out) hb); clear hb hbox hg) | ((with_reducible refine gate_dst (N := 4) rfl ?_); refine box_event ?hg (N := 4) ?hd (cs := #[.slice A1_0 l1_0.length c1_0, .slice A1_1 l1_1.length c1_1]) (t := 28) ?hr ?_; (case hd => rfl); (case hg => rfl); (case hr => first | (go_simp; done) | (go_simp; rfl)); intro gb446 hg w12 hbox hb; have BK446 := ak (hbox); have GW446 := ak ((by rw [hg]; exact (below_size (bB HB.out)) : w.heap.size ≤ gb446)); have GE446 := ak ((by rw [hg]; exact (below_size (bB HB.out)) : w.heap.size ≤ gb446)); replace HB := ak (below_step (bB HB.out) hb); have NB445_446 := ak ((ne_box hg (kK BK445.out))); have NB446_445 := ak ((ne_box' hg (kK BK445.out))); replace BK445 := ak (blk_below (kK BK445.out) hb); clear hb hbox hg; have hnb13 := NB445_446.out; have hnc13 := NB446_445.out; have hcz14_0 : w12.cell? ⟨gb445, 0, none⟩ = some (.slice A0_0 l0_0.length c0_0) := (blk_cell BK445.out 0).trans rfl; have hcz14_1 : w12.cell? ⟨gb445, 1, none⟩ = some (.slice A0_1 l0_1.length c0_1) := (blk_cell BK445.out 1).trans rfl; have hfz14_0 := blk_frozen BK445.out 0; have hfz14_1 := blk_frozen BK445.out 1) | ((with_reducible refine gate_callee (f := 37) rfl ?_); refine goesL_ (some 8) rfl rfl Try.func37 (by kernel_rfl) rfl #[.agg #[.slice A0_0 l0_0.length c0_0, .slice A0_1 l0_1.length c0_1]] rfl (by (try simp only [List.map_toArray, List.map_cons, List.map_nil]); first | done | rfl | (simp only [List.length_drop, List.length_take]; rfl)) ?_; (with_reducible refine (spec_validAlgebra.calls k _ _ l0_0 _ _ l0_1 true _ ?side1 ?side2 ?side3 ?side4 A4.out).mono ?_); (case side1 => exact kC (Kd.C_below HR0_0.out HB.out)); (case side2 => exact HC0_0.out); (case side3 => exact kC (Kd.C_below HR0_1.out HB.out)); (case side4 => exact HC0_1.out); rintro e w15 ⟨rfl, hb⟩; refine ⟨_, rfl, ?_⟩; replace BK445 := ak (blk_below (kK BK445.out) hb); replace BK446 := ak (blk_below (kK BK446.out) hb); replace HB := ak (below_step (bB HB.out) hb); (try clear hb); (try clear hb2); (try clear hk); (try clear hi); have hcz16_0 : w15.cell? ⟨gb446, 0, none⟩ = some (.slice A1_0 l1_0.length c1_0) := (blk_cell BK446.out 0).trans rfl; have hcz16_1 : w15.cell? ⟨gb446, 1, none⟩ = some (.slice A1_1 l1_1.length c1_1) := (blk_cell BK446.out 1).trans rfl; have hfz16_0 := blk_frozen BK446.out 0; have hfz16_1 := blk_frozen BK446.out 1) | (go_at_call 37; (with_reducible refine (spec_validAlgebra.calls k _ _ l1_0 _ _ l1_1 true _ ?side1 ?side2 ?side3 ?side4 A6.out).mono ?_); (case side1 => exact kC (Kd.C_below HR1_0.out HB.out)); (case side2 => exact HC1_0.out); (case side3 => exact kC (Kd.C_below HR1_1.out HB.out)); (case side4 => exact HC1_1.out); rintro e w17 ⟨rfl, hb⟩; replace BK445 := ak (blk_below (kK BK445.out) hb); replace BK446 := ak (blk_below (kK BK446.out) hb); replace HB := ak (below_step (bB HB.out) hb); (try clear hb); (try clear hb2); (try clear hk); (try clear hi); have hcz18_0 : w17.cell? ⟨gb445, 0, none⟩ = some (.slice A0_0 l0_0.length c0_0) := (blk_cell BK445.out 0).trans rfl; have hcz18_1 : w17.cell? ⟨gb445, 1, none⟩ = some (.slice A0_1 l0_1.length c0_1) := (blk_cell BK445.out 1).trans rfl; have hfz18_0 := blk_frozen BK445.out 0; have hfz18_1 := blk_frozen BK445.out 1; have hcz19_0 : w17.cell? ⟨gb446, 0, none⟩ = some (.slice A1_0 l1_0.length c1_0) := (blk_cell BK446.out 0).trans rfl; have hcz19_1 : w17.cell? ⟨gb446, 1, none⟩ = some (.slice A1_1 l1_1.length c1_1) := (blk_cell BK446.out 1).trans rfl; have hfz19_0 := blk_frozen BK446.out 0; have hfz19_1 := blk_frozen BK446.out 1) | (go_at_call 43; (with_reducible refine (spec_isMap.calls k _ _ l0_0 _ _ l0_1 _ _ l1_0 _ _ l1_1 _ _ l2 true _ ?side1 ?side2 ?side3 ?side4 ?side5 ?side6 ?side7 ?side8 ?side9 ?side10 A8.out).mono ?_); (case side1 => exact kC (Kd.C_below HR0_0.out HB.out)); (case side2 => exact HC0_0.out); (case side3 => exact kC (Kd.C_below HR0_1.out HB.out)); (case side4 => exact HC0_1.out); (case side5 => exact kC (Kd.C_below HR1_0.out HB.out)); (case side6 => exact HC1_0.out); (case side7 => exact kC (Kd.C_below HR1_1.out HB.out)); (case side8 => exact HC1_1.out); (case side9 => exact kC (Kd.C_below HR2.out HB.out)); (case side10 => exact HC2.out); rintro e w20 ⟨rfl, hb⟩; replace BK445 := ak (blk_below (kK BK445.out) hb); replace BK446 := ak (blk_below (kK BK446.out) hb); replace HB := ak (below_step (bB HB.out) hb); (try clear hb); (try clear hb2); (try clear hk); (try clear hi)) | ((with_reducible refine gate_callee (f := 46) rfl ?_); refine goesL_ (some 23) rfl rfl Try.func46 (by kernel_rfl) rfl #[.slice A2 l2.length c2] rfl (by (try simp only [List.map_toArray, List.map_cons, List.map_nil]); first | done | rfl | (simp only [List.length_drop, List.length_take]; rfl)) ?_; (with_reducible refine (spec_imageOf.calls k _ _ l2 t450 _ ?side1 ?side2 A10.out).mono ?_); (case side1 => exact kC (Kd.C_below HR2.out HB.out)); (case side2 => exact HC2.out); rintro e w' ⟨rfl, ⟨nd, rfl⟩⟩; refine ⟨_, rfl, ?_⟩))
 go_ret
 exact ⟨by first | rfl | (simp [errW_none, errW_some] <;> rfl) | (simp [*, errW_none, errW_some] <;> rfl), by repeat (first | (with_reducible first | exact HB.out | apply below_alloc | apply pw_below_drewN | apply below_drew1 | refine below_set ?_ GE445.out | refine below_set ?_ GE446.out) | exact HB.out)⟩
end Go.Proofs.Ytomapoenndlbiaa.P

-- shrunk
