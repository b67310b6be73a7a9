-- Printed by this session's wip/print2.py (the kit's print.py, widened) out of the translation. Lean checks it.
import Derived.Test.YtomapoenndlbiaaP0
import Derived.Test.YtomapoenndlbiaaP2
import Derived.Test.YtomapoenndlbiaaP3
import Derived.Test.YtomapoenndlbiaaP6
namespace Go.Proofs.Ytomapoenndlbiaa.P
open Go.RowKit Go.Proofs.YtomapoenndlbiaaW.PrintWords Go.Proofs.YtomapoenndlbiaaW.PrintLast Go.Proofs.YtomapoenndlbiaaW.PrintMore
attribute [local go_sem] max2_int min2_int max_two min_two max_three min_three max_four min_four   -- for this text's walks alone
set_option linter.unusedVariables false
set_option linter.unusedSimpArgs false

/-! ### spec_isFilter: function 76 -/
mutual
def spec_isFilter.j0 : Nat → Int → Int → Bool → List Int → List (List Int) → Option (Bool)
 | 0, _, _, _, _, _ => none
 | k + 1, x1, x5, x23, x487000, x487001 => if x23 = true then (some false) else (spec_isFilter.l0 k x1 x5 0 x487000 x487001)
def spec_isFilter.l0 : Nat → Int → Int → Int → List Int → List (List Int) → Option (Bool)
 | 0, _, _, _, _, _ => none
 | k + 1, x1, x5, x6, x487000, x487001 => if x6 < x5 then (spec_isFilter.l1 k x1 x5 x6 0 x487000 x487001) else (some true)
def spec_isFilter.l1 : Nat → Int → Int → Int → Int → List Int → List (List Int) → Option (Bool)
 | 0, _, _, _, _, _, _ => none
 | k + 1, x1, x5, x6, x7, x487000, x487001 => if x7 < x5 then ((spec_bit.f k x1 x6).bind fun t490 => (if t490 = 1 then ((spec_below.f k x487000 x6 x7).bind fun t491 => (if t491 = true then ((spec_bit.f k x1 x7).bind fun t492 => (if t492 = 0 then (some false) else (if t492 = 1 then (if 0 ≤ x6 then (if x6 < (x487001.length : Int) then (if 0 ≤ x7 then (if x7 < ((rd_L1 x487001 x6).length : Int) then ((spec_bit.f k x1 (rd (rd_L1 x487001 x6) x7)).bind fun t495 => (if t495 = 0 then (some false) else (spec_isFilter.l1 k x1 x5 x6 (wrap64 (x7 + 1)) x487000 x487001))) else (none)) else (none)) else (none)) else (none)) else (spec_isFilter.l1 k x1 x5 x6 (wrap64 (x7 + 1)) x487000 x487001)))) else ((spec_bit.f k x1 x7).bind fun t496 => (if t496 = 1 then (if 0 ≤ x6 then (if x6 < (x487001.length : Int) then (if 0 ≤ x7 then (if x7 < ((rd_L1 x487001 x6).length : Int) then ((spec_bit.f k x1 (rd (rd_L1 x487001 x6) x7)).bind fun t499 => (if t499 = 0 then (some false) else (spec_isFilter.l1 k x1 x5 x6 (wrap64 (x7 + 1)) x487000 x487001))) else (none)) else (none)) else (none)) else (none)) else (spec_isFilter.l1 k x1 x5 x6 (wrap64 (x7 + 1)) x487000 x487001))))) else (spec_isFilter.l1 k x1 x5 x6 (wrap64 (x7 + 1)) x487000 x487001))) else (spec_isFilter.l0 k x1 x5 (wrap64 (x6 + 1)) x487000 x487001)
end
def spec_isFilter.f (k : Nat) (l0_0 : List Int) (l0_1 : List (List Int)) (a1 : Int) : Option (Bool) := (spec_power.f k (l0_0.length : Int)).bind fun t487 => ((spec_inRange.f a1 0 (wrap64 (t487 - 1))).bind fun t488 => (if t488 = true then ((spec_bit.f k a1 (wrap64 ((l0_0.length : Int) - 1))).bind fun t489 => (spec_isFilter.j0 k a1 (l0_0.length : Int) (t489 == 0) l0_0 l0_1)) else (spec_isFilter.j0 k a1 (l0_0.length : Int) true l0_0 l0_1)))
set_option maxHeartbeats 8000000 in
set_option maxRecDepth 100000 in
theorem spec_isFilter.calls (k : Nat) (A0_0 : Option Addr) (c0_0 : Nat) (l0_0 : List Int) (A0_1 : Option Addr) (c0_1 : Nat) (l0_1 : List (List Int)) (a1 : Int) (r : Bool) (w : World) (hr0_0 : Kd.C (Kd.int .i64) w A0_0 l0_0.length l0_0) (hc0_0 : l0_0.length ≤ c0_0) (hr0_1 : Kd.C (Kd.slice 3 (Kd.int .i64)) w A0_1 l0_1.length l0_1) (hc0_1 : l0_1.length ≤ c0_1) (h : spec_isFilter.f k l0_0 l0_1 a1 = some r) :
  Calls Try.prog 76 #[.agg #[.slice A0_0 l0_0.length c0_0, .slice A0_1 l0_1.length c0_1], .int .i64 a1] w fun e w' => e = .returned (.bool r) ∧ Below w.heap.size w w' := by
 have hu28 := Try.underlying28
 have HR0_0 := Aside0.mk hr0_0
 have HC0_0 := Aside0.mk hc0_0
 clear hr0_0 hc0_0
 have HR0_1 := Aside0.mk hr0_1
 have HC0_1 := Aside0.mk hc0_1
 clear hr0_1 hc0_1
 have HB := Aside0.mk (Below.refl w.heap.size w)
 have H : ((spec_power.f k (l0_0.length : Int)).bind fun t487 => ((spec_inRange.f a1 0 (wrap64 (t487 - 1))).bind fun t488 => (if t488 = true then ((spec_bit.f k a1 (wrap64 ((l0_0.length : Int) - 1))).bind fun t489 => (spec_isFilter.j0 k a1 (l0_0.length : Int) (t489 == 0) l0_0 l0_1)) else (spec_isFilter.j0 k a1 (l0_0.length : Int) true l0_0 l0_1)))) = some r := h
 clear h
 have HC3 := Aside0.mk H
 clear H
 go_enter Try.func76, Try.ntmps76
 go_upto_region 2 with (first | ((with_reducible refine gate_dst (N := 2) rfl ?_); refine box_event ?hg (N := 2) ?hd (cs := #[.slice A0_0 l0_0.length c0_0, .slice A0_1 l0_1.length c0_1]) (t := 28) ?hr ?_; (case hd => rfl); (case hg => rfl); (case hr => first | (go_simp; done) | (go_simp; rfl)); intro gb486 hg w4 hbox hb; have n0_ := Aside0.mk (below_step (by repeat (first | (with_reducible first | exact HB.out | apply below_alloc | apply pw_below_drewN | apply below_drew1) | exact HB.out)) hb); have n1_ := Aside0.mk (hbox); have n2_ := Aside0.mk ((by rw [hg]; exact (below_size (by repeat (first | (with_reducible first | exact HB.out | apply below_alloc | apply pw_below_drewN | apply below_drew1) | exact HB.out))) : w.heap.size ≤ gb486)); have n3_ := Aside0.mk ((by rw [hg]; exact (below_size (by repeat (first | (with_reducible first | exact HB.out | apply below_alloc | apply pw_below_drewN | apply below_drew1) | exact HB.out))) : w.heap.size ≤ gb486)); clear HB; have HB := n0_; have BK486 := n1_; have GW486 := n2_; have GE486 := n3_; clear n0_ n1_ n2_ n3_; clear hb hbox hg; have hcz5_0 : w4.cell? ⟨gb486, 0, none⟩ = some (.slice A0_0 l0_0.length c0_0) := (blk_cell BK486.out 0).trans rfl; have hcz5_1 : w4.cell? ⟨gb486, 1, none⟩ = some (.slice A0_1 l0_1.length c0_1) := (blk_cell BK486.out 1).trans rfl; have hfz5_0 := blk_frozen BK486.out 0; have hfz5_1 := blk_frozen BK486.out 1))
 (try simp only [Act.put, List.setIfInBounds_toArray, List.set_cons_zero, List.set_cons_succ])
 go_cut [23] (fun v23 wc => ∃ (kq : Nat) (x23_2 : Bool), v23 = .bool x23_2 ∧ Aside0 (spec_isFilter.j0 kq a1 (l0_0.length : Int) x23_2 l0_0 l0_1 = some r) ∧ Aside0 (kq ≤ k) ∧ Aside0 (wc.heap[gb486]? = some (.cells #[(.slice A0_0 l0_0.length c0_0), (.slice A0_1 l0_1.length c0_1)] 28 (0, 0))) ∧ Aside0 (Below w.heap.size w wc))
 case first =>
  have H := HC3.out
  clear HC3
  replace H := Option.bind_eq_some_iff.mp H
  obtain ⟨t487, A60, H⟩ := H
  replace H : ((spec_inRange.f a1 0 (wrap64 (t487 - 1))).bind fun t488 => (if t488 = true then ((spec_bit.f k a1 (wrap64 ((l0_0.length : Int) - 1))).bind fun t489 => (spec_isFilter.j0 k a1 (l0_0.length : Int) (t489 == 0) l0_0 l0_1)) else (spec_isFilter.j0 k a1 (l0_0.length : Int) true l0_0 l0_1))) = some r := H
  have A6 := Aside0.mk A60
  clear A60
  replace H := Option.bind_eq_some_iff.mp H
  obtain ⟨t488, A70, H⟩ := H
  replace H : (if t488 = true then ((spec_bit.f k a1 (wrap64 ((l0_0.length : Int) - 1))).bind fun t489 => (spec_isFilter.j0 k a1 (l0_0.length : Int) (t489 == 0) l0_0 l0_1)) else (spec_isFilter.j0 k a1 (l0_0.length : Int) true l0_0 l0_1)) = some r := H
  have A7 := Aside0.mk A70
  clear A70
  by_cases c8 : t488 = true
  ·subst c8
   have H1 : ((spec_bit.f k a1 (wrap64 ((l0_0.length : Int) - 1))).bind fun t489 => (spec_isFilter.j0 k a1 (l0_0.length : Int) (t489 == 0) l0_0 l0_1)) = some r := by rw [if_pos rfl] at H; exact H
   clear H
   have H := H1
   clear H1
   replace H := Option.bind_eq_some_iff.mp H
   obtain ⟨t489, A90, H⟩ := H
   replace H : (spec_isFilter.j0 k a1 (l0_0.length : Int) (t489 == 0) l0_0 l0_1) = some r := H
   have A9 := Aside0.mk A90
   clear A90
   have H' := Aside0.mk H
   clear H
   go_wp2_with (first | ((with_reducible refine gate_callee (f := 45) rfl ?_); refine goesL_ (some 13) rfl rfl Try.func45 (by kernel_rfl) rfl #[.int .i64 (l0_0.length : Int)] rfl (by (try simp only [List.map_toArray, List.map_cons, List.map_nil]); first | done | rfl | (simp only [List.length_drop, List.length_take]; rfl)) ?_; (with_reducible refine (spec_power.calls k (l0_0.length : Int) t487 _ A6.out).mono ?_); rintro e w' ⟨rfl, ⟨nd, rfl⟩⟩; refine ⟨_, rfl, ?_⟩) | ((with_reducible refine gate_callee (f := 59) rfl ?_); refine goesL_ (some 15) rfl rfl Try.func59 (by kernel_rfl) rfl #[.int .i64 a1, .int .i64 0, .int .i64 (wrap64 (t487 - 1))] rfl (by (try simp only [List.map_toArray, List.map_cons, List.map_nil]); first | done | rfl | (simp only [List.length_drop, List.length_take]; rfl)) ?_; (with_reducible refine (spec_inRange.calls a1 0 (wrap64 (t487 - 1)) true _ A7.out).mono ?_); rintro e w' ⟨rfl, ⟨nd, rfl⟩⟩; refine ⟨_, rfl, ?_⟩) | (go_at_call 73; (with_reducible refine (spec_bit.calls k a1 (wrap64 ((l0_0.length : Int) - 1)) t489 _ A9.out).mono ?_); rintro e w' ⟨rfl, ⟨nd, rfl⟩⟩))
   go_meet
   case rel => exact ⟨_, ((t489 == 0)), (by first | rfl | (simp; done) | (simp [*]; done)), H', ⟨by first | omega | exact Nat.le_refl _⟩, ⟨by (with_reducible repeat (first | refine blk_drewN ?_ _ | refine blk_drew ?_ | refine blk_alloc ?_ _)); exact BK486.out⟩, ⟨by repeat (first | (with_reducible first | exact HB.out | apply below_alloc | apply pw_below_drewN | apply below_drew1 | refine below_set ?_ GE486.out) | exact HB.out)⟩⟩
  ·replace c8 := Bool.eq_false_iff.mpr c8
   subst c8
   have H1 : (spec_isFilter.j0 k a1 (l0_0.length : Int) true l0_0 l0_1) = some r := by rw [if_neg (show ¬ (false = true) by decide)] at H; exact H
   clear H
   have H := H1
   clear H1
   have H' := Aside0.mk H
   clear H
   go_wp2_with (first | ((with_reducible refine gate_callee (f := 45) rfl ?_); refine goesL_ (some 13) rfl rfl Try.func45 (by kernel_rfl) rfl #[.int .i64 (l0_0.length : Int)] rfl (by (try simp only [List.map_toArray, List.map_cons, List.map_nil]); first | done | rfl | (simp only [List.length_drop, List.length_take]; rfl)) ?_; (with_reducible refine (spec_power.calls k (l0_0.length : Int) t487 _ A6.out).mono ?_); rintro e w' ⟨rfl, ⟨nd, rfl⟩⟩; refine ⟨_, rfl, ?_⟩) | ((with_reducible refine gate_callee (f := 59) rfl ?_); refine goesL_ (some 15) rfl rfl Try.func59 (by kernel_rfl) rfl #[.int .i64 a1, .int .i64 0, .int .i64 (wrap64 (t487 - 1))] rfl (by (try simp only [List.map_toArray, List.map_cons, List.map_nil]); first | done | rfl | (simp only [List.length_drop, List.length_take]; rfl)) ?_; (with_reducible refine (spec_inRange.calls a1 0 (wrap64 (t487 - 1)) false _ A7.out).mono ?_); rintro e w' ⟨rfl, ⟨nd, rfl⟩⟩; refine ⟨_, rfl, ?_⟩))
   go_meet
   case rel => exact ⟨_, (true), (by first | rfl | (simp; done) | (simp [*]; done)), H', ⟨by first | omega | exact Nat.le_refl _⟩, ⟨by (with_reducible repeat (first | refine blk_drewN ?_ _ | refine blk_drew ?_ | refine blk_alloc ?_ _)); exact BK486.out⟩, ⟨by repeat (first | (with_reducible first | exact HB.out | apply below_alloc | apply pw_below_drewN | apply below_drew1 | refine below_set ?_ GE486.out) | exact HB.out)⟩⟩
 case rest =>
  clear HC3
  try clear p2
  try clear c4
  try clear c5
  try clear p6
  try clear c7
  try clear c8
  try clear hcz5_0
  try clear hcz5_1
  try clear hfz5_0
  try clear hfz5_1
  obtain ⟨kq, x23_2, rfl, HA, HJ2, BK486, HB⟩ := hcut
  cases kq with
  | zero => exact absurd HA.out (by simp [spec_isFilter.j0])
  | succ kj2 =>
   have H := HA.out
   clear HA
   simp only [spec_isFilter.j0] at H
   by_cases c10 : x23_2 = true
   ·subst c10
    have H1 : (some false) = some r := by rw [if_pos rfl] at H; exact H
    clear H
    have H := H1
    clear H1
    obtain rfl := Option.some.inj H
    go_wp2
    go_ret
    exact ⟨by first | rfl | (simp [errW_none, errW_some] <;> rfl) | (simp [*, errW_none, errW_some] <;> rfl), by repeat (first | (with_reducible first | exact HB.out | apply below_alloc | apply pw_below_drewN | apply below_drew1 | refine below_set ?_ GE486.out) | exact HB.out)⟩
   ·replace c10 := Bool.eq_false_iff.mpr c10
    subst c10
    have H1 : (spec_isFilter.l0 kj2 a1 (l0_0.length : Int) 0 l0_0 l0_1) = some r := by rw [if_neg (show ¬ (false = true) by decide)] at H; exact H
    clear H
    have H := H1
    clear H1
    have H' := Aside0.mk H
    clear H
    go_wp2
    go_loopg [6] kj2 (fun kq v6 w' => ∃ (x6_2 : Int), v6 = .int .i64 x6_2 ∧ Aside0 (spec_isFilter.l0 kq a1 (l0_0.length : Int) x6_2 l0_0 l0_1 = some r) ∧ Aside0 (kq ≤ kj2) ∧ Aside0 (w'.heap[gb486]? = some (.cells #[(.slice A0_0 l0_0.length c0_0), (.slice A0_1 l0_1.length c0_1)] 28 (0, 0))) ∧ Aside0 (Below w.heap.size w w'))
    case atStart => exact ⟨(0), (by first | rfl | (simp; done) | (simp [*]; done)), H', ⟨Nat.le_refl _⟩, ⟨by (with_reducible repeat (first | refine blk_drewN ?_ _ | refine blk_drew ?_ | refine blk_alloc ?_ _)); exact BK486.out⟩, ⟨by repeat (first | (with_reducible first | exact HB.out | apply below_alloc | apply pw_below_drewN | apply below_drew1 | refine below_set ?_ GE486.out) | exact HB.out)⟩⟩
    case round =>
     clear H'
     try clear c1
     try clear p2
     try clear c4
     try clear c5
     try clear p6
     try clear c7
     try clear c8
     try clear c10
     try clear hcz5_0
     try clear hcz5_1
     try clear hfz5_0
     try clear hfz5_1
     try clear p2
     try clear p6
     obtain ⟨x6_2, rfl, HA, HK2, BK486, HB⟩ := hrel
     cases gk with
     | zero => exact absurd HA.out (by simp [spec_isFilter.l0])
     | succ k2 =>
      have H := HA.out
      clear HA
      simp only [spec_isFilter.l0] at H
      by_cases c11 : x6_2 < (l0_0.length : Int)
      ·rw [if_pos c11] at H
       have c11b0 : decide (x6_2 < (l0_0.length : Int)) = true := decide_eq_true c11
       clear c11
       have H' := Aside0.mk H
       clear H
       go_wp2
       go_loopg [7] k2 (fun kq v7 w' => ∃ (x7_3 : Int), v7 = .int .i64 x7_3 ∧ Aside0 (spec_isFilter.l1 kq a1 (l0_0.length : Int) x6_2 x7_3 l0_0 l0_1 = some r) ∧ Aside0 (kq ≤ k2) ∧ Aside0 (w'.heap[gb486]? = some (.cells #[(.slice A0_0 l0_0.length c0_0), (.slice A0_1 l0_1.length c0_1)] 28 (0, 0))) ∧ Aside0 (Below w.heap.size w w'))
       case atStart => exact ⟨(0), (by first | rfl | (simp; done) | (simp [*]; done)), H', ⟨Nat.le_refl _⟩, ⟨by (with_reducible repeat (first | refine blk_drewN ?_ _ | refine blk_drew ?_ | refine blk_alloc ?_ _)); exact BK486.out⟩, ⟨by repeat (first | (with_reducible first | exact HB.out | apply below_alloc | apply pw_below_drewN | apply below_drew1 | refine below_set ?_ GE486.out) | exact HB.out)⟩⟩
       case round =>
        clear H'
        try clear c1
        try clear p2
        try clear c4
        try clear c5
        try clear p6
        try clear c7
        try clear c8
        try clear c10
        try clear c11
        try clear c11b0
        try clear hcz5_0
        try clear hcz5_1
        try clear hfz5_0
        try clear hfz5_1
        try clear p2
        try clear p6
        obtain ⟨x7_3, rfl, HA, HK3, BK486, HB⟩ := hrel
        cases gk with
        | zero => exact absurd HA.out (by simp [spec_isFilter.l1])
        | succ k3 =>
         have H := HA.out
         clear HA
         simp only [spec_isFilter.l1] at H
         by_cases c12 : x7_3 < (l0_0.length : Int)
         ·rw [if_pos c12] at H
          have c12b0 : decide (x7_3 < (l0_0.length : Int)) = true := decide_eq_true c12
          clear c12
          replace H := Option.bind_eq_some_iff.mp H
          obtain ⟨t490, A130, H⟩ := H
          replace H : (if t490 = 1 then ((spec_below.f k3 l0_0 x6_2 x7_3).bind fun t491 => (if t491 = true then ((spec_bit.f k3 a1 x7_3).bind fun t492 => (if t492 = 0 then (some false) else (if t492 = 1 then (if 0 ≤ x6_2 then (if x6_2 < (l0_1.length : Int) then (if 0 ≤ x7_3 then (if x7_3 < ((rd_L1 l0_1 x6_2).length : Int) then ((spec_bit.f k3 a1 (rd (rd_L1 l0_1 x6_2) x7_3)).bind fun t495 => (if t495 = 0 then (some false) else (spec_isFilter.l1 k3 a1 (l0_0.length : Int) x6_2 (wrap64 (x7_3 + 1)) l0_0 l0_1))) else (none)) else (none)) else (none)) else (none)) else (spec_isFilter.l1 k3 a1 (l0_0.length : Int) x6_2 (wrap64 (x7_3 + 1)) l0_0 l0_1)))) else ((spec_bit.f k3 a1 x7_3).bind fun t496 => (if t496 = 1 then (if 0 ≤ x6_2 then (if x6_2 < (l0_1.length : Int) then (if 0 ≤ x7_3 then (if x7_3 < ((rd_L1 l0_1 x6_2).length : Int) then ((spec_bit.f k3 a1 (rd (rd_L1 l0_1 x6_2) x7_3)).bind fun t499 => (if t499 = 0 then (some false) else (spec_isFilter.l1 k3 a1 (l0_0.length : Int) x6_2 (wrap64 (x7_3 + 1)) l0_0 l0_1))) else (none)) else (none)) else (none)) else (none)) else (spec_isFilter.l1 k3 a1 (l0_0.length : Int) x6_2 (wrap64 (x7_3 + 1)) l0_0 l0_1))))) else (spec_isFilter.l1 k3 a1 (l0_0.length : Int) x6_2 (wrap64 (x7_3 + 1)) l0_0 l0_1)) = some r := H
          have A13 := Aside0.mk A130
          clear A130
          by_cases c14 : t490 = 1
          ·rw [if_pos c14] at H
           have c14b0 : (t490 == 1) = true := beq_iff_eq.mpr c14
           have c14b1 : (t490 != 1) = false := bne_eq_false_iff_eq.mpr c14
           clear c14
           replace H := Option.bind_eq_some_iff.mp H
           obtain ⟨t491, A150, H⟩ := H
           replace H : (if t491 = true then ((spec_bit.f k3 a1 x7_3).bind fun t492 => (if t492 = 0 then (some false) else (if t492 = 1 then (if 0 ≤ x6_2 then (if x6_2 < (l0_1.length : Int) then (if 0 ≤ x7_3 then (if x7_3 < ((rd_L1 l0_1 x6_2).length : Int) then ((spec_bit.f k3 a1 (rd (rd_L1 l0_1 x6_2) x7_3)).bind fun t495 => (if t495 = 0 then (some false) else (spec_isFilter.l1 k3 a1 (l0_0.length : Int) x6_2 (wrap64 (x7_3 + 1)) l0_0 l0_1))) else (none)) else (none)) else (none)) else (none)) else (spec_isFilter.l1 k3 a1 (l0_0.length : Int) x6_2 (wrap64 (x7_3 + 1)) l0_0 l0_1)))) else ((spec_bit.f k3 a1 x7_3).bind fun t496 => (if t496 = 1 then (if 0 ≤ x6_2 then (if x6_2 < (l0_1.length : Int) then (if 0 ≤ x7_3 then (if x7_3 < ((rd_L1 l0_1 x6_2).length : Int) then ((spec_bit.f k3 a1 (rd (rd_L1 l0_1 x6_2) x7_3)).bind fun t499 => (if t499 = 0 then (some false) else (spec_isFilter.l1 k3 a1 (l0_0.length : Int) x6_2 (wrap64 (x7_3 + 1)) l0_0 l0_1))) else (none)) else (none)) else (none)) else (none)) else (spec_isFilter.l1 k3 a1 (l0_0.length : Int) x6_2 (wrap64 (x7_3 + 1)) l0_0 l0_1)))) = some r := H
           have A15 := Aside0.mk A150
           clear A150
           by_cases c16 : t491 = true
           ·subst c16
            have H1 : ((spec_bit.f k3 a1 x7_3).bind fun t492 => (if t492 = 0 then (some false) else (if t492 = 1 then (if 0 ≤ x6_2 then (if x6_2 < (l0_1.length : Int) then (if 0 ≤ x7_3 then (if x7_3 < ((rd_L1 l0_1 x6_2).length : Int) then ((spec_bit.f k3 a1 (rd (rd_L1 l0_1 x6_2) x7_3)).bind fun t495 => (if t495 = 0 then (some false) else (spec_isFilter.l1 k3 a1 (l0_0.length : Int) x6_2 (wrap64 (x7_3 + 1)) l0_0 l0_1))) else (none)) else (none)) else (none)) else (none)) else (spec_isFilter.l1 k3 a1 (l0_0.length : Int) x6_2 (wrap64 (x7_3 + 1)) l0_0 l0_1)))) = some r := by rw [if_pos rfl] at H; exact H
            clear H
            have H := H1
            clear H1
            replace H := Option.bind_eq_some_iff.mp H
            obtain ⟨t492, A170, H⟩ := H
            replace H : (if t492 = 0 then (some false) else (if t492 = 1 then (if 0 ≤ x6_2 then (if x6_2 < (l0_1.length : Int) then (if 0 ≤ x7_3 then (if x7_3 < ((rd_L1 l0_1 x6_2).length : Int) then ((spec_bit.f k3 a1 (rd (rd_L1 l0_1 x6_2) x7_3)).bind fun t495 => (if t495 = 0 then (some false) else (spec_isFilter.l1 k3 a1 (l0_0.length : Int) x6_2 (wrap64 (x7_3 + 1)) l0_0 l0_1))) else (none)) else (none)) else (none)) else (none)) else (spec_isFilter.l1 k3 a1 (l0_0.length : Int) x6_2 (wrap64 (x7_3 + 1)) l0_0 l0_1))) = some r := H
            have A17 := Aside0.mk A170
            clear A170
            by_cases c18 : t492 = 0
            ·rw [if_pos c18] at H
             have c18b0 : (t492 == 0) = true := beq_iff_eq.mpr c18
             have c18b1 : (t492 != 0) = false := bne_eq_false_iff_eq.mpr c18
             clear c18
             obtain rfl := Option.some.inj H
             go_wp2_with (first | ((with_reducible refine gate_callee (f := 73) rfl ?_); refine goesL_ (some 36) rfl rfl Try.func73 (by kernel_rfl) rfl #[.int .i64 a1, .int .i64 x6_2] rfl (by (try simp only [List.map_toArray, List.map_cons, List.map_nil]); first | done | rfl | (simp only [List.length_drop, List.length_take]; rfl)) ?_; (with_reducible refine (spec_bit.calls k3 a1 x6_2 t490 _ A13.out).mono ?_); rintro e w' ⟨rfl, ⟨nd, rfl⟩⟩; refine ⟨_, rfl, ?_⟩; have hcz19_0 : wr.cell? ⟨gb486, 0, none⟩ = some (.slice A0_0 l0_0.length c0_0) := (blk_cell BK486.out 0).trans rfl; have hcz19_1 : wr.cell? ⟨gb486, 1, none⟩ = some (.slice A0_1 l0_1.length c0_1) := (blk_cell BK486.out 1).trans rfl; have hfz19_0 := blk_frozen BK486.out 0; have hfz19_1 := blk_frozen BK486.out 1) | (go_at_call 61; (with_reducible refine (spec_below.calls k3 _ _ l0_0 x6_2 x7_3 true _ ?side1 ?side2 A15.out).mono ?_); (case side1 => repeat (first | exact (Kd.C_below HR0_0.out (by repeat (first | (with_reducible first | exact HB.out | apply below_alloc | apply pw_below_drewN | apply below_drew1 | refine below_set ?_ GE486.out) | exact HB.out))) | (with_reducible refine Kd.C_alloc ?_ _) | (with_reducible refine Kd.C_drewN ?_ _) | (with_reducible refine Kd.C_drew ?_))); (case side2 => exact HC0_0.out); rintro e w' ⟨rfl, ⟨nd, rfl⟩⟩) | (go_at_call 73; (with_reducible refine (spec_bit.calls k3 a1 x7_3 t492 _ A17.out).mono ?_); rintro e w' ⟨rfl, ⟨nd, rfl⟩⟩))
             go_ret
             exact ⟨by first | rfl | (simp [errW_none, errW_some] <;> rfl) | (simp [*, errW_none, errW_some] <;> rfl), by repeat (first | (with_reducible first | exact HB.out | apply below_alloc | apply pw_below_drewN | apply below_drew1 | refine below_set ?_ GE486.out) | exact HB.out)⟩
            ·rw [if_neg c18] at H
             have c18b0 : (t492 == 0) = false := beq_eq_false_iff_ne.mpr c18
             have c18b1 : (t492 != 0) = true := bne_iff_ne.mpr c18
             by_cases c20 : t492 = 1
             ·rw [if_pos c20] at H
              have c20b0 : (t492 == 1) = true := beq_iff_eq.mpr c20
              have c20b1 : (t492 != 1) = false := bne_eq_false_iff_eq.mpr c20
              clear c20
              by_cases c21 : 0 ≤ x6_2
              ·rw [if_pos c21] at H
               have c21b0 : decide (0 ≤ x6_2) = true := decide_eq_true c21
               clear c21
               by_cases c22 : x6_2 < (l0_1.length : Int)
               ·rw [if_pos c22] at H
                have c22b0 : decide (x6_2 < (l0_1.length : Int)) = true := decide_eq_true c22
                clear c22
                by_cases c23 : 0 ≤ x7_3
                ·rw [if_pos c23] at H
                 have c23b0 : decide (0 ≤ x7_3) = true := decide_eq_true c23
                 clear c23
                 by_cases c24 : x7_3 < ((rd_L1 l0_1 x6_2).length : Int)
                 ·rw [if_pos c24] at H
                  have c24b0 : decide (x7_3 < ((rd_L1 l0_1 x6_2).length : Int)) = true := decide_eq_true c24
                  clear c24
                  replace H := Option.bind_eq_some_iff.mp H
                  obtain ⟨t495, A250, H⟩ := H
                  replace H : (if t495 = 0 then (some false) else (spec_isFilter.l1 k3 a1 (l0_0.length : Int) x6_2 (wrap64 (x7_3 + 1)) l0_0 l0_1)) = some r := H
                  have A25 := Aside0.mk A250
                  clear A250
                  by_cases c26 : t495 = 0
                  ·rw [if_pos c26] at H
                   have c26b0 : (t495 == 0) = true := beq_iff_eq.mpr c26
                   have c26b1 : (t495 != 0) = false := bne_eq_false_iff_eq.mpr c26
                   clear c26
                   obtain rfl := Option.some.inj H
                   go_wp2_with (first | ((with_reducible refine gate_callee (f := 73) rfl ?_); refine goesL_ (some 36) rfl rfl Try.func73 (by kernel_rfl) rfl #[.int .i64 a1, .int .i64 x6_2] rfl (by (try simp only [List.map_toArray, List.map_cons, List.map_nil]); first | done | rfl | (simp only [List.length_drop, List.length_take]; rfl)) ?_; (with_reducible refine (spec_bit.calls k3 a1 x6_2 t490 _ A13.out).mono ?_); rintro e w' ⟨rfl, ⟨nd, rfl⟩⟩; refine ⟨_, rfl, ?_⟩; have hcz27_0 : wr.cell? ⟨gb486, 0, none⟩ = some (.slice A0_0 l0_0.length c0_0) := (blk_cell BK486.out 0).trans rfl; have hcz27_1 : wr.cell? ⟨gb486, 1, none⟩ = some (.slice A0_1 l0_1.length c0_1) := (blk_cell BK486.out 1).trans rfl; have hfz27_0 := blk_frozen BK486.out 0; have hfz27_1 := blk_frozen BK486.out 1) | (go_at_call 61; (with_reducible refine (spec_below.calls k3 _ _ l0_0 x6_2 x7_3 true _ ?side1 ?side2 A15.out).mono ?_); (case side1 => repeat (first | exact (Kd.C_below HR0_0.out (by repeat (first | (with_reducible first | exact HB.out | apply below_alloc | apply pw_below_drewN | apply below_drew1 | refine below_set ?_ GE486.out) | exact HB.out))) | (with_reducible refine Kd.C_alloc ?_ _) | (with_reducible refine Kd.C_drewN ?_ _) | (with_reducible refine Kd.C_drew ?_))); (case side2 => exact HC0_0.out); rintro e w' ⟨rfl, ⟨nd, rfl⟩⟩) | (go_at_call 73; (with_reducible refine (spec_bit.calls k3 a1 x7_3 t492 _ A17.out).mono ?_); rintro e w' ⟨rfl, ⟨nd, rfl⟩⟩; have p493 : 0 ≤ (x6_2 : Int) := of_decide_eq_true (by first | (with_reducible assumption) | assumption); have q493 : x6_2 < (l0_1.length : Int) := of_decide_eq_true (by first | (with_reducible assumption) | assumption); obtain ⟨ad493, A493_0, c493_0, e493, hx493_0, hl493_0, hi493_0⟩ := at_L1 HR0_1.out x6_2 p493 q493; cases e493; replace hx493_0 := (HB.out.cell (World.block_lt_of_cell? w _ hx493_0)).trans hx493_0; have HR493_0 := Aside0.mk hi493_0; have HC493_0 := Aside0.mk hl493_0; clear hi493_0 hl493_0; replace p493 := eq_true p493; replace q493 := eq_true q493; have p494 : 0 ≤ (x7_3 : Int) := of_decide_eq_true (by first | (with_reducible assumption) | assumption); have q494 : x7_3 < ((rd_L1 l0_1 x6_2).length : Int) := of_decide_eq_true (by first | (with_reducible assumption) | assumption); obtain ⟨ad494, e494, hx494_0⟩ := Kd.at_int HR493_0.out x7_3 p494 q494; cases e494; replace hx494_0 := (HB.out.cell (World.block_lt_of_cell? w _ hx494_0)).trans hx494_0; replace p494 := eq_true p494; replace q494 := eq_true q494) | (go_at_call 73; (with_reducible refine (spec_bit.calls k3 a1 (rd (rd_L1 l0_1 x6_2) x7_3) t495 _ A25.out).mono ?_); rintro e w' ⟨rfl, ⟨nd, rfl⟩⟩))
                   go_ret
                   exact ⟨by first | rfl | (simp [errW_none, errW_some] <;> rfl) | (simp [*, errW_none, errW_some] <;> rfl), by repeat (first | (with_reducible first | exact HB.out | apply below_alloc | apply pw_below_drewN | apply below_drew1 | refine below_set ?_ GE486.out) | exact HB.out)⟩
                  ·rw [if_neg c26] at H
                   have c26b0 : (t495 == 0) = false := beq_eq_false_iff_ne.mpr c26
                   have c26b1 : (t495 != 0) = true := bne_iff_ne.mpr c26
                   have H' := Aside0.mk H
                   clear H
                   go_wp2_with (first | ((with_reducible refine gate_callee (f := 73) rfl ?_); refine goesL_ (some 36) rfl rfl Try.func73 (by kernel_rfl) rfl #[.int .i64 a1, .int .i64 x6_2] rfl (by (try simp only [List.map_toArray, List.map_cons, List.map_nil]); first | done | rfl | (simp only [List.length_drop, List.length_take]; rfl)) ?_; (with_reducible refine (spec_bit.calls k3 a1 x6_2 t490 _ A13.out).mono ?_); rintro e w' ⟨rfl, ⟨nd, rfl⟩⟩; refine ⟨_, rfl, ?_⟩; have hcz28_0 : wr.cell? ⟨gb486, 0, none⟩ = some (.slice A0_0 l0_0.length c0_0) := (blk_cell BK486.out 0).trans rfl; have hcz28_1 : wr.cell? ⟨gb486, 1, none⟩ = some (.slice A0_1 l0_1.length c0_1) := (blk_cell BK486.out 1).trans rfl; have hfz28_0 := blk_frozen BK486.out 0; have hfz28_1 := blk_frozen BK486.out 1) | (go_at_call 61; (with_reducible refine (spec_below.calls k3 _ _ l0_0 x6_2 x7_3 true _ ?side1 ?side2 A15.out).mono ?_); (case side1 => repeat (first | exact (Kd.C_below HR0_0.out (by repeat (first | (with_reducible first | exact HB.out | apply below_alloc | apply pw_below_drewN | apply below_drew1 | refine below_set ?_ GE486.out) | exact HB.out))) | (with_reducible refine Kd.C_alloc ?_ _) | (with_reducible refine Kd.C_drewN ?_ _) | (with_reducible refine Kd.C_drew ?_))); (case side2 => exact HC0_0.out); rintro e w' ⟨rfl, ⟨nd, rfl⟩⟩) | (go_at_call 73; (with_reducible refine (spec_bit.calls k3 a1 x7_3 t492 _ A17.out).mono ?_); rintro e w' ⟨rfl, ⟨nd, rfl⟩⟩; have p493 : 0 ≤ (x6_2 : Int) := of_decide_eq_true (by first | (with_reducible assumption) | assumption); have q493 : x6_2 < (l0_1.length : Int) := of_decide_eq_true (by first | (with_reducible assumption) | assumption); obtain ⟨ad493, A493_0, c493_0, e493, hx493_0, hl493_0, hi493_0⟩ := at_L1 HR0_1.out x6_2 p493 q493; cases e493; replace hx493_0 := (HB.out.cell (World.block_lt_of_cell? w _ hx493_0)).trans hx493_0; have HR493_0 := Aside0.mk hi493_0; have HC493_0 := Aside0.mk hl493_0; clear hi493_0 hl493_0; replace p493 := eq_true p493; replace q493 := eq_true q493; have p494 : 0 ≤ (x7_3 : Int) := of_decide_eq_true (by first | (with_reducible assumption) | assumption); have q494 : x7_3 < ((rd_L1 l0_1 x6_2).length : Int) := of_decide_eq_true (by first | (with_reducible assumption) | assumption); obtain ⟨ad494, e494, hx494_0⟩ := Kd.at_int HR493_0.out x7_3 p494 q494; cases e494; replace hx494_0 := (HB.out.cell (World.block_lt_of_cell? w _ hx494_0)).trans hx494_0; replace p494 := eq_true p494; replace q494 := eq_true q494) | (go_at_call 73; (with_reducible refine (spec_bit.calls k3 a1 (rd (rd_L1 l0_1 x6_2) x7_3) t495 _ A25.out).mono ?_); rintro e w' ⟨rfl, ⟨nd, rfl⟩⟩))
                   go_roundg k3
                   case measure => have := HJ2.out; have := HK2.out; have := HK3.out; omega
                   case rel => exact ⟨(wrap64 (x7_3 + 1)), (by first | rfl | (simp; done) | (simp [*]; done)), H', ⟨by have := HJ2.out; have := HK2.out; have := HK3.out; omega⟩, ⟨by (with_reducible repeat (first | refine blk_drewN ?_ _ | refine blk_drew ?_ | refine blk_alloc ?_ _)); exact BK486.out⟩, ⟨by repeat (first | (with_reducible first | exact HB.out | apply below_alloc | apply pw_below_drewN | apply below_drew1 | refine below_set ?_ GE486.out) | exact HB.out)⟩⟩
                 ·rw [if_neg c24] at H
                  exact absurd H (by simp)
                ·rw [if_neg c23] at H
                 exact absurd H (by simp)
               ·rw [if_neg c22] at H
                exact absurd H (by simp)
              ·rw [if_neg c21] at H
               exact absurd H (by simp)
             ·rw [if_neg c20] at H
              have c20b0 : (t492 == 1) = false := beq_eq_false_iff_ne.mpr c20
              have c20b1 : (t492 != 1) = true := bne_iff_ne.mpr c20
              have H' := Aside0.mk H
              clear H
              go_wp2_with (first | ((with_reducible refine gate_callee (f := 73) rfl ?_); refine goesL_ (some 36) rfl rfl Try.func73 (by kernel_rfl) rfl #[.int .i64 a1, .int .i64 x6_2] rfl (by (try simp only [List.map_toArray, List.map_cons, List.map_nil]); first | done | rfl | (simp only [List.length_drop, List.length_take]; rfl)) ?_; (with_reducible refine (spec_bit.calls k3 a1 x6_2 t490 _ A13.out).mono ?_); rintro e w' ⟨rfl, ⟨nd, rfl⟩⟩; refine ⟨_, rfl, ?_⟩; have hcz29_0 : wr.cell? ⟨gb486, 0, none⟩ = some (.slice A0_0 l0_0.length c0_0) := (blk_cell BK486.out 0).trans rfl; have hcz29_1 : wr.cell? ⟨gb486, 1, none⟩ = some (.slice A0_1 l0_1.length c0_1) := (blk_cell BK486.out 1).trans rfl; have hfz29_0 := blk_frozen BK486.out 0; have hfz29_1 := blk_frozen BK486.out 1) | (go_at_call 61; (with_reducible refine (spec_below.calls k3 _ _ l0_0 x6_2 x7_3 true _ ?side1 ?side2 A15.out).mono ?_); (case side1 => repeat (first | exact (Kd.C_below HR0_0.out (by repeat (first | (with_reducible first | exact HB.out | apply below_alloc | apply pw_below_drewN | apply below_drew1 | refine below_set ?_ GE486.out) | exact HB.out))) | (with_reducible refine Kd.C_alloc ?_ _) | (with_reducible refine Kd.C_drewN ?_ _) | (with_reducible refine Kd.C_drew ?_))); (case side2 => exact HC0_0.out); rintro e w' ⟨rfl, ⟨nd, rfl⟩⟩) | (go_at_call 73; (with_reducible refine (spec_bit.calls k3 a1 x7_3 t492 _ A17.out).mono ?_); rintro e w' ⟨rfl, ⟨nd, rfl⟩⟩))
              go_roundg k3
              case measure => have := HJ2.out; have := HK2.out; have := HK3.out; omega
              case rel => exact ⟨(wrap64 (x7_3 + 1)), (by first | rfl | (simp; done) | (simp [*]; done)), H', ⟨by have := HJ2.out; have := HK2.out; have := HK3.out; omega⟩, ⟨by (with_reducible repeat (first | refine blk_drewN ?_ _ | refine blk_drew ?_ | refine blk_alloc ?_ _)); exact BK486.out⟩, ⟨by repeat (first | (with_reducible first | exact HB.out | apply below_alloc | apply pw_below_drewN | apply below_drew1 | refine below_set ?_ GE486.out) | exact HB.out)⟩⟩
           ·replace c16 := Bool.eq_false_iff.mpr c16
            subst c16
            have H1 : ((spec_bit.f k3 a1 x7_3).bind fun t496 => (if t496 = 1 then (if 0 ≤ x6_2 then (if x6_2 < (l0_1.length : Int) then (if 0 ≤ x7_3 then (if x7_3 < ((rd_L1 l0_1 x6_2).length : Int) then ((spec_bit.f k3 a1 (rd (rd_L1 l0_1 x6_2) x7_3)).bind fun t499 => (if t499 = 0 then (some false) else (spec_isFilter.l1 k3 a1 (l0_0.length : Int) x6_2 (wrap64 (x7_3 + 1)) l0_0 l0_1))) else (none)) else (none)) else (none)) else (none)) else (spec_isFilter.l1 k3 a1 (l0_0.length : Int) x6_2 (wrap64 (x7_3 + 1)) l0_0 l0_1))) = some r := by rw [if_neg (show ¬ (false = true) by decide)] at H; exact H
            clear H
            have H := H1
            clear H1
            replace H := Option.bind_eq_some_iff.mp H
            obtain ⟨t496, A300, H⟩ := H
            replace H : (if t496 = 1 then (if 0 ≤ x6_2 then (if x6_2 < (l0_1.length : Int) then (if 0 ≤ x7_3 then (if x7_3 < ((rd_L1 l0_1 x6_2).length : Int) then ((spec_bit.f k3 a1 (rd (rd_L1 l0_1 x6_2) x7_3)).bind fun t499 => (if t499 = 0 then (some false) else (spec_isFilter.l1 k3 a1 (l0_0.length : Int) x6_2 (wrap64 (x7_3 + 1)) l0_0 l0_1))) else (none)) else (none)) else (none)) else (none)) else (spec_isFilter.l1 k3 a1 (l0_0.length : Int) x6_2 (wrap64 (x7_3 + 1)) l0_0 l0_1)) = some r := H
            have A30 := Aside0.mk A300
            clear A300
            by_cases c31 : t496 = 1
            ·rw [if_pos c31] at H
             have c31b0 : (t496 == 1) = true := beq_iff_eq.mpr c31
             have c31b1 : (t496 != 1) = false := bne_eq_false_iff_eq.mpr c31
             clear c31
             by_cases c32 : 0 ≤ x6_2
             ·rw [if_pos c32] at H
              have c32b0 : decide (0 ≤ x6_2) = true := decide_eq_true c32
              clear c32
              by_cases c33 : x6_2 < (l0_1.length : Int)
              ·rw [if_pos c33] at H
               have c33b0 : decide (x6_2 < (l0_1.length : Int)) = true := decide_eq_true c33
               clear c33
               by_cases c34 : 0 ≤ x7_3
               ·rw [if_pos c34] at H
                have c34b0 : decide (0 ≤ x7_3) = true := decide_eq_true c34
                clear c34
                by_cases c35 : x7_3 < ((rd_L1 l0_1 x6_2).length : Int)
                ·rw [if_pos c35] at H
                 have c35b0 : decide (x7_3 < ((rd_L1 l0_1 x6_2).length : Int)) = true := decide_eq_true c35
                 clear c35
                 replace H := Option.bind_eq_some_iff.mp H
                 obtain ⟨t499, A360, H⟩ := H
                 replace H : (if t499 = 0 then (some false) else (spec_isFilter.l1 k3 a1 (l0_0.length : Int) x6_2 (wrap64 (x7_3 + 1)) l0_0 l0_1)) = some r := H
                 have A36 := Aside0.mk A360
                 clear A360
                 by_cases c37 : t499 = 0
                 ·rw [if_pos c37] at H
                  have c37b0 : (t499 == 0) = true := beq_iff_eq.mpr c37
                  have c37b1 : (t499 != 0) = false := bne_eq_false_iff_eq.mpr c37
                  clear c37
                  obtain rfl := Option.some.inj H
                  go_wp2_with (first | ((with_reducible refine gate_callee (f := 73) rfl ?_); refine goesL_ (some 36) rfl rfl Try.func73 (by kernel_rfl) rfl #[.int .i64 a1, .int .i64 x6_2] rfl (by (try simp only [List.map_toArray, List.map_cons, List.map_nil]); first | done | rfl | (simp only [List.length_drop, List.length_take]; rfl)) ?_; (with_reducible refine (spec_bit.calls k3 a1 x6_2 t490 _ A13.out).mono ?_); rintro e w' ⟨rfl, ⟨nd, rfl⟩⟩; refine ⟨_, rfl, ?_⟩; have hcz38_0 : wr.cell? ⟨gb486, 0, none⟩ = some (.slice A0_0 l0_0.length c0_0) := (blk_cell BK486.out 0).trans rfl; have hcz38_1 : wr.cell? ⟨gb486, 1, none⟩ = some (.slice A0_1 l0_1.length c0_1) := (blk_cell BK486.out 1).trans rfl; have hfz38_0 := blk_frozen BK486.out 0; have hfz38_1 := blk_frozen BK486.out 1) | (go_at_call 61; (with_reducible refine (spec_below.calls k3 _ _ l0_0 x6_2 x7_3 false _ ?side1 ?side2 A15.out).mono ?_); (case side1 => repeat (first | exact (Kd.C_below HR0_0.out (by repeat (first | (with_reducible first | exact HB.out | apply below_alloc | apply pw_below_drewN | apply below_drew1 | refine below_set ?_ GE486.out) | exact HB.out))) | (with_reducible refine Kd.C_alloc ?_ _) | (with_reducible refine Kd.C_drewN ?_ _) | (with_reducible refine Kd.C_drew ?_))); (case side2 => exact HC0_0.out); rintro e w' ⟨rfl, ⟨nd, rfl⟩⟩) | (go_at_call 73; (with_reducible refine (spec_bit.calls k3 a1 x7_3 t496 _ A30.out).mono ?_); rintro e w' ⟨rfl, ⟨nd, rfl⟩⟩; have p497 : 0 ≤ (x6_2 : Int) := of_decide_eq_true (by first | (with_reducible assumption) | assumption); have q497 : x6_2 < (l0_1.length : Int) := of_decide_eq_true (by first | (with_reducible assumption) | assumption); obtain ⟨ad497, A497_0, c497_0, e497, hx497_0, hl497_0, hi497_0⟩ := at_L1 HR0_1.out x6_2 p497 q497; cases e497; replace hx497_0 := (HB.out.cell (World.block_lt_of_cell? w _ hx497_0)).trans hx497_0; have HR497_0 := Aside0.mk hi497_0; have HC497_0 := Aside0.mk hl497_0; clear hi497_0 hl497_0; replace p497 := eq_true p497; replace q497 := eq_true q497; have p498 : 0 ≤ (x7_3 : Int) := of_decide_eq_true (by first | (with_reducible assumption) | assumption); have q498 : x7_3 < ((rd_L1 l0_1 x6_2).length : Int) := of_decide_eq_true (by first | (with_reducible assumption) | assumption); obtain ⟨ad498, e498, hx498_0⟩ := Kd.at_int HR497_0.out x7_3 p498 q498; cases e498; replace hx498_0 := (HB.out.cell (World.block_lt_of_cell? w _ hx498_0)).trans hx498_0; replace p498 := eq_true p498; replace q498 := eq_true q498) | (go_at_call 73; (with_reducible refine (spec_bit.calls k3 a1 (rd (rd_L1 l0_1 x6_2) x7_3) t499 _ A36.out).mono ?_); rintro e w' ⟨rfl, ⟨nd, rfl⟩⟩))
                  go_ret
                  exact ⟨by first | rfl | (simp [errW_none, errW_some] <;> rfl) | (simp [*, errW_none, errW_some] <;> rfl), by repeat (first | (with_reducible first | exact HB.out | apply below_alloc | apply pw_below_drewN | apply below_drew1 | refine below_set ?_ GE486.out) | exact HB.out)⟩
                 ·rw [if_neg c37] at H
                  have c37b0 : (t499 == 0) = false := beq_eq_false_iff_ne.mpr c37
                  have c37b1 : (t499 != 0) = true := bne_iff_ne.mpr c37
                  have H' := Aside0.mk H
                  clear H
                  go_wp2_with (first | ((with_reducible refine gate_callee (f := 73) rfl ?_); refine goesL_ (some 36) rfl rfl Try.func73 (by kernel_rfl) rfl #[.int .i64 a1, .int .i64 x6_2] rfl (by (try simp only [List.map_toArray, List.map_cons, List.map_nil]); first | done | rfl | (simp only [List.length_drop, List.length_take]; rfl)) ?_; (with_reducible refine (spec_bit.calls k3 a1 x6_2 t490 _ A13.out).mono ?_); rintro e w' ⟨rfl, ⟨nd, rfl⟩⟩; refine ⟨_, rfl, ?_⟩; have hcz39_0 : wr.cell? ⟨gb486, 0, none⟩ = some (.slice A0_0 l0_0.length c0_0) := (blk_cell BK486.out 0).trans rfl; have hcz39_1 : wr.cell? ⟨gb486, 1, none⟩ = some (.slice A0_1 l0_1.length c0_1) := (blk_cell BK486.out 1).trans rfl; have hfz39_0 := blk_frozen BK486.out 0; have hfz39_1 := blk_frozen BK486.out 1) | (go_at_call 61; (with_reducible refine (spec_below.calls k3 _ _ l0_0 x6_2 x7_3 false _ ?side1 ?side2 A15.out).mono ?_); (case side1 => repeat (first | exact (Kd.C_below HR0_0.out (by repeat (first | (with_reducible first | exact HB.out | apply below_alloc | apply pw_below_drewN | apply below_drew1 | refine below_set ?_ GE486.out) | exact HB.out))) | (with_reducible refine Kd.C_alloc ?_ _) | (with_reducible refine Kd.C_drewN ?_ _) | (with_reducible refine Kd.C_drew ?_))); (case side2 => exact HC0_0.out); rintro e w' ⟨rfl, ⟨nd, rfl⟩⟩) | (go_at_call 73; (with_reducible refine (spec_bit.calls k3 a1 x7_3 t496 _ A30.out).mono ?_); rintro e w' ⟨rfl, ⟨nd, rfl⟩⟩; have p497 : 0 ≤ (x6_2 : Int) := of_decide_eq_true (by first | (with_reducible assumption) | assumption); have q497 : x6_2 < (l0_1.length : Int) := of_decide_eq_true (by first | (with_reducible assumption) | assumption); obtain ⟨ad497, A497_0, c497_0, e497, hx497_0, hl497_0, hi497_0⟩ := at_L1 HR0_1.out x6_2 p497 q497; cases e497; replace hx497_0 := (HB.out.cell (World.block_lt_of_cell? w _ hx497_0)).trans hx497_0; have HR497_0 := Aside0.mk hi497_0; have HC497_0 := Aside0.mk hl497_0; clear hi497_0 hl497_0; replace p497 := eq_true p497; replace q497 := eq_true q497; have p498 : 0 ≤ (x7_3 : Int) := of_decide_eq_true (by first | (with_reducible assumption) | assumption); have q498 : x7_3 < ((rd_L1 l0_1 x6_2).length : Int) := of_decide_eq_true (by first | (with_reducible assumption) | assumption); obtain ⟨ad498, e498, hx498_0⟩ := Kd.at_int HR497_0.out x7_3 p498 q498; cases e498; replace hx498_0 := (HB.out.cell (World.block_lt_of_cell? w _ hx498_0)).trans hx498_0; replace p498 := eq_true p498; replace q498 := eq_true q498) | (go_at_call 73; (with_reducible refine (spec_bit.calls k3 a1 (rd (rd_L1 l0_1 x6_2) x7_3) t499 _ A36.out).mono ?_); rintro e w' ⟨rfl, ⟨nd, rfl⟩⟩))
                  go_roundg k3
                  case measure => have := HJ2.out; have := HK2.out; have := HK3.out; omega
                  case rel => exact ⟨(wrap64 (x7_3 + 1)), (by first | rfl | (simp; done) | (simp [*]; done)), H', ⟨by have := HJ2.out; have := HK2.out; have := HK3.out; omega⟩, ⟨by (with_reducible repeat (first | refine blk_drewN ?_ _ | refine blk_drew ?_ | refine blk_alloc ?_ _)); exact BK486.out⟩, ⟨by repeat (first | (with_reducible first | exact HB.out | apply below_alloc | apply pw_below_drewN | apply below_drew1 | refine below_set ?_ GE486.out) | exact HB.out)⟩⟩
                ·rw [if_neg c35] at H
                 exact absurd H (by simp)
               ·rw [if_neg c34] at H
                exact absurd H (by simp)
              ·rw [if_neg c33] at H
               exact absurd H (by simp)
             ·rw [if_neg c32] at H
              exact absurd H (by simp)
            ·rw [if_neg c31] at H
             have c31b0 : (t496 == 1) = false := beq_eq_false_iff_ne.mpr c31
             have c31b1 : (t496 != 1) = true := bne_iff_ne.mpr c31
             have H' := Aside0.mk H
             clear H
             go_wp2_with (first | ((with_reducible refine gate_callee (f := 73) rfl ?_); refine goesL_ (some 36) rfl rfl Try.func73 (by kernel_rfl) rfl #[.int .i64 a1, .int .i64 x6_2] rfl (by (try simp only [List.map_toArray, List.map_cons, List.map_nil]); first | done | rfl | (simp only [List.length_drop, List.length_take]; rfl)) ?_; (with_reducible refine (spec_bit.calls k3 a1 x6_2 t490 _ A13.out).mono ?_); rintro e w' ⟨rfl, ⟨nd, rfl⟩⟩; refine ⟨_, rfl, ?_⟩; have hcz40_0 : wr.cell? ⟨gb486, 0, none⟩ = some (.slice A0_0 l0_0.length c0_0) := (blk_cell BK486.out 0).trans rfl; have hcz40_1 : wr.cell? ⟨gb486, 1, none⟩ = some (.slice A0_1 l0_1.length c0_1) := (blk_cell BK486.out 1).trans rfl; have hfz40_0 := blk_frozen BK486.out 0; have hfz40_1 := blk_frozen BK486.out 1) | (go_at_call 61; (with_reducible refine (spec_below.calls k3 _ _ l0_0 x6_2 x7_3 false _ ?side1 ?side2 A15.out).mono ?_); (case side1 => repeat (first | exact (Kd.C_below HR0_0.out (by repeat (first | (with_reducible first | exact HB.out | apply below_alloc | apply pw_below_drewN | apply below_drew1 | refine below_set ?_ GE486.out) | exact HB.out))) | (with_reducible refine Kd.C_alloc ?_ _) | (with_reducible refine Kd.C_drewN ?_ _) | (with_reducible refine Kd.C_drew ?_))); (case side2 => exact HC0_0.out); rintro e w' ⟨rfl, ⟨nd, rfl⟩⟩) | (go_at_call 73; (with_reducible refine (spec_bit.calls k3 a1 x7_3 t496 _ A30.out).mono ?_); rintro e w' ⟨rfl, ⟨nd, rfl⟩⟩))
             go_roundg k3
             case measure => have := HJ2.out; have := HK2.out; have := HK3.out; omega
             case rel => exact ⟨(wrap64 (x7_3 + 1)), (by first | rfl | (simp; done) | (simp [*]; done)), H', ⟨by have := HJ2.out; have := HK2.out; have := HK3.out; omega⟩, ⟨by (with_reducible repeat (first | refine blk_drewN ?_ _ | refine blk_drew ?_ | refine blk_alloc ?_ _)); exact BK486.out⟩, ⟨by repeat (first | (with_reducible first | exact HB.out | apply below_alloc | apply pw_below_drewN | apply below_drew1 | refine below_set ?_ GE486.out) | exact HB.out)⟩⟩
          ·rw [if_neg c14] at H
           have c14b0 : (t490 == 1) = false := beq_eq_false_iff_ne.mpr c14
           have c14b1 : (t490 != 1) = true := bne_iff_ne.mpr c14
           have H' := Aside0.mk H
           clear H
           go_wp2_with (first | ((with_reducible refine gate_callee (f := 73) rfl ?_); refine goesL_ (some 36) rfl rfl Try.func73 (by kernel_rfl) rfl #[.int .i64 a1, .int .i64 x6_2] rfl (by (try simp only [List.map_toArray, List.map_cons, List.map_nil]); first | done | rfl | (simp only [List.length_drop, List.length_take]; rfl)) ?_; (with_reducible refine (spec_bit.calls k3 a1 x6_2 t490 _ A13.out).mono ?_); rintro e w' ⟨rfl, ⟨nd, rfl⟩⟩; refine ⟨_, rfl, ?_⟩))
           go_roundg k3
           case measure => have := HJ2.out; have := HK2.out; have := HK3.out; omega
           case rel => exact ⟨(wrap64 (x7_3 + 1)), (by first | rfl | (simp; done) | (simp [*]; done)), H', ⟨by have := HJ2.out; have := HK2.out; have := HK3.out; omega⟩, ⟨by (with_reducible repeat (first | refine blk_drewN ?_ _ | refine blk_drew ?_ | refine blk_alloc ?_ _)); exact BK486.out⟩, ⟨by repeat (first | (with_reducible first | exact HB.out | apply below_alloc | apply pw_below_drewN | apply below_drew1 | refine below_set ?_ GE486.out) | exact HB.out)⟩⟩
         ·rw [if_neg c12] at H
          have c12b0 : decide (x7_3 < (l0_0.length : Int)) = false := decide_eq_false c12
          clear c12
          have H' := Aside0.mk H
          clear H
          go_wp2
          go_roundg k3
          case measure => have := HJ2.out; have := HK2.out; have := HK3.out; omega
          case rel => exact ⟨(wrap64 (x6_2 + 1)), (by first | rfl | (simp; done) | (simp [*]; done)), H', ⟨by have := HJ2.out; have := HK2.out; have := HK3.out; omega⟩, ⟨by (with_reducible repeat (first | refine blk_drewN ?_ _ | refine blk_drew ?_ | refine blk_alloc ?_ _)); exact BK486.out⟩, ⟨by repeat (first | (with_reducible first | exact HB.out | apply below_alloc | apply pw_below_drewN | apply below_drew1 | refine below_set ?_ GE486.out) | exact HB.out)⟩⟩
      ·rw [if_neg c11] at H
       have c11b0 : decide (x6_2 < (l0_0.length : Int)) = false := decide_eq_false c11
       clear c11
       obtain rfl := Option.some.inj H
       go_wp2
       go_ret
       exact ⟨by first | rfl | (simp [errW_none, errW_some] <;> rfl) | (simp [*, errW_none, errW_some] <;> rfl), by repeat (first | (with_reducible first | exact HB.out | apply below_alloc | apply pw_below_drewN | apply below_drew1 | refine below_set ?_ GE486.out) | exact HB.out)⟩

end Go.Proofs.Ytomapoenndlbiaa.P

-- shrunk
