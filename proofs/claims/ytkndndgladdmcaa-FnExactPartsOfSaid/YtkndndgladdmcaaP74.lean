-- Printed by this session's wip/print2.py (the kit's print.py, widened) out of the translation. Lean checks it.
import Derived.Test.YtkndndgladdmcaaP0
import Derived.Test.YtkndndgladdmcaaP3
import Derived.Test.YtkndndgladdmcaaP4
import Derived.Test.YtkndndgladdmcaaP5
import Derived.Test.YtkndndgladdmcaaP23
namespace Go.Proofs.Ytkndndgladdmcaa.P
open Go.RowKit Go.Proofs.YtkndndgladdmcaaW.PrintWords Go.Proofs.YtkndndgladdmcaaW.PrintLast Go.Proofs.YtkndndgladdmcaaW.PrintMore
attribute [local go_sem] max2_int min2_int max_two min_two max_three min_three max_four min_four   -- for this text's walks alone
set_option linter.unusedVariables false
set_option linter.unusedSimpArgs false

/-! ### spec_isPart: function 93 -/
mutual
def spec_isPart.j0 : Nat → Int → Int → Bool → List Int → List (List Int) → Option (Bool)
 | 0, _, _, _, _, _ => none
 | k + 1, x1, x5, x28, x942000, x942001 => if x28 = true then (some false) else (spec_isPart.l0 k x1 x5 0 x942000 x942001)
def spec_isPart.l0 : Nat → Int → Int → Int → List Int → List (List Int) → Option (Bool)
 | 0, _, _, _, _, _ => none
 | k + 1, x1, x5, x6, x942000, x942001 => if x6 < x5 then (spec_isPart.l1 k x1 x5 x6 0 x942000 x942001) else (some true)
def spec_isPart.l1 : Nat → Int → Int → Int → Int → List Int → List (List Int) → Option (Bool)
 | 0, _, _, _, _, _, _ => none
 | k + 1, x1, x5, x6, x7, x942000, x942001 => if x7 < x5 then ((spec_bit.f k x1 x6).bind fun t946 => (if t946 = 1 then ((spec_bit.f k x1 x7).bind fun t947 => (if t947 = 1 then (if 0 ≤ x6 then (if x6 < (x942001.length : Int) then (if 0 ≤ x7 then (if x7 < ((rd_L1 x942001 x6).length : Int) then ((spec_bit.f k x1 (rd (rd_L1 x942001 x6) x7)).bind fun t950 => (if t950 = 0 then (some false) else ((spec_imply.f k x942000 x942001 x6 x7).bind fun t951 => ((spec_bit.f k x1 t951).bind fun t952 => (if t952 = 0 then (some false) else ((spec_meet.f k x942000 x6 x7).bind fun t953 => ((spec_bit.f k x1 t953).bind fun t954 => (if t954 = 0 then (some false) else ((spec_join.f k x942000 x6 x7).bind fun t955 => ((spec_bit.f k x1 t955).bind fun t956 => (if t956 = 0 then (some false) else (spec_isPart.l1 k x1 x5 x6 (wrap64 (x7 + 1)) x942000 x942001)))))))))))) else (none)) else (none)) else (none)) else (none)) else (spec_isPart.l1 k x1 x5 x6 (wrap64 (x7 + 1)) x942000 x942001))) else (spec_isPart.l1 k x1 x5 x6 (wrap64 (x7 + 1)) x942000 x942001))) else (spec_isPart.l0 k x1 x5 (wrap64 (x6 + 1)) x942000 x942001)
end
def spec_isPart.f (k : Nat) (l0_0 : List Int) (l0_1 : List (List Int)) (a1 : Int) : Option (Bool) := (spec_power.f k (l0_0.length : Int)).bind fun t942 => ((spec_inRange.f a1 0 (wrap64 (t942 - 1))).bind fun t943 => (if t943 = true then ((spec_bit.f k a1 0).bind fun t944 => (if t944 = 0 then (spec_isPart.j0 k a1 (l0_0.length : Int) true l0_0 l0_1) else ((spec_bit.f k a1 (wrap64 ((l0_0.length : Int) - 1))).bind fun t945 => (spec_isPart.j0 k a1 (l0_0.length : Int) (t945 == 0) l0_0 l0_1)))) else (spec_isPart.j0 k a1 (l0_0.length : Int) true l0_0 l0_1)))
set_option maxHeartbeats 8000000 in
set_option maxRecDepth 100000 in
theorem spec_isPart.calls (k : Nat) (A0_0 : Option Addr) (c0_0 : Nat) (l0_0 : List Int) (A0_1 : Option Addr) (c0_1 : Nat) (l0_1 : List (List Int)) (a1 : Int) (r : Bool) (w : World) (hr0_0 : Kd.C (Kd.int .i64) w A0_0 l0_0.length l0_0) (hc0_0 : l0_0.length ≤ c0_0) (hr0_1 : Kd.C (Kd.slice 3 (Kd.int .i64)) w A0_1 l0_1.length l0_1) (hc0_1 : l0_1.length ≤ c0_1) (h : spec_isPart.f k l0_0 l0_1 a1 = some r) :
  Calls Try.prog 93 #[.agg #[.slice A0_0 l0_0.length c0_0, .slice A0_1 l0_1.length c0_1], .int .i64 a1] w fun e w' => e = .returned (.bool r) ∧ Below w.heap.size w w' := by
 have hu28 := Try.underlying28
 have HR0_0 := Aside0.mk hr0_0
 have HC0_0 := Aside0.mk hc0_0
 clear hr0_0 hc0_0
 have HR0_1 := Aside0.mk hr0_1
 have HC0_1 := Aside0.mk hc0_1
 clear hr0_1 hc0_1
 have HB := Aside0.mk (Below.refl w.heap.size w)
 have H : ((spec_power.f k (l0_0.length : Int)).bind fun t942 => ((spec_inRange.f a1 0 (wrap64 (t942 - 1))).bind fun t943 => (if t943 = true then ((spec_bit.f k a1 0).bind fun t944 => (if t944 = 0 then (spec_isPart.j0 k a1 (l0_0.length : Int) true l0_0 l0_1) else ((spec_bit.f k a1 (wrap64 ((l0_0.length : Int) - 1))).bind fun t945 => (spec_isPart.j0 k a1 (l0_0.length : Int) (t945 == 0) l0_0 l0_1)))) else (spec_isPart.j0 k a1 (l0_0.length : Int) true l0_0 l0_1)))) = some r := h
 clear h
 have HC3 := Aside0.mk H
 clear H
 go_enter Try.func93, Try.ntmps93
 go_upto_region 2 with (first | ((with_reducible refine gate_dst (N := 2) rfl ?_); refine box_event ?hg (N := 2) ?hd (cs := #[.slice A0_0 l0_0.length c0_0, .slice A0_1 l0_1.length c0_1]) (t := 28) ?hr ?_; (case hd => rfl); (case hg => rfl); (case hr => first | (go_simp; done) | (go_simp; rfl)); intro gb941 hg w4 hbox hb; have n0_ := Aside0.mk (below_step (by repeat (first | (with_reducible first | exact HB.out | apply below_alloc | apply pw_below_drewN | apply below_drew1) | exact HB.out)) hb); have n1_ := Aside0.mk (hbox); have n2_ := Aside0.mk ((by rw [hg]; exact (below_size (by repeat (first | (with_reducible first | exact HB.out | apply below_alloc | apply pw_below_drewN | apply below_drew1) | exact HB.out))) : w.heap.size ≤ gb941)); have n3_ := Aside0.mk ((by rw [hg]; exact (below_size (by repeat (first | (with_reducible first | exact HB.out | apply below_alloc | apply pw_below_drewN | apply below_drew1) | exact HB.out))) : w.heap.size ≤ gb941)); clear HB; have HB := n0_; have BK941 := n1_; have GW941 := n2_; have GE941 := n3_; clear n0_ n1_ n2_ n3_; clear hb hbox hg; have hcz5_0 : w4.cell? ⟨gb941, 0, none⟩ = some (.slice A0_0 l0_0.length c0_0) := (blk_cell BK941.out 0).trans rfl; have hcz5_1 : w4.cell? ⟨gb941, 1, none⟩ = some (.slice A0_1 l0_1.length c0_1) := (blk_cell BK941.out 1).trans rfl; have hfz5_0 := blk_frozen BK941.out 0; have hfz5_1 := blk_frozen BK941.out 1))
 (try simp only [Act.put, List.setIfInBounds_toArray, List.set_cons_zero, List.set_cons_succ])
 go_cut [28] (fun v28 wc => ∃ (kq : Nat) (x28_2 : Bool), v28 = .bool x28_2 ∧ Aside0 (spec_isPart.j0 kq a1 (l0_0.length : Int) x28_2 l0_0 l0_1 = some r) ∧ Aside0 (kq ≤ k) ∧ Aside0 (wc.heap[gb941]? = some (.cells #[(.slice A0_0 l0_0.length c0_0), (.slice A0_1 l0_1.length c0_1)] 28 (0, 0))) ∧ Aside0 (Below w.heap.size w wc))
 case first =>
  have H := HC3.out
  clear HC3
  replace H := Option.bind_eq_some_iff.mp H
  obtain ⟨t942, A60, H⟩ := H
  replace H : ((spec_inRange.f a1 0 (wrap64 (t942 - 1))).bind fun t943 => (if t943 = true then ((spec_bit.f k a1 0).bind fun t944 => (if t944 = 0 then (spec_isPart.j0 k a1 (l0_0.length : Int) true l0_0 l0_1) else ((spec_bit.f k a1 (wrap64 ((l0_0.length : Int) - 1))).bind fun t945 => (spec_isPart.j0 k a1 (l0_0.length : Int) (t945 == 0) l0_0 l0_1)))) else (spec_isPart.j0 k a1 (l0_0.length : Int) true l0_0 l0_1))) = some r := H
  have A6 := Aside0.mk A60
  clear A60
  replace H := Option.bind_eq_some_iff.mp H
  obtain ⟨t943, A70, H⟩ := H
  replace H : (if t943 = true then ((spec_bit.f k a1 0).bind fun t944 => (if t944 = 0 then (spec_isPart.j0 k a1 (l0_0.length : Int) true l0_0 l0_1) else ((spec_bit.f k a1 (wrap64 ((l0_0.length : Int) - 1))).bind fun t945 => (spec_isPart.j0 k a1 (l0_0.length : Int) (t945 == 0) l0_0 l0_1)))) else (spec_isPart.j0 k a1 (l0_0.length : Int) true l0_0 l0_1)) = some r := H
  have A7 := Aside0.mk A70
  clear A70
  by_cases c8 : t943 = true
  ·subst c8
   have H1 : ((spec_bit.f k a1 0).bind fun t944 => (if t944 = 0 then (spec_isPart.j0 k a1 (l0_0.length : Int) true l0_0 l0_1) else ((spec_bit.f k a1 (wrap64 ((l0_0.length : Int) - 1))).bind fun t945 => (spec_isPart.j0 k a1 (l0_0.length : Int) (t945 == 0) l0_0 l0_1)))) = some r := by rw [if_pos rfl] at H; exact H
   clear H
   have H := H1
   clear H1
   replace H := Option.bind_eq_some_iff.mp H
   obtain ⟨t944, A90, H⟩ := H
   replace H : (if t944 = 0 then (spec_isPart.j0 k a1 (l0_0.length : Int) true l0_0 l0_1) else ((spec_bit.f k a1 (wrap64 ((l0_0.length : Int) - 1))).bind fun t945 => (spec_isPart.j0 k a1 (l0_0.length : Int) (t945 == 0) l0_0 l0_1))) = some r := H
   have A9 := Aside0.mk A90
   clear A90
   by_cases c10 : t944 = 0
   ·rw [if_pos c10] at H
    have c10b0 : (t944 == 0) = true := beq_iff_eq.mpr c10
    have c10b1 : (t944 != 0) = false := bne_eq_false_iff_eq.mpr c10
    clear c10
    (first | rw [c10b0] | (simp only [i64_w, i32_w]; rw [c10b0]) | skip)
    have H' := Aside0.mk H
    clear H
    go_wp2_with (first | ((with_reducible refine gate_callee (f := 91) rfl ?_); refine goesL_ (some 13) rfl rfl Try.func91 (by kernel_rfl) rfl #[.int .i64 (l0_0.length : Int)] rfl (by (try simp only [List.map_toArray, List.map_cons, List.map_nil]); first | done | rfl | (simp only [List.length_drop, List.length_take]; rfl)) ?_; (with_reducible refine (spec_power.calls k (l0_0.length : Int) t942 _ A6.out).mono ?_); rintro e w' ⟨rfl, ⟨nd, rfl⟩⟩; refine ⟨_, rfl, ?_⟩) | ((with_reducible refine gate_callee (f := 76) rfl ?_); refine goesL_ (some 15) rfl rfl Try.func76 (by kernel_rfl) rfl #[.int .i64 a1, .int .i64 0, .int .i64 (wrap64 (t942 - 1))] rfl (by (try simp only [List.map_toArray, List.map_cons, List.map_nil]); first | done | rfl | (simp only [List.length_drop, List.length_take]; rfl)) ?_; (with_reducible refine (spec_inRange.calls a1 0 (wrap64 (t942 - 1)) true _ A7.out).mono ?_); rintro e w' ⟨rfl, ⟨nd, rfl⟩⟩; refine ⟨_, rfl, ?_⟩) | (go_at_call 105; (with_reducible refine (spec_bit.calls k a1 0 t944 _ A9.out).mono ?_); rintro e w' ⟨rfl, ⟨nd, rfl⟩⟩))
    go_meet
    case rel => exact ⟨_, (true), (by first | rfl | (simp; done) | (simp [*]; done)), H', ⟨by first | omega | exact Nat.le_refl _⟩, ⟨by (with_reducible repeat (first | refine blk_drewN ?_ _ | refine blk_drew ?_ | refine blk_alloc ?_ _)); exact BK941.out⟩, ⟨by repeat (first | (with_reducible first | exact HB.out | apply below_alloc | apply pw_below_drewN | apply below_drew1 | refine below_set ?_ GE941.out) | exact HB.out)⟩⟩
   ·rw [if_neg c10] at H
    have c10b0 : (t944 == 0) = false := beq_eq_false_iff_ne.mpr c10
    have c10b1 : (t944 != 0) = true := bne_iff_ne.mpr c10
    (first | rw [c10b0] | (simp only [i64_w, i32_w]; rw [c10b0]) | skip)
    replace H := Option.bind_eq_some_iff.mp H
    obtain ⟨t945, A110, H⟩ := H
    replace H : (spec_isPart.j0 k a1 (l0_0.length : Int) (t945 == 0) l0_0 l0_1) = some r := H
    have A11 := Aside0.mk A110
    clear A110
    have H' := Aside0.mk H
    clear H
    go_wp2_with (first | ((with_reducible refine gate_callee (f := 91) rfl ?_); refine goesL_ (some 13) rfl rfl Try.func91 (by kernel_rfl) rfl #[.int .i64 (l0_0.length : Int)] rfl (by (try simp only [List.map_toArray, List.map_cons, List.map_nil]); first | done | rfl | (simp only [List.length_drop, List.length_take]; rfl)) ?_; (with_reducible refine (spec_power.calls k (l0_0.length : Int) t942 _ A6.out).mono ?_); rintro e w' ⟨rfl, ⟨nd, rfl⟩⟩; refine ⟨_, rfl, ?_⟩) | ((with_reducible refine gate_callee (f := 76) rfl ?_); refine goesL_ (some 15) rfl rfl Try.func76 (by kernel_rfl) rfl #[.int .i64 a1, .int .i64 0, .int .i64 (wrap64 (t942 - 1))] rfl (by (try simp only [List.map_toArray, List.map_cons, List.map_nil]); first | done | rfl | (simp only [List.length_drop, List.length_take]; rfl)) ?_; (with_reducible refine (spec_inRange.calls a1 0 (wrap64 (t942 - 1)) true _ A7.out).mono ?_); rintro e w' ⟨rfl, ⟨nd, rfl⟩⟩; refine ⟨_, rfl, ?_⟩) | (go_at_call 105; (with_reducible refine (spec_bit.calls k a1 0 t944 _ A9.out).mono ?_); rintro e w' ⟨rfl, ⟨nd, rfl⟩⟩) | (go_at_call 105; (with_reducible refine (spec_bit.calls k a1 (wrap64 ((l0_0.length : Int) - 1)) t945 _ A11.out).mono ?_); rintro e w' ⟨rfl, ⟨nd, rfl⟩⟩))
    go_meet
    case rel => exact ⟨_, ((t945 == 0)), (by first | rfl | (simp; done) | (simp [*]; done)), H', ⟨by first | omega | exact Nat.le_refl _⟩, ⟨by (with_reducible repeat (first | refine blk_drewN ?_ _ | refine blk_drew ?_ | refine blk_alloc ?_ _)); exact BK941.out⟩, ⟨by repeat (first | (with_reducible first | exact HB.out | apply below_alloc | apply pw_below_drewN | apply below_drew1 | refine below_set ?_ GE941.out) | exact HB.out)⟩⟩
  ·replace c8 := Bool.eq_false_iff.mpr c8
   subst c8
   have H1 : (spec_isPart.j0 k a1 (l0_0.length : Int) true l0_0 l0_1) = some r := by rw [if_neg (show ¬ (false = true) by decide)] at H; exact H
   clear H
   have H := H1
   clear H1
   have H' := Aside0.mk H
   clear H
   go_wp2_with (first | ((with_reducible refine gate_callee (f := 91) rfl ?_); refine goesL_ (some 13) rfl rfl Try.func91 (by kernel_rfl) rfl #[.int .i64 (l0_0.length : Int)] rfl (by (try simp only [List.map_toArray, List.map_cons, List.map_nil]); first | done | rfl | (simp only [List.length_drop, List.length_take]; rfl)) ?_; (with_reducible refine (spec_power.calls k (l0_0.length : Int) t942 _ A6.out).mono ?_); rintro e w' ⟨rfl, ⟨nd, rfl⟩⟩; refine ⟨_, rfl, ?_⟩) | ((with_reducible refine gate_callee (f := 76) rfl ?_); refine goesL_ (some 15) rfl rfl Try.func76 (by kernel_rfl) rfl #[.int .i64 a1, .int .i64 0, .int .i64 (wrap64 (t942 - 1))] rfl (by (try simp only [List.map_toArray, List.map_cons, List.map_nil]); first | done | rfl | (simp only [List.length_drop, List.length_take]; rfl)) ?_; (with_reducible refine (spec_inRange.calls a1 0 (wrap64 (t942 - 1)) false _ A7.out).mono ?_); rintro e w' ⟨rfl, ⟨nd, rfl⟩⟩; refine ⟨_, rfl, ?_⟩))
   go_meet
   case rel => exact ⟨_, (true), (by first | rfl | (simp; done) | (simp [*]; done)), H', ⟨by first | omega | exact Nat.le_refl _⟩, ⟨by (with_reducible repeat (first | refine blk_drewN ?_ _ | refine blk_drew ?_ | refine blk_alloc ?_ _)); exact BK941.out⟩, ⟨by repeat (first | (with_reducible first | exact HB.out | apply below_alloc | apply pw_below_drewN | apply below_drew1 | refine below_set ?_ GE941.out) | exact HB.out)⟩⟩
 case rest =>
  clear HC3
  try clear c1
  try clear p2
  try clear p6
  try clear c7
  try clear c8
  try clear c9
  try clear c10
  try clear c10b0
  try clear c10b1
  try clear hcz5_0
  try clear hcz5_1
  try clear hfz5_0
  try clear hfz5_1
  obtain ⟨kq, x28_2, rfl, HA, HJ2, BK941, HB⟩ := hcut
  cases kq with
  | zero => exact absurd HA.out (by simp [spec_isPart.j0])
  | succ kj2 =>
   have H := HA.out
   clear HA
   simp only [spec_isPart.j0] at H
   by_cases c12 : x28_2 = true
   ·subst c12
    have H1 : (some false) = some r := by rw [if_pos rfl] at H; exact H
    clear H
    have H := H1
    clear H1
    obtain rfl := Option.some.inj H
    go_wp2
    go_ret
    exact ⟨by first | rfl | (simp [errW_none, errW_some] <;> rfl) | (simp [*, errW_none, errW_some] <;> rfl), by repeat (first | (with_reducible first | exact HB.out | apply below_alloc | apply pw_below_drewN | apply below_drew1 | refine below_set ?_ GE941.out) | exact HB.out)⟩
   ·replace c12 := Bool.eq_false_iff.mpr c12
    subst c12
    have H1 : (spec_isPart.l0 kj2 a1 (l0_0.length : Int) 0 l0_0 l0_1) = some r := by rw [if_neg (show ¬ (false = true) by decide)] at H; exact H
    clear H
    have H := H1
    clear H1
    have H' := Aside0.mk H
    clear H
    go_wp2
    go_loopg [6] kj2 (fun kq v6 w' => ∃ (x6_2 : Int), v6 = .int .i64 x6_2 ∧ Aside0 (spec_isPart.l0 kq a1 (l0_0.length : Int) x6_2 l0_0 l0_1 = some r) ∧ Aside0 (kq ≤ kj2) ∧ Aside0 (w'.heap[gb941]? = some (.cells #[(.slice A0_0 l0_0.length c0_0), (.slice A0_1 l0_1.length c0_1)] 28 (0, 0))) ∧ Aside0 (Below w.heap.size w w'))
    case atStart => exact ⟨(0), (by first | rfl | (simp; done) | (simp [*]; done)), H', ⟨Nat.le_refl _⟩, ⟨by (with_reducible repeat (first | refine blk_drewN ?_ _ | refine blk_drew ?_ | refine blk_alloc ?_ _)); exact BK941.out⟩, ⟨by repeat (first | (with_reducible first | exact HB.out | apply below_alloc | apply pw_below_drewN | apply below_drew1 | refine below_set ?_ GE941.out) | exact HB.out)⟩⟩
    case round =>
     clear H'
     try clear c1
     try clear p2
     try clear p6
     try clear c7
     try clear c8
     try clear c9
     try clear c10
     try clear c10b0
     try clear c10b1
     try clear c12
     try clear hcz5_0
     try clear hcz5_1
     try clear hfz5_0
     try clear hfz5_1
     try clear p2
     try clear p6
     obtain ⟨x6_2, rfl, HA, HK2, BK941, HB⟩ := hrel
     cases gk with
     | zero => exact absurd HA.out (by simp [spec_isPart.l0])
     | succ k2 =>
      have H := HA.out
      clear HA
      simp only [spec_isPart.l0] at H
      by_cases c13 : x6_2 < (l0_0.length : Int)
      ·rw [if_pos c13] at H
       have c13b0 : decide (x6_2 < (l0_0.length : Int)) = true := decide_eq_true c13
       clear c13
       have H' := Aside0.mk H
       clear H
       go_wp2
       go_loopg [7] k2 (fun kq v7 w' => ∃ (x7_3 : Int), v7 = .int .i64 x7_3 ∧ Aside0 (spec_isPart.l1 kq a1 (l0_0.length : Int) x6_2 x7_3 l0_0 l0_1 = some r) ∧ Aside0 (kq ≤ k2) ∧ Aside0 (w'.heap[gb941]? = some (.cells #[(.slice A0_0 l0_0.length c0_0), (.slice A0_1 l0_1.length c0_1)] 28 (0, 0))) ∧ Aside0 (Below w.heap.size w w'))
       case atStart => exact ⟨(0), (by first | rfl | (simp; done) | (simp [*]; done)), H', ⟨Nat.le_refl _⟩, ⟨by (with_reducible repeat (first | refine blk_drewN ?_ _ | refine blk_drew ?_ | refine blk_alloc ?_ _)); exact BK941.out⟩, ⟨by repeat (first | (with_reducible first | exact HB.out | apply below_alloc | apply pw_below_drewN | apply below_drew1 | refine below_set ?_ GE941.out) | exact HB.out)⟩⟩
       case round =>
        clear H'
        try clear c1
        try clear p2
        try clear p6
        try clear c7
        try clear c8
        try clear c9
        try clear c10
        try clear c10b0
        try clear c10b1
        try clear c12
        try clear c13
        try clear c13b0
        try clear hcz5_0
        try clear hcz5_1
        try clear hfz5_0
        try clear hfz5_1
        try clear p2
        try clear p6
        obtain ⟨x7_3, rfl, HA, HK3, BK941, HB⟩ := hrel
        cases gk with
        | zero => exact absurd HA.out (by simp [spec_isPart.l1])
        | succ k3 =>
         have H := HA.out
         clear HA
         simp only [spec_isPart.l1] at H
         by_cases c14 : x7_3 < (l0_0.length : Int)
         ·rw [if_pos c14] at H
          have c14b0 : decide (x7_3 < (l0_0.length : Int)) = true := decide_eq_true c14
          clear c14
          replace H := Option.bind_eq_some_iff.mp H
          obtain ⟨t946, A150, H⟩ := H
          replace H : (if t946 = 1 then ((spec_bit.f k3 a1 x7_3).bind fun t947 => (if t947 = 1 then (if 0 ≤ x6_2 then (if x6_2 < (l0_1.length : Int) then (if 0 ≤ x7_3 then (if x7_3 < ((rd_L1 l0_1 x6_2).length : Int) then ((spec_bit.f k3 a1 (rd (rd_L1 l0_1 x6_2) x7_3)).bind fun t950 => (if t950 = 0 then (some false) else ((spec_imply.f k3 l0_0 l0_1 x6_2 x7_3).bind fun t951 => ((spec_bit.f k3 a1 t951).bind fun t952 => (if t952 = 0 then (some false) else ((spec_meet.f k3 l0_0 x6_2 x7_3).bind fun t953 => ((spec_bit.f k3 a1 t953).bind fun t954 => (if t954 = 0 then (some false) else ((spec_join.f k3 l0_0 x6_2 x7_3).bind fun t955 => ((spec_bit.f k3 a1 t955).bind fun t956 => (if t956 = 0 then (some false) else (spec_isPart.l1 k3 a1 (l0_0.length : Int) x6_2 (wrap64 (x7_3 + 1)) l0_0 l0_1)))))))))))) else (none)) else (none)) else (none)) else (none)) else (spec_isPart.l1 k3 a1 (l0_0.length : Int) x6_2 (wrap64 (x7_3 + 1)) l0_0 l0_1))) else (spec_isPart.l1 k3 a1 (l0_0.length : Int) x6_2 (wrap64 (x7_3 + 1)) l0_0 l0_1)) = some r := H
          have A15 := Aside0.mk A150
          clear A150
          by_cases c16 : t946 = 1
          ·rw [if_pos c16] at H
           have c16b0 : (t946 == 1) = true := beq_iff_eq.mpr c16
           have c16b1 : (t946 != 1) = false := bne_eq_false_iff_eq.mpr c16
           clear c16
           replace H := Option.bind_eq_some_iff.mp H
           obtain ⟨t947, A170, H⟩ := H
           replace H : (if t947 = 1 then (if 0 ≤ x6_2 then (if x6_2 < (l0_1.length : Int) then (if 0 ≤ x7_3 then (if x7_3 < ((rd_L1 l0_1 x6_2).length : Int) then ((spec_bit.f k3 a1 (rd (rd_L1 l0_1 x6_2) x7_3)).bind fun t950 => (if t950 = 0 then (some false) else ((spec_imply.f k3 l0_0 l0_1 x6_2 x7_3).bind fun t951 => ((spec_bit.f k3 a1 t951).bind fun t952 => (if t952 = 0 then (some false) else ((spec_meet.f k3 l0_0 x6_2 x7_3).bind fun t953 => ((spec_bit.f k3 a1 t953).bind fun t954 => (if t954 = 0 then (some false) else ((spec_join.f k3 l0_0 x6_2 x7_3).bind fun t955 => ((spec_bit.f k3 a1 t955).bind fun t956 => (if t956 = 0 then (some false) else (spec_isPart.l1 k3 a1 (l0_0.length : Int) x6_2 (wrap64 (x7_3 + 1)) l0_0 l0_1)))))))))))) else (none)) else (none)) else (none)) else (none)) else (spec_isPart.l1 k3 a1 (l0_0.length : Int) x6_2 (wrap64 (x7_3 + 1)) l0_0 l0_1)) = some r := H
           have A17 := Aside0.mk A170
           clear A170
           by_cases c18 : t947 = 1
           ·rw [if_pos c18] at H
            have c18b0 : (t947 == 1) = true := beq_iff_eq.mpr c18
            have c18b1 : (t947 != 1) = false := bne_eq_false_iff_eq.mpr c18
            clear c18
            by_cases c19 : 0 ≤ x6_2
            ·rw [if_pos c19] at H
             have c19b0 : decide (0 ≤ x6_2) = true := decide_eq_true c19
             clear c19
             by_cases c20 : x6_2 < (l0_1.length : Int)
             ·rw [if_pos c20] at H
              have c20b0 : decide (x6_2 < (l0_1.length : Int)) = true := decide_eq_true c20
              clear c20
              by_cases c21 : 0 ≤ x7_3
              ·rw [if_pos c21] at H
               have c21b0 : decide (0 ≤ x7_3) = true := decide_eq_true c21
               clear c21
               by_cases c22 : x7_3 < ((rd_L1 l0_1 x6_2).length : Int)
               ·rw [if_pos c22] at H
                have c22b0 : decide (x7_3 < ((rd_L1 l0_1 x6_2).length : Int)) = true := decide_eq_true c22
                clear c22
                replace H := Option.bind_eq_some_iff.mp H
                obtain ⟨t950, A230, H⟩ := H
                replace H : (if t950 = 0 then (some false) else ((spec_imply.f k3 l0_0 l0_1 x6_2 x7_3).bind fun t951 => ((spec_bit.f k3 a1 t951).bind fun t952 => (if t952 = 0 then (some false) else ((spec_meet.f k3 l0_0 x6_2 x7_3).bind fun t953 => ((spec_bit.f k3 a1 t953).bind fun t954 => (if t954 = 0 then (some false) else ((spec_join.f k3 l0_0 x6_2 x7_3).bind fun t955 => ((spec_bit.f k3 a1 t955).bind fun t956 => (if t956 = 0 then (some false) else (spec_isPart.l1 k3 a1 (l0_0.length : Int) x6_2 (wrap64 (x7_3 + 1)) l0_0 l0_1))))))))))) = some r := H
                have A23 := Aside0.mk A230
                clear A230
                by_cases c24 : t950 = 0
                ·rw [if_pos c24] at H
                 have c24b0 : (t950 == 0) = true := beq_iff_eq.mpr c24
                 have c24b1 : (t950 != 0) = false := bne_eq_false_iff_eq.mpr c24
                 clear c24
                 obtain rfl := Option.some.inj H
                 go_wp2_with (first | ((with_reducible refine gate_callee (f := 105) rfl ?_); refine goesL_ (some 41) rfl rfl Try.func105 (by kernel_rfl) rfl #[.int .i64 a1, .int .i64 x6_2] rfl (by (try simp only [List.map_toArray, List.map_cons, List.map_nil]); first | done | rfl | (simp only [List.length_drop, List.length_take]; rfl)) ?_; (with_reducible refine (spec_bit.calls k3 a1 x6_2 t946 _ A15.out).mono ?_); rintro e w' ⟨rfl, ⟨nd, rfl⟩⟩; refine ⟨_, rfl, ?_⟩) | (go_at_call 105; (with_reducible refine (spec_bit.calls k3 a1 x7_3 t947 _ A17.out).mono ?_); rintro e w' ⟨rfl, ⟨nd, rfl⟩⟩; have hcz25_0 : wr.cell? ⟨gb941, 0, none⟩ = some (.slice A0_0 l0_0.length c0_0) := (blk_cell BK941.out 0).trans rfl; have hcz25_1 : wr.cell? ⟨gb941, 1, none⟩ = some (.slice A0_1 l0_1.length c0_1) := (blk_cell BK941.out 1).trans rfl; have hfz25_0 := blk_frozen BK941.out 0; have hfz25_1 := blk_frozen BK941.out 1; have p948 : 0 ≤ (x6_2 : Int) := of_decide_eq_true (by first | (with_reducible assumption) | assumption); have q948 : x6_2 < (l0_1.length : Int) := of_decide_eq_true (by first | (with_reducible assumption) | assumption); obtain ⟨ad948, A948_0, c948_0, e948, hx948_0, hl948_0, hi948_0⟩ := at_L1 HR0_1.out x6_2 p948 q948; cases e948; replace hx948_0 := (HB.out.cell (World.block_lt_of_cell? w _ hx948_0)).trans hx948_0; have HR948_0 := Aside0.mk hi948_0; have HC948_0 := Aside0.mk hl948_0; clear hi948_0 hl948_0; replace p948 := eq_true p948; replace q948 := eq_true q948; have p949 : 0 ≤ (x7_3 : Int) := of_decide_eq_true (by first | (with_reducible assumption) | assumption); have q949 : x7_3 < ((rd_L1 l0_1 x6_2).length : Int) := of_decide_eq_true (by first | (with_reducible assumption) | assumption); obtain ⟨ad949, e949, hx949_0⟩ := Kd.at_int HR948_0.out x7_3 p949 q949; cases e949; replace hx949_0 := (HB.out.cell (World.block_lt_of_cell? w _ hx949_0)).trans hx949_0; replace p949 := eq_true p949; replace q949 := eq_true q949) | (go_at_call 105; (with_reducible refine (spec_bit.calls k3 a1 (rd (rd_L1 l0_1 x6_2) x7_3) t950 _ A23.out).mono ?_); rintro e w' ⟨rfl, ⟨nd, rfl⟩⟩))
                 go_ret
                 exact ⟨by first | rfl | (simp [errW_none, errW_some] <;> rfl) | (simp [*, errW_none, errW_some] <;> rfl), by repeat (first | (with_reducible first | exact HB.out | apply below_alloc | apply pw_below_drewN | apply below_drew1 | refine below_set ?_ GE941.out) | exact HB.out)⟩
                ·rw [if_neg c24] at H
                 have c24b0 : (t950 == 0) = false := beq_eq_false_iff_ne.mpr c24
                 have c24b1 : (t950 != 0) = true := bne_iff_ne.mpr c24
                 replace H := Option.bind_eq_some_iff.mp H
                 obtain ⟨t951, A260, H⟩ := H
                 replace H : ((spec_bit.f k3 a1 t951).bind fun t952 => (if t952 = 0 then (some false) else ((spec_meet.f k3 l0_0 x6_2 x7_3).bind fun t953 => ((spec_bit.f k3 a1 t953).bind fun t954 => (if t954 = 0 then (some false) else ((spec_join.f k3 l0_0 x6_2 x7_3).bind fun t955 => ((spec_bit.f k3 a1 t955).bind fun t956 => (if t956 = 0 then (some false) else (spec_isPart.l1 k3 a1 (l0_0.length : Int) x6_2 (wrap64 (x7_3 + 1)) l0_0 l0_1))))))))) = some r := H
                 have A26 := Aside0.mk A260
                 clear A260
                 replace H := Option.bind_eq_some_iff.mp H
                 obtain ⟨t952, A270, H⟩ := H
                 replace H : (if t952 = 0 then (some false) else ((spec_meet.f k3 l0_0 x6_2 x7_3).bind fun t953 => ((spec_bit.f k3 a1 t953).bind fun t954 => (if t954 = 0 then (some false) else ((spec_join.f k3 l0_0 x6_2 x7_3).bind fun t955 => ((spec_bit.f k3 a1 t955).bind fun t956 => (if t956 = 0 then (some false) else (spec_isPart.l1 k3 a1 (l0_0.length : Int) x6_2 (wrap64 (x7_3 + 1)) l0_0 l0_1)))))))) = some r := H
                 have A27 := Aside0.mk A270
                 clear A270
                 by_cases c28 : t952 = 0
                 ·rw [if_pos c28] at H
                  have c28b0 : (t952 == 0) = true := beq_iff_eq.mpr c28
                  have c28b1 : (t952 != 0) = false := bne_eq_false_iff_eq.mpr c28
                  clear c28
                  obtain rfl := Option.some.inj H
                  go_wp2_with (first | ((with_reducible refine gate_callee (f := 105) rfl ?_); refine goesL_ (some 41) rfl rfl Try.func105 (by kernel_rfl) rfl #[.int .i64 a1, .int .i64 x6_2] rfl (by (try simp only [List.map_toArray, List.map_cons, List.map_nil]); first | done | rfl | (simp only [List.length_drop, List.length_take]; rfl)) ?_; (with_reducible refine (spec_bit.calls k3 a1 x6_2 t946 _ A15.out).mono ?_); rintro e w' ⟨rfl, ⟨nd, rfl⟩⟩; refine ⟨_, rfl, ?_⟩) | (go_at_call 105; (with_reducible refine (spec_bit.calls k3 a1 x7_3 t947 _ A17.out).mono ?_); rintro e w' ⟨rfl, ⟨nd, rfl⟩⟩; have hcz29_0 : wr.cell? ⟨gb941, 0, none⟩ = some (.slice A0_0 l0_0.length c0_0) := (blk_cell BK941.out 0).trans rfl; have hcz29_1 : wr.cell? ⟨gb941, 1, none⟩ = some (.slice A0_1 l0_1.length c0_1) := (blk_cell BK941.out 1).trans rfl; have hfz29_0 := blk_frozen BK941.out 0; have hfz29_1 := blk_frozen BK941.out 1; have p948 : 0 ≤ (x6_2 : Int) := of_decide_eq_true (by first | (with_reducible assumption) | assumption); have q948 : x6_2 < (l0_1.length : Int) := of_decide_eq_true (by first | (with_reducible assumption) | assumption); obtain ⟨ad948, A948_0, c948_0, e948, hx948_0, hl948_0, hi948_0⟩ := at_L1 HR0_1.out x6_2 p948 q948; cases e948; replace hx948_0 := (HB.out.cell (World.block_lt_of_cell? w _ hx948_0)).trans hx948_0; have HR948_0 := Aside0.mk hi948_0; have HC948_0 := Aside0.mk hl948_0; clear hi948_0 hl948_0; replace p948 := eq_true p948; replace q948 := eq_true q948; have p949 : 0 ≤ (x7_3 : Int) := of_decide_eq_true (by first | (with_reducible assumption) | assumption); have q949 : x7_3 < ((rd_L1 l0_1 x6_2).length : Int) := of_decide_eq_true (by first | (with_reducible assumption) | assumption); obtain ⟨ad949, e949, hx949_0⟩ := Kd.at_int HR948_0.out x7_3 p949 q949; cases e949; replace hx949_0 := (HB.out.cell (World.block_lt_of_cell? w _ hx949_0)).trans hx949_0; replace p949 := eq_true p949; replace q949 := eq_true q949) | (go_at_call 105; (with_reducible refine (spec_bit.calls k3 a1 (rd (rd_L1 l0_1 x6_2) x7_3) t950 _ A23.out).mono ?_); rintro e w' ⟨rfl, ⟨nd, rfl⟩⟩) | (go_at_call 70; (with_reducible refine (spec_imply.calls k3 _ _ l0_0 _ _ l0_1 x6_2 x7_3 t951 _ ?side1 ?side2 ?side3 ?side4 A26.out).mono ?_); (case side1 => repeat (first | exact (Kd.C_below HR0_0.out (by repeat (first | (with_reducible first | exact HB.out | apply below_alloc | apply pw_below_drewN | apply below_drew1 | refine below_set ?_ GE941.out) | exact HB.out))) | (with_reducible refine Kd.C_alloc ?_ _) | (with_reducible refine Kd.C_drewN ?_ _) | (with_reducible refine Kd.C_drew ?_))); (case side2 => exact HC0_0.out); (case side3 => repeat (first | exact (Kd.C_below HR0_1.out (by repeat (first | (with_reducible first | exact HB.out | apply below_alloc | apply pw_below_drewN | apply below_drew1 | refine below_set ?_ GE941.out) | exact HB.out))) | (with_reducible refine Kd.C_alloc ?_ _) | (with_reducible refine Kd.C_drewN ?_ _) | (with_reducible refine Kd.C_drew ?_))); (case side4 => exact HC0_1.out); rintro e w30 ⟨rfl, hb⟩; have n0_ := Aside0.mk (blk_below (g := gb941) (o := .cells #[.slice A0_0 l0_0.length c0_0, .slice (some ad948) l0_1.length c0_1] 28 (0, 0)) (by (with_reducible repeat (first | refine blk_drewN ?_ _ | refine blk_drew ?_ | refine blk_alloc ?_ _)); exact BK941.out) hb); have n1_ := Aside0.mk (below_step (by repeat (first | (with_reducible first | exact HB.out | apply below_alloc | apply pw_below_drewN | apply below_drew1 | refine below_set ?_ GE941.out) | exact HB.out)) hb); clear BK941; clear HB; have BK941 := n0_; have HB := n1_; clear n0_ n1_; (try clear hb); (try clear hb2); (try clear hk); (try clear hi)) | (go_at_call 105; (with_reducible refine (spec_bit.calls k3 a1 t951 t952 _ A27.out).mono ?_); rintro e w' ⟨rfl, ⟨nd, rfl⟩⟩))
                  go_ret
                  exact ⟨by first | rfl | (simp [errW_none, errW_some] <;> rfl) | (simp [*, errW_none, errW_some] <;> rfl), by repeat (first | (with_reducible first | exact HB.out | apply below_alloc | apply pw_below_drewN | apply below_drew1 | refine below_set ?_ GE941.out) | exact HB.out)⟩
                 ·rw [if_neg c28] at H
                  have c28b0 : (t952 == 0) = false := beq_eq_false_iff_ne.mpr c28
                  have c28b1 : (t952 != 0) = true := bne_iff_ne.mpr c28
                  replace H := Option.bind_eq_some_iff.mp H
                  obtain ⟨t953, A310, H⟩ := H
                  replace H : ((spec_bit.f k3 a1 t953).bind fun t954 => (if t954 = 0 then (some false) else ((spec_join.f k3 l0_0 x6_2 x7_3).bind fun t955 => ((spec_bit.f k3 a1 t955).bind fun t956 => (if t956 = 0 then (some false) else (spec_isPart.l1 k3 a1 (l0_0.length : Int) x6_2 (wrap64 (x7_3 + 1)) l0_0 l0_1)))))) = some r := H
                  have A31 := Aside0.mk A310
                  clear A310
                  replace H := Option.bind_eq_some_iff.mp H
                  obtain ⟨t954, A320, H⟩ := H
                  replace H : (if t954 = 0 then (some false) else ((spec_join.f k3 l0_0 x6_2 x7_3).bind fun t955 => ((spec_bit.f k3 a1 t955).bind fun t956 => (if t956 = 0 then (some false) else (spec_isPart.l1 k3 a1 (l0_0.length : Int) x6_2 (wrap64 (x7_3 + 1)) l0_0 l0_1))))) = some r := H
                  have A32 := Aside0.mk A320
                  clear A320
                  by_cases c33 : t954 = 0
                  ·rw [if_pos c33] at H
                   have c33b0 : (t954 == 0) = true := beq_iff_eq.mpr c33
                   have c33b1 : (t954 != 0) = false := bne_eq_false_iff_eq.mpr c33
                   clear c33
                   obtain rfl := Option.some.inj H
                   go_wp2_with (first | ((with_reducible refine gate_callee (f := 105) rfl ?_); refine goesL_ (some 41) rfl rfl Try.func105 (by kernel_rfl) rfl #[.int .i64 a1, .int .i64 x6_2] rfl (by (try simp only [List.map_toArray, List.map_cons, List.map_nil]); first | done | rfl | (simp only [List.length_drop, List.length_take]; rfl)) ?_; (with_reducible refine (spec_bit.calls k3 a1 x6_2 t946 _ A15.out).mono ?_); rintro e w' ⟨rfl, ⟨nd, rfl⟩⟩; refine ⟨_, rfl, ?_⟩) | (go_at_call 105; (with_reducible refine (spec_bit.calls k3 a1 x7_3 t947 _ A17.out).mono ?_); rintro e w' ⟨rfl, ⟨nd, rfl⟩⟩; have hcz34_0 : wr.cell? ⟨gb941, 0, none⟩ = some (.slice A0_0 l0_0.length c0_0) := (blk_cell BK941.out 0).trans rfl; have hcz34_1 : wr.cell? ⟨gb941, 1, none⟩ = some (.slice A0_1 l0_1.length c0_1) := (blk_cell BK941.out 1).trans rfl; have hfz34_0 := blk_frozen BK941.out 0; have hfz34_1 := blk_frozen BK941.out 1; have p948 : 0 ≤ (x6_2 : Int) := of_decide_eq_true (by first | (with_reducible assumption) | assumption); have q948 : x6_2 < (l0_1.length : Int) := of_decide_eq_true (by first | (with_reducible assumption) | assumption); obtain ⟨ad948, A948_0, c948_0, e948, hx948_0, hl948_0, hi948_0⟩ := at_L1 HR0_1.out x6_2 p948 q948; cases e948; replace hx948_0 := (HB.out.cell (World.block_lt_of_cell? w _ hx948_0)).trans hx948_0; have HR948_0 := Aside0.mk hi948_0; have HC948_0 := Aside0.mk hl948_0; clear hi948_0 hl948_0; replace p948 := eq_true p948; replace q948 := eq_true q948; have p949 : 0 ≤ (x7_3 : Int) := of_decide_eq_true (by first | (with_reducible assumption) | assumption); have q949 : x7_3 < ((rd_L1 l0_1 x6_2).length : Int) := of_decide_eq_true (by first | (with_reducible assumption) | assumption); obtain ⟨ad949, e949, hx949_0⟩ := Kd.at_int HR948_0.out x7_3 p949 q949; cases e949; replace hx949_0 := (HB.out.cell (World.block_lt_of_cell? w _ hx949_0)).trans hx949_0; replace p949 := eq_true p949; replace q949 := eq_true q949) | (go_at_call 105; (with_reducible refine (spec_bit.calls k3 a1 (rd (rd_L1 l0_1 x6_2) x7_3) t950 _ A23.out).mono ?_); rintro e w' ⟨rfl, ⟨nd, rfl⟩⟩) | (go_at_call 70; (with_reducible refine (spec_imply.calls k3 _ _ l0_0 _ _ l0_1 x6_2 x7_3 t951 _ ?side1 ?side2 ?side3 ?side4 A26.out).mono ?_); (case side1 => repeat (first | exact (Kd.C_below HR0_0.out (by repeat (first | (with_reducible first | exact HB.out | apply below_alloc | apply pw_below_drewN | apply below_drew1 | refine below_set ?_ GE941.out) | exact HB.out))) | (with_reducible refine Kd.C_alloc ?_ _) | (with_reducible refine Kd.C_drewN ?_ _) | (with_reducible refine Kd.C_drew ?_))); (case side2 => exact HC0_0.out); (case side3 => repeat (first | exact (Kd.C_below HR0_1.out (by repeat (first | (with_reducible first | exact HB.out | apply below_alloc | apply pw_below_drewN | apply below_drew1 | refine below_set ?_ GE941.out) | exact HB.out))) | (with_reducible refine Kd.C_alloc ?_ _) | (with_reducible refine Kd.C_drewN ?_ _) | (with_reducible refine Kd.C_drew ?_))); (case side4 => exact HC0_1.out); rintro e w35 ⟨rfl, hb⟩; have n0_ := Aside0.mk (blk_below (g := gb941) (o := .cells #[.slice A0_0 l0_0.length c0_0, .slice (some ad948) l0_1.length c0_1] 28 (0, 0)) (by (with_reducible repeat (first | refine blk_drewN ?_ _ | refine blk_drew ?_ | refine blk_alloc ?_ _)); exact BK941.out) hb); have n1_ := Aside0.mk (below_step (by repeat (first | (with_reducible first | exact HB.out | apply below_alloc | apply pw_below_drewN | apply below_drew1 | refine below_set ?_ GE941.out) | exact HB.out)) hb); clear BK941; clear HB; have BK941 := n0_; have HB := n1_; clear n0_ n1_; (try clear hb); (try clear hb2); (try clear hk); (try clear hi)) | (go_at_call 105; (with_reducible refine (spec_bit.calls k3 a1 t951 t952 _ A27.out).mono ?_); rintro e w' ⟨rfl, ⟨nd, rfl⟩⟩; have hcz36_0 : w35.cell? ⟨gb941, 0, none⟩ = some (.slice A0_0 l0_0.length c0_0) := (blk_cell BK941.out 0).trans rfl; have hcz36_1 : w35.cell? ⟨gb941, 1, none⟩ = some (.slice (some ad948) l0_1.length c0_1) := (blk_cell BK941.out 1).trans rfl; have hfz36_0 := blk_frozen BK941.out 0; have hfz36_1 := blk_frozen BK941.out 1) | (go_at_call 103; (with_reducible refine (spec_meet.calls k3 _ _ l0_0 x6_2 x7_3 t953 _ ?side1 ?side2 A31.out).mono ?_); (case side1 => repeat (first | exact (Kd.C_below HR0_0.out (by repeat (first | (with_reducible first | exact HB.out | apply below_alloc | apply pw_below_drewN | apply below_drew1 | refine below_set ?_ GE941.out) | exact HB.out))) | (with_reducible refine Kd.C_alloc ?_ _) | (with_reducible refine Kd.C_drewN ?_ _) | (with_reducible refine Kd.C_drew ?_))); (case side2 => exact HC0_0.out); rintro e w' ⟨rfl, ⟨nd, rfl⟩⟩) | (go_at_call 105; (with_reducible refine (spec_bit.calls k3 a1 t953 t954 _ A32.out).mono ?_); rintro e w' ⟨rfl, ⟨nd, rfl⟩⟩))
                   go_ret
                   exact ⟨by first | rfl | (simp [errW_none, errW_some] <;> rfl) | (simp [*, errW_none, errW_some] <;> rfl), by repeat (first | (with_reducible first | exact HB.out | apply below_alloc | apply pw_below_drewN | apply below_drew1 | refine below_set ?_ GE941.out) | exact HB.out)⟩
                  ·rw [if_neg c33] at H
                   have c33b0 : (t954 == 0) = false := beq_eq_false_iff_ne.mpr c33
                   have c33b1 : (t954 != 0) = true := bne_iff_ne.mpr c33
                   replace H := Option.bind_eq_some_iff.mp H
                   obtain ⟨t955, A370, H⟩ := H
                   replace H : ((spec_bit.f k3 a1 t955).bind fun t956 => (if t956 = 0 then (some false) else (spec_isPart.l1 k3 a1 (l0_0.length : Int) x6_2 (wrap64 (x7_3 + 1)) l0_0 l0_1))) = some r := H
                   have A37 := Aside0.mk A370
                   clear A370
                   replace H := Option.bind_eq_some_iff.mp H
                   obtain ⟨t956, A380, H⟩ := H
                   replace H : (if t956 = 0 then (some false) else (spec_isPart.l1 k3 a1 (l0_0.length : Int) x6_2 (wrap64 (x7_3 + 1)) l0_0 l0_1)) = some r := H
                   have A38 := Aside0.mk A380
                   clear A380
                   by_cases c39 : t956 = 0
                   ·rw [if_pos c39] at H
                    have c39b0 : (t956 == 0) = true := beq_iff_eq.mpr c39
                    have c39b1 : (t956 != 0) = false := bne_eq_false_iff_eq.mpr c39
                    clear c39
                    obtain rfl := Option.some.inj H
                    go_wp2_with (first | ((with_reducible refine gate_callee (f := 105) rfl ?_); refine goesL_ (some 41) rfl rfl Try.func105 (by kernel_rfl) rfl #[.int .i64 a1, .int .i64 x6_2] rfl (by (try simp only [List.map_toArray, List.map_cons, List.map_nil]); first | done | rfl | (simp only [List.length_drop, List.length_take]; rfl)) ?_; (with_reducible refine (spec_bit.calls k3 a1 x6_2 t946 _ A15.out).mono ?_); rintro e w' ⟨rfl, ⟨nd, rfl⟩⟩; refine ⟨_, rfl, ?_⟩) | (go_at_call 105; (with_reducible refine (spec_bit.calls k3 a1 x7_3 t947 _ A17.out).mono ?_); rintro e w' ⟨rfl, ⟨nd, rfl⟩⟩; have hcz40_0 : wr.cell? ⟨gb941, 0, none⟩ = some (.slice A0_0 l0_0.length c0_0) := (blk_cell BK941.out 0).trans rfl; have hcz40_1 : wr.cell? ⟨gb941, 1, none⟩ = some (.slice A0_1 l0_1.length c0_1) := (blk_cell BK941.out 1).trans rfl; have hfz40_0 := blk_frozen BK941.out 0; have hfz40_1 := blk_frozen BK941.out 1; have p948 : 0 ≤ (x6_2 : Int) := of_decide_eq_true (by first | (with_reducible assumption) | assumption); have q948 : x6_2 < (l0_1.length : Int) := of_decide_eq_true (by first | (with_reducible assumption) | assumption); obtain ⟨ad948, A948_0, c948_0, e948, hx948_0, hl948_0, hi948_0⟩ := at_L1 HR0_1.out x6_2 p948 q948; cases e948; replace hx948_0 := (HB.out.cell (World.block_lt_of_cell? w _ hx948_0)).trans hx948_0; have HR948_0 := Aside0.mk hi948_0; have HC948_0 := Aside0.mk hl948_0; clear hi948_0 hl948_0; replace p948 := eq_true p948; replace q948 := eq_true q948; have p949 : 0 ≤ (x7_3 : Int) := of_decide_eq_true (by first | (with_reducible assumption) | assumption); have q949 : x7_3 < ((rd_L1 l0_1 x6_2).length : Int) := of_decide_eq_true (by first | (with_reducible assumption) | assumption); obtain ⟨ad949, e949, hx949_0⟩ := Kd.at_int HR948_0.out x7_3 p949 q949; cases e949; replace hx949_0 := (HB.out.cell (World.block_lt_of_cell? w _ hx949_0)).trans hx949_0; replace p949 := eq_true p949; replace q949 := eq_true q949) | (go_at_call 105; (with_reducible refine (spec_bit.calls k3 a1 (rd (rd_L1 l0_1 x6_2) x7_3) t950 _ A23.out).mono ?_); rintro e w' ⟨rfl, ⟨nd, rfl⟩⟩) | (go_at_call 70; (with_reducible refine (spec_imply.calls k3 _ _ l0_0 _ _ l0_1 x6_2 x7_3 t951 _ ?side1 ?side2 ?side3 ?side4 A26.out).mono ?_); (case side1 => repeat (first | exact (Kd.C_below HR0_0.out (by repeat (first | (with_reducible first | exact HB.out | apply below_alloc | apply pw_below_drewN | apply below_drew1 | refine below_set ?_ GE941.out) | exact HB.out))) | (with_reducible refine Kd.C_alloc ?_ _) | (with_reducible refine Kd.C_drewN ?_ _) | (with_reducible refine Kd.C_drew ?_))); (case side2 => exact HC0_0.out); (case side3 => repeat (first | exact (Kd.C_below HR0_1.out (by repeat (first | (with_reducible first | exact HB.out | apply below_alloc | apply pw_below_drewN | apply below_drew1 | refine below_set ?_ GE941.out) | exact HB.out))) | (with_reducible refine Kd.C_alloc ?_ _) | (with_reducible refine Kd.C_drewN ?_ _) | (with_reducible refine Kd.C_drew ?_))); (case side4 => exact HC0_1.out); rintro e w41 ⟨rfl, hb⟩; have n0_ := Aside0.mk (blk_below (g := gb941) (o := .cells #[.slice A0_0 l0_0.length c0_0, .slice (some ad948) l0_1.length c0_1] 28 (0, 0)) (by (with_reducible repeat (first | refine blk_drewN ?_ _ | refine blk_drew ?_ | refine blk_alloc ?_ _)); exact BK941.out) hb); have n1_ := Aside0.mk (below_step (by repeat (first | (with_reducible first | exact HB.out | apply below_alloc | apply pw_below_drewN | apply below_drew1 | refine below_set ?_ GE941.out) | exact HB.out)) hb); clear BK941; clear HB; have BK941 := n0_; have HB := n1_; clear n0_ n1_; (try clear hb); (try clear hb2); (try clear hk); (try clear hi)) | (go_at_call 105; (with_reducible refine (spec_bit.calls k3 a1 t951 t952 _ A27.out).mono ?_); rintro e w' ⟨rfl, ⟨nd, rfl⟩⟩; have hcz42_0 : w41.cell? ⟨gb941, 0, none⟩ = some (.slice A0_0 l0_0.length c0_0) := (blk_cell BK941.out 0).trans rfl; have hcz42_1 : w41.cell? ⟨gb941, 1, none⟩ = some (.slice (some ad948) l0_1.length c0_1) := (blk_cell BK941.out 1).trans rfl; have hfz42_0 := blk_frozen BK941.out 0; have hfz42_1 := blk_frozen BK941.out 1) | (go_at_call 103; (with_reducible refine (spec_meet.calls k3 _ _ l0_0 x6_2 x7_3 t953 _ ?side1 ?side2 A31.out).mono ?_); (case side1 => repeat (first | exact (Kd.C_below HR0_0.out (by repeat (first | (with_reducible first | exact HB.out | apply below_alloc | apply pw_below_drewN | apply below_drew1 | refine below_set ?_ GE941.out) | exact HB.out))) | (with_reducible refine Kd.C_alloc ?_ _) | (with_reducible refine Kd.C_drewN ?_ _) | (with_reducible refine Kd.C_drew ?_))); (case side2 => exact HC0_0.out); rintro e w' ⟨rfl, ⟨nd, rfl⟩⟩) | (go_at_call 105; (with_reducible refine (spec_bit.calls k3 a1 t953 t954 _ A32.out).mono ?_); rintro e w' ⟨rfl, ⟨nd, rfl⟩⟩) | (go_at_call 82; (with_reducible refine (spec_join.calls k3 _ _ l0_0 x6_2 x7_3 t955 _ ?side1 ?side2 A37.out).mono ?_); (case side1 => repeat (first | exact (Kd.C_below HR0_0.out (by repeat (first | (with_reducible first | exact HB.out | apply below_alloc | apply pw_below_drewN | apply below_drew1 | refine below_set ?_ GE941.out) | exact HB.out))) | (with_reducible refine Kd.C_alloc ?_ _) | (with_reducible refine Kd.C_drewN ?_ _) | (with_reducible refine Kd.C_drew ?_))); (case side2 => exact HC0_0.out); rintro e w' ⟨rfl, ⟨nd, rfl⟩⟩) | (go_at_call 105; (with_reducible refine (spec_bit.calls k3 a1 t955 t956 _ A38.out).mono ?_); rintro e w' ⟨rfl, ⟨nd, rfl⟩⟩))
                    go_ret
                    exact ⟨by first | rfl | (simp [errW_none, errW_some] <;> rfl) | (simp [*, errW_none, errW_some] <;> rfl), by repeat (first | (with_reducible first | exact HB.out | apply below_alloc | apply pw_below_drewN | apply below_drew1 | refine below_set ?_ GE941.out) | exact HB.out)⟩
                   ·rw [if_neg c39] at H
                    have c39b0 : (t956 == 0) = false := beq_eq_false_iff_ne.mpr c39
                    have c39b1 : (t956 != 0) = true := bne_iff_ne.mpr c39
                    have H' := Aside0.mk H
                    clear H
                    go_wp2_with (first | ((with_reducible refine gate_callee (f := 105) rfl ?_); refine goesL_ (some 41) rfl rfl Try.func105 (by kernel_rfl) rfl #[.int .i64 a1, .int .i64 x6_2] rfl (by (try simp only [List.map_toArray, List.map_cons, List.map_nil]); first | done | rfl | (simp only [List.length_drop, List.length_take]; rfl)) ?_; (with_reducible refine (spec_bit.calls k3 a1 x6_2 t946 _ A15.out).mono ?_); rintro e w' ⟨rfl, ⟨nd, rfl⟩⟩; refine ⟨_, rfl, ?_⟩) | (go_at_call 105; (with_reducible refine (spec_bit.calls k3 a1 x7_3 t947 _ A17.out).mono ?_); rintro e w' ⟨rfl, ⟨nd, rfl⟩⟩; have hcz43_0 : wr.cell? ⟨gb941, 0, none⟩ = some (.slice A0_0 l0_0.length c0_0) := (blk_cell BK941.out 0).trans rfl; have hcz43_1 : wr.cell? ⟨gb941, 1, none⟩ = some (.slice A0_1 l0_1.length c0_1) := (blk_cell BK941.out 1).trans rfl; have hfz43_0 := blk_frozen BK941.out 0; have hfz43_1 := blk_frozen BK941.out 1; have p948 : 0 ≤ (x6_2 : Int) := of_decide_eq_true (by first | (with_reducible assumption) | assumption); have q948 : x6_2 < (l0_1.length : Int) := of_decide_eq_true (by first | (with_reducible assumption) | assumption); obtain ⟨ad948, A948_0, c948_0, e948, hx948_0, hl948_0, hi948_0⟩ := at_L1 HR0_1.out x6_2 p948 q948; cases e948; replace hx948_0 := (HB.out.cell (World.block_lt_of_cell? w _ hx948_0)).trans hx948_0; have HR948_0 := Aside0.mk hi948_0; have HC948_0 := Aside0.mk hl948_0; clear hi948_0 hl948_0; replace p948 := eq_true p948; replace q948 := eq_true q948; have p949 : 0 ≤ (x7_3 : Int) := of_decide_eq_true (by first | (with_reducible assumption) | assumption); have q949 : x7_3 < ((rd_L1 l0_1 x6_2).length : Int) := of_decide_eq_true (by first | (with_reducible assumption) | assumption); obtain ⟨ad949, e949, hx949_0⟩ := Kd.at_int HR948_0.out x7_3 p949 q949; cases e949; replace hx949_0 := (HB.out.cell (World.block_lt_of_cell? w _ hx949_0)).trans hx949_0; replace p949 := eq_true p949; replace q949 := eq_true q949) | (go_at_call 105; (with_reducible refine (spec_bit.calls k3 a1 (rd (rd_L1 l0_1 x6_2) x7_3) t950 _ A23.out).mono ?_); rintro e w' ⟨rfl, ⟨nd, rfl⟩⟩) | (go_at_call 70; (with_reducible refine (spec_imply.calls k3 _ _ l0_0 _ _ l0_1 x6_2 x7_3 t951 _ ?side1 ?side2 ?side3 ?side4 A26.out).mono ?_); (case side1 => repeat (first | exact (Kd.C_below HR0_0.out (by repeat (first | (with_reducible first | exact HB.out | apply below_alloc | apply pw_below_drewN | apply below_drew1 | refine below_set ?_ GE941.out) | exact HB.out))) | (with_reducible refine Kd.C_alloc ?_ _) | (with_reducible refine Kd.C_drewN ?_ _) | (with_reducible refine Kd.C_drew ?_))); (case side2 => exact HC0_0.out); (case side3 => repeat (first | exact (Kd.C_below HR0_1.out (by repeat (first | (with_reducible first | exact HB.out | apply below_alloc | apply pw_below_drewN | apply below_drew1 | refine below_set ?_ GE941.out) | exact HB.out))) | (with_reducible refine Kd.C_alloc ?_ _) | (with_reducible refine Kd.C_drewN ?_ _) | (with_reducible refine Kd.C_drew ?_))); (case side4 => exact HC0_1.out); rintro e w44 ⟨rfl, hb⟩; have n0_ := Aside0.mk (blk_below (g := gb941) (o := .cells #[.slice A0_0 l0_0.length c0_0, .slice (some ad948) l0_1.length c0_1] 28 (0, 0)) (by (with_reducible repeat (first | refine blk_drewN ?_ _ | refine blk_drew ?_ | refine blk_alloc ?_ _)); exact BK941.out) hb); have n1_ := Aside0.mk (below_step (by repeat (first | (with_reducible first | exact HB.out | apply below_alloc | apply pw_below_drewN | apply below_drew1 | refine below_set ?_ GE941.out) | exact HB.out)) hb); clear BK941; clear HB; have BK941 := n0_; have HB := n1_; clear n0_ n1_; (try clear hb); (try clear hb2); (try clear hk); (try clear hi)) | (go_at_call 105; (with_reducible refine (spec_bit.calls k3 a1 t951 t952 _ A27.out).mono ?_); rintro e w' ⟨rfl, ⟨nd, rfl⟩⟩; have hcz45_0 : w44.cell? ⟨gb941, 0, none⟩ = some (.slice A0_0 l0_0.length c0_0) := (blk_cell BK941.out 0).trans rfl; have hcz45_1 : w44.cell? ⟨gb941, 1, none⟩ = some (.slice (some ad948) l0_1.length c0_1) := (blk_cell BK941.out 1).trans rfl; have hfz45_0 := blk_frozen BK941.out 0; have hfz45_1 := blk_frozen BK941.out 1) | (go_at_call 103; (with_reducible refine (spec_meet.calls k3 _ _ l0_0 x6_2 x7_3 t953 _ ?side1 ?side2 A31.out).mono ?_); (case side1 => repeat (first | exact (Kd.C_below HR0_0.out (by repeat (first | (with_reducible first | exact HB.out | apply below_alloc | apply pw_below_drewN | apply below_drew1 | refine below_set ?_ GE941.out) | exact HB.out))) | (with_reducible refine Kd.C_alloc ?_ _) | (with_reducible refine Kd.C_drewN ?_ _) | (with_reducible refine Kd.C_drew ?_))); (case side2 => exact HC0_0.out); rintro e w' ⟨rfl, ⟨nd, rfl⟩⟩) | (go_at_call 105; (with_reducible refine (spec_bit.calls k3 a1 t953 t954 _ A32.out).mono ?_); rintro e w' ⟨rfl, ⟨nd, rfl⟩⟩) | (go_at_call 82; (with_reducible refine (spec_join.calls k3 _ _ l0_0 x6_2 x7_3 t955 _ ?side1 ?side2 A37.out).mono ?_); (case side1 => repeat (first | exact (Kd.C_below HR0_0.out (by repeat (first | (with_reducible first | exact HB.out | apply below_alloc | apply pw_below_drewN | apply below_drew1 | refine below_set ?_ GE941.out) | exact HB.out))) | (with_reducible refine Kd.C_alloc ?_ _) | (with_reducible refine Kd.C_drewN ?_ _) | (with_reducible refine Kd.C_drew ?_))); (case side2 => exact HC0_0.out); rintro e w' ⟨rfl, ⟨nd, rfl⟩⟩) | (go_at_call 105; (with_reducible refine (spec_bit.calls k3 a1 t955 t956 _ A38.out).mono ?_); rintro e w' ⟨rfl, ⟨nd, rfl⟩⟩))
                    go_roundg k3
                    case measure => have := HJ2.out; have := HK2.out; have := HK3.out; omega
                    case rel => exact ⟨(wrap64 (x7_3 + 1)), (by first | rfl | (simp; done) | (simp [*]; done)), H', ⟨by have := HJ2.out; have := HK2.out; have := HK3.out; omega⟩, ⟨by (with_reducible repeat (first | refine blk_drewN ?_ _ | refine blk_drew ?_ | refine blk_alloc ?_ _)); exact BK941.out⟩, ⟨by repeat (first | (with_reducible first | exact HB.out | apply below_alloc | apply pw_below_drewN | apply below_drew1 | refine below_set ?_ GE941.out) | exact HB.out)⟩⟩
               ·rw [if_neg c22] at H
                exact absurd H (by simp)
              ·rw [if_neg c21] at H
               exact absurd H (by simp)
             ·rw [if_neg c20] at H
              exact absurd H (by simp)
            ·rw [if_neg c19] at H
             exact absurd H (by simp)
           ·rw [if_neg c18] at H
            have c18b0 : (t947 == 1) = false := beq_eq_false_iff_ne.mpr c18
            have c18b1 : (t947 != 1) = true := bne_iff_ne.mpr c18
            have H' := Aside0.mk H
            clear H
            go_wp2_with (first | ((with_reducible refine gate_callee (f := 105) rfl ?_); refine goesL_ (some 41) rfl rfl Try.func105 (by kernel_rfl) rfl #[.int .i64 a1, .int .i64 x6_2] rfl (by (try simp only [List.map_toArray, List.map_cons, List.map_nil]); first | done | rfl | (simp only [List.length_drop, List.length_take]; rfl)) ?_; (with_reducible refine (spec_bit.calls k3 a1 x6_2 t946 _ A15.out).mono ?_); rintro e w' ⟨rfl, ⟨nd, rfl⟩⟩; refine ⟨_, rfl, ?_⟩) | (go_at_call 105; (with_reducible refine (spec_bit.calls k3 a1 x7_3 t947 _ A17.out).mono ?_); rintro e w' ⟨rfl, ⟨nd, rfl⟩⟩))
            go_roundg k3
            case measure => have := HJ2.out; have := HK2.out; have := HK3.out; omega
            case rel => exact ⟨(wrap64 (x7_3 + 1)), (by first | rfl | (simp; done) | (simp [*]; done)), H', ⟨by have := HJ2.out; have := HK2.out; have := HK3.out; omega⟩, ⟨by (with_reducible repeat (first | refine blk_drewN ?_ _ | refine blk_drew ?_ | refine blk_alloc ?_ _)); exact BK941.out⟩, ⟨by repeat (first | (with_reducible first | exact HB.out | apply below_alloc | apply pw_below_drewN | apply below_drew1 | refine below_set ?_ GE941.out) | exact HB.out)⟩⟩
          ·rw [if_neg c16] at H
           have c16b0 : (t946 == 1) = false := beq_eq_false_iff_ne.mpr c16
           have c16b1 : (t946 != 1) = true := bne_iff_ne.mpr c16
           have H' := Aside0.mk H
           clear H
           go_wp2_with (first | ((with_reducible refine gate_callee (f := 105) rfl ?_); refine goesL_ (some 41) rfl rfl Try.func105 (by kernel_rfl) rfl #[.int .i64 a1, .int .i64 x6_2] rfl (by (try simp only [List.map_toArray, List.map_cons, List.map_nil]); first | done | rfl | (simp only [List.length_drop, List.length_take]; rfl)) ?_; (with_reducible refine (spec_bit.calls k3 a1 x6_2 t946 _ A15.out).mono ?_); rintro e w' ⟨rfl, ⟨nd, rfl⟩⟩; refine ⟨_, rfl, ?_⟩))
           go_roundg k3
           case measure => have := HJ2.out; have := HK2.out; have := HK3.out; omega
           case rel => exact ⟨(wrap64 (x7_3 + 1)), (by first | rfl | (simp; done) | (simp [*]; done)), H', ⟨by have := HJ2.out; have := HK2.out; have := HK3.out; omega⟩, ⟨by (with_reducible repeat (first | refine blk_drewN ?_ _ | refine blk_drew ?_ | refine blk_alloc ?_ _)); exact BK941.out⟩, ⟨by repeat (first | (with_reducible first | exact HB.out | apply below_alloc | apply pw_below_drewN | apply below_drew1 | refine below_set ?_ GE941.out) | exact HB.out)⟩⟩
         ·rw [if_neg c14] at H
          have c14b0 : decide (x7_3 < (l0_0.length : Int)) = false := decide_eq_false c14
          clear c14
          have H' := Aside0.mk H
          clear H
          go_wp2
          go_roundg k3
          case measure => have := HJ2.out; have := HK2.out; have := HK3.out; omega
          case rel => exact ⟨(wrap64 (x6_2 + 1)), (by first | rfl | (simp; done) | (simp [*]; done)), H', ⟨by have := HJ2.out; have := HK2.out; have := HK3.out; omega⟩, ⟨by (with_reducible repeat (first | refine blk_drewN ?_ _ | refine blk_drew ?_ | refine blk_alloc ?_ _)); exact BK941.out⟩, ⟨by repeat (first | (with_reducible first | exact HB.out | apply below_alloc | apply pw_below_drewN | apply below_drew1 | refine below_set ?_ GE941.out) | exact HB.out)⟩⟩
      ·rw [if_neg c13] at H
       have c13b0 : decide (x6_2 < (l0_0.length : Int)) = false := decide_eq_false c13
       clear c13
       obtain rfl := Option.some.inj H
       go_wp2
       go_ret
       exact ⟨by first | rfl | (simp [errW_none, errW_some] <;> rfl) | (simp [*, errW_none, errW_some] <;> rfl), by repeat (first | (with_reducible first | exact HB.out | apply below_alloc | apply pw_below_drewN | apply below_drew1 | refine below_set ?_ GE941.out) | exact HB.out)⟩

end Go.Proofs.Ytkndndgladdmcaa.P

-- shrunk
