-- Printed by this session's wip/print2.py (the kit's print.py, widened) out of the translation. Lean checks it.
import Derived.Test.YtkndndgladdmcaaP0
import Derived.Test.YtkndndgladdmcaaP12
import Derived.Test.YtkndndgladdmcaaP14
import Derived.Test.YtkndndgladdmcaaP25
import Derived.Test.YtkndndgladdmcaaP60
namespace Go.Proofs.Ytkndndgladdmcaa.P
open Go.RowKit Go.Proofs.YtkndndgladdmcaaW.PrintWords Go.Proofs.YtkndndgladdmcaaW.PrintLast Go.Proofs.YtkndndgladdmcaaW.PrintMore
attribute [local go_sem] max2_int min2_int max_two min_two max_three min_three max_four min_four   -- for this text's walks alone
set_option linter.unusedVariables false
set_option linter.unusedSimpArgs false

/-! ### impl_isPart: function 94 -/
mutual
def impl_isPart.j0 : Nat → Int → Bool → List Int → List (List Int) → Option (Bool)
 | 0, _, _, _, _ => none
 | k + 1, x1, x18, x968000, x968001 => if x18 = true then (some false) else (impl_isPart.l0 k x1 (x968000.length : Int) 0 x968000 x968001)
def impl_isPart.l0 : Nat → Int → Int → Int → List Int → List (List Int) → Option (Bool)
 | 0, _, _, _, _, _ => none
 | k + 1, x1, x21, x22, x968000, x968001 => if x22 < x21 then (impl_isPart.l1 k x1 x22 x21 x22 (x968000.length : Int) 0 x968000 x968001) else (some true)
def impl_isPart.l1 : Nat → Int → Int → Int → Int → Int → Int → List Int → List (List Int) → Option (Bool)
 | 0, _, _, _, _, _, _, _, _ => none
 | k + 1, x1, x5, x21, x22, x27, x28, x968000, x968001 => if x28 < x27 then ((impl_has.f x1 x5).bind fun t970 => (if t970 = true then ((impl_has.f x1 x28).bind fun t971 => (impl_isPart.j3 k x1 x5 x28 x21 x22 x27 x28 (!t971) x968000 x968001)) else (impl_isPart.j3 k x1 x5 x28 x21 x22 x27 x28 true x968000 x968001))) else (impl_isPart.l0 k x1 x21 (wrap64 (x22 + 1)) x968000 x968001)
def impl_isPart.j3 : Nat → Int → Int → Int → Int → Int → Int → Int → Bool → List Int → List (List Int) → Option (Bool)
 | 0, _, _, _, _, _, _, _, _, _, _ => none
 | k + 1, x1, x5, x6, x21, x22, x27, x28, x40, x968000, x968001 => if x40 = true then (impl_isPart.l1 k x1 x5 x21 x22 x27 (wrap64 (x28 + 1)) x968000 x968001) else (if 0 ≤ x5 then (if x5 < (x968001.length : Int) then (if 0 ≤ x6 then (if x6 < ((rd_L1 x968001 x5).length : Int) then ((impl_has.f x1 (rd (rd_L1 x968001 x5) x6)).bind fun t974 => (if t974 = true then ((impl_imply.f k x968000 x968001 x5 x6).bind fun t975 => ((impl_has.f x1 t975).bind fun t976 => (if t976 = true then ((impl_meet.f k x968000 x5 x6).bind fun t977 => ((impl_has.f x1 t977).bind fun t978 => (if t978 = true then ((impl_join.f k x968000 x5 x6).bind fun t979 => ((impl_has.f x1 t979).bind fun t980 => (if t980 = true then (impl_isPart.l1 k x1 x5 x21 x22 x27 (wrap64 (x28 + 1)) x968000 x968001) else (some false)))) else (some false)))) else (some false)))) else (some false))) else (none)) else (none)) else (none)) else (none))
end
def impl_isPart.f (k : Nat) (l0_0 : List Int) (l0_1 : List (List Int)) (a1 : Int) : Option (Bool) := (impl_has.f a1 0).bind fun t968 => (if t968 = true then ((impl_has.f a1 (wrap64 ((l0_0.length : Int) - 1))).bind fun t969 => (impl_isPart.j0 k a1 (!t969) l0_0 l0_1)) else (impl_isPart.j0 k a1 true l0_0 l0_1))
set_option maxHeartbeats 8000000 in
set_option maxRecDepth 100000 in
theorem impl_isPart.calls (k : Nat) (A0_0 : Option Addr) (c0_0 : Nat) (l0_0 : List Int) (A0_1 : Option Addr) (c0_1 : Nat) (l0_1 : List (List Int)) (a1 : Int) (r : Bool) (w : World) (hr0_0 : Kd.C (Kd.int .i64) w A0_0 l0_0.length l0_0) (hc0_0 : l0_0.length ≤ c0_0) (hr0_1 : Kd.C (Kd.slice 3 (Kd.int .i64)) w A0_1 l0_1.length l0_1) (hc0_1 : l0_1.length ≤ c0_1) (h : impl_isPart.f k l0_0 l0_1 a1 = some r) :
  Calls Try.prog 94 #[.agg #[.slice A0_0 l0_0.length c0_0, .slice A0_1 l0_1.length c0_1], .int .i64 a1] w fun e w' => e = .returned (.bool r) ∧ Below w.heap.size w w' := by
 have hu28 := Try.underlying28
 have HR0_0 := Aside0.mk hr0_0
 have HC0_0 := Aside0.mk hc0_0
 clear hr0_0 hc0_0
 have HR0_1 := Aside0.mk hr0_1
 have HC0_1 := Aside0.mk hc0_1
 clear hr0_1 hc0_1
 have HB := Aside0.mk (Below.refl w.heap.size w)
 have H : ((impl_has.f a1 0).bind fun t968 => (if t968 = true then ((impl_has.f a1 (wrap64 ((l0_0.length : Int) - 1))).bind fun t969 => (impl_isPart.j0 k a1 (!t969) l0_0 l0_1)) else (impl_isPart.j0 k a1 true l0_0 l0_1))) = some r := h
 clear h
 have HC3 := Aside0.mk H
 clear H
 go_enter Try.func94, Try.ntmps94
 go_upto_region 1 with (first | ((with_reducible refine gate_dst (N := 2) rfl ?_); (try (refine gate_guard (by rfl) ?_; dsimp only)); refine box_event ?hg (N := 2) ?hd (cs := #[.slice A0_0 l0_0.length c0_0, .slice A0_1 l0_1.length c0_1]) (t := 28) ?hr ?_; (case hd => rfl); (case hg => rfl); (case hr => first | (go_simp; done) | (go_simp; rfl)); intro gb967 hg w4 hbox hb; have n0_ := Aside0.mk (below_step (by repeat (first | (with_reducible first | exact HB.out | apply below_alloc | apply pw_below_drewN | apply below_drew1) | exact HB.out)) hb); have n1_ := Aside0.mk (hbox); have n2_ := Aside0.mk ((by rw [hg]; exact (below_size (by repeat (first | (with_reducible first | exact HB.out | apply below_alloc | apply pw_below_drewN | apply below_drew1) | exact HB.out))) : w.heap.size ≤ gb967)); have n3_ := Aside0.mk ((by rw [hg]; exact (below_size (by repeat (first | (with_reducible first | exact HB.out | apply below_alloc | apply pw_below_drewN | apply below_drew1) | exact HB.out))) : w.heap.size ≤ gb967)); clear HB; have HB := n0_; have BK967 := n1_; have GW967 := n2_; have GE967 := n3_; clear n0_ n1_ n2_ n3_; clear hb hbox hg))
 (try simp only [Act.put, List.setIfInBounds_toArray, List.set_cons_zero, List.set_cons_succ])
 go_cut [18] (fun v18 wc => ∃ (kq : Nat) (x18_2 : Bool), v18 = .bool x18_2 ∧ Aside0 (impl_isPart.j0 kq a1 x18_2 l0_0 l0_1 = some r) ∧ Aside0 (kq ≤ k) ∧ Aside0 (wc.heap[gb967]? = some (.cells #[(.slice A0_0 l0_0.length c0_0), (.slice A0_1 l0_1.length c0_1)] 28 (0, 0))) ∧ Aside0 (Below w.heap.size w wc))
 case first =>
  have H := HC3.out
  clear HC3
  replace H := Option.bind_eq_some_iff.mp H
  obtain ⟨t968, A50, H⟩ := H
  replace H : (if t968 = true then ((impl_has.f a1 (wrap64 ((l0_0.length : Int) - 1))).bind fun t969 => (impl_isPart.j0 k a1 (!t969) l0_0 l0_1)) else (impl_isPart.j0 k a1 true l0_0 l0_1)) = some r := H
  have A5 := Aside0.mk A50
  clear A50
  by_cases c6 : t968 = true
  ·subst c6
   have H1 : ((impl_has.f a1 (wrap64 ((l0_0.length : Int) - 1))).bind fun t969 => (impl_isPart.j0 k a1 (!t969) l0_0 l0_1)) = some r := by rw [if_pos rfl] at H; exact H
   clear H
   have H := H1
   clear H1
   replace H := Option.bind_eq_some_iff.mp H
   obtain ⟨t969, A70, H⟩ := H
   replace H : (impl_isPart.j0 k a1 (!t969) l0_0 l0_1) = some r := H
   have A7 := Aside0.mk A70
   clear A70
   have H' := Aside0.mk H
   clear H
   go_wp2_with (first | ((with_reducible refine gate_callee (f := 106) rfl ?_); refine goesL_ (some 8) rfl rfl Try.func106 (by kernel_rfl) rfl #[.int .i64 a1, .int .i64 0] rfl (by (try simp only [List.map_toArray, List.map_cons, List.map_nil]); first | done | rfl | (simp only [List.length_drop, List.length_take]; rfl)) ?_; (with_reducible refine (impl_has.calls a1 0 true _ A5.out).mono ?_); rintro e w' ⟨rfl, ⟨nd, rfl⟩⟩; refine ⟨_, rfl, ?_⟩; have hcz8_0 : w4.cell? ⟨gb967, 0, none⟩ = some (.slice A0_0 l0_0.length c0_0) := (blk_cell BK967.out 0).trans rfl; have hcz8_1 : w4.cell? ⟨gb967, 1, none⟩ = some (.slice A0_1 l0_1.length c0_1) := (blk_cell BK967.out 1).trans rfl; have hfz8_0 := blk_frozen BK967.out 0; have hfz8_1 := blk_frozen BK967.out 1) | (go_at_call 106; (with_reducible refine (impl_has.calls a1 (wrap64 ((l0_0.length : Int) - 1)) t969 _ A7.out).mono ?_); rintro e w' ⟨rfl, ⟨nd, rfl⟩⟩))
   go_meet
   case rel => exact ⟨_, (!t969), (by first | rfl | (simp; done) | (simp [*]; done)), H', ⟨by first | omega | exact Nat.le_refl _⟩, ⟨by (with_reducible repeat (first | refine blk_drewN ?_ _ | refine blk_drew ?_ | refine blk_alloc ?_ _)); exact BK967.out⟩, ⟨by repeat (first | (with_reducible first | exact HB.out | apply below_alloc | apply pw_below_drewN | apply below_drew1 | refine below_set ?_ GE967.out) | exact HB.out)⟩⟩
  ·replace c6 := Bool.eq_false_iff.mpr c6
   subst c6
   have H1 : (impl_isPart.j0 k a1 true l0_0 l0_1) = some r := by rw [if_neg (show ¬ (false = true) by decide)] at H; exact H
   clear H
   have H := H1
   clear H1
   have H' := Aside0.mk H
   clear H
   go_wp2_with (first | ((with_reducible refine gate_callee (f := 106) rfl ?_); refine goesL_ (some 8) rfl rfl Try.func106 (by kernel_rfl) rfl #[.int .i64 a1, .int .i64 0] rfl (by (try simp only [List.map_toArray, List.map_cons, List.map_nil]); first | done | rfl | (simp only [List.length_drop, List.length_take]; rfl)) ?_; (with_reducible refine (impl_has.calls a1 0 false _ A5.out).mono ?_); rintro e w' ⟨rfl, ⟨nd, rfl⟩⟩; refine ⟨_, rfl, ?_⟩))
   go_meet
   case rel => exact ⟨_, (true), (by first | rfl | (simp; done) | (simp [*]; done)), H', ⟨by first | omega | exact Nat.le_refl _⟩, ⟨by (with_reducible repeat (first | refine blk_drewN ?_ _ | refine blk_drew ?_ | refine blk_alloc ?_ _)); exact BK967.out⟩, ⟨by repeat (first | (with_reducible first | exact HB.out | apply below_alloc | apply pw_below_drewN | apply below_drew1 | refine below_set ?_ GE967.out) | exact HB.out)⟩⟩
 case rest =>
  clear HC3
  try clear c1
  try clear p2
  try clear c6
  try clear p6
  try clear hcz8_0
  try clear hcz8_1
  try clear hfz8_0
  try clear hfz8_1
  obtain ⟨kq, x18_2, rfl, HA, HJ2, BK967, HB⟩ := hcut
  cases kq with
  | zero => exact absurd HA.out (by simp [impl_isPart.j0])
  | succ kj2 =>
   have H := HA.out
   clear HA
   simp only [impl_isPart.j0] at H
   by_cases c9 : x18_2 = true
   ·subst c9
    have H1 : (some false) = some r := by rw [if_pos rfl] at H; exact H
    clear H
    have H := H1
    clear H1
    obtain rfl := Option.some.inj H
    go_wp2
    go_ret
    exact ⟨by first | rfl | (simp [errW_none, errW_some] <;> rfl) | (simp [*, errW_none, errW_some] <;> rfl), by repeat (first | (with_reducible first | exact HB.out | apply below_alloc | apply pw_below_drewN | apply below_drew1 | refine below_set ?_ GE967.out) | exact HB.out)⟩
   ·replace c9 := Bool.eq_false_iff.mpr c9
    subst c9
    have H1 : (impl_isPart.l0 kj2 a1 (l0_0.length : Int) 0 l0_0 l0_1) = some r := by rw [if_neg (show ¬ (false = true) by decide)] at H; exact H
    clear H
    have H := H1
    clear H1
    have H' := Aside0.mk H
    clear H
    have hcz10_0 : wc.cell? ⟨gb967, 0, none⟩ = some (.slice A0_0 l0_0.length c0_0) := (blk_cell BK967.out 0).trans rfl
    have hcz10_1 : wc.cell? ⟨gb967, 1, none⟩ = some (.slice A0_1 l0_1.length c0_1) := (blk_cell BK967.out 1).trans rfl
    have hfz10_0 := blk_frozen BK967.out 0
    have hfz10_1 := blk_frozen BK967.out 1
    go_wp2
    go_loopg [22] kj2 (fun kq v22 w' => ∃ (x22_2 : Int), v22 = .int .i64 x22_2 ∧ Aside0 (impl_isPart.l0 kq a1 (l0_0.length : Int) x22_2 l0_0 l0_1 = some r) ∧ Aside0 (kq ≤ kj2) ∧ Aside0 (w'.heap[gb967]? = some (.cells #[(.slice A0_0 l0_0.length c0_0), (.slice A0_1 l0_1.length c0_1)] 28 (0, 0))) ∧ Aside0 (Below w.heap.size w w'))
    case atStart => exact ⟨(0), (by first | rfl | (simp; done) | (simp [*]; done)), H', ⟨Nat.le_refl _⟩, ⟨by (with_reducible repeat (first | refine blk_drewN ?_ _ | refine blk_drew ?_ | refine blk_alloc ?_ _)); exact BK967.out⟩, ⟨by repeat (first | (with_reducible first | exact HB.out | apply below_alloc | apply pw_below_drewN | apply below_drew1 | refine below_set ?_ GE967.out) | exact HB.out)⟩⟩
    case round =>
     clear H'
     try clear c1
     try clear p2
     try clear c6
     try clear p6
     try clear c9
     try clear c10
     try clear hcz10_0
     try clear hcz10_1
     try clear hcz8_0
     try clear hcz8_1
     try clear hfz10_0
     try clear hfz10_1
     try clear hfz8_0
     try clear hfz8_1
     try clear p2
     try clear p6
     obtain ⟨x22_2, rfl, HA, HK2, BK967, HB⟩ := hrel
     cases gk with
     | zero => exact absurd HA.out (by simp [impl_isPart.l0])
     | succ k2 =>
      have H := HA.out
      clear HA
      simp only [impl_isPart.l0] at H
      by_cases c11 : x22_2 < (l0_0.length : Int)
      ·rw [if_pos c11] at H
       have c11b0 : decide (x22_2 < (l0_0.length : Int)) = true := decide_eq_true c11
       clear c11
       have H' := Aside0.mk H
       clear H
       have hcz12_0 : wr.cell? ⟨gb967, 0, none⟩ = some (.slice A0_0 l0_0.length c0_0) := (blk_cell BK967.out 0).trans rfl
       have hcz12_1 : wr.cell? ⟨gb967, 1, none⟩ = some (.slice A0_1 l0_1.length c0_1) := (blk_cell BK967.out 1).trans rfl
       have hfz12_0 := blk_frozen BK967.out 0
       have hfz12_1 := blk_frozen BK967.out 1
       go_wp2
       go_loopg [28] k2 (fun kq v28 w' => ∃ (x28_3 : Int), v28 = .int .i64 x28_3 ∧ Aside0 (impl_isPart.l1 kq a1 x22_2 (l0_0.length : Int) x22_2 (l0_0.length : Int) x28_3 l0_0 l0_1 = some r) ∧ Aside0 (kq ≤ k2) ∧ Aside0 (w'.heap[gb967]? = some (.cells #[(.slice A0_0 l0_0.length c0_0), (.slice A0_1 l0_1.length c0_1)] 28 (0, 0))) ∧ Aside0 (Below w.heap.size w w'))
       case atStart => exact ⟨(0), (by first | rfl | (simp; done) | (simp [*]; done)), H', ⟨Nat.le_refl _⟩, ⟨by (with_reducible repeat (first | refine blk_drewN ?_ _ | refine blk_drew ?_ | refine blk_alloc ?_ _)); exact BK967.out⟩, ⟨by repeat (first | (with_reducible first | exact HB.out | apply below_alloc | apply pw_below_drewN | apply below_drew1 | refine below_set ?_ GE967.out) | exact HB.out)⟩⟩
       case round =>
        clear H'
        try clear c1
        try clear p2
        try clear c6
        try clear p6
        try clear c9
        try clear c10
        try clear c11
        try clear c11b0
        try clear hcz10_0
        try clear hcz10_1
        try clear hcz12_0
        try clear hcz12_1
        try clear hcz8_0
        try clear hcz8_1
        try clear hfz10_0
        try clear hfz10_1
        try clear hfz12_0
        try clear hfz12_1
        try clear hfz8_0
        try clear hfz8_1
        try clear p2
        try clear p6
        obtain ⟨x28_3, rfl, HA, HK3, BK967, HB⟩ := hrel
        cases gk with
        | zero => exact absurd HA.out (by simp [impl_isPart.l1])
        | succ k3 =>
         have H := HA.out
         clear HA
         simp only [impl_isPart.l1] at H
         by_cases c13 : x28_3 < (l0_0.length : Int)
         ·rw [if_pos c13] at H
          have c13b0 : decide (x28_3 < (l0_0.length : Int)) = true := decide_eq_true c13
          clear c13
          have HC14 := Aside0.mk H
          clear H
          go_upto_region 9 with (fail)
          go_cut [40] (fun v40 wc => ∃ (kq : Nat) (x40_13 : Bool), v40 = .bool x40_13 ∧ Aside0 (impl_isPart.j3 kq a1 x22_2 x28_3 (l0_0.length : Int) x22_2 (l0_0.length : Int) x28_3 x40_13 l0_0 l0_1 = some r) ∧ Aside0 (kq ≤ k3) ∧ Aside0 (wc.heap[gb967]? = some (.cells #[(.slice A0_0 l0_0.length c0_0), (.slice A0_1 l0_1.length c0_1)] 28 (0, 0))) ∧ Aside0 (Below w.heap.size w wc))
          case first =>
           have H := HC14.out
           clear HC14
           replace H := Option.bind_eq_some_iff.mp H
           obtain ⟨t970, A150, H⟩ := H
           replace H : (if t970 = true then ((impl_has.f a1 x28_3).bind fun t971 => (impl_isPart.j3 k3 a1 x22_2 x28_3 (l0_0.length : Int) x22_2 (l0_0.length : Int) x28_3 (!t971) l0_0 l0_1)) else (impl_isPart.j3 k3 a1 x22_2 x28_3 (l0_0.length : Int) x22_2 (l0_0.length : Int) x28_3 true l0_0 l0_1)) = some r := H
           have A15 := Aside0.mk A150
           clear A150
           by_cases c16 : t970 = true
           ·subst c16
            have H1 : ((impl_has.f a1 x28_3).bind fun t971 => (impl_isPart.j3 k3 a1 x22_2 x28_3 (l0_0.length : Int) x22_2 (l0_0.length : Int) x28_3 (!t971) l0_0 l0_1)) = some r := by rw [if_pos rfl] at H; exact H
            clear H
            have H := H1
            clear H1
            replace H := Option.bind_eq_some_iff.mp H
            obtain ⟨t971, A170, H⟩ := H
            replace H : (impl_isPart.j3 k3 a1 x22_2 x28_3 (l0_0.length : Int) x22_2 (l0_0.length : Int) x28_3 (!t971) l0_0 l0_1) = some r := H
            have A17 := Aside0.mk A170
            clear A170
            have H' := Aside0.mk H
            clear H
            go_wp2_with (first | ((with_reducible refine gate_callee (f := 106) rfl ?_); refine goesL_ (some 33) rfl rfl Try.func106 (by kernel_rfl) rfl #[.int .i64 a1, .int .i64 x22_2] rfl (by (try simp only [List.map_toArray, List.map_cons, List.map_nil]); first | done | rfl | (simp only [List.length_drop, List.length_take]; rfl)) ?_; (with_reducible refine (impl_has.calls a1 x22_2 true _ A15.out).mono ?_); rintro e w' ⟨rfl, ⟨nd, rfl⟩⟩; refine ⟨_, rfl, ?_⟩) | (go_at_call 106; (with_reducible refine (impl_has.calls a1 x28_3 t971 _ A17.out).mono ?_); rintro e w' ⟨rfl, ⟨nd, rfl⟩⟩))
            go_meet
            case rel => exact ⟨_, (!t971), (by first | rfl | (simp; done) | (simp [*]; done)), H', ⟨by have := HJ2.out; have := HK2.out; have := HK3.out; first | omega | exact Nat.le_refl _⟩, ⟨by (with_reducible repeat (first | refine blk_drewN ?_ _ | refine blk_drew ?_ | refine blk_alloc ?_ _)); exact BK967.out⟩, ⟨by repeat (first | (with_reducible first | exact HB.out | apply below_alloc | apply pw_below_drewN | apply below_drew1 | refine below_set ?_ GE967.out) | exact HB.out)⟩⟩
           ·replace c16 := Bool.eq_false_iff.mpr c16
            subst c16
            have H1 : (impl_isPart.j3 k3 a1 x22_2 x28_3 (l0_0.length : Int) x22_2 (l0_0.length : Int) x28_3 true l0_0 l0_1) = some r := by rw [if_neg (show ¬ (false = true) by decide)] at H; exact H
            clear H
            have H := H1
            clear H1
            have H' := Aside0.mk H
            clear H
            go_wp2_with (first | ((with_reducible refine gate_callee (f := 106) rfl ?_); refine goesL_ (some 33) rfl rfl Try.func106 (by kernel_rfl) rfl #[.int .i64 a1, .int .i64 x22_2] rfl (by (try simp only [List.map_toArray, List.map_cons, List.map_nil]); first | done | rfl | (simp only [List.length_drop, List.length_take]; rfl)) ?_; (with_reducible refine (impl_has.calls a1 x22_2 false _ A15.out).mono ?_); rintro e w' ⟨rfl, ⟨nd, rfl⟩⟩; refine ⟨_, rfl, ?_⟩))
            go_meet
            case rel => exact ⟨_, (true), (by first | rfl | (simp; done) | (simp [*]; done)), H', ⟨by have := HJ2.out; have := HK2.out; have := HK3.out; first | omega | exact Nat.le_refl _⟩, ⟨by (with_reducible repeat (first | refine blk_drewN ?_ _ | refine blk_drew ?_ | refine blk_alloc ?_ _)); exact BK967.out⟩, ⟨by repeat (first | (with_reducible first | exact HB.out | apply below_alloc | apply pw_below_drewN | apply below_drew1 | refine below_set ?_ GE967.out) | exact HB.out)⟩⟩
          case rest =>
           clear HC14
           try clear c1
           try clear p2
           try clear c6
           try clear p6
           try clear c9
           try clear c10
           try clear c11
           try clear c11b0
           try clear c13
           try clear c13b0
           try clear c16
           try clear hcz10_0
           try clear hcz10_1
           try clear hcz12_0
           try clear hcz12_1
           try clear hcz8_0
           try clear hcz8_1
           try clear hfz10_0
           try clear hfz10_1
           try clear hfz12_0
           try clear hfz12_1
           try clear hfz8_0
           try clear hfz8_1
           try clear p2
           try clear p6
           obtain ⟨kq, x40_13, rfl, HA, HJ13, BK967, HB⟩ := hcut
           cases kq with
           | zero => exact absurd HA.out (by simp [impl_isPart.j3])
           | succ kj13 =>
            have H := HA.out
            clear HA
            simp only [impl_isPart.j3] at H
            by_cases c18 : x40_13 = true
            ·subst c18
             have H1 : (impl_isPart.l1 kj13 a1 x22_2 (l0_0.length : Int) x22_2 (l0_0.length : Int) (wrap64 (x28_3 + 1)) l0_0 l0_1) = some r := by rw [if_pos rfl] at H; exact H
             clear H
             have H := H1
             clear H1
             have H' := Aside0.mk H
             clear H
             go_wp2
             go_roundg kj13
             case measure => have := HJ2.out; have := HK2.out; have := HK3.out; have := HJ13.out; omega
             case rel => exact ⟨(wrap64 (x28_3 + 1)), (by first | rfl | (simp; done) | (simp [*]; done)), H', ⟨by have := HJ2.out; have := HK2.out; have := HK3.out; have := HJ13.out; omega⟩, ⟨by (with_reducible repeat (first | refine blk_drewN ?_ _ | refine blk_drew ?_ | refine blk_alloc ?_ _)); exact BK967.out⟩, ⟨by repeat (first | (with_reducible first | exact HB.out | apply below_alloc | apply pw_below_drewN | apply below_drew1 | refine below_set ?_ GE967.out) | exact HB.out)⟩⟩
            ·replace c18 := Bool.eq_false_iff.mpr c18
             subst c18
             have H1 : (if 0 ≤ x22_2 then (if x22_2 < (l0_1.length : Int) then (if 0 ≤ x28_3 then (if x28_3 < ((rd_L1 l0_1 x22_2).length : Int) then ((impl_has.f a1 (rd (rd_L1 l0_1 x22_2) x28_3)).bind fun t974 => (if t974 = true then ((impl_imply.f kj13 l0_0 l0_1 x22_2 x28_3).bind fun t975 => ((impl_has.f a1 t975).bind fun t976 => (if t976 = true then ((impl_meet.f kj13 l0_0 x22_2 x28_3).bind fun t977 => ((impl_has.f a1 t977).bind fun t978 => (if t978 = true then ((impl_join.f kj13 l0_0 x22_2 x28_3).bind fun t979 => ((impl_has.f a1 t979).bind fun t980 => (if t980 = true then (impl_isPart.l1 kj13 a1 x22_2 (l0_0.length : Int) x22_2 (l0_0.length : Int) (wrap64 (x28_3 + 1)) l0_0 l0_1) else (some false)))) else (some false)))) else (some false)))) else (some false))) else (none)) else (none)) else (none)) else (none)) = some r := by rw [if_neg (show ¬ (false = true) by decide)] at H; exact H
             clear H
             have H := H1
             clear H1
             by_cases c19 : 0 ≤ x22_2
             ·rw [if_pos c19] at H
              have c19b0 : decide (0 ≤ x22_2) = true := decide_eq_true c19
              clear c19
              by_cases c20 : x22_2 < (l0_1.length : Int)
              ·rw [if_pos c20] at H
               have c20b0 : decide (x22_2 < (l0_1.length : Int)) = true := decide_eq_true c20
               clear c20
               by_cases c21 : 0 ≤ x28_3
               ·rw [if_pos c21] at H
                have c21b0 : decide (0 ≤ x28_3) = true := decide_eq_true c21
                clear c21
                by_cases c22 : x28_3 < ((rd_L1 l0_1 x22_2).length : Int)
                ·rw [if_pos c22] at H
                 have c22b0 : decide (x28_3 < ((rd_L1 l0_1 x22_2).length : Int)) = true := decide_eq_true c22
                 clear c22
                 replace H := Option.bind_eq_some_iff.mp H
                 obtain ⟨t974, A230, H⟩ := H
                 replace H : (if t974 = true then ((impl_imply.f kj13 l0_0 l0_1 x22_2 x28_3).bind fun t975 => ((impl_has.f a1 t975).bind fun t976 => (if t976 = true then ((impl_meet.f kj13 l0_0 x22_2 x28_3).bind fun t977 => ((impl_has.f a1 t977).bind fun t978 => (if t978 = true then ((impl_join.f kj13 l0_0 x22_2 x28_3).bind fun t979 => ((impl_has.f a1 t979).bind fun t980 => (if t980 = true then (impl_isPart.l1 kj13 a1 x22_2 (l0_0.length : Int) x22_2 (l0_0.length : Int) (wrap64 (x28_3 + 1)) l0_0 l0_1) else (some false)))) else (some false)))) else (some false)))) else (some false)) = some r := H
                 have A23 := Aside0.mk A230
                 clear A230
                 by_cases c24 : t974 = true
                 ·subst c24
                  have H1 : ((impl_imply.f kj13 l0_0 l0_1 x22_2 x28_3).bind fun t975 => ((impl_has.f a1 t975).bind fun t976 => (if t976 = true then ((impl_meet.f kj13 l0_0 x22_2 x28_3).bind fun t977 => ((impl_has.f a1 t977).bind fun t978 => (if t978 = true then ((impl_join.f kj13 l0_0 x22_2 x28_3).bind fun t979 => ((impl_has.f a1 t979).bind fun t980 => (if t980 = true then (impl_isPart.l1 kj13 a1 x22_2 (l0_0.length : Int) x22_2 (l0_0.length : Int) (wrap64 (x28_3 + 1)) l0_0 l0_1) else (some false)))) else (some false)))) else (some false)))) = some r := by rw [if_pos rfl] at H; exact H
                  clear H
                  have H := H1
                  clear H1
                  replace H := Option.bind_eq_some_iff.mp H
                  obtain ⟨t975, A250, H⟩ := H
                  replace H : ((impl_has.f a1 t975).bind fun t976 => (if t976 = true then ((impl_meet.f kj13 l0_0 x22_2 x28_3).bind fun t977 => ((impl_has.f a1 t977).bind fun t978 => (if t978 = true then ((impl_join.f kj13 l0_0 x22_2 x28_3).bind fun t979 => ((impl_has.f a1 t979).bind fun t980 => (if t980 = true then (impl_isPart.l1 kj13 a1 x22_2 (l0_0.length : Int) x22_2 (l0_0.length : Int) (wrap64 (x28_3 + 1)) l0_0 l0_1) else (some false)))) else (some false)))) else (some false))) = some r := H
                  have A25 := Aside0.mk A250
                  clear A250
                  replace H := Option.bind_eq_some_iff.mp H
                  obtain ⟨t976, A260, H⟩ := H
                  replace H : (if t976 = true then ((impl_meet.f kj13 l0_0 x22_2 x28_3).bind fun t977 => ((impl_has.f a1 t977).bind fun t978 => (if t978 = true then ((impl_join.f kj13 l0_0 x22_2 x28_3).bind fun t979 => ((impl_has.f a1 t979).bind fun t980 => (if t980 = true then (impl_isPart.l1 kj13 a1 x22_2 (l0_0.length : Int) x22_2 (l0_0.length : Int) (wrap64 (x28_3 + 1)) l0_0 l0_1) else (some false)))) else (some false)))) else (some false)) = some r := H
                  have A26 := Aside0.mk A260
                  clear A260
                  by_cases c27 : t976 = true
                  ·subst c27
                   have H1 : ((impl_meet.f kj13 l0_0 x22_2 x28_3).bind fun t977 => ((impl_has.f a1 t977).bind fun t978 => (if t978 = true then ((impl_join.f kj13 l0_0 x22_2 x28_3).bind fun t979 => ((impl_has.f a1 t979).bind fun t980 => (if t980 = true then (impl_isPart.l1 kj13 a1 x22_2 (l0_0.length : Int) x22_2 (l0_0.length : Int) (wrap64 (x28_3 + 1)) l0_0 l0_1) else (some false)))) else (some false)))) = some r := by rw [if_pos rfl] at H; exact H
                   clear H
                   have H := H1
                   clear H1
                   replace H := Option.bind_eq_some_iff.mp H
                   obtain ⟨t977, A280, H⟩ := H
                   replace H : ((impl_has.f a1 t977).bind fun t978 => (if t978 = true then ((impl_join.f kj13 l0_0 x22_2 x28_3).bind fun t979 => ((impl_has.f a1 t979).bind fun t980 => (if t980 = true then (impl_isPart.l1 kj13 a1 x22_2 (l0_0.length : Int) x22_2 (l0_0.length : Int) (wrap64 (x28_3 + 1)) l0_0 l0_1) else (some false)))) else (some false))) = some r := H
                   have A28 := Aside0.mk A280
                   clear A280
                   replace H := Option.bind_eq_some_iff.mp H
                   obtain ⟨t978, A290, H⟩ := H
                   replace H : (if t978 = true then ((impl_join.f kj13 l0_0 x22_2 x28_3).bind fun t979 => ((impl_has.f a1 t979).bind fun t980 => (if t980 = true then (impl_isPart.l1 kj13 a1 x22_2 (l0_0.length : Int) x22_2 (l0_0.length : Int) (wrap64 (x28_3 + 1)) l0_0 l0_1) else (some false)))) else (some false)) = some r := H
                   have A29 := Aside0.mk A290
                   clear A290
                   by_cases c30 : t978 = true
                   ·subst c30
                    have H1 : ((impl_join.f kj13 l0_0 x22_2 x28_3).bind fun t979 => ((impl_has.f a1 t979).bind fun t980 => (if t980 = true then (impl_isPart.l1 kj13 a1 x22_2 (l0_0.length : Int) x22_2 (l0_0.length : Int) (wrap64 (x28_3 + 1)) l0_0 l0_1) else (some false)))) = some r := by rw [if_pos rfl] at H; exact H
                    clear H
                    have H := H1
                    clear H1
                    replace H := Option.bind_eq_some_iff.mp H
                    obtain ⟨t979, A310, H⟩ := H
                    replace H : ((impl_has.f a1 t979).bind fun t980 => (if t980 = true then (impl_isPart.l1 kj13 a1 x22_2 (l0_0.length : Int) x22_2 (l0_0.length : Int) (wrap64 (x28_3 + 1)) l0_0 l0_1) else (some false))) = some r := H
                    have A31 := Aside0.mk A310
                    clear A310
                    replace H := Option.bind_eq_some_iff.mp H
                    obtain ⟨t980, A320, H⟩ := H
                    replace H : (if t980 = true then (impl_isPart.l1 kj13 a1 x22_2 (l0_0.length : Int) x22_2 (l0_0.length : Int) (wrap64 (x28_3 + 1)) l0_0 l0_1) else (some false)) = some r := H
                    have A32 := Aside0.mk A320
                    clear A320
                    by_cases c33 : t980 = true
                    ·subst c33
                     have H1 : (impl_isPart.l1 kj13 a1 x22_2 (l0_0.length : Int) x22_2 (l0_0.length : Int) (wrap64 (x28_3 + 1)) l0_0 l0_1) = some r := by rw [if_pos rfl] at H; exact H
                     clear H
                     have H := H1
                     clear H1
                     have H' := Aside0.mk H
                     clear H
                     have hcz34_0 : wc.cell? ⟨gb967, 0, none⟩ = some (.slice A0_0 l0_0.length c0_0) := (blk_cell BK967.out 0).trans rfl
                     have hcz34_1 : wc.cell? ⟨gb967, 1, none⟩ = some (.slice A0_1 l0_1.length c0_1) := (blk_cell BK967.out 1).trans rfl
                     have hfz34_0 := blk_frozen BK967.out 0
                     have hfz34_1 := blk_frozen BK967.out 1
                     have p972 : 0 ≤ (x22_2 : Int) := of_decide_eq_true (by first | (with_reducible assumption) | assumption)
                     have q972 : x22_2 < (l0_1.length : Int) := of_decide_eq_true (by first | (with_reducible assumption) | assumption)
                     obtain ⟨ad972, A972_0, c972_0, e972, hx972_0, hl972_0, hi972_0⟩ := at_L1 HR0_1.out x22_2 p972 q972
                     cases e972
                     replace hx972_0 := (HB.out.cell (World.block_lt_of_cell? w _ hx972_0)).trans hx972_0
                     have HR972_0 := Aside0.mk hi972_0
                     have HC972_0 := Aside0.mk hl972_0
                     clear hi972_0 hl972_0
                     replace p972 := eq_true p972
                     replace q972 := eq_true q972
                     have p973 : 0 ≤ (x28_3 : Int) := of_decide_eq_true (by first | (with_reducible assumption) | assumption)
                     have q973 : x28_3 < ((rd_L1 l0_1 x22_2).length : Int) := of_decide_eq_true (by first | (with_reducible assumption) | assumption)
                     obtain ⟨ad973, e973, hx973_0⟩ := Kd.at_int HR972_0.out x28_3 p973 q973
                     cases e973
                     replace hx973_0 := (HB.out.cell (World.block_lt_of_cell? w _ hx973_0)).trans hx973_0
                     replace p973 := eq_true p973
                     replace q973 := eq_true q973
                     go_wp2_with (first | ((with_reducible refine gate_callee (f := 106) rfl ?_); refine goesL_ (some 50) rfl rfl Try.func106 (by kernel_rfl) rfl #[.int .i64 a1, .int .i64 (rd (rd_L1 l0_1 x22_2) x28_3)] rfl (by (try simp only [List.map_toArray, List.map_cons, List.map_nil]); first | done | rfl | (simp only [List.length_drop, List.length_take]; rfl)) ?_; (with_reducible refine (impl_has.calls a1 (rd (rd_L1 l0_1 x22_2) x28_3) true _ A23.out).mono ?_); rintro e w' ⟨rfl, ⟨nd, rfl⟩⟩; refine ⟨_, rfl, ?_⟩) | (go_at_call 72; (with_reducible refine (impl_imply.calls kj13 _ _ l0_0 _ _ l0_1 x22_2 x28_3 t975 _ ?side1 ?side2 ?side3 ?side4 A25.out).mono ?_); (case side1 => repeat (first | exact (Kd.C_below HR0_0.out (by repeat (first | (with_reducible first | exact HB.out | apply below_alloc | apply pw_below_drewN | apply below_drew1 | refine below_set ?_ GE967.out) | exact HB.out))) | (with_reducible refine Kd.C_alloc ?_ _) | (with_reducible refine Kd.C_drewN ?_ _) | (with_reducible refine Kd.C_drew ?_))); (case side2 => exact HC0_0.out); (case side3 => repeat (first | exact (Kd.C_below HR0_1.out (by repeat (first | (with_reducible first | exact HB.out | apply below_alloc | apply pw_below_drewN | apply below_drew1 | refine below_set ?_ GE967.out) | exact HB.out))) | (with_reducible refine Kd.C_alloc ?_ _) | (with_reducible refine Kd.C_drewN ?_ _) | (with_reducible refine Kd.C_drew ?_))); (case side4 => exact HC0_1.out); rintro e w35 ⟨rfl, hb⟩; have n0_ := Aside0.mk (blk_below (g := gb967) (o := .cells #[.slice A0_0 l0_0.length c0_0, .slice (some ad972) l0_1.length c0_1] 28 (0, 0)) (by (with_reducible repeat (first | refine blk_drewN ?_ _ | refine blk_drew ?_ | refine blk_alloc ?_ _)); exact BK967.out) hb); have n1_ := Aside0.mk (below_step (by repeat (first | (with_reducible first | exact HB.out | apply below_alloc | apply pw_below_drewN | apply below_drew1 | refine below_set ?_ GE967.out) | exact HB.out)) hb); clear BK967; clear HB; have BK967 := n0_; have HB := n1_; clear n0_ n1_; (try clear hb); (try clear hb2); (try clear hk); (try clear hi)) | (go_at_call 106; (with_reducible refine (impl_has.calls a1 t975 true _ A26.out).mono ?_); rintro e w' ⟨rfl, ⟨nd, rfl⟩⟩; have hcz36_0 : w35.cell? ⟨gb967, 0, none⟩ = some (.slice A0_0 l0_0.length c0_0) := (blk_cell BK967.out 0).trans rfl; have hcz36_1 : w35.cell? ⟨gb967, 1, none⟩ = some (.slice (some ad972) l0_1.length c0_1) := (blk_cell BK967.out 1).trans rfl; have hfz36_0 := blk_frozen BK967.out 0; have hfz36_1 := blk_frozen BK967.out 1) | (go_at_call 99; (with_reducible refine (impl_meet.calls kj13 _ _ l0_0 x22_2 x28_3 t977 _ ?side1 ?side2 A28.out).mono ?_); (case side1 => repeat (first | exact (Kd.C_below HR0_0.out (by repeat (first | (with_reducible first | exact HB.out | apply below_alloc | apply pw_below_drewN | apply below_drew1 | refine below_set ?_ GE967.out) | exact HB.out))) | (with_reducible refine Kd.C_alloc ?_ _) | (with_reducible refine Kd.C_drewN ?_ _) | (with_reducible refine Kd.C_drew ?_))); (case side2 => exact HC0_0.out); rintro e w' ⟨rfl, ⟨nd, rfl⟩⟩) | (go_at_call 106; (with_reducible refine (impl_has.calls a1 t977 true _ A29.out).mono ?_); rintro e w' ⟨rfl, ⟨nd, rfl⟩⟩) | (go_at_call 67; (with_reducible refine (impl_join.calls kj13 _ _ l0_0 x22_2 x28_3 t979 _ ?side1 ?side2 A31.out).mono ?_); (case side1 => repeat (first | exact (Kd.C_below HR0_0.out (by repeat (first | (with_reducible first | exact HB.out | apply below_alloc | apply pw_below_drewN | apply below_drew1 | refine below_set ?_ GE967.out) | exact HB.out))) | (with_reducible refine Kd.C_alloc ?_ _) | (with_reducible refine Kd.C_drewN ?_ _) | (with_reducible refine Kd.C_drew ?_))); (case side2 => exact HC0_0.out); rintro e w' ⟨rfl, ⟨nd, rfl⟩⟩) | (go_at_call 106; (with_reducible refine (impl_has.calls a1 t979 true _ A32.out).mono ?_); rintro e w' ⟨rfl, ⟨nd, rfl⟩⟩))
                     go_roundg kj13
                     case measure => have := HJ2.out; have := HK2.out; have := HK3.out; have := HJ13.out; omega
                     case rel => exact ⟨(wrap64 (x28_3 + 1)), (by first | rfl | (simp; done) | (simp [*]; done)), H', ⟨by have := HJ2.out; have := HK2.out; have := HK3.out; have := HJ13.out; omega⟩, ⟨by (with_reducible repeat (first | refine blk_drewN ?_ _ | refine blk_drew ?_ | refine blk_alloc ?_ _)); exact BK967.out⟩, ⟨by repeat (first | (with_reducible first | exact HB.out | apply below_alloc | apply pw_below_drewN | apply below_drew1 | refine below_set ?_ GE967.out) | exact HB.out)⟩⟩
                    ·replace c33 := Bool.eq_false_iff.mpr c33
                     subst c33
                     have H1 : (some false) = some r := by rw [if_neg (show ¬ (false = true) by decide)] at H; exact H
                     clear H
                     have H := H1
                     clear H1
                     obtain rfl := Option.some.inj H
                     have hcz37_0 : wc.cell? ⟨gb967, 0, none⟩ = some (.slice A0_0 l0_0.length c0_0) := (blk_cell BK967.out 0).trans rfl
                     have hcz37_1 : wc.cell? ⟨gb967, 1, none⟩ = some (.slice A0_1 l0_1.length c0_1) := (blk_cell BK967.out 1).trans rfl
                     have hfz37_0 := blk_frozen BK967.out 0
                     have hfz37_1 := blk_frozen BK967.out 1
                     have p972 : 0 ≤ (x22_2 : Int) := of_decide_eq_true (by first | (with_reducible assumption) | assumption)
                     have q972 : x22_2 < (l0_1.length : Int) := of_decide_eq_true (by first | (with_reducible assumption) | assumption)
                     obtain ⟨ad972, A972_0, c972_0, e972, hx972_0, hl972_0, hi972_0⟩ := at_L1 HR0_1.out x22_2 p972 q972
                     cases e972
                     replace hx972_0 := (HB.out.cell (World.block_lt_of_cell? w _ hx972_0)).trans hx972_0
                     have HR972_0 := Aside0.mk hi972_0
                     have HC972_0 := Aside0.mk hl972_0
                     clear hi972_0 hl972_0
                     replace p972 := eq_true p972
                     replace q972 := eq_true q972
                     have p973 : 0 ≤ (x28_3 : Int) := of_decide_eq_true (by first | (with_reducible assumption) | assumption)
                     have q973 : x28_3 < ((rd_L1 l0_1 x22_2).length : Int) := of_decide_eq_true (by first | (with_reducible assumption) | assumption)
                     obtain ⟨ad973, e973, hx973_0⟩ := Kd.at_int HR972_0.out x28_3 p973 q973
                     cases e973
                     replace hx973_0 := (HB.out.cell (World.block_lt_of_cell? w _ hx973_0)).trans hx973_0
                     replace p973 := eq_true p973
                     replace q973 := eq_true q973
                     go_wp2_with (first | ((with_reducible refine gate_callee (f := 106) rfl ?_); refine goesL_ (some 50) rfl rfl Try.func106 (by kernel_rfl) rfl #[.int .i64 a1, .int .i64 (rd (rd_L1 l0_1 x22_2) x28_3)] rfl (by (try simp only [List.map_toArray, List.map_cons, List.map_nil]); first | done | rfl | (simp only [List.length_drop, List.length_take]; rfl)) ?_; (with_reducible refine (impl_has.calls a1 (rd (rd_L1 l0_1 x22_2) x28_3) true _ A23.out).mono ?_); rintro e w' ⟨rfl, ⟨nd, rfl⟩⟩; refine ⟨_, rfl, ?_⟩) | (go_at_call 72; (with_reducible refine (impl_imply.calls kj13 _ _ l0_0 _ _ l0_1 x22_2 x28_3 t975 _ ?side1 ?side2 ?side3 ?side4 A25.out).mono ?_); (case side1 => repeat (first | exact (Kd.C_below HR0_0.out (by repeat (first | (with_reducible first | exact HB.out | apply below_alloc | apply pw_below_drewN | apply below_drew1 | refine below_set ?_ GE967.out) | exact HB.out))) | (with_reducible refine Kd.C_alloc ?_ _) | (with_reducible refine Kd.C_drewN ?_ _) | (with_reducible refine Kd.C_drew ?_))); (case side2 => exact HC0_0.out); (case side3 => repeat (first | exact (Kd.C_below HR0_1.out (by repeat (first | (with_reducible first | exact HB.out | apply below_alloc | apply pw_below_drewN | apply below_drew1 | refine below_set ?_ GE967.out) | exact HB.out))) | (with_reducible refine Kd.C_alloc ?_ _) | (with_reducible refine Kd.C_drewN ?_ _) | (with_reducible refine Kd.C_drew ?_))); (case side4 => exact HC0_1.out); rintro e w38 ⟨rfl, hb⟩; have n0_ := Aside0.mk (blk_below (g := gb967) (o := .cells #[.slice A0_0 l0_0.length c0_0, .slice (some ad972) l0_1.length c0_1] 28 (0, 0)) (by (with_reducible repeat (first | refine blk_drewN ?_ _ | refine blk_drew ?_ | refine blk_alloc ?_ _)); exact BK967.out) hb); have n1_ := Aside0.mk (below_step (by repeat (first | (with_reducible first | exact HB.out | apply below_alloc | apply pw_below_drewN | apply below_drew1 | refine below_set ?_ GE967.out) | exact HB.out)) hb); clear BK967; clear HB; have BK967 := n0_; have HB := n1_; clear n0_ n1_; (try clear hb); (try clear hb2); (try clear hk); (try clear hi)) | (go_at_call 106; (with_reducible refine (impl_has.calls a1 t975 true _ A26.out).mono ?_); rintro e w' ⟨rfl, ⟨nd, rfl⟩⟩; have hcz39_0 : w38.cell? ⟨gb967, 0, none⟩ = some (.slice A0_0 l0_0.length c0_0) := (blk_cell BK967.out 0).trans rfl; have hcz39_1 : w38.cell? ⟨gb967, 1, none⟩ = some (.slice (some ad972) l0_1.length c0_1) := (blk_cell BK967.out 1).trans rfl; have hfz39_0 := blk_frozen BK967.out 0; have hfz39_1 := blk_frozen BK967.out 1) | (go_at_call 99; (with_reducible refine (impl_meet.calls kj13 _ _ l0_0 x22_2 x28_3 t977 _ ?side1 ?side2 A28.out).mono ?_); (case side1 => repeat (first | exact (Kd.C_below HR0_0.out (by repeat (first | (with_reducible first | exact HB.out | apply below_alloc | apply pw_below_drewN | apply below_drew1 | refine below_set ?_ GE967.out) | exact HB.out))) | (with_reducible refine Kd.C_alloc ?_ _) | (with_reducible refine Kd.C_drewN ?_ _) | (with_reducible refine Kd.C_drew ?_))); (case side2 => exact HC0_0.out); rintro e w' ⟨rfl, ⟨nd, rfl⟩⟩) | (go_at_call 106; (with_reducible refine (impl_has.calls a1 t977 true _ A29.out).mono ?_); rintro e w' ⟨rfl, ⟨nd, rfl⟩⟩) | (go_at_call 67; (with_reducible refine (impl_join.calls kj13 _ _ l0_0 x22_2 x28_3 t979 _ ?side1 ?side2 A31.out).mono ?_); (case side1 => repeat (first | exact (Kd.C_below HR0_0.out (by repeat (first | (with_reducible first | exact HB.out | apply below_alloc | apply pw_below_drewN | apply below_drew1 | refine below_set ?_ GE967.out) | exact HB.out))) | (with_reducible refine Kd.C_alloc ?_ _) | (with_reducible refine Kd.C_drewN ?_ _) | (with_reducible refine Kd.C_drew ?_))); (case side2 => exact HC0_0.out); rintro e w' ⟨rfl, ⟨nd, rfl⟩⟩) | (go_at_call 106; (with_reducible refine (impl_has.calls a1 t979 false _ A32.out).mono ?_); rintro e w' ⟨rfl, ⟨nd, rfl⟩⟩))
                     go_ret
                     exact ⟨by first | rfl | (simp [errW_none, errW_some] <;> rfl) | (simp [*, errW_none, errW_some] <;> rfl), by repeat (first | (with_reducible first | exact HB.out | apply below_alloc | apply pw_below_drewN | apply below_drew1 | refine below_set ?_ GE967.out) | exact HB.out)⟩
                   ·replace c30 := Bool.eq_false_iff.mpr c30
                    subst c30
                    have H1 : (some false) = some r := by rw [if_neg (show ¬ (false = true) by decide)] at H; exact H
                    clear H
                    have H := H1
                    clear H1
                    obtain rfl := Option.some.inj H
                    have hcz40_0 : wc.cell? ⟨gb967, 0, none⟩ = some (.slice A0_0 l0_0.length c0_0) := (blk_cell BK967.out 0).trans rfl
                    have hcz40_1 : wc.cell? ⟨gb967, 1, none⟩ = some (.slice A0_1 l0_1.length c0_1) := (blk_cell BK967.out 1).trans rfl
                    have hfz40_0 := blk_frozen BK967.out 0
                    have hfz40_1 := blk_frozen BK967.out 1
                    have p972 : 0 ≤ (x22_2 : Int) := of_decide_eq_true (by first | (with_reducible assumption) | assumption)
                    have q972 : x22_2 < (l0_1.length : Int) := of_decide_eq_true (by first | (with_reducible assumption) | assumption)
                    obtain ⟨ad972, A972_0, c972_0, e972, hx972_0, hl972_0, hi972_0⟩ := at_L1 HR0_1.out x22_2 p972 q972
                    cases e972
                    replace hx972_0 := (HB.out.cell (World.block_lt_of_cell? w _ hx972_0)).trans hx972_0
                    have HR972_0 := Aside0.mk hi972_0
                    have HC972_0 := Aside0.mk hl972_0
                    clear hi972_0 hl972_0
                    replace p972 := eq_true p972
                    replace q972 := eq_true q972
                    have p973 : 0 ≤ (x28_3 : Int) := of_decide_eq_true (by first | (with_reducible assumption) | assumption)
                    have q973 : x28_3 < ((rd_L1 l0_1 x22_2).length : Int) := of_decide_eq_true (by first | (with_reducible assumption) | assumption)
                    obtain ⟨ad973, e973, hx973_0⟩ := Kd.at_int HR972_0.out x28_3 p973 q973
                    cases e973
                    replace hx973_0 := (HB.out.cell (World.block_lt_of_cell? w _ hx973_0)).trans hx973_0
                    replace p973 := eq_true p973
                    replace q973 := eq_true q973
                    go_wp2_with (first | ((with_reducible refine gate_callee (f := 106) rfl ?_); refine goesL_ (some 50) rfl rfl Try.func106 (by kernel_rfl) rfl #[.int .i64 a1, .int .i64 (rd (rd_L1 l0_1 x22_2) x28_3)] rfl (by (try simp only [List.map_toArray, List.map_cons, List.map_nil]); first | done | rfl | (simp only [List.length_drop, List.length_take]; rfl)) ?_; (with_reducible refine (impl_has.calls a1 (rd (rd_L1 l0_1 x22_2) x28_3) true _ A23.out).mono ?_); rintro e w' ⟨rfl, ⟨nd, rfl⟩⟩; refine ⟨_, rfl, ?_⟩) | (go_at_call 72; (with_reducible refine (impl_imply.calls kj13 _ _ l0_0 _ _ l0_1 x22_2 x28_3 t975 _ ?side1 ?side2 ?side3 ?side4 A25.out).mono ?_); (case side1 => repeat (first | exact (Kd.C_below HR0_0.out (by repeat (first | (with_reducible first | exact HB.out | apply below_alloc | apply pw_below_drewN | apply below_drew1 | refine below_set ?_ GE967.out) | exact HB.out))) | (with_reducible refine Kd.C_alloc ?_ _) | (with_reducible refine Kd.C_drewN ?_ _) | (with_reducible refine Kd.C_drew ?_))); (case side2 => exact HC0_0.out); (case side3 => repeat (first | exact (Kd.C_below HR0_1.out (by repeat (first | (with_reducible first | exact HB.out | apply below_alloc | apply pw_below_drewN | apply below_drew1 | refine below_set ?_ GE967.out) | exact HB.out))) | (with_reducible refine Kd.C_alloc ?_ _) | (with_reducible refine Kd.C_drewN ?_ _) | (with_reducible refine Kd.C_drew ?_))); (case side4 => exact HC0_1.out); rintro e w41 ⟨rfl, hb⟩; have n0_ := Aside0.mk (blk_below (g := gb967) (o := .cells #[.slice A0_0 l0_0.length c0_0, .slice (some ad972) l0_1.length c0_1] 28 (0, 0)) (by (with_reducible repeat (first | refine blk_drewN ?_ _ | refine blk_drew ?_ | refine blk_alloc ?_ _)); exact BK967.out) hb); have n1_ := Aside0.mk (below_step (by repeat (first | (with_reducible first | exact HB.out | apply below_alloc | apply pw_below_drewN | apply below_drew1 | refine below_set ?_ GE967.out) | exact HB.out)) hb); clear BK967; clear HB; have BK967 := n0_; have HB := n1_; clear n0_ n1_; (try clear hb); (try clear hb2); (try clear hk); (try clear hi)) | (go_at_call 106; (with_reducible refine (impl_has.calls a1 t975 true _ A26.out).mono ?_); rintro e w' ⟨rfl, ⟨nd, rfl⟩⟩; have hcz42_0 : w41.cell? ⟨gb967, 0, none⟩ = some (.slice A0_0 l0_0.length c0_0) := (blk_cell BK967.out 0).trans rfl; have hcz42_1 : w41.cell? ⟨gb967, 1, none⟩ = some (.slice (some ad972) l0_1.length c0_1) := (blk_cell BK967.out 1).trans rfl; have hfz42_0 := blk_frozen BK967.out 0; have hfz42_1 := blk_frozen BK967.out 1) | (go_at_call 99; (with_reducible refine (impl_meet.calls kj13 _ _ l0_0 x22_2 x28_3 t977 _ ?side1 ?side2 A28.out).mono ?_); (case side1 => repeat (first | exact (Kd.C_below HR0_0.out (by repeat (first | (with_reducible first | exact HB.out | apply below_alloc | apply pw_below_drewN | apply below_drew1 | refine below_set ?_ GE967.out) | exact HB.out))) | (with_reducible refine Kd.C_alloc ?_ _) | (with_reducible refine Kd.C_drewN ?_ _) | (with_reducible refine Kd.C_drew ?_))); (case side2 => exact HC0_0.out); rintro e w' ⟨rfl, ⟨nd, rfl⟩⟩) | (go_at_call 106; (with_reducible refine (impl_has.calls a1 t977 false _ A29.out).mono ?_); rintro e w' ⟨rfl, ⟨nd, rfl⟩⟩))
                    go_ret
                    exact ⟨by first | rfl | (simp [errW_none, errW_some] <;> rfl) | (simp [*, errW_none, errW_some] <;> rfl), by repeat (first | (with_reducible first | exact HB.out | apply below_alloc | apply pw_below_drewN | apply below_drew1 | refine below_set ?_ GE967.out) | exact HB.out)⟩
                  ·replace c27 := Bool.eq_false_iff.mpr c27
                   subst c27
                   have H1 : (some false) = some r := by rw [if_neg (show ¬ (false = true) by decide)] at H; exact H
                   clear H
                   have H := H1
                   clear H1
                   obtain rfl := Option.some.inj H
                   have hcz43_0 : wc.cell? ⟨gb967, 0, none⟩ = some (.slice A0_0 l0_0.length c0_0) := (blk_cell BK967.out 0).trans rfl
                   have hcz43_1 : wc.cell? ⟨gb967, 1, none⟩ = some (.slice A0_1 l0_1.length c0_1) := (blk_cell BK967.out 1).trans rfl
                   have hfz43_0 := blk_frozen BK967.out 0
                   have hfz43_1 := blk_frozen BK967.out 1
                   have p972 : 0 ≤ (x22_2 : Int) := of_decide_eq_true (by first | (with_reducible assumption) | assumption)
                   have q972 : x22_2 < (l0_1.length : Int) := of_decide_eq_true (by first | (with_reducible assumption) | assumption)
                   obtain ⟨ad972, A972_0, c972_0, e972, hx972_0, hl972_0, hi972_0⟩ := at_L1 HR0_1.out x22_2 p972 q972
                   cases e972
                   replace hx972_0 := (HB.out.cell (World.block_lt_of_cell? w _ hx972_0)).trans hx972_0
                   have HR972_0 := Aside0.mk hi972_0
                   have HC972_0 := Aside0.mk hl972_0
                   clear hi972_0 hl972_0
                   replace p972 := eq_true p972
                   replace q972 := eq_true q972
                   have p973 : 0 ≤ (x28_3 : Int) := of_decide_eq_true (by first | (with_reducible assumption) | assumption)
                   have q973 : x28_3 < ((rd_L1 l0_1 x22_2).length : Int) := of_decide_eq_true (by first | (with_reducible assumption) | assumption)
                   obtain ⟨ad973, e973, hx973_0⟩ := Kd.at_int HR972_0.out x28_3 p973 q973
                   cases e973
                   replace hx973_0 := (HB.out.cell (World.block_lt_of_cell? w _ hx973_0)).trans hx973_0
                   replace p973 := eq_true p973
                   replace q973 := eq_true q973
                   go_wp2_with (first | ((with_reducible refine gate_callee (f := 106) rfl ?_); refine goesL_ (some 50) rfl rfl Try.func106 (by kernel_rfl) rfl #[.int .i64 a1, .int .i64 (rd (rd_L1 l0_1 x22_2) x28_3)] rfl (by (try simp only [List.map_toArray, List.map_cons, List.map_nil]); first | done | rfl | (simp only [List.length_drop, List.length_take]; rfl)) ?_; (with_reducible refine (impl_has.calls a1 (rd (rd_L1 l0_1 x22_2) x28_3) true _ A23.out).mono ?_); rintro e w' ⟨rfl, ⟨nd, rfl⟩⟩; refine ⟨_, rfl, ?_⟩) | (go_at_call 72; (with_reducible refine (impl_imply.calls kj13 _ _ l0_0 _ _ l0_1 x22_2 x28_3 t975 _ ?side1 ?side2 ?side3 ?side4 A25.out).mono ?_); (case side1 => repeat (first | exact (Kd.C_below HR0_0.out (by repeat (first | (with_reducible first | exact HB.out | apply below_alloc | apply pw_below_drewN | apply below_drew1 | refine below_set ?_ GE967.out) | exact HB.out))) | (with_reducible refine Kd.C_alloc ?_ _) | (with_reducible refine Kd.C_drewN ?_ _) | (with_reducible refine Kd.C_drew ?_))); (case side2 => exact HC0_0.out); (case side3 => repeat (first | exact (Kd.C_below HR0_1.out (by repeat (first | (with_reducible first | exact HB.out | apply below_alloc | apply pw_below_drewN | apply below_drew1 | refine below_set ?_ GE967.out) | exact HB.out))) | (with_reducible refine Kd.C_alloc ?_ _) | (with_reducible refine Kd.C_drewN ?_ _) | (with_reducible refine Kd.C_drew ?_))); (case side4 => exact HC0_1.out); rintro e w44 ⟨rfl, hb⟩; have n0_ := Aside0.mk (blk_below (g := gb967) (o := .cells #[.slice A0_0 l0_0.length c0_0, .slice (some ad972) l0_1.length c0_1] 28 (0, 0)) (by (with_reducible repeat (first | refine blk_drewN ?_ _ | refine blk_drew ?_ | refine blk_alloc ?_ _)); exact BK967.out) hb); have n1_ := Aside0.mk (below_step (by repeat (first | (with_reducible first | exact HB.out | apply below_alloc | apply pw_below_drewN | apply below_drew1 | refine below_set ?_ GE967.out) | exact HB.out)) hb); clear BK967; clear HB; have BK967 := n0_; have HB := n1_; clear n0_ n1_; (try clear hb); (try clear hb2); (try clear hk); (try clear hi)) | (go_at_call 106; (with_reducible refine (impl_has.calls a1 t975 false _ A26.out).mono ?_); rintro e w' ⟨rfl, ⟨nd, rfl⟩⟩))
                   go_ret
                   exact ⟨by first | rfl | (simp [errW_none, errW_some] <;> rfl) | (simp [*, errW_none, errW_some] <;> rfl), by repeat (first | (with_reducible first | exact HB.out | apply below_alloc | apply pw_below_drewN | apply below_drew1 | refine below_set ?_ GE967.out) | exact HB.out)⟩
                 ·replace c24 := Bool.eq_false_iff.mpr c24
                  subst c24
                  have H1 : (some false) = some r := by rw [if_neg (show ¬ (false = true) by decide)] at H; exact H
                  clear H
                  have H := H1
                  clear H1
                  obtain rfl := Option.some.inj H
                  have hcz45_0 : wc.cell? ⟨gb967, 0, none⟩ = some (.slice A0_0 l0_0.length c0_0) := (blk_cell BK967.out 0).trans rfl
                  have hcz45_1 : wc.cell? ⟨gb967, 1, none⟩ = some (.slice A0_1 l0_1.length c0_1) := (blk_cell BK967.out 1).trans rfl
                  have hfz45_0 := blk_frozen BK967.out 0
                  have hfz45_1 := blk_frozen BK967.out 1
                  have p972 : 0 ≤ (x22_2 : Int) := of_decide_eq_true (by first | (with_reducible assumption) | assumption)
                  have q972 : x22_2 < (l0_1.length : Int) := of_decide_eq_true (by first | (with_reducible assumption) | assumption)
                  obtain ⟨ad972, A972_0, c972_0, e972, hx972_0, hl972_0, hi972_0⟩ := at_L1 HR0_1.out x22_2 p972 q972
                  cases e972
                  replace hx972_0 := (HB.out.cell (World.block_lt_of_cell? w _ hx972_0)).trans hx972_0
                  have HR972_0 := Aside0.mk hi972_0
                  have HC972_0 := Aside0.mk hl972_0
                  clear hi972_0 hl972_0
                  replace p972 := eq_true p972
                  replace q972 := eq_true q972
                  have p973 : 0 ≤ (x28_3 : Int) := of_decide_eq_true (by first | (with_reducible assumption) | assumption)
                  have q973 : x28_3 < ((rd_L1 l0_1 x22_2).length : Int) := of_decide_eq_true (by first | (with_reducible assumption) | assumption)
                  obtain ⟨ad973, e973, hx973_0⟩ := Kd.at_int HR972_0.out x28_3 p973 q973
                  cases e973
                  replace hx973_0 := (HB.out.cell (World.block_lt_of_cell? w _ hx973_0)).trans hx973_0
                  replace p973 := eq_true p973
                  replace q973 := eq_true q973
                  go_wp2_with (first | ((with_reducible refine gate_callee (f := 106) rfl ?_); refine goesL_ (some 50) rfl rfl Try.func106 (by kernel_rfl) rfl #[.int .i64 a1, .int .i64 (rd (rd_L1 l0_1 x22_2) x28_3)] rfl (by (try simp only [List.map_toArray, List.map_cons, List.map_nil]); first | done | rfl | (simp only [List.length_drop, List.length_take]; rfl)) ?_; (with_reducible refine (impl_has.calls a1 (rd (rd_L1 l0_1 x22_2) x28_3) false _ A23.out).mono ?_); rintro e w' ⟨rfl, ⟨nd, rfl⟩⟩; refine ⟨_, rfl, ?_⟩))
                  go_ret
                  exact ⟨by first | rfl | (simp [errW_none, errW_some] <;> rfl) | (simp [*, errW_none, errW_some] <;> rfl), by repeat (first | (with_reducible first | exact HB.out | apply below_alloc | apply pw_below_drewN | apply below_drew1 | refine below_set ?_ GE967.out) | exact HB.out)⟩
                ·rw [if_neg c22] at H
                 exact absurd H (by simp)
               ·rw [if_neg c21] at H
                exact absurd H (by simp)
              ·rw [if_neg c20] at H
               exact absurd H (by simp)
             ·rw [if_neg c19] at H
              exact absurd H (by simp)
         ·rw [if_neg c13] at H
          have c13b0 : decide (x28_3 < (l0_0.length : Int)) = false := decide_eq_false c13
          clear c13
          have H' := Aside0.mk H
          clear H
          go_wp2
          go_roundg k3
          case measure => have := HJ2.out; have := HK2.out; have := HK3.out; omega
          case rel => exact ⟨(wrap64 (x22_2 + 1)), (by first | rfl | (simp; done) | (simp [*]; done)), H', ⟨by have := HJ2.out; have := HK2.out; have := HK3.out; omega⟩, ⟨by (with_reducible repeat (first | refine blk_drewN ?_ _ | refine blk_drew ?_ | refine blk_alloc ?_ _)); exact BK967.out⟩, ⟨by repeat (first | (with_reducible first | exact HB.out | apply below_alloc | apply pw_below_drewN | apply below_drew1 | refine below_set ?_ GE967.out) | exact HB.out)⟩⟩
      ·rw [if_neg c11] at H
       have c11b0 : decide (x22_2 < (l0_0.length : Int)) = false := decide_eq_false c11
       clear c11
       obtain rfl := Option.some.inj H
       go_wp2
       go_ret
       exact ⟨by first | rfl | (simp [errW_none, errW_some] <;> rfl) | (simp [*, errW_none, errW_some] <;> rfl), by repeat (first | (with_reducible first | exact HB.out | apply below_alloc | apply pw_below_drewN | apply below_drew1 | refine below_set ?_ GE967.out) | exact HB.out)⟩

end Go.Proofs.Ytkndndgladdmcaa.P

-- shrunk
