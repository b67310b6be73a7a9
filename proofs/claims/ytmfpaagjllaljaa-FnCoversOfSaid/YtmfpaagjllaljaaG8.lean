-- Texts that the same laws need, in one (merge.py).
import Derived.Test.YtmfpaagjllaljaaG0
import Derived.Test.YtmfpaagjllaljaaG2
import Derived.Test.YtmfpaagjllaljaaG3
import Derived.Test.YtmfpaagjllaljaaG5
import Derived.Test.YtmfpaagjllaljaaG6
section
namespace Go.Proofs.Ytmfpaagjllaljaa.P
open Go.RowKit Go.Proofs.YtmfpaagjllaljaaW.PrintWords Go.Proofs.YtmfpaagjllaljaaW.PrintLast Go.Proofs.YtmfpaagjllaljaaW.PrintMore
attribute [local go_sem] max2_int min2_int max_two min_two max_three min_three max_four min_four   -- for this text's walks alone
set_option linter.unusedVariables false
set_option linter.unusedSimpArgs false

/-! ### impl_CoversOf: function 53 -/
mutual
def impl_CoversOf.l0 : Nat → List Int → Int → List Int → Int → Int → Option (List Int)
 | 0, _, _, _, _, _ => none
 | k + 1, x0, x1, x5, x16, x17 => if x17 < x16 then (if x17 = x1 then (impl_CoversOf.j1 k x0 x1 x5 x17 x16 x17 true) else ((impl_below.f x0 x1 x17).bind fun t533 => (impl_CoversOf.j1 k x0 x1 x5 x17 x16 x17 (!t533)))) else (some x5)
def impl_CoversOf.j1 : Nat → List Int → Int → List Int → Int → Int → Int → Bool → Option (List Int)
 | 0, _, _, _, _, _, _, _ => none
 | k + 1, x0, x1, x5, x6, x16, x17, x29 => if x29 = true then (impl_CoversOf.l0 k x0 x1 x5 x16 (wrap64 (x17 + 1))) else (impl_CoversOf.l1 k x0 x1 x5 x6 false x16 x17 (x0.length : Int) 0)
def impl_CoversOf.l1 : Nat → List Int → Int → List Int → Int → Bool → Int → Int → Int → Int → Option (List Int)
 | 0, _, _, _, _, _, _, _, _, _ => none
 | k + 1, x0, x1, x5, x6, x7, x16, x17, x31, x32 => if x32 < x31 then (if x7 = true then (impl_CoversOf.l1 k x0 x1 x5 x6 true x16 x17 x31 (wrap64 (x32 + 1))) else (if x32 = x1 then (impl_CoversOf.l1 k x0 x1 x5 x6 false x16 x17 x31 (wrap64 (x32 + 1))) else (if x32 = x6 then (impl_CoversOf.l1 k x0 x1 x5 x6 false x16 x17 x31 (wrap64 (x32 + 1))) else ((impl_below.f x0 x1 x32).bind fun t534 => (if t534 = true then ((impl_below.f x0 x32 x6).bind fun t535 => (impl_CoversOf.l1 k x0 x1 x5 x6 t535 x16 x17 x31 (wrap64 (x32 + 1)))) else (impl_CoversOf.l1 k x0 x1 x5 x6 false x16 x17 x31 (wrap64 (x32 + 1)))))))) else (if x7 = true then (impl_CoversOf.l0 k x0 x1 x5 x16 (wrap64 (x17 + 1))) else (if x5.length < 17592186044416 then (impl_CoversOf.l0 k x0 x1 (x5 ++ [x6]) x16 (wrap64 (x17 + 1))) else (none)))
end
def impl_CoversOf.f (k : Nat) (l0 : List Int) (a1 : Int) : Option (List Int) := (impl_latticeAt.f k l0 (([a1] : List Int))).bind fun t529 => (if t529 = true then (impl_CoversOf.l0 k l0 a1 (([] : List Int)) (l0.length : Int) 0) else (some ([] : List Int)))
set_option maxHeartbeats 8000000 in
set_option maxRecDepth 100000 in
theorem impl_CoversOf.calls (k : Nat) (A0 : Option Addr) (c0 : Nat) (l0 : List Int) (a1 : Int) (r : List Int) (w : World) (hr0 : Kd.C (Kd.int .i64) w A0 l0.length l0) (hc0 : l0.length ≤ c0) (h : impl_CoversOf.f k l0 a1 = some r) :
  Calls Try.prog 53 #[.slice A0 l0.length c0, .int .i64 a1] w fun e w' => ∃ v0_ : Value, e = .returned (v0_) ∧ Kd.R (Kd.int .i64) 3 w' w.heap.size (fun _ => True) v0_ r ∧ Below w.heap.size w w' := by
 have HR0 := Aside0.mk hr0
 have HC0 := Aside0.mk hc0
 clear hr0 hc0
 have HB := Aside0.mk (Below.refl w.heap.size w)
 have H : ((impl_latticeAt.f k l0 (([a1] : List Int))).bind fun t529 => (if t529 = true then (impl_CoversOf.l0 k l0 a1 (([] : List Int)) (l0.length : Int) 0) else (some ([] : List Int)))) = some r := h
 clear h
 obtain ⟨y526, hy526⟩ : ∃ y_ : List Int, y_ = (([a1] : List Int)) := ⟨_, rfl⟩
 replace H : ((impl_latticeAt.f k l0 y526).bind fun t529 => (if t529 = true then (impl_CoversOf.l0 k l0 a1 (([] : List Int)) (l0.length : Int) 0) else (some ([] : List Int)))) = some r := by first | (rw [hy526]; with_reducible exact H) | (have H2_ := (Option.bind_some _ _).symm.trans H; rw [hy526]; with_reducible exact H2_) | (have H2_ := (Option.bind_some _ _).symm.trans H; with_reducible exact H2_) | with_reducible exact H | (rw [hy526]; exact H) | exact H
 have Ny526 := Aside0.mk hy526
 clear hy526
 replace H := Option.bind_eq_some_iff.mp H
 obtain ⟨t529, A30, H⟩ := H
 replace H : (if t529 = true then (impl_CoversOf.l0 k l0 a1 (([] : List Int)) (l0.length : Int) 0) else (some ([] : List Int))) = some r := H
 have A3 := Aside0.mk A30
 clear A30
 by_cases c4 : t529 = true
 ·subst c4
  have H1 : (impl_CoversOf.l0 k l0 a1 (([] : List Int)) (l0.length : Int) 0) = some r := by rw [if_pos rfl] at H; exact H
  clear H
  have H := H1
  clear H1
  obtain ⟨y530, hy530⟩ : ∃ y_ : List Int, y_ = (([] : List Int)) := ⟨_, rfl⟩
  replace H : (impl_CoversOf.l0 k l0 a1 y530 (l0.length : Int) 0) = some r := by first | (rw [hy530]; with_reducible exact H) | (have H2_ := (Option.bind_some _ _).symm.trans H; rw [hy530]; with_reducible exact H2_) | (have H2_ := (Option.bind_some _ _).symm.trans H; with_reducible exact H2_) | with_reducible exact H | (rw [hy530]; exact H) | exact H
  have Ny530 := Aside0.mk hy530
  clear hy530
  have H' := Aside0.mk H
  clear H
  go_enter Try.func53, Try.ntmps53
  go_wp2_with (first | ((with_reducible refine gate_dst (N := 11) rfl ?_); refine Kd.R_lit (Kd.int .i64) _ 3 ?hg (N := 11) ?hd (xs := ([a1] : List Int)) (inner := [.int .i64 a1]) (ok := fun _ => True) (okp := fun _ => True) ?hr ?hp (fun _ hk => hk) trivial (Below.refl _ _) (Nat.le_refl _) (by simp) ?_; (case hd => rfl); (case hg => rfl); (case hr => first | (go_simp; done) | (go_simp; rfl)); (case hp => exact (Reps.one (show Kd.M (Kd.int .i64) _ _ _ a1 [.int .i64 a1] from rfl) (Reps.none _ _))); intro v527 w5 ho6 hb hg_ hnew_; clear hg_ hnew_; (first | rw [← Ny526.out] at ho6 | (simp only [Int.reduceToNat] at ho6; rw [← Ny526.out] at ho6)); have n0_ := Aside0.mk (Kd.R_lower ho6 (below_size (by repeat (first | (with_reducible first | exact HB.out | apply below_alloc | apply pw_below_drewN | apply below_drew1) | exact HB.out)))); have n1_ := Aside0.mk (below_step (by repeat (first | (with_reducible first | exact HB.out | apply below_alloc | apply pw_below_drewN | apply below_drew1) | exact HB.out)) hb); clear HB; have HO528 := n0_; have HB := n1_; clear n0_ n1_; clear hb ho6; obtain ⟨Ao7, co7, eo7⟩ := Kd.R_slice HO528.out; subst eo7) | ((with_reducible refine gate_callee (f := 85) rfl ?_); refine goesL_ (some 12) rfl rfl Try.func85 (by kernel_rfl) rfl #[.slice A0 l0.length c0, .slice Ao7 y526.length co7] rfl (by (try simp only [List.map_toArray, List.map_cons, List.map_nil]); first | done | rfl | (simp only [List.length_drop, List.length_take]; rfl)) ?_; (with_reducible refine (impl_latticeAt.calls k _ _ l0 _ _ y526 true _ ?side1 ?side2 ?side3 ?side4 A3.out).mono ?_); (case side1 => repeat (first | exact (Kd.C_below HR0.out HB.out) | (with_reducible refine Kd.C_alloc ?_ _) | (with_reducible refine Kd.C_drewN ?_ _) | (with_reducible refine Kd.C_drew ?_))); (case side2 => exact HC0.out); (case side3 => repeat (first | exact (Kd.R_reads' HO528.out).2.2 | (with_reducible refine Kd.C_alloc ?_ _) | (with_reducible refine Kd.C_drewN ?_ _) | (with_reducible refine Kd.C_drew ?_))); (case side4 => exact (Kd.R_reads' HO528.out).2.1); rintro e w8 ⟨rfl, hb⟩; refine ⟨_, rfl, ?_⟩; have n0_ := Aside0.mk (Kd.R_below (by (with_reducible repeat (first | apply Kd.R_alloc | apply Kd.R_drewN | apply Kd.R_drew)); exact HO528.out) hb); have n1_ := Aside0.mk (below_step (by repeat (first | (with_reducible first | exact HB.out | apply below_alloc | apply pw_below_drewN | apply below_drew1) | exact HB.out)) hb); clear HO528; clear HB; have HO528 := n0_; have HB := n1_; clear n0_ n1_; (try clear hb); (try clear hb2); (try clear hk); (try clear hi)) | ((with_reducible refine gate_dst (N := 14) rfl ?_); refine Kd.R_lit (Kd.int .i64) _ 3 ?hg (N := 14) ?hd (xs := ([] : List Int)) (inner := []) (ok := fun _ => True) (okp := fun _ => True) ?hr ?hp (fun _ hk => hk) trivial (Below.refl _ _) (Nat.le_refl _) (by simp) ?_; (case hd => rfl); (case hg => rfl); (case hr => first | (go_simp; done) | (go_simp; rfl)); (case hp => exact (Reps.none _ _)); intro v531 w9 ho10 hb hg_ hnew_; clear hg_ hnew_; (first | rw [← Ny530.out] at ho10 | (simp only [Int.reduceToNat] at ho10; rw [← Ny530.out] at ho10)); have n0_ := Aside0.mk (Kd.R_elder' (by (with_reducible repeat (first | apply Kd.R_alloc | apply Kd.R_drewN | apply Kd.R_drew)); exact HO528.out) (Kd.R_base ho10) hb); have n1_ := Aside0.mk (Kd.R_lower (Kd.R_new' ho10 (Kd.R_lt (by (with_reducible repeat (first | apply Kd.R_alloc | apply Kd.R_drewN | apply Kd.R_drew)); exact HO528.out))) (below_size (by repeat (first | (with_reducible first | exact HB.out | apply below_alloc | apply pw_below_drewN | apply below_drew1) | exact HB.out)))); have n2_ := Aside0.mk (below_step (by repeat (first | (with_reducible first | exact HB.out | apply below_alloc | apply pw_below_drewN | apply below_drew1) | exact HB.out)) hb); clear HO528; clear HB; have HO528 := n0_; have HO532 := n1_; have HB := n2_; clear n0_ n1_ n2_; clear hb ho10))
  go_loopg [5, 17] k (fun kq v5 v17 w' => ∃ (x5_1 : List Int) (x17_1 : Int), v17 = .int .i64 x17_1 ∧ Aside0 (impl_CoversOf.l0 kq l0 a1 x5_1 (l0.length : Int) x17_1 = some r) ∧ Aside0 (kq ≤ k) ∧ Aside0 (Kd.R (Kd.int .i64) 3 w' w.heap.size (fun _ => True) v5 x5_1) ∧ Aside0 (Below w.heap.size w w'))
  case atStart => exact ⟨(y530), (0), (by first | rfl | (simp; done) | (simp [*]; done)), H', ⟨Nat.le_refl _⟩, ⟨by (with_reducible repeat (first | apply Kd.R_alloc | apply Kd.R_drewN | apply Kd.R_drew)); exact Kd.R_mono HO532.out (fun _ hk => trivial)⟩, ⟨by repeat (first | (with_reducible first | exact HB.out | apply below_alloc | apply pw_below_drewN | apply below_drew1) | exact HB.out)⟩⟩
  case round =>
   clear H'
   try clear p2
   try clear c4
   try clear c5
   try clear c8
   obtain ⟨x5_1, x17_1, rfl, HA, HK1, HO_5, HB⟩ := hrel
   cases gk with
   | zero => exact absurd HA.out (by simp [impl_CoversOf.l0])
   | succ k1 =>
    have H := HA.out
    clear HA
    simp only [impl_CoversOf.l0] at H
    by_cases c11 : x17_1 < (l0.length : Int)
    ·rw [if_pos c11] at H
     have c11b0 : decide (x17_1 < (l0.length : Int)) = true := decide_eq_true c11
     clear c11
     have HC12 := Aside0.mk H
     clear H
     go_upto_region 7 with (fail)
     go_cut [29] (fun v29 wc => ∃ (kq : Nat) (x29_11 : Bool), v29 = .bool x29_11 ∧ Aside0 (impl_CoversOf.j1 kq l0 a1 x5_1 x17_1 (l0.length : Int) x17_1 x29_11 = some r) ∧ Aside0 (kq ≤ k1) ∧ Aside0 (Kd.R (Kd.int .i64) 3 wc w.heap.size (fun _ => True) u5 x5_1) ∧ Aside0 (Below w.heap.size w wc))
     case first =>
      have H := HC12.out
      clear HC12
      by_cases c13 : x17_1 = a1
      ·rw [if_pos c13] at H
       have c13b0 : (x17_1 == a1) = true := beq_iff_eq.mpr c13
       have c13b1 : (x17_1 != a1) = false := bne_eq_false_iff_eq.mpr c13
       clear c13
       (first | rw [c13b0] | (simp only [i64_w, i32_w]; rw [c13b0]) | skip)
       have H' := Aside0.mk H
       clear H
       go_wp2
       go_meet
       case rel => exact ⟨_, (true), (by first | rfl | (simp; done) | (simp [*]; done)), H', ⟨by have := HK1.out; first | omega | exact Nat.le_refl _⟩, ⟨by (with_reducible repeat (first | apply Kd.R_alloc | apply Kd.R_drewN | apply Kd.R_drew)); exact HO_5.out⟩, ⟨by repeat (first | (with_reducible first | exact HB.out | apply below_alloc | apply pw_below_drewN | apply below_drew1) | exact HB.out)⟩⟩
      ·rw [if_neg c13] at H
       have c13b0 : (x17_1 == a1) = false := beq_eq_false_iff_ne.mpr c13
       have c13b1 : (x17_1 != a1) = true := bne_iff_ne.mpr c13
       (first | rw [c13b0] | (simp only [i64_w, i32_w]; rw [c13b0]) | skip)
       replace H := Option.bind_eq_some_iff.mp H
       obtain ⟨t533, A140, H⟩ := H
       replace H : (impl_CoversOf.j1 k1 l0 a1 x5_1 x17_1 (l0.length : Int) x17_1 (!t533)) = some r := H
       have A14 := Aside0.mk A140
       clear A140
       have H' := Aside0.mk H
       clear H
       go_wp2_with (first | (go_at_call 77; (with_reducible refine (impl_below.calls _ _ l0 a1 x17_1 t533 _ ?side1 ?side2 A14.out).mono ?_); (case side1 => repeat (first | exact (Kd.C_below HR0.out HB.out) | (with_reducible refine Kd.C_alloc ?_ _) | (with_reducible refine Kd.C_drewN ?_ _) | (with_reducible refine Kd.C_drew ?_))); (case side2 => exact HC0.out); rintro e w' ⟨rfl, ⟨nd, rfl⟩⟩))
       go_meet
       case rel => exact ⟨_, (!t533), (by first | rfl | (simp; done) | (simp [*]; done)), H', ⟨by have := HK1.out; first | omega | exact Nat.le_refl _⟩, ⟨by (with_reducible repeat (first | apply Kd.R_alloc | apply Kd.R_drewN | apply Kd.R_drew)); exact HO_5.out⟩, ⟨by repeat (first | (with_reducible first | exact HB.out | apply below_alloc | apply pw_below_drewN | apply below_drew1) | exact HB.out)⟩⟩
     case rest =>
      clear HC12
      try clear c1
      try clear p2
      try clear c4
      try clear c5
      try clear c8
      try clear c11
      try clear c11b0
      try clear c13
      try clear c13b0
      try clear c13b1
      try clear p2
      obtain ⟨kq, x29_11, rfl, HA, HJ11, HO_5, HB⟩ := hcut
      cases kq with
      | zero => exact absurd HA.out (by simp [impl_CoversOf.j1])
      | succ kj11 =>
       have H := HA.out
       clear HA
       simp only [impl_CoversOf.j1] at H
       by_cases c15 : x29_11 = true
       ·subst c15
        have H1 : (impl_CoversOf.l0 kj11 l0 a1 x5_1 (l0.length : Int) (wrap64 (x17_1 + 1))) = some r := by rw [if_pos rfl] at H; exact H
        clear H
        have H := H1
        clear H1
        have H' := Aside0.mk H
        clear H
        go_wp2
        go_roundg kj11
        case measure => have := HK1.out; have := HJ11.out; omega
        case rel => exact ⟨(x5_1), (wrap64 (x17_1 + 1)), (by first | rfl | (simp; done) | (simp [*]; done)), H', ⟨by have := HK1.out; have := HJ11.out; omega⟩, ⟨by (with_reducible repeat (first | apply Kd.R_alloc | apply Kd.R_drewN | apply Kd.R_drew)); exact HO_5.out⟩, ⟨by repeat (first | (with_reducible first | exact HB.out | apply below_alloc | apply pw_below_drewN | apply below_drew1) | exact HB.out)⟩⟩
       ·replace c15 := Bool.eq_false_iff.mpr c15
        subst c15
        have H1 : (impl_CoversOf.l1 kj11 l0 a1 x5_1 x17_1 false (l0.length : Int) x17_1 (l0.length : Int) 0) = some r := by rw [if_neg (show ¬ (false = true) by decide)] at H; exact H
        clear H
        have H := H1
        clear H1
        have H' := Aside0.mk H
        clear H
        go_wp2
        go_loopg [7, 32] kj11 (fun kq v7 v32 w' => ∃ (x7_3 : Bool) (x32_3 : Int), v7 = .bool x7_3 ∧ v32 = .int .i64 x32_3 ∧ Aside0 (impl_CoversOf.l1 kq l0 a1 x5_1 x17_1 x7_3 (l0.length : Int) x17_1 (l0.length : Int) x32_3 = some r) ∧ Aside0 (kq ≤ kj11) ∧ Aside0 (Kd.R (Kd.int .i64) 3 w' w.heap.size (fun _ => True) u5 x5_1) ∧ Aside0 (Below w.heap.size w w'))
        case atStart => exact ⟨(false), (0), (by first | rfl | (simp; done) | (simp [*]; done)), (by first | rfl | (simp; done) | (simp [*]; done)), H', ⟨Nat.le_refl _⟩, ⟨by (with_reducible repeat (first | apply Kd.R_alloc | apply Kd.R_drewN | apply Kd.R_drew)); exact HO_5.out⟩, ⟨by repeat (first | (with_reducible first | exact HB.out | apply below_alloc | apply pw_below_drewN | apply below_drew1) | exact HB.out)⟩⟩
        case round =>
         clear H'
         try clear c1
         try clear p2
         try clear c4
         try clear c5
         try clear p6
         try clear c8
         try clear c11
         try clear c11b0
         try clear c13
         try clear c13b0
         try clear c13b1
         try clear c15
         try clear p2
         obtain ⟨x7_3, x32_3, rfl, rfl, HA, HK3, HO_5, HB⟩ := hrel
         cases gk with
         | zero => exact absurd HA.out (by simp [impl_CoversOf.l1])
         | succ k3 =>
          have H := HA.out
          clear HA
          simp only [impl_CoversOf.l1] at H
          by_cases c16 : x32_3 < (l0.length : Int)
          ·rw [if_pos c16] at H
           have c16b0 : decide (x32_3 < (l0.length : Int)) = true := decide_eq_true c16
           clear c16
           by_cases c17 : x7_3 = true
           ·subst c17
            have H1 : (impl_CoversOf.l1 k3 l0 a1 x5_1 x17_1 true (l0.length : Int) x17_1 (l0.length : Int) (wrap64 (x32_3 + 1))) = some r := by rw [if_pos rfl] at H; exact H
            clear H
            have H := H1
            clear H1
            have H' := Aside0.mk H
            clear H
            go_wp2
            go_roundg k3
            case measure => have := HK1.out; have := HJ11.out; have := HK3.out; omega
            case rel => exact ⟨(true), (wrap64 (x32_3 + 1)), (by first | rfl | (simp; done) | (simp [*]; done)), (by first | rfl | (simp; done) | (simp [*]; done)), H', ⟨by have := HK1.out; have := HJ11.out; have := HK3.out; omega⟩, ⟨by (with_reducible repeat (first | apply Kd.R_alloc | apply Kd.R_drewN | apply Kd.R_drew)); exact HO_5.out⟩, ⟨by repeat (first | (with_reducible first | exact HB.out | apply below_alloc | apply pw_below_drewN | apply below_drew1) | exact HB.out)⟩⟩
           ·replace c17 := Bool.eq_false_iff.mpr c17
            subst c17
            have H1 : (if x32_3 = a1 then (impl_CoversOf.l1 k3 l0 a1 x5_1 x17_1 false (l0.length : Int) x17_1 (l0.length : Int) (wrap64 (x32_3 + 1))) else (if x32_3 = x17_1 then (impl_CoversOf.l1 k3 l0 a1 x5_1 x17_1 false (l0.length : Int) x17_1 (l0.length : Int) (wrap64 (x32_3 + 1))) else ((impl_below.f l0 a1 x32_3).bind fun t534 => (if t534 = true then ((impl_below.f l0 x32_3 x17_1).bind fun t535 => (impl_CoversOf.l1 k3 l0 a1 x5_1 x17_1 t535 (l0.length : Int) x17_1 (l0.length : Int) (wrap64 (x32_3 + 1)))) else (impl_CoversOf.l1 k3 l0 a1 x5_1 x17_1 false (l0.length : Int) x17_1 (l0.length : Int) (wrap64 (x32_3 + 1))))))) = some r := by rw [if_neg (show ¬ (false = true) by decide)] at H; exact H
            clear H
            have H := H1
            clear H1
            by_cases c18 : x32_3 = a1
            ·rw [if_pos c18] at H
             have c18b0 : (x32_3 == a1) = true := beq_iff_eq.mpr c18
             have c18b1 : (x32_3 != a1) = false := bne_eq_false_iff_eq.mpr c18
             clear c18
             have H' := Aside0.mk H
             clear H
             go_wp2
             go_roundg k3
             case measure => have := HK1.out; have := HJ11.out; have := HK3.out; omega
             case rel => exact ⟨(false), (wrap64 (x32_3 + 1)), (by first | rfl | (simp; done) | (simp [*]; done)), (by first | rfl | (simp; done) | (simp [*]; done)), H', ⟨by have := HK1.out; have := HJ11.out; have := HK3.out; omega⟩, ⟨by (with_reducible repeat (first | apply Kd.R_alloc | apply Kd.R_drewN | apply Kd.R_drew)); exact HO_5.out⟩, ⟨by repeat (first | (with_reducible first | exact HB.out | apply below_alloc | apply pw_below_drewN | apply below_drew1) | exact HB.out)⟩⟩
            ·rw [if_neg c18] at H
             have c18b0 : (x32_3 == a1) = false := beq_eq_false_iff_ne.mpr c18
             have c18b1 : (x32_3 != a1) = true := bne_iff_ne.mpr c18
             by_cases c19 : x32_3 = x17_1
             ·rw [if_pos c19] at H
              have c19b0 : (x32_3 == x17_1) = true := beq_iff_eq.mpr c19
              have c19b1 : (x32_3 != x17_1) = false := bne_eq_false_iff_eq.mpr c19
              clear c19
              have H' := Aside0.mk H
              clear H
              go_wp2
              go_roundg k3
              case measure => have := HK1.out; have := HJ11.out; have := HK3.out; omega
              case rel => exact ⟨(false), (wrap64 (x32_3 + 1)), (by first | rfl | (simp; done) | (simp [*]; done)), (by first | rfl | (simp; done) | (simp [*]; done)), H', ⟨by have := HK1.out; have := HJ11.out; have := HK3.out; omega⟩, ⟨by (with_reducible repeat (first | apply Kd.R_alloc | apply Kd.R_drewN | apply Kd.R_drew)); exact HO_5.out⟩, ⟨by repeat (first | (with_reducible first | exact HB.out | apply below_alloc | apply pw_below_drewN | apply below_drew1) | exact HB.out)⟩⟩
             ·rw [if_neg c19] at H
              have c19b0 : (x32_3 == x17_1) = false := beq_eq_false_iff_ne.mpr c19
              have c19b1 : (x32_3 != x17_1) = true := bne_iff_ne.mpr c19
              replace H := Option.bind_eq_some_iff.mp H
              obtain ⟨t534, A200, H⟩ := H
              replace H : (if t534 = true then ((impl_below.f l0 x32_3 x17_1).bind fun t535 => (impl_CoversOf.l1 k3 l0 a1 x5_1 x17_1 t535 (l0.length : Int) x17_1 (l0.length : Int) (wrap64 (x32_3 + 1)))) else (impl_CoversOf.l1 k3 l0 a1 x5_1 x17_1 false (l0.length : Int) x17_1 (l0.length : Int) (wrap64 (x32_3 + 1)))) = some r := H
              have A20 := Aside0.mk A200
              clear A200
              by_cases c21 : t534 = true
              ·subst c21
               have H1 : ((impl_below.f l0 x32_3 x17_1).bind fun t535 => (impl_CoversOf.l1 k3 l0 a1 x5_1 x17_1 t535 (l0.length : Int) x17_1 (l0.length : Int) (wrap64 (x32_3 + 1)))) = some r := by rw [if_pos rfl] at H; exact H
               clear H
               have H := H1
               clear H1
               replace H := Option.bind_eq_some_iff.mp H
               obtain ⟨t535, A220, H⟩ := H
               replace H : (impl_CoversOf.l1 k3 l0 a1 x5_1 x17_1 t535 (l0.length : Int) x17_1 (l0.length : Int) (wrap64 (x32_3 + 1))) = some r := H
               have A22 := Aside0.mk A220
               clear A220
               have H' := Aside0.mk H
               clear H
               go_wp2_with (first | (go_at_call 77; (with_reducible refine (impl_below.calls _ _ l0 a1 x32_3 true _ ?side1 ?side2 A20.out).mono ?_); (case side1 => repeat (first | exact (Kd.C_below HR0.out HB.out) | (with_reducible refine Kd.C_alloc ?_ _) | (with_reducible refine Kd.C_drewN ?_ _) | (with_reducible refine Kd.C_drew ?_))); (case side2 => exact HC0.out); rintro e w' ⟨rfl, ⟨nd, rfl⟩⟩) | (go_at_call 77; (with_reducible refine (impl_below.calls _ _ l0 x32_3 x17_1 t535 _ ?side1 ?side2 A22.out).mono ?_); (case side1 => repeat (first | exact (Kd.C_below HR0.out (by repeat (first | (with_reducible first | exact HB.out | apply below_alloc | apply pw_below_drewN | apply below_drew1) | exact HB.out))) | (with_reducible refine Kd.C_alloc ?_ _) | (with_reducible refine Kd.C_drewN ?_ _) | (with_reducible refine Kd.C_drew ?_))); (case side2 => exact HC0.out); rintro e w' ⟨rfl, ⟨nd, rfl⟩⟩))
               go_roundg k3
               case measure => have := HK1.out; have := HJ11.out; have := HK3.out; omega
               case rel => exact ⟨(t535), (wrap64 (x32_3 + 1)), (by first | rfl | (simp; done) | (simp [*]; done)), (by first | rfl | (simp; done) | (simp [*]; done)), H', ⟨by have := HK1.out; have := HJ11.out; have := HK3.out; omega⟩, ⟨by (with_reducible repeat (first | apply Kd.R_alloc | apply Kd.R_drewN | apply Kd.R_drew)); exact HO_5.out⟩, ⟨by repeat (first | (with_reducible first | exact HB.out | apply below_alloc | apply pw_below_drewN | apply below_drew1) | exact HB.out)⟩⟩
              ·replace c21 := Bool.eq_false_iff.mpr c21
               subst c21
               have H1 : (impl_CoversOf.l1 k3 l0 a1 x5_1 x17_1 false (l0.length : Int) x17_1 (l0.length : Int) (wrap64 (x32_3 + 1))) = some r := by rw [if_neg (show ¬ (false = true) by decide)] at H; exact H
               clear H
               have H := H1
               clear H1
               have H' := Aside0.mk H
               clear H
               go_wp2_with (first | (go_at_call 77; (with_reducible refine (impl_below.calls _ _ l0 a1 x32_3 false _ ?side1 ?side2 A20.out).mono ?_); (case side1 => repeat (first | exact (Kd.C_below HR0.out HB.out) | (with_reducible refine Kd.C_alloc ?_ _) | (with_reducible refine Kd.C_drewN ?_ _) | (with_reducible refine Kd.C_drew ?_))); (case side2 => exact HC0.out); rintro e w' ⟨rfl, ⟨nd, rfl⟩⟩))
               go_roundg k3
               case measure => have := HK1.out; have := HJ11.out; have := HK3.out; omega
               case rel => exact ⟨(false), (wrap64 (x32_3 + 1)), (by first | rfl | (simp; done) | (simp [*]; done)), (by first | rfl | (simp; done) | (simp [*]; done)), H', ⟨by have := HK1.out; have := HJ11.out; have := HK3.out; omega⟩, ⟨by (with_reducible repeat (first | apply Kd.R_alloc | apply Kd.R_drewN | apply Kd.R_drew)); exact HO_5.out⟩, ⟨by repeat (first | (with_reducible first | exact HB.out | apply below_alloc | apply pw_below_drewN | apply below_drew1) | exact HB.out)⟩⟩
          ·rw [if_neg c16] at H
           have c16b0 : decide (x32_3 < (l0.length : Int)) = false := decide_eq_false c16
           clear c16
           by_cases c23 : x7_3 = true
           ·subst c23
            have H1 : (impl_CoversOf.l0 k3 l0 a1 x5_1 (l0.length : Int) (wrap64 (x17_1 + 1))) = some r := by rw [if_pos rfl] at H; exact H
            clear H
            have H := H1
            clear H1
            have H' := Aside0.mk H
            clear H
            go_wp2
            go_roundg k3
            case measure => have := HK1.out; have := HJ11.out; have := HK3.out; omega
            case rel => exact ⟨(x5_1), (wrap64 (x17_1 + 1)), (by first | rfl | (simp; done) | (simp [*]; done)), H', ⟨by have := HK1.out; have := HJ11.out; have := HK3.out; omega⟩, ⟨by (with_reducible repeat (first | apply Kd.R_alloc | apply Kd.R_drewN | apply Kd.R_drew)); exact HO_5.out⟩, ⟨by repeat (first | (with_reducible first | exact HB.out | apply below_alloc | apply pw_below_drewN | apply below_drew1) | exact HB.out)⟩⟩
           ·replace c23 := Bool.eq_false_iff.mpr c23
            subst c23
            have H1 : (if x5_1.length < 17592186044416 then (impl_CoversOf.l0 k3 l0 a1 (x5_1 ++ [x17_1]) (l0.length : Int) (wrap64 (x17_1 + 1))) else (none)) = some r := by rw [if_neg (show ¬ (false = true) by decide)] at H; exact H
            clear H
            have H := H1
            clear H1
            by_cases c24 : x5_1.length < 17592186044416
            ·rw [if_pos c24] at H
             have LMc24 := Aside0.mk c24
             clear c24
             obtain ⟨y536, hy536⟩ : ∃ y_ : List Int, y_ = (x5_1 ++ [x17_1]) := ⟨_, rfl⟩
             replace H : (impl_CoversOf.l0 k3 l0 a1 y536 (l0.length : Int) (wrap64 (x17_1 + 1))) = some r := by first | (rw [hy536]; with_reducible exact H) | (have H2_ := (Option.bind_some _ _).symm.trans H; rw [hy536]; with_reducible exact H2_) | (have H2_ := (Option.bind_some _ _).symm.trans H; with_reducible exact H2_) | with_reducible exact H | (rw [hy536]; exact H) | exact H
             have Ny536 := Aside0.mk hy536
             clear hy536
             have H' := Aside0.mk H
             clear H
             go_wp2_with (first | ((with_reducible refine gate_builtin (b := .append) (xs := #[.tmp 61, .tmp 63]) rfl ?_); at_builtin; refine Kd.R_append (Kd.int .i64) (w0 := w) w.heap.size rfl (.tmp 61) (.tmp 63) 22 3 (.int .i64 0) 8 rfl Try.underlying22 info3 rfl (by decide) (by omega) u5 x5_1 x17_1 [.int .i64 x17_1] (fun _ => True) (fun _ => False) rfl rfl ?aP (fun _ hk => hk.elim) ?aF ?aO ?aB ?aS ?aL ?_; (case aP => exact rfl); (case aB => exact (by repeat (first | (with_reducible first | exact HB.out | apply below_alloc | apply pw_below_drewN | apply below_drew1) | exact HB.out))); (case aF => exact (fun _ _ => trivial)); (case aO => exact (by (with_reducible repeat (first | apply Kd.R_alloc | apply Kd.R_drewN | apply Kd.R_drew)); exact HO_5.out)); (case aS => exact (below_size (by repeat (first | (with_reducible first | exact HB.out | apply below_alloc | apply pw_below_drewN | apply below_drew1) | exact HB.out)))); (case aL => have := LMc24.out; omega); intro v537 w25 ho hb hg hat; rw [← Ny536.out] at ho; have n0_ := Aside0.mk (hb); have n1_ := Aside0.mk (ho); clear HB; clear HO_5; have HB := n0_; have HO538 := n1_; clear n0_ n1_; clear ho hb hg hat))
             go_roundg k3
             case measure => have := HK1.out; have := HJ11.out; have := HK3.out; omega
             case rel => exact ⟨(y536), (wrap64 (x17_1 + 1)), (by first | rfl | (simp; done) | (simp [*]; done)), H', ⟨by have := HK1.out; have := HJ11.out; have := HK3.out; omega⟩, ⟨by (with_reducible repeat (first | apply Kd.R_alloc | apply Kd.R_drewN | apply Kd.R_drew)); exact HO538.out⟩, ⟨by repeat (first | (with_reducible first | exact HB.out | apply below_alloc | apply pw_below_drewN | apply below_drew1) | exact HB.out)⟩⟩
            ·rw [if_neg c24] at H
             exact absurd H (by simp)
    ·rw [if_neg c11] at H
     have c11b0 : decide (x17_1 < (l0.length : Int)) = false := decide_eq_false c11
     clear c11
     obtain rfl := Option.some.inj H
     go_wp2
     go_ret
     exact ⟨_, by first | rfl | (simp [errW_none, errW_some] <;> rfl) | (simp [*, errW_none, errW_some] <;> rfl), by (with_reducible repeat (first | apply Kd.R_alloc | apply Kd.R_drewN | apply Kd.R_drew)); exact HO_5.out, by repeat (first | (with_reducible first | exact HB.out | apply below_alloc | apply pw_below_drewN | apply below_drew1) | exact HB.out)⟩
 ·replace c4 := Bool.eq_false_iff.mpr c4
  subst c4
  have H1 : (some ([] : List Int)) = some r := by rw [if_neg (show ¬ (false = true) by decide)] at H; exact H
  clear H
  have H := H1
  clear H1
  obtain rfl := Option.some.inj H
  go_enter Try.func53, Try.ntmps53
  go_wp2_with (first | ((with_reducible refine gate_dst (N := 11) rfl ?_); refine Kd.R_lit (Kd.int .i64) _ 3 ?hg (N := 11) ?hd (xs := ([a1] : List Int)) (inner := [.int .i64 a1]) (ok := fun _ => True) (okp := fun _ => True) ?hr ?hp (fun _ hk => hk) trivial (Below.refl _ _) (Nat.le_refl _) (by simp) ?_; (case hd => rfl); (case hg => rfl); (case hr => first | (go_simp; done) | (go_simp; rfl)); (case hp => exact (Reps.one (show Kd.M (Kd.int .i64) _ _ _ a1 [.int .i64 a1] from rfl) (Reps.none _ _))); intro v527 w26 ho27 hb hg_ hnew_; clear hg_ hnew_; (first | rw [← Ny526.out] at ho27 | (simp only [Int.reduceToNat] at ho27; rw [← Ny526.out] at ho27)); have n0_ := Aside0.mk (Kd.R_lower ho27 (below_size (by repeat (first | (with_reducible first | exact HB.out | apply below_alloc | apply pw_below_drewN | apply below_drew1) | exact HB.out)))); have n1_ := Aside0.mk (below_step (by repeat (first | (with_reducible first | exact HB.out | apply below_alloc | apply pw_below_drewN | apply below_drew1) | exact HB.out)) hb); clear HB; have HO528 := n0_; have HB := n1_; clear n0_ n1_; clear hb ho27; obtain ⟨Ao28, co28, eo28⟩ := Kd.R_slice HO528.out; subst eo28) | ((with_reducible refine gate_callee (f := 85) rfl ?_); refine goesL_ (some 12) rfl rfl Try.func85 (by kernel_rfl) rfl #[.slice A0 l0.length c0, .slice Ao28 y526.length co28] rfl (by (try simp only [List.map_toArray, List.map_cons, List.map_nil]); first | done | rfl | (simp only [List.length_drop, List.length_take]; rfl)) ?_; (with_reducible refine (impl_latticeAt.calls k _ _ l0 _ _ y526 false _ ?side1 ?side2 ?side3 ?side4 A3.out).mono ?_); (case side1 => repeat (first | exact (Kd.C_below HR0.out HB.out) | (with_reducible refine Kd.C_alloc ?_ _) | (with_reducible refine Kd.C_drewN ?_ _) | (with_reducible refine Kd.C_drew ?_))); (case side2 => exact HC0.out); (case side3 => repeat (first | exact (Kd.R_reads' HO528.out).2.2 | (with_reducible refine Kd.C_alloc ?_ _) | (with_reducible refine Kd.C_drewN ?_ _) | (with_reducible refine Kd.C_drew ?_))); (case side4 => exact (Kd.R_reads' HO528.out).2.1); rintro e w29 ⟨rfl, hb⟩; refine ⟨_, rfl, ?_⟩; have n0_ := Aside0.mk (Kd.R_below (by (with_reducible repeat (first | apply Kd.R_alloc | apply Kd.R_drewN | apply Kd.R_drew)); exact HO528.out) hb); have n1_ := Aside0.mk (below_step (by repeat (first | (with_reducible first | exact HB.out | apply below_alloc | apply pw_below_drewN | apply below_drew1) | exact HB.out)) hb); clear HO528; clear HB; have HO528 := n0_; have HB := n1_; clear n0_ n1_; (try clear hb); (try clear hb2); (try clear hk); (try clear hi)))
  go_ret
  exact ⟨_, by first | rfl | (simp [errW_none, errW_some] <;> rfl) | (simp [*, errW_none, errW_some] <;> rfl), by first | exact Kd.R_nil _ _ _ _ _ | exact Kd.N_nil _ _ _ _ _ | exact Kd.V_nil _ _ _ _ _ | exact Kd.Q_nil _ _ _ _ _ | exact Kd.S_nil _ _ _ _ _, by repeat (first | (with_reducible first | exact HB.out | apply below_alloc | apply pw_below_drewN | apply below_drew1) | exact HB.out)⟩

end Go.Proofs.Ytmfpaagjllaljaa.P
end
section
namespace Go.Proofs.Ytmfpaagjllaljaa.P
open Go.RowKit Go.Proofs.YtmfpaagjllaljaaW.PrintWords Go.Proofs.YtmfpaagjllaljaaW.PrintLast Go.Proofs.YtmfpaagjllaljaaW.PrintMore
attribute [local go_sem] max2_int min2_int max_two min_two max_three min_three max_four min_four   -- for this text's walks alone
set_option linter.unusedVariables false
set_option linter.unusedSimpArgs false

/-! ### spec_covers: function 95 -/
mutual
def spec_covers.l0 : Nat → List Int → Int → List Int → Int → Option (List Int)
 | 0, _, _, _, _ => none
 | k + 1, x0, x1, x5, x6 => if x6 < (x0.length : Int) then (if x6 = x1 then (spec_covers.j1 k x0 x1 x5 x6 false) else ((spec_below.f k x0 x1 x6).bind fun t516 => (spec_covers.j1 k x0 x1 x5 x6 t516))) else (some x5)
def spec_covers.j1 : Nat → List Int → Int → List Int → Int → Bool → Option (List Int)
 | 0, _, _, _, _, _ => none
 | k + 1, x0, x1, x5, x6, x7 => spec_covers.l1 k x0 x1 x5 x6 x7 0
def spec_covers.l1 : Nat → List Int → Int → List Int → Int → Bool → Int → Option (List Int)
 | 0, _, _, _, _, _, _ => none
 | k + 1, x0, x1, x5, x6, x7, x8 => if x8 < (x0.length : Int) then (spec_covers.j3 k x0 x1 x5 x6 x7 x8 x7) else (spec_covers.j3 k x0 x1 x5 x6 x7 x8 false)
def spec_covers.j3 : Nat → List Int → Int → List Int → Int → Bool → Int → Bool → Option (List Int)
 | 0, _, _, _, _, _, _, _ => none
 | k + 1, x0, x1, x5, x6, x7, x8, x31 => if x31 = true then (if x8 = x1 then (spec_covers.l1 k x0 x1 x5 x6 true (wrap64 (x8 + 1))) else (if x8 = x6 then (spec_covers.l1 k x0 x1 x5 x6 true (wrap64 (x8 + 1))) else ((spec_below.f k x0 x1 x8).bind fun t517 => (if t517 = true then ((spec_below.f k x0 x8 x6).bind fun t518 => (spec_covers.l1 k x0 x1 x5 x6 (!t518) (wrap64 (x8 + 1)))) else (spec_covers.l1 k x0 x1 x5 x6 true (wrap64 (x8 + 1))))))) else (if x7 = true then (if x5.length < 17592186044416 then (spec_covers.l0 k x0 x1 (x5 ++ [x6]) (wrap64 (x6 + 1))) else (none)) else (spec_covers.l0 k x0 x1 x5 (wrap64 (x6 + 1))))
end
def spec_covers.f (k : Nat) (l0 : List Int) (a1 : Int) : Option (List Int) := spec_covers.l0 k l0 a1 (([] : List Int)) 0
set_option maxHeartbeats 8000000 in
set_option maxRecDepth 100000 in
theorem spec_covers.calls (k : Nat) (A0 : Option Addr) (c0 : Nat) (l0 : List Int) (a1 : Int) (r : List Int) (w : World) (hr0 : Kd.C (Kd.int .i64) w A0 l0.length l0) (hc0 : l0.length ≤ c0) (h : spec_covers.f k l0 a1 = some r) :
  Calls Try.prog 95 #[.slice A0 l0.length c0, .int .i64 a1] w fun e w' => ∃ v0_ : Value, e = .returned (v0_) ∧ Kd.R (Kd.int .i64) 3 w' w.heap.size (fun _ => True) v0_ r ∧ Below w.heap.size w w' := by
 have HR0 := Aside0.mk hr0
 have HC0 := Aside0.mk hc0
 clear hr0 hc0
 have HB := Aside0.mk (Below.refl w.heap.size w)
 have H : (spec_covers.l0 k l0 a1 (([] : List Int)) 0) = some r := h
 clear h
 obtain ⟨y513, hy513⟩ : ∃ y_ : List Int, y_ = (([] : List Int)) := ⟨_, rfl⟩
 replace H : (spec_covers.l0 k l0 a1 y513 0) = some r := by first | (rw [hy513]; with_reducible exact H) | (have H2_ := (Option.bind_some _ _).symm.trans H; rw [hy513]; with_reducible exact H2_) | (have H2_ := (Option.bind_some _ _).symm.trans H; with_reducible exact H2_) | with_reducible exact H | (rw [hy513]; exact H) | exact H
 have Ny513 := Aside0.mk hy513
 clear hy513
 have H' := Aside0.mk H
 clear H
 go_enter Try.func95, Try.ntmps95
 go_wp2_with (first | ((with_reducible refine gate_dst (N := 9) rfl ?_); refine Kd.R_lit (Kd.int .i64) _ 3 ?hg (N := 9) ?hd (xs := ([] : List Int)) (inner := []) (ok := fun _ => True) (okp := fun _ => True) ?hr ?hp (fun _ hk => hk) trivial (Below.refl _ _) (Nat.le_refl _) (by simp) ?_; (case hd => rfl); (case hg => rfl); (case hr => first | (go_simp; done) | (go_simp; rfl)); (case hp => exact (Reps.none _ _)); intro v514 w3 ho4 hb hg_ hnew_; clear hg_ hnew_; (first | rw [← Ny513.out] at ho4 | (simp only [Int.reduceToNat] at ho4; rw [← Ny513.out] at ho4)); have n0_ := Aside0.mk (Kd.R_lower ho4 (below_size (by repeat (first | (with_reducible first | exact HB.out | apply below_alloc | apply pw_below_drewN | apply below_drew1) | exact HB.out)))); have n1_ := Aside0.mk (below_step (by repeat (first | (with_reducible first | exact HB.out | apply below_alloc | apply pw_below_drewN | apply below_drew1) | exact HB.out)) hb); clear HB; have HO515 := n0_; have HB := n1_; clear n0_ n1_; clear hb ho4))
 go_loopg [5, 6] k (fun kq v5 v6 w' => ∃ (x5_1 : List Int) (x6_1 : Int), v6 = .int .i64 x6_1 ∧ Aside0 (spec_covers.l0 kq l0 a1 x5_1 x6_1 = some r) ∧ Aside0 (kq ≤ k) ∧ Aside0 (Kd.R (Kd.int .i64) 3 w' w.heap.size (fun _ => True) v5 x5_1) ∧ Aside0 (Below w.heap.size w w'))
 case atStart => exact ⟨(y513), (0), (by first | rfl | (simp; done) | (simp [*]; done)), H', ⟨Nat.le_refl _⟩, ⟨by (with_reducible repeat (first | apply Kd.R_alloc | apply Kd.R_drewN | apply Kd.R_drew)); exact HO515.out⟩, ⟨by repeat (first | (with_reducible first | exact HB.out | apply below_alloc | apply pw_below_drewN | apply below_drew1) | exact HB.out)⟩⟩
 case round =>
  clear H'
  try clear p2
  obtain ⟨x5_1, x6_1, rfl, HA, HK1, HO_5, HB⟩ := hrel
  cases gk with
  | zero => exact absurd HA.out (by simp [spec_covers.l0])
  | succ k1 =>
   have H := HA.out
   clear HA
   simp only [spec_covers.l0] at H
   by_cases c5 : x6_1 < (l0.length : Int)
   ·rw [if_pos c5] at H
    have c5b0 : decide (x6_1 < (l0.length : Int)) = true := decide_eq_true c5
    clear c5
    have HC6 := Aside0.mk H
    clear H
    go_upto_region 5 with (fail)
    go_cut [7] (fun v7 wc => ∃ (kq : Nat) (x7_5 : Bool), v7 = .bool x7_5 ∧ Aside0 (spec_covers.j1 kq l0 a1 x5_1 x6_1 x7_5 = some r) ∧ Aside0 (kq ≤ k1) ∧ Aside0 (Kd.R (Kd.int .i64) 3 wc w.heap.size (fun _ => True) u5 x5_1) ∧ Aside0 (Below w.heap.size w wc))
    case first =>
     have H := HC6.out
     clear HC6
     by_cases c7 : x6_1 = a1
     ·rw [if_pos c7] at H
      have c7b0 : (x6_1 == a1) = true := beq_iff_eq.mpr c7
      have c7b1 : (x6_1 != a1) = false := bne_eq_false_iff_eq.mpr c7
      clear c7
      (first | rw [c7b0] | (simp only [i64_w, i32_w]; rw [c7b0]) | skip)
      have H' := Aside0.mk H
      clear H
      go_wp2
      go_meet
      case rel => exact ⟨_, (false), (by first | rfl | (simp; done) | (simp [*]; done)), H', ⟨by have := HK1.out; first | omega | exact Nat.le_refl _⟩, ⟨by (with_reducible repeat (first | apply Kd.R_alloc | apply Kd.R_drewN | apply Kd.R_drew)); exact HO_5.out⟩, ⟨by repeat (first | (with_reducible first | exact HB.out | apply below_alloc | apply pw_below_drewN | apply below_drew1) | exact HB.out)⟩⟩
     ·rw [if_neg c7] at H
      have c7b0 : (x6_1 == a1) = false := beq_eq_false_iff_ne.mpr c7
      have c7b1 : (x6_1 != a1) = true := bne_iff_ne.mpr c7
      (first | rw [c7b0] | (simp only [i64_w, i32_w]; rw [c7b0]) | skip)
      replace H := Option.bind_eq_some_iff.mp H
      obtain ⟨t516, A80, H⟩ := H
      replace H : (spec_covers.j1 k1 l0 a1 x5_1 x6_1 t516) = some r := H
      have A8 := Aside0.mk A80
      clear A80
      have H' := Aside0.mk H
      clear H
      go_wp2_with (first | (go_at_call 87; (with_reducible refine (spec_below.calls k1 _ _ l0 a1 x6_1 t516 _ ?side1 ?side2 A8.out).mono ?_); (case side1 => repeat (first | exact (Kd.C_below HR0.out HB.out) | (with_reducible refine Kd.C_alloc ?_ _) | (with_reducible refine Kd.C_drewN ?_ _) | (with_reducible refine Kd.C_drew ?_))); (case side2 => exact HC0.out); rintro e w' ⟨rfl, ⟨nd, rfl⟩⟩))
      go_meet
      case rel => exact ⟨_, (t516), (by first | rfl | (simp; done) | (simp [*]; done)), H', ⟨by have := HK1.out; first | omega | exact Nat.le_refl _⟩, ⟨by (with_reducible repeat (first | apply Kd.R_alloc | apply Kd.R_drewN | apply Kd.R_drew)); exact HO_5.out⟩, ⟨by repeat (first | (with_reducible first | exact HB.out | apply below_alloc | apply pw_below_drewN | apply below_drew1) | exact HB.out)⟩⟩
    case rest =>
     clear HC6
     try clear p2
     try clear c5
     try clear c5b0
     try clear c7
     try clear c7b0
     try clear c7b1
     try clear p2
     obtain ⟨kq, x7_5, rfl, HA, HJ5, HO_5, HB⟩ := hcut
     cases kq with
     | zero => exact absurd HA.out (by simp [spec_covers.j1])
     | succ kj5 =>
      have H := HA.out
      clear HA
      simp only [spec_covers.j1] at H
      have H' := Aside0.mk H
      clear H
      go_wp2
      go_loopg [7, 8] kj5 (fun kq v7 v8 w' => ∃ (x7_3 : Bool) (x8_3 : Int), v7 = .bool x7_3 ∧ v8 = .int .i64 x8_3 ∧ Aside0 (spec_covers.l1 kq l0 a1 x5_1 x6_1 x7_3 x8_3 = some r) ∧ Aside0 (kq ≤ kj5) ∧ Aside0 (Kd.R (Kd.int .i64) 3 w' w.heap.size (fun _ => True) u5 x5_1) ∧ Aside0 (Below w.heap.size w w'))
      case atStart => exact ⟨(x7_5), (0), (by first | rfl | (simp; done) | (simp [*]; done)), (by first | rfl | (simp; done) | (simp [*]; done)), H', ⟨Nat.le_refl _⟩, ⟨by (with_reducible repeat (first | apply Kd.R_alloc | apply Kd.R_drewN | apply Kd.R_drew)); exact HO_5.out⟩, ⟨by repeat (first | (with_reducible first | exact HB.out | apply below_alloc | apply pw_below_drewN | apply below_drew1) | exact HB.out)⟩⟩
      case round =>
       clear H'
       try clear p2
       try clear c5
       try clear c5b0
       try clear c7
       try clear c7b0
       try clear c7b1
       try clear p2
       obtain ⟨x7_3, x8_3, rfl, rfl, HA, HK3, HO_5, HB⟩ := hrel
       cases gk with
       | zero => exact absurd HA.out (by simp [spec_covers.l1])
       | succ k3 =>
        have H := HA.out
        clear HA
        simp only [spec_covers.l1] at H
        have HC9 := Aside0.mk H
        clear H
        go_upto_region 7 with (fail)
        go_cut [31] (fun v31 wc => ∃ (kq : Nat) (x31_8 : Bool), v31 = .bool x31_8 ∧ Aside0 (spec_covers.j3 kq l0 a1 x5_1 x6_1 x7_3 x8_3 x31_8 = some r) ∧ Aside0 (kq ≤ k3) ∧ Aside0 (Kd.R (Kd.int .i64) 3 wc w.heap.size (fun _ => True) u5 x5_1) ∧ Aside0 (Below w.heap.size w wc))
        case first =>
         have H := HC9.out
         clear HC9
         by_cases c10 : x8_3 < (l0.length : Int)
         ·rw [if_pos c10] at H
          have c10b0 : decide (x8_3 < (l0.length : Int)) = true := decide_eq_true c10
          clear c10
          (first | rw [c10b0] | (simp only [i64_w, i32_w]; rw [c10b0]) | skip)
          have H' := Aside0.mk H
          clear H
          go_wp2
          go_meet
          case rel => exact ⟨_, (x7_3), (by first | rfl | (simp; done) | (simp [*]; done)), H', ⟨by have := HK1.out; have := HJ5.out; have := HK3.out; first | omega | exact Nat.le_refl _⟩, ⟨by (with_reducible repeat (first | apply Kd.R_alloc | apply Kd.R_drewN | apply Kd.R_drew)); exact HO_5.out⟩, ⟨by repeat (first | (with_reducible first | exact HB.out | apply below_alloc | apply pw_below_drewN | apply below_drew1) | exact HB.out)⟩⟩
         ·rw [if_neg c10] at H
          have c10b0 : decide (x8_3 < (l0.length : Int)) = false := decide_eq_false c10
          clear c10
          (first | rw [c10b0] | (simp only [i64_w, i32_w]; rw [c10b0]) | skip)
          have H' := Aside0.mk H
          clear H
          go_wp2
          go_meet
          case rel => exact ⟨_, (false), (by first | rfl | (simp; done) | (simp [*]; done)), H', ⟨by have := HK1.out; have := HJ5.out; have := HK3.out; first | omega | exact Nat.le_refl _⟩, ⟨by (with_reducible repeat (first | apply Kd.R_alloc | apply Kd.R_drewN | apply Kd.R_drew)); exact HO_5.out⟩, ⟨by repeat (first | (with_reducible first | exact HB.out | apply below_alloc | apply pw_below_drewN | apply below_drew1) | exact HB.out)⟩⟩
        case rest =>
         clear HC9
         try clear c1
         try clear p2
         try clear c5
         try clear c5b0
         try clear c7
         try clear c7b0
         try clear c7b1
         try clear c9
         try clear c10
         try clear c10b0
         try clear p2
         obtain ⟨kq, x31_8, rfl, HA, HJ8, HO_5, HB⟩ := hcut
         cases kq with
         | zero => exact absurd HA.out (by simp [spec_covers.j3])
         | succ kj8 =>
          have H := HA.out
          clear HA
          simp only [spec_covers.j3] at H
          by_cases c11 : x31_8 = true
          ·subst c11
           have H1 : (if x8_3 = a1 then (spec_covers.l1 kj8 l0 a1 x5_1 x6_1 true (wrap64 (x8_3 + 1))) else (if x8_3 = x6_1 then (spec_covers.l1 kj8 l0 a1 x5_1 x6_1 true (wrap64 (x8_3 + 1))) else ((spec_below.f kj8 l0 a1 x8_3).bind fun t517 => (if t517 = true then ((spec_below.f kj8 l0 x8_3 x6_1).bind fun t518 => (spec_covers.l1 kj8 l0 a1 x5_1 x6_1 (!t518) (wrap64 (x8_3 + 1)))) else (spec_covers.l1 kj8 l0 a1 x5_1 x6_1 true (wrap64 (x8_3 + 1))))))) = some r := by rw [if_pos rfl] at H; exact H
           clear H
           have H := H1
           clear H1
           by_cases c12 : x8_3 = a1
           ·rw [if_pos c12] at H
            have c12b0 : (x8_3 == a1) = true := beq_iff_eq.mpr c12
            have c12b1 : (x8_3 != a1) = false := bne_eq_false_iff_eq.mpr c12
            clear c12
            have H' := Aside0.mk H
            clear H
            go_wp2
            go_roundg kj8
            case measure => have := HK1.out; have := HJ5.out; have := HK3.out; have := HJ8.out; omega
            case rel => exact ⟨(true), (wrap64 (x8_3 + 1)), (by first | rfl | (simp; done) | (simp [*]; done)), (by first | rfl | (simp; done) | (simp [*]; done)), H', ⟨by have := HK1.out; have := HJ5.out; have := HK3.out; have := HJ8.out; omega⟩, ⟨by (with_reducible repeat (first | apply Kd.R_alloc | apply Kd.R_drewN | apply Kd.R_drew)); exact HO_5.out⟩, ⟨by repeat (first | (with_reducible first | exact HB.out | apply below_alloc | apply pw_below_drewN | apply below_drew1) | exact HB.out)⟩⟩
           ·rw [if_neg c12] at H
            have c12b0 : (x8_3 == a1) = false := beq_eq_false_iff_ne.mpr c12
            have c12b1 : (x8_3 != a1) = true := bne_iff_ne.mpr c12
            by_cases c13 : x8_3 = x6_1
            ·rw [if_pos c13] at H
             have c13b0 : (x8_3 == x6_1) = true := beq_iff_eq.mpr c13
             have c13b1 : (x8_3 != x6_1) = false := bne_eq_false_iff_eq.mpr c13
             clear c13
             have H' := Aside0.mk H
             clear H
             go_wp2
             go_roundg kj8
             case measure => have := HK1.out; have := HJ5.out; have := HK3.out; have := HJ8.out; omega
             case rel => exact ⟨(true), (wrap64 (x8_3 + 1)), (by first | rfl | (simp; done) | (simp [*]; done)), (by first | rfl | (simp; done) | (simp [*]; done)), H', ⟨by have := HK1.out; have := HJ5.out; have := HK3.out; have := HJ8.out; omega⟩, ⟨by (with_reducible repeat (first | apply Kd.R_alloc | apply Kd.R_drewN | apply Kd.R_drew)); exact HO_5.out⟩, ⟨by repeat (first | (with_reducible first | exact HB.out | apply below_alloc | apply pw_below_drewN | apply below_drew1) | exact HB.out)⟩⟩
            ·rw [if_neg c13] at H
             have c13b0 : (x8_3 == x6_1) = false := beq_eq_false_iff_ne.mpr c13
             have c13b1 : (x8_3 != x6_1) = true := bne_iff_ne.mpr c13
             replace H := Option.bind_eq_some_iff.mp H
             obtain ⟨t517, A140, H⟩ := H
             replace H : (if t517 = true then ((spec_below.f kj8 l0 x8_3 x6_1).bind fun t518 => (spec_covers.l1 kj8 l0 a1 x5_1 x6_1 (!t518) (wrap64 (x8_3 + 1)))) else (spec_covers.l1 kj8 l0 a1 x5_1 x6_1 true (wrap64 (x8_3 + 1)))) = some r := H
             have A14 := Aside0.mk A140
             clear A140
             by_cases c15 : t517 = true
             ·subst c15
              have H1 : ((spec_below.f kj8 l0 x8_3 x6_1).bind fun t518 => (spec_covers.l1 kj8 l0 a1 x5_1 x6_1 (!t518) (wrap64 (x8_3 + 1)))) = some r := by rw [if_pos rfl] at H; exact H
              clear H
              have H := H1
              clear H1
              replace H := Option.bind_eq_some_iff.mp H
              obtain ⟨t518, A160, H⟩ := H
              replace H : (spec_covers.l1 kj8 l0 a1 x5_1 x6_1 (!t518) (wrap64 (x8_3 + 1))) = some r := H
              have A16 := Aside0.mk A160
              clear A160
              have H' := Aside0.mk H
              clear H
              go_wp2_with (first | (go_at_call 87; (with_reducible refine (spec_below.calls kj8 _ _ l0 a1 x8_3 true _ ?side1 ?side2 A14.out).mono ?_); (case side1 => repeat (first | exact (Kd.C_below HR0.out HB.out) | (with_reducible refine Kd.C_alloc ?_ _) | (with_reducible refine Kd.C_drewN ?_ _) | (with_reducible refine Kd.C_drew ?_))); (case side2 => exact HC0.out); rintro e w' ⟨rfl, ⟨nd, rfl⟩⟩) | (go_at_call 87; (with_reducible refine (spec_below.calls kj8 _ _ l0 x8_3 x6_1 t518 _ ?side1 ?side2 A16.out).mono ?_); (case side1 => repeat (first | exact (Kd.C_below HR0.out (by repeat (first | (with_reducible first | exact HB.out | apply below_alloc | apply pw_below_drewN | apply below_drew1) | exact HB.out))) | (with_reducible refine Kd.C_alloc ?_ _) | (with_reducible refine Kd.C_drewN ?_ _) | (with_reducible refine Kd.C_drew ?_))); (case side2 => exact HC0.out); rintro e w' ⟨rfl, ⟨nd, rfl⟩⟩))
              go_roundg kj8
              case measure => have := HK1.out; have := HJ5.out; have := HK3.out; have := HJ8.out; omega
              case rel => exact ⟨(!t518), (wrap64 (x8_3 + 1)), (by first | rfl | (simp; done) | (simp [*]; done)), (by first | rfl | (simp; done) | (simp [*]; done)), H', ⟨by have := HK1.out; have := HJ5.out; have := HK3.out; have := HJ8.out; omega⟩, ⟨by (with_reducible repeat (first | apply Kd.R_alloc | apply Kd.R_drewN | apply Kd.R_drew)); exact HO_5.out⟩, ⟨by repeat (first | (with_reducible first | exact HB.out | apply below_alloc | apply pw_below_drewN | apply below_drew1) | exact HB.out)⟩⟩
             ·replace c15 := Bool.eq_false_iff.mpr c15
              subst c15
              have H1 : (spec_covers.l1 kj8 l0 a1 x5_1 x6_1 true (wrap64 (x8_3 + 1))) = some r := by rw [if_neg (show ¬ (false = true) by decide)] at H; exact H
              clear H
              have H := H1
              clear H1
              have H' := Aside0.mk H
              clear H
              go_wp2_with (first | (go_at_call 87; (with_reducible refine (spec_below.calls kj8 _ _ l0 a1 x8_3 false _ ?side1 ?side2 A14.out).mono ?_); (case side1 => repeat (first | exact (Kd.C_below HR0.out HB.out) | (with_reducible refine Kd.C_alloc ?_ _) | (with_reducible refine Kd.C_drewN ?_ _) | (with_reducible refine Kd.C_drew ?_))); (case side2 => exact HC0.out); rintro e w' ⟨rfl, ⟨nd, rfl⟩⟩))
              go_roundg kj8
              case measure => have := HK1.out; have := HJ5.out; have := HK3.out; have := HJ8.out; omega
              case rel => exact ⟨(true), (wrap64 (x8_3 + 1)), (by first | rfl | (simp; done) | (simp [*]; done)), (by first | rfl | (simp; done) | (simp [*]; done)), H', ⟨by have := HK1.out; have := HJ5.out; have := HK3.out; have := HJ8.out; omega⟩, ⟨by (with_reducible repeat (first | apply Kd.R_alloc | apply Kd.R_drewN | apply Kd.R_drew)); exact HO_5.out⟩, ⟨by repeat (first | (with_reducible first | exact HB.out | apply below_alloc | apply pw_below_drewN | apply below_drew1) | exact HB.out)⟩⟩
          ·replace c11 := Bool.eq_false_iff.mpr c11
           subst c11
           have H1 : (if x7_3 = true then (if x5_1.length < 17592186044416 then (spec_covers.l0 kj8 l0 a1 (x5_1 ++ [x6_1]) (wrap64 (x6_1 + 1))) else (none)) else (spec_covers.l0 kj8 l0 a1 x5_1 (wrap64 (x6_1 + 1)))) = some r := by rw [if_neg (show ¬ (false = true) by decide)] at H; exact H
           clear H
           have H := H1
           clear H1
           by_cases c17 : x7_3 = true
           ·subst c17
            have H1 : (if x5_1.length < 17592186044416 then (spec_covers.l0 kj8 l0 a1 (x5_1 ++ [x6_1]) (wrap64 (x6_1 + 1))) else (none)) = some r := by rw [if_pos rfl] at H; exact H
            clear H
            have H := H1
            clear H1
            by_cases c18 : x5_1.length < 17592186044416
            ·rw [if_pos c18] at H
             have LMc18 := Aside0.mk c18
             clear c18
             obtain ⟨y519, hy519⟩ : ∃ y_ : List Int, y_ = (x5_1 ++ [x6_1]) := ⟨_, rfl⟩
             replace H : (spec_covers.l0 kj8 l0 a1 y519 (wrap64 (x6_1 + 1))) = some r := by first | (rw [hy519]; with_reducible exact H) | (have H2_ := (Option.bind_some _ _).symm.trans H; rw [hy519]; with_reducible exact H2_) | (have H2_ := (Option.bind_some _ _).symm.trans H; with_reducible exact H2_) | with_reducible exact H | (rw [hy519]; exact H) | exact H
             have Ny519 := Aside0.mk hy519
             clear hy519
             have H' := Aside0.mk H
             clear H
             go_wp2_with (first | ((with_reducible refine gate_builtin (b := .append) (xs := #[.tmp 57, .tmp 59]) rfl ?_); at_builtin; refine Kd.R_append (Kd.int .i64) (w0 := w) w.heap.size rfl (.tmp 57) (.tmp 59) 22 3 (.int .i64 0) 8 rfl Try.underlying22 info3 rfl (by decide) (by omega) u5 x5_1 x6_1 [.int .i64 x6_1] (fun _ => True) (fun _ => False) rfl rfl ?aP (fun _ hk => hk.elim) ?aF ?aO ?aB ?aS ?aL ?_; (case aP => exact rfl); (case aB => exact (by repeat (first | (with_reducible first | exact HB.out | apply below_alloc | apply pw_below_drewN | apply below_drew1) | exact HB.out))); (case aF => exact (fun _ _ => trivial)); (case aO => exact (by (with_reducible repeat (first | apply Kd.R_alloc | apply Kd.R_drewN | apply Kd.R_drew)); exact HO_5.out)); (case aS => exact (below_size (by repeat (first | (with_reducible first | exact HB.out | apply below_alloc | apply pw_below_drewN | apply below_drew1) | exact HB.out)))); (case aL => have := LMc18.out; omega); intro v520 w19 ho hb hg hat; rw [← Ny519.out] at ho; have n0_ := Aside0.mk (hb); have n1_ := Aside0.mk (ho); clear HB; clear HO_5; have HB := n0_; have HO521 := n1_; clear n0_ n1_; clear ho hb hg hat))
             go_roundg kj8
             case measure => have := HK1.out; have := HJ5.out; have := HK3.out; have := HJ8.out; omega
             case rel => exact ⟨(y519), (wrap64 (x6_1 + 1)), (by first | rfl | (simp; done) | (simp [*]; done)), H', ⟨by have := HK1.out; have := HJ5.out; have := HK3.out; have := HJ8.out; omega⟩, ⟨by (with_reducible repeat (first | apply Kd.R_alloc | apply Kd.R_drewN | apply Kd.R_drew)); exact HO521.out⟩, ⟨by repeat (first | (with_reducible first | exact HB.out | apply below_alloc | apply pw_below_drewN | apply below_drew1) | exact HB.out)⟩⟩
            ·rw [if_neg c18] at H
             exact absurd H (by simp)
           ·replace c17 := Bool.eq_false_iff.mpr c17
            subst c17
            have H1 : (spec_covers.l0 kj8 l0 a1 x5_1 (wrap64 (x6_1 + 1))) = some r := by rw [if_neg (show ¬ (false = true) by decide)] at H; exact H
            clear H
            have H := H1
            clear H1
            have H' := Aside0.mk H
            clear H
            go_wp2
            go_roundg kj8
            case measure => have := HK1.out; have := HJ5.out; have := HK3.out; have := HJ8.out; omega
            case rel => exact ⟨(x5_1), (wrap64 (x6_1 + 1)), (by first | rfl | (simp; done) | (simp [*]; done)), H', ⟨by have := HK1.out; have := HJ5.out; have := HK3.out; have := HJ8.out; omega⟩, ⟨by (with_reducible repeat (first | apply Kd.R_alloc | apply Kd.R_drewN | apply Kd.R_drew)); exact HO_5.out⟩, ⟨by repeat (first | (with_reducible first | exact HB.out | apply below_alloc | apply pw_below_drewN | apply below_drew1) | exact HB.out)⟩⟩
   ·rw [if_neg c5] at H
    have c5b0 : decide (x6_1 < (l0.length : Int)) = false := decide_eq_false c5
    clear c5
    obtain rfl := Option.some.inj H
    go_wp2
    go_ret
    exact ⟨_, by first | rfl | (simp [errW_none, errW_some] <;> rfl) | (simp [*, errW_none, errW_some] <;> rfl), by (with_reducible repeat (first | apply Kd.R_alloc | apply Kd.R_drewN | apply Kd.R_drew)); exact HO_5.out, by repeat (first | (with_reducible first | exact HB.out | apply below_alloc | apply pw_below_drewN | apply below_drew1) | exact HB.out)⟩

end Go.Proofs.Ytmfpaagjllaljaa.P
end
section
namespace Go.Proofs.Ytmfpaagjllaljaa.P
open Go.RowKit Go.Proofs.YtmfpaagjllaljaaW.PrintWords Go.Proofs.YtmfpaagjllaljaaW.PrintLast Go.Proofs.YtmfpaagjllaljaaW.PrintMore
attribute [local go_sem] max2_int min2_int max_two min_two max_three min_three max_four min_four   -- for this text's walks alone
set_option linter.unusedVariables false
set_option linter.unusedSimpArgs false

/-! ### spec_CoversOf: function 52 -/
def spec_CoversOf.f (k : Nat) (l0 : List Int) (a1 : Int) : Option (List Int) := (spec_good.f k l0 a1 a1).bind fun t522 => (if t522 = true then ((spec_covers.f k l0 a1).bind fun t523 => (some t523)) else (some ([] : List Int)))
set_option maxHeartbeats 8000000 in
set_option maxRecDepth 100000 in
theorem spec_CoversOf.calls (k : Nat) (A0 : Option Addr) (c0 : Nat) (l0 : List Int) (a1 : Int) (r : List Int) (w : World) (hr0 : Kd.C (Kd.int .i64) w A0 l0.length l0) (hc0 : l0.length ≤ c0) (h : spec_CoversOf.f k l0 a1 = some r) :
  Calls Try.prog 52 #[.slice A0 l0.length c0, .int .i64 a1] w fun e w' => ∃ v0_ : Value, e = .returned (v0_) ∧ Kd.R (Kd.int .i64) 3 w' w.heap.size (fun _ => True) v0_ r ∧ Below w.heap.size w w' := by
 have HR0 := Aside0.mk hr0
 have HC0 := Aside0.mk hc0
 clear hr0 hc0
 have HB := Aside0.mk (Below.refl w.heap.size w)
 have H : ((spec_good.f k l0 a1 a1).bind fun t522 => (if t522 = true then ((spec_covers.f k l0 a1).bind fun t523 => (some t523)) else (some ([] : List Int)))) = some r := h
 clear h
 replace H := Option.bind_eq_some_iff.mp H
 obtain ⟨t522, A30, H⟩ := H
 replace H : (if t522 = true then ((spec_covers.f k l0 a1).bind fun t523 => (some t523)) else (some ([] : List Int))) = some r := H
 have A3 := Aside0.mk A30
 clear A30
 by_cases c4 : t522 = true
 ·subst c4
  have H1 : ((spec_covers.f k l0 a1).bind fun t523 => (some t523)) = some r := by rw [if_pos rfl] at H; exact H
  clear H
  have H := H1
  clear H1
  replace H := Option.bind_eq_some_iff.mp H
  obtain ⟨t523, A50, H⟩ := H
  replace H : (some t523) = some r := H
  have A5 := Aside0.mk A50
  clear A50
  obtain rfl := Option.some.inj H
  go_enter Try.func52, Try.ntmps52
  go_wp2_with (first | ((with_reducible refine gate_callee (f := 86) rfl ?_); refine goesL_ (some 8) rfl rfl Try.func86 (by kernel_rfl) rfl #[.slice A0 l0.length c0, .int .i64 a1, .int .i64 a1] rfl (by (try simp only [List.map_toArray, List.map_cons, List.map_nil]); first | done | rfl | (simp only [List.length_drop, List.length_take]; rfl)) ?_; (with_reducible refine (spec_good.calls k _ _ l0 a1 a1 true _ ?side1 ?side2 A3.out).mono ?_); (case side1 => repeat (first | exact HR0.out | (with_reducible refine Kd.C_alloc ?_ _) | (with_reducible refine Kd.C_drewN ?_ _) | (with_reducible refine Kd.C_drew ?_))); (case side2 => exact HC0.out); rintro e w' ⟨rfl, ⟨nd, rfl⟩⟩; refine ⟨_, rfl, ?_⟩) | ((with_reducible refine gate_callee (f := 95) rfl ?_); refine goesL_ (some 12) rfl rfl Try.func95 (by kernel_rfl) rfl #[.slice A0 l0.length c0, .int .i64 a1] rfl (by (try simp only [List.map_toArray, List.map_cons, List.map_nil]); first | done | rfl | (simp only [List.length_drop, List.length_take]; rfl)) ?_; (with_reducible refine (spec_covers.calls k _ _ l0 a1 t523 _ ?side1 ?side2 A5.out).mono ?_); (case side1 => repeat (first | exact HR0.out | (with_reducible refine Kd.C_alloc ?_ _) | (with_reducible refine Kd.C_drewN ?_ _) | (with_reducible refine Kd.C_drew ?_))); (case side2 => exact HC0.out); rintro e w6 ⟨v524, rfl, ho0, hb⟩; refine ⟨_, rfl, ?_⟩; have n0_ := Aside0.mk (Kd.R_lower ho0 (below_size (by repeat (first | (with_reducible first | exact HB.out | apply below_alloc | apply pw_below_drewN | apply below_drew1) | exact HB.out)))); have n1_ := Aside0.mk (below_step (by repeat (first | (with_reducible first | exact HB.out | apply below_alloc | apply pw_below_drewN | apply below_drew1) | exact HB.out)) hb); clear HB; have HO525 := n0_; have HB := n1_; clear n0_ n1_; (try clear hb); (try clear hb2); (try clear hk); (try clear hi); (try clear ho0)))
  go_ret
  exact ⟨_, by first | rfl | (simp [errW_none, errW_some] <;> rfl) | (simp [*, errW_none, errW_some] <;> rfl), by (with_reducible repeat (first | apply Kd.R_alloc | apply Kd.R_drewN | apply Kd.R_drew)); exact HO525.out, by repeat (first | (with_reducible first | exact HB.out | apply below_alloc | apply pw_below_drewN | apply below_drew1) | exact HB.out)⟩
 ·replace c4 := Bool.eq_false_iff.mpr c4
  subst c4
  have H1 : (some ([] : List Int)) = some r := by rw [if_neg (show ¬ (false = true) by decide)] at H; exact H
  clear H
  have H := H1
  clear H1
  obtain rfl := Option.some.inj H
  go_enter Try.func52, Try.ntmps52
  go_wp2_with (first | ((with_reducible refine gate_callee (f := 86) rfl ?_); refine goesL_ (some 8) rfl rfl Try.func86 (by kernel_rfl) rfl #[.slice A0 l0.length c0, .int .i64 a1, .int .i64 a1] rfl (by (try simp only [List.map_toArray, List.map_cons, List.map_nil]); first | done | rfl | (simp only [List.length_drop, List.length_take]; rfl)) ?_; (with_reducible refine (spec_good.calls k _ _ l0 a1 a1 false _ ?side1 ?side2 A3.out).mono ?_); (case side1 => repeat (first | exact HR0.out | (with_reducible refine Kd.C_alloc ?_ _) | (with_reducible refine Kd.C_drewN ?_ _) | (with_reducible refine Kd.C_drew ?_))); (case side2 => exact HC0.out); rintro e w' ⟨rfl, ⟨nd, rfl⟩⟩; refine ⟨_, rfl, ?_⟩))
  go_ret
  exact ⟨_, by first | rfl | (simp [errW_none, errW_some] <;> rfl) | (simp [*, errW_none, errW_some] <;> rfl), by first | exact Kd.R_nil _ _ _ _ _ | exact Kd.N_nil _ _ _ _ _ | exact Kd.V_nil _ _ _ _ _ | exact Kd.Q_nil _ _ _ _ _ | exact Kd.S_nil _ _ _ _ _, by repeat (first | (with_reducible first | exact HB.out | apply below_alloc | apply pw_below_drewN | apply below_drew1) | exact HB.out)⟩

end Go.Proofs.Ytmfpaagjllaljaa.P
end
section
namespace Go.Proofs.Ytmfpaagjllaljaa.M
set_option linter.unusedVariables false
open Go.RowKit Go.Proofs.YtmfpaagjllaljaaW.PrintWords Go.Proofs.YtmfpaagjllaljaaW.PrintLast Go.Proofs.YtmfpaagjllaljaaW.PrintMore Go.Proofs.Ytmfpaagjllaljaa.P

/-- The numbers below n of which p holds, ascending. -/
def listN (p : Nat → Bool) (n : Nat) : List Int := ((List.range n).filter p).map fun (i : Nat) => (i : Int)
theorem listN_succ (p : Nat → Bool) (n : Nat) : listN p (n + 1) = if p n then listN p n ++ [(n : Int)] else listN p n := by
  unfold listN
  rw [List.range_succ, List.filter_append, List.map_append]
  cases h : p n <;> simp [h]
theorem listN_len (p : Nat → Bool) (n : Nat) : (listN p n).length ≤ n := by
  unfold listN
  rw [List.length_map]
  exact Nat.le_trans (List.length_filter_le _ _) (by simp)
/-- A loop that lists numbers. -/
theorem ev_list {α : Type} (F : Nat → List Int → Int → Option α) (n : Nat) (p : Nat → Bool) (r : α)
    (h1 : ∀ i, i < n → ∀ s, s.length ≤ i → ∀ r, (p i = true → Ev (fun k => F k (s ++ [(i : Int)]) ((i + 1 : Nat) : Int)) r) → (p i = false → Ev (fun k => F k s ((i + 1 : Nat) : Int)) r) → Ev (fun k => F k s (i : Int)) r)
    (h2 : Ev (fun k => F k (listN p n) (n : Int)) r) : Ev (fun k => F k [] 0) r := by
  refine ev_inv2 F n (fun i s => s = listN p i) r ?_ (fun s hs => by rw [hs]; exact h2) n 0 [] (by omega) rfl
  intro i hi s hs k
  subst hs
  refine h1 i hi _ (listN_len p i) r (fun hp => k _ ?_) (fun hp => k _ ?_)
  · rw [listN_succ, hp]; rfl
  · rw [listN_succ, hp]; rfl
/-- y is right above x. -/
def coverB (up : List Int) (x y : Nat) : Bool := (!(decide (y = x)) && le up x y) && allN up.length fun z => decide (z = x) || decide (z = y) || !(le up x z) || !(le up z y)
def CoversOfM (up : List Int) (x : Int) : List Int := if (latB up && (inB up x && inB up x)) = true then listN (coverB up x.toNat) up.length else []
theorem CoversOfM_len (up : List Int) (x : Int) : (CoversOfM up x).length ≤ 6 := by
  unfold CoversOfM
  split
  · rename_i h
    exact Nat.le_trans (listN_len _ _) (good_cases h).1.1
  · simp
theorem spec_cover_l1 {up : List Int} (h : OkR up) {x y : Nat} (hx : x < up.length) (hy : y < up.length) (s : List Int) (hs : s.length ≤ 6) (r : List Int) :
    ∀ d w ok, w + d = up.length →
      ((ok && (List.range d).all fun j => decide (w + j = x) || decide (w + j = y) || !(le up x (w + j)) || !(le up (w + j) y)) = true → Ev (fun k => spec_covers.l0 k up (x : Int) (s ++ [(y : Int)]) ((y + 1 : Nat) : Int)) r) →
      ((ok && (List.range d).all fun j => decide (w + j = x) || decide (w + j = y) || !(le up x (w + j)) || !(le up (w + j) y)) = false → Ev (fun k => spec_covers.l0 k up (x : Int) s ((y + 1 : Nat) : Int)) r) →
      Ev (fun k => spec_covers.l1 k up (x : Int) s (y : Int) ok (w : Int)) r := by
  have h6 := h.1
  intro d
  induction d with
  | zero =>
    intro w ok hw h1 h2
    refine Ev.step (fun k => by simp only [spec_covers.l1]; exact rfl) ?_
    refine Ev.neg (by omega) ?_
    refine Ev.step (fun k => by simp only [spec_covers.j3]; exact rfl) ?_
    refine Ev.neg (by decide) ?_
    rw [w64s hy (by omega)]
    cases ok with
    | true => exact Ev.pos rfl (Ev.pos (by omega) (h1 (by simp)))
    | false => exact Ev.neg (by decide) (h2 (by simp))
  | succ d ih =>
    intro w ok hw h1 h2
    rw [all_step (fun j => decide (j = x) || decide (j = y) || !(le up x j) || !(le up j y))] at h1 h2
    refine Ev.step (fun k => by simp only [spec_covers.l1]; exact rfl) ?_
    refine Ev.pos (by omega) ?_
    refine Ev.step (fun k => by simp only [spec_covers.j3]; exact rfl) ?_
    have hw' : w < up.length := by omega
    cases ok with
    | false =>
      refine Ev.neg (by decide) (Ev.neg (by decide) ?_)
      rw [w64s hy (by omega)]
      exact h2 (by simp)
    | true =>
      refine Ev.pos rfl ?_
      have hst := fun b (hb : b = (decide (w = x) || decide (w = y) || !(le up x w) || !(le up w y))) => ih (w + 1) b (by omega) (by rw [hb]; simpa using h1) (by rw [hb]; simpa using h2)
      rw [w64s hw' (by omega)]
      by_cases c1 : w = x
      · exact Ev.pos (by omega) (hst true (by rw [decide_eq_true c1]; rfl))
      · refine Ev.neg (by omega) ?_
        by_cases c2 : w = y
        · exact Ev.pos (by omega) (hst true (by rw [decide_eq_true c2, Bool.or_true]; rfl))
        · refine Ev.neg (by omega) (Ev.bind (spec_below_ev h hx (by omega)) ?_)
          rw [decide_eq_false c1, decide_eq_false c2] at hst
          cases hA : le up x w with
          | false => exact Ev.neg (by decide) (hst true (by rw [hA]; rfl))
          | true =>
            refine Ev.pos rfl (Ev.bind (spec_below_ev h hw' (by omega)) ?_)
            exact hst _ (by rw [hA]; rfl)
theorem spec_CoversOf_ev (up : List Int) (x : Int) (hl : up.length ≤ 17592186044416) : Ev (fun k => spec_CoversOf.f k up x) (CoversOfM up x) := by
  unfold spec_CoversOf.f CoversOfM spec_covers.f
  refine Ev.bind (good_ev up x x hl) ?_
  cases hg : (latB up && (inB up x && inB up x)) with
  | false => exact Ev.neg (by decide) (Ev.some _)
  | true =>
    obtain ⟨h, h1, a, b, rfl, _, ha, hb⟩ := good_cases hg
    have h6 := h.1
    rw [if_pos rfl, Int.toNat_natCast]
    refine Ev.pos rfl (Ev.bind (a := listN (coverB up a) up.length) ?_ (Ev.some _))
    refine ev_list (fun k s i => spec_covers.l0 k up (a : Int) s i) up.length (coverB up a) _ ?_ ?_
    · intro y hy s hs r k1 k2
      refine Ev.step (fun k => by simp only [spec_covers.l0]; exact rfl) ?_
      refine Ev.pos (by omega) ?_
      have hj : ∀ ok, ok = (!(decide (y = a)) && le up a y) → Ev (fun k => spec_covers.j1 k up (a : Int) s (y : Int) ok) r := by
        intro ok hok
        refine Ev.step (fun k => by simp only [spec_covers.j1]; exact rfl) ?_
        refine spec_cover_l1 h ha hy s (by omega) r up.length 0 ok (by omega) ?_ ?_
        · rw [hok]; simpa [coverB, allN] using k1
        · rw [hok]; simpa [coverB, allN] using k2
      by_cases c : y = a
      · exact Ev.pos (by omega) (hj false (by rw [decide_eq_true c]; rfl))
      · exact Ev.neg (by omega) (Ev.bind (spec_below_ev h ha (by omega)) (hj _ (by rw [decide_eq_false c]; rfl)))
    · refine Ev.step (fun k => by simp only [spec_covers.l0]; exact rfl) ?_
      exact Ev.neg (by omega) (Ev.some _)
theorem impl_cover_l1 {up : List Int} (h : OkR up) {x y : Nat} (hx : x < up.length) (hy : y < up.length) (s : List Int) (hs : s.length ≤ 6) (r : List Int) :
    ∀ d w bt, w + d = up.length →
      ((!bt && (List.range d).all fun j => decide (w + j = x) || decide (w + j = y) || !(le up x (w + j)) || !(le up (w + j) y)) = true → Ev (fun k => impl_CoversOf.l0 k up (x : Int) (s ++ [(y : Int)]) (up.length : Int) ((y + 1 : Nat) : Int)) r) →
      ((!bt && (List.range d).all fun j => decide (w + j = x) || decide (w + j = y) || !(le up x (w + j)) || !(le up (w + j) y)) = false → Ev (fun k => impl_CoversOf.l0 k up (x : Int) s (up.length : Int) ((y + 1 : Nat) : Int)) r) →
      Ev (fun k => impl_CoversOf.l1 k up (x : Int) s (y : Int) bt (up.length : Int) (y : Int) (up.length : Int) (w : Int)) r := by
  have h6 := h.1
  intro d
  induction d with
  | zero =>
    intro w bt hw h1 h2
    refine Ev.step (fun k => by simp only [impl_CoversOf.l1]; exact rfl) ?_
    refine Ev.neg (by omega) ?_
    rw [w64s hy (by omega)]
    cases bt with
    | false => exact Ev.neg (by decide) (Ev.pos (by omega) (h1 (by simp)))
    | true => exact Ev.pos rfl (h2 (by simp))
  | succ d ih =>
    intro w bt hw h1 h2
    rw [all_step (fun j => decide (j = x) || decide (j = y) || !(le up x j) || !(le up j y))] at h1 h2
    refine Ev.step (fun k => by simp only [impl_CoversOf.l1]; exact rfl) ?_
    refine Ev.pos (by omega) ?_
    have hw' : w < up.length := by omega
    have hst := fun b (hb : (!b) = (!bt && (decide (w = x) || decide (w = y) || !(le up x w) || !(le up w y)))) => ih (w + 1) b (by omega) (by rw [hb, Bool.and_assoc]; exact h1) (by rw [hb, Bool.and_assoc]; exact h2)
    rw [w64s hw' (by omega)]
    cases bt with
    | true => exact Ev.pos rfl (hst true rfl)
    | false =>
      refine Ev.neg (by decide) ?_
      by_cases c1 : w = x
      · exact Ev.pos (by omega) (hst false (by rw [decide_eq_true c1]; rfl))
      · refine Ev.neg (by omega) ?_
        by_cases c2 : w = y
        · exact Ev.pos (by omega) (hst false (by rw [decide_eq_true c2, Bool.or_true]; rfl))
        · refine Ev.neg (by omega) (Ev.bindc (impl_below_eq h hx) ?_)
          rw [decide_eq_false c1, decide_eq_false c2] at hst
          cases hA : le up x w with
          | false => exact Ev.neg (by decide) (hst false (by rw [hA]; rfl))
          | true =>
            refine Ev.pos rfl (Ev.bindc (impl_below_eq h hw') ?_)
            exact hst _ (by rw [hA]; rfl)
theorem impl_CoversOf_ev (up : List Int) (x : Int) (hl : up.length ≤ 17592186044416) : Ev (fun k => impl_CoversOf.f k up x) (CoversOfM up x) := by
  unfold impl_CoversOf.f CoversOfM
  refine Ev.bind (latticeAt_ev up [x] hl (by simp)) ?_
  rw [one_in]
  cases hg : (latB up && (inB up x && inB up x)) with
  | false => exact Ev.neg (by decide) (Ev.some _)
  | true =>
    obtain ⟨h, h1, a, b, rfl, _, ha, hb⟩ := good_cases hg
    have h6 := h.1
    rw [if_pos rfl, Int.toNat_natCast]
    refine Ev.pos rfl ?_
    refine ev_list (fun k s i => impl_CoversOf.l0 k up (a : Int) s (up.length : Int) i) up.length (coverB up a) _ ?_ ?_
    · intro y hy s hs r k1 k2
      refine Ev.step (fun k => by simp only [impl_CoversOf.l0]; exact rfl) ?_
      refine Ev.pos (by omega) ?_
      have hno : (!(decide (y = a)) && le up a y) = false → Ev (fun k => impl_CoversOf.j1 k up (a : Int) s (y : Int) (up.length : Int) (y : Int) true) r := by
        intro e
        refine Ev.step (fun k => by simp only [impl_CoversOf.j1]; exact rfl) ?_
        refine Ev.pos (by first | rfl | trivial) ?_
        rw [w64s hy (by omega)]
        exact k2 (by rw [coverB, e]; rfl)
      by_cases c : y = a
      · exact Ev.pos (by omega) (hno (by rw [decide_eq_true c]; rfl))
      · refine Ev.neg (by omega) (Ev.bindc (impl_below_eq h ha) ?_)
        cases hA : le up a y with
        | false => exact hno (by rw [hA, Bool.and_false])
        | true =>
          refine Ev.step (fun k => by simp only [impl_CoversOf.j1]; exact rfl) ?_
          refine Ev.neg (by decide) ?_
          refine impl_cover_l1 h ha hy s (by omega) r up.length 0 false (by omega) ?_ ?_
          · simpa [coverB, allN, hA, c] using k1
          · simpa [coverB, allN, hA, c] using k2
    · refine Ev.step (fun k => by simp only [impl_CoversOf.l0]; exact rfl) ?_
      exact Ev.neg (by omega) (Ev.some _)
end Go.Proofs.Ytmfpaagjllaljaa.M
end
section
namespace Go.Proofs.Ytmfpaagjllaljaa.P
open Go.RowKit Go.Proofs.YtmfpaagjllaljaaW.PrintWords Go.Proofs.YtmfpaagjllaljaaW.PrintLast Go.Proofs.YtmfpaagjllaljaaW.PrintMore
attribute [local go_sem] max2_int min2_int max_two min_two max_three min_three max_four min_four   -- for this text's walks alone
set_option linter.unusedVariables false
set_option linter.unusedSimpArgs false

/-! ### spec_DrawComplementsOf: function 69 -/
def spec_DrawComplementsOf.f (k : Nat) (l0 : List Int) : Option (List Int × Int) := (spec_newReader.f l0).bind fun bt937 => ((spec_someLattice.f k bt937.1 bt937.2).bind fun bt940 => ((spec_element.f k bt937.1 bt940.2 (bt940.1.length : Int)).bind fun bt944 => (some (bt940.1, bt944.1))))
set_option maxHeartbeats 8000000 in
set_option maxRecDepth 100000 in
theorem spec_DrawComplementsOf.calls (k : Nat) (A0 : Option Addr) (c0 : Nat) (l0 : List Int) (r1 : List Int) (r2 : Int) (w : World) (hr0 : Kd.C (Kd.int .u8) w A0 l0.length l0) (hc0 : l0.length ≤ c0) (h : spec_DrawComplementsOf.f k l0 = some (r1, r2)) :
  Calls Try.prog 69 #[.slice A0 l0.length c0] w fun e w' => ∃ v0_ : Value, e = .returned (.tuple #[v0_, .int .i64 r2]) ∧ Kd.R (Kd.int .i64) 3 w' w.heap.size (fun _ => True) v0_ r1 ∧ Below w.heap.size w w' := by
 have HR0 := Aside0.mk hr0
 have HC0 := Aside0.mk hc0
 clear hr0 hc0
 have HB := Aside0.mk (Below.refl w.heap.size w)
 have H : ((spec_newReader.f l0).bind fun bt937 => ((spec_someLattice.f k bt937.1 bt937.2).bind fun bt940 => ((spec_element.f k bt937.1 bt940.2 (bt940.1.length : Int)).bind fun bt944 => (some (bt940.1, bt944.1))))) = some (r1, r2) := h
 clear h
 replace H := Option.bind_eq_some_iff.mp H
 obtain ⟨⟨t937, t938⟩, A20, H⟩ := H
 replace H : ((spec_someLattice.f k t937 t938).bind fun bt940 => ((spec_element.f k t937 bt940.2 (bt940.1.length : Int)).bind fun bt944 => (some (bt940.1, bt944.1)))) = some (r1, r2) := H
 have A2 := Aside0.mk A20
 clear A20
 replace H := Option.bind_eq_some_iff.mp H
 obtain ⟨⟨t940, t943⟩, A30, H⟩ := H
 replace H : ((spec_element.f k t937 t943 (t940.length : Int)).bind fun bt944 => (some (t940, bt944.1))) = some (r1, r2) := H
 have A3 := Aside0.mk A30
 clear A30
 replace H := Option.bind_eq_some_iff.mp H
 obtain ⟨⟨t944, t945⟩, A40, H⟩ := H
 replace H : (some (t940, t944)) = some (r1, r2) := H
 have A4 := Aside0.mk A40
 clear A40
 simp only [Option.some.injEq, Prod.mk.injEq] at H
 obtain ⟨rfl, rfl⟩ := H
 go_enter Try.func69, Try.ntmps69
 go_wp2_with (first | ((with_reducible refine gate_callee (f := 80) rfl ?_); refine goesL_ (some 7) rfl rfl Try.func80 (by kernel_rfl) rfl #[.slice A0 l0.length c0] rfl (by (try simp only [List.map_toArray, List.map_cons, List.map_nil]); first | done | rfl | (simp only [List.length_drop, List.length_take]; rfl)) ?_; (with_reducible refine (spec_newReader.calls _ _ l0 t937 t938 w _ ?side1 ?side2 ?side3 A2.out).mono ?_); (case side1 => repeat (first | (with_reducible first | exact HB.out | apply below_alloc | apply pw_below_drewN | apply below_drew1) | exact HB.out)); (case side2 => exact HR0.out); (case side3 => exact HC0.out); rintro e w5 ⟨g939, rfl, hi, hb, hb2⟩; refine ⟨_, rfl, ?_⟩; have n0_ := Aside0.mk (hb); have n1_ := Aside0.mk (hi); clear HB; have HB := n0_; have HI939 := n1_; clear n0_ n1_; (try clear hb); (try clear hb2); (try clear hk); (try clear hi)) | ((with_reducible refine gate_callee (f := 99) rfl ?_); refine goesL_ (some 9) rfl rfl Try.func99 (by kernel_rfl) rfl #[.pointer (some ⟨g939, 0, none⟩)] rfl (by (try simp only [List.map_toArray, List.map_cons, List.map_nil]); first | done | rfl | (simp only [List.length_drop, List.length_take]; rfl)) ?_; (with_reducible refine (spec_someLattice.calls k g939 t937 t938 t940 t943 w _ ?side1 ?side2 A3.out).mono ?_); (case side1 => repeat (first | (with_reducible first | exact HI939.out | apply IsS66.alloc | apply IsS66.drewN | apply IsS66.drew | apply IsS66.set_1) | exact HI939.out)); (case side2 => repeat (first | (with_reducible first | exact HB.out | apply below_alloc | apply pw_below_drewN | apply below_drew1 | refine below_set ?_ (IsS66.ge HI939.out)) | exact HB.out)); rintro e w6 ⟨v941, rfl, ho0, hi, hb, hk⟩; refine ⟨_, rfl, ?_⟩; have n0_ := Aside0.mk (Kd.R_lower ho0 (below_size (by repeat (first | (with_reducible first | exact HB.out | apply below_alloc | apply pw_below_drewN | apply below_drew1 | refine below_set ?_ (IsS66.ge HI939.out)) | exact HB.out)))); have n1_ := Aside0.mk (hb); have n2_ := Aside0.mk (hi); clear HB; clear HI939; have HO942 := n0_; have HB := n1_; have HI939 := n2_; clear n0_ n1_ n2_; (try clear hb); (try clear hb2); (try clear hk); (try clear hi); (try clear ho0); obtain ⟨Ao7, co7, eo7⟩ := Kd.R_slice HO942.out; subst eo7) | ((with_reducible refine gate_callee (f := 100) rfl ?_); refine goesL_ (some 14) rfl rfl Try.func100 (by kernel_rfl) rfl #[.pointer (some ⟨g939, 0, none⟩), .int .i64 (t940.length : Int)] rfl (by (try simp only [List.map_toArray, List.map_cons, List.map_nil]); first | done | rfl | (simp only [List.length_drop, List.length_take]; rfl)) ?_; (with_reducible refine (spec_element.calls k g939 t937 t943 (t940.length : Int) t944 t945 w _ ?side1 ?side2 A4.out).mono ?_); (case side1 => repeat (first | (with_reducible first | exact HI939.out | apply IsS66.alloc | apply IsS66.drewN | apply IsS66.drew | apply IsS66.set_1) | exact HI939.out)); (case side2 => repeat (first | (with_reducible first | exact HB.out | apply below_alloc | apply pw_below_drewN | apply below_drew1 | refine below_set ?_ (IsS66.ge HI939.out)) | exact HB.out)); rintro e w8 ⟨rfl, hi, hb, hk⟩; refine ⟨_, rfl, ?_⟩; have n0_ := Aside0.mk (Kd.R_mono (Kd.R_keep (IsS66.apart (show IsS66 w _ g939 t937 t943 from by repeat (first | (with_reducible first | exact HI939.out | apply IsS66.alloc | apply IsS66.drewN | apply IsS66.drew | apply IsS66.set_1) | exact HI939.out)) (by (with_reducible repeat (first | apply Kd.R_alloc | apply Kd.R_drewN | apply Kd.R_drew)); exact HO942.out) (by decide)) hk (fun _ h => h.2)) (fun _ h => h.1)); have n1_ := Aside0.mk (hb); have n2_ := Aside0.mk (hi); clear HO942; clear HB; clear HI939; have HO942 := n0_; have HB := n1_; have HI939 := n2_; clear n0_ n1_ n2_; (try clear hb); (try clear hb2); (try clear hk); (try clear hi)))
 go_ret2
 exact ⟨_, by first | rfl | (simp [errW_none, errW_some] <;> rfl) | (simp [*, errW_none, errW_some] <;> rfl), by (with_reducible repeat (first | apply Kd.R_alloc | apply Kd.R_drewN | apply Kd.R_drew)); exact HO942.out, by repeat (first | (with_reducible first | exact HB.out | apply below_alloc | apply pw_below_drewN | apply below_drew1 | refine below_set ?_ (IsS66.ge HI939.out)) | exact HB.out)⟩

/-! ### laws_isIn: function 70 -/
def laws_isIn.l0 : Nat → List Int → Int → Int → Option (Bool)
 | 0, _, _, _ => none
 | k + 1, x0, x1, x5 => if x5 < (x0.length : Int) then (if 0 ≤ x5 then (if (rd x0 x5) = x1 then (some true) else (laws_isIn.l0 k x0 x1 (wrap64 (x5 + 1)))) else (none)) else (some false)
def laws_isIn.f (k : Nat) (l0 : List Int) (a1 : Int) : Option (Bool) := laws_isIn.l0 k l0 a1 0
set_option maxHeartbeats 8000000 in
set_option maxRecDepth 100000 in
theorem laws_isIn.calls (k : Nat) (A0 : Option Addr) (c0 : Nat) (l0 : List Int) (a1 : Int) (r : Bool) (w : World) (hr0 : Kd.C (Kd.int .i64) w A0 l0.length l0) (hc0 : l0.length ≤ c0) (h : laws_isIn.f k l0 a1 = some r) :
  Calls Try.prog 70 #[.slice A0 l0.length c0, .int .i64 a1] w fun e w' => e = .returned (.bool r) ∧ Drawn0 w w' := by
 have HR0 := Aside0.mk hr0
 have HC0 := Aside0.mk hc0
 clear hr0 hc0
 have H : (laws_isIn.l0 k l0 a1 0) = some r := h
 clear h
 have H' := Aside0.mk H
 clear H
 go_enter Try.func70, Try.ntmps70
 go_wp2
 go_loopg [5] k (fun kq v5 w' => ∃ (x5_1 : Int), v5 = .int .i64 x5_1 ∧ Aside0 (laws_isIn.l0 kq l0 a1 x5_1 = some r) ∧ Aside0 (kq ≤ k) ∧ Drawn0 w w')
 case atStart => exact ⟨(0), (by first | rfl | (simp; done) | (simp [*]; done)), H', ⟨Nat.le_refl _⟩, by repeat (first | exact Drawn0.refl _ | apply Drawn0.step)⟩
 case round =>
  clear H'
  try clear p2
  obtain ⟨x5_1, rfl, HA, HK1, ⟨m1, rfl⟩⟩ := hrel
  cases gk with
  | zero => exact absurd HA.out (by simp [laws_isIn.l0])
  | succ k1 =>
   have H := HA.out
   clear HA
   simp only [laws_isIn.l0] at H
   by_cases c3 : x5_1 < (l0.length : Int)
   ·rw [if_pos c3] at H
    have c3b0 : decide (x5_1 < (l0.length : Int)) = true := decide_eq_true c3
    clear c3
    by_cases c4 : 0 ≤ x5_1
    ·rw [if_pos c4] at H
     have c4b0 : decide (0 ≤ x5_1) = true := decide_eq_true c4
     clear c4
     by_cases c5 : (rd l0 x5_1) = a1
     ·rw [if_pos c5] at H
      have c5b0 : ((rd l0 x5_1) == a1) = true := beq_iff_eq.mpr c5
      have c5b1 : ((rd l0 x5_1) != a1) = false := bne_eq_false_iff_eq.mpr c5
      clear c5
      obtain rfl := Option.some.inj H
      have p946 : 0 ≤ (x5_1 : Int) := of_decide_eq_true (by first | (with_reducible assumption) | assumption)
      have q946 : x5_1 < (l0.length : Int) := of_decide_eq_true (by first | (with_reducible assumption) | assumption)
      obtain ⟨ad946, e946, hx946_0⟩ := Kd.at_int HR0.out x5_1 p946 q946
      cases e946
      replace p946 := eq_true p946
      replace q946 := eq_true q946
      go_wp2
      go_ret
      exact ⟨by first | rfl | (simp; done) | (simp [*]; done), by repeat (first | exact Drawn0.refl _ | apply Drawn0.step)⟩
     ·rw [if_neg c5] at H
      have c5b0 : ((rd l0 x5_1) == a1) = false := beq_eq_false_iff_ne.mpr c5
      have c5b1 : ((rd l0 x5_1) != a1) = true := bne_iff_ne.mpr c5
      have H' := Aside0.mk H
      clear H
      have p946 : 0 ≤ (x5_1 : Int) := of_decide_eq_true (by first | (with_reducible assumption) | assumption)
      have q946 : x5_1 < (l0.length : Int) := of_decide_eq_true (by first | (with_reducible assumption) | assumption)
      obtain ⟨ad946, e946, hx946_0⟩ := Kd.at_int HR0.out x5_1 p946 q946
      cases e946
      replace p946 := eq_true p946
      replace q946 := eq_true q946
      go_wp2
      go_roundg k1
      case measure => have := HK1.out; omega
      case rel => exact ⟨(wrap64 (x5_1 + 1)), (by first | rfl | (simp; done) | (simp [*]; done)), H', ⟨by have := HK1.out; omega⟩, by repeat (first | exact Drawn0.refl _ | apply Drawn0.step)⟩
    ·rw [if_neg c4] at H
     exact absurd H (by simp)
   ·rw [if_neg c3] at H
    have c3b0 : decide (x5_1 < (l0.length : Int)) = false := decide_eq_false c3
    clear c3
    obtain rfl := Option.some.inj H
    go_wp2
    go_ret
    exact ⟨by first | rfl | (simp; done) | (simp [*]; done), by repeat (first | exact Drawn0.refl _ | apply Drawn0.step)⟩

end Go.Proofs.Ytmfpaagjllaljaa.P
end
section
namespace Go.Proofs.Ytmfpaagjllaljaa.P
open Go.RowKit Go.Proofs.YtmfpaagjllaljaaW.PrintWords Go.Proofs.YtmfpaagjllaljaaW.PrintLast Go.Proofs.YtmfpaagjllaljaaW.PrintMore
attribute [local go_sem] max2_int min2_int max_two min_two max_three min_three max_four min_four   -- for this text's walks alone
set_option linter.unusedVariables false
set_option linter.unusedSimpArgs false

/-! ### laws_ascends: function 71 -/
def laws_ascends.l0 : Nat → List Int → Int → Option (Bool)
 | 0, _, _ => none
 | k + 1, x0, x3 => if x3 < (x0.length : Int) then (if 0 ≤ x3 then (if 0 ≤ (wrap64 (x3 - 1)) then (if (wrap64 (x3 - 1)) < (x0.length : Int) then (if (rd x0 x3) ≤ (rd x0 (wrap64 (x3 - 1))) then (some false) else (laws_ascends.l0 k x0 (wrap64 (x3 + 1)))) else (none)) else (none)) else (none)) else (some true)
def laws_ascends.f (k : Nat) (l0 : List Int) : Option (Bool) := laws_ascends.l0 k l0 1
set_option maxHeartbeats 8000000 in
set_option maxRecDepth 100000 in
theorem laws_ascends.calls (k : Nat) (A0 : Option Addr) (c0 : Nat) (l0 : List Int) (r : Bool) (w : World) (hr0 : Kd.C (Kd.int .i64) w A0 l0.length l0) (hc0 : l0.length ≤ c0) (h : laws_ascends.f k l0 = some r) :
  Calls Try.prog 71 #[.slice A0 l0.length c0] w fun e w' => e = .returned (.bool r) ∧ Drawn0 w w' := by
 have HR0 := Aside0.mk hr0
 have HC0 := Aside0.mk hc0
 clear hr0 hc0
 have H : (laws_ascends.l0 k l0 1) = some r := h
 clear h
 have H' := Aside0.mk H
 clear H
 go_enter Try.func71, Try.ntmps71
 go_wp2
 repeat (go_quiet (fail); try go_wp2)
 go_loopg [3] k (fun kq v3 w' => ∃ (x3_1 : Int), v3 = .int .i64 x3_1 ∧ Aside0 (laws_ascends.l0 kq l0 x3_1 = some r) ∧ Aside0 (kq ≤ k) ∧ Drawn0 w w')
 case atStart => exact ⟨(1), (by first | rfl | (simp; done) | (simp [*]; done)), H', ⟨Nat.le_refl _⟩, by repeat (first | exact Drawn0.refl _ | apply Drawn0.step)⟩
 case round =>
  clear H'
  obtain ⟨x3_1, rfl, HA, HK1, ⟨m1, rfl⟩⟩ := hrel
  cases gk with
  | zero => exact absurd HA.out (by simp [laws_ascends.l0])
  | succ k1 =>
   have H := HA.out
   clear HA
   simp only [laws_ascends.l0] at H
   by_cases c2 : x3_1 < (l0.length : Int)
   ·rw [if_pos c2] at H
    have c2b0 : decide (x3_1 < (l0.length : Int)) = true := decide_eq_true c2
    clear c2
    by_cases c3 : 0 ≤ x3_1
    ·rw [if_pos c3] at H
     have c3b0 : decide (0 ≤ x3_1) = true := decide_eq_true c3
     clear c3
     obtain ⟨ji4, hji4⟩ : ∃ j_ : Int, (wrap64 (x3_1 - 1)) = j_ := ⟨_, rfl⟩
     replace H : (if 0 ≤ (ji4) then (if (ji4) < (l0.length : Int) then (if (rd l0 x3_1) ≤ (rd l0 (ji4)) then (some false) else (laws_ascends.l0 k1 l0 (wrap64 (x3_1 + 1)))) else (none)) else (none)) = some r := by first | (rw [hji4] at H; exact H) | (simp only [hji4] at H ⊢; exact H)
     have hji4w : (IntKind.i64.wrap (x3_1 - 1)) = ji4 := (i64_w _).trans hji4
     by_cases c5 : 0 ≤ (ji4)
     ·rw [if_pos c5] at H
      have c5b0 : decide (0 ≤ (ji4)) = true := decide_eq_true c5
      clear c5
      by_cases c6 : (ji4) < (l0.length : Int)
      ·rw [if_pos c6] at H
       have c6b0 : decide ((ji4) < (l0.length : Int)) = true := decide_eq_true c6
       clear c6
       by_cases c7 : (rd l0 x3_1) ≤ (rd l0 (ji4))
       ·rw [if_pos c7] at H
        have c7b0 : decide ((rd l0 x3_1) ≤ (rd l0 (ji4))) = true := decide_eq_true c7
        clear c7
        obtain rfl := Option.some.inj H
        have p947 : 0 ≤ (x3_1 : Int) := of_decide_eq_true (by first | (with_reducible assumption) | assumption)
        have q947 : x3_1 < (l0.length : Int) := of_decide_eq_true (by first | (with_reducible assumption) | assumption)
        obtain ⟨ad947, e947, hx947_0⟩ := Kd.at_int HR0.out x3_1 p947 q947
        cases e947
        replace p947 := eq_true p947
        replace q947 := eq_true q947
        have p948 : 0 ≤ ((ji4) : Int) := of_decide_eq_true (by first | (with_reducible assumption) | assumption)
        have q948 : (ji4) < (l0.length : Int) := of_decide_eq_true (by first | (with_reducible assumption) | assumption)
        obtain ⟨ad948, e948, hx948_0⟩ := Kd.at_int HR0.out (ji4) p948 q948
        obtain rfl : ad947 = ad948 := (by injection e948)
        replace p948 := eq_true p948
        replace q948 := eq_true q948
        go_wp2
        repeat (go_quiet (fail); try go_wp2)
        go_ret
        exact ⟨by first | rfl | (simp; done) | (simp only [← hji4] <;> (first | rfl | simp)) | (simp [*]; done), by repeat (first | exact Drawn0.refl _ | apply Drawn0.step)⟩
       ·rw [if_neg c7] at H
        have c7b0 : decide ((rd l0 x3_1) ≤ (rd l0 (ji4))) = false := decide_eq_false c7
        clear c7
        have H' := Aside0.mk H
        clear H
        have p947 : 0 ≤ (x3_1 : Int) := of_decide_eq_true (by first | (with_reducible assumption) | assumption)
        have q947 : x3_1 < (l0.length : Int) := of_decide_eq_true (by first | (with_reducible assumption) | assumption)
        obtain ⟨ad947, e947, hx947_0⟩ := Kd.at_int HR0.out x3_1 p947 q947
        cases e947
        replace p947 := eq_true p947
        replace q947 := eq_true q947
        have p948 : 0 ≤ ((ji4) : Int) := of_decide_eq_true (by first | (with_reducible assumption) | assumption)
        have q948 : (ji4) < (l0.length : Int) := of_decide_eq_true (by first | (with_reducible assumption) | assumption)
        obtain ⟨ad948, e948, hx948_0⟩ := Kd.at_int HR0.out (ji4) p948 q948
        obtain rfl : ad947 = ad948 := (by injection e948)
        replace p948 := eq_true p948
        replace q948 := eq_true q948
        go_wp2
        repeat (go_quiet (fail); try go_wp2)
        go_roundg k1
        case measure => have := HK1.out; omega
        case rel => exact ⟨(wrap64 (x3_1 + 1)), (by first | rfl | (simp; done) | (simp [*]; done)), H', ⟨by have := HK1.out; omega⟩, by repeat (first | exact Drawn0.refl _ | apply Drawn0.step)⟩
      ·rw [if_neg c6] at H
       exact absurd H (by simp)
     ·rw [if_neg c5] at H
      exact absurd H (by simp)
    ·rw [if_neg c3] at H
     exact absurd H (by simp)
   ·rw [if_neg c2] at H
    have c2b0 : decide (x3_1 < (l0.length : Int)) = false := decide_eq_false c2
    clear c2
    obtain rfl := Option.some.inj H
    go_wp2
    repeat (go_quiet (fail); try go_wp2)
    go_ret
    exact ⟨by first | rfl | (simp; done) | (simp [*]; done), by repeat (first | exact Drawn0.refl _ | apply Drawn0.step)⟩

end Go.Proofs.Ytmfpaagjllaljaa.P
end
section
namespace Go.Proofs.Ytmfpaagjllaljaa.M
set_option linter.unusedVariables false
open Go.RowKit Go.Proofs.YtmfpaagjllaljaaW.PrintWords Go.Proofs.YtmfpaagjllaljaaW.PrintLast Go.Proofs.YtmfpaagjllaljaaW.PrintMore Go.Proofs.Ytmfpaagjllaljaa.P

theorem listN_mem {p : Nat → Bool} {n : Nat} {v : Int} : v ∈ listN p n ↔ ∃ c : Nat, c < n ∧ p c = true ∧ v = (c : Int) := by
  unfold listN
  simp only [List.mem_map, List.mem_filter, List.mem_range]
  constructor
  · rintro ⟨c, ⟨h1, h2⟩, h3⟩
    exact ⟨c, h1, h2, h3.symm⟩
  · rintro ⟨c, h1, h2, h3⟩
    exact ⟨c, ⟨h1, h2⟩, h3.symm⟩
theorem listN_asc (p : Nat → Bool) (n : Nat) : (listN p n).Pairwise (· < ·) := by
  unfold listN
  rw [List.pairwise_map]
  refine List.Pairwise.imp ?_ (List.Pairwise.filter p List.pairwise_lt_range)
  intro a b h
  exact Int.ofNat_lt.mpr h
theorem listN_one {p : Nat → Bool} {n : Nat} (h : ∀ b c, b < n → c < n → p b = true → p c = true → b = c) : (listN p n).length ≤ 1 := by
  induction n with
  | zero => simp [listN]
  | succ n ih =>
    rw [listN_succ]
    by_cases e : p n = true
    · rw [if_pos e]
      have : listN p n = [] := by
        rw [List.eq_nil_iff_forall_not_mem]
        intro v hv
        obtain ⟨c, h1, h2, _⟩ := listN_mem.1 hv
        have := h c n (by omega) (by omega) h2 e
        omega
      rw [this]
      exact Nat.le_refl 1
    · rw [if_neg e]
      exact ih fun b c hb hc => h b c (by omega) (by omega)
theorem isIn_ev (l : List Int) (x : Int) (hl : l.length ≤ 17592186044416) : Ev (fun k => laws_isIn.f k l x) (decide (x ∈ l)) := by
  unfold laws_isIn.f
  by_cases hx : x ∈ l
  · rw [decide_eq_true hx]
    obtain ⟨j, hj, hjx⟩ := List.mem_iff_getElem.1 hx
    have : ∀ d i : Nat, i + d = j → Ev (fun k => laws_isIn.l0 k l x (i : Int)) true := by
      intro d
      induction d with
      | zero =>
        intro i hi
        obtain rfl : i = j := by omega
        refine Ev.step (fun k => by simp only [laws_isIn.l0]; exact rfl) (Ev.pos (by omega) (Ev.pos (by omega) ?_))
        exact Ev.pos (by rw [rd_lt hj]; exact hjx) (Ev.some _)
      | succ d ih =>
        intro i hi
        refine Ev.step (fun k => by simp only [laws_isIn.l0]; exact rfl) (Ev.pos (by omega) (Ev.pos (by omega) ?_))
        refine Ev.ite' (fun _ => Ev.some _) (fun _ => ?_)
        rw [w64s (n := l.length) (by omega) (by omega)]
        exact ih (i + 1) (by omega)
    exact this j 0 (by omega)
  · rw [decide_eq_false hx]
    refine ev_inv (fun k (_ : Unit) i => laws_isIn.l0 k l x i) l.length (fun _ _ => True) false ?_ ?_ l.length 0 () (by omega) trivial
    · intro i hi _ _
      refine ⟨(), trivial, fun h => ?_⟩
      refine Ev.step (fun k => by simp only [laws_isIn.l0]; exact rfl) (Ev.pos (by omega) (Ev.pos (by omega) (Ev.neg ?_ ?_)))
      · intro e
        exact hx (e ▸ rd_mem hi)
      · rw [w64s hi (by omega)]
        exact h
    · intro _ _
      refine Ev.step (fun k => by simp only [laws_isIn.l0]; exact rfl) ?_
      exact Ev.neg (by omega) (Ev.some _)
theorem ascends_ev (l : List Int) (hl : l.length ≤ 17592186044416) (h : l.Pairwise (· < ·)) : Ev (fun k => laws_ascends.f k l) true := by
  unfold laws_ascends.f
  by_cases h0 : l.length = 0
  · refine Ev.step (fun k => by simp only [laws_ascends.l0]; exact rfl) ?_
    exact Ev.neg (by omega) (Ev.some _)
  have h1 : ((1 : Nat) : Int) = 1 := rfl
  rw [← h1]
  refine ev_inv (fun k (_ : Unit) i => laws_ascends.l0 k l i) l.length (fun i _ => 1 ≤ i) true ?_ ?_ (l.length - 1) 1 () (by omega) (Nat.le_refl _)
  · intro i hi _ h1
    refine ⟨(), by omega, fun hr => ?_⟩
    refine Ev.step (fun k => by simp only [laws_ascends.l0]; exact rfl) (Ev.pos (by omega) (Ev.pos (by omega) ?_))
    have e : wrap64 ((i : Int) - 1) = ((i - 1 : Nat) : Int) := by
      rw [w64 (by omega) (by omega)]
      omega
    rw [e, w64s hi (by omega)]
    refine Ev.pos (by omega) (Ev.pos (by omega) (Ev.neg ?_ hr))
    rw [rd_lt hi, rd_lt (by omega)]
    have := List.pairwise_iff_getElem.1 h (i - 1) i (by omega) hi (by omega)
    omega
  · intro _ _
    refine Ev.step (fun k => by simp only [laws_ascends.l0]; exact rfl) ?_
    exact Ev.neg (by omega) (Ev.some _)
theorem countP_less {p q : Nat → Bool} {y : Nat} : ∀ {l : List Nat}, (∀ x ∈ l, p x = true → q x = true) → y ∈ l → q y = true → p y = false → l.countP p < l.countP q
  | [], _, hy, _, _ => by cases hy
  | a :: l, h, hy, hq, hp => by
    have hle : l.countP p ≤ l.countP q := List.countP_mono_left fun x hx => h x (List.mem_cons_of_mem _ hx)
    rw [List.countP_cons, List.countP_cons]
    by_cases e : y = a
    · subst e
      rw [hp, hq]
      simp
      omega
    · have hy' : y ∈ l := by
        rcases List.mem_cons.1 hy with h | h
        · exact absurd h e
        · exact h
      have := countP_less (l := l) (fun x hx => h x (List.mem_cons_of_mem _ hx)) hy' hq hp
      have ha := h a (List.mem_cons_self)
      cases e1 : p a with
      | false => cases e2 : q a <;> simp <;> omega
      | true => rw [ha e1]; simp; omega
theorem coverB_iff {up : List Int} {x y : Nat} : coverB up x y = true ↔ (y ≠ x ∧ le up x y = true) ∧ ∀ z, z < up.length → z ≠ x → le up x z = true → le up z y = true → z = y := by
  unfold coverB
  rw [Bool.and_eq_true, Bool.and_eq_true, allN_iff, Bool.not_eq_true', decide_eq_false_iff_not]
  refine and_congr Iff.rfl (forall_congr' fun z => forall_congr' fun hz => ?_)
  by_cases e1 : z = x <;> by_cases e2 : z = y <;> cases a : le up x z <;> cases b : le up z y <;> simp [e1, e2]
/-- Between an element and a greater one there is a cover. -/
theorem cover_below {up : List Int} (hb : latB up = true) {x : Nat} (hx : x < up.length) : ∀ k y, y < up.length → ((List.range up.length).countP fun w => !(decide (w = x)) && (le up x w && le up w y)) ≤ k → y ≠ x → le up x y = true → ∃ c, c < up.length ∧ coverB up x c = true ∧ le up c y = true := by
  have L := Lat.of hb
  intro k
  induction k with
  | zero =>
    intro y hy hk hn hl
    have : 0 < (List.range up.length).countP fun w => !(decide (w = x)) && (le up x w && le up w y) :=
      List.countP_pos_iff.2 ⟨y, List.mem_range.2 hy, by rw [decide_eq_false hn, hl, L.refl y hy]; rfl⟩
    omega
  | succ k ih =>
    intro y hy hk hn hl
    by_cases c : coverB up x y = true
    · exact ⟨y, hy, c, L.refl y hy⟩
    · have : ∃ z, z < up.length ∧ z ≠ x ∧ le up x z = true ∧ le up z y = true ∧ z ≠ y := by
        refine Decidable.byContradiction fun h => c (coverB_iff.2 ⟨⟨hn, hl⟩, fun z hz h1 h2 h3 => Decidable.byContradiction fun h4 => h ⟨z, hz, h1, h2, h3, h4⟩⟩)
      obtain ⟨z, hz, z1, z2, z3, z4⟩ := this
      have hlt : ((List.range up.length).countP fun w => !(decide (w = x)) && (le up x w && le up w z)) < (List.range up.length).countP fun w => !(decide (w = x)) && (le up x w && le up w y) := by
        refine countP_less (y := y) ?_ (List.mem_range.2 hy) ?_ ?_
        · intro w hw h
          rw [Bool.and_eq_true, Bool.and_eq_true] at h ⊢
          exact ⟨h.1, h.2.1, L.trans _ _ _ (List.mem_range.1 hw) hz hy h.2.2 z3⟩
        · rw [decide_eq_false hn, hl, L.refl y hy]; rfl
        · cases e : le up y z with
          | false => rw [Bool.and_false, Bool.and_false]
          | true => exact absurd (L.anti _ _ hz hy z3 e) z4
      obtain ⟨c, h1, h2, h3⟩ := ih z hz (by omega) z1 z2
      exact ⟨c, h1, h2, L.trans _ _ _ h1 hz hy h3 z3⟩
theorem cover_exists {up : List Int} (hb : latB up = true) {x y : Nat} (hx : x < up.length) (hy : y < up.length) (hn : y ≠ x) (hl : le up x y = true) : ∃ c, c < up.length ∧ coverB up x c = true ∧ le up c y = true :=
  cover_below hb hx _ y hy (Nat.le_refl _) hn hl
end Go.Proofs.Ytmfpaagjllaljaa.M
end
