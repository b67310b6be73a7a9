-- Printed by this session's wip/print2.py (the kit's print.py, widened) out of the translation. Lean checks it.
import Derived.Test.YtdcohlllbbcjoaaP0
import Derived.Test.YtdcohlllbbcjoaaP2
namespace Go.Proofs.Ytdcohlllbbcjoaa.P
open Go.RowKit Go.Proofs.YtdcohlllbbcjoaaW.PrintWords Go.Proofs.YtdcohlllbbcjoaaW.PrintLast Go.Proofs.YtdcohlllbbcjoaaW.PrintMore
attribute [local go_sem] max2_int min2_int max_two min_two max_three min_three max_four min_four   -- for this text's walks alone
set_option linter.unusedVariables false
set_option linter.unusedSimpArgs false

/-! ### spec_text: function 23 -/
def spec_text.f : Nat → List Int → Int → Option (ByteArray)
 | 0, _, _ => none
 | k + 1, l0, a1 => if 0 ≤ a1 then (if a1 < (l0.length : Int) then (if (rd l0 a1) = 10 then (some (⟨#[48]⟩ : ByteArray)) else (if (rd l0 a1) = 11 then (some (⟨#[49]⟩ : ByteArray)) else (if (rd l0 a1) = 12 then ((spec_text.f k l0 (wrap64 (a1 + 1))).bind fun t112 => (if 1 + t112.size ≤ 9223372036854775807 then (some ((⟨#[45]⟩ : ByteArray) ++ t112)) else (none))) else (if (rd l0 a1) < 3 then (if 0 ≤ (rd l0 a1) then (if (rd l0 a1) ≤ (wrap64 ((rd l0 a1) + 1)) then (if (wrap64 ((rd l0 a1) + 1)) ≤ 3 then (some ((⟨#[120, 121, 122]⟩ : ByteArray).extract ((rd l0 a1) : Int).toNat ((wrap64 ((rd l0 a1) + 1)) : Int).toNat)) else (none)) else (none)) else (none)) else (if (rd l0 a1) = 13 then ((spec_text.f k l0 (wrap64 (a1 + 1))).bind fun t117 => (if 1 + t117.size ≤ 9223372036854775807 then (if ((⟨#[40]⟩ : ByteArray) ++ t117).size + 1 ≤ 9223372036854775807 then ((spec_end.f k l0 (wrap64 (a1 + 1))).bind fun t118 => ((spec_text.f k l0 t118).bind fun t119 => (if (((⟨#[40]⟩ : ByteArray) ++ t117) ++ (⟨#[38]⟩ : ByteArray)).size + t119.size ≤ 9223372036854775807 then (if ((((⟨#[40]⟩ : ByteArray) ++ t117) ++ (⟨#[38]⟩ : ByteArray)) ++ t119).size + 1 ≤ 9223372036854775807 then (some (((((⟨#[40]⟩ : ByteArray) ++ t117) ++ (⟨#[38]⟩ : ByteArray)) ++ t119) ++ (⟨#[41]⟩ : ByteArray))) else (none)) else (none)))) else (none)) else (none))) else (if (rd l0 a1) = 14 then ((spec_text.f k l0 (wrap64 (a1 + 1))).bind fun t120 => (if 1 + t120.size ≤ 9223372036854775807 then (if ((⟨#[40]⟩ : ByteArray) ++ t120).size + 1 ≤ 9223372036854775807 then ((spec_end.f k l0 (wrap64 (a1 + 1))).bind fun t121 => ((spec_text.f k l0 t121).bind fun t122 => (if (((⟨#[40]⟩ : ByteArray) ++ t120) ++ (⟨#[124]⟩ : ByteArray)).size + t122.size ≤ 9223372036854775807 then (if ((((⟨#[40]⟩ : ByteArray) ++ t120) ++ (⟨#[124]⟩ : ByteArray)) ++ t122).size + 1 ≤ 9223372036854775807 then (some (((((⟨#[40]⟩ : ByteArray) ++ t120) ++ (⟨#[124]⟩ : ByteArray)) ++ t122) ++ (⟨#[41]⟩ : ByteArray))) else (none)) else (none)))) else (none)) else (none))) else (if (rd l0 a1) = 15 then ((spec_text.f k l0 (wrap64 (a1 + 1))).bind fun t123 => (if 1 + t123.size ≤ 9223372036854775807 then (if ((⟨#[40]⟩ : ByteArray) ++ t123).size + 1 ≤ 9223372036854775807 then ((spec_end.f k l0 (wrap64 (a1 + 1))).bind fun t124 => ((spec_text.f k l0 t124).bind fun t125 => (if (((⟨#[40]⟩ : ByteArray) ++ t123) ++ (⟨#[42]⟩ : ByteArray)).size + t125.size ≤ 9223372036854775807 then (if ((((⟨#[40]⟩ : ByteArray) ++ t123) ++ (⟨#[42]⟩ : ByteArray)) ++ t125).size + 1 ≤ 9223372036854775807 then (some (((((⟨#[40]⟩ : ByteArray) ++ t123) ++ (⟨#[42]⟩ : ByteArray)) ++ t125) ++ (⟨#[41]⟩ : ByteArray))) else (none)) else (none)))) else (none)) else (none))) else ((spec_text.f k l0 (wrap64 (a1 + 1))).bind fun t126 => (if 1 + t126.size ≤ 9223372036854775807 then (if ((⟨#[40]⟩ : ByteArray) ++ t126).size + 1 ≤ 9223372036854775807 then ((spec_end.f k l0 (wrap64 (a1 + 1))).bind fun t127 => ((spec_text.f k l0 t127).bind fun t128 => (if (((⟨#[40]⟩ : ByteArray) ++ t126) ++ (⟨#[62]⟩ : ByteArray)).size + t128.size ≤ 9223372036854775807 then (if ((((⟨#[40]⟩ : ByteArray) ++ t126) ++ (⟨#[62]⟩ : ByteArray)) ++ t128).size + 1 ≤ 9223372036854775807 then (some (((((⟨#[40]⟩ : ByteArray) ++ t126) ++ (⟨#[62]⟩ : ByteArray)) ++ t128) ++ (⟨#[41]⟩ : ByteArray))) else (none)) else (none)))) else (none)) else (none)))))))))) else (none)) else (none)
set_option maxHeartbeats 8000000 in
set_option maxRecDepth 100000 in
theorem spec_text.calls (k : Nat) : ∀ (A0 : Option Addr) (c0 : Nat) (l0 : List Int) (a1 : Int) (r : ByteArray) (w : World) (hr0 : Kd.C (Kd.int .i64) w A0 l0.length l0) (hc0 : l0.length ≤ c0) (h : spec_text.f k l0 a1 = some r),
  Calls Try.prog 23 #[.slice A0 l0.length c0, .int .i64 a1] w fun e w' => e = .returned (.string r) ∧ Drawn0 w w' := by
 induction k using Nat.strongRecOn with
 | _ k ih =>
 intro A0 c0 l0 a1 r w hr0 hc0 h
 cases k with
 | zero => exact absurd h (by simp [spec_text.f])
 | succ k =>
 simp only [spec_text.f] at h
 have HR0 := ak hr0
 have HC0 := ak hc0
 clear hr0 hc0
 have H : (if 0 ≤ a1 then (if a1 < (l0.length : Int) then (if (rd l0 a1) = 10 then (some (⟨#[48]⟩ : ByteArray)) else (if (rd l0 a1) = 11 then (some (⟨#[49]⟩ : ByteArray)) else (if (rd l0 a1) = 12 then ((spec_text.f k l0 (wrap64 (a1 + 1))).bind fun t112 => (if 1 + t112.size ≤ 9223372036854775807 then (some ((⟨#[45]⟩ : ByteArray) ++ t112)) else (none))) else (if (rd l0 a1) < 3 then (if 0 ≤ (rd l0 a1) then (if (rd l0 a1) ≤ (wrap64 ((rd l0 a1) + 1)) then (if (wrap64 ((rd l0 a1) + 1)) ≤ 3 then (some ((⟨#[120, 121, 122]⟩ : ByteArray).extract ((rd l0 a1) : Int).toNat ((wrap64 ((rd l0 a1) + 1)) : Int).toNat)) else (none)) else (none)) else (none)) else (if (rd l0 a1) = 13 then ((spec_text.f k l0 (wrap64 (a1 + 1))).bind fun t117 => (if 1 + t117.size ≤ 9223372036854775807 then (if ((⟨#[40]⟩ : ByteArray) ++ t117).size + 1 ≤ 9223372036854775807 then ((spec_end.f k l0 (wrap64 (a1 + 1))).bind fun t118 => ((spec_text.f k l0 t118).bind fun t119 => (if (((⟨#[40]⟩ : ByteArray) ++ t117) ++ (⟨#[38]⟩ : ByteArray)).size + t119.size ≤ 9223372036854775807 then (if ((((⟨#[40]⟩ : ByteArray) ++ t117) ++ (⟨#[38]⟩ : ByteArray)) ++ t119).size + 1 ≤ 9223372036854775807 then (some (((((⟨#[40]⟩ : ByteArray) ++ t117) ++ (⟨#[38]⟩ : ByteArray)) ++ t119) ++ (⟨#[41]⟩ : ByteArray))) else (none)) else (none)))) else (none)) else (none))) else (if (rd l0 a1) = 14 then ((spec_text.f k l0 (wrap64 (a1 + 1))).bind fun t120 => (if 1 + t120.size ≤ 9223372036854775807 then (if ((⟨#[40]⟩ : ByteArray) ++ t120).size + 1 ≤ 9223372036854775807 then ((spec_end.f k l0 (wrap64 (a1 + 1))).bind fun t121 => ((spec_text.f k l0 t121).bind fun t122 => (if (((⟨#[40]⟩ : ByteArray) ++ t120) ++ (⟨#[124]⟩ : ByteArray)).size + t122.size ≤ 9223372036854775807 then (if ((((⟨#[40]⟩ : ByteArray) ++ t120) ++ (⟨#[124]⟩ : ByteArray)) ++ t122).size + 1 ≤ 9223372036854775807 then (some (((((⟨#[40]⟩ : ByteArray) ++ t120) ++ (⟨#[124]⟩ : ByteArray)) ++ t122) ++ (⟨#[41]⟩ : ByteArray))) else (none)) else (none)))) else (none)) else (none))) else (if (rd l0 a1) = 15 then ((spec_text.f k l0 (wrap64 (a1 + 1))).bind fun t123 => (if 1 + t123.size ≤ 9223372036854775807 then (if ((⟨#[40]⟩ : ByteArray) ++ t123).size + 1 ≤ 9223372036854775807 then ((spec_end.f k l0 (wrap64 (a1 + 1))).bind fun t124 => ((spec_text.f k l0 t124).bind fun t125 => (if (((⟨#[40]⟩ : ByteArray) ++ t123) ++ (⟨#[42]⟩ : ByteArray)).size + t125.size ≤ 9223372036854775807 then (if ((((⟨#[40]⟩ : ByteArray) ++ t123) ++ (⟨#[42]⟩ : ByteArray)) ++ t125).size + 1 ≤ 9223372036854775807 then (some (((((⟨#[40]⟩ : ByteArray) ++ t123) ++ (⟨#[42]⟩ : ByteArray)) ++ t125) ++ (⟨#[41]⟩ : ByteArray))) else (none)) else (none)))) else (none)) else (none))) else ((spec_text.f k l0 (wrap64 (a1 + 1))).bind fun t126 => (if 1 + t126.size ≤ 9223372036854775807 then (if ((⟨#[40]⟩ : ByteArray) ++ t126).size + 1 ≤ 9223372036854775807 then ((spec_end.f k l0 (wrap64 (a1 + 1))).bind fun t127 => ((spec_text.f k l0 t127).bind fun t128 => (if (((⟨#[40]⟩ : ByteArray) ++ t126) ++ (⟨#[62]⟩ : ByteArray)).size + t128.size ≤ 9223372036854775807 then (if ((((⟨#[40]⟩ : ByteArray) ++ t126) ++ (⟨#[62]⟩ : ByteArray)) ++ t128).size + 1 ≤ 9223372036854775807 then (some (((((⟨#[40]⟩ : ByteArray) ++ t126) ++ (⟨#[62]⟩ : ByteArray)) ++ t128) ++ (⟨#[41]⟩ : ByteArray))) else (none)) else (none)))) else (none)) else (none)))))))))) else (none)) else (none)) = some r := h
 clear h
 replace H := oi H
 obtain ⟨c3, H⟩ := H
 have c3b0 : decide (0 ≤ a1) = true := decide_eq_true c3
 clear c3
 replace H := oi H
 obtain ⟨c4, H⟩ := H
 have c4b0 : decide (a1 < (l0.length : Int)) = true := decide_eq_true c4
 clear c4
 by_cases c5 : (rd l0 a1) = 10
 ·rw [if_pos c5] at H
  have c5b0 : ((rd l0 a1) == 10) = true := beq_iff_eq.mpr c5
  have c5b1 : ((rd l0 a1) != 10) = false := bne_eq_false_iff_eq.mpr c5
  clear c5
  obtain rfl := Option.some.inj H
  have p111 : 0 ≤ (a1 : Int) := of_decide_eq_true (by first | (with_reducible assumption) | assumption)
  have q111 : a1 < (l0.length : Int) := of_decide_eq_true (by first | (with_reducible assumption) | assumption)
  obtain ⟨ad111, e111, hx111_0⟩ := Kd.at_int HR0.out a1 p111 q111
  cases e111
  replace p111 := eq_true p111
  replace q111 := eq_true q111
  go_enter Try.func23, Try.ntmps23
  go_wp2
  repeat ((refine wp_region_quiet_lit ?_ ?_ ?_; kernel_rfl; kernel_rfl; (repeat (first | go_big_quiet_step (fail) | (refine wpQuiet_step (fun K hK => ?_); go_simp; refine hK _ ?_; clear hK K))); refine wpQuiet_nil ?_; intro _ hw'; obtain ⟨nq, hw''⟩ := hw'; subst hw''); try go_wp2)
  go_ret
  exact ⟨by first | rfl | (simp; done) | (simp [*]; done), by repeat (first | exact Drawn0.refl _ | apply Drawn0.step)⟩
 rw [if_neg c5] at H
 have c5b0 : ((rd l0 a1) == 10) = false := beq_eq_false_iff_ne.mpr c5
 have c5b1 : ((rd l0 a1) != 10) = true := bne_iff_ne.mpr c5
 by_cases c6 : (rd l0 a1) = 11
 ·rw [if_pos c6] at H
  have c6b0 : ((rd l0 a1) == 11) = true := beq_iff_eq.mpr c6
  have c6b1 : ((rd l0 a1) != 11) = false := bne_eq_false_iff_eq.mpr c6
  clear c6
  obtain rfl := Option.some.inj H
  have p111 : 0 ≤ (a1 : Int) := of_decide_eq_true (by first | (with_reducible assumption) | assumption)
  have q111 : a1 < (l0.length : Int) := of_decide_eq_true (by first | (with_reducible assumption) | assumption)
  obtain ⟨ad111, e111, hx111_0⟩ := Kd.at_int HR0.out a1 p111 q111
  cases e111
  replace p111 := eq_true p111
  replace q111 := eq_true q111
  go_enter Try.func23, Try.ntmps23
  go_wp2
  repeat ((refine wp_region_quiet_lit ?_ ?_ ?_; kernel_rfl; kernel_rfl; (repeat (first | go_big_quiet_step (fail) | (refine wpQuiet_step (fun K hK => ?_); go_simp; refine hK _ ?_; clear hK K))); refine wpQuiet_nil ?_; intro _ hw'; obtain ⟨nq, hw''⟩ := hw'; subst hw''); try go_wp2)
  go_ret
  exact ⟨by first | rfl | (simp; done) | (simp [*]; done), by repeat (first | exact Drawn0.refl _ | apply Drawn0.step)⟩
 rw [if_neg c6] at H
 have c6b0 : ((rd l0 a1) == 11) = false := beq_eq_false_iff_ne.mpr c6
 have c6b1 : ((rd l0 a1) != 11) = true := bne_iff_ne.mpr c6
 by_cases c7 : (rd l0 a1) = 12
 ·rw [if_pos c7] at H
  have c7b0 : ((rd l0 a1) == 12) = true := beq_iff_eq.mpr c7
  have c7b1 : ((rd l0 a1) != 12) = false := bne_eq_false_iff_eq.mpr c7
  clear c7
  replace H := bi H
  obtain ⟨t112, A80, H⟩ := H
  try dsimp only at H
  have A8 := ak A80
  clear A80
  replace H := oi H
  obtain ⟨c9, H⟩ := H
  have c9b0 := eq_true c9
  have c9b1 : decide (1 + t112.size ≤ 9223372036854775807) = true := decide_eq_true c9
  try have c9b2 : (9223372036854775807 < 1 + t112.size) = False := eq_false (Nat.not_lt.2 c9)
  obtain rfl := Option.some.inj H
  have p111 : 0 ≤ (a1 : Int) := of_decide_eq_true (by first | (with_reducible assumption) | assumption)
  have q111 : a1 < (l0.length : Int) := of_decide_eq_true (by first | (with_reducible assumption) | assumption)
  obtain ⟨ad111, e111, hx111_0⟩ := Kd.at_int HR0.out a1 p111 q111
  cases e111
  replace p111 := eq_true p111
  replace q111 := eq_true q111
  go_enter Try.func23, Try.ntmps23
  go_wp2_with (first | (go_at_call 23; (with_reducible refine (ih k (by omega) _ _ l0 (wrap64 (a1 + 1)) t112 _ ?side1 ?side2 A8.out).mono ?_); (case side1 => exact kC HR0.out); (case side2 => exact HC0.out); rintro e w' ⟨rfl, ⟨nd, rfl⟩⟩; (try first | exact ⟨rfl, _, World.drewN_drewN _ _ _⟩ | exact ⟨rfl, _, Eq.trans (World.drewN_drewN _ _ _) (congrArg (World.drewN _) (Nat.add_assoc _ _ _))⟩)))
  repeat ((refine wp_region_quiet_lit ?_ ?_ ?_; kernel_rfl; kernel_rfl; (repeat (first | go_big_quiet_step (first | (go_at_call 23; (with_reducible refine (ih k (by omega) _ _ l0 (wrap64 (a1 + 1)) t112 _ ?side1 ?side2 A8.out).mono ?_); (case side1 => exact kC HR0.out); (case side2 => exact HC0.out); rintro e w' ⟨rfl, ⟨nd, rfl⟩⟩; (try first | exact ⟨rfl, _, World.drewN_drewN _ _ _⟩ | exact ⟨rfl, _, Eq.trans (World.drewN_drewN _ _ _) (congrArg (World.drewN _) (Nat.add_assoc _ _ _))⟩))) | (refine wpQuiet_step (fun K hK => ?_); go_simp; refine hK _ ?_; clear hK K))); refine wpQuiet_nil ?_; intro _ hw'; obtain ⟨nq, hw''⟩ := hw'; subst hw''); try go_wp2_with (first | (go_at_call 23; (with_reducible refine (ih k (by omega) _ _ l0 (wrap64 (a1 + 1)) t112 _ ?side1 ?side2 A8.out).mono ?_); (case side1 => exact kC HR0.out); (case side2 => exact HC0.out); rintro e w' ⟨rfl, ⟨nd, rfl⟩⟩; (try first | exact ⟨rfl, _, World.drewN_drewN _ _ _⟩ | exact ⟨rfl, _, Eq.trans (World.drewN_drewN _ _ _) (congrArg (World.drewN _) (Nat.add_assoc _ _ _))⟩))))
  go_ret
  exact ⟨by first | rfl | (simp; done) | (simp [*]; done), by repeat (first | exact Drawn0.refl _ | apply Drawn0.step)⟩
 rw [if_neg c7] at H
 have c7b0 : ((rd l0 a1) == 12) = false := beq_eq_false_iff_ne.mpr c7
 have c7b1 : ((rd l0 a1) != 12) = true := bne_iff_ne.mpr c7
 by_cases c10 : (rd l0 a1) < 3
 ·rw [if_pos c10] at H
  have c10b0 : decide ((rd l0 a1) < 3) = true := decide_eq_true c10
  clear c10
  replace H := oi H
  obtain ⟨c11, H⟩ := H
  have c11b0 := eq_true c11
  have c11b1 : decide (0 ≤ (rd l0 a1)) = true := decide_eq_true c11
  clear c11
  replace H := oi H
  obtain ⟨c12, H⟩ := H
  have c12b0 := eq_true c12
  have c12b1 : decide ((rd l0 a1) ≤ (wrap64 ((rd l0 a1) + 1))) = true := decide_eq_true c12
  replace H := oi H
  obtain ⟨c13, H⟩ := H
  have c13b0 := eq_true c13
  have c13b1 : decide ((wrap64 ((rd l0 a1) + 1)) ≤ 3) = true := decide_eq_true c13
  obtain rfl := Option.some.inj H
  have p111 : 0 ≤ (a1 : Int) := of_decide_eq_true (by first | (with_reducible assumption) | assumption)
  have q111 : a1 < (l0.length : Int) := of_decide_eq_true (by first | (with_reducible assumption) | assumption)
  obtain ⟨ad111, e111, hx111_0⟩ := Kd.at_int HR0.out a1 p111 q111
  cases e111
  replace p111 := eq_true p111
  replace q111 := eq_true q111
  have p113 : 0 ≤ (a1 : Int) := of_decide_eq_true (by first | (with_reducible assumption) | assumption)
  have q113 : a1 < (l0.length : Int) := of_decide_eq_true (by first | (with_reducible assumption) | assumption)
  obtain ⟨ad113, e113, hx113_0⟩ := Kd.at_int HR0.out a1 p113 q113
  obtain rfl : ad111 = ad113 := (by injection e113)
  replace p113 := eq_true p113
  replace q113 := eq_true q113
  have p114 : 0 ≤ (a1 : Int) := of_decide_eq_true (by first | (with_reducible assumption) | assumption)
  have q114 : a1 < (l0.length : Int) := of_decide_eq_true (by first | (with_reducible assumption) | assumption)
  obtain ⟨ad114, e114, hx114_0⟩ := Kd.at_int HR0.out a1 p114 q114
  obtain rfl : ad111 = ad114 := (by injection e114)
  replace p114 := eq_true p114
  replace q114 := eq_true q114
  have p115 : 0 ≤ (a1 : Int) := of_decide_eq_true (by first | (with_reducible assumption) | assumption)
  have q115 : a1 < (l0.length : Int) := of_decide_eq_true (by first | (with_reducible assumption) | assumption)
  obtain ⟨ad115, e115, hx115_0⟩ := Kd.at_int HR0.out a1 p115 q115
  obtain rfl : ad111 = ad115 := (by injection e115)
  replace p115 := eq_true p115
  replace q115 := eq_true q115
  go_enter Try.func23, Try.ntmps23
  go_wp2
  repeat ((refine wp_region_quiet_lit ?_ ?_ ?_; kernel_rfl; kernel_rfl; (repeat (first | go_big_quiet_step (fail) | (refine wpQuiet_step (fun K hK => ?_); go_simp; refine hK _ ?_; clear hK K))); refine wpQuiet_nil ?_; intro _ hw'; obtain ⟨nq, hw''⟩ := hw'; subst hw''); try go_wp2)
  go_ret
  exact ⟨by first | rfl | (simp; done) | (simp [*]; done), by repeat (first | exact Drawn0.refl _ | apply Drawn0.step)⟩
 rw [if_neg c10] at H
 have c10b0 : decide ((rd l0 a1) < 3) = false := decide_eq_false c10
 clear c10
 by_cases c14 : (rd l0 a1) = 13
 ·rw [if_pos c14] at H
  have c14b0 : ((rd l0 a1) == 13) = true := beq_iff_eq.mpr c14
  have c14b1 : ((rd l0 a1) != 13) = false := bne_eq_false_iff_eq.mpr c14
  clear c14
  replace H := bi H
  obtain ⟨t117, A150, H⟩ := H
  try dsimp only at H
  have A15 := ak A150
  clear A150
  replace H := oi H
  obtain ⟨c16, H⟩ := H
  have c16b0 := eq_true c16
  have c16b1 : decide (1 + t117.size ≤ 9223372036854775807) = true := decide_eq_true c16
  try have c16b2 : (9223372036854775807 < 1 + t117.size) = False := eq_false (Nat.not_lt.2 c16)
  replace H := oi H
  obtain ⟨c17, H⟩ := H
  have c17b0 := eq_true c17
  have c17b1 : decide (((⟨#[40]⟩ : ByteArray) ++ t117).size + 1 ≤ 9223372036854775807) = true := decide_eq_true c17
  try have c17b2 : (9223372036854775807 < ((⟨#[40]⟩ : ByteArray) ++ t117).size + 1) = False := eq_false (Nat.not_lt.2 c17)
  try (have c17b3 := c17b2; simp only [ByteArray.size_append, show (⟨#[40]⟩ : ByteArray).size = 1 from rfl] at c17b3)
  replace H := bi H
  obtain ⟨t118, A180, H⟩ := H
  try dsimp only at H
  have A18 := ak A180
  clear A180
  replace H := bi H
  obtain ⟨t119, A190, H⟩ := H
  try dsimp only at H
  have A19 := ak A190
  clear A190
  replace H := oi H
  obtain ⟨c20, H⟩ := H
  have c20b0 := eq_true c20
  have c20b1 : decide ((((⟨#[40]⟩ : ByteArray) ++ t117) ++ (⟨#[38]⟩ : ByteArray)).size + t119.size ≤ 9223372036854775807) = true := decide_eq_true c20
  try have c20b2 : (9223372036854775807 < (((⟨#[40]⟩ : ByteArray) ++ t117) ++ (⟨#[38]⟩ : ByteArray)).size + t119.size) = False := eq_false (Nat.not_lt.2 c20)
  try (have c20b3 := c20b2; simp only [ByteArray.size_append, show (⟨#[38]⟩ : ByteArray).size = 1 from rfl, show (⟨#[40]⟩ : ByteArray).size = 1 from rfl] at c20b3)
  replace H := oi H
  obtain ⟨c21, H⟩ := H
  have c21b0 := eq_true c21
  have c21b1 : decide (((((⟨#[40]⟩ : ByteArray) ++ t117) ++ (⟨#[38]⟩ : ByteArray)) ++ t119).size + 1 ≤ 9223372036854775807) = true := decide_eq_true c21
  try have c21b2 : (9223372036854775807 < ((((⟨#[40]⟩ : ByteArray) ++ t117) ++ (⟨#[38]⟩ : ByteArray)) ++ t119).size + 1) = False := eq_false (Nat.not_lt.2 c21)
  try (have c21b3 := c21b2; simp only [ByteArray.size_append, show (⟨#[38]⟩ : ByteArray).size = 1 from rfl, show (⟨#[40]⟩ : ByteArray).size = 1 from rfl] at c21b3)
  obtain rfl := Option.some.inj H
  have p111 : 0 ≤ (a1 : Int) := of_decide_eq_true (by first | (with_reducible assumption) | assumption)
  have q111 : a1 < (l0.length : Int) := of_decide_eq_true (by first | (with_reducible assumption) | assumption)
  obtain ⟨ad111, e111, hx111_0⟩ := Kd.at_int HR0.out a1 p111 q111
  cases e111
  replace p111 := eq_true p111
  replace q111 := eq_true q111
  have p113 : 0 ≤ (a1 : Int) := of_decide_eq_true (by first | (with_reducible assumption) | assumption)
  have q113 : a1 < (l0.length : Int) := of_decide_eq_true (by first | (with_reducible assumption) | assumption)
  obtain ⟨ad113, e113, hx113_0⟩ := Kd.at_int HR0.out a1 p113 q113
  obtain rfl : ad111 = ad113 := (by injection e113)
  replace p113 := eq_true p113
  replace q113 := eq_true q113
  have p116 : 0 ≤ (a1 : Int) := of_decide_eq_true (by first | (with_reducible assumption) | assumption)
  have q116 : a1 < (l0.length : Int) := of_decide_eq_true (by first | (with_reducible assumption) | assumption)
  obtain ⟨ad116, e116, hx116_0⟩ := Kd.at_int HR0.out a1 p116 q116
  obtain rfl : ad111 = ad116 := (by injection e116)
  replace p116 := eq_true p116
  replace q116 := eq_true q116
  go_enter Try.func23, Try.ntmps23
  go_wp2_with (first | (go_at_call 23; (with_reducible refine (ih k (by omega) _ _ l0 (wrap64 (a1 + 1)) t117 _ ?side1 ?side2 A15.out).mono ?_); (case side1 => exact kC HR0.out); (case side2 => exact HC0.out); rintro e w' ⟨rfl, ⟨nd, rfl⟩⟩; (try first | exact ⟨rfl, _, World.drewN_drewN _ _ _⟩ | exact ⟨rfl, _, Eq.trans (World.drewN_drewN _ _ _) (congrArg (World.drewN _) (Nat.add_assoc _ _ _))⟩)) | (go_at_call 35; (with_reducible refine (spec_end.calls k _ _ l0 (wrap64 (a1 + 1)) t118 _ ?side1 ?side2 A18.out).mono ?_); (case side1 => exact kC HR0.out); (case side2 => exact HC0.out); rintro e w' ⟨rfl, ⟨nd, rfl⟩⟩; (try first | exact ⟨rfl, _, World.drewN_drewN _ _ _⟩ | exact ⟨rfl, _, Eq.trans (World.drewN_drewN _ _ _) (congrArg (World.drewN _) (Nat.add_assoc _ _ _))⟩)) | (go_at_call 23; (with_reducible refine (ih k (by omega) _ _ l0 t118 t119 _ ?side1 ?side2 A19.out).mono ?_); (case side1 => exact kC HR0.out); (case side2 => exact HC0.out); rintro e w' ⟨rfl, ⟨nd, rfl⟩⟩; (try first | exact ⟨rfl, _, World.drewN_drewN _ _ _⟩ | exact ⟨rfl, _, Eq.trans (World.drewN_drewN _ _ _) (congrArg (World.drewN _) (Nat.add_assoc _ _ _))⟩)))
  repeat ((refine wp_region_quiet_lit ?_ ?_ ?_; kernel_rfl; kernel_rfl; (repeat (first | go_big_quiet_step (first | (go_at_call 23; (with_reducible refine (ih k (by omega) _ _ l0 (wrap64 (a1 + 1)) t117 _ ?side1 ?side2 A15.out).mono ?_); (case side1 => exact kC HR0.out); (case side2 => exact HC0.out); rintro e w' ⟨rfl, ⟨nd, rfl⟩⟩; (try first | exact ⟨rfl, _, World.drewN_drewN _ _ _⟩ | exact ⟨rfl, _, Eq.trans (World.drewN_drewN _ _ _) (congrArg (World.drewN _) (Nat.add_assoc _ _ _))⟩)) | (go_at_call 35; (with_reducible refine (spec_end.calls k _ _ l0 (wrap64 (a1 + 1)) t118 _ ?side1 ?side2 A18.out).mono ?_); (case side1 => exact kC HR0.out); (case side2 => exact HC0.out); rintro e w' ⟨rfl, ⟨nd, rfl⟩⟩; (try first | exact ⟨rfl, _, World.drewN_drewN _ _ _⟩ | exact ⟨rfl, _, Eq.trans (World.drewN_drewN _ _ _) (congrArg (World.drewN _) (Nat.add_assoc _ _ _))⟩)) | (go_at_call 23; (with_reducible refine (ih k (by omega) _ _ l0 t118 t119 _ ?side1 ?side2 A19.out).mono ?_); (case side1 => exact kC HR0.out); (case side2 => exact HC0.out); rintro e w' ⟨rfl, ⟨nd, rfl⟩⟩; (try first | exact ⟨rfl, _, World.drewN_drewN _ _ _⟩ | exact ⟨rfl, _, Eq.trans (World.drewN_drewN _ _ _) (congrArg (World.drewN _) (Nat.add_assoc _ _ _))⟩))) | (refine wpQuiet_step (fun K hK => ?_); go_simp; refine hK _ ?_; clear hK K))); refine wpQuiet_nil ?_; intro _ hw'; obtain ⟨nq, hw''⟩ := hw'; subst hw''); try go_wp2_with (first | (go_at_call 23; (with_reducible refine (ih k (by omega) _ _ l0 (wrap64 (a1 + 1)) t117 _ ?side1 ?side2 A15.out).mono ?_); (case side1 => exact kC HR0.out); (case side2 => exact HC0.out); rintro e w' ⟨rfl, ⟨nd, rfl⟩⟩; (try first | exact ⟨rfl, _, World.drewN_drewN _ _ _⟩ | exact ⟨rfl, _, Eq.trans (World.drewN_drewN _ _ _) (congrArg (World.drewN _) (Nat.add_assoc _ _ _))⟩)) | (go_at_call 35; (with_reducible refine (spec_end.calls k _ _ l0 (wrap64 (a1 + 1)) t118 _ ?side1 ?side2 A18.out).mono ?_); (case side1 => exact kC HR0.out); (case side2 => exact HC0.out); rintro e w' ⟨rfl, ⟨nd, rfl⟩⟩; (try first | exact ⟨rfl, _, World.drewN_drewN _ _ _⟩ | exact ⟨rfl, _, Eq.trans (World.drewN_drewN _ _ _) (congrArg (World.drewN _) (Nat.add_assoc _ _ _))⟩)) | (go_at_call 23; (with_reducible refine (ih k (by omega) _ _ l0 t118 t119 _ ?side1 ?side2 A19.out).mono ?_); (case side1 => exact kC HR0.out); (case side2 => exact HC0.out); rintro e w' ⟨rfl, ⟨nd, rfl⟩⟩; (try first | exact ⟨rfl, _, World.drewN_drewN _ _ _⟩ | exact ⟨rfl, _, Eq.trans (World.drewN_drewN _ _ _) (congrArg (World.drewN _) (Nat.add_assoc _ _ _))⟩))))
  go_ret
  exact ⟨by first | rfl | (simp; done) | (simp [*]; done), by repeat (first | exact Drawn0.refl _ | apply Drawn0.step)⟩
 rw [if_neg c14] at H
 have c14b0 : ((rd l0 a1) == 13) = false := beq_eq_false_iff_ne.mpr c14
 have c14b1 : ((rd l0 a1) != 13) = true := bne_iff_ne.mpr c14
 by_cases c22 : (rd l0 a1) = 14
 ·rw [if_pos c22] at H
  have c22b0 : ((rd l0 a1) == 14) = true := beq_iff_eq.mpr c22
  have c22b1 : ((rd l0 a1) != 14) = false := bne_eq_false_iff_eq.mpr c22
  clear c22
  replace H := bi H
  obtain ⟨t120, A230, H⟩ := H
  try dsimp only at H
  have A23 := ak A230
  clear A230
  replace H := oi H
  obtain ⟨c24, H⟩ := H
  have c24b0 := eq_true c24
  have c24b1 : decide (1 + t120.size ≤ 9223372036854775807) = true := decide_eq_true c24
  try have c24b2 : (9223372036854775807 < 1 + t120.size) = False := eq_false (Nat.not_lt.2 c24)
  replace H := oi H
  obtain ⟨c25, H⟩ := H
  have c25b0 := eq_true c25
  have c25b1 : decide (((⟨#[40]⟩ : ByteArray) ++ t120).size + 1 ≤ 9223372036854775807) = true := decide_eq_true c25
  try have c25b2 : (9223372036854775807 < ((⟨#[40]⟩ : ByteArray) ++ t120).size + 1) = False := eq_false (Nat.not_lt.2 c25)
  try (have c25b3 := c25b2; simp only [ByteArray.size_append, show (⟨#[40]⟩ : ByteArray).size = 1 from rfl] at c25b3)
  replace H := bi H
  obtain ⟨t121, A260, H⟩ := H
  try dsimp only at H
  have A26 := ak A260
  clear A260
  replace H := bi H
  obtain ⟨t122, A270, H⟩ := H
  try dsimp only at H
  have A27 := ak A270
  clear A270
  replace H := oi H
  obtain ⟨c28, H⟩ := H
  have c28b0 := eq_true c28
  have c28b1 : decide ((((⟨#[40]⟩ : ByteArray) ++ t120) ++ (⟨#[124]⟩ : ByteArray)).size + t122.size ≤ 9223372036854775807) = true := decide_eq_true c28
  try have c28b2 : (9223372036854775807 < (((⟨#[40]⟩ : ByteArray) ++ t120) ++ (⟨#[124]⟩ : ByteArray)).size + t122.size) = False := eq_false (Nat.not_lt.2 c28)
  try (have c28b3 := c28b2; simp only [ByteArray.size_append, show (⟨#[124]⟩ : ByteArray).size = 1 from rfl, show (⟨#[40]⟩ : ByteArray).size = 1 from rfl] at c28b3)
  replace H := oi H
  obtain ⟨c29, H⟩ := H
  have c29b0 := eq_true c29
  have c29b1 : decide (((((⟨#[40]⟩ : ByteArray) ++ t120) ++ (⟨#[124]⟩ : ByteArray)) ++ t122).size + 1 ≤ 9223372036854775807) = true := decide_eq_true c29
  try have c29b2 : (9223372036854775807 < ((((⟨#[40]⟩ : ByteArray) ++ t120) ++ (⟨#[124]⟩ : ByteArray)) ++ t122).size + 1) = False := eq_false (Nat.not_lt.2 c29)
  try (have c29b3 := c29b2; simp only [ByteArray.size_append, show (⟨#[124]⟩ : ByteArray).size = 1 from rfl, show (⟨#[40]⟩ : ByteArray).size = 1 from rfl] at c29b3)
  obtain rfl := Option.some.inj H
  have p111 : 0 ≤ (a1 : Int) := of_decide_eq_true (by first | (with_reducible assumption) | assumption)
  have q111 : a1 < (l0.length : Int) := of_decide_eq_true (by first | (with_reducible assumption) | assumption)
  obtain ⟨ad111, e111, hx111_0⟩ := Kd.at_int HR0.out a1 p111 q111
  cases e111
  replace p111 := eq_true p111
  replace q111 := eq_true q111
  have p113 : 0 ≤ (a1 : Int) := of_decide_eq_true (by first | (with_reducible assumption) | assumption)
  have q113 : a1 < (l0.length : Int) := of_decide_eq_true (by first | (with_reducible assumption) | assumption)
  obtain ⟨ad113, e113, hx113_0⟩ := Kd.at_int HR0.out a1 p113 q113
  obtain rfl : ad111 = ad113 := (by injection e113)
  replace p113 := eq_true p113
  replace q113 := eq_true q113
  have p116 : 0 ≤ (a1 : Int) := of_decide_eq_true (by first | (with_reducible assumption) | assumption)
  have q116 : a1 < (l0.length : Int) := of_decide_eq_true (by first | (with_reducible assumption) | assumption)
  obtain ⟨ad116, e116, hx116_0⟩ := Kd.at_int HR0.out a1 p116 q116
  obtain rfl : ad111 = ad116 := (by injection e116)
  replace p116 := eq_true p116
  replace q116 := eq_true q116
  go_enter Try.func23, Try.ntmps23
  go_wp2_with (first | (go_at_call 23; (with_reducible refine (ih k (by omega) _ _ l0 (wrap64 (a1 + 1)) t120 _ ?side1 ?side2 A23.out).mono ?_); (case side1 => exact kC HR0.out); (case side2 => exact HC0.out); rintro e w' ⟨rfl, ⟨nd, rfl⟩⟩; (try first | exact ⟨rfl, _, World.drewN_drewN _ _ _⟩ | exact ⟨rfl, _, Eq.trans (World.drewN_drewN _ _ _) (congrArg (World.drewN _) (Nat.add_assoc _ _ _))⟩)) | (go_at_call 35; (with_reducible refine (spec_end.calls k _ _ l0 (wrap64 (a1 + 1)) t121 _ ?side1 ?side2 A26.out).mono ?_); (case side1 => exact kC HR0.out); (case side2 => exact HC0.out); rintro e w' ⟨rfl, ⟨nd, rfl⟩⟩; (try first | exact ⟨rfl, _, World.drewN_drewN _ _ _⟩ | exact ⟨rfl, _, Eq.trans (World.drewN_drewN _ _ _) (congrArg (World.drewN _) (Nat.add_assoc _ _ _))⟩)) | (go_at_call 23; (with_reducible refine (ih k (by omega) _ _ l0 t121 t122 _ ?side1 ?side2 A27.out).mono ?_); (case side1 => exact kC HR0.out); (case side2 => exact HC0.out); rintro e w' ⟨rfl, ⟨nd, rfl⟩⟩; (try first | exact ⟨rfl, _, World.drewN_drewN _ _ _⟩ | exact ⟨rfl, _, Eq.trans (World.drewN_drewN _ _ _) (congrArg (World.drewN _) (Nat.add_assoc _ _ _))⟩)))
  repeat ((refine wp_region_quiet_lit ?_ ?_ ?_; kernel_rfl; kernel_rfl; (repeat (first | go_big_quiet_step (first | (go_at_call 23; (with_reducible refine (ih k (by omega) _ _ l0 (wrap64 (a1 + 1)) t120 _ ?side1 ?side2 A23.out).mono ?_); (case side1 => exact kC HR0.out); (case side2 => exact HC0.out); rintro e w' ⟨rfl, ⟨nd, rfl⟩⟩; (try first | exact ⟨rfl, _, World.drewN_drewN _ _ _⟩ | exact ⟨rfl, _, Eq.trans (World.drewN_drewN _ _ _) (congrArg (World.drewN _) (Nat.add_assoc _ _ _))⟩)) | (go_at_call 35; (with_reducible refine (spec_end.calls k _ _ l0 (wrap64 (a1 + 1)) t121 _ ?side1 ?side2 A26.out).mono ?_); (case side1 => exact kC HR0.out); (case side2 => exact HC0.out); rintro e w' ⟨rfl, ⟨nd, rfl⟩⟩; (try first | exact ⟨rfl, _, World.drewN_drewN _ _ _⟩ | exact ⟨rfl, _, Eq.trans (World.drewN_drewN _ _ _) (congrArg (World.drewN _) (Nat.add_assoc _ _ _))⟩)) | (go_at_call 23; (with_reducible refine (ih k (by omega) _ _ l0 t121 t122 _ ?side1 ?side2 A27.out).mono ?_); (case side1 => exact kC HR0.out); (case side2 => exact HC0.out); rintro e w' ⟨rfl, ⟨nd, rfl⟩⟩; (try first | exact ⟨rfl, _, World.drewN_drewN _ _ _⟩ | exact ⟨rfl, _, Eq.trans (World.drewN_drewN _ _ _) (congrArg (World.drewN _) (Nat.add_assoc _ _ _))⟩))) | (refine wpQuiet_step (fun K hK => ?_); go_simp; refine hK _ ?_; clear hK K))); refine wpQuiet_nil ?_; intro _ hw'; obtain ⟨nq, hw''⟩ := hw'; subst hw''); try go_wp2_with (first | (go_at_call 23; (with_reducible refine (ih k (by omega) _ _ l0 (wrap64 (a1 + 1)) t120 _ ?side1 ?side2 A23.out).mono ?_); (case side1 => exact kC HR0.out); (case side2 => exact HC0.out); rintro e w' ⟨rfl, ⟨nd, rfl⟩⟩; (try first | exact ⟨rfl, _, World.drewN_drewN _ _ _⟩ | exact ⟨rfl, _, Eq.trans (World.drewN_drewN _ _ _) (congrArg (World.drewN _) (Nat.add_assoc _ _ _))⟩)) | (go_at_call 35; (with_reducible refine (spec_end.calls k _ _ l0 (wrap64 (a1 + 1)) t121 _ ?side1 ?side2 A26.out).mono ?_); (case side1 => exact kC HR0.out); (case side2 => exact HC0.out); rintro e w' ⟨rfl, ⟨nd, rfl⟩⟩; (try first | exact ⟨rfl, _, World.drewN_drewN _ _ _⟩ | exact ⟨rfl, _, Eq.trans (World.drewN_drewN _ _ _) (congrArg (World.drewN _) (Nat.add_assoc _ _ _))⟩)) | (go_at_call 23; (with_reducible refine (ih k (by omega) _ _ l0 t121 t122 _ ?side1 ?side2 A27.out).mono ?_); (case side1 => exact kC HR0.out); (case side2 => exact HC0.out); rintro e w' ⟨rfl, ⟨nd, rfl⟩⟩; (try first | exact ⟨rfl, _, World.drewN_drewN _ _ _⟩ | exact ⟨rfl, _, Eq.trans (World.drewN_drewN _ _ _) (congrArg (World.drewN _) (Nat.add_assoc _ _ _))⟩))))
  go_ret
  exact ⟨by first | rfl | (simp; done) | (simp [*]; done), by repeat (first | exact Drawn0.refl _ | apply Drawn0.step)⟩
 rw [if_neg c22] at H
 have c22b0 : ((rd l0 a1) == 14) = false := beq_eq_false_iff_ne.mpr c22
 have c22b1 : ((rd l0 a1) != 14) = true := bne_iff_ne.mpr c22
 by_cases c30 : (rd l0 a1) = 15
 rotate_left
 ·rw [if_neg c30] at H
  have c30b0 : ((rd l0 a1) == 15) = false := beq_eq_false_iff_ne.mpr c30
  have c30b1 : ((rd l0 a1) != 15) = true := bne_iff_ne.mpr c30
  replace H := bi H
  obtain ⟨t126, A380, H⟩ := H
  try dsimp only at H
  have A38 := ak A380
  clear A380
  replace H := oi H
  obtain ⟨c39, H⟩ := H
  have c39b0 := eq_true c39
  have c39b1 : decide (1 + t126.size ≤ 9223372036854775807) = true := decide_eq_true c39
  try have c39b2 : (9223372036854775807 < 1 + t126.size) = False := eq_false (Nat.not_lt.2 c39)
  replace H := oi H
  obtain ⟨c40, H⟩ := H
  have c40b0 := eq_true c40
  have c40b1 : decide (((⟨#[40]⟩ : ByteArray) ++ t126).size + 1 ≤ 9223372036854775807) = true := decide_eq_true c40
  try have c40b2 : (9223372036854775807 < ((⟨#[40]⟩ : ByteArray) ++ t126).size + 1) = False := eq_false (Nat.not_lt.2 c40)
  try (have c40b3 := c40b2; simp only [ByteArray.size_append, show (⟨#[40]⟩ : ByteArray).size = 1 from rfl] at c40b3)
  replace H := bi H
  obtain ⟨t127, A410, H⟩ := H
  try dsimp only at H
  have A41 := ak A410
  clear A410
  replace H := bi H
  obtain ⟨t128, A420, H⟩ := H
  try dsimp only at H
  have A42 := ak A420
  clear A420
  replace H := oi H
  obtain ⟨c43, H⟩ := H
  have c43b0 := eq_true c43
  have c43b1 : decide ((((⟨#[40]⟩ : ByteArray) ++ t126) ++ (⟨#[62]⟩ : ByteArray)).size + t128.size ≤ 9223372036854775807) = true := decide_eq_true c43
  try have c43b2 : (9223372036854775807 < (((⟨#[40]⟩ : ByteArray) ++ t126) ++ (⟨#[62]⟩ : ByteArray)).size + t128.size) = False := eq_false (Nat.not_lt.2 c43)
  try (have c43b3 := c43b2; simp only [ByteArray.size_append, show (⟨#[40]⟩ : ByteArray).size = 1 from rfl, show (⟨#[62]⟩ : ByteArray).size = 1 from rfl] at c43b3)
  replace H := oi H
  obtain ⟨c44, H⟩ := H
  have c44b0 := eq_true c44
  have c44b1 : decide (((((⟨#[40]⟩ : ByteArray) ++ t126) ++ (⟨#[62]⟩ : ByteArray)) ++ t128).size + 1 ≤ 9223372036854775807) = true := decide_eq_true c44
  try have c44b2 : (9223372036854775807 < ((((⟨#[40]⟩ : ByteArray) ++ t126) ++ (⟨#[62]⟩ : ByteArray)) ++ t128).size + 1) = False := eq_false (Nat.not_lt.2 c44)
  try (have c44b3 := c44b2; simp only [ByteArray.size_append, show (⟨#[40]⟩ : ByteArray).size = 1 from rfl, show (⟨#[62]⟩ : ByteArray).size = 1 from rfl] at c44b3)
  obtain rfl := Option.some.inj H
  have p111 : 0 ≤ (a1 : Int) := of_decide_eq_true (by first | (with_reducible assumption) | assumption)
  have q111 : a1 < (l0.length : Int) := of_decide_eq_true (by first | (with_reducible assumption) | assumption)
  obtain ⟨ad111, e111, hx111_0⟩ := Kd.at_int HR0.out a1 p111 q111
  cases e111
  replace p111 := eq_true p111
  replace q111 := eq_true q111
  have p113 : 0 ≤ (a1 : Int) := of_decide_eq_true (by first | (with_reducible assumption) | assumption)
  have q113 : a1 < (l0.length : Int) := of_decide_eq_true (by first | (with_reducible assumption) | assumption)
  obtain ⟨ad113, e113, hx113_0⟩ := Kd.at_int HR0.out a1 p113 q113
  obtain rfl : ad111 = ad113 := (by injection e113)
  replace p113 := eq_true p113
  replace q113 := eq_true q113
  have p116 : 0 ≤ (a1 : Int) := of_decide_eq_true (by first | (with_reducible assumption) | assumption)
  have q116 : a1 < (l0.length : Int) := of_decide_eq_true (by first | (with_reducible assumption) | assumption)
  obtain ⟨ad116, e116, hx116_0⟩ := Kd.at_int HR0.out a1 p116 q116
  obtain rfl : ad111 = ad116 := (by injection e116)
  replace p116 := eq_true p116
  replace q116 := eq_true q116
  go_enter Try.func23, Try.ntmps23
  go_wp2_with (first | (go_at_call 23; (with_reducible refine (ih k (by omega) _ _ l0 (wrap64 (a1 + 1)) t126 _ ?side1 ?side2 A38.out).mono ?_); (case side1 => exact kC HR0.out); (case side2 => exact HC0.out); rintro e w' ⟨rfl, ⟨nd, rfl⟩⟩; (try first | exact ⟨rfl, _, World.drewN_drewN _ _ _⟩ | exact ⟨rfl, _, Eq.trans (World.drewN_drewN _ _ _) (congrArg (World.drewN _) (Nat.add_assoc _ _ _))⟩)) | (go_at_call 35; (with_reducible refine (spec_end.calls k _ _ l0 (wrap64 (a1 + 1)) t127 _ ?side1 ?side2 A41.out).mono ?_); (case side1 => exact kC HR0.out); (case side2 => exact HC0.out); rintro e w' ⟨rfl, ⟨nd, rfl⟩⟩; (try first | exact ⟨rfl, _, World.drewN_drewN _ _ _⟩ | exact ⟨rfl, _, Eq.trans (World.drewN_drewN _ _ _) (congrArg (World.drewN _) (Nat.add_assoc _ _ _))⟩)) | (go_at_call 23; (with_reducible refine (ih k (by omega) _ _ l0 t127 t128 _ ?side1 ?side2 A42.out).mono ?_); (case side1 => exact kC HR0.out); (case side2 => exact HC0.out); rintro e w' ⟨rfl, ⟨nd, rfl⟩⟩; (try first | exact ⟨rfl, _, World.drewN_drewN _ _ _⟩ | exact ⟨rfl, _, Eq.trans (World.drewN_drewN _ _ _) (congrArg (World.drewN _) (Nat.add_assoc _ _ _))⟩)))
  repeat ((refine wp_region_quiet_lit ?_ ?_ ?_; kernel_rfl; kernel_rfl; (repeat (first | go_big_quiet_step (first | (go_at_call 23; (with_reducible refine (ih k (by omega) _ _ l0 (wrap64 (a1 + 1)) t126 _ ?side1 ?side2 A38.out).mono ?_); (case side1 => exact kC HR0.out); (case side2 => exact HC0.out); rintro e w' ⟨rfl, ⟨nd, rfl⟩⟩; (try first | exact ⟨rfl, _, World.drewN_drewN _ _ _⟩ | exact ⟨rfl, _, Eq.trans (World.drewN_drewN _ _ _) (congrArg (World.drewN _) (Nat.add_assoc _ _ _))⟩)) | (go_at_call 35; (with_reducible refine (spec_end.calls k _ _ l0 (wrap64 (a1 + 1)) t127 _ ?side1 ?side2 A41.out).mono ?_); (case side1 => exact kC HR0.out); (case side2 => exact HC0.out); rintro e w' ⟨rfl, ⟨nd, rfl⟩⟩; (try first | exact ⟨rfl, _, World.drewN_drewN _ _ _⟩ | exact ⟨rfl, _, Eq.trans (World.drewN_drewN _ _ _) (congrArg (World.drewN _) (Nat.add_assoc _ _ _))⟩)) | (go_at_call 23; (with_reducible refine (ih k (by omega) _ _ l0 t127 t128 _ ?side1 ?side2 A42.out).mono ?_); (case side1 => exact kC HR0.out); (case side2 => exact HC0.out); rintro e w' ⟨rfl, ⟨nd, rfl⟩⟩; (try first | exact ⟨rfl, _, World.drewN_drewN _ _ _⟩ | exact ⟨rfl, _, Eq.trans (World.drewN_drewN _ _ _) (congrArg (World.drewN _) (Nat.add_assoc _ _ _))⟩))) | (refine wpQuiet_step (fun K hK => ?_); go_simp; refine hK _ ?_; clear hK K))); refine wpQuiet_nil ?_; intro _ hw'; obtain ⟨nq, hw''⟩ := hw'; subst hw''); try go_wp2_with (first | (go_at_call 23; (with_reducible refine (ih k (by omega) _ _ l0 (wrap64 (a1 + 1)) t126 _ ?side1 ?side2 A38.out).mono ?_); (case side1 => exact kC HR0.out); (case side2 => exact HC0.out); rintro e w' ⟨rfl, ⟨nd, rfl⟩⟩; (try first | exact ⟨rfl, _, World.drewN_drewN _ _ _⟩ | exact ⟨rfl, _, Eq.trans (World.drewN_drewN _ _ _) (congrArg (World.drewN _) (Nat.add_assoc _ _ _))⟩)) | (go_at_call 35; (with_reducible refine (spec_end.calls k _ _ l0 (wrap64 (a1 + 1)) t127 _ ?side1 ?side2 A41.out).mono ?_); (case side1 => exact kC HR0.out); (case side2 => exact HC0.out); rintro e w' ⟨rfl, ⟨nd, rfl⟩⟩; (try first | exact ⟨rfl, _, World.drewN_drewN _ _ _⟩ | exact ⟨rfl, _, Eq.trans (World.drewN_drewN _ _ _) (congrArg (World.drewN _) (Nat.add_assoc _ _ _))⟩)) | (go_at_call 23; (with_reducible refine (ih k (by omega) _ _ l0 t127 t128 _ ?side1 ?side2 A42.out).mono ?_); (case side1 => exact kC HR0.out); (case side2 => exact HC0.out); rintro e w' ⟨rfl, ⟨nd, rfl⟩⟩; (try first | exact ⟨rfl, _, World.drewN_drewN _ _ _⟩ | exact ⟨rfl, _, Eq.trans (World.drewN_drewN _ _ _) (congrArg (World.drewN _) (Nat.add_assoc _ _ _))⟩))))
  go_ret
  exact ⟨by first | rfl | (simp; done) | (simp [*]; done), by repeat (first | exact Drawn0.refl _ | apply Drawn0.step)⟩
 rw [if_pos c30] at H
 have c30b0 : ((rd l0 a1) == 15) = true := beq_iff_eq.mpr c30
 have c30b1 : ((rd l0 a1) != 15) = false := bne_eq_false_iff_eq.mpr c30
 clear c30
 replace H := bi H
 obtain ⟨t123, A310, H⟩ := H
 try dsimp only at H
 have A31 := ak A310
 clear A310
 replace H := oi H
 obtain ⟨c32, H⟩ := H
 have c32b0 := eq_true c32
 have c32b1 : decide (1 + t123.size ≤ 9223372036854775807) = true := decide_eq_true c32
 try have c32b2 : (9223372036854775807 < 1 + t123.size) = False := eq_false (Nat.not_lt.2 c32)
 replace H := oi H
 obtain ⟨c33, H⟩ := H
 have c33b0 := eq_true c33
 have c33b1 : decide (((⟨#[40]⟩ : ByteArray) ++ t123).size + 1 ≤ 9223372036854775807) = true := decide_eq_true c33
 try have c33b2 : (9223372036854775807 < ((⟨#[40]⟩ : ByteArray) ++ t123).size + 1) = False := eq_false (Nat.not_lt.2 c33)
 try (have c33b3 := c33b2; simp only [ByteArray.size_append, show (⟨#[40]⟩ : ByteArray).size = 1 from rfl] at c33b3)
 replace H := bi H
 obtain ⟨t124, A340, H⟩ := H
 try dsimp only at H
 have A34 := ak A340
 clear A340
 replace H := bi H
 obtain ⟨t125, A350, H⟩ := H
 try dsimp only at H
 have A35 := ak A350
 clear A350
 replace H := oi H
 obtain ⟨c36, H⟩ := H
 have c36b0 := eq_true c36
 have c36b1 : decide ((((⟨#[40]⟩ : ByteArray) ++ t123) ++ (⟨#[42]⟩ : ByteArray)).size + t125.size ≤ 9223372036854775807) = true := decide_eq_true c36
 try have c36b2 : (9223372036854775807 < (((⟨#[40]⟩ : ByteArray) ++ t123) ++ (⟨#[42]⟩ : ByteArray)).size + t125.size) = False := eq_false (Nat.not_lt.2 c36)
 try (have c36b3 := c36b2; simp only [ByteArray.size_append, show (⟨#[40]⟩ : ByteArray).size = 1 from rfl, show (⟨#[42]⟩ : ByteArray).size = 1 from rfl] at c36b3)
 replace H := oi H
 obtain ⟨c37, H⟩ := H
 have c37b0 := eq_true c37
 have c37b1 : decide (((((⟨#[40]⟩ : ByteArray) ++ t123) ++ (⟨#[42]⟩ : ByteArray)) ++ t125).size + 1 ≤ 9223372036854775807) = true := decide_eq_true c37
 try have c37b2 : (9223372036854775807 < ((((⟨#[40]⟩ : ByteArray) ++ t123) ++ (⟨#[42]⟩ : ByteArray)) ++ t125).size + 1) = False := eq_false (Nat.not_lt.2 c37)
 try (have c37b3 := c37b2; simp only [ByteArray.size_append, show (⟨#[40]⟩ : ByteArray).size = 1 from rfl, show (⟨#[42]⟩ : ByteArray).size = 1 from rfl] at c37b3)
 obtain rfl := Option.some.inj H
 have p111 : 0 ≤ (a1 : Int) := of_decide_eq_true (by first | (with_reducible assumption) | assumption)
 have q111 : a1 < (l0.length : Int) := of_decide_eq_true (by first | (with_reducible assumption) | assumption)
 obtain ⟨ad111, e111, hx111_0⟩ := Kd.at_int HR0.out a1 p111 q111
 cases e111
 replace p111 := eq_true p111
 replace q111 := eq_true q111
 have p113 : 0 ≤ (a1 : Int) := of_decide_eq_true (by first | (with_reducible assumption) | assumption)
 have q113 : a1 < (l0.length : Int) := of_decide_eq_true (by first | (with_reducible assumption) | assumption)
 obtain ⟨ad113, e113, hx113_0⟩ := Kd.at_int HR0.out a1 p113 q113
 obtain rfl : ad111 = ad113 := (by injection e113)
 replace p113 := eq_true p113
 replace q113 := eq_true q113
 have p116 : 0 ≤ (a1 : Int) := of_decide_eq_true (by first | (with_reducible assumption) | assumption)
 have q116 : a1 < (l0.length : Int) := of_decide_eq_true (by first | (with_reducible assumption) | assumption)
 obtain ⟨ad116, e116, hx116_0⟩ := Kd.at_int HR0.out a1 p116 q116
 obtain rfl : ad111 = ad116 := (by injection e116)
 replace p116 := eq_true p116
 replace q116 := eq_true q116
 go_enter Try.func23, Try.ntmps23
 go_wp2_with (first | (go_at_call 23; (with_reducible refine (ih k (by omega) _ _ l0 (wrap64 (a1 + 1)) t123 _ ?side1 ?side2 A31.out).mono ?_); (case side1 => exact kC HR0.out); (case side2 => exact HC0.out); rintro e w' ⟨rfl, ⟨nd, rfl⟩⟩; (try first | exact ⟨rfl, _, World.drewN_drewN _ _ _⟩ | exact ⟨rfl, _, Eq.trans (World.drewN_drewN _ _ _) (congrArg (World.drewN _) (Nat.add_assoc _ _ _))⟩)) | (go_at_call 35; (with_reducible refine (spec_end.calls k _ _ l0 (wrap64 (a1 + 1)) t124 _ ?side1 ?side2 A34.out).mono ?_); (case side1 => exact kC HR0.out); (case side2 => exact HC0.out); rintro e w' ⟨rfl, ⟨nd, rfl⟩⟩; (try first | exact ⟨rfl, _, World.drewN_drewN _ _ _⟩ | exact ⟨rfl, _, Eq.trans (World.drewN_drewN _ _ _) (congrArg (World.drewN _) (Nat.add_assoc _ _ _))⟩)) | (go_at_call 23; (with_reducible refine (ih k (by omega) _ _ l0 t124 t125 _ ?side1 ?side2 A35.out).mono ?_); (case side1 => exact kC HR0.out); (case side2 => exact HC0.out); rintro e w' ⟨rfl, ⟨nd, rfl⟩⟩; (try first | exact ⟨rfl, _, World.drewN_drewN _ _ _⟩ | exact ⟨rfl, _, Eq.trans (World.drewN_drewN _ _ _) (congrArg (World.drewN _) (Nat.add_assoc _ _ _))⟩)))
 repeat ((refine wp_region_quiet_lit ?_ ?_ ?_; kernel_rfl; kernel_rfl; (repeat (first | go_big_quiet_step (first | (go_at_call 23; (with_reducible refine (ih k (by omega) _ _ l0 (wrap64 (a1 + 1)) t123 _ ?side1 ?side2 A31.out).mono ?_); (case side1 => exact kC HR0.out); (case side2 => exact HC0.out); rintro e w' ⟨rfl, ⟨nd, rfl⟩⟩; (try first | exact ⟨rfl, _, World.drewN_drewN _ _ _⟩ | exact ⟨rfl, _, Eq.trans (World.drewN_drewN _ _ _) (congrArg (World.drewN _) (Nat.add_assoc _ _ _))⟩)) | (go_at_call 35; (with_reducible refine (spec_end.calls k _ _ l0 (wrap64 (a1 + 1)) t124 _ ?side1 ?side2 A34.out).mono ?_); (case side1 => exact kC HR0.out); (case side2 => exact HC0.out); rintro e w' ⟨rfl, ⟨nd, rfl⟩⟩; (try first | exact ⟨rfl, _, World.drewN_drewN _ _ _⟩ | exact ⟨rfl, _, Eq.trans (World.drewN_drewN _ _ _) (congrArg (World.drewN _) (Nat.add_assoc _ _ _))⟩)) | (go_at_call 23; (with_reducible refine (ih k (by omega) _ _ l0 t124 t125 _ ?side1 ?side2 A35.out).mono ?_); (case side1 => exact kC HR0.out); (case side2 => exact HC0.out); rintro e w' ⟨rfl, ⟨nd, rfl⟩⟩; (try first | exact ⟨rfl, _, World.drewN_drewN _ _ _⟩ | exact ⟨rfl, _, Eq.trans (World.drewN_drewN _ _ _) (congrArg (World.drewN _) (Nat.add_assoc _ _ _))⟩))) | (refine wpQuiet_step (fun K hK => ?_); go_simp; refine hK _ ?_; clear hK K))); refine wpQuiet_nil ?_; intro _ hw'; obtain ⟨nq, hw''⟩ := hw'; subst hw''); try go_wp2_with (first | (go_at_call 23; (with_reducible refine (ih k (by omega) _ _ l0 (wrap64 (a1 + 1)) t123 _ ?side1 ?side2 A31.out).mono ?_); (case side1 => exact kC HR0.out); (case side2 => exact HC0.out); rintro e w' ⟨rfl, ⟨nd, rfl⟩⟩; (try first | exact ⟨rfl, _, World.drewN_drewN _ _ _⟩ | exact ⟨rfl, _, Eq.trans (World.drewN_drewN _ _ _) (congrArg (World.drewN _) (Nat.add_assoc _ _ _))⟩)) | (go_at_call 35; (with_reducible refine (spec_end.calls k _ _ l0 (wrap64 (a1 + 1)) t124 _ ?side1 ?side2 A34.out).mono ?_); (case side1 => exact kC HR0.out); (case side2 => exact HC0.out); rintro e w' ⟨rfl, ⟨nd, rfl⟩⟩; (try first | exact ⟨rfl, _, World.drewN_drewN _ _ _⟩ | exact ⟨rfl, _, Eq.trans (World.drewN_drewN _ _ _) (congrArg (World.drewN _) (Nat.add_assoc _ _ _))⟩)) | (go_at_call 23; (with_reducible refine (ih k (by omega) _ _ l0 t124 t125 _ ?side1 ?side2 A35.out).mono ?_); (case side1 => exact kC HR0.out); (case side2 => exact HC0.out); rintro e w' ⟨rfl, ⟨nd, rfl⟩⟩; (try first | exact ⟨rfl, _, World.drewN_drewN _ _ _⟩ | exact ⟨rfl, _, Eq.trans (World.drewN_drewN _ _ _) (congrArg (World.drewN _) (Nat.add_assoc _ _ _))⟩))))
 go_ret
 exact ⟨by first | rfl | (simp; done) | (simp [*]; done), by repeat (first | exact Drawn0.refl _ | apply Drawn0.step)⟩
end Go.Proofs.Ytdcohlllbbcjoaa.P

-- shrunk
