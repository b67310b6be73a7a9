-- Printed by this session's wip/print2.py (the kit's print.py, widened) out of the translation. Lean checks it.
import Derived.Test.YtjijfflifonjoaaP0
namespace Go.Proofs.Ytjijfflifonjoaa.P
open Go.RowKit Go.Proofs.YtjijfflifonjoaaW.PrintWords Go.Proofs.YtjijfflifonjoaaW.PrintLast Go.Proofs.YtjijfflifonjoaaW.PrintMore
attribute [local go_sem] max2_int min2_int max_two min_two max_three min_three max_four min_four   -- for this text's walks alone
set_option linter.unusedVariables false
set_option linter.unusedSimpArgs false

/-! ### impl_join: function 30 -/
def impl_join.l0 : Nat → List Int → Int → Int → Int → Option (Int)
 | 0, _, _, _, _ => none
 | k + 1, x0, x7, x19, x20 => if x20 < x19 then (if 0 ≤ x20 then (if (Int.tmod (shr .i64 x7 x20) 2) = 1 then (if x20 < (x0.length : Int) then (if (Go.bits .andNot .i64 x7 (rd x0 x20)) = 0 then (some x20) else (impl_join.l0 k x0 x7 x19 (wrap64 (x20 + 1)))) else (none)) else (impl_join.l0 k x0 x7 x19 (wrap64 (x20 + 1)))) else (none)) else (some (-1))
def impl_join.f (k : Nat) (l0 : List Int) (a1 : Int) (a2 : Int) : Option (Int) := if 0 ≤ a1 then (if a1 < (l0.length : Int) then (if 0 ≤ a2 then (if a2 < (l0.length : Int) then (impl_join.l0 k l0 (Go.bits .and .i64 (rd l0 a1) (rd l0 a2)) (l0.length : Int) 0) else (none)) else (none)) else (none)) else (none)
set_option maxHeartbeats 8000000 in
set_option maxRecDepth 100000 in
theorem impl_join.calls (k : Nat) (A0 : Option Addr) (c0 : Nat) (l0 : List Int) (a1 : Int) (a2 : Int) (r : Int) (w : World) (hr0 : Kd.C (Kd.int .i64) w A0 l0.length l0) (hc0 : l0.length ≤ c0) (h : impl_join.f k l0 a1 a2 = some r) :
  Calls Try.prog 30 #[.slice A0 l0.length c0, .int .i64 a1, .int .i64 a2] w fun e w' => e = .returned (.int .i64 r) ∧ Drawn0 w w' := by
 have HR0 := ak hr0
 have HC0 := ak hc0
 clear hr0 hc0
 have H : (if 0 ≤ a1 then (if a1 < (l0.length : Int) then (if 0 ≤ a2 then (if a2 < (l0.length : Int) then (impl_join.l0 k l0 (Go.bits .and .i64 (rd l0 a1) (rd l0 a2)) (l0.length : Int) 0) else (none)) else (none)) else (none)) else (none)) = some r := h
 clear h
 replace H := oi H
 obtain ⟨c4, H⟩ := H
 have c4b0 : decide (0 ≤ a1) = true := decide_eq_true c4
 clear c4
 replace H := oi H
 obtain ⟨c5, H⟩ := H
 have c5b0 : decide (a1 < (l0.length : Int)) = true := decide_eq_true c5
 clear c5
 replace H := oi H
 obtain ⟨c6, H⟩ := H
 have c6b0 : decide (0 ≤ a2) = true := decide_eq_true c6
 clear c6
 replace H := oi H
 obtain ⟨c7, H⟩ := H
 have c7b0 : decide (a2 < (l0.length : Int)) = true := decide_eq_true c7
 clear c7
 have H' := ak H
 clear H
 have p177 : 0 ≤ (a1 : Int) := of_decide_eq_true (by first | (with_reducible assumption) | assumption)
 have q177 : a1 < (l0.length : Int) := of_decide_eq_true (by first | (with_reducible assumption) | assumption)
 obtain ⟨ad177, e177, hx177_0⟩ := Kd.at_int HR0.out a1 p177 q177
 cases e177
 replace p177 := eq_true p177
 replace q177 := eq_true q177
 have p178 : 0 ≤ (a2 : Int) := of_decide_eq_true (by first | (with_reducible assumption) | assumption)
 have q178 : a2 < (l0.length : Int) := of_decide_eq_true (by first | (with_reducible assumption) | assumption)
 obtain ⟨ad178, e178, hx178_0⟩ := Kd.at_int HR0.out a2 p178 q178
 obtain rfl : ad177 = ad178 := (by injection e178)
 replace p178 := eq_true p178
 replace q178 := eq_true q178
 go_enter Try.func30, Try.ntmps30
 go_wp2
 repeat (go_quiet (fail); try go_wp2)
 go_loopg [20] k (fun kq v20 w' => ∃ (x20_1 : Int), v20 = .int .i64 x20_1 ∧ Aside0 (impl_join.l0 kq l0 (Go.bits .and .i64 (rd l0 a1) (rd l0 a2)) (l0.length : Int) x20_1 = some r) ∧ Aside0 (kq ≤ k) ∧ Drawn0 w w')
 case atStart => exact ⟨(0), (by first | rfl | (simp; done) | (simp [*]; done)), H', ⟨Nat.le_refl _⟩, by repeat (first | exact Drawn0.refl _ | apply Drawn0.step)⟩
 case round =>
  clear H'
  try clear p1
  try clear q1
  try clear hx1
  try clear p2
  try clear c3
  try clear c4
  try clear c4b0
  try clear c5
  try clear c5b0
  try clear c6
  try clear c6b0
  try clear c7
  try clear c7b0
  try clear hx177_0
  try clear hx178_0
  try clear p177
  try clear p178
  try clear q177
  try clear q178
  obtain ⟨x20_1, rfl, HA, HK1, ⟨m1, rfl⟩⟩ := hrel
  cases gk with
  | zero => exact absurd HA.out (by simp [impl_join.l0])
  | succ k1 =>
   have H := HA.out
   clear HA
   simp only [impl_join.l0] at H
   by_cases c8 : x20_1 < (l0.length : Int)
   rotate_left
   ·rw [if_neg c8] at H
    have c8b0 : decide (x20_1 < (l0.length : Int)) = false := decide_eq_false c8
    clear c8
    obtain rfl := Option.some.inj H
    go_wp2
    repeat (go_quiet (fail); try go_wp2)
    go_ret
    exact ⟨by first | rfl | (simp; done) | (simp [*]; done), by repeat (first | exact Drawn0.refl _ | apply Drawn0.step)⟩
   rw [if_pos c8] at H
   have c8b0 : decide (x20_1 < (l0.length : Int)) = true := decide_eq_true c8
   clear c8
   replace H := oi H
   obtain ⟨c9, H⟩ := H
   have c9b0 := eq_true c9
   have c9b1 : decide (0 ≤ x20_1) = true := decide_eq_true c9
   clear c9
   obtain ⟨ji10, hji10⟩ : ∃ j_ : Int, (shr .i64 (Go.bits .and .i64 (rd l0 a1) (rd l0 a2)) x20_1) = j_ := ⟨_, rfl⟩
   replace H : (if (Int.tmod (ji10) 2) = 1 then (if x20_1 < (l0.length : Int) then (if (Go.bits .andNot .i64 (Go.bits .and .i64 (rd l0 a1) (rd l0 a2)) (rd l0 x20_1)) = 0 then (some x20_1) else (impl_join.l0 k1 l0 (Go.bits .and .i64 (rd l0 a1) (rd l0 a2)) (l0.length : Int) (wrap64 (x20_1 + 1)))) else (none)) else (impl_join.l0 k1 l0 (Go.bits .and .i64 (rd l0 a1) (rd l0 a2)) (l0.length : Int) (wrap64 (x20_1 + 1)))) = some r := by first | (rw [hji10] at H; exact H) | (simp only [hji10] at H ⊢; exact H)
   have hji10_ : ((Go.bits .and .i64 (rd l0 a1) (rd l0 a2)) / 2 ^ min x20_1.toNat 64) = ji10 := hji10
   have hji10z : x20_1 ≤ 64 → ((Go.bits .and .i64 (rd l0 a1) (rd l0 a2)) / 2 ^ x20_1.toNat) = ji10 := shr_small hji10
   by_cases c11 : (Int.tmod (ji10) 2) = 1
   rotate_left
   ·rw [if_neg c11] at H
    have c11b0 : ((Int.tmod (ji10) 2) == 1) = false := beq_eq_false_iff_ne.mpr c11
    have c11b1 : ((Int.tmod (ji10) 2) != 1) = true := bne_iff_ne.mpr c11
    have H' := ak H
    clear H
    go_wp2
    repeat (go_quiet (fail); try go_wp2)
    go_roundg k1
    case measure => have := HK1.out; omega
    case rel => exact ⟨(wrap64 (x20_1 + 1)), (by first | rfl | (simp; done) | (simp [*]; done)), H', ⟨by have := HK1.out; omega⟩, by repeat (first | exact Drawn0.refl _ | apply Drawn0.step)⟩
   rw [if_pos c11] at H
   have c11b0 : ((Int.tmod (ji10) 2) == 1) = true := beq_iff_eq.mpr c11
   have c11b1 : ((Int.tmod (ji10) 2) != 1) = false := bne_eq_false_iff_eq.mpr c11
   clear c11
   replace H := oi H
   obtain ⟨c12, H⟩ := H
   have c12b0 : decide (x20_1 < (l0.length : Int)) = true := decide_eq_true c12
   clear c12
   by_cases c13 : (Go.bits .andNot .i64 (Go.bits .and .i64 (rd l0 a1) (rd l0 a2)) (rd l0 x20_1)) = 0
   ·rw [if_pos c13] at H
    have c13b0 : ((Go.bits .andNot .i64 (Go.bits .and .i64 (rd l0 a1) (rd l0 a2)) (rd l0 x20_1)) == 0) = true := beq_iff_eq.mpr c13
    have c13b1 : ((Go.bits .andNot .i64 (Go.bits .and .i64 (rd l0 a1) (rd l0 a2)) (rd l0 x20_1)) != 0) = false := bne_eq_false_iff_eq.mpr c13
    clear c13
    obtain rfl := Option.some.inj H
    have p179 : 0 ≤ (x20_1 : Int) := of_decide_eq_true (by first | (with_reducible assumption) | assumption)
    have q179 : x20_1 < (l0.length : Int) := of_decide_eq_true (by first | (with_reducible assumption) | assumption)
    obtain ⟨ad179, e179, hx179_0⟩ := Kd.at_int HR0.out x20_1 p179 q179
    obtain rfl : ad177 = ad179 := (by injection e179)
    replace p179 := eq_true p179
    replace q179 := eq_true q179
    go_wp2
    repeat (go_quiet (fail); try go_wp2)
    go_ret
    exact ⟨by first | rfl | (simp; done) | (simp only [← hji10] <;> (first | rfl | simp)) | (simp [*]; done), by repeat (first | exact Drawn0.refl _ | apply Drawn0.step)⟩
   rw [if_neg c13] at H
   have c13b0 : ((Go.bits .andNot .i64 (Go.bits .and .i64 (rd l0 a1) (rd l0 a2)) (rd l0 x20_1)) == 0) = false := beq_eq_false_iff_ne.mpr c13
   have c13b1 : ((Go.bits .andNot .i64 (Go.bits .and .i64 (rd l0 a1) (rd l0 a2)) (rd l0 x20_1)) != 0) = true := bne_iff_ne.mpr c13
   have H' := ak H
   clear H
   have p179 : 0 ≤ (x20_1 : Int) := of_decide_eq_true (by first | (with_reducible assumption) | assumption)
   have q179 : x20_1 < (l0.length : Int) := of_decide_eq_true (by first | (with_reducible assumption) | assumption)
   obtain ⟨ad179, e179, hx179_0⟩ := Kd.at_int HR0.out x20_1 p179 q179
   obtain rfl : ad177 = ad179 := (by injection e179)
   replace p179 := eq_true p179
   replace q179 := eq_true q179
   go_wp2
   repeat (go_quiet (fail); try go_wp2)
   go_roundg k1
   case measure => have := HK1.out; omega
   case rel => exact ⟨(wrap64 (x20_1 + 1)), (by first | rfl | (simp; done) | (simp [*]; done)), H', ⟨by have := HK1.out; omega⟩, by repeat (first | exact Drawn0.refl _ | apply Drawn0.step)⟩
end Go.Proofs.Ytjijfflifonjoaa.P

-- shrunk
