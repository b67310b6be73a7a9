-- Printed by this session's wip/print2.py (the kit's print.py, widened) out of the translation. Lean checks it.
import Derived.Test.YtjijfflifonjoaaP0
import Derived.Test.YtjijfflifonjoaaP8
import Derived.Test.YtjijfflifonjoaaP9
import Derived.Test.YtjijfflifonjoaaP10
namespace Go.Proofs.Ytjijfflifonjoaa.P
open Go.RowKit Go.Proofs.YtjijfflifonjoaaW.PrintWords Go.Proofs.YtjijfflifonjoaaW.PrintLast Go.Proofs.YtjijfflifonjoaaW.PrintMore
attribute [local go_sem] max2_int min2_int max_two min_two max_three min_three max_four min_four   -- for this text's walks alone
set_option linter.unusedVariables false
set_option linter.unusedSimpArgs false

/-! ### impl_ValidLattice: function 13 -/
mutual
def impl_ValidLattice.l0 : Nat → List Int → Int → List Int → Int → Int → Option (Bool)
 | 0, _, _, _, _, _ => none
 | k + 1, x0, x3, x14, x15, x16 => if x16 < x15 then (if 0 ≤ x16 then (if x16 < (x14.length : Int) then (if 0 ≤ x3 then ((impl_within.f (rd x14 x16) 0 (wrap64 ((shl .i64 1 x3) - 1))).bind fun t182 => (if t182 = true then ((impl_below.f x0 x16 x16).bind fun t183 => (if t183 = true then ((impl_below.f x0 x16 (wrap64 (x3 - 1))).bind fun t184 => (if t184 = true then ((impl_below.f x0 0 x16).bind fun t185 => (impl_ValidLattice.j1 k x0 x3 x16 (rd x14 x16) x14 x15 x16 (!t185))) else (impl_ValidLattice.j1 k x0 x3 x16 (rd x14 x16) x14 x15 x16 true))) else (impl_ValidLattice.j1 k x0 x3 x16 (rd x14 x16) x14 x15 x16 true))) else (impl_ValidLattice.j1 k x0 x3 x16 (rd x14 x16) x14 x15 x16 true))) else (none)) else (none)) else (none)) else (impl_ValidLattice.l2 k x0 (x0.length : Int) 0)
def impl_ValidLattice.j1 : Nat → List Int → Int → Int → Int → List Int → Int → Int → Bool → Option (Bool)
 | 0, _, _, _, _, _, _, _, _ => none
 | k + 1, x0, x3, x4, x5, x14, x15, x16, x47 => if x47 = true then (some false) else (impl_ValidLattice.l1 k x0 x3 x4 x5 x14 x15 x16 (x0.length : Int) 0)
def impl_ValidLattice.l1 : Nat → List Int → Int → Int → Int → List Int → Int → Int → Int → Int → Option (Bool)
 | 0, _, _, _, _, _, _, _, _, _ => none
 | k + 1, x0, x3, x4, x5, x14, x15, x16, x49, x50 => if x50 < x49 then ((impl_below.f x0 x4 x50).bind fun t186 => (if t186 = true then (if x50 = x4 then (if 0 ≤ x50 then (if x50 < (x0.length : Int) then (if (Go.bits .andNot .i64 (rd x0 x50) x5) = 0 then (impl_ValidLattice.l1 k x0 x3 x4 x5 x14 x15 x16 x49 (wrap64 (x50 + 1))) else (some false)) else (none)) else (none)) else ((impl_below.f x0 x50 x4).bind fun t188 => (if t188 = true then (some false) else (if 0 ≤ x50 then (if x50 < (x0.length : Int) then (if (Go.bits .andNot .i64 (rd x0 x50) x5) = 0 then (impl_ValidLattice.l1 k x0 x3 x4 x5 x14 x15 x16 x49 (wrap64 (x50 + 1))) else (some false)) else (none)) else (none))))) else (impl_ValidLattice.l1 k x0 x3 x4 x5 x14 x15 x16 x49 (wrap64 (x50 + 1))))) else (impl_ValidLattice.l0 k x0 x3 x14 x15 (wrap64 (x16 + 1)))
def impl_ValidLattice.l2 : Nat → List Int → Int → Int → Option (Bool)
 | 0, _, _, _ => none
 | k + 1, x0, x80, x81 => if x81 < x80 then (impl_ValidLattice.l3 k x0 x81 x80 x81 (x0.length : Int) 0) else (some true)
def impl_ValidLattice.l3 : Nat → List Int → Int → Int → Int → Int → Int → Option (Bool)
 | 0, _, _, _, _, _, _ => none
 | k + 1, x0, x7, x80, x81, x85, x86 => if x86 < x85 then ((impl_meet.f k x0 x7 x86).bind fun t190 => (if t190 < 0 then (some false) else ((impl_join.f k x0 x7 x86).bind fun t191 => (if t191 < 0 then (some false) else (impl_ValidLattice.l3 k x0 x7 x80 x81 x85 (wrap64 (x86 + 1))))))) else (impl_ValidLattice.l2 k x0 x80 (wrap64 (x81 + 1)))
end
def impl_ValidLattice.f (k : Nat) (l0 : List Int) : Option (Bool) := (impl_within.f (l0.length : Int) 1 6).bind fun t180 => (if t180 = true then (impl_ValidLattice.l0 k l0 (l0.length : Int) l0 (l0.length : Int) 0) else (some false))
set_option maxHeartbeats 8000000 in
set_option maxRecDepth 100000 in
theorem impl_ValidLattice.calls (k : Nat) (A0 : Option Addr) (c0 : Nat) (l0 : List Int) (r : Bool) (w : World) (hr0 : Kd.C (Kd.int .i64) w A0 l0.length l0) (hc0 : l0.length ≤ c0) (h : impl_ValidLattice.f k l0 = some r) :
  Calls Try.prog 13 #[.slice A0 l0.length c0] w fun e w' => e = .returned (.bool r) ∧ Drawn0 w w' := by
 have HR0 := ak hr0
 have HC0 := ak hc0
 clear hr0 hc0
 have H : ((impl_within.f (l0.length : Int) 1 6).bind fun t180 => (if t180 = true then (impl_ValidLattice.l0 k l0 (l0.length : Int) l0 (l0.length : Int) 0) else (some false))) = some r := h
 clear h
 replace H := bi H
 obtain ⟨t180, A20, H⟩ := H
 try dsimp only at H
 have A2 := ak A20
 clear A20
 by_cases c3 : t180 = true
 rotate_left
 ·replace c3 := Bool.eq_false_iff.mpr c3
  subst c3
  rw [if_neg (show ¬ (false = true) by decide)] at H
  obtain rfl := Option.some.inj H
  go_enter Try.func13, Try.ntmps13
  go_wp2_with (first | ((with_reducible refine gate_callee (f := 19) rfl ?_); refine goesL_ (some 12) rfl rfl Try.func19 (by kernel_rfl) rfl #[.int .i64 (l0.length : Int), .int .i64 1, .int .i64 6] rfl (by (try simp only [List.map_toArray, List.map_cons, List.map_nil]); first | done | rfl | (simp only [List.length_drop, List.length_take]; rfl)) ?_; (with_reducible refine (impl_within.calls (l0.length : Int) 1 6 false _ A2.out).mono ?_); rintro e w' ⟨rfl, ⟨nd, rfl⟩⟩; refine ⟨_, rfl, ?_⟩))
  go_ret
  exact ⟨by first | rfl | (simp; done) | (simp [*]; done), by repeat (first | exact Drawn0.refl _ | apply Drawn0.step)⟩
 subst c3
 rw [if_pos rfl] at H
 have H' := ak H
 clear H
 go_enter Try.func13, Try.ntmps13
 go_wp2_with (first | ((with_reducible refine gate_callee (f := 19) rfl ?_); refine goesL_ (some 12) rfl rfl Try.func19 (by kernel_rfl) rfl #[.int .i64 (l0.length : Int), .int .i64 1, .int .i64 6] rfl (by (try simp only [List.map_toArray, List.map_cons, List.map_nil]); first | done | rfl | (simp only [List.length_drop, List.length_take]; rfl)) ?_; (with_reducible refine (impl_within.calls (l0.length : Int) 1 6 true _ A2.out).mono ?_); rintro e w' ⟨rfl, ⟨nd, rfl⟩⟩; refine ⟨_, rfl, ?_⟩))
 go_loopg [16] k (fun kq v16 w' => ∃ (x16_1 : Int), v16 = .int .i64 x16_1 ∧ Aside0 (impl_ValidLattice.l0 kq l0 (l0.length : Int) l0 (l0.length : Int) x16_1 = some r) ∧ Aside0 (kq ≤ k) ∧ Drawn0 w w')
 case atStart => exact ⟨(0), (by first | rfl | (simp; done) | (simp [*]; done)), H', ⟨Nat.le_refl _⟩, by repeat (first | exact Drawn0.refl _ | apply Drawn0.step)⟩
 case round =>
  clear H'
  try clear c1
  try clear p2
  try clear c3
  obtain ⟨x16_1, rfl, HA, HK1, ⟨m1, rfl⟩⟩ := hrel
  cases gk with
  | zero => exact absurd HA.out (by simp [impl_ValidLattice.l0])
  | succ k1 =>
   have H := HA.out
   clear HA
   simp only [impl_ValidLattice.l0] at H
   by_cases c4 : x16_1 < (l0.length : Int)
   rotate_left
   ·rw [if_neg c4] at H
    have c4b0 : decide (x16_1 < (l0.length : Int)) = false := decide_eq_false c4
    clear c4
    have H' := ak H
    clear H
    go_wp2
    go_loopg [81] k1 (fun kq v81 w' => ∃ (x81_2 : Int), v81 = .int .i64 x81_2 ∧ Aside0 (impl_ValidLattice.l2 kq l0 (l0.length : Int) x81_2 = some r) ∧ Aside0 (kq ≤ k1) ∧ Drawn0 w w')
    case atStart => exact ⟨(0), (by first | rfl | (simp; done) | (simp [*]; done)), H', ⟨Nat.le_refl _⟩, by repeat (first | exact Drawn0.refl _ | apply Drawn0.step)⟩
    case round =>
     clear H'
     try clear c1
     try clear p1
     try clear q1
     try clear hx1
     try clear c2
     try clear p2
     try clear c3
     try clear c4
     try clear c4b0
     try clear c5
     try clear c5b0
     try clear c6
     try clear c6b0
     try clear p6
     try clear c8
     try clear c8b0
     try clear c8b1
     try clear c11
     try clear c13
     try clear c15
     try clear c17
     try clear c18
     try clear c18b0
     try clear p18
     try clear q18
     try clear hx18
     try clear c19
     try clear c20
     try clear c21
     try clear c21b0
     try clear c21b1
     try clear c22
     try clear c22b0
     try clear c23
     try clear c23b0
     try clear c24
     try clear c24b0
     try clear c24b1
     try clear c26
     try clear c27
     try clear c27b0
     try clear c28
     try clear c28b0
     try clear c29
     try clear c29b0
     try clear c29b1
     try clear hx181_0
     try clear hx187_0
     try clear hx189_0
     try clear p1
     try clear p181
     try clear p187
     try clear p189
     try clear p2
     try clear p6
     try clear q1
     try clear q181
     try clear q187
     try clear q189
     obtain ⟨x81_2, rfl, HA, HK2, ⟨m2, rfl⟩⟩ := hrel
     cases gk with
     | zero => exact absurd HA.out (by simp [impl_ValidLattice.l2])
     | succ k2 =>
      have H := HA.out
      clear HA
      simp only [impl_ValidLattice.l2] at H
      by_cases c30 : x81_2 < (l0.length : Int)
      rotate_left
      ·rw [if_neg c30] at H
       have c30b0 : decide (x81_2 < (l0.length : Int)) = false := decide_eq_false c30
       clear c30
       obtain rfl := Option.some.inj H
       go_wp2
       go_ret
       exact ⟨by first | rfl | (simp; done) | (simp [*]; done), by repeat (first | exact Drawn0.refl _ | apply Drawn0.step)⟩
      rw [if_pos c30] at H
      have c30b0 : decide (x81_2 < (l0.length : Int)) = true := decide_eq_true c30
      clear c30
      have H' := ak H
      clear H
      go_wp2
      go_loopg [86] k2 (fun kq v86 w' => ∃ (x86_3 : Int), v86 = .int .i64 x86_3 ∧ Aside0 (impl_ValidLattice.l3 kq l0 x81_2 (l0.length : Int) x81_2 (l0.length : Int) x86_3 = some r) ∧ Aside0 (kq ≤ k2) ∧ Drawn0 w w')
      case atStart => exact ⟨(0), (by first | rfl | (simp; done) | (simp [*]; done)), H', ⟨Nat.le_refl _⟩, by repeat (first | exact Drawn0.refl _ | apply Drawn0.step)⟩
      case round =>
       clear H'
       try clear c1
       try clear p1
       try clear q1
       try clear hx1
       try clear c2
       try clear p2
       try clear c3
       try clear c4
       try clear c4b0
       try clear c5
       try clear c5b0
       try clear c6
       try clear c6b0
       try clear p6
       try clear c8
       try clear c8b0
       try clear c8b1
       try clear c11
       try clear c13
       try clear c15
       try clear c17
       try clear c18
       try clear c18b0
       try clear p18
       try clear q18
       try clear hx18
       try clear c19
       try clear c20
       try clear c21
       try clear c21b0
       try clear c21b1
       try clear c22
       try clear c22b0
       try clear c23
       try clear c23b0
       try clear c24
       try clear c24b0
       try clear c24b1
       try clear c26
       try clear c27
       try clear c27b0
       try clear c28
       try clear c28b0
       try clear c29
       try clear c29b0
       try clear c29b1
       try clear c30
       try clear c30b0
       try clear hx181_0
       try clear hx187_0
       try clear hx189_0
       try clear p1
       try clear p18
       try clear p181
       try clear p187
       try clear p189
       try clear p2
       try clear p6
       try clear q1
       try clear q18
       try clear q181
       try clear q187
       try clear q189
       obtain ⟨x86_3, rfl, HA, HK3, ⟨m3, rfl⟩⟩ := hrel
       cases gk with
       | zero => exact absurd HA.out (by simp [impl_ValidLattice.l3])
       | succ k3 =>
        have H := HA.out
        clear HA
        simp only [impl_ValidLattice.l3] at H
        by_cases c31 : x86_3 < (l0.length : Int)
        rotate_left
        ·rw [if_neg c31] at H
         have c31b0 : decide (x86_3 < (l0.length : Int)) = false := decide_eq_false c31
         clear c31
         have H' := ak H
         clear H
         go_wp2
         go_roundg k3
         case measure => have := HK1.out; have := HK2.out; have := HK3.out; omega
         case rel => exact ⟨(wrap64 (x81_2 + 1)), (by first | rfl | (simp; done) | (simp [*]; done)), H', ⟨by have := HK1.out; have := HK2.out; have := HK3.out; omega⟩, by repeat (first | exact Drawn0.refl _ | apply Drawn0.step)⟩
        rw [if_pos c31] at H
        have c31b0 : decide (x86_3 < (l0.length : Int)) = true := decide_eq_true c31
        clear c31
        replace H := bi H
        obtain ⟨t190, A320, H⟩ := H
        try dsimp only at H
        have A32 := ak A320
        clear A320
        by_cases c33 : t190 < 0
        ·rw [if_pos c33] at H
         have c33b0 : decide (t190 < 0) = true := decide_eq_true c33
         clear c33
         obtain rfl := Option.some.inj H
         go_wp2_with (first | ((with_reducible refine gate_callee (f := 29) rfl ?_); refine goesL_ (some 92) rfl rfl Try.func29 (by kernel_rfl) rfl #[.slice A0 l0.length c0, .int .i64 x81_2, .int .i64 x86_3] rfl (by (try simp only [List.map_toArray, List.map_cons, List.map_nil]); first | done | rfl | (simp only [List.length_drop, List.length_take]; rfl)) ?_; (with_reducible refine (impl_meet.calls k3 _ _ l0 x81_2 x86_3 t190 _ ?side1 ?side2 A32.out).mono ?_); (case side1 => exact kC HR0.out); (case side2 => exact HC0.out); rintro e w' ⟨rfl, ⟨nd, rfl⟩⟩; refine ⟨_, rfl, ?_⟩))
         go_ret
         exact ⟨by first | rfl | (simp; done) | (simp [*]; done), by repeat (first | exact Drawn0.refl _ | apply Drawn0.step)⟩
        rw [if_neg c33] at H
        have c33b0 : decide (t190 < 0) = false := decide_eq_false c33
        clear c33
        replace H := bi H
        obtain ⟨t191, A340, H⟩ := H
        try dsimp only at H
        have A34 := ak A340
        clear A340
        by_cases c35 : t191 < 0
        ·rw [if_pos c35] at H
         have c35b0 : decide (t191 < 0) = true := decide_eq_true c35
         clear c35
         obtain rfl := Option.some.inj H
         go_wp2_with (first | ((with_reducible refine gate_callee (f := 29) rfl ?_); refine goesL_ (some 92) rfl rfl Try.func29 (by kernel_rfl) rfl #[.slice A0 l0.length c0, .int .i64 x81_2, .int .i64 x86_3] rfl (by (try simp only [List.map_toArray, List.map_cons, List.map_nil]); first | done | rfl | (simp only [List.length_drop, List.length_take]; rfl)) ?_; (with_reducible refine (impl_meet.calls k3 _ _ l0 x81_2 x86_3 t190 _ ?side1 ?side2 A32.out).mono ?_); (case side1 => exact kC HR0.out); (case side2 => exact HC0.out); rintro e w' ⟨rfl, ⟨nd, rfl⟩⟩; refine ⟨_, rfl, ?_⟩) | (go_at_call 30; (with_reducible refine (impl_join.calls k3 _ _ l0 x81_2 x86_3 t191 _ ?side1 ?side2 A34.out).mono ?_); (case side1 => exact kC HR0.out); (case side2 => exact HC0.out); rintro e w' ⟨rfl, ⟨nd, rfl⟩⟩))
         go_ret
         exact ⟨by first | rfl | (simp; done) | (simp [*]; done), by repeat (first | exact Drawn0.refl _ | apply Drawn0.step)⟩
        rw [if_neg c35] at H
        have c35b0 : decide (t191 < 0) = false := decide_eq_false c35
        clear c35
        have H' := ak H
        clear H
        go_wp2_with (first | ((with_reducible refine gate_callee (f := 29) rfl ?_); refine goesL_ (some 92) rfl rfl Try.func29 (by kernel_rfl) rfl #[.slice A0 l0.length c0, .int .i64 x81_2, .int .i64 x86_3] rfl (by (try simp only [List.map_toArray, List.map_cons, List.map_nil]); first | done | rfl | (simp only [List.length_drop, List.length_take]; rfl)) ?_; (with_reducible refine (impl_meet.calls k3 _ _ l0 x81_2 x86_3 t190 _ ?side1 ?side2 A32.out).mono ?_); (case side1 => exact kC HR0.out); (case side2 => exact HC0.out); rintro e w' ⟨rfl, ⟨nd, rfl⟩⟩; refine ⟨_, rfl, ?_⟩) | (go_at_call 30; (with_reducible refine (impl_join.calls k3 _ _ l0 x81_2 x86_3 t191 _ ?side1 ?side2 A34.out).mono ?_); (case side1 => exact kC HR0.out); (case side2 => exact HC0.out); rintro e w' ⟨rfl, ⟨nd, rfl⟩⟩))
        go_roundg k3
        case measure => have := HK1.out; have := HK2.out; have := HK3.out; omega
        case rel => exact ⟨(wrap64 (x86_3 + 1)), (by first | rfl | (simp; done) | (simp [*]; done)), H', ⟨by have := HK1.out; have := HK2.out; have := HK3.out; omega⟩, by repeat (first | exact Drawn0.refl _ | apply Drawn0.step)⟩
   rw [if_pos c4] at H
   have c4b0 : decide (x16_1 < (l0.length : Int)) = true := decide_eq_true c4
   clear c4
   replace H := oi H
   obtain ⟨c5, H⟩ := H
   have c5b0 : decide (0 ≤ x16_1) = true := decide_eq_true c5
   clear c5
   replace H := oi H
   obtain ⟨c6, H⟩ := H
   have c6b0 : decide (x16_1 < (l0.length : Int)) = true := decide_eq_true c6
   clear c6
   have HC7 := ak H
   clear H
   have p181 : 0 ≤ (x16_1 : Int) := of_decide_eq_true (by first | (with_reducible assumption) | assumption)
   have q181 : x16_1 < (l0.length : Int) := of_decide_eq_true (by first | (with_reducible assumption) | assumption)
   obtain ⟨ad181, e181, hx181_0⟩ := Kd.at_int HR0.out x16_1 p181 q181
   cases e181
   replace p181 := eq_true p181
   replace q181 := eq_true q181
   go_upto_region 7 with (fail)
   go_cut [47] (fun v47 wc => ∃ (kq : Nat) (x47_6 : Bool), v47 = .bool x47_6 ∧ Aside0 (impl_ValidLattice.j1 kq l0 (l0.length : Int) x16_1 (rd l0 x16_1) l0 (l0.length : Int) x16_1 x47_6 = some r) ∧ Aside0 (kq ≤ k1) ∧ Drawn0 w wc)
   case first =>
    have H := HC7.out
    clear HC7
    replace H := oi H
    obtain ⟨c8, H⟩ := H
    have c8b0 := eq_true c8
    have c8b1 : decide (0 ≤ (l0.length : Int)) = true := decide_eq_true c8
    clear c8
    obtain ⟨ji9, hji9⟩ : ∃ j_ : Int, (shl .i64 1 (l0.length : Int)) = j_ := ⟨_, rfl⟩
    replace H : ((impl_within.f (rd l0 x16_1) 0 (wrap64 ((ji9) - 1))).bind fun t182 => (if t182 = true then ((impl_below.f l0 x16_1 x16_1).bind fun t183 => (if t183 = true then ((impl_below.f l0 x16_1 (wrap64 ((l0.length : Int) - 1))).bind fun t184 => (if t184 = true then ((impl_below.f l0 0 x16_1).bind fun t185 => (impl_ValidLattice.j1 k1 l0 (l0.length : Int) x16_1 (rd l0 x16_1) l0 (l0.length : Int) x16_1 (!t185))) else (impl_ValidLattice.j1 k1 l0 (l0.length : Int) x16_1 (rd l0 x16_1) l0 (l0.length : Int) x16_1 true))) else (impl_ValidLattice.j1 k1 l0 (l0.length : Int) x16_1 (rd l0 x16_1) l0 (l0.length : Int) x16_1 true))) else (impl_ValidLattice.j1 k1 l0 (l0.length : Int) x16_1 (rd l0 x16_1) l0 (l0.length : Int) x16_1 true))) = some r := by first | (rw [hji9] at H; exact H) | (simp only [hji9] at H ⊢; exact H)
    have hji9_ : (IntKind.i64.wrap (1 * 2 ^ min (l0.length : Int).toNat 64)) = ji9 := hji9
    have hji9z : (l0.length : Int) ≤ 64 → (IntKind.i64.wrap (1 * 2 ^ (l0.length : Int).toNat)) = ji9 := shl_small hji9
    have hji9p : (IntKind.i64.wrap (1 * 2 ^ min l0.length 64)) = ji9 := hji9_
    have hji9q : (l0.length : Int) ≤ 64 → (IntKind.i64.wrap (1 * 2 ^ l0.length)) = ji9 := hji9z
    have hji9r : (IntKind.i64.wrap (2 ^ min l0.length 64)) = ji9 := by have h_ := hji9p; rw [Int.one_mul] at h_; exact h_
    have hji9s : (l0.length : Int) ≤ 64 → (IntKind.i64.wrap (2 ^ l0.length)) = ji9 := fun hle_ => by have h_ := hji9q hle_; rw [Int.one_mul] at h_; exact h_
    have hji9u : (IntKind.i64.wrap (2 ^ min (l0.length : Int).toNat 64)) = ji9 := by have h_ := hji9_; rw [Int.one_mul] at h_; exact h_
    have hji9v : (l0.length : Int) ≤ 64 → (IntKind.i64.wrap (2 ^ (l0.length : Int).toNat)) = ji9 := fun hle_ => by have h_ := hji9z hle_; rw [Int.one_mul] at h_; exact h_
    have hji9y : (wrap64 (1 * 2 ^ min (l0.length : Int).toNat 64)) = ji9 := (i64_w _).symm.trans hji9_
    have hji9x : (l0.length : Int) ≤ 64 → (wrap64 (1 * 2 ^ (l0.length : Int).toNat)) = ji9 := fun h_ => (i64_w _).symm.trans (hji9z h_)
    replace H := bi H
    obtain ⟨t182, A100, H⟩ := H
    try dsimp only at H
    have A10 := ak A100
    clear A100
    by_cases c11 : t182 = true
    rotate_left
    ·replace c11 := Bool.eq_false_iff.mpr c11
     subst c11
     rw [if_neg (show ¬ (false = true) by decide)] at H
     have H' := ak H
     clear H
     go_wp2_with (first | ((with_reducible refine gate_callee (f := 19) rfl ?_); refine goesL_ (some 25) rfl rfl Try.func19 (by kernel_rfl) rfl #[.int .i64 (rd l0 x16_1), .int .i64 0, .int .i64 (wrap64 ((ji9) - 1))] rfl (by (try simp only [List.map_toArray, List.map_cons, List.map_nil]); first | done | (simp only [hji9]; rfl) | rfl | (simp only [List.length_drop, List.length_take]; rfl)) ?_; (with_reducible refine (impl_within.calls (rd l0 x16_1) 0 (wrap64 ((ji9) - 1)) false _ A10.out).mono ?_); rintro e w' ⟨rfl, ⟨nd, rfl⟩⟩; refine ⟨_, rfl, ?_⟩))
     go_meet
     case rel => exact ⟨_, (true), (by first | rfl | (simp; done) | (simp [*]; done)), H', ⟨by have := HK1.out; first | omega | exact Nat.le_refl _⟩, by repeat (first | exact Drawn0.refl _ | apply Drawn0.step)⟩
    subst c11
    rw [if_pos rfl] at H
    replace H := bi H
    obtain ⟨t183, A120, H⟩ := H
    try dsimp only at H
    have A12 := ak A120
    clear A120
    by_cases c13 : t183 = true
    rotate_left
    ·replace c13 := Bool.eq_false_iff.mpr c13
     subst c13
     rw [if_neg (show ¬ (false = true) by decide)] at H
     have H' := ak H
     clear H
     go_wp2_with (first | ((with_reducible refine gate_callee (f := 19) rfl ?_); refine goesL_ (some 25) rfl rfl Try.func19 (by kernel_rfl) rfl #[.int .i64 (rd l0 x16_1), .int .i64 0, .int .i64 (wrap64 ((ji9) - 1))] rfl (by (try simp only [List.map_toArray, List.map_cons, List.map_nil]); first | done | (simp only [hji9]; rfl) | rfl | (simp only [List.length_drop, List.length_take]; rfl)) ?_; (with_reducible refine (impl_within.calls (rd l0 x16_1) 0 (wrap64 ((ji9) - 1)) true _ A10.out).mono ?_); rintro e w' ⟨rfl, ⟨nd, rfl⟩⟩; refine ⟨_, rfl, ?_⟩) | (go_at_call 28; (with_reducible refine (impl_below.calls _ _ l0 x16_1 x16_1 false _ ?side1 ?side2 A12.out).mono ?_); (case side1 => exact kC HR0.out); (case side2 => exact HC0.out); rintro e w' ⟨rfl, ⟨nd, rfl⟩⟩))
     go_meet
     case rel => exact ⟨_, (true), (by first | rfl | (simp; done) | (simp [*]; done)), H', ⟨by have := HK1.out; first | omega | exact Nat.le_refl _⟩, by repeat (first | exact Drawn0.refl _ | apply Drawn0.step)⟩
    subst c13
    rw [if_pos rfl] at H
    replace H := bi H
    obtain ⟨t184, A140, H⟩ := H
    try dsimp only at H
    have A14 := ak A140
    clear A140
    by_cases c15 : t184 = true
    rotate_left
    ·replace c15 := Bool.eq_false_iff.mpr c15
     subst c15
     rw [if_neg (show ¬ (false = true) by decide)] at H
     have H' := ak H
     clear H
     go_wp2_with (first | ((with_reducible refine gate_callee (f := 19) rfl ?_); refine goesL_ (some 25) rfl rfl Try.func19 (by kernel_rfl) rfl #[.int .i64 (rd l0 x16_1), .int .i64 0, .int .i64 (wrap64 ((ji9) - 1))] rfl (by (try simp only [List.map_toArray, List.map_cons, List.map_nil]); first | done | (simp only [hji9]; rfl) | rfl | (simp only [List.length_drop, List.length_take]; rfl)) ?_; (with_reducible refine (impl_within.calls (rd l0 x16_1) 0 (wrap64 ((ji9) - 1)) true _ A10.out).mono ?_); rintro e w' ⟨rfl, ⟨nd, rfl⟩⟩; refine ⟨_, rfl, ?_⟩) | (go_at_call 28; (with_reducible refine (impl_below.calls _ _ l0 x16_1 x16_1 true _ ?side1 ?side2 A12.out).mono ?_); (case side1 => exact kC HR0.out); (case side2 => exact HC0.out); rintro e w' ⟨rfl, ⟨nd, rfl⟩⟩) | (go_at_call 28; (with_reducible refine (impl_below.calls _ _ l0 x16_1 (wrap64 ((l0.length : Int) - 1)) false _ ?side1 ?side2 A14.out).mono ?_); (case side1 => exact kC HR0.out); (case side2 => exact HC0.out); rintro e w' ⟨rfl, ⟨nd, rfl⟩⟩))
     go_meet
     case rel => exact ⟨_, (true), (by first | rfl | (simp; done) | (simp [*]; done)), H', ⟨by have := HK1.out; first | omega | exact Nat.le_refl _⟩, by repeat (first | exact Drawn0.refl _ | apply Drawn0.step)⟩
    subst c15
    rw [if_pos rfl] at H
    replace H := bi H
    obtain ⟨t185, A160, H⟩ := H
    try dsimp only at H
    have A16 := ak A160
    clear A160
    have H' := ak H
    clear H
    go_wp2_with (first | ((with_reducible refine gate_callee (f := 19) rfl ?_); refine goesL_ (some 25) rfl rfl Try.func19 (by kernel_rfl) rfl #[.int .i64 (rd l0 x16_1), .int .i64 0, .int .i64 (wrap64 ((ji9) - 1))] rfl (by (try simp only [List.map_toArray, List.map_cons, List.map_nil]); first | done | (simp only [hji9]; rfl) | rfl | (simp only [List.length_drop, List.length_take]; rfl)) ?_; (with_reducible refine (impl_within.calls (rd l0 x16_1) 0 (wrap64 ((ji9) - 1)) true _ A10.out).mono ?_); rintro e w' ⟨rfl, ⟨nd, rfl⟩⟩; refine ⟨_, rfl, ?_⟩) | (go_at_call 28; (with_reducible refine (impl_below.calls _ _ l0 x16_1 x16_1 true _ ?side1 ?side2 A12.out).mono ?_); (case side1 => exact kC HR0.out); (case side2 => exact HC0.out); rintro e w' ⟨rfl, ⟨nd, rfl⟩⟩) | (go_at_call 28; (with_reducible refine (impl_below.calls _ _ l0 x16_1 (wrap64 ((l0.length : Int) - 1)) true _ ?side1 ?side2 A14.out).mono ?_); (case side1 => exact kC HR0.out); (case side2 => exact HC0.out); rintro e w' ⟨rfl, ⟨nd, rfl⟩⟩) | (go_at_call 28; (with_reducible refine (impl_below.calls _ _ l0 0 x16_1 t185 _ ?side1 ?side2 A16.out).mono ?_); (case side1 => exact kC HR0.out); (case side2 => exact HC0.out); rintro e w' ⟨rfl, ⟨nd, rfl⟩⟩))
    go_meet
    case rel => exact ⟨_, (!t185), (by first | rfl | (simp; done) | (simp [*]; done)), H', ⟨by have := HK1.out; first | omega | exact Nat.le_refl _⟩, by repeat (first | exact Drawn0.refl _ | apply Drawn0.step)⟩
   case rest =>
    clear HC7
    try clear c1
    try clear p1
    try clear q1
    try clear hx1
    try clear p2
    try clear c3
    try clear c4
    try clear c4b0
    try clear c5
    try clear c5b0
    try clear c6
    try clear c6b0
    try clear p6
    try clear c8
    try clear c8b0
    try clear c8b1
    try clear c11
    try clear c13
    try clear c15
    try clear hx181_0
    try clear p181
    try clear p2
    try clear q181
    obtain ⟨kq, x47_6, rfl, HA, HJ6, ⟨mc6, rfl⟩⟩ := hcut
    cases kq with
    | zero => exact absurd HA.out (by simp [impl_ValidLattice.j1])
    | succ kj6 =>
     have H := HA.out
     clear HA
     simp only [impl_ValidLattice.j1] at H
     by_cases c17 : x47_6 = true
     ·subst c17
      rw [if_pos rfl] at H
      obtain rfl := Option.some.inj H
      go_wp2
      go_ret
      exact ⟨by first | rfl | (simp; done) | (simp [*]; done), by repeat (first | exact Drawn0.refl _ | apply Drawn0.step)⟩
     replace c17 := Bool.eq_false_iff.mpr c17
     subst c17
     rw [if_neg (show ¬ (false = true) by decide)] at H
     have H' := ak H
     clear H
     go_wp2
     go_loopg [50] kj6 (fun kq v50 w' => ∃ (x50_3 : Int), v50 = .int .i64 x50_3 ∧ Aside0 (impl_ValidLattice.l1 kq l0 (l0.length : Int) x16_1 (rd l0 x16_1) l0 (l0.length : Int) x16_1 (l0.length : Int) x50_3 = some r) ∧ Aside0 (kq ≤ kj6) ∧ Drawn0 w w')
     case atStart => exact ⟨(0), (by first | rfl | (simp; done) | (simp [*]; done)), H', ⟨Nat.le_refl _⟩, by repeat (first | exact Drawn0.refl _ | apply Drawn0.step)⟩
     case round =>
      clear H'
      try clear c1
      try clear p1
      try clear q1
      try clear hx1
      try clear p2
      try clear c3
      try clear c4
      try clear c4b0
      try clear c5
      try clear c5b0
      try clear c6
      try clear c6b0
      try clear p6
      try clear c8
      try clear c8b0
      try clear c8b1
      try clear c11
      try clear c13
      try clear c15
      try clear c17
      try clear hx181_0
      try clear p1
      try clear p181
      try clear p2
      try clear p6
      try clear q1
      try clear q181
      obtain ⟨x50_3, rfl, HA, HK3, ⟨m3, rfl⟩⟩ := hrel
      cases gk with
      | zero => exact absurd HA.out (by simp [impl_ValidLattice.l1])
      | succ k3 =>
       have H := HA.out
       clear HA
       simp only [impl_ValidLattice.l1] at H
       by_cases c18 : x50_3 < (l0.length : Int)
       rotate_left
       ·rw [if_neg c18] at H
        have c18b0 : decide (x50_3 < (l0.length : Int)) = false := decide_eq_false c18
        clear c18
        have H' := ak H
        clear H
        go_wp2
        go_roundg k3
        case measure => have := HK1.out; have := HJ6.out; have := HK3.out; omega
        case rel => exact ⟨(wrap64 (x16_1 + 1)), (by first | rfl | (simp; done) | (simp [*]; done)), H', ⟨by have := HK1.out; have := HJ6.out; have := HK3.out; omega⟩, by repeat (first | exact Drawn0.refl _ | apply Drawn0.step)⟩
       rw [if_pos c18] at H
       have c18b0 : decide (x50_3 < (l0.length : Int)) = true := decide_eq_true c18
       clear c18
       replace H := bi H
       obtain ⟨t186, A190, H⟩ := H
       try dsimp only at H
       have A19 := ak A190
       clear A190
       by_cases c20 : t186 = true
       rotate_left
       ·replace c20 := Bool.eq_false_iff.mpr c20
        subst c20
        rw [if_neg (show ¬ (false = true) by decide)] at H
        have H' := ak H
        clear H
        go_wp2_with (first | ((with_reducible refine gate_callee (f := 28) rfl ?_); refine goesL_ (some 56) rfl rfl Try.func28 (by kernel_rfl) rfl #[.slice (some ad181) l0.length c0, .int .i64 x16_1, .int .i64 x50_3] rfl (by (try simp only [List.map_toArray, List.map_cons, List.map_nil]); first | done | rfl | (simp only [List.length_drop, List.length_take]; rfl)) ?_; (with_reducible refine (impl_below.calls _ _ l0 x16_1 x50_3 false _ ?side1 ?side2 A19.out).mono ?_); (case side1 => exact kC HR0.out); (case side2 => exact HC0.out); rintro e w' ⟨rfl, ⟨nd, rfl⟩⟩; refine ⟨_, rfl, ?_⟩))
        go_roundg k3
        case measure => have := HK1.out; have := HJ6.out; have := HK3.out; omega
        case rel => exact ⟨(wrap64 (x50_3 + 1)), (by first | rfl | (simp; done) | (simp [*]; done)), H', ⟨by have := HK1.out; have := HJ6.out; have := HK3.out; omega⟩, by repeat (first | exact Drawn0.refl _ | apply Drawn0.step)⟩
       subst c20
       rw [if_pos rfl] at H
       by_cases c21 : x50_3 = x16_1
       ·rw [if_pos c21] at H
        have c21b0 : (x50_3 == x16_1) = true := beq_iff_eq.mpr c21
        have c21b1 : (x50_3 != x16_1) = false := bne_eq_false_iff_eq.mpr c21
        clear c21
        replace H := oi H
        obtain ⟨c22, H⟩ := H
        have c22b0 : decide (0 ≤ x50_3) = true := decide_eq_true c22
        clear c22
        replace H := oi H
        obtain ⟨c23, H⟩ := H
        have c23b0 : decide (x50_3 < (l0.length : Int)) = true := decide_eq_true c23
        clear c23
        by_cases c24 : (Go.bits .andNot .i64 (rd l0 x50_3) (rd l0 x16_1)) = 0
        rotate_left
        ·rw [if_neg c24] at H
         have c24b0 : ((Go.bits .andNot .i64 (rd l0 x50_3) (rd l0 x16_1)) == 0) = false := beq_eq_false_iff_ne.mpr c24
         have c24b1 : ((Go.bits .andNot .i64 (rd l0 x50_3) (rd l0 x16_1)) != 0) = true := bne_iff_ne.mpr c24
         obtain rfl := Option.some.inj H
         go_wp2_with (first | ((with_reducible refine gate_callee (f := 28) rfl ?_); refine goesL_ (some 56) rfl rfl Try.func28 (by kernel_rfl) rfl #[.slice (some ad181) l0.length c0, .int .i64 x16_1, .int .i64 x50_3] rfl (by (try simp only [List.map_toArray, List.map_cons, List.map_nil]); first | done | rfl | (simp only [List.length_drop, List.length_take]; rfl)) ?_; (with_reducible refine (impl_below.calls _ _ l0 x16_1 x50_3 true _ ?side1 ?side2 A19.out).mono ?_); (case side1 => exact kC HR0.out); (case side2 => exact HC0.out); rintro e w' ⟨rfl, ⟨nd, rfl⟩⟩; refine ⟨_, rfl, ?_⟩; have p187 : 0 ≤ (x50_3 : Int) := of_decide_eq_true (by first | (with_reducible assumption) | assumption); have q187 : x50_3 < (l0.length : Int) := of_decide_eq_true (by first | (with_reducible assumption) | assumption); obtain ⟨ad187, e187, hx187_0⟩ := Kd.at_int HR0.out x50_3 p187 q187; obtain rfl : ad181 = ad187 := (by injection e187); replace p187 := eq_true p187; replace q187 := eq_true q187))
         go_ret
         exact ⟨by first | rfl | (simp; done) | (simp [*]; done), by repeat (first | exact Drawn0.refl _ | apply Drawn0.step)⟩
        rw [if_pos c24] at H
        have c24b0 : ((Go.bits .andNot .i64 (rd l0 x50_3) (rd l0 x16_1)) == 0) = true := beq_iff_eq.mpr c24
        have c24b1 : ((Go.bits .andNot .i64 (rd l0 x50_3) (rd l0 x16_1)) != 0) = false := bne_eq_false_iff_eq.mpr c24
        clear c24
        have H' := ak H
        clear H
        go_wp2_with (first | ((with_reducible refine gate_callee (f := 28) rfl ?_); refine goesL_ (some 56) rfl rfl Try.func28 (by kernel_rfl) rfl #[.slice (some ad181) l0.length c0, .int .i64 x16_1, .int .i64 x50_3] rfl (by (try simp only [List.map_toArray, List.map_cons, List.map_nil]); first | done | rfl | (simp only [List.length_drop, List.length_take]; rfl)) ?_; (with_reducible refine (impl_below.calls _ _ l0 x16_1 x50_3 true _ ?side1 ?side2 A19.out).mono ?_); (case side1 => exact kC HR0.out); (case side2 => exact HC0.out); rintro e w' ⟨rfl, ⟨nd, rfl⟩⟩; refine ⟨_, rfl, ?_⟩; have p187 : 0 ≤ (x50_3 : Int) := of_decide_eq_true (by first | (with_reducible assumption) | assumption); have q187 : x50_3 < (l0.length : Int) := of_decide_eq_true (by first | (with_reducible assumption) | assumption); obtain ⟨ad187, e187, hx187_0⟩ := Kd.at_int HR0.out x50_3 p187 q187; obtain rfl : ad181 = ad187 := (by injection e187); replace p187 := eq_true p187; replace q187 := eq_true q187))
        go_roundg k3
        case measure => have := HK1.out; have := HJ6.out; have := HK3.out; omega
        case rel => exact ⟨(wrap64 (x50_3 + 1)), (by first | rfl | (simp; done) | (simp [*]; done)), H', ⟨by have := HK1.out; have := HJ6.out; have := HK3.out; omega⟩, by repeat (first | exact Drawn0.refl _ | apply Drawn0.step)⟩
       rw [if_neg c21] at H
       have c21b0 : (x50_3 == x16_1) = false := beq_eq_false_iff_ne.mpr c21
       have c21b1 : (x50_3 != x16_1) = true := bne_iff_ne.mpr c21
       replace H := bi H
       obtain ⟨t188, A250, H⟩ := H
       try dsimp only at H
       have A25 := ak A250
       clear A250
       by_cases c26 : t188 = true
       ·subst c26
        rw [if_pos rfl] at H
        obtain rfl := Option.some.inj H
        go_wp2_with (first | ((with_reducible refine gate_callee (f := 28) rfl ?_); refine goesL_ (some 56) rfl rfl Try.func28 (by kernel_rfl) rfl #[.slice (some ad181) l0.length c0, .int .i64 x16_1, .int .i64 x50_3] rfl (by (try simp only [List.map_toArray, List.map_cons, List.map_nil]); first | done | rfl | (simp only [List.length_drop, List.length_take]; rfl)) ?_; (with_reducible refine (impl_below.calls _ _ l0 x16_1 x50_3 true _ ?side1 ?side2 A19.out).mono ?_); (case side1 => exact kC HR0.out); (case side2 => exact HC0.out); rintro e w' ⟨rfl, ⟨nd, rfl⟩⟩; refine ⟨_, rfl, ?_⟩) | (go_at_call 28; (with_reducible refine (impl_below.calls _ _ l0 x50_3 x16_1 true _ ?side1 ?side2 A25.out).mono ?_); (case side1 => exact kC HR0.out); (case side2 => exact HC0.out); rintro e w' ⟨rfl, ⟨nd, rfl⟩⟩))
        go_ret
        exact ⟨by first | rfl | (simp; done) | (simp [*]; done), by repeat (first | exact Drawn0.refl _ | apply Drawn0.step)⟩
       replace c26 := Bool.eq_false_iff.mpr c26
       subst c26
       rw [if_neg (show ¬ (false = true) by decide)] at H
       replace H := oi H
       obtain ⟨c27, H⟩ := H
       have c27b0 : decide (0 ≤ x50_3) = true := decide_eq_true c27
       clear c27
       replace H := oi H
       obtain ⟨c28, H⟩ := H
       have c28b0 : decide (x50_3 < (l0.length : Int)) = true := decide_eq_true c28
       clear c28
       by_cases c29 : (Go.bits .andNot .i64 (rd l0 x50_3) (rd l0 x16_1)) = 0
       rotate_left
       ·rw [if_neg c29] at H
        have c29b0 : ((Go.bits .andNot .i64 (rd l0 x50_3) (rd l0 x16_1)) == 0) = false := beq_eq_false_iff_ne.mpr c29
        have c29b1 : ((Go.bits .andNot .i64 (rd l0 x50_3) (rd l0 x16_1)) != 0) = true := bne_iff_ne.mpr c29
        obtain rfl := Option.some.inj H
        go_wp2_with (first | ((with_reducible refine gate_callee (f := 28) rfl ?_); refine goesL_ (some 56) rfl rfl Try.func28 (by kernel_rfl) rfl #[.slice (some ad181) l0.length c0, .int .i64 x16_1, .int .i64 x50_3] rfl (by (try simp only [List.map_toArray, List.map_cons, List.map_nil]); first | done | rfl | (simp only [List.length_drop, List.length_take]; rfl)) ?_; (with_reducible refine (impl_below.calls _ _ l0 x16_1 x50_3 true _ ?side1 ?side2 A19.out).mono ?_); (case side1 => exact kC HR0.out); (case side2 => exact HC0.out); rintro e w' ⟨rfl, ⟨nd, rfl⟩⟩; refine ⟨_, rfl, ?_⟩) | (go_at_call 28; (with_reducible refine (impl_below.calls _ _ l0 x50_3 x16_1 false _ ?side1 ?side2 A25.out).mono ?_); (case side1 => exact kC HR0.out); (case side2 => exact HC0.out); rintro e w' ⟨rfl, ⟨nd, rfl⟩⟩; have p189 : 0 ≤ (x50_3 : Int) := of_decide_eq_true (by first | (with_reducible assumption) | assumption); have q189 : x50_3 < (l0.length : Int) := of_decide_eq_true (by first | (with_reducible assumption) | assumption); obtain ⟨ad189, e189, hx189_0⟩ := Kd.at_int HR0.out x50_3 p189 q189; obtain rfl : ad181 = ad189 := (by injection e189); replace p189 := eq_true p189; replace q189 := eq_true q189))
        go_ret
        exact ⟨by first | rfl | (simp; done) | (simp [*]; done), by repeat (first | exact Drawn0.refl _ | apply Drawn0.step)⟩
       rw [if_pos c29] at H
       have c29b0 : ((Go.bits .andNot .i64 (rd l0 x50_3) (rd l0 x16_1)) == 0) = true := beq_iff_eq.mpr c29
       have c29b1 : ((Go.bits .andNot .i64 (rd l0 x50_3) (rd l0 x16_1)) != 0) = false := bne_eq_false_iff_eq.mpr c29
       clear c29
       have H' := ak H
       clear H
       go_wp2_with (first | ((with_reducible refine gate_callee (f := 28) rfl ?_); refine goesL_ (some 56) rfl rfl Try.func28 (by kernel_rfl) rfl #[.slice (some ad181) l0.length c0, .int .i64 x16_1, .int .i64 x50_3] rfl (by (try simp only [List.map_toArray, List.map_cons, List.map_nil]); first | done | rfl | (simp only [List.length_drop, List.length_take]; rfl)) ?_; (with_reducible refine (impl_below.calls _ _ l0 x16_1 x50_3 true _ ?side1 ?side2 A19.out).mono ?_); (case side1 => exact kC HR0.out); (case side2 => exact HC0.out); rintro e w' ⟨rfl, ⟨nd, rfl⟩⟩; refine ⟨_, rfl, ?_⟩) | (go_at_call 28; (with_reducible refine (impl_below.calls _ _ l0 x50_3 x16_1 false _ ?side1 ?side2 A25.out).mono ?_); (case side1 => exact kC HR0.out); (case side2 => exact HC0.out); rintro e w' ⟨rfl, ⟨nd, rfl⟩⟩; have p189 : 0 ≤ (x50_3 : Int) := of_decide_eq_true (by first | (with_reducible assumption) | assumption); have q189 : x50_3 < (l0.length : Int) := of_decide_eq_true (by first | (with_reducible assumption) | assumption); obtain ⟨ad189, e189, hx189_0⟩ := Kd.at_int HR0.out x50_3 p189 q189; obtain rfl : ad181 = ad189 := (by injection e189); replace p189 := eq_true p189; replace q189 := eq_true q189))
       go_roundg k3
       case measure => have := HK1.out; have := HJ6.out; have := HK3.out; omega
       case rel => exact ⟨(wrap64 (x50_3 + 1)), (by first | rfl | (simp; done) | (simp [*]; done)), H', ⟨by have := HK1.out; have := HJ6.out; have := HK3.out; omega⟩, by repeat (first | exact Drawn0.refl _ | apply Drawn0.step)⟩
end Go.Proofs.Ytjijfflifonjoaa.P

-- shrunk
