-- Printed by this session's wip/print2.py (the kit's print.py, widened) out of the translation. Lean checks it.
import Derived.Test.YtjijfflifonjoaaP0
import Derived.Test.YtjijfflifonjoaaP8
namespace Go.Proofs.Ytjijfflifonjoaa.P
open Go.RowKit Go.Proofs.YtjijfflifonjoaaW.PrintWords Go.Proofs.YtjijfflifonjoaaW.PrintLast Go.Proofs.YtjijfflifonjoaaW.PrintMore
attribute [local go_sem] max2_int min2_int max_two min_two max_three min_three max_four min_four   -- for this text's walks alone
set_option linter.unusedVariables false
set_option linter.unusedSimpArgs false

/-! ### impl_meet: function 29 -/
mutual
def impl_meet.l0 : Nat → List Int → Int → Int → Int → Int → Option (Int)
 | 0, _, _, _, _, _ => none
 | k + 1, x0, x1, x2, x11, x12 => if x12 < x11 then ((impl_below.f x0 x12 x1).bind fun t172 => (if t172 = true then ((impl_below.f x0 x12 x2).bind fun t173 => (impl_meet.j1 k x0 x1 x2 x12 x11 x12 (!t173))) else (impl_meet.j1 k x0 x1 x2 x12 x11 x12 true))) else (some (-1))
def impl_meet.j1 : Nat → List Int → Int → Int → Int → Int → Int → Bool → Option (Int)
 | 0, _, _, _, _, _, _, _ => none
 | k + 1, x0, x1, x2, x7, x11, x12, x26 => if x26 = true then (impl_meet.l0 k x0 x1 x2 x11 (wrap64 (x12 + 1))) else (impl_meet.l1 k x0 x1 x2 x7 true x11 x12 (x0.length : Int) 0)
def impl_meet.l1 : Nat → List Int → Int → Int → Int → Bool → Int → Int → Int → Int → Option (Int)
 | 0, _, _, _, _, _, _, _, _, _ => none
 | k + 1, x0, x1, x2, x7, x8, x11, x12, x28, x29 => if x29 < x28 then (if x8 = true then ((impl_below.f x0 x29 x1).bind fun t174 => (if t174 = true then ((impl_below.f x0 x29 x2).bind fun t175 => (if t175 = true then ((impl_below.f x0 x29 x7).bind fun t176 => (impl_meet.l1 k x0 x1 x2 x7 t176 x11 x12 x28 (wrap64 (x29 + 1)))) else (impl_meet.l1 k x0 x1 x2 x7 true x11 x12 x28 (wrap64 (x29 + 1))))) else (impl_meet.l1 k x0 x1 x2 x7 true x11 x12 x28 (wrap64 (x29 + 1))))) else (impl_meet.l1 k x0 x1 x2 x7 false x11 x12 x28 (wrap64 (x29 + 1)))) else (if x8 = true then (some x7) else (impl_meet.l0 k x0 x1 x2 x11 (wrap64 (x12 + 1))))
end
def impl_meet.f (k : Nat) (l0 : List Int) (a1 : Int) (a2 : Int) : Option (Int) := impl_meet.l0 k l0 a1 a2 (l0.length : Int) 0
set_option maxHeartbeats 8000000 in
set_option maxRecDepth 100000 in
theorem impl_meet.calls (k : Nat) (A0 : Option Addr) (c0 : Nat) (l0 : List Int) (a1 : Int) (a2 : Int) (r : Int) (w : World) (hr0 : Kd.C (Kd.int .i64) w A0 l0.length l0) (hc0 : l0.length ≤ c0) (h : impl_meet.f k l0 a1 a2 = some r) :
  Calls Try.prog 29 #[.slice A0 l0.length c0, .int .i64 a1, .int .i64 a2] w fun e w' => e = .returned (.int .i64 r) ∧ Drawn0 w w' := by
 have HR0 := ak hr0
 have HC0 := ak hc0
 clear hr0 hc0
 have H : (impl_meet.l0 k l0 a1 a2 (l0.length : Int) 0) = some r := h
 clear h
 have H' := ak H
 clear H
 go_enter Try.func29, Try.ntmps29
 go_wp2
 go_loopg [12] k (fun kq v12 w' => ∃ (x12_1 : Int), v12 = .int .i64 x12_1 ∧ Aside0 (impl_meet.l0 kq l0 a1 a2 (l0.length : Int) x12_1 = some r) ∧ Aside0 (kq ≤ k) ∧ Drawn0 w w')
 case atStart => exact ⟨(0), (by first | rfl | (simp; done) | (simp [*]; done)), H', ⟨Nat.le_refl _⟩, by repeat (first | exact Drawn0.refl _ | apply Drawn0.step)⟩
 case round =>
  clear H'
  try clear c2
  try clear p2
  obtain ⟨x12_1, rfl, HA, HK1, ⟨m1, rfl⟩⟩ := hrel
  cases gk with
  | zero => exact absurd HA.out (by simp [impl_meet.l0])
  | succ k1 =>
   have H := HA.out
   clear HA
   simp only [impl_meet.l0] at H
   by_cases c4 : x12_1 < (l0.length : Int)
   rotate_left
   ·rw [if_neg c4] at H
    have c4b0 : decide (x12_1 < (l0.length : Int)) = false := decide_eq_false c4
    clear c4
    obtain rfl := Option.some.inj H
    go_wp2
    go_ret
    exact ⟨by first | rfl | (simp; done) | (simp [*]; done), by repeat (first | exact Drawn0.refl _ | apply Drawn0.step)⟩
   rw [if_pos c4] at H
   have c4b0 : decide (x12_1 < (l0.length : Int)) = true := decide_eq_true c4
   clear c4
   have HC5 := ak H
   clear H
   go_upto_region 4 with (fail)
   go_cut [26] (fun v26 wc => ∃ (kq : Nat) (x26_4 : Bool), v26 = .bool x26_4 ∧ Aside0 (impl_meet.j1 kq l0 a1 a2 x12_1 (l0.length : Int) x12_1 x26_4 = some r) ∧ Aside0 (kq ≤ k1) ∧ Drawn0 w wc)
   case first =>
    have H := HC5.out
    clear HC5
    replace H := bi H
    obtain ⟨t172, A60, H⟩ := H
    try dsimp only at H
    have A6 := ak A60
    clear A60
    by_cases c7 : t172 = true
    rotate_left
    ·replace c7 := Bool.eq_false_iff.mpr c7
     subst c7
     rw [if_neg (show ¬ (false = true) by decide)] at H
     have H' := ak H
     clear H
     go_wp2_with (first | ((with_reducible refine gate_callee (f := 28) rfl ?_); refine goesL_ (some 18) rfl rfl Try.func28 (by kernel_rfl) rfl #[.slice A0 l0.length c0, .int .i64 x12_1, .int .i64 a1] rfl (by (try simp only [List.map_toArray, List.map_cons, List.map_nil]); first | done | rfl | (simp only [List.length_drop, List.length_take]; rfl)) ?_; (with_reducible refine (impl_below.calls _ _ l0 x12_1 a1 false _ ?side1 ?side2 A6.out).mono ?_); (case side1 => exact kC HR0.out); (case side2 => exact HC0.out); rintro e w' ⟨rfl, ⟨nd, rfl⟩⟩; refine ⟨_, rfl, ?_⟩))
     go_meet
     case rel => exact ⟨_, (true), (by first | rfl | (simp; done) | (simp [*]; done)), H', ⟨by have := HK1.out; first | omega | exact Nat.le_refl _⟩, by repeat (first | exact Drawn0.refl _ | apply Drawn0.step)⟩
    subst c7
    rw [if_pos rfl] at H
    replace H := bi H
    obtain ⟨t173, A80, H⟩ := H
    try dsimp only at H
    have A8 := ak A80
    clear A80
    have H' := ak H
    clear H
    go_wp2_with (first | ((with_reducible refine gate_callee (f := 28) rfl ?_); refine goesL_ (some 18) rfl rfl Try.func28 (by kernel_rfl) rfl #[.slice A0 l0.length c0, .int .i64 x12_1, .int .i64 a1] rfl (by (try simp only [List.map_toArray, List.map_cons, List.map_nil]); first | done | rfl | (simp only [List.length_drop, List.length_take]; rfl)) ?_; (with_reducible refine (impl_below.calls _ _ l0 x12_1 a1 true _ ?side1 ?side2 A6.out).mono ?_); (case side1 => exact kC HR0.out); (case side2 => exact HC0.out); rintro e w' ⟨rfl, ⟨nd, rfl⟩⟩; refine ⟨_, rfl, ?_⟩) | (go_at_call 28; (with_reducible refine (impl_below.calls _ _ l0 x12_1 a2 t173 _ ?side1 ?side2 A8.out).mono ?_); (case side1 => exact kC HR0.out); (case side2 => exact HC0.out); rintro e w' ⟨rfl, ⟨nd, rfl⟩⟩))
    go_meet
    case rel => exact ⟨_, (!t173), (by first | rfl | (simp; done) | (simp [*]; done)), H', ⟨by have := HK1.out; first | omega | exact Nat.le_refl _⟩, by repeat (first | exact Drawn0.refl _ | apply Drawn0.step)⟩
   case rest =>
    clear HC5
    try clear c2
    try clear p2
    try clear c4
    try clear c4b0
    try clear c7
    try clear p2
    obtain ⟨kq, x26_4, rfl, HA, HJ4, ⟨mc4, rfl⟩⟩ := hcut
    cases kq with
    | zero => exact absurd HA.out (by simp [impl_meet.j1])
    | succ kj4 =>
     have H := HA.out
     clear HA
     simp only [impl_meet.j1] at H
     by_cases c9 : x26_4 = true
     ·subst c9
      rw [if_pos rfl] at H
      have H' := ak H
      clear H
      go_wp2
      go_roundg kj4
      case measure => have := HK1.out; have := HJ4.out; omega
      case rel => exact ⟨(wrap64 (x12_1 + 1)), (by first | rfl | (simp; done) | (simp [*]; done)), H', ⟨by have := HK1.out; have := HJ4.out; omega⟩, by repeat (first | exact Drawn0.refl _ | apply Drawn0.step)⟩
     replace c9 := Bool.eq_false_iff.mpr c9
     subst c9
     rw [if_neg (show ¬ (false = true) by decide)] at H
     have H' := ak H
     clear H
     go_wp2
     go_loopg [8, 29] kj4 (fun kq v8 v29 w' => ∃ (x8_3 : Bool) (x29_3 : Int), v8 = .bool x8_3 ∧ v29 = .int .i64 x29_3 ∧ Aside0 (impl_meet.l1 kq l0 a1 a2 x12_1 x8_3 (l0.length : Int) x12_1 (l0.length : Int) x29_3 = some r) ∧ Aside0 (kq ≤ kj4) ∧ Drawn0 w w')
     case atStart => exact ⟨(true), (0), (by first | rfl | (simp; done) | (simp [*]; done)), (by first | rfl | (simp; done) | (simp [*]; done)), H', ⟨Nat.le_refl _⟩, by repeat (first | exact Drawn0.refl _ | apply Drawn0.step)⟩
     case round =>
      clear H'
      try clear c2
      try clear p2
      try clear c4
      try clear c4b0
      try clear p6
      try clear c7
      try clear c9
      try clear p2
      obtain ⟨x8_3, x29_3, rfl, rfl, HA, HK3, ⟨m3, rfl⟩⟩ := hrel
      cases gk with
      | zero => exact absurd HA.out (by simp [impl_meet.l1])
      | succ k3 =>
       have H := HA.out
       clear HA
       simp only [impl_meet.l1] at H
       by_cases c10 : x29_3 < (l0.length : Int)
       rotate_left
       ·rw [if_neg c10] at H
        have c10b0 : decide (x29_3 < (l0.length : Int)) = false := decide_eq_false c10
        clear c10
        by_cases c17 : x8_3 = true
        ·subst c17
         rw [if_pos rfl] at H
         obtain rfl := Option.some.inj H
         go_wp2
         go_ret
         exact ⟨by first | rfl | (simp; done) | (simp [*]; done), by repeat (first | exact Drawn0.refl _ | apply Drawn0.step)⟩
        replace c17 := Bool.eq_false_iff.mpr c17
        subst c17
        rw [if_neg (show ¬ (false = true) by decide)] at H
        have H' := ak H
        clear H
        go_wp2
        go_roundg k3
        case measure => have := HK1.out; have := HJ4.out; have := HK3.out; omega
        case rel => exact ⟨(wrap64 (x12_1 + 1)), (by first | rfl | (simp; done) | (simp [*]; done)), H', ⟨by have := HK1.out; have := HJ4.out; have := HK3.out; omega⟩, by repeat (first | exact Drawn0.refl _ | apply Drawn0.step)⟩
       rw [if_pos c10] at H
       have c10b0 : decide (x29_3 < (l0.length : Int)) = true := decide_eq_true c10
       clear c10
       by_cases c11 : x8_3 = true
       rotate_left
       ·replace c11 := Bool.eq_false_iff.mpr c11
        subst c11
        rw [if_neg (show ¬ (false = true) by decide)] at H
        have H' := ak H
        clear H
        go_wp2
        go_roundg k3
        case measure => have := HK1.out; have := HJ4.out; have := HK3.out; omega
        case rel => exact ⟨(false), (wrap64 (x29_3 + 1)), (by first | rfl | (simp; done) | (simp [*]; done)), (by first | rfl | (simp; done) | (simp [*]; done)), H', ⟨by have := HK1.out; have := HJ4.out; have := HK3.out; omega⟩, by repeat (first | exact Drawn0.refl _ | apply Drawn0.step)⟩
       subst c11
       rw [if_pos rfl] at H
       replace H := bi H
       obtain ⟨t174, A120, H⟩ := H
       try dsimp only at H
       have A12 := ak A120
       clear A120
       by_cases c13 : t174 = true
       rotate_left
       ·replace c13 := Bool.eq_false_iff.mpr c13
        subst c13
        rw [if_neg (show ¬ (false = true) by decide)] at H
        have H' := ak H
        clear H
        go_wp2_with (first | (go_at_call 28; (with_reducible refine (impl_below.calls _ _ l0 x29_3 a1 false _ ?side1 ?side2 A12.out).mono ?_); (case side1 => exact kC HR0.out); (case side2 => exact HC0.out); rintro e w' ⟨rfl, ⟨nd, rfl⟩⟩))
        go_roundg k3
        case measure => have := HK1.out; have := HJ4.out; have := HK3.out; omega
        case rel => exact ⟨(true), (wrap64 (x29_3 + 1)), (by first | rfl | (simp; done) | (simp [*]; done)), (by first | rfl | (simp; done) | (simp [*]; done)), H', ⟨by have := HK1.out; have := HJ4.out; have := HK3.out; omega⟩, by repeat (first | exact Drawn0.refl _ | apply Drawn0.step)⟩
       subst c13
       rw [if_pos rfl] at H
       replace H := bi H
       obtain ⟨t175, A140, H⟩ := H
       try dsimp only at H
       have A14 := ak A140
       clear A140
       by_cases c15 : t175 = true
       rotate_left
       ·replace c15 := Bool.eq_false_iff.mpr c15
        subst c15
        rw [if_neg (show ¬ (false = true) by decide)] at H
        have H' := ak H
        clear H
        go_wp2_with (first | (go_at_call 28; (with_reducible refine (impl_below.calls _ _ l0 x29_3 a1 true _ ?side1 ?side2 A12.out).mono ?_); (case side1 => exact kC HR0.out); (case side2 => exact HC0.out); rintro e w' ⟨rfl, ⟨nd, rfl⟩⟩) | (go_at_call 28; (with_reducible refine (impl_below.calls _ _ l0 x29_3 a2 false _ ?side1 ?side2 A14.out).mono ?_); (case side1 => exact kC HR0.out); (case side2 => exact HC0.out); rintro e w' ⟨rfl, ⟨nd, rfl⟩⟩))
        go_roundg k3
        case measure => have := HK1.out; have := HJ4.out; have := HK3.out; omega
        case rel => exact ⟨(true), (wrap64 (x29_3 + 1)), (by first | rfl | (simp; done) | (simp [*]; done)), (by first | rfl | (simp; done) | (simp [*]; done)), H', ⟨by have := HK1.out; have := HJ4.out; have := HK3.out; omega⟩, by repeat (first | exact Drawn0.refl _ | apply Drawn0.step)⟩
       subst c15
       rw [if_pos rfl] at H
       replace H := bi H
       obtain ⟨t176, A160, H⟩ := H
       try dsimp only at H
       have A16 := ak A160
       clear A160
       have H' := ak H
       clear H
       go_wp2_with (first | (go_at_call 28; (with_reducible refine (impl_below.calls _ _ l0 x29_3 a1 true _ ?side1 ?side2 A12.out).mono ?_); (case side1 => exact kC HR0.out); (case side2 => exact HC0.out); rintro e w' ⟨rfl, ⟨nd, rfl⟩⟩) | (go_at_call 28; (with_reducible refine (impl_below.calls _ _ l0 x29_3 a2 true _ ?side1 ?side2 A14.out).mono ?_); (case side1 => exact kC HR0.out); (case side2 => exact HC0.out); rintro e w' ⟨rfl, ⟨nd, rfl⟩⟩) | (go_at_call 28; (with_reducible refine (impl_below.calls _ _ l0 x29_3 x12_1 t176 _ ?side1 ?side2 A16.out).mono ?_); (case side1 => exact kC HR0.out); (case side2 => exact HC0.out); rintro e w' ⟨rfl, ⟨nd, rfl⟩⟩))
       go_roundg k3
       case measure => have := HK1.out; have := HJ4.out; have := HK3.out; omega
       case rel => exact ⟨(t176), (wrap64 (x29_3 + 1)), (by first | rfl | (simp; done) | (simp [*]; done)), (by first | rfl | (simp; done) | (simp [*]; done)), H', ⟨by have := HK1.out; have := HJ4.out; have := HK3.out; omega⟩, by repeat (first | exact Drawn0.refl _ | apply Drawn0.step)⟩
end Go.Proofs.Ytjijfflifonjoaa.P

-- shrunk
