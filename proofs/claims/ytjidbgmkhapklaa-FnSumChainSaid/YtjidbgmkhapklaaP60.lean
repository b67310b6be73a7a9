-- Printed by this session's wip/print2.py (the kit's print.py, widened) out of the translation. Lean checks it.
import Derived.Test.YtjidbgmkhapklaaP0
namespace Go.Proofs.Ytjidbgmkhapklaa.P
open Go.RowKit Go.Proofs.YtjidbgmkhapklaaW.PrintWords Go.Proofs.YtjidbgmkhapklaaW.PrintLast Go.Proofs.YtjidbgmkhapklaaW.PrintMore
attribute [local go_sem] max2_int min2_int max_two min_two max_three min_three max_four min_four   -- for this text's walks alone
set_option linter.unusedVariables false
set_option linter.unusedSimpArgs false

/-! ### slices_Index_string_string: function 115 -/
def slices_Index_string_string.l0 : Nat → List ByteArray → ByteArray → Int → Int → Option (Int)
 | 0, _, _, _, _ => none
 | k + 1, x0, x1, x7, x8 => if x8 < x7 then (if 0 ≤ x8 then (if x8 < (x0.length : Int) then (if x1.toList = (rdOf ByteArray.empty x0 x8).toList then (some x8) else (slices_Index_string_string.l0 k x0 x1 x7 (wrap64 (x8 + 1)))) else (none)) else (none)) else (some (-1))
def slices_Index_string_string.f (k : Nat) (l0 : List ByteArray) (a1 : ByteArray) : Option (Int) := slices_Index_string_string.l0 k l0 a1 (l0.length : Int) 0
set_option maxHeartbeats 8000000 in
set_option maxRecDepth 100000 in
theorem slices_Index_string_string.calls (k : Nat) (A0 : Option Addr) (c0 : Nat) (l0 : List ByteArray) (a1 : ByteArray) (r : Int) (w : World) (hr0 : Kd.C Kd.string w A0 l0.length l0) (hc0 : l0.length ≤ c0) (h : slices_Index_string_string.f k l0 a1 = some r) :
  Calls Try.prog 115 #[.slice A0 l0.length c0, .string a1] w fun e w' => e = .returned (.int .i64 r) ∧ Drawn0 w w' := by
 have HR0 := Aside0.mk hr0
 have HC0 := Aside0.mk hc0
 clear hr0 hc0
 have H : (slices_Index_string_string.l0 k l0 a1 (l0.length : Int) 0) = some r := h
 clear h
 have H' := Aside0.mk H
 clear H
 go_enter Try.func115, Try.ntmps115
 go_wp2
 go_loopg [8] k (fun kq v8 w' => ∃ (x8_1 : Int), v8 = .int .i64 x8_1 ∧ Aside0 (slices_Index_string_string.l0 kq l0 a1 (l0.length : Int) x8_1 = some r) ∧ Aside0 (kq ≤ k) ∧ Drawn0 w w')
 case atStart => exact ⟨(0), (by first | rfl | (simp; done) | (simp [*]; done)), H', ⟨Nat.le_refl _⟩, by repeat (first | exact Drawn0.refl _ | apply Drawn0.step)⟩
 case round =>
  clear H'
  try clear c1
  try clear p2
  obtain ⟨x8_1, rfl, HA, HK1, ⟨m1, rfl⟩⟩ := hrel
  cases gk with
  | zero => exact absurd HA.out (by simp [slices_Index_string_string.l0])
  | succ k1 =>
   have H := HA.out
   clear HA
   simp only [slices_Index_string_string.l0] at H
   by_cases c3 : x8_1 < (l0.length : Int)
   ·rw [if_pos c3] at H
    have c3b0 : decide (x8_1 < (l0.length : Int)) = true := decide_eq_true c3
    clear c3
    by_cases c4 : 0 ≤ x8_1
    ·rw [if_pos c4] at H
     have c4b0 : decide (0 ≤ x8_1) = true := decide_eq_true c4
     clear c4
     by_cases c5 : x8_1 < (l0.length : Int)
     ·rw [if_pos c5] at H
      have c5b0 : decide (x8_1 < (l0.length : Int)) = true := decide_eq_true c5
      clear c5
      by_cases c6 : a1.toList = (rdOf ByteArray.empty l0 x8_1).toList
      ·rw [if_pos c6] at H
       have c6b0 : (a1.toList == (rdOf ByteArray.empty l0 x8_1).toList) = true := beq_iff_eq.mpr c6
       have c6b1 : (a1.toList != (rdOf ByteArray.empty l0 x8_1).toList) = false := bne_eq_false_iff_eq.mpr c6
       clear c6
       obtain rfl := Option.some.inj H
       have p926 : 0 ≤ (x8_1 : Int) := of_decide_eq_true (by first | (with_reducible assumption) | assumption)
       have q926 : x8_1 < (l0.length : Int) := of_decide_eq_true (by first | (with_reducible assumption) | assumption)
       obtain ⟨ad926, e926, hx926_0⟩ := Kd.at_string HR0.out x8_1 p926 q926
       cases e926
       replace p926 := eq_true p926
       replace q926 := eq_true q926
       go_wp2
       go_ret
       exact ⟨by first | rfl | (simp; done) | (simp [*]; done), by repeat (first | exact Drawn0.refl _ | apply Drawn0.step)⟩
      ·rw [if_neg c6] at H
       have c6b0 : (a1.toList == (rdOf ByteArray.empty l0 x8_1).toList) = false := beq_eq_false_iff_ne.mpr c6
       have c6b1 : (a1.toList != (rdOf ByteArray.empty l0 x8_1).toList) = true := bne_iff_ne.mpr c6
       have H' := Aside0.mk H
       clear H
       have p926 : 0 ≤ (x8_1 : Int) := of_decide_eq_true (by first | (with_reducible assumption) | assumption)
       have q926 : x8_1 < (l0.length : Int) := of_decide_eq_true (by first | (with_reducible assumption) | assumption)
       obtain ⟨ad926, e926, hx926_0⟩ := Kd.at_string HR0.out x8_1 p926 q926
       cases e926
       replace p926 := eq_true p926
       replace q926 := eq_true q926
       go_wp2
       go_roundg k1
       case measure => have := HK1.out; omega
       case rel => exact ⟨(wrap64 (x8_1 + 1)), (by first | rfl | (simp; done) | (simp [*]; done)), H', ⟨by have := HK1.out; omega⟩, by repeat (first | exact Drawn0.refl _ | apply Drawn0.step)⟩
     ·rw [if_neg c5] at H
      exact absurd H (by simp)
    ·rw [if_neg c4] at H
     exact absurd H (by simp)
   ·rw [if_neg c3] at H
    have c3b0 : decide (x8_1 < (l0.length : Int)) = false := decide_eq_false c3
    clear c3
    obtain rfl := Option.some.inj H
    go_wp2
    go_ret
    exact ⟨by first | rfl | (simp; done) | (simp [*]; done), by repeat (first | exact Drawn0.refl _ | apply Drawn0.step)⟩

/-! ### slices_Contains_string_string: function 107 -/
def slices_Contains_string_string.f (k : Nat) (l0 : List ByteArray) (a1 : ByteArray) : Option (Bool) := (slices_Index_string_string.f k l0 a1).bind fun t927 => (some (decide (t927 ≥ 0)))
set_option maxHeartbeats 8000000 in
set_option maxRecDepth 100000 in
theorem slices_Contains_string_string.calls (k : Nat) (A0 : Option Addr) (c0 : Nat) (l0 : List ByteArray) (a1 : ByteArray) (r : Bool) (w : World) (hr0 : Kd.C Kd.string w A0 l0.length l0) (hc0 : l0.length ≤ c0) (h : slices_Contains_string_string.f k l0 a1 = some r) :
  Calls Try.prog 107 #[.slice A0 l0.length c0, .string a1] w fun e w' => e = .returned (.bool r) ∧ Drawn0 w w' := by
 have HR0 := Aside0.mk hr0
 have HC0 := Aside0.mk hc0
 clear hr0 hc0
 have H : ((slices_Index_string_string.f k l0 a1).bind fun t927 => (some (decide (t927 ≥ 0)))) = some r := h
 clear h
 replace H := Option.bind_eq_some_iff.mp H
 obtain ⟨t927, A30, H⟩ := H
 replace H : (some (decide (t927 ≥ 0))) = some r := H
 have A3 := Aside0.mk A30
 clear A30
 obtain rfl := Option.some.inj H
 go_enter Try.func107, Try.ntmps107
 go_wp2_with (first | ((with_reducible refine gate_callee (f := 115) rfl ?_); refine goesL_ (some 7) rfl rfl Try.func115 (by kernel_rfl) rfl #[.slice A0 l0.length c0, .string a1] rfl (by (try simp only [List.map_toArray, List.map_cons, List.map_nil]); first | done | rfl | (simp only [List.length_drop, List.length_take]; rfl)) ?_; (with_reducible refine (slices_Index_string_string.calls k _ _ l0 a1 t927 _ ?side1 ?side2 A3.out).mono ?_); (case side1 => repeat (first | exact HR0.out | (with_reducible refine Kd.C_alloc ?_ _) | (with_reducible refine Kd.C_drewN ?_ _) | (with_reducible refine Kd.C_drew ?_))); (case side2 => exact HC0.out); rintro e w' ⟨rfl, ⟨nd, rfl⟩⟩; refine ⟨_, rfl, ?_⟩))
 go_ret
 exact ⟨by first | rfl | (simp; done) | (simp [*]; done), by repeat (first | exact Drawn0.refl _ | apply Drawn0.step)⟩

/-! ### impl_isProperty: function 85 -/
def impl_isProperty.f (k : Nat) (a0 : ByteArray) : Option (Bool) := (slices_Contains_string_string.f k (([(⟨#[112, 114, 101, 108, 105, 110, 101, 97, 114]⟩ : ByteArray), (⟨#[100, 105, 118, 105, 115, 105, 98, 108, 101]⟩ : ByteArray), (⟨#[105, 110, 118, 111, 108, 117, 116, 105, 118, 101]⟩ : ByteArray), (⟨#[105, 100, 101, 109, 112, 111, 116, 101, 110, 116]⟩ : ByteArray), (⟨#[98, 111, 111, 108, 101, 97, 110]⟩ : ByteArray)] : List ByteArray)) a0).bind fun t931 => (some t931)
set_option maxHeartbeats 8000000 in
set_option maxRecDepth 100000 in
theorem impl_isProperty.calls (k : Nat) (a0 : ByteArray) (r : Bool) (w : World) (h : impl_isProperty.f k a0 = some r) :
  Calls Try.prog 85 #[.string a0] w fun e w' => e = .returned (.bool r) ∧ Below w.heap.size w w' := by
 have HB := Aside0.mk (Below.refl w.heap.size w)
 have H : ((slices_Contains_string_string.f k (([(⟨#[112, 114, 101, 108, 105, 110, 101, 97, 114]⟩ : ByteArray), (⟨#[100, 105, 118, 105, 115, 105, 98, 108, 101]⟩ : ByteArray), (⟨#[105, 110, 118, 111, 108, 117, 116, 105, 118, 101]⟩ : ByteArray), (⟨#[105, 100, 101, 109, 112, 111, 116, 101, 110, 116]⟩ : ByteArray), (⟨#[98, 111, 111, 108, 101, 97, 110]⟩ : ByteArray)] : List ByteArray)) a0).bind fun t931 => (some t931)) = some r := h
 clear h
 obtain ⟨y928, hy928⟩ : ∃ y_ : List ByteArray, y_ = (([(⟨#[112, 114, 101, 108, 105, 110, 101, 97, 114]⟩ : ByteArray), (⟨#[100, 105, 118, 105, 115, 105, 98, 108, 101]⟩ : ByteArray), (⟨#[105, 110, 118, 111, 108, 117, 116, 105, 118, 101]⟩ : ByteArray), (⟨#[105, 100, 101, 109, 112, 111, 116, 101, 110, 116]⟩ : ByteArray), (⟨#[98, 111, 111, 108, 101, 97, 110]⟩ : ByteArray)] : List ByteArray)) := ⟨_, rfl⟩
 replace H : ((slices_Contains_string_string.f k y928 a0).bind fun t931 => (some t931)) = some r := by first | (rw [hy928]; with_reducible exact H) | (have H2_ := (Option.bind_some _ _).symm.trans H; rw [hy928]; with_reducible exact H2_) | (have H2_ := (Option.bind_some _ _).symm.trans H; with_reducible exact H2_) | with_reducible exact H | (rw [hy928]; exact H) | exact H
 have Ny928 := Aside0.mk hy928
 clear hy928
 replace H := Option.bind_eq_some_iff.mp H
 obtain ⟨t931, A20, H⟩ := H
 replace H : (some t931) = some r := H
 have A2 := Aside0.mk A20
 clear A20
 obtain rfl := Option.some.inj H
 go_enter Try.func85, Try.ntmps85
 go_wp2_with (first | ((with_reducible refine gate_dst (N := 3) rfl ?_); refine Kd.R_lit Kd.string _ 9 ?hg (N := 3) ?hd (xs := ([(⟨#[112, 114, 101, 108, 105, 110, 101, 97, 114]⟩ : ByteArray), (⟨#[100, 105, 118, 105, 115, 105, 98, 108, 101]⟩ : ByteArray), (⟨#[105, 110, 118, 111, 108, 117, 116, 105, 118, 101]⟩ : ByteArray), (⟨#[105, 100, 101, 109, 112, 111, 116, 101, 110, 116]⟩ : ByteArray), (⟨#[98, 111, 111, 108, 101, 97, 110]⟩ : ByteArray)] : List ByteArray)) (inner := [.string (⟨#[112, 114, 101, 108, 105, 110, 101, 97, 114]⟩ : ByteArray), .string (⟨#[100, 105, 118, 105, 115, 105, 98, 108, 101]⟩ : ByteArray), .string (⟨#[105, 110, 118, 111, 108, 117, 116, 105, 118, 101]⟩ : ByteArray), .string (⟨#[105, 100, 101, 109, 112, 111, 116, 101, 110, 116]⟩ : ByteArray), .string (⟨#[98, 111, 111, 108, 101, 97, 110]⟩ : ByteArray)]) (ok := fun _ => True) (okp := fun _ => True) ?hr ?hp (fun _ hk => hk) trivial (Below.refl _ _) (Nat.le_refl _) (by simp) ?_; (case hd => rfl); (case hg => rfl); (case hr => first | (go_simp; done) | (go_simp; rfl)); (case hp => exact (Reps.one (show Kd.M Kd.string _ _ _ (⟨#[112, 114, 101, 108, 105, 110, 101, 97, 114]⟩ : ByteArray) [.string (⟨#[112, 114, 101, 108, 105, 110, 101, 97, 114]⟩ : ByteArray)] from rfl) (Reps.one (show Kd.M Kd.string _ _ _ (⟨#[100, 105, 118, 105, 115, 105, 98, 108, 101]⟩ : ByteArray) [.string (⟨#[100, 105, 118, 105, 115, 105, 98, 108, 101]⟩ : ByteArray)] from rfl) (Reps.one (show Kd.M Kd.string _ _ _ (⟨#[105, 110, 118, 111, 108, 117, 116, 105, 118, 101]⟩ : ByteArray) [.string (⟨#[105, 110, 118, 111, 108, 117, 116, 105, 118, 101]⟩ : ByteArray)] from rfl) (Reps.one (show Kd.M Kd.string _ _ _ (⟨#[105, 100, 101, 109, 112, 111, 116, 101, 110, 116]⟩ : ByteArray) [.string (⟨#[105, 100, 101, 109, 112, 111, 116, 101, 110, 116]⟩ : ByteArray)] from rfl) (Reps.one (show Kd.M Kd.string _ _ _ (⟨#[98, 111, 111, 108, 101, 97, 110]⟩ : ByteArray) [.string (⟨#[98, 111, 111, 108, 101, 97, 110]⟩ : ByteArray)] from rfl) (Reps.none _ _))))))); intro v929 w3 ho4 hb hg_ hnew_; clear hg_ hnew_; (first | rw [← Ny928.out] at ho4 | (simp only [Int.reduceToNat] at ho4; rw [← Ny928.out] at ho4)); have n0_ := Aside0.mk (Kd.R_lower ho4 (below_size (by repeat (first | (with_reducible first | exact HB.out | apply below_alloc | apply pw_below_drewN | apply below_drew1) | exact HB.out)))); have n1_ := Aside0.mk (below_step (by repeat (first | (with_reducible first | exact HB.out | apply below_alloc | apply pw_below_drewN | apply below_drew1) | exact HB.out)) hb); clear HB; have HO930 := n0_; have HB := n1_; clear n0_ n1_; clear hb ho4; obtain ⟨Ao5, co5, eo5⟩ := Kd.R_slice HO930.out; subst eo5) | ((with_reducible refine gate_callee (f := 107) rfl ?_); refine goesL_ (some 5) rfl rfl Try.func107 (by kernel_rfl) rfl #[.slice Ao5 y928.length co5, .string a0] rfl (by (try simp only [List.map_toArray, List.map_cons, List.map_nil]); first | done | rfl | (simp only [List.length_drop, List.length_take]; rfl)) ?_; (with_reducible refine (slices_Contains_string_string.calls k _ _ y928 a0 t931 _ ?side1 ?side2 A2.out).mono ?_); (case side1 => repeat (first | exact (Kd.R_reads' HO930.out).2.2 | (with_reducible refine Kd.C_alloc ?_ _) | (with_reducible refine Kd.C_drewN ?_ _) | (with_reducible refine Kd.C_drew ?_))); (case side2 => exact (Kd.R_reads' HO930.out).2.1); rintro e w' ⟨rfl, ⟨nd, rfl⟩⟩; refine ⟨_, rfl, ?_⟩))
 go_ret
 exact ⟨by first | rfl | (simp [errW_none, errW_some] <;> rfl) | (simp [*, errW_none, errW_some] <;> rfl), by repeat (first | (with_reducible first | exact HB.out | apply below_alloc | apply pw_below_drewN | apply below_drew1) | exact HB.out)⟩

end Go.Proofs.Ytjidbgmkhapklaa.P

-- shrunk
