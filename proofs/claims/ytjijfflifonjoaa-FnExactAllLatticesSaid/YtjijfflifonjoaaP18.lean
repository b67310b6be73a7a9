-- Printed by this session's wip/print2.py (the kit's print.py, widened) out of the translation. Lean checks it.
import Derived.Test.YtjijfflifonjoaaP0
import Derived.Test.YtjijfflifonjoaaP7
import Derived.Test.YtjijfflifonjoaaP13
import Derived.Test.YtjijfflifonjoaaP15
import Derived.Test.YtjijfflifonjoaaP16
import Derived.Test.YtjijfflifonjoaaP17
namespace Go.Proofs.Ytjijfflifonjoaa.P
open Go.RowKit Go.Proofs.YtjijfflifonjoaaW.PrintWords Go.Proofs.YtjijfflifonjoaaW.PrintLast Go.Proofs.YtjijfflifonjoaaW.PrintMore
attribute [local go_sem] max2_int min2_int max_two min_two max_three min_three max_four min_four   -- for this text's walks alone
set_option linter.unusedVariables false
set_option linter.unusedSimpArgs false

/-! ### laws_heldIntSS: function 9 -/
def laws_heldIntSS.l0 : Nat → List (List Int) → Int → Int → Option (Int)
 | 0, _, _, _ => none
 | k + 1, x0, x1, x5 => if x5 < (x0.length : Int) then (if 0 ≤ x5 then ((laws_heldIntS.f k (rd_L1 x0 x5) x1).bind fun t200 => (if t200 < 0 then (some (-1)) else (laws_heldIntSS.l0 k x0 t200 (wrap64 (x5 + 1))))) else (none)) else (some x1)
def laws_heldIntSS.f (k : Nat) (l0 : List (List Int)) (a1 : Int) : Option (Int) := laws_heldIntSS.l0 k l0 a1 0
set_option maxHeartbeats 8000000 in
set_option maxRecDepth 100000 in
theorem laws_heldIntSS.calls (k : Nat) (A0 : Option Addr) (c0 : Nat) (l0 : List (List Int)) (a1 : Int) (r : Int) (w : World) (hr0 : Kd.C (Kd.slice 3 (Kd.int .i64)) w A0 l0.length l0) (hc0 : l0.length ≤ c0) (h : laws_heldIntSS.f k l0 a1 = some r) :
  Calls Try.prog 9 #[.slice A0 l0.length c0, .int .i64 a1] w fun e w' => e = .returned (.int .i64 r) ∧ Drawn0 w w' := by
 have HR0 := ak hr0
 have HC0 := ak hc0
 clear hr0 hc0
 have H : (laws_heldIntSS.l0 k l0 a1 0) = some r := h
 clear h
 have H' := ak H
 clear H
 go_enter Try.func9, Try.ntmps9
 go_wp2
 go_loopg [1, 5] k (fun kq v1 v5 w' => ∃ (x1_1 : Int) (x5_1 : Int), v1 = .int .i64 x1_1 ∧ v5 = .int .i64 x5_1 ∧ Aside0 (laws_heldIntSS.l0 kq l0 x1_1 x5_1 = some r) ∧ Aside0 (kq ≤ k) ∧ Drawn0 w w')
 case atStart => exact ⟨(a1), (0), (by first | rfl | (simp; done) | (simp [*]; done)), (by first | rfl | (simp; done) | (simp [*]; done)), H', ⟨Nat.le_refl _⟩, by repeat (first | exact Drawn0.refl _ | apply Drawn0.step)⟩
 case round =>
  clear H'
  try clear p2
  obtain ⟨x1_1, x5_1, rfl, rfl, HA, HK1, ⟨m1, rfl⟩⟩ := hrel
  cases gk with
  | zero => exact absurd HA.out (by simp [laws_heldIntSS.l0])
  | succ k1 =>
   have H := HA.out
   clear HA
   simp only [laws_heldIntSS.l0] at H
   by_cases c3 : x5_1 < (l0.length : Int)
   rotate_left
   ·rw [if_neg c3] at H
    have c3b0 : decide (x5_1 < (l0.length : Int)) = false := decide_eq_false c3
    clear c3
    obtain rfl := Option.some.inj H
    go_wp2
    go_ret
    exact ⟨by first | rfl | (simp; done) | (simp [*]; done), by repeat (first | exact Drawn0.refl _ | apply Drawn0.step)⟩
   rw [if_pos c3] at H
   have c3b0 : decide (x5_1 < (l0.length : Int)) = true := decide_eq_true c3
   clear c3
   replace H := oi H
   obtain ⟨c4, H⟩ := H
   have c4b0 : decide (0 ≤ x5_1) = true := decide_eq_true c4
   clear c4
   replace H := bi H
   obtain ⟨t200, A50, H⟩ := H
   try dsimp only at H
   have A5 := ak A50
   clear A50
   by_cases c6 : t200 < 0
   ·rw [if_pos c6] at H
    have c6b0 : decide (t200 < 0) = true := decide_eq_true c6
    clear c6
    obtain rfl := Option.some.inj H
    have p199 : 0 ≤ (x5_1 : Int) := of_decide_eq_true (by first | (with_reducible assumption) | assumption)
    have q199 : x5_1 < (l0.length : Int) := of_decide_eq_true (by first | (with_reducible assumption) | assumption)
    obtain ⟨ad199, A199_0, c199_0, e199, hx199_0, hl199_0, hi199_0⟩ := at_L1 HR0.out x5_1 p199 q199
    cases e199
    have HR199_0 := ak hi199_0
    have HC199_0 := ak hl199_0
    clear hi199_0 hl199_0
    replace p199 := eq_true p199
    replace q199 := eq_true q199
    go_wp2_with (first | ((with_reducible refine gate_callee (f := 24) rfl ?_); refine goesL_ (some 17) rfl rfl Try.func24 (by kernel_rfl) rfl #[.slice A199_0 (rd_L1 l0 x5_1).length c199_0, .int .i64 x1_1] rfl (by (try simp only [List.map_toArray, List.map_cons, List.map_nil]); first | done | rfl | (simp only [List.length_drop, List.length_take]; rfl)) ?_; (with_reducible refine (laws_heldIntS.calls k1 _ _ (rd_L1 l0 x5_1) x1_1 t200 _ ?side1 ?side2 A5.out).mono ?_); (case side1 => exact kC HR199_0.out); (case side2 => exact HC199_0.out); rintro e w' ⟨rfl, ⟨nd, rfl⟩⟩; refine ⟨_, rfl, ?_⟩))
    go_ret
    exact ⟨by first | rfl | (simp; done) | (simp [*]; done), by repeat (first | exact Drawn0.refl _ | apply Drawn0.step)⟩
   rw [if_neg c6] at H
   have c6b0 : decide (t200 < 0) = false := decide_eq_false c6
   clear c6
   have H' := ak H
   clear H
   have p199 : 0 ≤ (x5_1 : Int) := of_decide_eq_true (by first | (with_reducible assumption) | assumption)
   have q199 : x5_1 < (l0.length : Int) := of_decide_eq_true (by first | (with_reducible assumption) | assumption)
   obtain ⟨ad199, A199_0, c199_0, e199, hx199_0, hl199_0, hi199_0⟩ := at_L1 HR0.out x5_1 p199 q199
   cases e199
   have HR199_0 := ak hi199_0
   have HC199_0 := ak hl199_0
   clear hi199_0 hl199_0
   replace p199 := eq_true p199
   replace q199 := eq_true q199
   go_wp2_with (first | ((with_reducible refine gate_callee (f := 24) rfl ?_); refine goesL_ (some 17) rfl rfl Try.func24 (by kernel_rfl) rfl #[.slice A199_0 (rd_L1 l0 x5_1).length c199_0, .int .i64 x1_1] rfl (by (try simp only [List.map_toArray, List.map_cons, List.map_nil]); first | done | rfl | (simp only [List.length_drop, List.length_take]; rfl)) ?_; (with_reducible refine (laws_heldIntS.calls k1 _ _ (rd_L1 l0 x5_1) x1_1 t200 _ ?side1 ?side2 A5.out).mono ?_); (case side1 => exact kC HR199_0.out); (case side2 => exact HC199_0.out); rintro e w' ⟨rfl, ⟨nd, rfl⟩⟩; refine ⟨_, rfl, ?_⟩))
   go_roundg k1
   case measure => have := HK1.out; omega
   case rel => exact ⟨(t200), (wrap64 (x5_1 + 1)), (by first | rfl | (simp; done) | (simp [*]; done)), (by first | rfl | (simp; done) | (simp [*]; done)), H', ⟨by have := HK1.out; omega⟩, by repeat (first | exact Drawn0.refl _ | apply Drawn0.step)⟩
/-! ### laws_FnExactAllLattices: by hand -/
def laws_FnExactAllLattices.f (k : Nat) (a0 : Int) : Option Bool := (spec_AllLattices.f k a0).bind fun w0 => (impl_AllLattices.f k a0).bind fun g0 => (laws_eqIntSS.f k g0 w0).bind fun t => if t = true then ((laws_markIntSS.f k g0 1).bind fun m => (laws_heldIntSS.f k m.2 1).bind fun q => if q < 0 then some false else if q = m.1 then ((impl_AllLattices.f k a0).bind fun h0 => (laws_eqIntSS.f k h0 w0).bind fun t2 => if t2 = true then ((laws_heldIntSS.f k m.2 1).bind fun q2 => if q2 < 0 then some false else if q2 = m.1 then some true else some false) else some false) else some false) else some false
set_option maxHeartbeats 4000000 in
set_option maxRecDepth 100000 in
theorem laws_FnExactAllLattices.calls (k : Nat) (a0 : Int) (r : Bool) (w : World) (hrt : Aside0 (r = true)) (h : laws_FnExactAllLattices.f k a0 = some r) :
  Calls Try.prog 3 #[.int .i64 a0] w fun e w' => e = .returned (.bool r) ∧ Below w.heap.size w w' := by
 obtain rfl := hrt.out
 unfold laws_FnExactAllLattices.f at h
 obtain ⟨W0, A0, h⟩ := Option.bind_eq_some_iff.mp h
 have A1 := ak A0
 clear A0
 obtain ⟨G0, A0, h⟩ := Option.bind_eq_some_iff.mp h
 have A2 := ak A0
 clear A0
 obtain ⟨t, A0, h⟩ := Option.bind_eq_some_iff.mp h
 cases t with
 | false => rw [if_neg (by decide)] at h; exact absurd (Option.some.inj h) (by decide)
 | true =>
 have A3 := ak A0
 clear A0
 rw [if_pos rfl] at h
 obtain ⟨⟨m1, m2⟩, A0, h⟩ := Option.bind_eq_some_iff.mp h
 have A4 := ak A0
 clear A0
 simp only at h
 obtain ⟨q, A0, h⟩ := Option.bind_eq_some_iff.mp h
 have A5 := ak A0
 clear A0
 by_cases c0 : q < 0
 ·rw [if_pos c0] at h
  exact absurd (Option.some.inj h) (by decide)
 rw [if_neg c0] at h
 by_cases c1 : q = m1
 case neg => rw [if_neg c1] at h; exact absurd (Option.some.inj h) (by decide)
 rw [if_pos c1] at h
 subst c1
 rw [A2.out] at h
 simp only [Option.bind_some] at h
 rw [A3.out] at h
 simp only [Option.bind_some, if_pos] at h
 have d0 : decide (q < 0) = false := decide_eq_false c0
 have dq : (q != q) = false := bne_eq_false_iff_eq.mpr rfl
 clear h c0 hrt
 go_enter Try.func3, Try.ntmps3
 go_wp2_with (first | ((with_reducible refine gate_callee (f := 5) rfl ?_); refine goesL_ (some 9) rfl rfl Try.func5 (by kernel_rfl) rfl #[.int .i64 a0] rfl (by (try simp only [List.map_toArray, List.map_cons, List.map_nil]); first | done | rfl) ?_; (with_reducible refine (spec_AllLattices.calls k a0 W0 _ A1.out).mono ?_); rintro e w1 ⟨v1, rfl, ho1, hb1⟩; obtain ⟨Aw, cw, rfl⟩ := Kd.N_slice ho1; refine ⟨_, rfl, ?_⟩; have HW1 := ak (Kd.N_mono (ok' := fun k_ => k_ < w1.heap.size) (Kd.N_bound ho1) (fun k_ hk_ => hk_.2)); have B1 := ak hb1; clear ho1 hb1) | ((with_reducible refine gate_callee (f := 6) rfl ?_); refine goesL_ (some 11) rfl rfl Try.func6 (by kernel_rfl) rfl #[.int .i64 a0] rfl (by (try simp only [List.map_toArray, List.map_cons, List.map_nil]); first | done | rfl) ?_; (with_reducible refine (impl_AllLattices.calls k a0 G0 _ A2.out).mono ?_); rintro e w2 ⟨v2, rfl, ho2, hb2⟩; obtain ⟨Ag, cg, rfl⟩ := Kd.S_slice ho2; refine ⟨_, rfl, ?_⟩; have HG2 := ak (Kd.S_lower (Kd.S_mono (ok' := fun k_ => w1.heap.size ≤ k_) (Kd.S_bound ho2) (fun k_ hk_ => hk_.2.1)) (below_size B1.out)); have HW2 := ak (Kd.N_below HW1.out hb2); have B2 := ak (below_step B1.out hb2); clear ho2 hb2) | ((with_reducible refine gate_callee (f := 7) rfl ?_); refine goesL_ (some 14) rfl rfl Try.func7 (by kernel_rfl) rfl #[.slice Ag G0.length cg, .slice Aw W0.length cw] rfl (by (try simp only [List.map_toArray, List.map_cons, List.map_nil]); first | done | rfl) ?_; (with_reducible refine (laws_eqIntSS.calls k _ _ G0 _ _ W0 true _ ?s1 ?s2 ?s3 ?s4 A3.out).mono ?_); (case s1 => exact (Kd.S_reads' HG2.out).2.2); (case s2 => exact (Kd.S_reads' HG2.out).2.1); (case s3 => exact (Kd.N_reads' HW2.out).2.2); (case s4 => exact (Kd.N_reads' HW2.out).2.1); rintro e w' ⟨rfl, ⟨nd, rfl⟩⟩; refine ⟨_, rfl, ?_⟩) | ((with_reducible refine gate_callee (f := 8) rfl ?_); refine goesL_ (some 18) rfl rfl Try.func8 (by kernel_rfl) rfl #[.slice Ag G0.length cg, .int .i64 1] rfl (by (try simp only [List.map_toArray, List.map_cons, List.map_nil]); first | done | rfl) ?_; (with_reducible refine (laws_markIntSS.calls k (fun k_ => w1.heap.size ≤ k_) _ G0 1 q m2 w _ ?s1 ?s2 A4.out).mono ?_); (case s1 => exact kB B2.out); (case s2 => exact kS HG2.out); rintro e w3 ⟨rfl, ho3, hb3, hk3⟩; refine ⟨_, rfl, ?_⟩; have HW3 := ak (Kd.N_kept (Kd.N_drewN HW2.out nd) hk3 (fun k_ h1_ h2_ => Nat.not_le.mpr h1_ h2_)); have HG3 := ak ho3; have B3 := ak hb3; have e3 := (Kd.S_reads' ho3).1; have CH := ak (show ∀ W, Kd.C (Kd.slice 3 (Kd.int .i64)) W Ag G0.length m2 → G0.length ≤ cg → Calls Try.prog 9 #[.slice Ag G0.length cg, .int .i64 1] W fun e w' => e = .returned (.int .i64 q) ∧ Drawn0 W w' from fun W => by rw [e3]; exact fun hr hc => laws_heldIntSS.calls k Ag cg m2 1 q W hr hc A5.out); have E3 := ak e3; clear e3 ho3 hb3 hk3) | ((with_reducible refine gate_callee (f := 9) rfl ?_); refine goesL_ (some 21) rfl rfl Try.func9 (by kernel_rfl) rfl #[.slice Ag G0.length cg, .int .i64 1] rfl (by (try simp only [List.map_toArray, List.map_cons, List.map_nil]); first | done | rfl) ?_; refine (CH.out _ (by rw [E3.out]; exact (Kd.S_reads' HG3.out).2.2) (Kd.S_reads' HG3.out).2.1).mono ?_; rintro e w' ⟨rfl, ⟨nd2, rfl⟩⟩; refine ⟨_, rfl, ?_⟩) | ((with_reducible refine gate_callee (f := 6) rfl ?_); refine goesL_ (some 28) rfl rfl Try.func6 (by kernel_rfl) rfl #[.int .i64 a0] rfl (by (try simp only [List.map_toArray, List.map_cons, List.map_nil]); first | done | rfl) ?_; (with_reducible refine (impl_AllLattices.calls k a0 G0 _ A2.out).mono ?_); rintro e w4 ⟨v4, rfl, ho4, hb4⟩; obtain ⟨Ah, ch, rfl⟩ := Kd.S_slice ho4; refine ⟨_, rfl, ?_⟩; have HH4 := ak ho4; have HG4 := ak (Kd.S_below (Kd.S_drewN HG3.out nd2) hb4); have HW4 := ak (Kd.N_below (Kd.N_drewN HW3.out nd2) hb4); have B4 := ak (below_step (pw_below_drewN B3.out nd2) hb4); clear ho4 hb4) | ((with_reducible refine gate_callee (f := 7) rfl ?_); refine goesL_ (some 31) rfl rfl Try.func7 (by kernel_rfl) rfl #[.slice Ah G0.length ch, .slice Aw W0.length cw] rfl (by (try simp only [List.map_toArray, List.map_cons, List.map_nil]); first | done | rfl) ?_; (with_reducible refine (laws_eqIntSS.calls k _ _ G0 _ _ W0 true _ ?s1 ?s2 ?s3 ?s4 A3.out).mono ?_); (case s1 => exact (Kd.S_reads' HH4.out).2.2); (case s2 => exact (Kd.S_reads' HH4.out).2.1); (case s3 => exact (Kd.N_reads' HW4.out).2.2); (case s4 => exact (Kd.N_reads' HW4.out).2.1); rintro e w' ⟨rfl, ⟨nd3, rfl⟩⟩; refine ⟨_, rfl, ?_⟩) | ((with_reducible refine gate_callee (f := 9) rfl ?_); refine goesL_ (some 35) rfl rfl Try.func9 (by kernel_rfl) rfl #[.slice Ag G0.length cg, .int .i64 1] rfl (by (try simp only [List.map_toArray, List.map_cons, List.map_nil]); first | done | rfl) ?_; refine (CH.out _ (by rw [E3.out]; exact kC (Kd.S_reads' HG4.out).2.2) (Kd.S_reads' HG4.out).2.1).mono ?_; rintro e w' ⟨rfl, ⟨nd4, rfl⟩⟩; refine ⟨_, rfl, ?_⟩))
 go_ret
 exact ⟨rfl, kB B4.out⟩
/-- THE ONE PURE STATEMENT of laws_FnExactAllLattices: yours. -/
def laws_FnExactAllLattices.Pure : Prop := ∀ (a0 : Int), (Lit.int .i64 a0).wf = true → ∃ k, laws_FnExactAllLattices.f k a0 = some true
theorem laws_FnExactAllLattices.walk (P : laws_FnExactAllLattices.Pure) (a0 : Int) (w : World) (w0 : (Lit.int .i64 a0).wf = true) :
  Calls Try.prog 3 #[.int .i64 a0] w fun e w' => e = .returned (.bool true) ∧ Below w.heap.size w w' := by
 obtain ⟨k, h⟩ := P a0 w0
 refine (laws_FnExactAllLattices.calls k a0 true w ⟨rfl⟩ h).mono ?_
 rintro e w' ⟨rfl, hd⟩
 exact ⟨rfl, hd⟩
end Go.Proofs.Ytjijfflifonjoaa.P

-- shrunk
