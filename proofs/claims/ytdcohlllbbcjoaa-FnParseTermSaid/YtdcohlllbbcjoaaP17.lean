-- Printed by this session's wip/print2.py (the kit's print.py, widened) out of the translation. Lean checks it.
import Derived.Test.YtdcohlllbbcjoaaP0
import Derived.Test.YtdcohlllbbcjoaaP3
import Derived.Test.YtdcohlllbbcjoaaP13
import Derived.Test.YtdcohlllbbcjoaaP16
namespace Go.Proofs.Ytdcohlllbbcjoaa.P
open Go.RowKit Go.Proofs.YtdcohlllbbcjoaaW.PrintWords Go.Proofs.YtdcohlllbbcjoaaW.PrintLast Go.Proofs.YtdcohlllbbcjoaaW.PrintMore
attribute [local go_sem] max2_int min2_int max_two min_two max_three min_three max_four min_four   -- for this text's walks alone
set_option linter.unusedVariables false
set_option linter.unusedSimpArgs false

/-! ### spec_DrawValidTerm: function 12 -/
def spec_DrawValidTerm.f (k : Nat) (l0 : List Int) : Option (List Int) := (spec_newReader.f l0).bind fun bt231 => ((spec_someTerm.f k bt231.1 bt231.2).bind fun bt234 => (some bt234.1))
set_option maxHeartbeats 8000000 in
set_option maxRecDepth 100000 in
theorem spec_DrawValidTerm.calls (k : Nat) (A0 : Option Addr) (c0 : Nat) (l0 : List Int) (r : List Int) (w : World) (hr0 : Kd.C (Kd.int .u8) w A0 l0.length l0) (hc0 : l0.length ≤ c0) (h : spec_DrawValidTerm.f k l0 = some r) :
  Calls Try.prog 12 #[.slice A0 l0.length c0] w fun e w' => ∃ v0_ : Value, e = .returned (v0_) ∧ Kd.Q (Kd.int .i64) 3 w' w.heap.size (fun _ => True) v0_ r ∧ Below w.heap.size w w' := by
 have HR0 := ak hr0
 have HC0 := ak hc0
 clear hr0 hc0
 have HB := ak (Below.refl w.heap.size w)
 have H : ((spec_newReader.f l0).bind fun bt231 => ((spec_someTerm.f k bt231.1 bt231.2).bind fun bt234 => (some bt234.1))) = some r := h
 clear h
 replace H := bi H
 obtain ⟨⟨t231, t232⟩, A20, H⟩ := H
 try dsimp only at H
 have A2 := ak A20
 clear A20
 replace H := bi H
 obtain ⟨⟨t234, t237⟩, A30, H⟩ := H
 try dsimp only at H
 have A3 := ak A30
 clear A30
 obtain rfl := Option.some.inj H
 go_enter Try.func12, Try.ntmps12
 go_wp2_with (first | ((with_reducible refine gate_callee (f := 26) rfl ?_); refine goesL_ (some 4) rfl rfl Try.func26 (by kernel_rfl) rfl #[.slice A0 l0.length c0] rfl (by (try simp only [List.map_toArray, List.map_cons, List.map_nil]); first | done | rfl | (simp only [List.length_drop, List.length_take]; rfl)) ?_; (with_reducible refine (spec_newReader.calls _ _ l0 t231 t232 w _ ?side1 ?side2 ?side3 A2.out).mono ?_); (case side1 => exact bB HB.out); (case side2 => exact HR0.out); (case side3 => exact HC0.out); rintro e w4 ⟨g233, rfl, hi, hb, hb2⟩; refine ⟨_, rfl, ?_⟩; replace HB := ak (hb); have HI233 := ak (hi); (try clear hb); (try clear hb2); (try clear hk); (try clear hi)) | ((with_reducible refine gate_callee (f := 25) rfl ?_); refine goesL_ (some 5) rfl rfl Try.func25 (by kernel_rfl) rfl #[.pointer (some ⟨g233, 0, none⟩)] rfl (by (try simp only [List.map_toArray, List.map_cons, List.map_nil]); first | done | rfl | (simp only [List.length_drop, List.length_take]; rfl)) ?_; (with_reducible refine (spec_someTerm.calls k g233 t231 t232 t234 t237 w _ ?side1 ?side2 A3.out).mono ?_); (case side1 => repeat (first | (with_reducible first | exact HI233.out | apply IsS51.alloc | apply IsS51.drewN | apply IsS51.drew | apply IsS51.set_1) | exact HI233.out)); (case side2 => repeat (first | (with_reducible first | exact HB.out | apply below_alloc | apply pw_below_drewN | apply below_drew1 | refine below_set ?_ (IsS51.ge HI233.out)) | exact HB.out)); rintro e w5 ⟨v235, rfl, ho0, hi, hb, hk⟩; refine ⟨_, rfl, ?_⟩; have HO236 := ak (Kd.Q_lower ho0 (below_size (by repeat (first | (with_reducible first | exact HB.out | apply below_alloc | apply pw_below_drewN | apply below_drew1 | refine below_set ?_ (IsS51.ge HI233.out)) | exact HB.out)))); replace HB := ak (hb); replace HI233 := ak (hi); (try clear hb); (try clear hb2); (try clear hk); (try clear hi); (try clear ho0)))
 go_ret
 exact ⟨_, by first | rfl | (simp [errW_none, errW_some] <;> rfl) | (simp [*, errW_none, errW_some] <;> rfl), by (with_reducible repeat (first | apply Kd.Q_alloc | apply Kd.Q_drewN | apply Kd.Q_drew)); exact HO236.out, by repeat (first | (with_reducible first | exact HB.out | apply below_alloc | apply pw_below_drewN | apply below_drew1 | refine below_set ?_ (IsS51.ge HI233.out)) | exact HB.out)⟩
/-! ### spec_ValidTerm: function 14 -/
def spec_ValidTerm.f (k : Nat) (l0 : List Int) : Option (Bool) := (spec_validTerm.f k l0).bind fun t238 => (some t238)
set_option maxHeartbeats 8000000 in
set_option maxRecDepth 100000 in
theorem spec_ValidTerm.calls (k : Nat) (A0 : Option Addr) (c0 : Nat) (l0 : List Int) (r : Bool) (w : World) (hr0 : Kd.C (Kd.int .i64) w A0 l0.length l0) (hc0 : l0.length ≤ c0) (h : spec_ValidTerm.f k l0 = some r) :
  Calls Try.prog 14 #[.slice A0 l0.length c0] w fun e w' => e = .returned (.bool r) ∧ Drawn0 w w' := by
 have HR0 := ak hr0
 have HC0 := ak hc0
 clear hr0 hc0
 have H : ((spec_validTerm.f k l0).bind fun t238 => (some t238)) = some r := h
 clear h
 replace H := bi H
 obtain ⟨t238, A20, H⟩ := H
 try dsimp only at H
 have A2 := ak A20
 clear A20
 obtain rfl := Option.some.inj H
 go_enter Try.func14, Try.ntmps14
 go_wp2_with (first | ((with_reducible refine gate_callee (f := 22) rfl ?_); refine goesL_ (some 4) rfl rfl Try.func22 (by kernel_rfl) rfl #[.slice A0 l0.length c0] rfl (by (try simp only [List.map_toArray, List.map_cons, List.map_nil]); first | done | rfl | (simp only [List.length_drop, List.length_take]; rfl)) ?_; (with_reducible refine (spec_validTerm.calls k _ _ l0 t238 _ ?side1 ?side2 A2.out).mono ?_); (case side1 => exact kC HR0.out); (case side2 => exact HC0.out); rintro e w' ⟨rfl, ⟨nd, rfl⟩⟩; refine ⟨_, rfl, ?_⟩))
 go_ret
 exact ⟨by first | rfl | (simp; done) | (simp [*]; done), by repeat (first | exact Drawn0.refl _ | apply Drawn0.step)⟩
end Go.Proofs.Ytdcohlllbbcjoaa.P

-- shrunk
