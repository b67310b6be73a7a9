-- Printed by this session's wip/print2.py (the kit's print.py, widened) out of the translation. Lean checks it.
import Derived.Test.YtkndndgladdmcaaP0
import Derived.Test.YtkndndgladdmcaaP42
namespace Go.Proofs.Ytkndndgladdmcaa.P
open Go.RowKit Go.Proofs.YtkndndgladdmcaaW.PrintWords Go.Proofs.YtkndndgladdmcaaW.PrintLast Go.Proofs.YtkndndgladdmcaaW.PrintMore
attribute [local go_sem] max2_int min2_int max_two min_two max_three min_three max_four min_four   -- for this text's walks alone
set_option linter.unusedVariables false
set_option linter.unusedSimpArgs false

/-! ### impl_isProperty: function 80 -/
def impl_isProperty.f (k : Nat) (a0 : ByteArray) : Option (Bool) := (slices_Contains_string_string.f k (([(⟨#[112, 114, 101, 108, 105, 110, 101, 97, 114]⟩ : ByteArray), (⟨#[100, 105, 118, 105, 115, 105, 98, 108, 101]⟩ : ByteArray), (⟨#[105, 110, 118, 111, 108, 117, 116, 105, 118, 101]⟩ : ByteArray), (⟨#[105, 100, 101, 109, 112, 111, 116, 101, 110, 116]⟩ : ByteArray), (⟨#[98, 111, 111, 108, 101, 97, 110]⟩ : ByteArray)] : List ByteArray)) a0).bind fun t498 => (some t498)
set_option maxHeartbeats 8000000 in
set_option maxRecDepth 100000 in
theorem impl_isProperty.calls (k : Nat) (a0 : ByteArray) (r : Bool) (w : World) (h : impl_isProperty.f k a0 = some r) :
  Calls Try.prog 80 #[.string a0] w fun e w' => e = .returned (.bool r) ∧ Below w.heap.size w w' := by
 have HB := Aside0.mk (Below.refl w.heap.size w)
 have H : ((slices_Contains_string_string.f k (([(⟨#[112, 114, 101, 108, 105, 110, 101, 97, 114]⟩ : ByteArray), (⟨#[100, 105, 118, 105, 115, 105, 98, 108, 101]⟩ : ByteArray), (⟨#[105, 110, 118, 111, 108, 117, 116, 105, 118, 101]⟩ : ByteArray), (⟨#[105, 100, 101, 109, 112, 111, 116, 101, 110, 116]⟩ : ByteArray), (⟨#[98, 111, 111, 108, 101, 97, 110]⟩ : ByteArray)] : List ByteArray)) a0).bind fun t498 => (some t498)) = some r := h
 clear h
 obtain ⟨y495, hy495⟩ : ∃ y_ : List ByteArray, y_ = (([(⟨#[112, 114, 101, 108, 105, 110, 101, 97, 114]⟩ : ByteArray), (⟨#[100, 105, 118, 105, 115, 105, 98, 108, 101]⟩ : ByteArray), (⟨#[105, 110, 118, 111, 108, 117, 116, 105, 118, 101]⟩ : ByteArray), (⟨#[105, 100, 101, 109, 112, 111, 116, 101, 110, 116]⟩ : ByteArray), (⟨#[98, 111, 111, 108, 101, 97, 110]⟩ : ByteArray)] : List ByteArray)) := ⟨_, rfl⟩
 replace H : ((slices_Contains_string_string.f k y495 a0).bind fun t498 => (some t498)) = some r := by first | (rw [hy495]; with_reducible exact H) | (have H2_ := (Option.bind_some _ _).symm.trans H; rw [hy495]; with_reducible exact H2_) | (have H2_ := (Option.bind_some _ _).symm.trans H; with_reducible exact H2_) | with_reducible exact H | (rw [hy495]; exact H) | exact H
 have Ny495 := Aside0.mk hy495
 clear hy495
 replace H := Option.bind_eq_some_iff.mp H
 obtain ⟨t498, A20, H⟩ := H
 replace H : (some t498) = some r := H
 have A2 := Aside0.mk A20
 clear A20
 obtain rfl := Option.some.inj H
 go_enter Try.func80, Try.ntmps80
 go_wp2_with (first | ((with_reducible refine gate_dst (N := 3) rfl ?_); refine Kd.R_lit Kd.string _ 9 ?hg (N := 3) ?hd (xs := ([(⟨#[112, 114, 101, 108, 105, 110, 101, 97, 114]⟩ : ByteArray), (⟨#[100, 105, 118, 105, 115, 105, 98, 108, 101]⟩ : ByteArray), (⟨#[105, 110, 118, 111, 108, 117, 116, 105, 118, 101]⟩ : ByteArray), (⟨#[105, 100, 101, 109, 112, 111, 116, 101, 110, 116]⟩ : ByteArray), (⟨#[98, 111, 111, 108, 101, 97, 110]⟩ : ByteArray)] : List ByteArray)) (inner := [.string (⟨#[112, 114, 101, 108, 105, 110, 101, 97, 114]⟩ : ByteArray), .string (⟨#[100, 105, 118, 105, 115, 105, 98, 108, 101]⟩ : ByteArray), .string (⟨#[105, 110, 118, 111, 108, 117, 116, 105, 118, 101]⟩ : ByteArray), .string (⟨#[105, 100, 101, 109, 112, 111, 116, 101, 110, 116]⟩ : ByteArray), .string (⟨#[98, 111, 111, 108, 101, 97, 110]⟩ : ByteArray)]) (ok := fun _ => True) (okp := fun _ => True) ?hr ?hp (fun _ hk => hk) trivial (Below.refl _ _) (Nat.le_refl _) (by simp) ?_; (case hd => rfl); (case hg => rfl); (case hr => first | (go_simp; done) | (go_simp; rfl)); (case hp => exact (Reps.one (show Kd.M Kd.string _ _ _ (⟨#[112, 114, 101, 108, 105, 110, 101, 97, 114]⟩ : ByteArray) [.string (⟨#[112, 114, 101, 108, 105, 110, 101, 97, 114]⟩ : ByteArray)] from rfl) (Reps.one (show Kd.M Kd.string _ _ _ (⟨#[100, 105, 118, 105, 115, 105, 98, 108, 101]⟩ : ByteArray) [.string (⟨#[100, 105, 118, 105, 115, 105, 98, 108, 101]⟩ : ByteArray)] from rfl) (Reps.one (show Kd.M Kd.string _ _ _ (⟨#[105, 110, 118, 111, 108, 117, 116, 105, 118, 101]⟩ : ByteArray) [.string (⟨#[105, 110, 118, 111, 108, 117, 116, 105, 118, 101]⟩ : ByteArray)] from rfl) (Reps.one (show Kd.M Kd.string _ _ _ (⟨#[105, 100, 101, 109, 112, 111, 116, 101, 110, 116]⟩ : ByteArray) [.string (⟨#[105, 100, 101, 109, 112, 111, 116, 101, 110, 116]⟩ : ByteArray)] from rfl) (Reps.one (show Kd.M Kd.string _ _ _ (⟨#[98, 111, 111, 108, 101, 97, 110]⟩ : ByteArray) [.string (⟨#[98, 111, 111, 108, 101, 97, 110]⟩ : ByteArray)] from rfl) (Reps.none _ _))))))); intro v496 w3 ho4 hb hg_ hnew_; clear hg_ hnew_; (first | rw [← Ny495.out] at ho4 | (simp only [Int.reduceToNat] at ho4; rw [← Ny495.out] at ho4)); have n0_ := Aside0.mk (Kd.R_lower ho4 (below_size (by repeat (first | (with_reducible first | exact HB.out | apply below_alloc | apply pw_below_drewN | apply below_drew1) | exact HB.out)))); have n1_ := Aside0.mk (below_step (by repeat (first | (with_reducible first | exact HB.out | apply below_alloc | apply pw_below_drewN | apply below_drew1) | exact HB.out)) hb); clear HB; have HO497 := n0_; have HB := n1_; clear n0_ n1_; clear hb ho4; obtain ⟨Ao5, co5, eo5⟩ := Kd.R_slice HO497.out; subst eo5) | ((with_reducible refine gate_callee (f := 104) rfl ?_); refine goesL_ (some 5) rfl rfl Try.func104 (by kernel_rfl) rfl #[.slice Ao5 y495.length co5, .string a0] rfl (by (try simp only [List.map_toArray, List.map_cons, List.map_nil]); first | done | rfl | (simp only [List.length_drop, List.length_take]; rfl)) ?_; (with_reducible refine (slices_Contains_string_string.calls k _ _ y495 a0 t498 _ ?side1 ?side2 A2.out).mono ?_); (case side1 => repeat (first | exact (Kd.R_reads' HO497.out).2.2 | (with_reducible refine Kd.C_alloc ?_ _) | (with_reducible refine Kd.C_drewN ?_ _) | (with_reducible refine Kd.C_drew ?_))); (case side2 => exact (Kd.R_reads' HO497.out).2.1); rintro e w' ⟨rfl, ⟨nd, rfl⟩⟩; refine ⟨_, rfl, ?_⟩))
 go_ret
 exact ⟨by first | rfl | (simp [errW_none, errW_some] <;> rfl) | (simp [*, errW_none, errW_some] <;> rfl), by repeat (first | (with_reducible first | exact HB.out | apply below_alloc | apply pw_below_drewN | apply below_drew1) | exact HB.out)⟩

end Go.Proofs.Ytkndndgladdmcaa.P

-- shrunk
