-- Printed by this session's wip/print2.py (the kit's print.py, widened) out of the translation. Lean checks it.
import Derived.Test.YtdcohlllbbcjoaaP0
import Derived.Test.YtdcohlllbbcjoaaP8
import Derived.Test.YtdcohlllbbcjoaaP10
import Derived.Test.YtdcohlllbbcjoaaP17
namespace Go.Proofs.Ytdcohlllbbcjoaa.P
open Go.RowKit Go.Proofs.YtdcohlllbbcjoaaW.PrintWords Go.Proofs.YtdcohlllbbcjoaaW.PrintLast Go.Proofs.YtdcohlllbbcjoaaW.PrintMore
attribute [local go_sem] max2_int min2_int max_two min_two max_three min_three max_four min_four   -- for this text's walks alone
set_option linter.unusedVariables false
set_option linter.unusedSimpArgs false

/-! ### laws_FnValidTerm: function 4 -/
def laws_FnValidTerm.j0 : Nat → List Int → Bool → Bool → Option (Bool)
 | 0, _, _, _ => none
 | k + 1, x3, x4, x19 => if x19 = true then ((spec_ValidTerm.f k x3).bind fun t244 => (some (x4 == t244))) else (if (x3.length : Int) = 15 then ((impl_TermText.f k x3).bind fun t245 => (some (t245.toList != ([] : List UInt8)))) else ((some (([12] : List Int) : List Int)).bind fun y246 => (if y246.length + x3.length < 17592186044416 then ((impl_ValidTerm.f k (y246 ++ x3)).bind fun t252 => (if t252 = true then ((impl_TermText.f k x3).bind fun t253 => (some (t253.toList != ([] : List UInt8)))) else (some false))) else (none))))
def laws_FnValidTerm.f (k : Nat) (l0 : List Int) : Option (Bool) := if (l0.length : Int) > 1048576 then (some true) else ((spec_DrawValidTerm.f k l0).bind fun t239 => ((impl_ValidTerm.f k t239).bind fun t242 => ((spec_ValidTerm.f k t239).bind fun t243 => (if (t242 != t243) = true then (laws_FnValidTerm.j0 k t239 t242 true) else (laws_FnValidTerm.j0 k t239 t242 (!t242))))))
set_option maxHeartbeats 8000000 in
set_option maxRecDepth 100000 in
theorem laws_FnValidTerm.calls (k : Nat) (A0 : Option Addr) (c0 : Nat) (l0 : List Int) (r : Bool) (w : World) (hr0 : Kd.C (Kd.int .u8) w A0 l0.length l0) (hc0 : l0.length ≤ c0) (hrt : Aside0 (r = true)) (h : laws_FnValidTerm.f k l0 = some r) :
  Calls Try.prog 4 #[.slice A0 l0.length c0] w fun e w' => e = .returned (.bool r) ∧ Below w.heap.size w w' := by
 have HR0 := ak hr0
 have HC0 := ak hc0
 clear hr0 hc0
 have HB := ak (Below.refl w.heap.size w)
 have H : (if (l0.length : Int) > 1048576 then (some true) else ((spec_DrawValidTerm.f k l0).bind fun t239 => ((impl_ValidTerm.f k t239).bind fun t242 => ((spec_ValidTerm.f k t239).bind fun t243 => (if (t242 != t243) = true then (laws_FnValidTerm.j0 k t239 t242 true) else (laws_FnValidTerm.j0 k t239 t242 (!t242))))))) = some r := h
 clear h
 by_cases c2 : (l0.length : Int) > 1048576
 ·rw [if_pos c2] at H
  have c2b0 : decide (1048576 < (l0.length : Int)) = true := decide_eq_true c2
  have c2b1 : decide (1048576 < l0.length) = true := decide_eq_true (by omega)
  clear c2
  obtain rfl := Option.some.inj H
  go_enter Try.func4, Try.ntmps4
  go_wp2
  go_ret
  exact ⟨by first | rfl | (simp only [nil_ne]; done) | (simp [nil_ne]; done) | (simp [errW_none, errW_some] <;> rfl) | (simp [*, errW_none, errW_some] <;> rfl), by repeat (first | (with_reducible first | exact HB.out | apply below_alloc | apply pw_below_drewN | apply below_drew1) | exact HB.out)⟩
 rw [if_neg c2] at H
 have c2b0 : decide (1048576 < (l0.length : Int)) = false := decide_eq_false c2
 have c2b1 : decide (1048576 < l0.length) = false := decide_eq_false (by omega)
 clear c2
 replace H := bi H
 obtain ⟨t239, A30, H⟩ := H
 try dsimp only at H
 have A3 := ak A30
 clear A30
 replace H := bi H
 obtain ⟨t242, A40, H⟩ := H
 try dsimp only at H
 have A4 := ak A40
 clear A40
 have HC5 := ak H
 clear H
 go_enter Try.func4, Try.ntmps4
 go_upto_region 5 with (first | ((with_reducible refine gate_callee (f := 12) rfl ?_); refine goesL_ (some 9) rfl rfl Try.func12 (by kernel_rfl) rfl #[.slice A0 l0.length c0] rfl (by (try simp only [List.map_toArray, List.map_cons, List.map_nil]); first | done | rfl | (simp only [List.length_drop, List.length_take]; rfl)) ?_; (with_reducible refine (spec_DrawValidTerm.calls k _ _ l0 t239 _ ?side1 ?side2 A3.out).mono ?_); (case side1 => exact kC HR0.out); (case side2 => exact HC0.out); rintro e w6 ⟨v240, rfl, ho0, hb⟩; refine ⟨_, rfl, ?_⟩; have HO241 := ak (Kd.Q_lower ho0 (below_size (bB HB.out))); replace HB := ak (below_step (bB HB.out) hb); (try clear hb); (try clear hb2); (try clear hk); (try clear hi); (try clear ho0); obtain ⟨Ao7, co7, eo7, _⟩ := Kd.Q_slice HO241.out; subst eo7) | ((with_reducible refine gate_callee (f := 13) rfl ?_); refine goesL_ (some 11) rfl rfl Try.func13 (by kernel_rfl) rfl #[.slice Ao7 t239.length co7] rfl (by (try simp only [List.map_toArray, List.map_cons, List.map_nil]); first | done | rfl | (simp only [List.length_drop, List.length_take]; rfl)) ?_; (with_reducible refine (impl_ValidTerm.calls k _ _ t239 t242 _ ?side1 ?side2 A4.out).mono ?_); (case side1 => exact kC (Kd.Q_reads' HO241.out).2.2); (case side2 => exact (Kd.Q_reads' HO241.out).2.1); rintro e w' ⟨rfl, ⟨nd, rfl⟩⟩; refine ⟨_, rfl, ?_⟩))
 (try simp only [Act.put, List.setIfInBounds_toArray, List.set_cons_zero, List.set_cons_succ])
 go_cut [19] (fun v19 wc => ∃ (kq : Nat) (x19_4 : Bool), v19 = .bool x19_4 ∧ Aside0 (laws_FnValidTerm.j0 kq t239 t242 x19_4 = some r) ∧ Aside0 (kq ≤ k) ∧ Aside0 (Kd.Q (Kd.int .i64) 3 wc w.heap.size (fun _ => True) (.slice Ao7 t239.length co7) t239) ∧ Aside0 (Below w.heap.size w wc))
 case first =>
  have H := HC5.out
  clear HC5
  replace H := bi H
  obtain ⟨t243, A80, H⟩ := H
  try dsimp only at H
  have A8 := ak A80
  clear A80
  by_cases c9 : (t242 != t243) = true
  rotate_left
  ·rw [if_neg c9] at H
   have c9b0 : (t242 != t243) = false := by simpa using c9
   (try (have c9b1 : decide (t242 = t243) = true := by simpa using c9))
   (try (have c9b2 : (t242 == t243) = true := by simpa using c9))
   clear c9
   (first | rw [c9b0] | (simp only [i64_w, i32_w]; rw [c9b0]) | skip)
   have H' := ak H
   clear H
   go_wp2_with (first | ((with_reducible refine gate_callee (f := 14) rfl ?_); refine goesL_ (some 14) rfl rfl Try.func14 (by kernel_rfl) rfl #[.slice Ao7 t239.length co7] rfl (by (try simp only [List.map_toArray, List.map_cons, List.map_nil]); first | done | rfl | (simp only [List.length_drop, List.length_take]; rfl)) ?_; (with_reducible refine (spec_ValidTerm.calls k _ _ t239 t243 _ ?side1 ?side2 A8.out).mono ?_); (case side1 => exact kC (Kd.Q_reads' HO241.out).2.2); (case side2 => exact (Kd.Q_reads' HO241.out).2.1); rintro e w' ⟨rfl, ⟨nd, rfl⟩⟩; refine ⟨_, rfl, ?_⟩))
   go_meet
   case rel => exact ⟨_, (!t242), (by first | rfl | (simp; done) | (simp [*]; done)), H', ⟨by first | omega | exact Nat.le_refl _⟩, ⟨by (with_reducible repeat (first | apply Kd.Q_alloc | apply Kd.Q_drewN | apply Kd.Q_drew)); exact HO241.out⟩, ⟨by repeat (first | (with_reducible first | exact HB.out | apply below_alloc | apply pw_below_drewN | apply below_drew1) | exact HB.out)⟩⟩
  rw [if_pos c9] at H
  have c9b0 : (t242 != t243) = true := c9
  (try (have c9b1 : decide (t242 = t243) = false := by simpa using c9))
  (try (have c9b2 : (t242 == t243) = false := by simpa using c9))
  (try (have c9b3 : ¬ (t242 = t243) := by simpa using c9))
  clear c9
  (first | rw [c9b0] | (simp only [i64_w, i32_w]; rw [c9b0]) | skip)
  have H' := ak H
  clear H
  go_wp2_with (first | ((with_reducible refine gate_callee (f := 14) rfl ?_); refine goesL_ (some 14) rfl rfl Try.func14 (by kernel_rfl) rfl #[.slice Ao7 t239.length co7] rfl (by (try simp only [List.map_toArray, List.map_cons, List.map_nil]); first | done | rfl | (simp only [List.length_drop, List.length_take]; rfl)) ?_; (with_reducible refine (spec_ValidTerm.calls k _ _ t239 t243 _ ?side1 ?side2 A8.out).mono ?_); (case side1 => exact kC (Kd.Q_reads' HO241.out).2.2); (case side2 => exact (Kd.Q_reads' HO241.out).2.1); rintro e w' ⟨rfl, ⟨nd, rfl⟩⟩; refine ⟨_, rfl, ?_⟩))
  go_meet
  case rel => exact ⟨_, (true), (by first | rfl | (simp; done) | (simp [*]; done)), H', ⟨by first | omega | exact Nat.le_refl _⟩, ⟨by (with_reducible repeat (first | apply Kd.Q_alloc | apply Kd.Q_drewN | apply Kd.Q_drew)); exact HO241.out⟩, ⟨by repeat (first | (with_reducible first | exact HB.out | apply below_alloc | apply pw_below_drewN | apply below_drew1) | exact HB.out)⟩⟩
 case rest =>
  clear HC5
  try clear c1
  try clear c2
  try clear c2b0
  try clear c2b1
  try clear p2
  try clear c4
  try clear c9
  try clear c9b0
  try clear c9b1
  try clear c9b2
  obtain ⟨kq, x19_4, rfl, HA, HJ4, HO_3, HB⟩ := hcut
  cases kq with
  | zero => exact absurd HA.out (by simp [laws_FnValidTerm.j0])
  | succ kj4 =>
   have H := HA.out
   clear HA
   simp only [laws_FnValidTerm.j0] at H
   by_cases c10 : x19_4 = true
   ·subst c10
    rw [if_pos rfl] at H
    replace H := bi H
    obtain ⟨t244, A110, H⟩ := H
    try dsimp only at H
    have A11 := ak A110
    clear A110
    obtain rfl := Option.some.inj H
    go_wp2_with (first | ((with_reducible refine gate_callee (f := 14) rfl ?_); refine goesL_ (some 22) rfl rfl Try.func14 (by kernel_rfl) rfl #[.slice Ao7 t239.length co7] rfl (by (try simp only [List.map_toArray, List.map_cons, List.map_nil]); first | done | rfl | (simp only [List.length_drop, List.length_take]; rfl)) ?_; (with_reducible refine (spec_ValidTerm.calls kj4 _ _ t239 t244 _ ?side1 ?side2 A11.out).mono ?_); (case side1 => exact kC (Kd.Q_reads' HO_3.out).2.2); (case side2 => exact (Kd.Q_reads' HO_3.out).2.1); rintro e w' ⟨rfl, ⟨nd, rfl⟩⟩; refine ⟨_, rfl, ?_⟩))
    go_ret
    exact ⟨by first | rfl | (simp only [nil_ne]; done) | (simp [nil_ne]; done) | (simp [errW_none, errW_some] <;> rfl) | (simp [*, errW_none, errW_some] <;> rfl), by repeat (first | (with_reducible first | exact HB.out | apply below_alloc | apply pw_below_drewN | apply below_drew1) | exact HB.out)⟩
   replace c10 := Bool.eq_false_iff.mpr c10
   subst c10
   rw [if_neg (show ¬ (false = true) by decide)] at H
   by_cases c12 : (t239.length : Int) = 15
   ·rw [if_pos c12] at H
    have c12b0 : ((t239.length : Int) == 15) = true := beq_iff_eq.mpr c12
    have c12b1 : ((t239.length : Int) != 15) = false := bne_eq_false_iff_eq.mpr c12
    clear c12
    replace H := bi H
    obtain ⟨t245, A130, H⟩ := H
    try dsimp only at H
    have A13 := ak A130
    clear A130
    obtain rfl := Option.some.inj H
    go_wp2_with (first | (go_at_call 10; (with_reducible refine (impl_TermText.calls kj4 _ _ t239 t245 _ ?side1 ?side2 A13.out).mono ?_); (case side1 => exact kC (Kd.Q_reads' HO_3.out).2.2); (case side2 => exact (Kd.Q_reads' HO_3.out).2.1); rintro e w14 ⟨rfl, hb⟩; replace HO_3 := ak (Kd.Q_below (by (with_reducible repeat (first | apply Kd.Q_alloc | apply Kd.Q_drewN | apply Kd.Q_drew)); exact HO_3.out) hb); replace HB := ak (below_step (bB HB.out) hb); (try clear hb); (try clear hb2); (try clear hk); (try clear hi)))
    go_ret
    exact ⟨by first | rfl | (simp only [nil_ne]; done) | (simp [nil_ne]; done) | (simp [errW_none, errW_some] <;> rfl) | (simp [*, errW_none, errW_some] <;> rfl), by repeat (first | (with_reducible first | exact HB.out | apply below_alloc | apply pw_below_drewN | apply below_drew1) | exact HB.out)⟩
   rw [if_neg c12] at H
   have c12b0 : ((t239.length : Int) == 15) = false := beq_eq_false_iff_ne.mpr c12
   have c12b1 : ((t239.length : Int) != 15) = true := bne_iff_ne.mpr c12
   obtain ⟨y246, hy246⟩ : ∃ y_ : List Int, y_ = (([12] : List Int)) := ⟨_, rfl⟩
   replace H : (if y246.length + t239.length < 17592186044416 then ((impl_ValidTerm.f kj4 (y246 ++ t239)).bind fun t252 => (if t252 = true then ((impl_TermText.f kj4 t239).bind fun t253 => (some (t253.toList != ([] : List UInt8)))) else (some false))) else (none)) = some r := by first | (rw [hy246]; with_reducible exact H) | (have H2_ := (Option.bind_some _ _).symm.trans H; rw [hy246]; with_reducible exact H2_) | (have H2_ := (Option.bind_some _ _).symm.trans H; with_reducible exact H2_) | with_reducible exact H | (rw [hy246]; exact H) | exact H
   have Ny246 := ak hy246
   clear hy246
   replace H := oi H
   obtain ⟨c15, H⟩ := H
   have LMc15 := ak c15
   clear c15
   obtain ⟨y249, hy249⟩ : ∃ y_ : List Int, y_ = (y246 ++ t239) := ⟨_, rfl⟩
   replace H : ((impl_ValidTerm.f kj4 y249).bind fun t252 => (if t252 = true then ((impl_TermText.f kj4 t239).bind fun t253 => (some (t253.toList != ([] : List UInt8)))) else (some false))) = some r := by first | (rw [hy249]; with_reducible exact H) | (have H2_ := (Option.bind_some _ _).symm.trans H; rw [hy249]; with_reducible exact H2_) | (have H2_ := (Option.bind_some _ _).symm.trans H; with_reducible exact H2_) | with_reducible exact H | (rw [hy249]; exact H) | exact H
   have Ny249 := ak hy249
   clear hy249
   replace H := bi H
   obtain ⟨t252, A160, H⟩ := H
   try dsimp only at H
   have A16 := ak A160
   clear A160
   by_cases c17 : t252 = true
   rotate_left
   ·replace c17 := Bool.eq_false_iff.mpr c17
    subst c17
    rw [if_neg (show ¬ (false = true) by decide)] at H
    exact absurd (Option.some.inj H) (by rw [hrt.out]; decide)
   subst c17
   rw [if_pos rfl] at H
   replace H := bi H
   obtain ⟨t253, A180, H⟩ := H
   try dsimp only at H
   have A18 := ak A180
   clear A180
   obtain rfl := Option.some.inj H
   go_wp2_with (first | ((with_reducible refine gate_dst (N := 28) rfl ?_); (try (refine gate_guard (by rfl) ?_; dsimp only)); refine Kd.R_lit (Kd.int .i64) _ 3 ?hg (N := 28) ?hd (xs := ([12] : List Int)) (inner := [.int .i64 12]) (ok := fun _ => True) (okp := fun _ => True) ?hr ?hp (fun _ hk => hk) trivial (Below.refl _ _) (Nat.le_refl _) (by simp) ?_; (case hd => rfl); (case hg => rfl); (case hr => first | (go_simp; done) | (go_simp; rfl)); (case hp => exact (Reps.one (show Kd.M (Kd.int .i64) _ _ _ 12 [.int .i64 12] from rfl) (Reps.none _ _))); intro v247 w19 ho20 hb hg_ hnew_; clear hg_ hnew_; (first | rw [← Ny246.out] at ho20 | (simp only [Int.reduceToNat] at ho20; rw [← Ny246.out] at ho20)); have HO248 := ak (Kd.R_lower (Kd.R_new' ho20 (Kd.Q_lt (by (with_reducible repeat (first | apply Kd.Q_alloc | apply Kd.Q_drewN | apply Kd.Q_drew)); exact HO_3.out))) (below_size (bB HB.out))); replace HO_3 := ak (Kd.Q_elder' (by (with_reducible repeat (first | apply Kd.Q_alloc | apply Kd.Q_drewN | apply Kd.Q_drew)); exact HO_3.out) (Kd.R_base ho20) hb); replace HB := ak (below_step (bB HB.out) hb); clear hb ho20) | ((with_reducible refine gate_builtin (b := .append) (xs := #[.tmp 28, .tmp 29]) rfl ?_); (try (refine gate_guard (by rfl) ?_; dsimp only)); at_builtin; refine Kd.R_append_rows (Kd.int .i64) (w0 := w) w.heap.size rfl (.tmp 28) (.tmp 29) 22 3 (.int .i64 0) 8 rfl Try.underlying22 info3 rfl (by decide) (by omega) v247 y246 t239 _ _ _ (fun k_ => some k_ ≠ (.slice Ao7 t239.length co7 : Value).ownBlock) (fun _ => False) rfl rfl ?aO ?aR (fun _ _ h => h) (fun _ h => h.elim) ?aF ?aB ?aS ?aL ?_; (case aR => repeat (first | exact (Kd.Q_reads' HO_3.out).2.2 | (with_reducible refine Kd.C_alloc ?_ _) | (with_reducible refine Kd.C_drewN ?_ _) | (with_reducible refine Kd.C_drew ?_))); (case aB => exact (bB HB.out)); (case aF => exact (fun k_ hk => Kd.fresh' (Kd.Q_lt (by (with_reducible repeat (first | apply Kd.Q_alloc | apply Kd.Q_drewN | apply Kd.Q_drew)); exact HO_3.out)) k_ hk)); (case aO => exact (kR (Kd.R_mono HO248.out (fun _ hk => hk.2)))); (case aS => exact (below_size (bB HB.out))); (case aL => have := LMc15.out; omega); intro v250 w21 ho hb hg hat; rw [← Ny249.out] at ho; replace HO_3 := ak (Kd.Q_after (ok := (fun _ => True)) (by (with_reducible repeat (first | apply Kd.Q_alloc | apply Kd.Q_drewN | apply Kd.Q_drew)); exact HO_3.out) hg hat); replace HB := ak (hb); have HO251 := ak (ho); clear HO248; clear ho hb hg hat; obtain ⟨Ao22, co22, eo22⟩ := Kd.R_slice HO251.out; subst eo22) | (go_at_call 13; (with_reducible refine (impl_ValidTerm.calls kj4 _ _ y249 true _ ?side1 ?side2 A16.out).mono ?_); (case side1 => exact kC (Kd.R_reads' HO251.out).2.2); (case side2 => exact (Kd.R_reads' HO251.out).2.1); rintro e w' ⟨rfl, ⟨nd, rfl⟩⟩) | (go_at_call 10; (with_reducible refine (impl_TermText.calls kj4 _ _ t239 t253 _ ?side1 ?side2 A18.out).mono ?_); (case side1 => exact kC (Kd.Q_reads' HO_3.out).2.2); (case side2 => exact (Kd.Q_reads' HO_3.out).2.1); rintro e w23 ⟨rfl, hb⟩; replace HO_3 := ak (Kd.Q_below (by (with_reducible repeat (first | apply Kd.Q_alloc | apply Kd.Q_drewN | apply Kd.Q_drew)); exact HO_3.out) hb); replace HO251 := ak (Kd.R_below (kR HO251.out) hb); replace HB := ak (below_step (bB HB.out) hb); (try clear hb); (try clear hb2); (try clear hk); (try clear hi)))
   go_ret
   exact ⟨by first | rfl | (simp only [nil_ne]; done) | (simp [nil_ne]; done) | (simp [errW_none, errW_some] <;> rfl) | (simp [*, errW_none, errW_some] <;> rfl), by repeat (first | (with_reducible first | exact HB.out | apply below_alloc | apply pw_below_drewN | apply below_drew1) | exact HB.out)⟩
/-- THE ONE PURE STATEMENT of laws_FnValidTerm: yours. -/
def laws_FnValidTerm.Pure : Prop := ∀ (l0 : List Int), l0.length ≤ maxLen → l0.length * 1 ≤ 140737488351232 → (∀ x ∈ l0, (Lit.int .u8 x).wf = true) → ∃ k, laws_FnValidTerm.f k l0 = some true
theorem laws_FnValidTerm.walk (P : laws_FnValidTerm.Pure) (a0 : Option Addr) (len0 cap0 : Nat) (z0 : List Int) (w : World) (w0 : (a0 = none ∧ len0 = 0 ∧ cap0 = 0 ∧ z0 = []) ∨ ∃ x, a0 = some x ∧ len0 ≤ cap0 ∧ cap0 ≤ maxLen ∧ z0.length = cap0 ∧ (∀ i, i < z0.length → w.cell? (x.add i) = some (.int .u8 (z0.getD i 0))) ∧ ∀ n ∈ z0, (Lit.int .u8 n).wf = true) (y0 : len0 * 1 ≤ 140737488351232) :
  Calls Try.prog 4 #[.slice a0 len0 cap0] w fun e w' => e = .returned (.bool true) ∧ Below w.heap.size w w' := by
 obtain ⟨l0, rfl, hr0, hm0, hw0, hc0⟩ := ReadsInt.ofRowC w0
 obtain ⟨k, h⟩ := P l0 hm0 y0 hw0
 refine (laws_FnValidTerm.calls k _ _ l0 true w (Kd.C_of_reads (d := (0 : Int)) (h1 := fun _ => rfl) hr0) hc0 ⟨rfl⟩ h).mono ?_
 rintro e w' ⟨rfl, hd⟩
 exact ⟨rfl, hd⟩
end Go.Proofs.Ytdcohlllbbcjoaa.P

-- shrunk
