-- Texts that the same laws need, in one (merge.py).
import Derived.Test.YtmfpaagjllaljaaG0
import Derived.Test.YtmfpaagjllaljaaG1
import Derived.Test.YtmfpaagjllaljaaG4
import Derived.Test.YtmfpaagjllaljaaG3
import Derived.Test.YtmfpaagjllaljaaG2
import Derived.Test.YtmfpaagjllaljaaG5
section
namespace Go.Proofs.Ytmfpaagjllaljaa.P
open Go.RowKit Go.Proofs.YtmfpaagjllaljaaW.PrintWords Go.Proofs.YtmfpaagjllaljaaW.PrintLast Go.Proofs.YtmfpaagjllaljaaW.PrintMore
attribute [local go_sem] max2_int min2_int max_two min_two max_three min_three max_four min_four   -- for this text's walks alone
set_option linter.unusedVariables false
set_option linter.unusedSimpArgs false

/-! ### impl_chain: function 82 -/
def impl_chain.l0 : Nat → Int → List Int → Int → Option (List Int)
 | 0, _, _, _ => none
 | k + 1, x0, x3, x4 => if x4 < x0 then (if 0 ≤ x0 then (if 0 ≤ x4 then (if x3.length < 17592186044416 then ((some (x3 ++ [wrap64 ((shl .i64 1 x0) - (shl .i64 1 x4))] : List Int)).bind fun y190 => (if x4 < (y190.length : Int) then (impl_chain.l0 k x0 (y190.set (x4 : Int).toNat (Go.bits .and .i64 (rd y190 x4) (wrap64 ((shl .i64 1 x0) - 1)))) (wrap64 (x4 + 1))) else (none))) else (none)) else (none)) else (none)) else (some x3)
def impl_chain.f (k : Nat) (a0 : Int) : Option (List Int) := impl_chain.l0 k a0 (([] : List Int)) 0
theorem impl_chain.mono_l : ∀ k, (∀ y0 y1 y2, LeO (impl_chain.l0 k y0 y1 y2) (impl_chain.l0 (k + 1) y0 y1 y2))
 | 0 => fun _ _ _ r h => by simp [impl_chain.l0] at h
 | k + 1 => by
  have ih0 := impl_chain.mono_l k
  ·intro y0 y1 y2
   unfold impl_chain.l0
   repeat' first
   | (with_reducible exact ih0 _ _ _)
   | (with_reducible exact LeO.refl _)
   | (with_reducible exact LeO.none _)
   | (with_reducible refine LeO.ite ?_ ?_)
   | (with_reducible refine LeO.bind ?_ (fun _ => ?_))
   | exact ih0 _ _ _
   | exact LeO.none _
   | refine LeO.ite ?_ ?_
   | refine LeO.bind ?_ (fun _ => ?_)
theorem impl_chain.mono : ∀ a0 k, LeO (impl_chain.f k a0) (impl_chain.f (k + 1) a0) := by
 intro a0 k
 have ih0 := impl_chain.mono_l k
 unfold impl_chain.f
 repeat' first
   | (with_reducible exact ih0 _ _ _)
   | (with_reducible exact LeO.refl _)
   | (with_reducible exact LeO.none _)
   | (with_reducible refine LeO.ite ?_ ?_)
   | (with_reducible refine LeO.bind ?_ (fun _ => ?_))
   | exact ih0 _ _ _
   | exact LeO.none _
   | refine LeO.ite ?_ ?_
   | refine LeO.bind ?_ (fun _ => ?_)
def impl_chain.T5 : Bool × List (List Nat × List Nat) := (true, [([], []), ([], []), ([1], [1]), ([], []), ([3], [3]), ([2, 4], [2, 4]), ([5], [5]), ([0, 6], [0, 6]), ([7, 7, 0, 1, 2, 3, 4, 5, 6, 7], [0, 7])])
def impl_chain.B5 : List Nat := [0, 0, 2, 0, 8, 30, 62, 127, 255]
theorem impl_chain.tab5 : rtab .any (opsOf Try.f82 5) = impl_chain.T5 := by kernel_rfl
theorem impl_chain.bits5 : waitsOk impl_chain.T5.2 impl_chain.B5 = true := by kernel_rfl
def impl_chain.T6 : Bool × List (List Nat × List Nat) := (true, [([], []), ([], []), ([0, 1], [0, 1]), ([2], [2]), ([], []), ([4], [4]), ([5], [5]), ([3, 6], [3, 6]), ([0, 1, 0, 1, 2, 3, 4, 5, 6, 7], [0, 1]), ([8, 7, 0, 1, 2, 3, 4, 5, 6, 7], [7, 8])])
def impl_chain.B6 : List Nat := [0, 0, 3, 7, 0, 16, 48, 127, 255, 511]
theorem impl_chain.tab6 : rtab .any (opsOf Try.f82 6) = impl_chain.T6 := by kernel_rfl
theorem impl_chain.bits6 : waitsOk impl_chain.T6.2 impl_chain.B6 = true := by kernel_rfl
set_option maxHeartbeats 8000000 in
set_option maxRecDepth 100000 in
theorem impl_chain.calls (k : Nat) (a0 : Int) (r : List Int) (w : World) (h : impl_chain.f k a0 = some r) :
  Calls Try.prog 82 #[.int .i64 a0] w fun e w' => ∃ v0_ : Value, e = .returned (v0_) ∧ Kd.R (Kd.int .i64) 3 w' w.heap.size (fun _ => True) v0_ r ∧ Below w.heap.size w w' := by
 have HB := Aside0.mk (Below.refl w.heap.size w)
 have H : (impl_chain.l0 k a0 (([] : List Int)) 0) = some r := h
 clear h
 obtain ⟨y187, hy187⟩ : ∃ y_ : List Int, y_ = (([] : List Int)) := ⟨_, rfl⟩
 replace H : (impl_chain.l0 k a0 y187 0) = some r := by first | (rw [hy187]; with_reducible exact H) | (have H2_ := (Option.bind_some _ _).symm.trans H; rw [hy187]; with_reducible exact H2_) | (have H2_ := (Option.bind_some _ _).symm.trans H; with_reducible exact H2_) | with_reducible exact H | (rw [hy187]; exact H) | exact H
 have Ny187 := Aside0.mk hy187
 clear hy187
 have H' := Aside0.mk H
 clear H
 go_enter Try.func82, Try.ntmps82
 go_wp2_with (first | ((with_reducible refine gate_dst (N := 5) rfl ?_); refine Kd.R_lit (Kd.int .i64) _ 3 ?hg (N := 5) ?hd (xs := ([] : List Int)) (inner := []) (ok := fun _ => True) (okp := fun _ => True) ?hr ?hp (fun _ hk => hk) trivial (Below.refl _ _) (Nat.le_refl _) (by simp) ?_; (case hd => rfl); (case hg => rfl); (case hr => first | (go_simp; done) | (go_simp; rfl)); (case hp => exact (Reps.none _ _)); intro v188 w2 ho3 hb hg_ hnew_; clear hg_ hnew_; (first | rw [← Ny187.out] at ho3 | (simp only [Int.reduceToNat] at ho3; rw [← Ny187.out] at ho3)); have n0_ := Aside0.mk (Kd.R_lower ho3 (below_size (by repeat (first | (with_reducible first | exact HB.out | apply below_alloc | apply pw_below_drewN | apply below_drew1) | exact HB.out)))); have n1_ := Aside0.mk (below_step (by repeat (first | (with_reducible first | exact HB.out | apply below_alloc | apply pw_below_drewN | apply below_drew1) | exact HB.out)) hb); clear HB; have HO189 := n0_; have HB := n1_; clear n0_ n1_; clear hb ho3))
 go_loopg [3, 4] k (fun kq v3 v4 w' => ∃ (x3_1 : List Int) (x4_1 : Int), v4 = .int .i64 x4_1 ∧ Aside0 (impl_chain.l0 kq a0 x3_1 x4_1 = some r) ∧ Aside0 (kq ≤ k) ∧ Aside0 (Kd.R (Kd.int .i64) 3 w' w.heap.size (fun _ => True) v3 x3_1) ∧ Aside0 (Below w.heap.size w w'))
 case atStart => exact ⟨(y187), (0), (by first | rfl | (simp; done) | (simp [*]; done)), H', ⟨Nat.le_refl _⟩, ⟨by (with_reducible repeat (first | apply Kd.R_alloc | apply Kd.R_drewN | apply Kd.R_drew)); exact HO189.out⟩, ⟨by repeat (first | (with_reducible first | exact HB.out | apply below_alloc | apply pw_below_drewN | apply below_drew1) | exact HB.out)⟩⟩
 case round =>
  clear H'
  try clear p2
  obtain ⟨x3_1, x4_1, rfl, HA, HK1, HO_3, HB⟩ := hrel
  cases gk with
  | zero => exact absurd HA.out (by simp [impl_chain.l0])
  | succ k1 =>
   have H := HA.out
   clear HA
   simp only [impl_chain.l0] at H
   by_cases c4 : x4_1 < a0
   ·rw [if_pos c4] at H
    have c4b0 : decide (x4_1 < a0) = true := decide_eq_true c4
    clear c4
    by_cases c5 : 0 ≤ a0
    ·rw [if_pos c5] at H
     have c5b0 := eq_true c5
     have c5b1 : decide (0 ≤ a0) = true := decide_eq_true c5
     clear c5
     obtain ⟨ji6, hji6⟩ : ∃ j_ : Int, (shl .i64 1 a0) = j_ := ⟨_, rfl⟩
     replace H : (if 0 ≤ x4_1 then (if x3_1.length < 17592186044416 then ((some (x3_1 ++ [wrap64 ((ji6) - (shl .i64 1 x4_1))] : List Int)).bind fun y190 => (if x4_1 < (y190.length : Int) then (impl_chain.l0 k1 a0 (y190.set (x4_1 : Int).toNat (Go.bits .and .i64 (rd y190 x4_1) (wrap64 ((ji6) - 1)))) (wrap64 (x4_1 + 1))) else (none))) else (none)) else (none)) = some r := by first | (rw [hji6] at H; exact H) | (simp only [hji6] at H ⊢; exact H)
     have hji6_ : (IntKind.i64.wrap (1 * 2 ^ min a0.toNat 64)) = ji6 := hji6
     have hji6z : a0 ≤ 64 → (IntKind.i64.wrap (1 * 2 ^ a0.toNat)) = ji6 := shl_small hji6
     have hji6u : (IntKind.i64.wrap (2 ^ min a0.toNat 64)) = ji6 := by have h_ := hji6_; rw [Int.one_mul] at h_; exact h_
     have hji6v : a0 ≤ 64 → (IntKind.i64.wrap (2 ^ a0.toNat)) = ji6 := fun hle_ => by have h_ := hji6z hle_; rw [Int.one_mul] at h_; exact h_
     have hji6y : (wrap64 (1 * 2 ^ min a0.toNat 64)) = ji6 := (i64_w _).symm.trans hji6_
     have hji6x : a0 ≤ 64 → (wrap64 (1 * 2 ^ a0.toNat)) = ji6 := fun h_ => (i64_w _).symm.trans (hji6z h_)
     by_cases c7 : 0 ≤ x4_1
     ·rw [if_pos c7] at H
      have c7b0 := eq_true c7
      have c7b1 : decide (0 ≤ x4_1) = true := decide_eq_true c7
      clear c7
      obtain ⟨ji8, hji8⟩ : ∃ j_ : Int, (shl .i64 1 x4_1) = j_ := ⟨_, rfl⟩
      replace H : (if x3_1.length < 17592186044416 then ((some (x3_1 ++ [wrap64 ((ji6) - (ji8))] : List Int)).bind fun y190 => (if x4_1 < (y190.length : Int) then (impl_chain.l0 k1 a0 (y190.set (x4_1 : Int).toNat (Go.bits .and .i64 (rd y190 x4_1) (wrap64 ((ji6) - 1)))) (wrap64 (x4_1 + 1))) else (none))) else (none)) = some r := by first | (rw [hji8] at H; exact H) | (simp only [hji8] at H ⊢; exact H)
      have hji8_ : (IntKind.i64.wrap (1 * 2 ^ min x4_1.toNat 64)) = ji8 := hji8
      have hji8z : x4_1 ≤ 64 → (IntKind.i64.wrap (1 * 2 ^ x4_1.toNat)) = ji8 := shl_small hji8
      have hji8u : (IntKind.i64.wrap (2 ^ min x4_1.toNat 64)) = ji8 := by have h_ := hji8_; rw [Int.one_mul] at h_; exact h_
      have hji8v : x4_1 ≤ 64 → (IntKind.i64.wrap (2 ^ x4_1.toNat)) = ji8 := fun hle_ => by have h_ := hji8z hle_; rw [Int.one_mul] at h_; exact h_
      have hji8y : (wrap64 (1 * 2 ^ min x4_1.toNat 64)) = ji8 := (i64_w _).symm.trans hji8_
      have hji8x : x4_1 ≤ 64 → (wrap64 (1 * 2 ^ x4_1.toNat)) = ji8 := fun h_ => (i64_w _).symm.trans (hji8z h_)
      by_cases c9 : x3_1.length < 17592186044416
      ·rw [if_pos c9] at H
       have LMc9 := Aside0.mk c9
       clear c9
       obtain ⟨y190, hy190⟩ : ∃ y_ : List Int, y_ = (x3_1 ++ [wrap64 ((ji6) - (ji8))]) := ⟨_, rfl⟩
       replace H : (if x4_1 < (y190.length : Int) then (impl_chain.l0 k1 a0 (y190.set (x4_1 : Int).toNat (Go.bits .and .i64 (rd y190 x4_1) (wrap64 ((ji6) - 1)))) (wrap64 (x4_1 + 1))) else (none)) = some r := by first | (rw [hy190]; with_reducible exact H) | (have H2_ := (Option.bind_some _ _).symm.trans H; rw [hy190]; with_reducible exact H2_) | (have H2_ := (Option.bind_some _ _).symm.trans H; with_reducible exact H2_) | with_reducible exact H | (rw [hy190]; exact H) | exact H
       have Ny190 := Aside0.mk hy190
       clear hy190
       by_cases c10 : x4_1 < (y190.length : Int)
       ·rw [if_pos c10] at H
        have c10b0 : decide (x4_1 < (y190.length : Int)) = true := decide_eq_true c10
        clear c10
        have c11b0 := eq_true (of_decide_eq_true (by first | (with_reducible assumption) | assumption) : 0 ≤ a0)
        obtain ⟨y194, hy194⟩ : ∃ y_ : List Int, y_ = (y190.set (x4_1 : Int).toNat (Go.bits .and .i64 (rd y190 x4_1) (wrap64 ((ji6) - 1)))) := ⟨_, rfl⟩
        replace H : (impl_chain.l0 k1 a0 y194 (wrap64 (x4_1 + 1))) = some r := by first | (rw [hy194]; with_reducible exact H) | (have H2_ := (Option.bind_some _ _).symm.trans H; rw [hy194]; with_reducible exact H2_) | (have H2_ := (Option.bind_some _ _).symm.trans H; with_reducible exact H2_) | with_reducible exact H | (rw [hy194]; exact H) | exact H
        have Ny194 := Aside0.mk hy194
        clear hy194
        have H' := Aside0.mk H
        clear H
        try go_wp2
        have n0_ := Aside0.mk (Kd.R_drew HO_3.out)
        have n1_ := Aside0.mk (below_drew1 HB.out)
        clear HO_3
        clear HB
        have HO_3 := n0_
        have HB := n1_
        clear n0_ n1_
        refine start_ (n := 9) (S := fun w' => True) (ds := []) #[false, false, false, false, false, false, false, false, false] (by kernel_rfl) rfl rfl trivial (fun hHeld => ?_); refine with_tabW impl_chain.tab5 impl_chain.bits5 (fun HT_ HW_ => ?_)
        generalize wr.drew = w13 at HO_3 HB hHeld ⊢
        refine pure_ (i := 0) (N := some 11) (v := ?_) (a' := ?_) #[true, false, false, false, false, false, false, false, false] rfl rfl (any_of HT_.out (by kernel_rfl)) (fun _ _ _ h => h) (Or.inl ⟨by rfl, ?_⟩) ?_ ?_
        rotate_left
        ·intro w'
         go_simp
         with_reducible rfl
        rotate_left
        ·simp only [Act.put, List.setIfInBounds_toArray, List.set_cons_zero, List.set_cons_succ, i64_w, i32_w]
         rfl
        refine pure_ (i := 1) (N := some 12) (v := ?_) (a' := ?_) #[true, true, false, false, false, false, false, false, false] rfl rfl (any_of HT_.out (by kernel_rfl)) (fun _ _ _ h => h) (Or.inl ⟨by rfl, ?_⟩) ?_ ?_
        rotate_left
        ·intro w'
         go_simp
         with_reducible rfl
        rotate_left
        ·simp only [Act.put, List.setIfInBounds_toArray, List.set_cons_zero, List.set_cons_succ, i64_w, i32_w]
         rfl
        refine pure_ (i := 2) (N := some 13) (v := ?_) (a' := ?_) #[true, true, true, false, false, false, false, false, false] rfl rfl (any_of HT_.out (by kernel_rfl)) (fun _ _ _ h => h) (Or.inl ⟨by rfl, ?_⟩) ?_ ?_
        rotate_left
        ·intro w'
         go_simp
         with_reducible rfl
        rotate_left
        ·simp only [Act.put, List.setIfInBounds_toArray, List.set_cons_zero, List.set_cons_succ, i64_w, i32_w]
         rfl
        refine pure_ (i := 3) (N := some 14) (v := ?_) (a' := ?_) #[true, true, true, true, false, false, false, false, false] rfl rfl (any_of HT_.out (by kernel_rfl)) (fun _ _ _ h => h) (Or.inl ⟨by rfl, ?_⟩) ?_ ?_
        rotate_left
        ·intro w'
         go_simp
         with_reducible rfl
        rotate_left
        ·simp only [Act.put, List.setIfInBounds_toArray, List.set_cons_zero, List.set_cons_succ, i64_w, i32_w]
         rfl
        refine pure_ (i := 4) (N := some 15) (v := ?_) (a' := ?_) #[true, true, true, true, true, false, false, false, false] rfl rfl (any_of HT_.out (by kernel_rfl)) (fun _ _ _ h => h) (Or.inl ⟨by rfl, ?_⟩) ?_ ?_
        rotate_left
        ·intro w'
         go_simp
         with_reducible rfl
        rotate_left
        ·simp only [Act.put, List.setIfInBounds_toArray, List.set_cons_zero, List.set_cons_succ, i64_w, i32_w]
         rfl
        refine pure_ (i := 5) (N := some 16) (v := ?_) (a' := ?_) #[true, true, true, true, true, true, false, false, false] rfl rfl (any_of HT_.out (by kernel_rfl)) (fun _ _ _ h => h) (Or.inl ⟨by rfl, ?_⟩) ?_ ?_
        rotate_left
        ·intro w'
         go_simp
         with_reducible rfl
        rotate_left
        ·simp only [Act.put, List.setIfInBounds_toArray, List.set_cons_zero, List.set_cons_succ, i64_w, i32_w]
         rfl
        refine one_ (i := 6) (N := some 17) #[true, true, true, true, true, true, true, false, false] rfl rfl (one_of HT_.out (by kernel_rfl)) (by decide) (fun K hK => ?_)
        refine value_ (w1 := ?_) (v := ?_) (by rfl) rfl ?_ ?_
        rotate_left 2
        ·go_simp
         constructor
         ·rfl
         ·rfl
        refine hK.out _ _ trivial (fun hHeld => ?_)
        clear hK K
        refine norm_ (a' := ?_) ?_ ?_
        rotate_left
        ·show Act.put _ (some 17) _ = _
         simp only [Act.put, List.setIfInBounds_toArray, List.set_cons_zero, List.set_cons_succ, i64_w, i32_w]
         rfl
        refine one_ (i := 7) (N := some 18) #[true, true, true, true, true, true, true, true, false] rfl rfl (one_of HT_.out (by kernel_rfl)) (by decide) (fun K hK => ?_)
        refine Kd.R_append_step (Kd.int .i64) (w0 := w) w.heap.size (by rfl) (.tmp 11) (.tmp 17) 22 3 (.int .i64 0) 8 rfl Try.underlying22 info3 rfl (by decide) (by omega) u3 x3_1 (wrap64 ((ji6) - (ji8))) [.int .i64 (wrap64 ((ji6) - (ji8)))] (fun _ => True) (fun _ => False) rfl rfl ?aP (fun _ hk => hk.elim) ?aF ?aO ?aB ?aS ?aL ?_
        (case aP => exact rfl)
        (case aB => exact (by repeat (first | (with_reducible first | exact HB.out | apply below_alloc | apply pw_below_drewN | apply below_drew1) | exact HB.out)))
        (case aF => exact (fun _ _ => trivial))
        (case aO => exact (by (with_reducible repeat (first | apply Kd.R_alloc | apply Kd.R_drewN | apply Kd.R_drew)); exact HO_3.out))
        (case aS => exact (below_size (by repeat (first | (with_reducible first | exact HB.out | apply below_alloc | apply pw_below_drewN | apply below_drew1) | exact HB.out))))
        (case aL => have := LMc9.out; omega)
        intro v191 w14 ho hb hg hat
        rw [← Ny190.out] at ho
        have n0_ := Aside0.mk (hb)
        have n1_ := Aside0.mk (ho)
        clear HB
        clear HO_3
        have HB := n0_
        have HO192 := n1_
        clear n0_ n1_
        clear ho hb hg hat
        refine hK.out _ _ trivial (fun hHeld => ?_)
        clear hK K
        refine norm_ (a' := ?_) ?_ ?_
        rotate_left
        ·show Act.put _ (some 18) _ = _
         simp only [Act.put, List.setIfInBounds_toArray, List.set_cons_zero, List.set_cons_succ, i64_w, i32_w]
         rfl
        refine pure_ (i := 8) (N := some 3) (v := ?_) (a' := ?_) #[true, true, true, true, true, true, true, true, true] rfl rfl (any_of HT_.out (by kernel_rfl)) (fun _ _ _ h => h) (Or.inl ⟨by rfl, ?_⟩) ?_ ?_
        rotate_left
        ·intro w'
         go_simp
         with_reducible rfl
        rotate_left
        ·simp only [Act.put, List.setIfInBounds_toArray, List.set_cons_zero, List.set_cons_succ, i64_w, i32_w]
         rfl
        refine done_ (done_of HT_.out (by kernel_rfl)) ?_
        try go_wp2
        have n0_ := Aside0.mk (Kd.R_drew HO192.out)
        have n1_ := Aside0.mk (below_drew1 HB.out)
        clear HO192
        clear HB
        have HO192 := n0_
        have HB := n1_
        clear n0_ n1_
        obtain ⟨Ao16, co16, eo16⟩ := Kd.R_slice HO192.out
        (first | subst eo16 | (injection eo16 with f1_ f2_ f3_; have f4_ := f1_.symm; have f5_ := f3_.symm; clear f1_ f2_ f3_; subst f4_; subst f5_))
        have p193 : 0 ≤ (x4_1 : Int) := of_decide_eq_true (by first | (with_reducible assumption) | assumption)
        have q193 : x4_1 < (y190.length : Int) := of_decide_eq_true (by first | (with_reducible assumption) | assumption)
        obtain ⟨ad193, e193, hx193_0⟩ := Kd.at_int (Kd.R_reads' HO192.out).2.2 x4_1 p193 q193
        cases e193
        replace p193 := eq_true p193
        replace q193 := eq_true q193
        have p12 : 0 ≤ (x4_1 : Int) := of_decide_eq_true (by first | (with_reducible assumption) | assumption)
        have q12 : (x4_1 : Int) < ((y190.length : Int) : Int) := of_decide_eq_true (by first | (with_reducible assumption) | assumption)
        obtain ⟨go12, co12, eo12, gb12, gl12, cl12, HG12⟩ := Kd.R_form HO192.out (by omega)
        (first | cases eo12 | (injection eo12 with ea_ en_ ec_; (first | subst ea_ | (injection ea_ with ea_; subst ea_)); subst ec_; clear en_))
        have GB12 := Aside0.mk gb12
        have GG12 := Aside0.mk HG12
        clear gb12 gl12 HG12
        (first | simp only [add_plain] at hx193_0 | skip)
        obtain ⟨hx12_0, hf12_0⟩ := Kd.R_celln 0 HO192.out (x4_1 : Int) p12 q12
        replace p12 := eq_true p12
        replace q12 := eq_true q12
        have HP17 := Kd.R_putn HO192.out (x4_1 : Int) (Go.bits .and .i64 (rd y190 x4_1) (wrap64 ((ji6) - 1)))
        rw [← Ny194.out] at HP17
        have HQ17 := Aside0.mk HP17
        clear HP17
        refine start_ (n := 10) (S := fun w' => w'.cell? ⟨go12, (x4_1).toNat, none⟩ = some (.int .i64 (rd y190 x4_1))) (ds := [9]) #[false, false, false, false, false, false, false, false, false, false] (by kernel_rfl) rfl rfl (hx193_0) (fun hHeld => ?_); refine with_tabW impl_chain.tab6 impl_chain.bits6 (fun HT_ HW_ => ?_)
        generalize w14.drew = w15 at HO192 HB GG12 HQ17 hf12_0 hx12_0 hx193_0 hHeld ⊢
        refine pure_ (i := 0) (N := some 19) (v := ?_) (a' := ?_) #[true, false, false, false, false, false, false, false, false, false] rfl rfl (any_of HT_.out (by kernel_rfl)) (fun _ _ _ h => h) (Or.inl ⟨by rfl, ?_⟩) ?_ ?_
        rotate_left
        ·intro w'
         go_simp
         with_reducible rfl
        rotate_left
        ·simp only [Act.put, List.setIfInBounds_toArray, List.set_cons_zero, List.set_cons_succ, i64_w, i32_w]
         rfl
        refine pure_ (i := 1) (N := some 20) (v := ?_) (a' := ?_) #[true, true, false, false, false, false, false, false, false, false] rfl rfl (any_of HT_.out (by kernel_rfl)) (fun _ _ _ h => h) (Or.inl ⟨by rfl, ?_⟩) ?_ ?_
        rotate_left
        ·intro w'
         go_simp
         with_reducible rfl
        rotate_left
        ·simp only [Act.put, List.setIfInBounds_toArray, List.set_cons_zero, List.set_cons_succ, i64_w, i32_w]
         rfl
        refine pure_ (i := 2) (N := some 21) (v := ?_) (a' := ?_) #[true, true, true, false, false, false, false, false, false, false] rfl rfl (any_of HT_.out (by kernel_rfl)) (fun _ _ _ h => h) (Or.inl ⟨by rfl, ?_⟩) ?_ ?_
        rotate_left
        ·intro w'
         go_simp
         with_reducible rfl
        rotate_left
        ·simp only [Act.put, List.setIfInBounds_toArray, List.set_cons_zero, List.set_cons_succ, i64_w, i32_w]
         rfl
        refine pure_ (i := 4) (N := some 23) (v := ?_) (a' := ?_) #[true, true, true, false, true, false, false, false, false, false] rfl rfl (any_of HT_.out (by kernel_rfl)) (fun _ _ _ h => h) (Or.inl ⟨by rfl, ?_⟩) ?_ ?_
        rotate_left
        ·intro w'
         go_simp
         with_reducible rfl
        rotate_left
        ·simp only [Act.put, List.setIfInBounds_toArray, List.set_cons_zero, List.set_cons_succ, i64_w, i32_w]
         rfl
        refine pure_ (i := 5) (N := some 24) (v := ?_) (a' := ?_) #[true, true, true, false, true, true, false, false, false, false] rfl rfl (any_of HT_.out (by kernel_rfl)) (fun _ _ _ h => h) (Or.inl ⟨by rfl, ?_⟩) ?_ ?_
        rotate_left
        ·intro w'
         go_simp
         with_reducible rfl
        rotate_left
        ·simp only [Act.put, List.setIfInBounds_toArray, List.set_cons_zero, List.set_cons_succ, i64_w, i32_w]
         rfl
        refine pure_ (i := 6) (N := some 25) (v := ?_) (a' := ?_) #[true, true, true, false, true, true, true, false, false, false] rfl rfl (any_of HT_.out (by kernel_rfl)) (fun _ _ _ h => h) (Or.inl ⟨by rfl, ?_⟩) ?_ ?_
        rotate_left
        ·intro w'
         go_simp
         with_reducible rfl
        rotate_left
        ·simp only [Act.put, List.setIfInBounds_toArray, List.set_cons_zero, List.set_cons_succ, i64_w, i32_w]
         rfl
        refine take_ (i := 3) (N := some 22) (v := ?_) (a' := ?_) #[true, true, true, true, true, true, true, false, false, false] rfl rfl (take_ofW HT_.out HW_.out (by kernel_rfl)) (fun _ _ _ h => h) (Or.inl ⟨by rfl, ?_⟩) hHeld ?_ ?_
        rotate_left
        ·intro w' s0
         go_simp
         with_reducible rfl
        rotate_left
        ·simp only [Act.put, List.setIfInBounds_toArray, List.set_cons_zero, List.set_cons_succ, i64_w, i32_w]
         rfl
        refine pure_ (i := 7) (N := some 26) (v := ?_) (a' := ?_) #[true, true, true, true, true, true, true, true, false, false] rfl rfl (any_of HT_.out (by kernel_rfl)) (fun _ _ _ h => h) (Or.inl ⟨by rfl, ?_⟩) ?_ ?_
        rotate_left
        ·intro w'
         go_simp
         with_reducible rfl
        rotate_left
        ·simp only [Act.put, List.setIfInBounds_toArray, List.set_cons_zero, List.set_cons_succ, i64_w, i32_w]
         rfl
        refine pure_ (i := 8) (N := some 27) (v := ?_) (a' := ?_) #[true, true, true, true, true, true, true, true, true, false] rfl rfl (any_of HT_.out (by kernel_rfl)) (fun _ _ _ h => h) (Or.inl ⟨by rfl, ?_⟩) ?_ ?_
        rotate_left
        ·intro w'
         go_simp
         with_reducible rfl
        rotate_left
        ·simp only [Act.put, List.setIfInBounds_toArray, List.set_cons_zero, List.set_cons_succ, i64_w, i32_w]
         rfl
        refine last_ (i := 9) (N := none) #[true, true, true, true, true, true, true, true, true, true] rfl rfl (one_of HT_.out (by kernel_rfl)) (by decide) (fun K hK => ?_)
        refine skip_ (w1 := ?_) (by rfl) rfl ?_ ?_
        rotate_left
        ·go_simp
         rfl
        refine hK.out _ _ ?_
        clear hK K
        refine done_ (done_of HT_.out (by kernel_rfl)) ?_
        try go_wp2
        go_roundg k1
        case measure => have := HK1.out; omega
        case rel => exact ⟨(y194), (wrap64 (x4_1 + 1)), (by first | rfl | (simp; done) | (simp [*]; done)), H', ⟨by have := HK1.out; omega⟩, ⟨by (with_reducible repeat (first | apply Kd.R_alloc | apply Kd.R_drewN | apply Kd.R_drew)); exact HQ17.out⟩, ⟨by repeat (first | (with_reducible first | exact HB.out | apply below_alloc | apply pw_below_drewN | apply below_drew1 | refine below_set ?_ GB12.out) | exact HB.out)⟩⟩
       ·rw [if_neg c10] at H
        exact absurd H (by simp)
      ·rw [if_neg c9] at H
       exact absurd H (by simp)
     ·rw [if_neg c7] at H
      exact absurd H (by simp)
    ·rw [if_neg c5] at H
     exact absurd H (by simp)
   ·rw [if_neg c4] at H
    have c4b0 : decide (x4_1 < a0) = false := decide_eq_false c4
    clear c4
    obtain rfl := Option.some.inj H
    go_wp2
    go_ret
    exact ⟨_, by first | rfl | (simp [errW_none, errW_some] <;> rfl) | (simp [*, errW_none, errW_some] <;> rfl), by (with_reducible repeat (first | apply Kd.R_alloc | apply Kd.R_drewN | apply Kd.R_drew)); exact HO_3.out, by repeat (first | (with_reducible first | exact HB.out | apply below_alloc | apply pw_below_drewN | apply below_drew1) | exact HB.out)⟩

end Go.Proofs.Ytmfpaagjllaljaa.P
end
section
namespace Go.Proofs.Ytmfpaagjllaljaa.P
open Go.RowKit Go.Proofs.YtmfpaagjllaljaaW.PrintWords Go.Proofs.YtmfpaagjllaljaaW.PrintLast Go.Proofs.YtmfpaagjllaljaaW.PrintMore
attribute [local go_sem] max2_int min2_int max_two min_two max_three min_three max_four min_four   -- for this text's walks alone
set_option linter.unusedVariables false
set_option linter.unusedSimpArgs false

/-! ### impl_ChainOf: function 31 -/
def impl_ChainOf.f (k : Nat) (a0 : Int) : Option (List Int) := (impl_within.f a0 1 6).bind fun t195 => (if t195 = true then ((impl_chain.f k a0).bind fun t196 => (some t196)) else (some ([] : List Int)))
theorem impl_ChainOf.mono : ∀ a0 k, LeO (impl_ChainOf.f k a0) (impl_ChainOf.f (k + 1) a0) := by
 intro a0 k
 unfold impl_ChainOf.f
 repeat' first
   | (with_reducible exact impl_chain.mono _ _)
   | (with_reducible exact LeO.refl _)
   | (with_reducible exact LeO.none _)
   | (with_reducible refine LeO.ite ?_ ?_)
   | (with_reducible refine LeO.bind ?_ (fun _ => ?_))
   | exact impl_chain.mono _ _
   | exact LeO.none _
   | refine LeO.ite ?_ ?_
   | refine LeO.bind ?_ (fun _ => ?_)
set_option maxHeartbeats 8000000 in
set_option maxRecDepth 100000 in
theorem impl_ChainOf.calls (k : Nat) (a0 : Int) (r : List Int) (w : World) (h : impl_ChainOf.f k a0 = some r) :
  Calls Try.prog 31 #[.int .i64 a0] w fun e w' => ∃ v0_ : Value, e = .returned (v0_) ∧ Kd.R (Kd.int .i64) 3 w' w.heap.size (fun _ => True) v0_ r ∧ Below w.heap.size w w' := by
 have HB := Aside0.mk (Below.refl w.heap.size w)
 have H : ((impl_within.f a0 1 6).bind fun t195 => (if t195 = true then ((impl_chain.f k a0).bind fun t196 => (some t196)) else (some ([] : List Int)))) = some r := h
 clear h
 replace H := Option.bind_eq_some_iff.mp H
 obtain ⟨t195, A20, H⟩ := H
 replace H : (if t195 = true then ((impl_chain.f k a0).bind fun t196 => (some t196)) else (some ([] : List Int))) = some r := H
 have A2 := Aside0.mk A20
 clear A20
 by_cases c3 : t195 = true
 ·subst c3
  have H1 : ((impl_chain.f k a0).bind fun t196 => (some t196)) = some r := by rw [if_pos rfl] at H; exact H
  clear H
  have H := H1
  clear H1
  replace H := Option.bind_eq_some_iff.mp H
  obtain ⟨t196, A40, H⟩ := H
  replace H : (some t196) = some r := H
  have A4 := Aside0.mk A40
  clear A40
  obtain rfl := Option.some.inj H
  go_enter Try.func31, Try.ntmps31
  go_wp2_with (first | ((with_reducible refine gate_callee (f := 76) rfl ?_); refine goesL_ (some 4) rfl rfl Try.func76 (by kernel_rfl) rfl #[.int .i64 a0, .int .i64 1, .int .i64 6] rfl (by (try simp only [List.map_toArray, List.map_cons, List.map_nil]); first | done | rfl | (simp only [List.length_drop, List.length_take]; rfl)) ?_; (with_reducible refine (impl_within.calls a0 1 6 true _ A2.out).mono ?_); rintro e w' ⟨rfl, ⟨nd, rfl⟩⟩; refine ⟨_, rfl, ?_⟩) | ((with_reducible refine gate_callee (f := 82) rfl ?_); refine goesL_ (some 7) rfl rfl Try.func82 (by kernel_rfl) rfl #[.int .i64 a0] rfl (by (try simp only [List.map_toArray, List.map_cons, List.map_nil]); first | done | rfl | (simp only [List.length_drop, List.length_take]; rfl)) ?_; (with_reducible refine (impl_chain.calls k a0 t196 _ A4.out).mono ?_); rintro e w5 ⟨v197, rfl, ho0, hb⟩; refine ⟨_, rfl, ?_⟩; have n0_ := Aside0.mk (Kd.R_lower ho0 (below_size (by repeat (first | (with_reducible first | exact HB.out | apply below_alloc | apply pw_below_drewN | apply below_drew1) | exact HB.out)))); have n1_ := Aside0.mk (below_step (by repeat (first | (with_reducible first | exact HB.out | apply below_alloc | apply pw_below_drewN | apply below_drew1) | exact HB.out)) hb); clear HB; have HO198 := n0_; have HB := n1_; clear n0_ n1_; (try clear hb); (try clear hb2); (try clear hk); (try clear hi); (try clear ho0)))
  go_ret
  exact ⟨_, by first | rfl | (simp [errW_none, errW_some] <;> rfl) | (simp [*, errW_none, errW_some] <;> rfl), by (with_reducible repeat (first | apply Kd.R_alloc | apply Kd.R_drewN | apply Kd.R_drew)); exact HO198.out, by repeat (first | (with_reducible first | exact HB.out | apply below_alloc | apply pw_below_drewN | apply below_drew1) | exact HB.out)⟩
 ·replace c3 := Bool.eq_false_iff.mpr c3
  subst c3
  have H1 : (some ([] : List Int)) = some r := by rw [if_neg (show ¬ (false = true) by decide)] at H; exact H
  clear H
  have H := H1
  clear H1
  obtain rfl := Option.some.inj H
  go_enter Try.func31, Try.ntmps31
  go_wp2_with (first | ((with_reducible refine gate_callee (f := 76) rfl ?_); refine goesL_ (some 4) rfl rfl Try.func76 (by kernel_rfl) rfl #[.int .i64 a0, .int .i64 1, .int .i64 6] rfl (by (try simp only [List.map_toArray, List.map_cons, List.map_nil]); first | done | rfl | (simp only [List.length_drop, List.length_take]; rfl)) ?_; (with_reducible refine (impl_within.calls a0 1 6 false _ A2.out).mono ?_); rintro e w' ⟨rfl, ⟨nd, rfl⟩⟩; refine ⟨_, rfl, ?_⟩))
  go_ret
  exact ⟨_, by first | rfl | (simp [errW_none, errW_some] <;> rfl) | (simp [*, errW_none, errW_some] <;> rfl), by first | exact Kd.R_nil _ _ _ _ _ | exact Kd.N_nil _ _ _ _ _ | exact Kd.V_nil _ _ _ _ _ | exact Kd.Q_nil _ _ _ _ _ | exact Kd.S_nil _ _ _ _ _, by repeat (first | (with_reducible first | exact HB.out | apply below_alloc | apply pw_below_drewN | apply below_drew1) | exact HB.out)⟩

/-! ### laws_equalInts: function 32 -/
def laws_equalInts.l0 : Nat → List Int → List Int → Int → Option (Bool)
 | 0, _, _, _ => none
 | k + 1, x0, x1, x5 => if x5 < (x0.length : Int) then (if 0 ≤ x5 then (if x5 < (x1.length : Int) then (if (rd x0 x5) = (rd x1 x5) then (laws_equalInts.l0 k x0 x1 (wrap64 (x5 + 1))) else (some false)) else (none)) else (none)) else (some true)
def laws_equalInts.f (k : Nat) (l0 : List Int) (l1 : List Int) : Option (Bool) := if (l0.length : Int) = (l1.length : Int) then (laws_equalInts.l0 k l0 l1 0) else (some false)
set_option maxHeartbeats 8000000 in
set_option maxRecDepth 100000 in
theorem laws_equalInts.calls (k : Nat) (A0 : Option Addr) (c0 : Nat) (l0 : List Int) (A1 : Option Addr) (c1 : Nat) (l1 : List Int) (r : Bool) (w : World) (hr0 : Kd.C (Kd.int .i64) w A0 l0.length l0) (hc0 : l0.length ≤ c0) (hr1 : Kd.C (Kd.int .i64) w A1 l1.length l1) (hc1 : l1.length ≤ c1) (h : laws_equalInts.f k l0 l1 = some r) :
  Calls Try.prog 32 #[.slice A0 l0.length c0, .slice A1 l1.length c1] w fun e w' => e = .returned (.bool r) ∧ Drawn0 w w' := by
 have HR0 := Aside0.mk hr0
 have HC0 := Aside0.mk hc0
 clear hr0 hc0
 have HR1 := Aside0.mk hr1
 have HC1 := Aside0.mk hc1
 clear hr1 hc1
 have H : (if (l0.length : Int) = (l1.length : Int) then (laws_equalInts.l0 k l0 l1 0) else (some false)) = some r := h
 clear h
 by_cases c3 : (l0.length : Int) = (l1.length : Int)
 ·rw [if_pos c3] at H
  have c3b0 : ((l0.length : Int) == (l1.length : Int)) = true := beq_iff_eq.mpr c3
  have c3b1 : ((l0.length : Int) != (l1.length : Int)) = false := bne_eq_false_iff_eq.mpr c3
  have c3b2 : (l0.length == l1.length) = true := by first | simpa using c3 | (simp at c3 ⊢; omega)
  clear c3
  have H' := Aside0.mk H
  clear H
  go_enter Try.func32, Try.ntmps32
  go_wp2
  repeat (go_quiet (fail); try go_wp2)
  go_loopg [5] k (fun kq v5 w' => ∃ (x5_1 : Int), v5 = .int .i64 x5_1 ∧ Aside0 (laws_equalInts.l0 kq l0 l1 x5_1 = some r) ∧ Aside0 (kq ≤ k) ∧ Drawn0 w w')
  case atStart => exact ⟨(0), (by first | rfl | (simp; done) | (simp [*]; done)), H', ⟨Nat.le_refl _⟩, by repeat (first | exact Drawn0.refl _ | apply Drawn0.step)⟩
  case round =>
   clear H'
   try clear c1
   try clear p2
   try clear c3
   try clear c3b0
   try clear c3b1
   try clear c3b2
   obtain ⟨x5_1, rfl, HA, HK1, ⟨m1, rfl⟩⟩ := hrel
   cases gk with
   | zero => exact absurd HA.out (by simp [laws_equalInts.l0])
   | succ k1 =>
    have H := HA.out
    clear HA
    simp only [laws_equalInts.l0] at H
    by_cases c4 : x5_1 < (l0.length : Int)
    ·rw [if_pos c4] at H
     have c4b0 : decide (x5_1 < (l0.length : Int)) = true := decide_eq_true c4
     clear c4
     by_cases c5 : 0 ≤ x5_1
     ·rw [if_pos c5] at H
      have c5b0 : decide (0 ≤ x5_1) = true := decide_eq_true c5
      clear c5
      by_cases c6 : x5_1 < (l1.length : Int)
      ·rw [if_pos c6] at H
       have c6b0 : decide (x5_1 < (l1.length : Int)) = true := decide_eq_true c6
       clear c6
       by_cases c7 : (rd l0 x5_1) = (rd l1 x5_1)
       ·rw [if_pos c7] at H
        have c7b0 : ((rd l0 x5_1) == (rd l1 x5_1)) = true := beq_iff_eq.mpr c7
        have c7b1 : ((rd l0 x5_1) != (rd l1 x5_1)) = false := bne_eq_false_iff_eq.mpr c7
        clear c7
        have H' := Aside0.mk H
        clear H
        have p199 : 0 ≤ (x5_1 : Int) := of_decide_eq_true (by first | (with_reducible assumption) | assumption)
        have q199 : x5_1 < (l0.length : Int) := of_decide_eq_true (by first | (with_reducible assumption) | assumption)
        obtain ⟨ad199, e199, hx199_0⟩ := Kd.at_int HR0.out x5_1 p199 q199
        cases e199
        replace p199 := eq_true p199
        replace q199 := eq_true q199
        have p200 : 0 ≤ (x5_1 : Int) := of_decide_eq_true (by first | (with_reducible assumption) | assumption)
        have q200 : x5_1 < (l1.length : Int) := of_decide_eq_true (by first | (with_reducible assumption) | assumption)
        obtain ⟨ad200, e200, hx200_0⟩ := Kd.at_int HR1.out x5_1 p200 q200
        cases e200
        replace p200 := eq_true p200
        replace q200 := eq_true q200
        go_wp2
        repeat (go_quiet (fail); try go_wp2)
        go_roundg k1
        case measure => have := HK1.out; omega
        case rel => exact ⟨(wrap64 (x5_1 + 1)), (by first | rfl | (simp; done) | (simp [*]; done)), H', ⟨by have := HK1.out; omega⟩, by repeat (first | exact Drawn0.refl _ | apply Drawn0.step)⟩
       ·rw [if_neg c7] at H
        have c7b0 : ((rd l0 x5_1) == (rd l1 x5_1)) = false := beq_eq_false_iff_ne.mpr c7
        have c7b1 : ((rd l0 x5_1) != (rd l1 x5_1)) = true := bne_iff_ne.mpr c7
        obtain rfl := Option.some.inj H
        have p199 : 0 ≤ (x5_1 : Int) := of_decide_eq_true (by first | (with_reducible assumption) | assumption)
        have q199 : x5_1 < (l0.length : Int) := of_decide_eq_true (by first | (with_reducible assumption) | assumption)
        obtain ⟨ad199, e199, hx199_0⟩ := Kd.at_int HR0.out x5_1 p199 q199
        cases e199
        replace p199 := eq_true p199
        replace q199 := eq_true q199
        have p200 : 0 ≤ (x5_1 : Int) := of_decide_eq_true (by first | (with_reducible assumption) | assumption)
        have q200 : x5_1 < (l1.length : Int) := of_decide_eq_true (by first | (with_reducible assumption) | assumption)
        obtain ⟨ad200, e200, hx200_0⟩ := Kd.at_int HR1.out x5_1 p200 q200
        cases e200
        replace p200 := eq_true p200
        replace q200 := eq_true q200
        go_wp2
        repeat (go_quiet (fail); try go_wp2)
        go_ret
        exact ⟨by first | rfl | (simp; done) | (simp [*]; done), by repeat (first | exact Drawn0.refl _ | apply Drawn0.step)⟩
      ·rw [if_neg c6] at H
       exact absurd H (by simp)
     ·rw [if_neg c5] at H
      exact absurd H (by simp)
    ·rw [if_neg c4] at H
     have c4b0 : decide (x5_1 < (l0.length : Int)) = false := decide_eq_false c4
     clear c4
     obtain rfl := Option.some.inj H
     go_wp2
     repeat (go_quiet (fail); try go_wp2)
     go_ret
     exact ⟨by first | rfl | (simp; done) | (simp [*]; done), by repeat (first | exact Drawn0.refl _ | apply Drawn0.step)⟩
 ·rw [if_neg c3] at H
  have c3b0 : ((l0.length : Int) == (l1.length : Int)) = false := beq_eq_false_iff_ne.mpr c3
  have c3b1 : ((l0.length : Int) != (l1.length : Int)) = true := bne_iff_ne.mpr c3
  have c3b2 : (l0.length == l1.length) = false := by first | simpa using c3 | (simp at c3 ⊢; omega)
  obtain rfl := Option.some.inj H
  go_enter Try.func32, Try.ntmps32
  go_wp2
  repeat (go_quiet (fail); try go_wp2)
  go_ret
  exact ⟨by first | rfl | (simp; done) | (simp [*]; done), by repeat (first | exact Drawn0.refl _ | apply Drawn0.step)⟩

end Go.Proofs.Ytmfpaagjllaljaa.P
end
section
namespace Go.Proofs.Ytmfpaagjllaljaa.P
open Go.RowKit Go.Proofs.YtmfpaagjllaljaaW.PrintWords Go.Proofs.YtmfpaagjllaljaaW.PrintLast Go.Proofs.YtmfpaagjllaljaaW.PrintMore
attribute [local go_sem] max2_int min2_int max_two min_two max_three min_three max_four min_four   -- for this text's walks alone
set_option linter.unusedVariables false
set_option linter.unusedSimpArgs false

/-! ### laws_holdsList: function 62 -/
def laws_holdsList.l0 : Nat → List (List Int) → List Int → Int → Option (Bool)
 | 0, _, _, _ => none
 | k + 1, x0, x1, x5 => if x5 < (x0.length : Int) then (if 0 ≤ x5 then ((laws_equalInts.f k (rd_L2 x0 x5) x1).bind fun t758 => (if t758 = true then (some true) else (laws_holdsList.l0 k x0 x1 (wrap64 (x5 + 1))))) else (none)) else (some false)
def laws_holdsList.f (k : Nat) (l0 : List (List Int)) (l1 : List Int) : Option (Bool) := laws_holdsList.l0 k l0 l1 0
set_option maxHeartbeats 8000000 in
set_option maxRecDepth 100000 in
theorem laws_holdsList.calls (k : Nat) (A0 : Option Addr) (c0 : Nat) (l0 : List (List Int)) (A1 : Option Addr) (c1 : Nat) (l1 : List Int) (r : Bool) (w : World) (hr0 : Kd.C (Kd.slice 3 (Kd.int .i64)) w A0 l0.length l0) (hc0 : l0.length ≤ c0) (hr1 : Kd.C (Kd.int .i64) w A1 l1.length l1) (hc1 : l1.length ≤ c1) (h : laws_holdsList.f k l0 l1 = some r) :
  Calls Try.prog 62 #[.slice A0 l0.length c0, .slice A1 l1.length c1] w fun e w' => e = .returned (.bool r) ∧ Drawn0 w w' := by
 have HR0 := Aside0.mk hr0
 have HC0 := Aside0.mk hc0
 clear hr0 hc0
 have HR1 := Aside0.mk hr1
 have HC1 := Aside0.mk hc1
 clear hr1 hc1
 have H : (laws_holdsList.l0 k l0 l1 0) = some r := h
 clear h
 have H' := Aside0.mk H
 clear H
 go_enter Try.func62, Try.ntmps62
 go_wp2
 go_loopg [5] k (fun kq v5 w' => ∃ (x5_1 : Int), v5 = .int .i64 x5_1 ∧ Aside0 (laws_holdsList.l0 kq l0 l1 x5_1 = some r) ∧ Aside0 (kq ≤ k) ∧ Drawn0 w w')
 case atStart => exact ⟨(0), (by first | rfl | (simp; done) | (simp [*]; done)), H', ⟨Nat.le_refl _⟩, by repeat (first | exact Drawn0.refl _ | apply Drawn0.step)⟩
 case round =>
  clear H'
  try clear c1
  try clear p2
  obtain ⟨x5_1, rfl, HA, HK1, ⟨m1, rfl⟩⟩ := hrel
  cases gk with
  | zero => exact absurd HA.out (by simp [laws_holdsList.l0])
  | succ k1 =>
   have H := HA.out
   clear HA
   simp only [laws_holdsList.l0] at H
   by_cases c3 : x5_1 < (l0.length : Int)
   ·rw [if_pos c3] at H
    have c3b0 : decide (x5_1 < (l0.length : Int)) = true := decide_eq_true c3
    clear c3
    by_cases c4 : 0 ≤ x5_1
    ·rw [if_pos c4] at H
     have c4b0 : decide (0 ≤ x5_1) = true := decide_eq_true c4
     clear c4
     replace H := Option.bind_eq_some_iff.mp H
     obtain ⟨t758, A50, H⟩ := H
     replace H : (if t758 = true then (some true) else (laws_holdsList.l0 k1 l0 l1 (wrap64 (x5_1 + 1)))) = some r := H
     have A5 := Aside0.mk A50
     clear A50
     by_cases c6 : t758 = true
     ·subst c6
      have H1 : (some true) = some r := by rw [if_pos rfl] at H; exact H
      clear H
      have H := H1
      clear H1
      obtain rfl := Option.some.inj H
      have p757 : 0 ≤ (x5_1 : Int) := of_decide_eq_true (by first | (with_reducible assumption) | assumption)
      have q757 : x5_1 < (l0.length : Int) := of_decide_eq_true (by first | (with_reducible assumption) | assumption)
      obtain ⟨ad757, A757_0, c757_0, e757, hx757_0, hl757_0, hi757_0⟩ := at_L2 HR0.out x5_1 p757 q757
      cases e757
      have HR757_0 := Aside0.mk hi757_0
      have HC757_0 := Aside0.mk hl757_0
      clear hi757_0 hl757_0
      replace p757 := eq_true p757
      replace q757 := eq_true q757
      go_wp2_with (first | ((with_reducible refine gate_callee (f := 32) rfl ?_); refine goesL_ (some 17) rfl rfl Try.func32 (by kernel_rfl) rfl #[.slice A757_0 (rd_L2 l0 x5_1).length c757_0, .slice A1 l1.length c1] rfl (by (try simp only [List.map_toArray, List.map_cons, List.map_nil]); first | done | rfl | (simp only [List.length_drop, List.length_take]; rfl)) ?_; (with_reducible refine (laws_equalInts.calls k1 _ _ (rd_L2 l0 x5_1) _ _ l1 true _ ?side1 ?side2 ?side3 ?side4 A5.out).mono ?_); (case side1 => repeat (first | exact HR757_0.out | (with_reducible refine Kd.C_alloc ?_ _) | (with_reducible refine Kd.C_drewN ?_ _) | (with_reducible refine Kd.C_drew ?_))); (case side2 => exact HC757_0.out); (case side3 => repeat (first | exact HR1.out | (with_reducible refine Kd.C_alloc ?_ _) | (with_reducible refine Kd.C_drewN ?_ _) | (with_reducible refine Kd.C_drew ?_))); (case side4 => exact HC1.out); rintro e w' ⟨rfl, ⟨nd, rfl⟩⟩; refine ⟨_, rfl, ?_⟩))
      go_ret
      exact ⟨by first | rfl | (simp; done) | (simp [*]; done), by repeat (first | exact Drawn0.refl _ | apply Drawn0.step)⟩
     ·replace c6 := Bool.eq_false_iff.mpr c6
      subst c6
      have H1 : (laws_holdsList.l0 k1 l0 l1 (wrap64 (x5_1 + 1))) = some r := by rw [if_neg (show ¬ (false = true) by decide)] at H; exact H
      clear H
      have H := H1
      clear H1
      have H' := Aside0.mk H
      clear H
      have p757 : 0 ≤ (x5_1 : Int) := of_decide_eq_true (by first | (with_reducible assumption) | assumption)
      have q757 : x5_1 < (l0.length : Int) := of_decide_eq_true (by first | (with_reducible assumption) | assumption)
      obtain ⟨ad757, A757_0, c757_0, e757, hx757_0, hl757_0, hi757_0⟩ := at_L2 HR0.out x5_1 p757 q757
      cases e757
      have HR757_0 := Aside0.mk hi757_0
      have HC757_0 := Aside0.mk hl757_0
      clear hi757_0 hl757_0
      replace p757 := eq_true p757
      replace q757 := eq_true q757
      go_wp2_with (first | ((with_reducible refine gate_callee (f := 32) rfl ?_); refine goesL_ (some 17) rfl rfl Try.func32 (by kernel_rfl) rfl #[.slice A757_0 (rd_L2 l0 x5_1).length c757_0, .slice A1 l1.length c1] rfl (by (try simp only [List.map_toArray, List.map_cons, List.map_nil]); first | done | rfl | (simp only [List.length_drop, List.length_take]; rfl)) ?_; (with_reducible refine (laws_equalInts.calls k1 _ _ (rd_L2 l0 x5_1) _ _ l1 false _ ?side1 ?side2 ?side3 ?side4 A5.out).mono ?_); (case side1 => repeat (first | exact HR757_0.out | (with_reducible refine Kd.C_alloc ?_ _) | (with_reducible refine Kd.C_drewN ?_ _) | (with_reducible refine Kd.C_drew ?_))); (case side2 => exact HC757_0.out); (case side3 => repeat (first | exact HR1.out | (with_reducible refine Kd.C_alloc ?_ _) | (with_reducible refine Kd.C_drewN ?_ _) | (with_reducible refine Kd.C_drew ?_))); (case side4 => exact HC1.out); rintro e w' ⟨rfl, ⟨nd, rfl⟩⟩; refine ⟨_, rfl, ?_⟩))
      go_roundg k1
      case measure => have := HK1.out; omega
      case rel => exact ⟨(wrap64 (x5_1 + 1)), (by first | rfl | (simp; done) | (simp [*]; done)), H', ⟨by have := HK1.out; omega⟩, by repeat (first | exact Drawn0.refl _ | apply Drawn0.step)⟩
    ·rw [if_neg c4] at H
     exact absurd H (by simp)
   ·rw [if_neg c3] at H
    have c3b0 : decide (x5_1 < (l0.length : Int)) = false := decide_eq_false c3
    clear c3
    obtain rfl := Option.some.inj H
    go_wp2
    go_ret
    exact ⟨by first | rfl | (simp; done) | (simp [*]; done), by repeat (first | exact Drawn0.refl _ | apply Drawn0.step)⟩

-- NOT PRINTED: function 16 (laws_FnAllLattices)

/-! ### spec_element: function 100 -/
def spec_element.f (k : Nat) (s0_0 : List Int) (s0_1 : Int) (a1 : Int) : Option (Int × Int) := (spec_reader_pick.f k s0_0 s0_1 24).bind fun bt760 => (if bt760.1 = 0 then ((spec_reader_one.f k s0_0 bt760.2 (([(-1), a1, 6] : List Int))).bind fun bt765 => (some (bt765.1, bt765.2))) else ((spec_reader_pick.f k s0_0 bt760.2 a1).bind fun bt767 => (some (bt767.1, bt767.2))))
set_option maxHeartbeats 8000000 in
set_option maxRecDepth 100000 in
theorem spec_element.calls (k : Nat) (g : Nat) (s0_0 : List Int) (s0_1 : Int) (a1 : Int) (r1 : Int) (r2 : Int) (w0 w : World) (hI : IsS66 w0 w g s0_0 s0_1) (hB : Below w0.heap.size w0 w) (h : spec_element.f k s0_0 s0_1 a1 = some (r1, r2)) :
  Calls Try.prog 100 #[.pointer (some ⟨g, 0, none⟩), .int .i64 a1] w fun e w' => e = .returned (.int .i64 r1) ∧ IsS66 w0 w' g s0_0 r2 ∧ Below w0.heap.size w0 w' ∧ KeepBut w w' g none := by
 have HI0 := Aside0.mk hI
 have HK := Aside0.mk (KeepBut.refl w g none)
 have HL := Aside0.mk hB.size
 clear hI
 have HW0 := Aside0.mk hB.size
 have HB := Aside0.mk hB
 clear hB
 have H : ((spec_reader_pick.f k s0_0 s0_1 24).bind fun bt760 => (if bt760.1 = 0 then ((spec_reader_one.f k s0_0 bt760.2 (([(-1), a1, 6] : List Int))).bind fun bt765 => (some (bt765.1, bt765.2))) else ((spec_reader_pick.f k s0_0 bt760.2 a1).bind fun bt767 => (some (bt767.1, bt767.2))))) = some (r1, r2) := h
 clear h
 replace H := Option.bind_eq_some_iff.mp H
 obtain ⟨⟨t760, t761⟩, A30, H⟩ := H
 replace H : (if t760 = 0 then ((spec_reader_one.f k s0_0 t761 (([(-1), a1, 6] : List Int))).bind fun bt765 => (some (bt765.1, bt765.2))) else ((spec_reader_pick.f k s0_0 t761 a1).bind fun bt767 => (some (bt767.1, bt767.2)))) = some (r1, r2) := H
 have A3 := Aside0.mk A30
 clear A30
 by_cases c4 : t760 = 0
 ·rw [if_pos c4] at H
  have c4b0 : (t760 == 0) = true := beq_iff_eq.mpr c4
  have c4b1 : (t760 != 0) = false := bne_eq_false_iff_eq.mpr c4
  clear c4
  obtain ⟨y762, hy762⟩ : ∃ y_ : List Int, y_ = (([(-1), a1, 6] : List Int)) := ⟨_, rfl⟩
  replace H : ((spec_reader_one.f k s0_0 t761 y762).bind fun bt765 => (some (bt765.1, bt765.2))) = some (r1, r2) := by first | (rw [hy762]; with_reducible exact H) | (have H2_ := (Option.bind_some _ _).symm.trans H; rw [hy762]; with_reducible exact H2_) | (have H2_ := (Option.bind_some _ _).symm.trans H; with_reducible exact H2_) | with_reducible exact H | (rw [hy762]; exact H) | exact H
  have Ny762 := Aside0.mk hy762
  clear hy762
  replace H := Option.bind_eq_some_iff.mp H
  obtain ⟨⟨t765, t766⟩, A50, H⟩ := H
  replace H : (some (t765, t766)) = some (r1, r2) := H
  have A5 := Aside0.mk A50
  clear A50
  simp only [Option.some.injEq, Prod.mk.injEq] at H
  obtain ⟨rfl, rfl⟩ := H
  go_enter Try.func100, Try.ntmps100
  go_wp2_with (first | ((with_reducible refine gate_callee (f := 101) rfl ?_); refine goesL_ (some 6) rfl rfl Try.func101 (by kernel_rfl) rfl #[.pointer (some ⟨g, 0, none⟩), .int .i64 24] rfl (by (try simp only [List.map_toArray, List.map_cons, List.map_nil]); first | done | rfl | (simp only [List.length_drop, List.length_take]; rfl)) ?_; (with_reducible refine (spec_reader_pick.calls k g s0_0 s0_1 24 t760 t761 w0 _ ?side1 ?side2 A3.out).mono ?_); (case side1 => repeat (first | (with_reducible first | exact HI0.out | apply IsS66.alloc | apply IsS66.drewN | apply IsS66.drew | apply IsS66.set_1) | exact HI0.out)); (case side2 => repeat (first | (with_reducible first | exact HB.out | apply below_alloc | apply pw_below_drewN | apply below_drew1 | refine below_set ?_ (IsS66.ge HI0.out)) | exact HB.out)); rintro e w6 ⟨rfl, hi, hb, hk⟩; refine ⟨_, rfl, ?_⟩; have n0_ := Aside0.mk (KeepBut.trans (by repeat (first | (with_reducible first | exact HK.out | apply KeepBut.set_ | apply keep_drewN | apply keep_drew | apply keep_alloc) | exact HK.out)) hk (.inl rfl)); have n1_ := Aside0.mk (hb); have n2_ := Aside0.mk (hi); clear HK; clear HB; clear HI0; have HK := n0_; have HB := n1_; have HI0 := n2_; clear n0_ n1_ n2_; (try clear hb); (try clear hb2); (try clear hk); (try clear hi)) | ((with_reducible refine gate_dst (N := 10) rfl ?_); refine Kd.R_lit (Kd.int .i64) _ 3 ?hg (N := 10) ?hd (xs := ([(-1), a1, 6] : List Int)) (inner := [.int .i64 (-1), .int .i64 a1, .int .i64 6]) (ok := fun _ => True) (okp := fun _ => True) ?hr ?hp (fun _ hk => hk) trivial (Below.refl _ _) (Nat.le_refl _) (by simp) ?_; (case hd => rfl); (case hg => rfl); (case hr => first | (go_simp; done) | (go_simp; rfl)); (case hp => exact (Reps.one (show Kd.M (Kd.int .i64) _ _ _ (-1) [.int .i64 (-1)] from rfl) (Reps.one (show Kd.M (Kd.int .i64) _ _ _ a1 [.int .i64 a1] from rfl) (Reps.one (show Kd.M (Kd.int .i64) _ _ _ 6 [.int .i64 6] from rfl) (Reps.none _ _))))); intro v763 w7 ho8 hb hg_ hnew_; clear hg_ hnew_; (first | rw [← Ny762.out] at ho8 | (simp only [Int.reduceToNat] at ho8; rw [← Ny762.out] at ho8)); have n0_ := Aside0.mk (Kd.R_lower ho8 (keep_size (w := w) (g := g) (row := none) (by repeat (first | (with_reducible first | exact HK.out | apply KeepBut.set_ | apply keep_drewN | apply keep_drew | apply keep_alloc) | exact HK.out)))); have n1_ := Aside0.mk (IsS66.below (by repeat (first | (with_reducible first | exact HI0.out | apply IsS66.alloc | apply IsS66.drewN | apply IsS66.drew | apply IsS66.set_1) | exact HI0.out)) hb); have n2_ := Aside0.mk (KeepBut.trans (by repeat (first | (with_reducible first | exact HK.out | apply KeepBut.set_ | apply keep_drewN | apply keep_drew | apply keep_alloc) | exact HK.out)) (KeepBut.of_below hb g none) (.inl rfl)); have n3_ := Aside0.mk (below_step (by repeat (first | (with_reducible first | exact HB.out | apply below_alloc | apply pw_below_drewN | apply below_drew1 | refine below_set ?_ (IsS66.ge HI0.out)) | exact HB.out)) hb); clear HI0; clear HK; clear HB; have HO764 := n0_; have HI0 := n1_; have HK := n2_; have HB := n3_; clear n0_ n1_ n2_ n3_; clear hb ho8; obtain ⟨Ao9, co9, eo9⟩ := Kd.R_slice HO764.out; subst eo9) | ((with_reducible refine gate_callee (f := 81) rfl ?_); refine goesL_ (some 11) rfl rfl Try.func81 (by kernel_rfl) rfl #[.pointer (some ⟨g, 0, none⟩), .slice Ao9 y762.length co9] rfl (by (try simp only [List.map_toArray, List.map_cons, List.map_nil]); first | done | rfl | (simp only [List.length_drop, List.length_take]; rfl)) ?_; (with_reducible refine (spec_reader_one.calls k g s0_0 t761 _ _ y762 t765 t766 w0 _ ?side1 ?side2 ?side3 ?side4 ?side5 A5.out).mono ?_); (case side1 => repeat (first | (with_reducible first | exact HI0.out | apply IsS66.alloc | apply IsS66.drewN | apply IsS66.drew | apply IsS66.set_1) | exact HI0.out)); (case side2 => repeat (first | (with_reducible first | exact HB.out | apply below_alloc | apply pw_below_drewN | apply below_drew1 | refine below_set ?_ (IsS66.ge HI0.out)) | exact HB.out)); (case side3 => repeat (first | exact (Kd.R_reads' HO764.out).2.2 | (with_reducible refine Kd.C_alloc ?_ _) | (with_reducible refine Kd.C_drewN ?_ _) | (with_reducible refine Kd.C_drew ?_))); (case side4 => exact (Kd.R_reads' HO764.out).2.1); (case side5 => exact far_slice (IsS66.own_ne HI0.out HO764.out (by decide))); rintro e w10 ⟨rfl, hi, hb, hk⟩; refine ⟨_, rfl, ?_⟩; have n0_ := Aside0.mk (Kd.R_mono (Kd.R_keep (IsS66.apart (show IsS66 w0 _ g s0_0 t761 from by repeat (first | (with_reducible first | exact HI0.out | apply IsS66.alloc | apply IsS66.drewN | apply IsS66.drew | apply IsS66.set_1) | exact HI0.out)) (by (with_reducible repeat (first | apply Kd.R_alloc | apply Kd.R_drewN | apply Kd.R_drew)); exact HO764.out) (by decide)) hk (fun _ h => h.2)) (fun _ h => h.1)); have n1_ := Aside0.mk (KeepBut.trans (by repeat (first | (with_reducible first | exact HK.out | apply KeepBut.set_ | apply keep_drewN | apply keep_drew | apply keep_alloc) | exact HK.out)) hk (.inl rfl)); have n2_ := Aside0.mk (hb); have n3_ := Aside0.mk (hi); clear HO764; clear HK; clear HB; clear HI0; have HO764 := n0_; have HK := n1_; have HB := n2_; have HI0 := n3_; clear n0_ n1_ n2_ n3_; (try clear hb); (try clear hb2); (try clear hk); (try clear hi)))
  go_ret
  exact ⟨by first | rfl | (simp [errW_none, errW_some] <;> rfl) | (simp [*, errW_none, errW_some] <;> rfl), by repeat (first | (with_reducible first | exact HI0.out | apply IsS66.alloc | apply IsS66.drewN | apply IsS66.drew | apply IsS66.set_1) | exact HI0.out), by repeat (first | (with_reducible first | exact HB.out | apply below_alloc | apply pw_below_drewN | apply below_drew1 | refine below_set ?_ (IsS66.ge HI0.out)) | exact HB.out), by repeat (first | (with_reducible first | exact HK.out | apply KeepBut.set_ | apply keep_drewN | apply keep_drew | apply keep_alloc) | exact HK.out)⟩
 ·rw [if_neg c4] at H
  have c4b0 : (t760 == 0) = false := beq_eq_false_iff_ne.mpr c4
  have c4b1 : (t760 != 0) = true := bne_iff_ne.mpr c4
  replace H := Option.bind_eq_some_iff.mp H
  obtain ⟨⟨t767, t768⟩, A110, H⟩ := H
  replace H : (some (t767, t768)) = some (r1, r2) := H
  have A11 := Aside0.mk A110
  clear A110
  simp only [Option.some.injEq, Prod.mk.injEq] at H
  obtain ⟨rfl, rfl⟩ := H
  go_enter Try.func100, Try.ntmps100
  go_wp2_with (first | ((with_reducible refine gate_callee (f := 101) rfl ?_); refine goesL_ (some 6) rfl rfl Try.func101 (by kernel_rfl) rfl #[.pointer (some ⟨g, 0, none⟩), .int .i64 24] rfl (by (try simp only [List.map_toArray, List.map_cons, List.map_nil]); first | done | rfl | (simp only [List.length_drop, List.length_take]; rfl)) ?_; (with_reducible refine (spec_reader_pick.calls k g s0_0 s0_1 24 t760 t761 w0 _ ?side1 ?side2 A3.out).mono ?_); (case side1 => repeat (first | (with_reducible first | exact HI0.out | apply IsS66.alloc | apply IsS66.drewN | apply IsS66.drew | apply IsS66.set_1) | exact HI0.out)); (case side2 => repeat (first | (with_reducible first | exact HB.out | apply below_alloc | apply pw_below_drewN | apply below_drew1 | refine below_set ?_ (IsS66.ge HI0.out)) | exact HB.out)); rintro e w12 ⟨rfl, hi, hb, hk⟩; refine ⟨_, rfl, ?_⟩; have n0_ := Aside0.mk (KeepBut.trans (by repeat (first | (with_reducible first | exact HK.out | apply KeepBut.set_ | apply keep_drewN | apply keep_drew | apply keep_alloc) | exact HK.out)) hk (.inl rfl)); have n1_ := Aside0.mk (hb); have n2_ := Aside0.mk (hi); clear HK; clear HB; clear HI0; have HK := n0_; have HB := n1_; have HI0 := n2_; clear n0_ n1_ n2_; (try clear hb); (try clear hb2); (try clear hk); (try clear hi)) | ((with_reducible refine gate_callee (f := 101) rfl ?_); refine goesL_ (some 14) rfl rfl Try.func101 (by kernel_rfl) rfl #[.pointer (some ⟨g, 0, none⟩), .int .i64 a1] rfl (by (try simp only [List.map_toArray, List.map_cons, List.map_nil]); first | done | rfl | (simp only [List.length_drop, List.length_take]; rfl)) ?_; (with_reducible refine (spec_reader_pick.calls k g s0_0 t761 a1 t767 t768 w0 _ ?side1 ?side2 A11.out).mono ?_); (case side1 => repeat (first | (with_reducible first | exact HI0.out | apply IsS66.alloc | apply IsS66.drewN | apply IsS66.drew | apply IsS66.set_1) | exact HI0.out)); (case side2 => repeat (first | (with_reducible first | exact HB.out | apply below_alloc | apply pw_below_drewN | apply below_drew1 | refine below_set ?_ (IsS66.ge HI0.out)) | exact HB.out)); rintro e w13 ⟨rfl, hi, hb, hk⟩; refine ⟨_, rfl, ?_⟩; have n0_ := Aside0.mk (KeepBut.trans (by repeat (first | (with_reducible first | exact HK.out | apply KeepBut.set_ | apply keep_drewN | apply keep_drew | apply keep_alloc) | exact HK.out)) hk (.inl rfl)); have n1_ := Aside0.mk (hb); have n2_ := Aside0.mk (hi); clear HK; clear HB; clear HI0; have HK := n0_; have HB := n1_; have HI0 := n2_; clear n0_ n1_ n2_; (try clear hb); (try clear hb2); (try clear hk); (try clear hi)))
  go_ret
  exact ⟨by first | rfl | (simp [errW_none, errW_some] <;> rfl) | (simp [*, errW_none, errW_some] <;> rfl), by repeat (first | (with_reducible first | exact HI0.out | apply IsS66.alloc | apply IsS66.drewN | apply IsS66.drew | apply IsS66.set_1) | exact HI0.out), by repeat (first | (with_reducible first | exact HB.out | apply below_alloc | apply pw_below_drewN | apply below_drew1 | refine below_set ?_ (IsS66.ge HI0.out)) | exact HB.out), by repeat (first | (with_reducible first | exact HK.out | apply KeepBut.set_ | apply keep_drewN | apply keep_drew | apply keep_alloc) | exact HK.out)⟩

end Go.Proofs.Ytmfpaagjllaljaa.P
end
section
namespace Go.Proofs.Ytmfpaagjllaljaa.P
open Go.RowKit Go.Proofs.YtmfpaagjllaljaaW.PrintWords Go.Proofs.YtmfpaagjllaljaaW.PrintLast Go.Proofs.YtmfpaagjllaljaaW.PrintMore
attribute [local go_sem] max2_int min2_int max_two min_two max_three min_three max_four min_four   -- for this text's walks alone
set_option linter.unusedVariables false
set_option linter.unusedSimpArgs false

/-! ### impl_TurnedLattice: function 36 -/
mutual
def impl_TurnedLattice.l0 : Nat → List Int → Int → List Int → Int → Int → Option (List Int)
 | 0, _, _, _, _, _ => none
 | k + 1, x0, x3, x4, x17, x18 => if x18 < x17 then (impl_TurnedLattice.l1 k x0 x3 x4 x18 x17 x18 (x0.length : Int) 0) else (some x4)
def impl_TurnedLattice.l1 : Nat → List Int → Int → List Int → Int → Int → Int → Int → Int → Option (List Int)
 | 0, _, _, _, _, _, _, _, _ => none
 | k + 1, x0, x3, x4, x5, x17, x18, x22, x23 => if x23 < x22 then ((impl_below.f x0 x5 x23).bind fun t228 => (if t228 = true then (if 0 ≤ (wrap64 (x3 - x23)) then (if (wrap64 (x3 - x23)) < (x4.length : Int) then (if 0 ≤ (wrap64 (x3 - x5)) then (impl_TurnedLattice.l1 k x0 x3 (x4.set ((wrap64 (x3 - x23)) : Int).toNat (Go.bits .or .i64 (rd x4 (wrap64 (x3 - x23))) (shl .i64 1 (wrap64 (x3 - x5))))) x5 x17 x18 x22 (wrap64 (x23 + 1))) else (none)) else (none)) else (none)) else (impl_TurnedLattice.l1 k x0 x3 x4 x5 x17 x18 x22 (wrap64 (x23 + 1))))) else (impl_TurnedLattice.l0 k x0 x3 x4 x17 (wrap64 (x18 + 1)))
end
def impl_TurnedLattice.f (k : Nat) (l0 : List Int) : Option (List Int) := (impl_ValidLattice.f k l0).bind fun t224 => (if t224 = true then (if 0 ≤ (l0.length : Int) then (if ((l0.length : Int) : Int).toNat ≤ 35184372088832 then (impl_TurnedLattice.l0 k l0 (wrap64 ((l0.length : Int) - 1)) (List.replicate ((l0.length : Int) : Int).toNat 0) (l0.length : Int) 0) else (none)) else (none)) else (some ([] : List Int)))
def impl_TurnedLattice.T12 : Bool × List (List Nat × List Nat) := (true, [([], []), ([], []), ([], []), ([1, 2], [1, 2]), ([0, 3], [0, 3]), ([4], [4]), ([], []), ([], []), ([6, 7], [6, 7]), ([8], [8]), ([5, 9], [5, 9]), ([0, 3, 0, 1, 2, 3, 4, 5, 6, 7, 8, 9, 10], [0, 3]), ([11, 10, 0, 1, 2, 3, 4, 5, 6, 7, 8, 9, 10], [10, 11])])
def impl_TurnedLattice.B12 : List Nat := [0, 0, 0, 6, 15, 31, 0, 0, 192, 448, 1023, 2047, 4095]
theorem impl_TurnedLattice.tab12 : rtab .any (opsOf Try.f36 12) = impl_TurnedLattice.T12 := by kernel_rfl
theorem impl_TurnedLattice.bits12 : waitsOk impl_TurnedLattice.T12.2 impl_TurnedLattice.B12 = true := by kernel_rfl
set_option maxHeartbeats 8000000 in
set_option maxRecDepth 100000 in
theorem impl_TurnedLattice.calls (k : Nat) (A0 : Option Addr) (c0 : Nat) (l0 : List Int) (r : List Int) (w : World) (hr0 : Kd.C (Kd.int .i64) w A0 l0.length l0) (hc0 : l0.length ≤ c0) (h : impl_TurnedLattice.f k l0 = some r) :
  Calls Try.prog 36 #[.slice A0 l0.length c0] w fun e w' => ∃ v0_ : Value, e = .returned (v0_) ∧ Kd.R (Kd.int .i64) 3 w' w.heap.size (fun _ => True) v0_ r ∧ Below w.heap.size w w' := by
 have HR0 := Aside0.mk hr0
 have HC0 := Aside0.mk hc0
 clear hr0 hc0
 have HB := Aside0.mk (Below.refl w.heap.size w)
 have H : ((impl_ValidLattice.f k l0).bind fun t224 => (if t224 = true then (if 0 ≤ (l0.length : Int) then (if ((l0.length : Int) : Int).toNat ≤ 35184372088832 then (impl_TurnedLattice.l0 k l0 (wrap64 ((l0.length : Int) - 1)) (List.replicate ((l0.length : Int) : Int).toNat 0) (l0.length : Int) 0) else (none)) else (none)) else (some ([] : List Int)))) = some r := h
 clear h
 replace H := Option.bind_eq_some_iff.mp H
 obtain ⟨t224, A20, H⟩ := H
 replace H : (if t224 = true then (if 0 ≤ (l0.length : Int) then (if ((l0.length : Int) : Int).toNat ≤ 35184372088832 then (impl_TurnedLattice.l0 k l0 (wrap64 ((l0.length : Int) - 1)) (List.replicate ((l0.length : Int) : Int).toNat 0) (l0.length : Int) 0) else (none)) else (none)) else (some ([] : List Int))) = some r := H
 have A2 := Aside0.mk A20
 clear A20
 by_cases c3 : t224 = true
 ·subst c3
  have H1 : (if 0 ≤ (l0.length : Int) then (if ((l0.length : Int) : Int).toNat ≤ 35184372088832 then (impl_TurnedLattice.l0 k l0 (wrap64 ((l0.length : Int) - 1)) (List.replicate ((l0.length : Int) : Int).toNat 0) (l0.length : Int) 0) else (none)) else (none)) = some r := by rw [if_pos rfl] at H; exact H
  clear H
  have H := H1
  clear H1
  by_cases c4 : 0 ≤ (l0.length : Int)
  ·rw [if_pos c4] at H
   have c4b0 := eq_true c4
   have c4b1 : decide (0 ≤ (l0.length : Int)) = true := decide_eq_true c4
   clear c4
   by_cases c5 : ((l0.length : Int) : Int).toNat ≤ 35184372088832
   ·rw [if_pos c5] at H
    have c5b0 := eq_true c5
    have c5b1 : decide (((l0.length : Int) : Int).toNat ≤ 35184372088832) = true := decide_eq_true c5
    clear c5
    obtain ⟨y225, hy225⟩ : ∃ y_ : List Int, y_ = (List.replicate ((l0.length : Int) : Int).toNat 0) := ⟨_, rfl⟩
    replace H : (impl_TurnedLattice.l0 k l0 (wrap64 ((l0.length : Int) - 1)) y225 (l0.length : Int) 0) = some r := by first | (rw [hy225]; with_reducible exact H) | (have H2_ := (Option.bind_some _ _).symm.trans H; rw [hy225]; with_reducible exact H2_) | (have H2_ := (Option.bind_some _ _).symm.trans H; with_reducible exact H2_) | with_reducible exact H | (rw [hy225]; exact H) | exact H
    have Ny225 := Aside0.mk hy225
    clear hy225
    have H' := Aside0.mk H
    clear H
    go_enter Try.func36, Try.ntmps36
    go_wp2_with (first | ((with_reducible refine gate_callee (f := 28) rfl ?_); refine goesL_ (some 8) rfl rfl Try.func28 (by kernel_rfl) rfl #[.slice A0 l0.length c0] rfl (by (try simp only [List.map_toArray, List.map_cons, List.map_nil]); first | done | rfl | (simp only [List.length_drop, List.length_take]; rfl)) ?_; (with_reducible refine (impl_ValidLattice.calls k _ _ l0 true _ ?side1 ?side2 A2.out).mono ?_); (case side1 => repeat (first | exact HR0.out | (with_reducible refine Kd.C_alloc ?_ _) | (with_reducible refine Kd.C_drewN ?_ _) | (with_reducible refine Kd.C_drew ?_))); (case side2 => exact HC0.out); rintro e w' ⟨rfl, ⟨nd, rfl⟩⟩; refine ⟨_, rfl, ?_⟩) | ((with_reducible refine gate_dst (N := 15) rfl ?_); refine Kd.R_make (Kd.int .i64) _ 3 rfl (N := 15) rfl 22 _ _ rfl (l0.length : Int) rfl rfl Try.underlying22 (.int .i64 0) 8 info3 rfl (by decide) (by omega) 0 (ok := fun _ => True) (okp := fun _ => True) rfl (fun _ hk => hk) trivial (of_decide_eq_true (by first | (with_reducible assumption) | assumption)) (Nat.le_trans (Nat.mul_le_mul_right _ (of_decide_eq_true (by first | (with_reducible assumption) | assumption) : (l0.length : Int).toNat ≤ 35184372088832)) (by omega)) (Below.refl _ _) (Nat.le_refl _) ?_; intro v226 w6 ho7 hb hg_ hnew_; clear hg_ hnew_; (first | rw [← Ny225.out] at ho7 | (simp only [Int.reduceToNat] at ho7; rw [← Ny225.out] at ho7)); have n0_ := Aside0.mk (Kd.R_lower ho7 (below_size (by repeat (first | (with_reducible first | exact HB.out | apply below_alloc | apply pw_below_drewN | apply below_drew1) | exact HB.out)))); have n1_ := Aside0.mk (below_step (by repeat (first | (with_reducible first | exact HB.out | apply below_alloc | apply pw_below_drewN | apply below_drew1) | exact HB.out)) hb); clear HB; have HO227 := n0_; have HB := n1_; clear n0_ n1_; clear hb ho7))
    go_loopg [18] k (fun kq v18 w' => ∃ (x4_1 : List Int) (x18_1 : Int), v18 = .int .i64 x18_1 ∧ Aside0 (impl_TurnedLattice.l0 kq l0 (wrap64 ((l0.length : Int) - 1)) x4_1 (l0.length : Int) x18_1 = some r) ∧ Aside0 (kq ≤ k) ∧ Aside0 (Kd.R (Kd.int .i64) 3 w' w.heap.size (fun _ => True) v226 x4_1) ∧ Aside0 (Below w.heap.size w w'))
    case atStart => exact ⟨(y225), (0), (by first | rfl | (simp; done) | (simp [*]; done)), H', ⟨Nat.le_refl _⟩, ⟨by (with_reducible repeat (first | apply Kd.R_alloc | apply Kd.R_drewN | apply Kd.R_drew)); exact HO227.out⟩, ⟨by repeat (first | (with_reducible first | exact HB.out | apply below_alloc | apply pw_below_drewN | apply below_drew1) | exact HB.out)⟩⟩
    case round =>
     clear H'
     try clear c2
     try clear p2
     try clear c3
     try clear c4
     try clear c4b0
     try clear c4b1
     try clear c5
     try clear c5b0
     try clear c5b1
     try clear p6
     obtain ⟨x4_1, x18_1, rfl, HA, HK1, HO_4, HB⟩ := hrel
     cases gk with
     | zero => exact absurd HA.out (by simp [impl_TurnedLattice.l0])
     | succ k1 =>
      have H := HA.out
      clear HA
      simp only [impl_TurnedLattice.l0] at H
      by_cases c8 : x18_1 < (l0.length : Int)
      ·rw [if_pos c8] at H
       have c8b0 : decide (x18_1 < (l0.length : Int)) = true := decide_eq_true c8
       clear c8
       have H' := Aside0.mk H
       clear H
       go_wp2
       go_loopg [23] k1 (fun kq v23 w' => ∃ (x4_2 : List Int) (x23_2 : Int), v23 = .int .i64 x23_2 ∧ Aside0 (impl_TurnedLattice.l1 kq l0 (wrap64 ((l0.length : Int) - 1)) x4_2 x18_1 (l0.length : Int) x18_1 (l0.length : Int) x23_2 = some r) ∧ Aside0 (kq ≤ k1) ∧ Aside0 (Kd.R (Kd.int .i64) 3 w' w.heap.size (fun _ => True) v226 x4_2) ∧ Aside0 (Below w.heap.size w w'))
       case atStart => exact ⟨(x4_1), (0), (by first | rfl | (simp; done) | (simp [*]; done)), H', ⟨Nat.le_refl _⟩, ⟨by (with_reducible repeat (first | apply Kd.R_alloc | apply Kd.R_drewN | apply Kd.R_drew)); exact HO_4.out⟩, ⟨by repeat (first | (with_reducible first | exact HB.out | apply below_alloc | apply pw_below_drewN | apply below_drew1) | exact HB.out)⟩⟩
       case round =>
        clear H'
        try clear c2
        try clear p2
        try clear c3
        try clear c4
        try clear c4b0
        try clear c4b1
        try clear c5
        try clear c5b0
        try clear c5b1
        try clear p6
        try clear c8
        try clear c8b0
        try clear p2
        try clear p6
        obtain ⟨x4_2, x23_2, rfl, HA, HK2, HO_4, HB⟩ := hrel
        cases gk with
        | zero => exact absurd HA.out (by simp [impl_TurnedLattice.l1])
        | succ k2 =>
         have H := HA.out
         clear HA
         simp only [impl_TurnedLattice.l1] at H
         by_cases c9 : x23_2 < (l0.length : Int)
         ·rw [if_pos c9] at H
          have c9b0 : decide (x23_2 < (l0.length : Int)) = true := decide_eq_true c9
          clear c9
          replace H := Option.bind_eq_some_iff.mp H
          obtain ⟨t228, A100, H⟩ := H
          replace H : (if t228 = true then (if 0 ≤ (wrap64 ((wrap64 ((l0.length : Int) - 1)) - x23_2)) then (if (wrap64 ((wrap64 ((l0.length : Int) - 1)) - x23_2)) < (x4_2.length : Int) then (if 0 ≤ (wrap64 ((wrap64 ((l0.length : Int) - 1)) - x18_1)) then (impl_TurnedLattice.l1 k2 l0 (wrap64 ((l0.length : Int) - 1)) (x4_2.set ((wrap64 ((wrap64 ((l0.length : Int) - 1)) - x23_2)) : Int).toNat (Go.bits .or .i64 (rd x4_2 (wrap64 ((wrap64 ((l0.length : Int) - 1)) - x23_2))) (shl .i64 1 (wrap64 ((wrap64 ((l0.length : Int) - 1)) - x18_1))))) x18_1 (l0.length : Int) x18_1 (l0.length : Int) (wrap64 (x23_2 + 1))) else (none)) else (none)) else (none)) else (impl_TurnedLattice.l1 k2 l0 (wrap64 ((l0.length : Int) - 1)) x4_2 x18_1 (l0.length : Int) x18_1 (l0.length : Int) (wrap64 (x23_2 + 1)))) = some r := H
          have A10 := Aside0.mk A100
          clear A100
          by_cases c11 : t228 = true
          ·subst c11
           have H1 : (if 0 ≤ (wrap64 ((wrap64 ((l0.length : Int) - 1)) - x23_2)) then (if (wrap64 ((wrap64 ((l0.length : Int) - 1)) - x23_2)) < (x4_2.length : Int) then (if 0 ≤ (wrap64 ((wrap64 ((l0.length : Int) - 1)) - x18_1)) then (impl_TurnedLattice.l1 k2 l0 (wrap64 ((l0.length : Int) - 1)) (x4_2.set ((wrap64 ((wrap64 ((l0.length : Int) - 1)) - x23_2)) : Int).toNat (Go.bits .or .i64 (rd x4_2 (wrap64 ((wrap64 ((l0.length : Int) - 1)) - x23_2))) (shl .i64 1 (wrap64 ((wrap64 ((l0.length : Int) - 1)) - x18_1))))) x18_1 (l0.length : Int) x18_1 (l0.length : Int) (wrap64 (x23_2 + 1))) else (none)) else (none)) else (none)) = some r := by rw [if_pos rfl] at H; exact H
           clear H
           have H := H1
           clear H1
           obtain ⟨ji12, hji12⟩ : ∃ j_ : Int, (wrap64 ((wrap64 ((l0.length : Int) - 1)) - x23_2)) = j_ := ⟨_, rfl⟩
           replace H : (if 0 ≤ (ji12) then (if (ji12) < (x4_2.length : Int) then (if 0 ≤ (wrap64 ((wrap64 ((l0.length : Int) - 1)) - x18_1)) then (impl_TurnedLattice.l1 k2 l0 (wrap64 ((l0.length : Int) - 1)) (x4_2.set ((ji12) : Int).toNat (Go.bits .or .i64 (rd x4_2 (ji12)) (shl .i64 1 (wrap64 ((wrap64 ((l0.length : Int) - 1)) - x18_1))))) x18_1 (l0.length : Int) x18_1 (l0.length : Int) (wrap64 (x23_2 + 1))) else (none)) else (none)) else (none)) = some r := by first | (rw [hji12] at H; exact H) | (simp only [hji12] at H ⊢; exact H)
           (try rw [hji12] at A10)
           have hji12w : (IntKind.i64.wrap ((wrap64 ((l0.length : Int) - 1)) - x23_2)) = ji12 := (i64_w _).trans hji12
           by_cases c13 : 0 ≤ (ji12)
           ·rw [if_pos c13] at H
            have c13b0 : decide (0 ≤ (ji12)) = true := decide_eq_true c13
            clear c13
            by_cases c14 : (ji12) < (x4_2.length : Int)
            ·rw [if_pos c14] at H
             have c14b0 : decide ((ji12) < (x4_2.length : Int)) = true := decide_eq_true c14
             clear c14
             obtain ⟨ji15, hji15⟩ : ∃ j_ : Int, (wrap64 ((wrap64 ((l0.length : Int) - 1)) - x18_1)) = j_ := ⟨_, rfl⟩
             replace H : (if 0 ≤ (ji15) then (impl_TurnedLattice.l1 k2 l0 (wrap64 ((l0.length : Int) - 1)) (x4_2.set ((ji12) : Int).toNat (Go.bits .or .i64 (rd x4_2 (ji12)) (shl .i64 1 (ji15)))) x18_1 (l0.length : Int) x18_1 (l0.length : Int) (wrap64 (x23_2 + 1))) else (none)) = some r := by first | (rw [hji15] at H; exact H) | (simp only [hji15] at H ⊢; exact H)
             (try rw [hji15] at A10)
             have hji15w : (IntKind.i64.wrap ((wrap64 ((l0.length : Int) - 1)) - x18_1)) = ji15 := (i64_w _).trans hji15
             by_cases c16 : 0 ≤ (ji15)
             ·rw [if_pos c16] at H
              have c16b0 := eq_true c16
              have c16b1 : decide (0 ≤ (ji15)) = true := decide_eq_true c16
              clear c16
              obtain ⟨ji17, hji17⟩ : ∃ j_ : Int, (shl .i64 1 (ji15)) = j_ := ⟨_, rfl⟩
              replace H : (impl_TurnedLattice.l1 k2 l0 (wrap64 ((l0.length : Int) - 1)) (x4_2.set ((ji12) : Int).toNat (Go.bits .or .i64 (rd x4_2 (ji12)) (ji17))) x18_1 (l0.length : Int) x18_1 (l0.length : Int) (wrap64 (x23_2 + 1))) = some r := by first | (rw [hji17] at H; exact H) | (simp only [hji17] at H ⊢; exact H)
              (try rw [hji17] at A10)
              have hji17_ : (IntKind.i64.wrap (1 * 2 ^ min (ji15).toNat 64)) = ji17 := hji17
              have hji17z : (ji15) ≤ 64 → (IntKind.i64.wrap (1 * 2 ^ (ji15).toNat)) = ji17 := shl_small hji17
              have hji17u : (IntKind.i64.wrap (2 ^ min (ji15).toNat 64)) = ji17 := by have h_ := hji17_; rw [Int.one_mul] at h_; exact h_
              have hji17v : (ji15) ≤ 64 → (IntKind.i64.wrap (2 ^ (ji15).toNat)) = ji17 := fun hle_ => by have h_ := hji17z hle_; rw [Int.one_mul] at h_; exact h_
              have hji17y : (wrap64 (1 * 2 ^ min (ji15).toNat 64)) = ji17 := (i64_w _).symm.trans hji17_
              have hji17x : (ji15) ≤ 64 → (wrap64 (1 * 2 ^ (ji15).toNat)) = ji17 := fun h_ => (i64_w _).symm.trans (hji17z h_)
              obtain ⟨y230, hy230⟩ : ∃ y_ : List Int, y_ = (x4_2.set ((ji12) : Int).toNat (Go.bits .or .i64 (rd x4_2 (ji12)) (ji17))) := ⟨_, rfl⟩
              replace H : (impl_TurnedLattice.l1 k2 l0 (wrap64 ((l0.length : Int) - 1)) y230 x18_1 (l0.length : Int) x18_1 (l0.length : Int) (wrap64 (x23_2 + 1))) = some r := by first | (rw [hy230]; with_reducible exact H) | (have H2_ := (Option.bind_some _ _).symm.trans H; rw [hy230]; with_reducible exact H2_) | (have H2_ := (Option.bind_some _ _).symm.trans H; with_reducible exact H2_) | with_reducible exact H | (rw [hy230]; exact H) | exact H
              have Ny230 := Aside0.mk hy230
              clear hy230
              have H' := Aside0.mk H
              clear H
              try go_wp2_with (first | ((with_reducible refine gate_callee (f := 77) rfl ?_); refine goesL_ (some 29) rfl rfl Try.func77 (by kernel_rfl) rfl #[.slice A0 l0.length c0, .int .i64 x18_1, .int .i64 x23_2] rfl (by (try simp only [List.map_toArray, List.map_cons, List.map_nil]); first | done | rfl | (simp only [List.length_drop, List.length_take]; rfl)) ?_; (with_reducible refine (impl_below.calls _ _ l0 x18_1 x23_2 true _ ?side1 ?side2 A10.out).mono ?_); (case side1 => repeat (first | exact (Kd.C_below HR0.out HB.out) | (with_reducible refine Kd.C_alloc ?_ _) | (with_reducible refine Kd.C_drewN ?_ _) | (with_reducible refine Kd.C_drew ?_))); (case side2 => exact HC0.out); rintro e w' ⟨rfl, ⟨nd, rfl⟩⟩; refine ⟨_, rfl, ?_⟩; (try (rw [drewN_self wr]; generalize hq_ : World.drewN wr _ = wr; have n0_ : Aside0 (Kd.R (Kd.int .i64) 3 wr w.heap.size (fun _ => True) v226 x4_2) := ⟨by rw [← hq_]; exact (by (with_reducible repeat (first | apply Kd.R_alloc | apply Kd.R_drewN | apply Kd.R_drew)); exact HO_4.out)⟩; have n1_ : Aside0 (Below w.heap.size w wr) := ⟨by rw [← hq_]; exact (by repeat (first | (with_reducible first | exact HB.out | apply below_alloc | apply pw_below_drewN | apply below_drew1) | exact HB.out))⟩; clear HO_4 HB hq_; have HO_4 := n0_; have HB := n1_; clear n0_ n1_)); (try (rw [drewN_self wr]; generalize hq_ : World.drewN wr _ = wr; have n0_ : Aside0 (Kd.R (Kd.int .i64) 3 wr w.heap.size (fun _ => True) v226 x4_2) := ⟨by rw [← hq_]; exact (by (with_reducible repeat (first | apply Kd.R_alloc | apply Kd.R_drewN | apply Kd.R_drew)); exact HO_4.out)⟩; have n1_ : Aside0 (Below w.heap.size w wr) := ⟨by rw [← hq_]; exact (by repeat (first | (with_reducible first | exact HB.out | apply below_alloc | apply pw_below_drewN | apply below_drew1) | exact HB.out))⟩; clear HO_4 HB hq_; have HO_4 := n0_; have HB := n1_; clear n0_ n1_)); (try (rw [drewN_self wr]; generalize hq_ : World.drewN wr _ = wr; have n0_ : Aside0 (Kd.R (Kd.int .i64) 3 wr w.heap.size (fun _ => True) v226 x4_2) := ⟨by rw [← hq_]; exact (by (with_reducible repeat (first | apply Kd.R_alloc | apply Kd.R_drewN | apply Kd.R_drew)); exact HO_4.out)⟩; have n1_ : Aside0 (Below w.heap.size w wr) := ⟨by rw [← hq_]; exact (by repeat (first | (with_reducible first | exact HB.out | apply below_alloc | apply pw_below_drewN | apply below_drew1) | exact HB.out))⟩; clear HO_4 HB hq_; have HO_4 := n0_; have HB := n1_; clear n0_ n1_))))
              have n0_ := Aside0.mk (Kd.R_drew HO_4.out)
              have n1_ := Aside0.mk (below_drew1 HB.out)
              clear HO_4
              clear HB
              have HO_4 := n0_
              have HB := n1_
              clear n0_ n1_
              obtain ⟨Ao20, co20, eo20⟩ := Kd.R_slice HO_4.out
              (first | subst eo20 | (injection eo20 with f1_ f2_ f3_; have f4_ := f1_.symm; have f5_ := f3_.symm; clear f1_ f2_ f3_; subst f4_; subst f5_))
              have p229 : 0 ≤ ((ji12) : Int) := of_decide_eq_true (by first | (with_reducible assumption) | assumption)
              have q229 : (ji12) < (x4_2.length : Int) := of_decide_eq_true (by first | (with_reducible assumption) | assumption)
              obtain ⟨ad229, e229, hx229_0⟩ := Kd.at_int (Kd.R_reads' HO_4.out).2.2 (ji12) p229 q229
              cases e229
              replace p229 := eq_true p229
              replace q229 := eq_true q229
              have p18 : 0 ≤ ((ji12) : Int) := of_decide_eq_true (by first | (with_reducible assumption) | assumption)
              have q18 : ((ji12) : Int) < ((x4_2.length : Int) : Int) := of_decide_eq_true (by first | (with_reducible assumption) | assumption)
              obtain ⟨go18, co18, eo18, gb18, gl18, cl18, HG18⟩ := Kd.R_form HO_4.out (by omega)
              (first | cases eo18 | (injection eo18 with ea_ en_ ec_; (first | subst ea_ | (injection ea_ with ea_; subst ea_)); subst ec_; clear en_))
              have GB18 := Aside0.mk gb18
              have GG18 := Aside0.mk HG18
              clear gb18 gl18 HG18
              (first | simp only [add_plain] at hx229_0 | skip)
              obtain ⟨hx18_0, hf18_0⟩ := Kd.R_celln 0 HO_4.out ((ji12) : Int) p18 q18
              replace p18 := eq_true p18
              replace q18 := eq_true q18
              have HP21 := Kd.R_putn HO_4.out ((ji12) : Int) (Go.bits .or .i64 (rd x4_2 (ji12)) (ji17))
              rw [← Ny230.out] at HP21
              have HQ21 := Aside0.mk HP21
              clear HP21
              refine start_ (n := 13) (S := fun w' => w'.cell? ⟨go18, ((ji12)).toNat, none⟩ = some (.int .i64 (rd x4_2 (ji12)))) (ds := [12]) #[false, false, false, false, false, false, false, false, false, false, false, false, false] (by kernel_rfl) rfl rfl (hx229_0) (fun hHeld => ?_); refine with_tabW impl_TurnedLattice.tab12 impl_TurnedLattice.bits12 (fun HT_ HW_ => ?_)
              generalize wr.drew = w19 at HO_4 HB GG18 HQ21 hf18_0 hx18_0 hx229_0 hHeld ⊢
              refine pure_ (i := 0) (N := some 30) (v := ?_) (a' := ?_) #[true, false, false, false, false, false, false, false, false, false, false, false, false] rfl rfl (any_of HT_.out (by kernel_rfl)) (fun _ _ _ h => h) (Or.inl ⟨by rfl, ?_⟩) ?_ ?_
              rotate_left
              ·intro w'
               go_simp
               with_reducible rfl
              rotate_left
              ·simp only [Act.put, List.setIfInBounds_toArray, List.set_cons_zero, List.set_cons_succ, i64_w, i32_w]
               rfl
              refine pure_ (i := 1) (N := some 31) (v := ?_) (a' := ?_) #[true, true, false, false, false, false, false, false, false, false, false, false, false] rfl rfl (any_of HT_.out (by kernel_rfl)) (fun _ _ _ h => h) (Or.inl ⟨by rfl, ?_⟩) ?_ ?_
              rotate_left
              ·intro w'
               go_simp
               with_reducible rfl
              rotate_left
              ·simp only [Act.put, List.setIfInBounds_toArray, List.set_cons_zero, List.set_cons_succ, i64_w, i32_w]
               rfl
              refine pure_ (i := 2) (N := some 32) (v := ?_) (a' := ?_) #[true, true, true, false, false, false, false, false, false, false, false, false, false] rfl rfl (any_of HT_.out (by kernel_rfl)) (fun _ _ _ h => h) (Or.inl ⟨by rfl, ?_⟩) ?_ ?_
              rotate_left
              ·intro w'
               go_simp
               with_reducible rfl
              rotate_left
              ·simp only [Act.put, List.setIfInBounds_toArray, List.set_cons_zero, List.set_cons_succ, i64_w, i32_w]
               rfl
              refine pure_ (i := 3) (N := some 33) (v := ?_) (a' := ?_) #[true, true, true, true, false, false, false, false, false, false, false, false, false] rfl rfl (any_of HT_.out (by kernel_rfl)) (fun _ _ _ h => h) (Or.inl ⟨by rfl, ?_⟩) ?_ ?_
              rotate_left
              ·intro w'
               go_simp
               with_reducible rfl
              rotate_left
              ·simp only [Act.put, List.setIfInBounds_toArray, List.set_cons_zero, List.set_cons_succ, i64_w, i32_w]
               rfl
              refine pure_ (i := 4) (N := some 34) (v := ?_) (a' := ?_) #[true, true, true, true, true, false, false, false, false, false, false, false, false] rfl rfl (any_of HT_.out (by kernel_rfl)) (fun _ _ _ h => h) (Or.inl ⟨by rfl, ?_⟩) ?_ ?_
              rotate_left
              ·intro w'
               go_simp
               with_reducible rfl
              rotate_left
              ·simp only [Act.put, List.setIfInBounds_toArray, List.set_cons_zero, List.set_cons_succ, i64_w, i32_w]
               rfl
              refine pure_ (i := 6) (N := some 36) (v := ?_) (a' := ?_) #[true, true, true, true, true, false, true, false, false, false, false, false, false] rfl rfl (any_of HT_.out (by kernel_rfl)) (fun _ _ _ h => h) (Or.inl ⟨by rfl, ?_⟩) ?_ ?_
              rotate_left
              ·intro w'
               go_simp
               with_reducible rfl
              rotate_left
              ·simp only [Act.put, List.setIfInBounds_toArray, List.set_cons_zero, List.set_cons_succ, i64_w, i32_w]
               rfl
              refine pure_ (i := 7) (N := some 37) (v := ?_) (a' := ?_) #[true, true, true, true, true, false, true, true, false, false, false, false, false] rfl rfl (any_of HT_.out (by kernel_rfl)) (fun _ _ _ h => h) (Or.inl ⟨by rfl, ?_⟩) ?_ ?_
              rotate_left
              ·intro w'
               go_simp
               with_reducible rfl
              rotate_left
              ·simp only [Act.put, List.setIfInBounds_toArray, List.set_cons_zero, List.set_cons_succ, i64_w, i32_w]
               rfl
              refine pure_ (i := 8) (N := some 38) (v := ?_) (a' := ?_) #[true, true, true, true, true, false, true, true, true, false, false, false, false] rfl rfl (any_of HT_.out (by kernel_rfl)) (fun _ _ _ h => h) (Or.inl ⟨by rfl, ?_⟩) ?_ ?_
              rotate_left
              ·intro w'
               go_simp
               with_reducible rfl
              rotate_left
              ·simp only [Act.put, List.setIfInBounds_toArray, List.set_cons_zero, List.set_cons_succ, i64_w, i32_w]
               rfl
              refine pure_ (i := 9) (N := some 39) (v := ?_) (a' := ?_) #[true, true, true, true, true, false, true, true, true, true, false, false, false] rfl rfl (any_of HT_.out (by kernel_rfl)) (fun _ _ _ h => h) (Or.inl ⟨by rfl, ?_⟩) ?_ ?_
              rotate_left
              ·intro w'
               go_simp
               with_reducible rfl
              rotate_left
              ·simp only [Act.put, List.setIfInBounds_toArray, List.set_cons_zero, List.set_cons_succ, i64_w, i32_w]
               rfl
              refine take_ (i := 5) (N := some 35) (v := ?_) (a' := ?_) #[true, true, true, true, true, true, true, true, true, true, false, false, false] rfl rfl (take_ofW HT_.out HW_.out (by kernel_rfl)) (fun _ _ _ h => h) (Or.inl ⟨by rfl, ?_⟩) hHeld ?_ ?_
              rotate_left
              ·intro w' s0
               go_simp
               with_reducible rfl
              rotate_left
              ·simp only [Act.put, List.setIfInBounds_toArray, List.set_cons_zero, List.set_cons_succ, i64_w, i32_w]
               rfl
              refine pure_ (i := 10) (N := some 40) (v := ?_) (a' := ?_) #[true, true, true, true, true, true, true, true, true, true, true, false, false] rfl rfl (any_of HT_.out (by kernel_rfl)) (fun _ _ _ h => h) (Or.inl ⟨by rfl, ?_⟩) ?_ ?_
              rotate_left
              ·intro w'
               go_simp
               with_reducible rfl
              rotate_left
              ·simp only [Act.put, List.setIfInBounds_toArray, List.set_cons_zero, List.set_cons_succ, i64_w, i32_w]
               rfl
              refine pure_ (i := 11) (N := some 41) (v := ?_) (a' := ?_) #[true, true, true, true, true, true, true, true, true, true, true, true, false] rfl rfl (any_of HT_.out (by kernel_rfl)) (fun _ _ _ h => h) (Or.inl ⟨by rfl, ?_⟩) ?_ ?_
              rotate_left
              ·intro w'
               go_simp
               with_reducible rfl
              rotate_left
              ·simp only [Act.put, List.setIfInBounds_toArray, List.set_cons_zero, List.set_cons_succ, i64_w, i32_w]
               rfl
              refine last_ (i := 12) (N := none) #[true, true, true, true, true, true, true, true, true, true, true, true, true] rfl rfl (one_of HT_.out (by kernel_rfl)) (by decide) (fun K hK => ?_)
              refine skip_ (w1 := ?_) (by rfl) rfl ?_ ?_
              rotate_left
              ·go_simp
               rfl
              refine hK.out _ _ ?_
              clear hK K
              refine done_ (done_of HT_.out (by kernel_rfl)) ?_
              try go_wp2
              go_roundg k2
              case measure => have := HK1.out; have := HK2.out; omega
              case rel => exact ⟨(y230), (wrap64 (x23_2 + 1)), (by first | rfl | (simp; done) | (simp [*]; done)), H', ⟨by have := HK1.out; have := HK2.out; omega⟩, ⟨by (with_reducible repeat (first | apply Kd.R_alloc | apply Kd.R_drewN | apply Kd.R_drew)); exact HQ21.out⟩, ⟨by repeat (first | (with_reducible first | exact HB.out | apply below_alloc | apply pw_below_drewN | apply below_drew1 | refine below_set ?_ GB18.out) | exact HB.out)⟩⟩
             ·rw [if_neg c16] at H
              exact absurd H (by simp)
            ·rw [if_neg c14] at H
             exact absurd H (by simp)
           ·rw [if_neg c13] at H
            exact absurd H (by simp)
          ·replace c11 := Bool.eq_false_iff.mpr c11
           subst c11
           have H1 : (impl_TurnedLattice.l1 k2 l0 (wrap64 ((l0.length : Int) - 1)) x4_2 x18_1 (l0.length : Int) x18_1 (l0.length : Int) (wrap64 (x23_2 + 1))) = some r := by rw [if_neg (show ¬ (false = true) by decide)] at H; exact H
           clear H
           have H := H1
           clear H1
           have H' := Aside0.mk H
           clear H
           go_wp2_with (first | ((with_reducible refine gate_callee (f := 77) rfl ?_); refine goesL_ (some 29) rfl rfl Try.func77 (by kernel_rfl) rfl #[.slice A0 l0.length c0, .int .i64 x18_1, .int .i64 x23_2] rfl (by (try simp only [List.map_toArray, List.map_cons, List.map_nil]); first | done | rfl | (simp only [List.length_drop, List.length_take]; rfl)) ?_; (with_reducible refine (impl_below.calls _ _ l0 x18_1 x23_2 false _ ?side1 ?side2 A10.out).mono ?_); (case side1 => repeat (first | exact (Kd.C_below HR0.out HB.out) | (with_reducible refine Kd.C_alloc ?_ _) | (with_reducible refine Kd.C_drewN ?_ _) | (with_reducible refine Kd.C_drew ?_))); (case side2 => exact HC0.out); rintro e w' ⟨rfl, ⟨nd, rfl⟩⟩; refine ⟨_, rfl, ?_⟩))
           go_roundg k2
           case measure => have := HK1.out; have := HK2.out; omega
           case rel => exact ⟨(x4_2), (wrap64 (x23_2 + 1)), (by first | rfl | (simp; done) | (simp [*]; done)), H', ⟨by have := HK1.out; have := HK2.out; omega⟩, ⟨by (with_reducible repeat (first | apply Kd.R_alloc | apply Kd.R_drewN | apply Kd.R_drew)); exact HO_4.out⟩, ⟨by repeat (first | (with_reducible first | exact HB.out | apply below_alloc | apply pw_below_drewN | apply below_drew1) | exact HB.out)⟩⟩
         ·rw [if_neg c9] at H
          have c9b0 : decide (x23_2 < (l0.length : Int)) = false := decide_eq_false c9
          clear c9
          have H' := Aside0.mk H
          clear H
          go_wp2
          go_roundg k2
          case measure => have := HK1.out; have := HK2.out; omega
          case rel => exact ⟨(x4_2), (wrap64 (x18_1 + 1)), (by first | rfl | (simp; done) | (simp [*]; done)), H', ⟨by have := HK1.out; have := HK2.out; omega⟩, ⟨by (with_reducible repeat (first | apply Kd.R_alloc | apply Kd.R_drewN | apply Kd.R_drew)); exact HO_4.out⟩, ⟨by repeat (first | (with_reducible first | exact HB.out | apply below_alloc | apply pw_below_drewN | apply below_drew1) | exact HB.out)⟩⟩
      ·rw [if_neg c8] at H
       have c8b0 : decide (x18_1 < (l0.length : Int)) = false := decide_eq_false c8
       clear c8
       obtain rfl := Option.some.inj H
       go_wp2
       go_ret
       exact ⟨_, by first | rfl | (simp [errW_none, errW_some] <;> rfl) | (simp [*, errW_none, errW_some] <;> rfl), by (with_reducible repeat (first | apply Kd.R_alloc | apply Kd.R_drewN | apply Kd.R_drew)); exact HO_4.out, by repeat (first | (with_reducible first | exact HB.out | apply below_alloc | apply pw_below_drewN | apply below_drew1) | exact HB.out)⟩
   ·rw [if_neg c5] at H
    exact absurd H (by simp)
  ·rw [if_neg c4] at H
   exact absurd H (by simp)
 ·replace c3 := Bool.eq_false_iff.mpr c3
  subst c3
  have H1 : (some ([] : List Int)) = some r := by rw [if_neg (show ¬ (false = true) by decide)] at H; exact H
  clear H
  have H := H1
  clear H1
  obtain rfl := Option.some.inj H
  go_enter Try.func36, Try.ntmps36
  go_wp2_with (first | ((with_reducible refine gate_callee (f := 28) rfl ?_); refine goesL_ (some 8) rfl rfl Try.func28 (by kernel_rfl) rfl #[.slice A0 l0.length c0] rfl (by (try simp only [List.map_toArray, List.map_cons, List.map_nil]); first | done | rfl | (simp only [List.length_drop, List.length_take]; rfl)) ?_; (with_reducible refine (impl_ValidLattice.calls k _ _ l0 false _ ?side1 ?side2 A2.out).mono ?_); (case side1 => repeat (first | exact HR0.out | (with_reducible refine Kd.C_alloc ?_ _) | (with_reducible refine Kd.C_drewN ?_ _) | (with_reducible refine Kd.C_drew ?_))); (case side2 => exact HC0.out); rintro e w' ⟨rfl, ⟨nd, rfl⟩⟩; refine ⟨_, rfl, ?_⟩))
  go_ret
  exact ⟨_, by first | rfl | (simp [errW_none, errW_some] <;> rfl) | (simp [*, errW_none, errW_some] <;> rfl), by first | exact Kd.R_nil _ _ _ _ _ | exact Kd.N_nil _ _ _ _ _ | exact Kd.V_nil _ _ _ _ _ | exact Kd.Q_nil _ _ _ _ _ | exact Kd.S_nil _ _ _ _ _, by repeat (first | (with_reducible first | exact HB.out | apply below_alloc | apply pw_below_drewN | apply below_drew1) | exact HB.out)⟩

end Go.Proofs.Ytmfpaagjllaljaa.P
end
section
namespace Go.Proofs.Ytmfpaagjllaljaa.P
open Go.RowKit Go.Proofs.YtmfpaagjllaljaaW.PrintWords Go.Proofs.YtmfpaagjllaljaaW.PrintLast Go.Proofs.YtmfpaagjllaljaaW.PrintMore
attribute [local go_sem] max2_int min2_int max_two min_two max_three min_three max_four min_four   -- for this text's walks alone
set_option linter.unusedVariables false
set_option linter.unusedSimpArgs false

/-! ### spec_TurnedLattice: function 45 -/
def spec_TurnedLattice.f (k : Nat) (l0 : List Int) : Option (List Int) := (spec_validLattice.f k l0).bind fun t352 => (if t352 = true then ((spec_turned.f k l0).bind fun t353 => (some t353)) else (some ([] : List Int)))
set_option maxHeartbeats 8000000 in
set_option maxRecDepth 100000 in
theorem spec_TurnedLattice.calls (k : Nat) (A0 : Option Addr) (c0 : Nat) (l0 : List Int) (r : List Int) (w : World) (hr0 : Kd.C (Kd.int .i64) w A0 l0.length l0) (hc0 : l0.length ≤ c0) (h : spec_TurnedLattice.f k l0 = some r) :
  Calls Try.prog 45 #[.slice A0 l0.length c0] w fun e w' => ∃ v0_ : Value, e = .returned (v0_) ∧ Kd.R (Kd.int .i64) 3 w' w.heap.size (fun _ => True) v0_ r ∧ Below w.heap.size w w' := by
 have HR0 := Aside0.mk hr0
 have HC0 := Aside0.mk hc0
 clear hr0 hc0
 have HB := Aside0.mk (Below.refl w.heap.size w)
 have H : ((spec_validLattice.f k l0).bind fun t352 => (if t352 = true then ((spec_turned.f k l0).bind fun t353 => (some t353)) else (some ([] : List Int)))) = some r := h
 clear h
 replace H := Option.bind_eq_some_iff.mp H
 obtain ⟨t352, A20, H⟩ := H
 replace H : (if t352 = true then ((spec_turned.f k l0).bind fun t353 => (some t353)) else (some ([] : List Int))) = some r := H
 have A2 := Aside0.mk A20
 clear A20
 by_cases c3 : t352 = true
 ·subst c3
  have H1 : ((spec_turned.f k l0).bind fun t353 => (some t353)) = some r := by rw [if_pos rfl] at H; exact H
  clear H
  have H := H1
  clear H1
  replace H := Option.bind_eq_some_iff.mp H
  obtain ⟨t353, A40, H⟩ := H
  replace H : (some t353) = some r := H
  have A4 := Aside0.mk A40
  clear A40
  obtain rfl := Option.some.inj H
  go_enter Try.func45, Try.ntmps45
  go_wp2_with (first | ((with_reducible refine gate_callee (f := 75) rfl ?_); refine goesL_ (some 4) rfl rfl Try.func75 (by kernel_rfl) rfl #[.slice A0 l0.length c0] rfl (by (try simp only [List.map_toArray, List.map_cons, List.map_nil]); first | done | rfl | (simp only [List.length_drop, List.length_take]; rfl)) ?_; (with_reducible refine (spec_validLattice.calls k _ _ l0 true _ ?side1 ?side2 A2.out).mono ?_); (case side1 => repeat (first | exact HR0.out | (with_reducible refine Kd.C_alloc ?_ _) | (with_reducible refine Kd.C_drewN ?_ _) | (with_reducible refine Kd.C_drew ?_))); (case side2 => exact HC0.out); rintro e w' ⟨rfl, ⟨nd, rfl⟩⟩; refine ⟨_, rfl, ?_⟩) | ((with_reducible refine gate_callee (f := 92) rfl ?_); refine goesL_ (some 7) rfl rfl Try.func92 (by kernel_rfl) rfl #[.slice A0 l0.length c0] rfl (by (try simp only [List.map_toArray, List.map_cons, List.map_nil]); first | done | rfl | (simp only [List.length_drop, List.length_take]; rfl)) ?_; (with_reducible refine (spec_turned.calls k _ _ l0 t353 _ ?side1 ?side2 A4.out).mono ?_); (case side1 => repeat (first | exact HR0.out | (with_reducible refine Kd.C_alloc ?_ _) | (with_reducible refine Kd.C_drewN ?_ _) | (with_reducible refine Kd.C_drew ?_))); (case side2 => exact HC0.out); rintro e w5 ⟨v354, rfl, ho0, hb⟩; refine ⟨_, rfl, ?_⟩; have n0_ := Aside0.mk (Kd.R_lower ho0 (below_size (by repeat (first | (with_reducible first | exact HB.out | apply below_alloc | apply pw_below_drewN | apply below_drew1) | exact HB.out)))); have n1_ := Aside0.mk (below_step (by repeat (first | (with_reducible first | exact HB.out | apply below_alloc | apply pw_below_drewN | apply below_drew1) | exact HB.out)) hb); clear HB; have HO355 := n0_; have HB := n1_; clear n0_ n1_; (try clear hb); (try clear hb2); (try clear hk); (try clear hi); (try clear ho0)))
  go_ret
  exact ⟨_, by first | rfl | (simp [errW_none, errW_some] <;> rfl) | (simp [*, errW_none, errW_some] <;> rfl), by (with_reducible repeat (first | apply Kd.R_alloc | apply Kd.R_drewN | apply Kd.R_drew)); exact HO355.out, by repeat (first | (with_reducible first | exact HB.out | apply below_alloc | apply pw_below_drewN | apply below_drew1) | exact HB.out)⟩
 ·replace c3 := Bool.eq_false_iff.mpr c3
  subst c3
  have H1 : (some ([] : List Int)) = some r := by rw [if_neg (show ¬ (false = true) by decide)] at H; exact H
  clear H
  have H := H1
  clear H1
  obtain rfl := Option.some.inj H
  go_enter Try.func45, Try.ntmps45
  go_wp2_with (first | ((with_reducible refine gate_callee (f := 75) rfl ?_); refine goesL_ (some 4) rfl rfl Try.func75 (by kernel_rfl) rfl #[.slice A0 l0.length c0] rfl (by (try simp only [List.map_toArray, List.map_cons, List.map_nil]); first | done | rfl | (simp only [List.length_drop, List.length_take]; rfl)) ?_; (with_reducible refine (spec_validLattice.calls k _ _ l0 false _ ?side1 ?side2 A2.out).mono ?_); (case side1 => repeat (first | exact HR0.out | (with_reducible refine Kd.C_alloc ?_ _) | (with_reducible refine Kd.C_drewN ?_ _) | (with_reducible refine Kd.C_drew ?_))); (case side2 => exact HC0.out); rintro e w' ⟨rfl, ⟨nd, rfl⟩⟩; refine ⟨_, rfl, ?_⟩))
  go_ret
  exact ⟨_, by first | rfl | (simp [errW_none, errW_some] <;> rfl) | (simp [*, errW_none, errW_some] <;> rfl), by first | exact Kd.R_nil _ _ _ _ _ | exact Kd.N_nil _ _ _ _ _ | exact Kd.V_nil _ _ _ _ _ | exact Kd.Q_nil _ _ _ _ _ | exact Kd.S_nil _ _ _ _ _, by repeat (first | (with_reducible first | exact HB.out | apply below_alloc | apply pw_below_drewN | apply below_drew1) | exact HB.out)⟩

/-! ### laws_markIntS: function 46 -/
def laws_markIntS.l0 : Nat → List Int → Int → Int → Option (Int × List Int)
 | 0, _, _, _ => none
 | k + 1, x0, x1, x5 => if x5 < (x0.length : Int) then (if 0 ≤ x5 then (laws_markIntS.l0 k (x0.set (x5 : Int).toNat x1) (wrap64 (x1 + 1)) (wrap64 (x5 + 1))) else (none)) else (some (x1, x0))
def laws_markIntS.f (k : Nat) (l0 : List Int) (a1 : Int) : Option (Int × List Int) := laws_markIntS.l0 k l0 a1 0
set_option maxHeartbeats 8000000 in
set_option maxRecDepth 100000 in
theorem laws_markIntS.calls (k : Nat) (P0_ : Nat → Prop) (u9000_ : Value) (l0 : List Int) (a1 : Int) (r1 : Int) (r2 : List Int) (w0 w : World) (hB : Below w0.heap.size w0 w) (ho0 : Kd.R (Kd.int .i64) 3 w w0.heap.size P0_ u9000_ l0) (h : laws_markIntS.f k l0 a1 = some (r1, r2)) :
  Calls Try.prog 46 #[u9000_, .int .i64 a1] w fun e w' => e = .returned (.int .i64 r1) ∧ Kd.R (Kd.int .i64) 3 w' w0.heap.size (fun k_ => (P0_ k_ ∨ w.heap.size ≤ k_)) u9000_ r2 ∧ Below w0.heap.size w0 w' ∧ Kept w w' (fun k_ => P0_ k_) := by
 have HO0 := Aside0.mk (show Kd.R (Kd.int .i64) 3 w w0.heap.size (fun k_ => (P0_ k_ ∨ w.heap.size ≤ k_)) u9000_ l0 from Kd.R_mono ho0 (fun k_ hk => (.inl hk)))
 have HK := Aside0.mk (Kept.refl w (fun k_ => P0_ k_))
 have HW0 := Aside0.mk hB.size
 have HB := Aside0.mk hB
 clear hB
 have H : (laws_markIntS.l0 k l0 a1 0) = some (r1, r2) := h
 clear h
 have H' := Aside0.mk H
 clear H
 go_enter Try.func46, Try.ntmps46
 go_wp2
 go_loopg [1, 5] k (fun kq v1 v5 w' => ∃ (x0_1 : List Int) (x1_1 : Int) (x5_1 : Int), v1 = .int .i64 x1_1 ∧ v5 = .int .i64 x5_1 ∧ Aside0 (laws_markIntS.l0 kq x0_1 x1_1 x5_1 = some (r1, r2)) ∧ Aside0 (kq ≤ k) ∧ Aside0 (Kd.R (Kd.int .i64) 3 w' w0.heap.size (fun k_ => (P0_ k_ ∨ w.heap.size ≤ k_)) u9000_ x0_1) ∧ Aside0 (Kept w w' (fun k_ => P0_ k_)) ∧ Aside0 (Below w0.heap.size w0 w'))
 case atStart => exact ⟨(l0), (a1), (0), (by first | rfl | (simp; done) | (simp [*]; done)), (by first | rfl | (simp; done) | (simp [*]; done)), H', ⟨Nat.le_refl _⟩, ⟨by (with_reducible repeat (first | apply Kd.R_alloc | apply Kd.R_drewN | apply Kd.R_drew)); exact HO0.out⟩, ⟨by repeat (first | (with_reducible first | exact HK.out | apply Kept.alloc | apply Kept.drewN | apply Kept.drew) | exact HK.out)⟩, ⟨by repeat (first | (with_reducible first | exact HB.out | apply below_alloc | apply pw_below_drewN | apply below_drew1) | exact HB.out)⟩⟩
 case round =>
  clear H'
  try clear p2
  obtain ⟨x0_1, x1_1, x5_1, rfl, rfl, HA, HK1, HO_0, HK, HB⟩ := hrel
  cases gk with
  | zero => exact absurd HA.out (by simp [laws_markIntS.l0])
  | succ k1 =>
   have H := HA.out
   clear HA
   simp only [laws_markIntS.l0] at H
   by_cases c3 : x5_1 < (x0_1.length : Int)
   ·rw [if_pos c3] at H
    have c3b0 : decide (x5_1 < (x0_1.length : Int)) = true := decide_eq_true c3
    clear c3
    by_cases c4 : 0 ≤ x5_1
    ·rw [if_pos c4] at H
     have c4b0 : decide (0 ≤ x5_1) = true := decide_eq_true c4
     clear c4
     obtain ⟨y356, hy356⟩ : ∃ y_ : List Int, y_ = (x0_1.set (x5_1 : Int).toNat x1_1) := ⟨_, rfl⟩
     replace H : (laws_markIntS.l0 k1 y356 (wrap64 (x1_1 + 1)) (wrap64 (x5_1 + 1))) = some (r1, r2) := by first | (rw [hy356]; with_reducible exact H) | (have H2_ := (Option.bind_some _ _).symm.trans H; rw [hy356]; with_reducible exact H2_) | (have H2_ := (Option.bind_some _ _).symm.trans H; with_reducible exact H2_) | with_reducible exact H | (rw [hy356]; exact H) | exact H
     have Ny356 := Aside0.mk hy356
     clear hy356
     have H' := Aside0.mk H
     clear H
     obtain ⟨Ao6, co6, eo6⟩ := Kd.R_slice HO_0.out
     subst eo6
     have p5 : 0 ≤ (x5_1 : Int) := of_decide_eq_true (by first | (with_reducible assumption) | assumption)
     have q5 : (x5_1 : Int) < ((x0_1.length : Int) : Int) := of_decide_eq_true (by first | (with_reducible assumption) | assumption)
     obtain ⟨go5, co5, eo5, gb5, gl5, cl5, HG5⟩ := Kd.R_form HO_0.out (by omega)
     (first | cases eo5 | (injection eo5 with ea_ en_ ec_; (first | subst ea_ | (injection ea_ with ea_; subst ea_)); subst ec_; clear en_))
     have GB5 := Aside0.mk gb5
     have GG5 := Aside0.mk HG5
     clear gb5 gl5 HG5
     have HMgo5 := Aside0.mk (show (P0_ go5 ∨ w.heap.size ≤ go5) from (HO_0.out.1 _ rfl))
     obtain ⟨hx5_0, hf5_0⟩ := Kd.R_celln 0 HO_0.out (x5_1 : Int) p5 q5
     replace p5 := eq_true p5
     replace q5 := eq_true q5
     have HP7 := Kd.R_putg HO_0.out (x5_1 : Int) x1_1
     go_wp2_with (first | ((with_reducible refine gate_store (t := 3) (p := 15) rfl ?_); refine store_event (t := 3) (p := 15) (v := ?vo_w8) (w1 := (wr.setCell ⟨go5, (x5_1 : Int).toNat, none⟩ (.int .i64 x1_1))) ?hg ?ho ?hn ?hr ?_; (case ho => rfl); (case hg => rfl); (case hn => rfl); (case hr => first | (go_simp; done) | (go_simp; rfl)); intro w8 hw; have hg : wr.grownBy w8 (some go5) := (by rw [hw]; exact HP7.2); have hp_ : Kd.R (Kd.int .i64) 3 w8 w0.heap.size (fun k_ => (P0_ k_ ∨ w.heap.size ≤ k_)) (.slice (some ⟨go5, 0, none⟩) x0_1.length co6) y356 := (by rw [hw, Ny356.out]; exact HP7.1); clear HP7; have n0_ := Aside0.mk (hp_); have n1_ := Aside0.mk ((by rw [hw]; exact below_set (HB.out) GB5.out : Below w0.heap.size w0 w8)); have n2_ := Aside0.mk (Kept.of_grown (S := (fun k_ => P0_ k_)) hg (by repeat (first | (with_reducible first | exact HK.out | apply Kept.alloc | apply Kept.drewN | apply Kept.drew) | exact HK.out)) (fun k_ e_ => (HO_0.out.1 k_ e_))); clear HO_0; clear HB; clear HK; have HO_0 := n0_; have HB := n1_; have HK := n2_; clear n0_ n1_ n2_; clear hg hw hp_))
     go_roundg k1
     case measure => have := HK1.out; omega
     case rel => exact ⟨(y356), (wrap64 (x1_1 + 1)), (wrap64 (x5_1 + 1)), (by first | rfl | (simp; done) | (simp [*]; done)), (by first | rfl | (simp; done) | (simp [*]; done)), H', ⟨by have := HK1.out; omega⟩, ⟨by (with_reducible repeat (first | apply Kd.R_alloc | apply Kd.R_drewN | apply Kd.R_drew)); exact HO_0.out⟩, ⟨by repeat (first | (with_reducible first | exact HK.out | apply Kept.alloc | apply Kept.drewN | apply Kept.drew) | exact HK.out)⟩, ⟨by repeat (first | (with_reducible first | exact HB.out | apply below_alloc | apply pw_below_drewN | apply below_drew1) | exact HB.out)⟩⟩
    ·rw [if_neg c4] at H
     exact absurd H (by simp)
   ·rw [if_neg c3] at H
    have c3b0 : decide (x5_1 < (x0_1.length : Int)) = false := decide_eq_false c3
    clear c3
    simp only [Option.some.injEq, Prod.mk.injEq] at H
    obtain ⟨rfl, rfl⟩ := H
    obtain ⟨Ao9, co9, eo9⟩ := Kd.R_slice HO_0.out
    subst eo9
    go_wp2
    go_ret
    exact ⟨by first | rfl | (simp [errW_none, errW_some] <;> rfl) | (simp [*, errW_none, errW_some] <;> rfl), by (with_reducible repeat (first | apply Kd.R_alloc | apply Kd.R_drewN | apply Kd.R_drew)); exact HO_0.out, by repeat (first | (with_reducible first | exact HB.out | apply below_alloc | apply pw_below_drewN | apply below_drew1) | exact HB.out), by repeat (first | (with_reducible first | exact HK.out | apply Kept.alloc | apply Kept.drewN | apply Kept.drew) | exact HK.out)⟩

end Go.Proofs.Ytmfpaagjllaljaa.P
end
section
namespace Go.Proofs.Ytmfpaagjllaljaa.M
set_option linter.unusedVariables false
open Go.RowKit Go.Proofs.YtmfpaagjllaljaaW.PrintWords Go.Proofs.YtmfpaagjllaljaaW.PrintLast Go.Proofs.YtmfpaagjllaljaaW.PrintMore Go.Proofs.Ytmfpaagjllaljaa.P

/-- A number by its bits: those i < n of which p holds. -/
def maskN (p : Nat → Bool) : Nat → Nat
  | 0 => 0
  | n + 1 => maskN p n + (if p n then 2 ^ n else 0)
theorem maskN_lt (p : Nat → Bool) (n : Nat) : maskN p n < 2 ^ n := by
  induction n with
  | zero => simp [maskN]
  | succ n ih =>
    unfold maskN
    rw [Nat.pow_succ]
    split <;> omega
theorem or_pow (a n : Nat) (h : a < 2 ^ n) : a ||| 2 ^ n = a + 2 ^ n := by
  have := Nat.two_pow_add_eq_or_of_lt h 1
  rw [Nat.mul_one] at this
  rw [Nat.or_comm, ← this, Nat.add_comm]
theorem maskN_testBit (p : Nat → Bool) (n : Nat) : ∀ i, (maskN p n).testBit i = (decide (i < n) && p i) := by
  induction n with
  | zero => intro i; simp [maskN]
  | succ n ih =>
    intro i
    have hlt := maskN_lt p n
    unfold maskN
    cases hp : p n with
    | false =>
      simp only [Bool.false_eq_true, if_false, Nat.add_zero]
      rw [ih i]
      by_cases e : i = n
      · subst e; simp [hp]
      · have : decide (i < n + 1) = decide (i < n) := by rw [decide_eq_decide]; omega
        rw [this]
    | true =>
      simp only [if_true]
      rw [← or_pow _ n hlt, Nat.testBit_or, ih i, Nat.testBit_two_pow]
      by_cases e : i = n
      · subst e; simp [hp]
      · have h1 : decide (i < n + 1) = decide (i < n) := by rw [decide_eq_decide]; omega
        have h2 : decide (n = i) = false := decide_eq_false (fun h => e h.symm)
        rw [h1, h2, Bool.or_false]
theorem maskN_congr {p q : Nat → Bool} {n : Nat} (h : ∀ i, i < n → p i = q i) : maskN p n = maskN q n := by
  induction n with
  | zero => rfl
  | succ n ih =>
    unfold maskN
    rw [ih (fun i hi => h i (by omega)), h n (by omega)]
theorem maskN_none {p : Nat → Bool} {n : Nat} (h : ∀ i, i < n → p i = false) : maskN p n = 0 := by
  induction n with
  | zero => rfl
  | succ n ih =>
    unfold maskN
    rw [ih (fun i hi => h i (by omega)), h n (by omega)]
    rfl
/-- One bit more. -/
theorem maskN_set {p q : Nat → Bool} {n b : Nat} (hb : b < n) (hp : p b = false) (hq : ∀ i, i < n → q i = (p i || decide (i = b))) : maskN q n = maskN p n + 2 ^ b := by
  induction n with
  | zero => omega
  | succ n ih =>
    unfold maskN
    by_cases e : b = n
    · subst e
      rw [maskN_congr (q := p) (fun i hi => by rw [hq i (by omega), decide_eq_false (by omega), Bool.or_false]), hq b (by omega), hp]
      simp
    · rw [ih (by omega) (fun i hi => hq i (by omega)), hq n (by omega), decide_eq_false (fun h => e h.symm), Bool.or_false]
      omega
theorem maskN_or {p q : Nat → Bool} {n b : Nat} (hb : b < n) (hq : ∀ i, i < n → q i = (p i || decide (i = b))) : maskN q n = maskN p n ||| 2 ^ b := by
  apply Nat.eq_of_testBit_eq
  intro i
  rw [Nat.testBit_or, maskN_testBit, maskN_testBit, Nat.testBit_two_pow]
  by_cases hi : i < n
  · rw [decide_eq_true hi, Bool.true_and, Bool.true_and, hq i hi]
    congr 1
    rw [decide_eq_decide]
    omega
  · rw [decide_eq_false hi, Bool.false_and, Bool.false_and, decide_eq_false (by omega)]
    rfl
/-- The lattice upside down. -/
def turnedN (up : List Int) : List Int := (List.range up.length).map fun j => ((maskN (fun b => le up (up.length - 1 - b) (up.length - 1 - j)) up.length : Nat) : Int)
def TurnedLatticeM (up : List Int) : List Int := if latB up = true then turnedN up else []
theorem TurnedLatticeM_len (up : List Int) : (TurnedLatticeM up).length ≤ 6 := by
  unfold TurnedLatticeM
  split
  · rename_i h; simpa [turnedN] using (latB_ok h).1.1
  · simp
/-- What has been asked: all elements ahead of x, and x with the elements ahead of y. -/
def askT (up : List Int) (x y j b : Nat) : Bool := (decide (up.length - 1 - b < x) || (decide (up.length - 1 - b = x) && decide (up.length - 1 - j < y))) && le up (up.length - 1 - b) (up.length - 1 - j)
def rowsT (up : List Int) (x y : Nat) (s : List Int) : Prop := s.length = up.length ∧ ∀ j, j < up.length → s[j]? = some ((maskN (askT up x y j) up.length : Nat) : Int)
theorem rowsT_next {up : List Int} {x : Nat} {s : List Int} (hx : x < up.length) (h : rowsT up x up.length s) : rowsT up (x + 1) 0 s := by
  refine ⟨h.1, fun j hj => ?_⟩
  rw [h.2 j hj]
  congr 2
  apply maskN_congr
  intro b hb
  unfold askT
  congr 1
  rw [decide_eq_true (p := up.length - 1 - j < up.length) (by omega), Bool.and_true, decide_eq_false (p := up.length - 1 - j < 0) (by omega), Bool.and_false, Bool.or_false, Bool.eq_iff_iff, Bool.or_eq_true, decide_eq_true_eq, decide_eq_true_eq, decide_eq_true_eq]
  omega
theorem rowsT_skip {up : List Int} {x y : Nat} {s : List Int} (hx : x < up.length) (hy : y < up.length) (h : rowsT up x y s) (hn : le up x y = false) : rowsT up x (y + 1) s := by
  refine ⟨h.1, fun j hj => ?_⟩
  rw [h.2 j hj]
  congr 2
  apply maskN_congr
  intro b hb
  unfold askT
  by_cases e : up.length - 1 - b = x ∧ up.length - 1 - j = y
  · rw [e.1, e.2, hn, Bool.and_false, Bool.and_false]
  · congr 2
    by_cases e1 : up.length - 1 - b = x
    · rw [decide_eq_true e1, Bool.true_and, Bool.true_and, decide_eq_decide]
      omega
    · rw [decide_eq_false e1, Bool.false_and, Bool.false_and]
theorem askT_one {up : List Int} {x y : Nat} (hx : x < up.length) (hy : y < up.length) (hn : le up x y = true) : askT up x y (up.length - 1 - y) (up.length - 1 - x) = false ∧ ∀ b, b < up.length → askT up x (y + 1) (up.length - 1 - y) b = (askT up x y (up.length - 1 - y) b || decide (b = up.length - 1 - x)) := by
  have e1 : up.length - 1 - (up.length - 1 - x) = x := by omega
  have e2 : up.length - 1 - (up.length - 1 - y) = y := by omega
  constructor
  · unfold askT
    rw [e1, e2, decide_eq_false (p := x < x) (by omega), decide_eq_false (p := y < y) (by omega), Bool.and_false, Bool.or_false, Bool.false_and]
  · intro b hb
    unfold askT
    rw [e2, decide_eq_true (p := y < y + 1) (by omega), decide_eq_false (p := y < y) (by omega), Bool.and_true, Bool.and_false, Bool.or_false]
    by_cases e : b = up.length - 1 - x
    · subst e
      rw [e1, hn, decide_eq_true (p := x = x) rfl, Bool.or_true, decide_eq_true (p := up.length - 1 - x = up.length - 1 - x) rfl, Bool.or_true]
      rfl
    · rw [decide_eq_false (p := up.length - 1 - b = x) (by omega), decide_eq_false e, Bool.or_false, Bool.or_false]
theorem rowsT_put {up : List Int} {x y : Nat} {s : List Int} (hx : x < up.length) (hy : y < up.length) (h : rowsT up x y s) (hn : le up x y = true) {v : Int} (hv : v = ((maskN (askT up x y (up.length - 1 - y)) up.length + 2 ^ (up.length - 1 - x) : Nat) : Int)) : rowsT up x (y + 1) (s.set (up.length - 1 - y) v) := by
  obtain ⟨f1, f2⟩ := askT_one hx hy hn
  refine ⟨by rw [List.length_set]; exact h.1, fun j hj => ?_⟩
  by_cases e : j = up.length - 1 - y
  · subst e
    rw [List.getElem?_set_self (by rw [h.1]; omega), hv, maskN_set (by omega) f1 f2]
  · rw [List.getElem?_set_ne (fun e' => e e'.symm), h.2 j hj]
    congr 2
    apply maskN_congr
    intro b hb
    unfold askT
    congr 3
    rw [decide_eq_decide]
    omega
theorem rowsT_rd {up : List Int} {x y : Nat} {s : List Int} (h : rowsT up x y s) {j : Nat} (hj : j < up.length) : rd s (j : Int) = ((maskN (askT up x y j) up.length : Nat) : Int) := by
  have := h.2 j hj
  rw [List.getElem?_eq_getElem (by rw [h.1]; exact hj)] at this
  rw [rd_lt (by rw [h.1]; exact hj)]
  exact Option.some.inj this
theorem rowsT_start (up : List Int) : rowsT up 0 0 (List.replicate up.length 0) := by
  refine ⟨by simp, fun j hj => ?_⟩
  rw [List.getElem?_replicate, if_pos hj]
  congr 1
  rw [maskN_none]
  · rfl
  · intro b hb
    unfold askT
    rw [decide_eq_false (p := up.length - 1 - b < 0) (by omega), decide_eq_false (p := up.length - 1 - j < 0) (by omega), Bool.and_false, Bool.or_false, Bool.false_and]
theorem rowsT_end {up : List Int} {s : List Int} (h : rowsT up up.length 0 s) : s = turnedN up := by
  apply List.ext_getElem?
  intro j
  by_cases hj : j < up.length
  · rw [h.2 j hj]
    simp only [turnedN, List.getElem?_map, List.getElem?_range hj, Option.map_some]
    congr 2
    apply maskN_congr
    intro b hb
    unfold askT
    rw [decide_eq_true (p := up.length - 1 - b < up.length) (by omega), Bool.true_or, Bool.true_and]
  · rw [List.getElem?_eq_none (by rw [h.1]; omega), List.getElem?_eq_none (by simp [turnedN]; omega)]
theorem spec_turned_ev {up : List Int} (hb : latB up = true) : Ev (fun k => spec_turned.f k up) (turnedN up) := by
  obtain ⟨h, h1⟩ := latB_ok hb
  have h6 := h.1
  unfold spec_turned.f
  refine Ev.pos (by omega) (Ev.pos (by omega) ?_)
  rw [Int.toNat_natCast]
  refine ev_inv2 (fun k (s : List Int) i => spec_turned.l0 k up (up.length : Int) s i) up.length (fun x s => rowsT up x 0 s) _ ?_ ?_ up.length 0 _ (by omega) (rowsT_start up)
  · intro x hx s hs k1
    refine Ev.step (fun k => by simp only [spec_turned.l0]; exact rfl) ?_
    refine Ev.pos (by omega) ?_
    refine ev_inv2 (fun k (s : List Int) i => spec_turned.l1 k up (up.length : Int) s (x : Int) i) up.length (fun y s => rowsT up x y s) _ ?_ ?_ up.length 0 _ (by omega) hs
    · intro y hy s hs k2
      refine Ev.step (fun k => by simp only [spec_turned.l1]; exact rfl) ?_
      refine Ev.pos (by omega) (Ev.bind (spec_below_ev h hx (by omega)) ?_)
      rw [w64s hy (by omega)]
      cases hA : le up x y with
      | false => exact Ev.neg (by decide) (k2 s (rowsT_skip hx hy hs hA))
      | true =>
        refine Ev.pos rfl ?_
        rw [w64 (x := (up.length : Int) - 1) (by omega) (by omega), w64 (x := (up.length : Int) - 1 - (y : Int)) (by omega) (by omega), w64 (x := (up.length : Int) - 1 - (x : Int)) (by omega) (by omega),
          show (up.length : Int) - 1 - (y : Int) = ((up.length - 1 - y : Nat) : Int) by omega, show (up.length : Int) - 1 - (x : Int) = ((up.length - 1 - x : Nat) : Int) by omega]
        refine Ev.pos (by omega) (Ev.pos (by rw [hs.1]; omega) (Ev.bind (power_ev _ (by omega)) ?_))
        rw [Int.toNat_natCast, rowsT_rd hs (by omega)]
        have m1 := maskN_lt (askT up x y (up.length - 1 - y)) up.length
        have m2 : 2 ^ up.length ≤ 2 ^ 6 := Nat.pow_le_pow_right (by decide) h6
        have m3 : 2 ^ (up.length - 1 - x) ≤ 2 ^ 6 := Nat.pow_le_pow_right (by decide) (by omega)
        have m4 : 0 < 2 ^ (up.length - 1 - x) := Nat.two_pow_pos _
        rw [w64 (by omega) (by omega)]
        exact k2 _ (rowsT_put hx hy hs hA (by omega))
    · intro s hs
      refine Ev.step (fun k => by simp only [spec_turned.l1]; exact rfl) ?_
      refine Ev.neg (by omega) ?_
      rw [w64s hx (by omega)]
      exact k1 s (rowsT_next hx hs)
  · intro s hs
    refine Ev.step (fun k => by simp only [spec_turned.l0]; exact rfl) ?_
    rw [rowsT_end hs]
    exact Ev.neg (by omega) (Ev.some _)
theorem spec_TurnedLattice_ev (up : List Int) (hl : up.length ≤ 17592186044416) : Ev (fun k => spec_TurnedLattice.f k up) (TurnedLatticeM up) := by
  unfold spec_TurnedLattice.f TurnedLatticeM
  refine Ev.bind (spec_validLattice_ev up hl) ?_
  cases hb : latB up with
  | false => exact Ev.neg (by decide) (Ev.some _)
  | true =>
    rw [if_pos rfl]
    exact Ev.pos rfl (Ev.bind (spec_turned_ev hb) (Ev.some _))
theorem impl_TurnedLattice_ev (up : List Int) (hl : up.length ≤ 17592186044416) : Ev (fun k => impl_TurnedLattice.f k up) (TurnedLatticeM up) := by
  unfold impl_TurnedLattice.f TurnedLatticeM
  refine Ev.bind (impl_ValidLattice_ev up hl) ?_
  cases hb : latB up with
  | false => exact Ev.neg (by decide) (Ev.some _)
  | true =>
    obtain ⟨h, h1⟩ := latB_ok hb
    have h6 := h.1
    rw [if_pos rfl]
    refine Ev.pos rfl (Ev.pos (by omega) (Ev.pos (by omega) ?_))
    rw [Int.toNat_natCast, w64 (x := (up.length : Int) - 1) (by omega) (by omega)]
    refine ev_inv2 (fun k (s : List Int) i => impl_TurnedLattice.l0 k up ((up.length : Int) - 1) s (up.length : Int) i) up.length (fun x s => rowsT up x 0 s) _ ?_ ?_ up.length 0 _ (by omega) (rowsT_start up)
    · intro x hx s hs k1
      refine Ev.step (fun k => by simp only [impl_TurnedLattice.l0]; exact rfl) ?_
      refine Ev.pos (by omega) ?_
      refine ev_inv2 (fun k (s : List Int) i => impl_TurnedLattice.l1 k up ((up.length : Int) - 1) s (x : Int) (up.length : Int) (x : Int) (up.length : Int) i) up.length (fun y s => rowsT up x y s) _ ?_ ?_ up.length 0 _ (by omega) hs
      · intro y hy s hs k2
        refine Ev.step (fun k => by simp only [impl_TurnedLattice.l1]; exact rfl) ?_
        refine Ev.pos (by omega) (Ev.bindc (impl_below_eq h hx) ?_)
        rw [w64s hy (by omega)]
        cases hA : le up x y with
        | false => exact Ev.neg (by decide) (k2 s (rowsT_skip hx hy hs hA))
        | true =>
          refine Ev.pos rfl ?_
          rw [w64 (x := (up.length : Int) - 1 - (y : Int)) (by omega) (by omega), w64 (x := (up.length : Int) - 1 - (x : Int)) (by omega) (by omega),
            show (up.length : Int) - 1 - (y : Int) = ((up.length - 1 - y : Nat) : Int) by omega, show (up.length : Int) - 1 - (x : Int) = ((up.length - 1 - x : Nat) : Int) by omega]
          refine Ev.pos (by omega) (Ev.pos (by rw [hs.1]; omega) (Ev.pos (by omega) ?_))
          rw [Int.toNat_natCast, rowsT_rd hs (by omega), shl1 _ (by omega)]
          have m1 := maskN_lt (askT up x y (up.length - 1 - y)) up.length
          have m2 : 2 ^ up.length ≤ 2 ^ 6 := Nat.pow_le_pow_right (by decide) h6
          have m3 : 2 ^ (up.length - 1 - x) ≤ 2 ^ 6 := Nat.pow_le_pow_right (by decide) (by omega)
          obtain ⟨f1, f2⟩ := askT_one hx hy hA
          rw [bitsOr _ _ (by omega) (by omega), ← maskN_or (by omega) f2, maskN_set (by omega) f1 f2]
          exact k2 _ (rowsT_put hx hy hs hA rfl)
      · intro s hs
        refine Ev.step (fun k => by simp only [impl_TurnedLattice.l1]; exact rfl) ?_
        refine Ev.neg (by omega) ?_
        rw [w64s hx (by omega)]
        exact k1 s (rowsT_next hx hs)
    · intro s hs
      refine Ev.step (fun k => by simp only [impl_TurnedLattice.l0]; exact rfl) ?_
      rw [rowsT_end hs]
      exact Ev.neg (by omega) (Ev.some _)
end Go.Proofs.Ytmfpaagjllaljaa.M
end
section
namespace Go.Proofs.Ytmfpaagjllaljaa.M
set_option linter.unusedVariables false
open Go.RowKit Go.Proofs.YtmfpaagjllaljaaW.PrintWords Go.Proofs.YtmfpaagjllaljaaW.PrintLast Go.Proofs.YtmfpaagjllaljaaW.PrintMore Go.Proofs.Ytmfpaagjllaljaa.P

theorem bitsXor (a b : Int) (ha : 0 ≤ a ∧ a < 2 ^ 62) (hb : 0 ≤ b ∧ b < 2 ^ 62) : 0 ≤ bits .xor .i64 a b := by
  obtain ⟨a, rfl⟩ : ∃ n : Nat, a = (n : Int) := ⟨a.toNat, by omega⟩
  obtain ⟨b, rfl⟩ : ∃ n : Nat, b = (n : Int) := ⟨b.toNat, by omega⟩
  have ha' : a < 2 ^ 62 := by omega
  have hb' : b < 2 ^ 62 := by omega
  have hlt : (BitVec.ofNat 64 a ^^^ BitVec.ofNat 64 b).toNat < 2 ^ 62 := by
    rw [BitVec.toNat_xor, BitVec.toNat_ofNat, BitVec.toNat_ofNat, Nat.mod_eq_of_lt (by omega), Nat.mod_eq_of_lt (by omega)]
    exact Nat.xor_lt_two_pow ha' hb'
  have e : bits .xor .i64 (a : Int) (b : Int) = IntKind.i64.wrap ((BitVec.ofNat 64 a ^^^ BitVec.ofNat 64 b).toNat : Int) := by
    show IntKind.i64.wrap _ = _
    rw [BitVec.ofInt_natCast, BitVec.ofInt_natCast]
    rfl
  rw [e, wraps62 _ (Int.natCast_nonneg _) (Int.ofNat_lt.mpr hlt)]
  exact Int.natCast_nonneg _
theorem tmod_in (x m : Int) (hx : 0 ≤ x) (hm : 1 ≤ m) : 0 ≤ Int.tmod x m ∧ Int.tmod x m < m := by
  rw [Int.tmod_eq_emod_of_nonneg hx]
  exact ⟨Int.emod_nonneg _ (by omega), Int.emod_lt_of_pos _ (by omega)⟩
/-- A reader's bytes. -/
def OkS (src : List Int) : Prop := src.length ≤ 2000 ∧ ∀ x ∈ src, 0 ≤ x ∧ x ≤ 255
theorem OkS.byte {src : List Int} (h : OkS src) {i : Nat} (hi : i < src.length) : 0 ≤ rd src (i : Int) ∧ rd src (i : Int) ≤ 255 := h.2 _ (rd_mem hi)
theorem pick_ev {src : List Int} (hs : OkS src) (n : Nat) (hn : n ≤ 1099511627776) (m : Int) (hm : m ≤ 4611686018427387904) : ∃ v : Int, (m < 1 → v = 0) ∧ (1 ≤ m → 0 ≤ v ∧ v < m) ∧ Ev (fun k => spec_reader_pick.f k src (n : Int) m) (v, ((n + 1 : Nat) : Int)) := by
  unfold spec_reader_pick.f
  have h1 : wrap64 ((n : Int) + 1) = ((n + 1 : Nat) : Int) := by rw [w64 (by omega) (by omega)]; omega
  have h2 : wrap64 (((n + 1 : Nat) : Int) - 1) = (n : Int) := by rw [w64 (by omega) (by omega)]; omega
  rw [h1]
  by_cases c : m < 1
  · refine ⟨0, fun _ => rfl, fun h => by omega, Ev.pos c ?_⟩
    refine Ev.step (fun k => by simp only [spec_reader_pick.j0]; exact rfl) ?_
    exact Ev.pos trivial (Ev.some _)
  by_cases c0 : src.length = 0
  · refine ⟨0, fun _ => rfl, fun h => by omega, Ev.neg c ?_⟩
    refine Ev.step (fun k => by simp only [spec_reader_pick.j0]; exact rfl) ?_
    exact Ev.pos (by rw [beq_iff_eq]; omega) (Ev.some _)
  by_cases c1 : n < src.length
  · apply Exists.intro
    refine And.intro (fun h => absurd h c) (And.intro ?b (Ev.neg c ?e))
    case e =>
      refine Ev.step (fun k => by simp only [spec_reader_pick.j0]; exact rfl) ?_
      rw [h2]
      exact Ev.neg (by rw [beq_iff_eq]; omega) (Ev.pos (by omega) (Ev.pos (by omega) (Ev.neg (by omega) (Ev.some _))))
    case b =>
      intro h
      have := hs.byte c1
      rw [w64 (by omega) (by omega)]
      exact tmod_in _ _ this.1 h
  · have hpos : 0 < src.length := by omega
    have e1 : Int.tmod (n : Int) (src.length : Int) = ((n % src.length : Nat) : Int) := by rw [Int.tmod_eq_emod_of_nonneg (by omega)]; rfl
    have e2 : wrap64 (wrap64 ((n : Int) * 7) + 3) = ((n * 7 + 3 : Nat) : Int) := by rw [w64 (x := (n : Int) * 7) (by omega) (by omega), w64 (by omega) (by omega)]; omega
    have e3 : Int.tmod ((n * 7 + 3 : Nat) : Int) (src.length : Int) = (((n * 7 + 3) % src.length : Nat) : Int) := by rw [Int.tmod_eq_emod_of_nonneg (by omega)]; rfl
    have e4 : Int.tdiv (n : Int) (src.length : Int) = ((n / src.length : Nat) : Int) := by rw [Int.tdiv_eq_ediv_of_nonneg (by omega)]; rfl
    have b1 := hs.byte (Nat.mod_lt n hpos)
    have b2 := hs.byte (Nat.mod_lt (n * 7 + 3) hpos)
    have b3 : n / src.length ≤ n := Nat.div_le_self _ _
    have l1 := Nat.mod_lt n hpos
    have l2 := Nat.mod_lt (n * 7 + 3) hpos
    apply Exists.intro
    refine And.intro (fun h => absurd h c) (And.intro ?b (Ev.neg c ?e))
    case e =>
      refine Ev.step (fun k => by simp only [spec_reader_pick.j0]; exact rfl) ?_
      rw [h2, e2, e1, e3, e4]
      exact Ev.neg (by rw [beq_iff_eq]; omega) (Ev.neg (by omega) (Ev.neg (by omega) (Ev.pos (by omega) (Ev.pos (by omega) (Ev.pos (by omega) (Ev.pos (by omega) (Ev.neg (by omega) (Ev.some _))))))))
    case b =>
      intro h
      generalize rd src ((n % src.length : Nat) : Int) = u at *
      generalize rd src (((n * 7 + 3) % src.length : Nat) : Int) = v at *
      generalize n / src.length = q at *
      rw [w64 (x := u) (by omega) (by omega), w64 (x := v) (by omega) (by omega), w64 (x := u * 131) (by omega) (by omega), w64 (x := v * 1117) (by omega) (by omega), w64 (x := (n : Int) * 29) (by omega) (by omega), w64 (x := (q : Int)) (by omega) (by omega), w64 (x := (q : Int) * 53) (by omega) (by omega), w64 (x := u * 131 + v * 1117) (by omega) (by omega), w64 (x := u * 131 + v * 1117 + (n : Int) * 29) (by omega) (by omega), w64 (x := u * 131 + v * 1117 + (n : Int) * 29 + (q : Int) * 53) (by omega) (by omega)]
      refine tmod_in _ _ (bitsXor _ _ ⟨by omega, by omega⟩ ?_) h
      rw [Int.tdiv_eq_ediv_of_nonneg (by omega), w64 (by omega) (by omega)]
      omega
theorem one_ev {src : List Int} (hs : OkS src) (n : Nat) (hn : n ≤ 1099511627776) (l : List Int) (h0 : l ≠ []) (hl : l.length ≤ 17592186044416) : ∃ v, v ∈ l ∧ Ev (fun k => spec_reader_one.f k src (n : Int) l) (v, ((n + 1 : Nat) : Int)) := by
  have hp : 0 < l.length := List.length_pos_iff.mpr h0
  obtain ⟨v, _, hv, he⟩ := pick_ev hs n hn (l.length : Int) (by omega)
  have h := hv (by omega)
  obtain ⟨i, rfl⟩ : ∃ i : Nat, v = (i : Int) := ⟨v.toNat, by omega⟩
  refine ⟨rd l (i : Int), rd_mem (by omega), ?_⟩
  unfold spec_reader_one.f
  exact Ev.bind he (Ev.pos (by omega) (Ev.pos (by omega) (Ev.some _)))
theorem reader_eq (l : List Int) (hw : ∀ x ∈ l, (Lit.int .u8 x).wf = true) : ∃ src, spec_newReader.f l = some (src, 0) ∧ OkS src := by
  have hb : ∀ x ∈ l, 0 ≤ x ∧ x ≤ 255 := by
    intro x hx
    have := hw x hx
    have e1 : IntKind.u8.min = 0 := by decide
    have e2 : IntKind.u8.max = 255 := by decide
    simp [Lit.wf] at this
    omega
  unfold spec_newReader.f
  by_cases c : (l.length : Int) > 2000
  · rw [if_pos c, if_pos (by omega)]
    exact ⟨_, rfl, by rw [List.length_take]; omega, fun x hx => hb x (List.mem_of_mem_take hx)⟩
  · rw [if_neg c]
    exact ⟨_, rfl, by omega, hb⟩
end Go.Proofs.Ytmfpaagjllaljaa.M

/- All lattices, as the reference lists them: what the list holds, and that it isn't empty. -/
namespace Go.Proofs.Ytmfpaagjllaljaa.M
set_option linter.unusedVariables false
open Go.RowKit Go.Proofs.YtmfpaagjllaljaaW.PrintWords Go.Proofs.YtmfpaagjllaljaaW.PrintLast Go.Proofs.YtmfpaagjllaljaaW.PrintMore Go.Proofs.Ytmfpaagjllaljaa.P

def okRow (x row : Nat) : Bool := decide (row % 2 ^ x = 0) && row.testBit x
def flatR (g : Nat → List (List Int)) (x : Nat) : Nat → Nat → List (List Int)
  | 0, _ => []
  | c + 1, i => (if okRow x i then g i else []) ++ flatR g x c (i + 1)
def latF (n : Nat) : Nat → List Int → List (List Int)
  | 0, head => if latB head then [head] else []
  | d + 1, head => flatR (fun row => latF n d (head ++ [(row : Int)])) head.length (2 ^ n - 2 ^ head.length) (2 ^ head.length)
theorem flatR_len (g : Nat → List (List Int)) (x B : Nat) (h : ∀ i, (g i).length ≤ B) : ∀ c i, (flatR g x c i).length ≤ c * B := by
  intro c
  induction c with
  | zero => intro i; simp [flatR]
  | succ c ih =>
    intro i
    have h1 := ih (i + 1)
    have h2 := h i
    unfold flatR
    rw [List.length_append, Nat.succ_mul]
    split
    · omega
    · rw [List.length_nil]; omega
theorem flatR_mem {g : Nat → List (List Int)} {x : Nat} {l : List Int} : ∀ c i, l ∈ flatR g x c i ↔ ∃ j, i ≤ j ∧ j < i + c ∧ okRow x j = true ∧ l ∈ g j := by
  intro c
  induction c with
  | zero => intro i; simp [flatR]; intro j h1 h2; omega
  | succ c ih =>
    intro i
    unfold flatR
    rw [List.mem_append, ih]
    constructor
    · rintro (h | ⟨j, h1, h2, h3, h4⟩)
      · by_cases e : okRow x i = true
        · rw [if_pos e] at h
          exact ⟨i, Nat.le_refl _, by omega, e, h⟩
        · rw [if_neg e] at h
          cases h
      · exact ⟨j, by omega, by omega, h3, h4⟩
    · rintro ⟨j, h1, h2, h3, h4⟩
      by_cases e : j = i
      · subst e
        left
        rw [if_pos h3]
        exact h4
      · exact .inr ⟨j, by omega, by omega, h3, h4⟩
theorem latF_len (n : Nat) (hn : n ≤ 6) : ∀ d head, (latF n d head).length ≤ 64 ^ d := by
  intro d
  induction d with
  | zero =>
    intro head
    unfold latF
    split <;> simp
  | succ d ih =>
    intro head
    unfold latF
    refine Nat.le_trans (flatR_len _ _ (64 ^ d) (fun i => ih _) _ _) ?_
    have : 2 ^ n ≤ 2 ^ 6 := Nat.pow_le_pow_right (by decide) hn
    rw [Nat.pow_succ, Nat.mul_comm]
    exact Nat.mul_le_mul_left _ (by have := Nat.sub_le (2 ^ n) (2 ^ head.length); omega)
theorem latF_mem (n : Nat) : ∀ d head l, l ∈ latF n d head → latB l = true ∧ l.length = head.length + d := by
  intro d
  induction d with
  | zero =>
    intro head l h
    unfold latF at h
    split at h
    · rename_i e
      obtain rfl := List.mem_singleton.1 h
      exact ⟨e, rfl⟩
    · cases h
  | succ d ih =>
    intro head l h
    unfold latF at h
    obtain ⟨j, _, _, _, h4⟩ := (flatR_mem _ _).1 h
    have := ih _ _ h4
    rw [List.length_append] at this
    exact ⟨this.1, by simp at this; omega⟩
theorem latF_has (n : Nat) (full : List Int) (hl : full.length = n) (hf : latB full = true) (hr : ∀ y, y < n → ∃ r : Nat, full[y]? = some (r : Int) ∧ okRow y r = true ∧ 2 ^ y ≤ r ∧ r < 2 ^ n) : ∀ d x, x + d = n → full ∈ latF n d (full.take x) := by
  intro d
  induction d with
  | zero =>
    intro x hx
    unfold latF
    rw [List.take_of_length_le (by omega), if_pos hf]
    exact List.mem_singleton.2 rfl
  | succ d ih =>
    intro x hx
    unfold latF
    obtain ⟨r, h1, h2, h3, h4⟩ := hr x (by omega)
    have hlen : (full.take x).length = x := by rw [List.length_take]; omega
    rw [hlen]
    refine (flatR_mem _ _).2 ⟨r, h3, by omega, h2, ?_⟩
    have e : full.take x ++ [(r : Int)] = full.take (x + 1) := by
      rw [List.take_add_one, h1]
      rfl
    show full ∈ latF n d (full.take x ++ [(r : Int)])
    rw [e]
    exact ih (x + 1) (by omega)
theorem latF_has' (n : Nat) (fs : List Nat) (hl : fs.length = n) (hf : latB (fs.map fun (i : Nat) => (i : Int)) = true) (hr : (List.range n).all (fun y => okRow y (fs.getD y 0) && (decide (2 ^ y ≤ fs.getD y 0) && decide (fs.getD y 0 < 2 ^ n))) = true) : latF n n [] ≠ [] := by
  have h := latF_has n (fs.map fun (i : Nat) => (i : Int)) (by rw [List.length_map]; exact hl) hf ?_ n 0 (by omega)
  · exact List.ne_nil_of_mem h
  · intro y hy
    have h := (List.all_eq_true.1 hr) y (List.mem_range.2 hy)
    rw [Bool.and_eq_true, Bool.and_eq_true, decide_eq_true_eq, decide_eq_true_eq] at h
    refine ⟨fs.getD y 0, ?_, h.1, h.2.1, h.2.2⟩
    rw [List.getElem?_map, List.getElem?_eq_getElem (by omega), List.getD_eq_getElem?_getD, List.getElem?_eq_getElem (by omega)]
    rfl
theorem latF_some (n : Nat) (h1 : 1 ≤ n) (h6 : n ≤ 6) : latF n n [] ≠ [] := by
  obtain rfl | rfl | rfl | rfl | rfl | rfl : n = 1 ∨ n = 2 ∨ n = 3 ∨ n = 4 ∨ n = 5 ∨ n = 6 := by omega
  · exact latF_has' 1 [1] rfl (by decide +kernel) (by decide +kernel)
  · exact latF_has' 2 [3, 2] rfl (by decide +kernel) (by decide +kernel)
  · exact latF_has' 3 [7, 6, 4] rfl (by decide +kernel) (by decide +kernel)
  · exact latF_has' 4 [15, 14, 12, 8] rfl (by decide +kernel) (by decide +kernel)
  · exact latF_has' 5 [31, 30, 28, 24, 16] rfl (by decide +kernel) (by decide +kernel)
  · exact latF_has' 6 [63, 62, 60, 56, 48, 32] rfl (by decide +kernel) (by decide +kernel)
theorem latF_ev (n : Nat) (hn : n ≤ 6) : ∀ d head, head.length + d = n → Ev (fun k => spec_latticesFrom.f k (n : Int) head) (latF n d head) := by
  intro d
  induction d with
  | zero =>
    intro head hd
    refine Ev.step (fun k => by simp only [spec_latticesFrom.f]; exact rfl) (Ev.pos (by omega) ?_)
    refine Ev.bind (spec_validLattice_ev head (by omega)) ?_
    unfold latF
    refine Ev.ite' (fun e => ?_) (fun e => ?_)
    · rw [if_pos e]
      exact Ev.bindc rfl (Ev.pos (by rw [List.length_nil]; omega) (Ev.some _))
    · rw [if_neg e]
      exact Ev.some _
  | succ d ih =>
    intro head hd
    refine Ev.step (fun k => by simp only [spec_latticesFrom.f]; exact rfl) (Ev.neg (by omega) ?_)
    refine Ev.bind (power_ev head.length (by omega)) ?_
    unfold latF
    have hp : 2 ^ head.length ≤ 2 ^ n := Nat.pow_le_pow_right (by decide) (by omega)
    have h6 : 2 ^ n ≤ 2 ^ 6 := Nat.pow_le_pow_right (by decide) hn
    have hx0 : 0 < 2 ^ head.length := Nat.two_pow_pos _
    have hB0 : 0 ≤ 64 ^ d := Nat.zero_le _
    have hB : 64 ^ d ≤ 64 ^ 5 := Nat.pow_le_pow_right (by decide) (by omega)
    have key : ∀ (c i : Nat) (out : List (List Int)), i + c = 2 ^ n → out.length + c * 64 ^ d ≤ 64 * 64 ^ 5 → Ev (fun k => spec_latticesFrom.l0 k (n : Int) head (head.length : Int) out (i : Int)) (out ++ flatR (fun row => latF n d (head ++ [(row : Int)])) head.length c i) := by
      intro c
      induction c with
      | zero =>
        intro i out hi ho
        refine Ev.step (fun k => by simp only [spec_latticesFrom.l0]; exact rfl) (Ev.bind (power_ev n (by omega)) ?_)
        refine Ev.neg (by omega) ?_
        exact Ev.eq (Ev.some _) (by simp [flatR])
      | succ c ihc =>
        intro i out hi ho
        rw [Nat.succ_mul] at ho
        refine Ev.step (fun k => by simp only [spec_latticesFrom.l0]; exact rfl) (Ev.bind (power_ev n (by omega)) ?_)
        refine Ev.pos (by omega) (Ev.bind (power_ev head.length (by omega)) ?_)
        refine Ev.neg (by omega) ?_
        rw [w64s (n := 2 ^ n) (by omega) (by omega)]
        have skip : okRow head.length i = false → Ev (fun k => spec_latticesFrom.l0 k (n : Int) head (head.length : Int) out ((i + 1 : Nat) : Int)) (out ++ flatR (fun row => latF n d (head ++ [(row : Int)])) head.length (c + 1) i) := by
          intro e
          unfold flatR
          rw [if_neg (by rw [e]; decide), List.nil_append]
          exact ihc (i + 1) out (by omega) (by omega)
        have em : Int.tmod (i : Int) ((2 ^ head.length : Nat) : Int) = ((i % 2 ^ head.length : Nat) : Int) := by rw [Int.tmod_eq_emod_of_nonneg (by omega)]; rfl
        rw [em]
        refine Ev.ite' (fun e => ?_) (fun e => skip (by rw [okRow, decide_eq_false (by omega)]; rfl))
        refine Ev.bind (bit_ev i head.length (by omega) (by omega)) ?_
        cases hb : i.testBit head.length with
        | false =>
          rw [if_neg (by decide)]
          exact Ev.neg (by decide) (skip (by rw [okRow, hb, Bool.and_false]))
        | true =>
          rw [if_pos rfl]
          refine Ev.pos rfl (Ev.bindc rfl (Ev.pos (by rw [List.length_nil]; omega) (Ev.bindc rfl (Ev.pos (by rw [List.nil_append]; omega) ?_))))
          rw [List.nil_append]
          refine Ev.bind (ih (head ++ [(i : Int)]) (by simp; omega)) ?_
          have hlen := latF_len n hn d (head ++ [(i : Int)])
          refine Ev.pos (by omega) ?_
          have := ihc (i + 1) (out ++ latF n d (head ++ [(i : Int)])) (by omega) (by rw [List.length_append]; omega)
          unfold flatR
          rw [if_pos (by rw [okRow, hb, decide_eq_true (by omega)]; rfl), ← List.append_assoc]
          exact this
    have h := key (2 ^ n - 2 ^ head.length) (2 ^ head.length) [] (by omega) (by
      rw [List.length_nil, Nat.zero_add]
      exact Nat.mul_le_mul (by omega) hB)
    rwa [List.nil_append] at h
end Go.Proofs.Ytmfpaagjllaljaa.M

/- The lattices that are drawn: some list of at most seven numbers, whichever. -/
namespace Go.Proofs.Ytmfpaagjllaljaa.M
set_option linter.unusedVariables false
open Go.RowKit Go.Proofs.YtmfpaagjllaljaaW.PrintWords Go.Proofs.YtmfpaagjllaljaaW.PrintLast Go.Proofs.YtmfpaagjllaljaaW.PrintMore Go.Proofs.Ytmfpaagjllaljaa.P

def BIG : Nat := 1099511627776
theorem chain_run : ∀ n : Nat, 1 ≤ n → n ≤ 6 → ∃ l : List Int, l ≠ [] ∧ l.length ≤ 6 ∧ spec_chain.f 40 (n : Int) = some l := by
  intro n h1 h6
  obtain rfl | rfl | rfl | rfl | rfl | rfl : n = 1 ∨ n = 2 ∨ n = 3 ∨ n = 4 ∨ n = 5 ∨ n = 6 := by omega
  · exact ⟨[1], by decide, by decide, by decide +kernel⟩
  · exact ⟨[3, 2], by decide, by decide, by decide +kernel⟩
  · exact ⟨[7, 6, 4], by decide, by decide, by decide +kernel⟩
  · exact ⟨[15, 14, 12, 8], by decide, by decide, by decide +kernel⟩
  · exact ⟨[31, 30, 28, 24, 16], by decide, by decide, by decide +kernel⟩
  · exact ⟨[63, 62, 60, 56, 48, 32], by decide, by decide, by decide +kernel⟩
theorem chain_pick_ev (v m : Int) (hv : 0 ≤ v ∧ v < m) (hm : m ≤ 6) : ∃ l : List Int, l ≠ [] ∧ l.length ≤ 6 ∧ Ev (fun k => spec_chain.f k (wrap64 (1 + v))) l := by
  rw [w64 (by omega) (by omega)]
  obtain ⟨n, hn⟩ : ∃ n : Nat, 1 + v = (n : Int) := ⟨(1 + v).toNat, by omega⟩
  rw [hn]
  obtain ⟨l, h1, h2, h3⟩ := chain_run n (by omega) (by omega)
  exact ⟨l, h1, h2, Ev.of (spec_chain.mono _) h3⟩
theorem cross_run (v : Int) (hv : 0 ≤ v ∧ v < 3) : ∃ a b l : List Int, l ≠ [] ∧ l.length ≤ 6 ∧ Ev (fun k => spec_chain.f k 2) a ∧ Ev (fun k => spec_chain.f k (wrap64 (1 + v))) b ∧ Ev (fun k => spec_cross.f k a b) l := by
  obtain rfl | rfl | rfl : v = 0 ∨ v = 1 ∨ v = 2 := by omega
  · exact ⟨[3, 2], [1], [3, 2], by decide, by decide, Ev.of (spec_chain.mono _) (k := 40) (by decide +kernel), Ev.of (spec_chain.mono _) (k := 40) (by decide +kernel), Ev.of (spec_cross.mono _ _) (k := 100) (by decide +kernel)⟩
  · exact ⟨[3, 2], [3, 2], [15, 10, 12, 8], by decide, by decide, Ev.of (spec_chain.mono _) (k := 40) (by decide +kernel), Ev.of (spec_chain.mono _) (k := 40) (by decide +kernel), Ev.of (spec_cross.mono _ _) (k := 100) (by decide +kernel)⟩
  · exact ⟨[3, 2], [7, 6, 4], [63, 54, 36, 56, 48, 32], by decide, by decide, Ev.of (spec_chain.mono _) (k := 40) (by decide +kernel), Ev.of (spec_chain.mono _) (k := 40) (by decide +kernel), Ev.of (spec_cross.mono _ _) (k := 100) (by decide +kernel)⟩
theorem turnedN_length (up : List Int) : (turnedN up).length = up.length := by simp [turnedN]
/-- A list out of all lattices of n elements. -/
theorem pick_lat {src : List Int} (hs : OkS src) (n : Nat) (hn : n ≤ BIG) (d : Nat) (h1 : 1 ≤ d) (h6 : d ≤ 6) : ∃ v : Int, (0 ≤ v ∧ v < ((latF d d []).length : Int)) ∧ latB (rd_L2 (latF d d []) v) = true ∧ (rd_L2 (latF d d []) v).length = d ∧ Ev (fun k => spec_reader_pick.f k src (n : Int) ((latF d d []).length : Int)) (v, ((n + 1 : Nat) : Int)) := by
  have hlen := latF_len d h6 d []
  have hp : 64 ^ d ≤ 64 ^ 6 := Nat.pow_le_pow_right (by decide) h6
  have h0 : 0 < (latF d d []).length := List.length_pos_iff.mpr (latF_some d h1 h6)
  obtain ⟨v, _, hv, he⟩ := pick_ev hs n hn ((latF d d []).length : Int) (by omega)
  have hv := hv (by omega)
  obtain ⟨i, rfl⟩ : ∃ i : Nat, v = (i : Int) := ⟨v.toNat, by omega⟩
  have hi : i < (latF d d []).length := by omega
  have hm : rd_L2 (latF d d []) (i : Int) ∈ latF d d [] := by
    have e : rd_L2 (latF d d []) (i : Int) = (latF d d [])[i] := by simp [rd_L2, hi]
    rw [e]
    exact List.getElem_mem hi
  have := latF_mem d d [] _ hm
  exact ⟨(i : Int), hv, this.1, by simpa using this.2, he⟩
theorem good_draw {src : List Int} (hs : OkS src) (n : Nat) (hn : n + 10 ≤ BIG) : ∃ (up : List Int) (m : Nat), up ≠ [] ∧ up.length ≤ 6 ∧ m ≤ n + 10 ∧ Ev (fun k => spec_goodLattice.f k src (n : Int)) (up, (m : Int)) := by
  unfold BIG at hn
  unfold spec_goodLattice.f
  obtain ⟨v, _, hv, he⟩ := pick_ev hs n (by omega) 6 (by decide)
  have hv := hv (by decide)
  by_cases c0 : v = 0
  · subst c0
    obtain ⟨v2, _, hv2, he2⟩ := pick_ev hs (n + 1) (by omega) 6 (by decide)
    obtain ⟨l, l1, l2, l3⟩ := chain_pick_ev v2 6 (hv2 (by decide)) (by decide)
    exact ⟨l, n + 1 + 1, l1, l2, by omega, Ev.bind he (Ev.pos rfl (Ev.bind he2 (Ev.bind l3 (Ev.some _))))⟩
  by_cases c1 : v = 1
  · subst c1
    obtain ⟨v2, _, hv2, he2⟩ := pick_ev hs (n + 1) (by omega) 3 (by decide)
    obtain ⟨a, b, l, l1, l2, l3, l4, l5⟩ := cross_run v2 (hv2 (by decide))
    exact ⟨l, n + 1 + 1, l1, l2, by omega, Ev.bind he (Ev.neg c0 (Ev.pos rfl (Ev.bind l3 (Ev.bind he2 (Ev.bind l4 (Ev.bind l5 (Ev.some _)))))))⟩
  by_cases c2 : v = 2
  · subst c2
    obtain ⟨v2, hv2, g1, g2, he2⟩ := pick_lat hs (n + 1) (by unfold BIG; omega) 4 (by decide) (by decide)
    refine ⟨turnedN (rd_L2 (latF 4 4 []) v2), n + 1 + 1, ?_, ?_, by omega, ?_⟩
    · intro e
      have := turnedN_length (rd_L2 (latF 4 4 []) v2)
      rw [e, g2] at this
      cases this
    · rw [turnedN_length, g2]; decide
    · exact Ev.bind he (Ev.neg c0 (Ev.neg c1 (Ev.pos rfl (Ev.bind (latF_ev 4 (by decide) 4 [] rfl) (Ev.bind he2 (Ev.pos hv2.1 (Ev.pos hv2.2 (Ev.bind (spec_turned_ev g1) (Ev.some _)))))))))
  · obtain ⟨d, hd, he2⟩ := one_ev hs (n + 1) (by omega) [5, 4, 5, 3, 2, 1] (by simp) (by decide)
    obtain ⟨d, rfl, d1, d6⟩ : ∃ d' : Nat, d = (d' : Int) ∧ 1 ≤ d' ∧ d' ≤ 6 := by
      simp only [List.mem_cons, List.not_mem_nil, or_false] at hd
      exact ⟨d.toNat, by omega, by omega, by omega⟩
    obtain ⟨v2, hv2, g1, g2, he3⟩ := pick_lat hs (n + 1 + 1) (by unfold BIG; omega) d d1 d6
    refine ⟨rd_L2 (latF d d []) v2, n + 1 + 1 + 1, ?_, by omega, by omega, ?_⟩
    · intro e
      rw [e] at g2
      simp at g2
      omega
    · exact Ev.bind he (Ev.neg c0 (Ev.neg c1 (Ev.neg c2 (Ev.bind he2 (Ev.bind (latF_ev d d6 d [] (by simp)) (Ev.bind he3 (Ev.pos hv2.1 (Ev.pos hv2.2 (Ev.some _)))))))))
theorem one2_ev {src : List Int} (hs : OkS src) (n : Nat) (hn : n ≤ BIG) (ls : List (List Int)) (h0 : ls ≠ []) (hl : ls.length ≤ 100) (h7 : ∀ l ∈ ls, l.length ≤ 7) : ∃ l : List Int, l.length ≤ 7 ∧ Ev (fun k => spec_reader_one2.f k src (n : Int) ls) (l, ((n + 1 : Nat) : Int)) := by
  have hp : 0 < ls.length := List.length_pos_iff.mpr h0
  obtain ⟨v, _, hv, he⟩ := pick_ev hs n hn (ls.length : Int) (by omega)
  have hv := hv (by omega)
  obtain ⟨i, rfl⟩ : ∃ i : Nat, v = (i : Int) := ⟨v.toNat, by omega⟩
  have hi : i < ls.length := by omega
  have e : rd_L2 ls (i : Int) = ls[i] := by simp [rd_L2, hi]
  have hm : (rd_L2 ls (i : Int)).length ≤ 7 := by rw [e]; exact h7 _ (List.getElem_mem hi)
  refine ⟨rd_L2 ls (i : Int), hm, ?_⟩
  unfold spec_reader_one2.f
  exact Ev.bindc rfl (Ev.bind he (Ev.pos (by omega) (Ev.pos (by omega) (Ev.pos (by show 0 + (rd_L2 ls (i : Int)).length < _; omega) (Ev.some _)))))
theorem some_draw {src : List Int} (hs : OkS src) (n : Nat) (hn : n + 20 ≤ BIG) : ∃ (up : List Int) (m : Nat), up.length ≤ 7 ∧ m ≤ n + 20 ∧ Ev (fun k => spec_someLattice.f k src (n : Int)) (up, (m : Int)) := by
  obtain ⟨up, m, u1, u2, u3, u4⟩ := good_draw hs n (by omega)
  obtain ⟨v, _, hv, he⟩ := pick_ev hs m (by unfold BIG at hn; omega) 20 (by decide)
  have hv := hv (by decide)
  have h0 : 0 < up.length := List.length_pos_iff.mpr u1
  unfold spec_someLattice.f
  by_cases c0 : v = 0
  · obtain ⟨v2, _, hv2, he2⟩ := pick_ev hs (m + 1) (by unfold BIG at hn; omega) (up.length : Int) (by omega)
    have hv2 := hv2 (by omega)
    obtain ⟨z, _, he3⟩ := one_ev hs (m + 1 + 1) (by unfold BIG at hn; omega) [0, 1, 63, (-1), 64] (by simp) (by decide)
    refine ⟨up.set v2.toNat z, m + 1 + 1 + 1, by rw [List.length_set]; omega, by omega, ?_⟩
    refine Ev.bindc rfl (Ev.bind u4 (Ev.pos (by simp; omega) (Ev.bindc rfl (Ev.bind he ?_))))
    exact Ev.pos c0 (Ev.bind he2 (Ev.bind he3 (Ev.pos hv2.1 (Ev.pos hv2.2 (Ev.some _)))))
  by_cases c1 : v = 1
  · refine ⟨up ++ [1], m + 1, by simp; omega, by omega, ?_⟩
    refine Ev.bindc rfl (Ev.bind u4 (Ev.pos (by simp; omega) (Ev.bindc rfl (Ev.bind he ?_))))
    exact Ev.neg c0 (Ev.pos c1 (Ev.pos (by simp; omega) (Ev.some _)))
  by_cases c2 : v = 2
  · obtain ⟨l, hl, he2⟩ := one2_ev hs (m + 1) (by omega) [[15, 10, 12, 8], [63, 58, 60, 40, 48, 32], [1, 2], []] (by simp) (by decide) (by decide)
    refine ⟨l, m + 1 + 1, hl, by omega, ?_⟩
    refine Ev.bindc rfl (Ev.bind u4 (Ev.pos (by simp; omega) (Ev.bindc rfl (Ev.bind he ?_))))
    exact Ev.neg c0 (Ev.neg c1 (Ev.pos c2 (Ev.bind he2 (Ev.some _))))
  · refine ⟨up, m + 1, by omega, by omega, ?_⟩
    refine Ev.bindc rfl (Ev.bind u4 (Ev.pos (by simp; omega) (Ev.bindc rfl (Ev.bind he ?_))))
    exact Ev.neg c0 (Ev.neg c1 (Ev.neg c2 (Ev.some _)))
theorem element_draw {src : List Int} (hs : OkS src) (n : Nat) (hn : n + 20 ≤ BIG) (a : Int) (ha : a ≤ 4611686018427387904) : ∃ (x : Int) (m : Nat), m ≤ n + 20 ∧ Ev (fun k => spec_element.f k src (n : Int) a) (x, (m : Int)) := by
  unfold BIG at hn
  unfold spec_element.f
  obtain ⟨v, _, hv, he⟩ := pick_ev hs n (by omega) 24 (by decide)
  by_cases c0 : v = 0
  · obtain ⟨z, _, he2⟩ := one_ev hs (n + 1) (by omega) [(-1), a, 6] (by simp) (by simp)
    exact ⟨z, n + 1 + 1, by omega, Ev.bind he (Ev.pos c0 (Ev.bind he2 (Ev.some _)))⟩
  · obtain ⟨z, _, _, he2⟩ := pick_ev hs (n + 1) (by omega) a ha
    exact ⟨z, n + 1 + 1, by omega, Ev.bind he (Ev.neg c0 (Ev.bind he2 (Ev.some _)))⟩
end Go.Proofs.Ytmfpaagjllaljaa.M
end
