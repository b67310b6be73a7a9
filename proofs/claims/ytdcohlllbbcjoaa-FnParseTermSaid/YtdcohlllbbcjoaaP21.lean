-- Printed by this session's wip/print2.py (the kit's print.py, widened) out of the translation. Lean checks it.
import Derived.Test.YtdcohlllbbcjoaaP0
import Derived.Test.YtdcohlllbbcjoaaP20
namespace Go.Proofs.Ytdcohlllbbcjoaa.P
open Go.RowKit Go.Proofs.YtdcohlllbbcjoaaW.PrintWords Go.Proofs.YtdcohlllbbcjoaaW.PrintLast Go.Proofs.YtdcohlllbbcjoaaW.PrintMore
attribute [local go_sem] max2_int min2_int max_two min_two max_three min_three max_four min_four   -- for this text's walks alone
set_option linter.unusedVariables false
set_option linter.unusedSimpArgs false

/-! ### strings_CutPrefix: function 39 -/
def strings_CutPrefix.f (a0 : ByteArray) (a1 : ByteArray) : Option (ByteArray × Bool) := (stringslite_CutPrefix.f a0 a1).bind fun bt339 => (some (bt339.1, bt339.2))
set_option maxHeartbeats 8000000 in
set_option maxRecDepth 100000 in
theorem strings_CutPrefix.calls (a0 : ByteArray) (a1 : ByteArray) (r1 : ByteArray) (r2 : Bool) (w : World) (h : strings_CutPrefix.f a0 a1 = some (r1, r2)) :
  Calls Try.prog 39 #[.string a0, .string a1] w fun e w' => e = .returned (.tuple #[.string r1, .bool r2]) ∧ Drawn0 w w' := by
 have H : ((stringslite_CutPrefix.f a0 a1).bind fun bt339 => (some (bt339.1, bt339.2))) = some (r1, r2) := h
 clear h
 replace H := bi H
 obtain ⟨⟨t339, t340⟩, A30, H⟩ := H
 try dsimp only at H
 have A3 := ak A30
 clear A30
 simp only [Option.some.injEq, Prod.mk.injEq] at H
 obtain ⟨rfl, rfl⟩ := H
 go_enter Try.func39, Try.ntmps39
 go_wp2_with (first | ((with_reducible refine gate_callee (f := 42) rfl ?_); refine goesL_ (some 8) rfl rfl Try.func42 (by kernel_rfl) rfl #[.string a0, .string a1] rfl (by (try simp only [List.map_toArray, List.map_cons, List.map_nil]); first | done | rfl | (simp only [List.length_drop, List.length_take]; rfl)) ?_; (with_reducible refine (stringslite_CutPrefix.calls a0 a1 t339 t340 _ A3.out).mono ?_); rintro e w' ⟨rfl, ⟨nd, rfl⟩⟩; refine ⟨_, rfl, ?_⟩))
 go_ret2
 exact ⟨by first | rfl | (simp; done) | (simp [*]; done), by repeat (first | exact Drawn0.refl _ | apply Drawn0.step)⟩
/-! ### slices_Grow_int_int: by hand -/
/-- Room for n numbers behind nothing: a row of the call's own, with nothing in it yet. -/
theorem slices_Grow_int_int.calls0 (n : Nat) (hn : 0 < n) (hm : n ≤ 4398046511104) (w : World) : Calls Try.prog 43 #[.slice none 0 0, .int .i64 (n : Int)] w fun e w' => ∃ v : Value, e = .returned v ∧ Kd.R (Kd.int .i64) 3 w' w.heap.size (fun _ => True) v [] ∧ Below w.heap.size w w' := by
 obtain ⟨i0, hi0, hz0, hs0, hb0⟩ := info_parts info3
 have hrz := fun ty => Lib.run_append_nil_zeros w 22 3 ty 3 i0 (.int .i64 0) .i64 .i64 Try.underlying22 Try.underlying3 hi0 hz0 n hn (by rw [hs0]; decide) (by omega) (by rw [hb0]; omega)
 have h1 : ¬ ((n : Int) < 0) := by omega
 have h3 : wrap64 ((n : Int) - 0) = (n : Int) := by unfold wrap64; omega
 have h4 : (n : Int) > 0 := by omega
 have hGn : n ≤ grownCap w n 0 3 := grownCap_ge w _ _ _
 have hGm := grownCap_le_maxLen w n 0 3 (by unfold maxLen; omega)
 obtain ⟨G, hG⟩ : ∃ G, G = grownCap w n 0 3 := ⟨_, rfl⟩
 rw [← hG] at hrz hGn hGm
 have hG63 : G ≤ 9223372036854775807 := by unfold maxLen at hGm; omega
 clear hG
 go_enter Try.func43, Try.ntmps43
 go_wp2_with (at_builtin; refine Lib.wpList_append_run _ rfl _ _ _ _ rfl _ _ rfl rfl _ _ (hrz _) ?_)
 go_ret
 refine ⟨_, rfl, ?_, ?_⟩
 ·refine ⟨fun _ _ => trivial, [], ⟨rfl, .inr ⟨w.heap.size, G, _, rfl, Nat.le_refl _, (MapKept.heap_alloc w.drew _).1, Nat.zero_le _, hGm, ?_, rfl⟩⟩, Reps.none _ _⟩
  rw [Array.size_append, size_zeroCells, size_zeroCells]
  show n * 1 + (G - n) * 1 = G * 1
  omega
 ·exact kB (Below.refl _ _)
/-! ### slices_Concat_int_int: by hand -/
/-- Three rows put one behind the other, in a row of the call's own. -/
theorem slices_Concat_int_int.calls3 (g : Nat) (A0 A1 A2 : Option Addr) (c0 c1 c2 : Nat) (l0 l1 l2 : List Int) (w : World) (hg : w.heap[g]? = some (.cells #[.slice A0 l0.length c0, .slice A1 l1.length c1, .slice A2 l2.length c2] 22 (0, 0)))
  (hr0 : Kd.C (Kd.int .i64) w A0 l0.length l0) (hr1 : Kd.C (Kd.int .i64) w A1 l1.length l1) (hr2 : Kd.C (Kd.int .i64) w A2 l2.length l2) (hp : 0 < l0.length + l1.length + l2.length) (hl : l0.length + l1.length + l2.length ≤ 4398046511104) :
  Calls Try.prog 40 #[.slice (some ⟨g, 0, none⟩) 3 3] w fun e w' => ∃ v : Value, e = .returned v ∧ Kd.R (Kd.int .i64) 3 w' w.heap.size (fun _ => True) v (l0 ++ l1 ++ l2) ∧ Below w.heap.size w w' := by
 have HG := Aside0.mk hg
 have HR0 := Aside0.mk hr0
 have HR1 := Aside0.mk hr1
 have HR2 := Aside0.mk hr2
 have hx0 := (blk_cell HG.out 0).trans rfl
 have hx1 := (blk_cell HG.out 1).trans rfl
 have hx2 := (blk_cell HG.out 2).trans rfl
 clear hg hr0 hr1 hr2
 have e1 : wrap64 (l0.length : Int) = (l0.length : Int) := by unfold wrap64; omega
 have e2 : wrap64 ((l0.length : Int) + (l1.length : Int)) = (l0.length : Int) + (l1.length : Int) := by unfold wrap64; omega
 have e3 : wrap64 ((l0.length : Int) + (l1.length : Int) + (l2.length : Int)) = (l0.length : Int) + (l1.length : Int) + (l2.length : Int) := by unfold wrap64; omega
 have f1 : ¬ ((l0.length : Int) < 0) := by omega
 have f2 : ¬ ((l0.length : Int) + (l1.length : Int) < 0) := by omega
 have f3 : ¬ ((l0.length : Int) + (l1.length : Int) + (l2.length : Int) < 0) := by omega
 have en : ((l0.length + l1.length + l2.length : Nat) : Int) = (l0.length : Int) + (l1.length : Int) + (l2.length : Int) := by omega
 have GR := fun W => slices_Grow_int_int.calls0 (l0.length + l1.length + l2.length) hp hl W
 rw [en] at GR
 clear en
 have GR := Aside0.mk GR
 go_enter Try.func40, Try.ntmps40
 go_wp2
 refine wp_loop_rounds 4 ?_
 rw [rounds_succ]
 go_wp2
 rw [rounds_succ]
 go_wp2
 rw [rounds_succ]
 go_wp2
 rw [rounds_succ]
 go_wp2_with (go_at_call 43; refine (GR.out _).mono ?_; rintro e w1 ⟨v0, rfl, HO0, hb0⟩)
 have hlt := blk_lt HG.out
 have HG1 := Aside0.mk ((hb0.block g hlt).trans HG.out)
 have hy0 := (blk_cell HG1.out 0).trans rfl
 have hy1 := (blk_cell HG1.out 1).trans rfl
 have hy2 := (blk_cell HG1.out 2).trans rfl
 have HO0 := Aside0.mk HO0
 have HB0 := Aside0.mk hb0
 clear hb0
 refine wp_loop_rounds 4 ?_
 rw [rounds_succ]
 go_wp2_with (at_builtin; refine Kd.R_append_rows (Kd.int .i64) (w0 := w) w.heap.size rfl (.tmp 31) (.tmp 32) 22 3 (.int .i64 0) 8 rfl Try.underlying22 info3 rfl (by decide) (by omega) v0 [] l0 _ _ _ (fun _ => True) (fun _ => False) rfl rfl HO0.out ?aR (fun _ _ h => h) (fun _ h => h.elim) (fun _ _ => trivial) HB0.out (below_size HB0.out) (by simp only [List.length_nil, List.length_append]; omega) ?_; (case aR => exact Kd.C_below HR0.out HB0.out); intro v1 w2 ho1 hb1 hg1 hat1)
 have HB1 := Aside0.mk hb1
 have HO1 := Aside0.mk ho1
 have HG1 := Aside0.mk ((HB1.out.block g hlt).trans HG.out)
 have hx0 := (blk_cell HG1.out 0).trans rfl
 have hx1 := (blk_cell HG1.out 1).trans rfl
 have hx2 := (blk_cell HG1.out 2).trans rfl
 clear hb1 ho1 hg1 hat1
 rw [rounds_succ]
 go_wp2_with (at_builtin; refine Kd.R_append_rows (Kd.int .i64) (w0 := w) w.heap.size rfl (.tmp 31) (.tmp 32) 22 3 (.int .i64 0) 8 rfl Try.underlying22 info3 rfl (by decide) (by omega) v1 ([] ++ l0) l1 _ _ _ (fun _ => True) (fun _ => False) rfl rfl HO1.out ?aR (fun _ _ h => h) (fun _ h => h.elim) (fun _ _ => trivial) HB1.out (below_size HB1.out) (by simp only [List.length_nil, List.length_append]; omega) ?_; (case aR => exact Kd.C_below HR1.out HB1.out); intro v2 w3 ho2 hb2 hg2 hat2)
 have HB2 := Aside0.mk hb2
 have HO2 := Aside0.mk ho2
 have HG2 := Aside0.mk ((HB2.out.block g hlt).trans HG.out)
 have hx0 := (blk_cell HG2.out 0).trans rfl
 have hx1 := (blk_cell HG2.out 1).trans rfl
 have hx2 := (blk_cell HG2.out 2).trans rfl
 clear hb2 ho2 hg2 hat2
 rw [rounds_succ]
 go_wp2_with (at_builtin; refine Kd.R_append_rows (Kd.int .i64) (w0 := w) w.heap.size rfl (.tmp 31) (.tmp 32) 22 3 (.int .i64 0) 8 rfl Try.underlying22 info3 rfl (by decide) (by omega) v2 ([] ++ l0 ++ l1) l2 _ _ _ (fun _ => True) (fun _ => False) rfl rfl HO2.out ?aR (fun _ _ h => h) (fun _ h => h.elim) (fun _ _ => trivial) HB2.out (below_size HB2.out) (by simp only [List.length_nil, List.length_append]; omega) ?_; (case aR => exact Kd.C_below HR2.out HB2.out); intro v3 w4 ho3 hb3 hg3 hat3)
 have HB3 := Aside0.mk hb3
 have HO3 := Aside0.mk ho3
 have HG3 := Aside0.mk ((HB3.out.block g hlt).trans HG.out)
 have hx0 := (blk_cell HG3.out 0).trans rfl
 have hx1 := (blk_cell HG3.out 1).trans rfl
 have hx2 := (blk_cell HG3.out 2).trans rfl
 clear hb3 ho3 hg3 hat3
 rw [rounds_succ]
 go_wp2
 go_ret
 exact ⟨v3, rfl, HO3.out, HB3.out⟩
end Go.Proofs.Ytdcohlllbbcjoaa.P

-- shrunk
