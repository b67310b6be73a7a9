-- Printed by this session's wip/print2.py (the kit's print.py, widened) out of the translation. Lean checks it.
import Derived.Test.YtomapoenndlbiaaP0
import Derived.Test.YtomapoenndlbiaaP38
namespace Go.Proofs.Ytomapoenndlbiaa.P
open Go.RowKit Go.Proofs.YtomapoenndlbiaaW.PrintWords Go.Proofs.YtomapoenndlbiaaW.PrintLast Go.Proofs.YtomapoenndlbiaaW.PrintMore
attribute [local go_sem] max2_int min2_int max_two min_two max_three min_three max_four min_four   -- for this text's walks alone
set_option linter.unusedVariables false
set_option linter.unusedSimpArgs false

/-! ### df_HeartOf_1: by hand -/
def df_HeartOf_1.f (l0 : List Int) (l1_0 : List Int) (l1_1 : List (List Int)) : Option (List Int) := if l0.length ≤ 9223372036854775807 ∧ 0 ≤ wrap64 ((l1_0.length : Int) - 1) then some (l0.filter fun y => !((fun x => x == shl .i64 1 (wrap64 ((l1_0.length : Int) - 1))) y)) else none
set_option maxHeartbeats 4000000 in
set_option maxRecDepth 100000 in
theorem df_HeartOf_1.calls (P0_ : Nat → Prop) (u0_ : Value) (l0 : List Int) (g1 : Nat) (A1_0 : Option Addr) (c1_0 : Nat) (l1_0 : List Int) (A1_1 : Option Addr) (c1_1 : Nat) (l1_1 : List (List Int)) (r : List Int) (w0 w : World) (hB : Below w0.heap.size w0 w) (ho : Kd.R (Kd.int .i64) 3 w w0.heap.size P0_ u0_ l0) (hr1_0 : ∀ W', Kept w W' P0_ → Kd.C (Kd.int .i64) W' A1_0 l1_0.length l1_0) (hc1_0 : l1_0.length ≤ c1_0) (hr1_1 : ∀ W', Kept w W' P0_ → Kd.C (Kd.slice 3 (Kd.int .i64)) W' A1_1 l1_1.length l1_1) (hc1_1 : l1_1.length ≤ c1_1) (hb1 : w.heap[g1]? = some (.cells #[.slice A1_0 l1_0.length c1_0, .slice A1_1 l1_1.length c1_1] 28 (0, 0))) (h : df_HeartOf_1.f l0 l1_0 l1_1 = some r) :
  Calls Try.prog 53 #[u0_, .func (.func 55) #[] #[.pointer (some ⟨g1, 0, none⟩)]] w fun e w' => ∃ v0_ : Value, e = .returned (v0_) ∧ Kd.R (Kd.int .i64) 3 w' w0.heap.size (fun k_ => (P0_ k_ ∨ w.heap.size ≤ k_)) v0_ r ∧ Below w0.heap.size w0 w' ∧ Kept w w' (fun k_ => P0_ k_) := by
 unfold df_HeartOf_1.f at h
 by_cases hl : l0.length ≤ 9223372036854775807 ∧ 0 ≤ wrap64 ((l1_0.length : Int) - 1)
 ·rw [if_pos hl] at h
  obtain rfl := Option.some.inj h
  refine (deleteFunc_any (fun x => x == shl .i64 1 (wrap64 ((l1_0.length : Int) - 1))) 55 _ (enters_of Try.func55 (by kernel_rfl) rfl) P0_ u0_ l0 w0 w (fun W => W.heap[g1]? = some (.cells #[.slice A1_0 l1_0.length c1_0, .slice A1_1 l1_1.length c1_1] 28 (0, 0))) hb1 (fun W q h_ => h_) (fun W j gx v h_ hx => (Below.heap_setCell W ⟨gx, j, none⟩ v g1 (fun e => Kd.R_ne ho hb1 (by decide) (by rw [← hx]; exact congrArg some e))).trans h_) hB ?_ ho hl.1).mono ?_
  ·intro W x hI
   have hB := Aside0.mk hI
   have hc0 := (blk_cell hB.out 0).trans rfl
   have hc1 := (blk_cell hB.out 1).trans rfl
   have hsh : decide (0 ≤ wrap64 ((l1_0.length : Int) - 1)) = true := decide_eq_true hl.2
   clear hI
   show Calls Try.prog 55 #[.int .i64 x, .pointer (some ⟨g1, 0, none⟩)] W _
   have hs0 : shl .i64 1 (wrap64 ((l1_0.length : Int) - 1)) = IntKind.i64.wrap (1 * 2 ^ min (wrap64 ((l1_0.length : Int) - 1)).toNat 64) := rfl
   rw [Int.one_mul] at hs0
   have hs : shl .i64 1 (wrap64 ((l1_0.length : Int) - 1)) = wrap64 (2 ^ min (wrap64 ((l1_0.length : Int) - 1)).toNat 64) := by rw [hs0]; unfold wrap64; exact IntKind.wrap_i64 _
   go_enter Try.func55, Try.ntmps55
   go_wp2
   go_ret
   have he : Ending.returned (Value.bool (x == wrap64 (2 ^ min (wrap64 ((l1_0.length : Int) - 1)).toNat 64))) = Ending.returned (Value.bool (x == IntKind.i64.wrap (2 ^ min (wrap64 ((l1_0.length : Int) - 1)).toNat 64))) := by rw [show IntKind.i64.wrap (2 ^ min (wrap64 ((l1_0.length : Int) - 1)).toNat 64) = wrap64 (2 ^ min (wrap64 ((l1_0.length : Int) - 1)).toNat 64) by unfold wrap64; exact IntKind.wrap_i64 _]
   exact ⟨he, 0, rfl⟩
  ·rintro e w' ⟨v, rfl, h1, h2, h3⟩
   exact ⟨v, rfl, Kd.R_mono h1 (fun _ hk => .inl hk), h2, Kept.mono h3 (fun k hk => ho.1 k hk.symm)⟩
 ·rw [if_neg hl] at h
  exact absurd h (by simp)


end Go.Proofs.Ytomapoenndlbiaa.P

-- shrunk
