-- Printed by this session's wip/print2.py (the kit's print.py, widened) out of the translation. Lean checks it.
import Derived.Test.YtjijfflifonjoaaP0
import Derived.Test.YtjijfflifonjoaaP8
import Derived.Test.YtjijfflifonjoaaP11
import Derived.Test.YtjijfflifonjoaaP12
namespace Go.Proofs.Ytjijfflifonjoaa.P
open Go.RowKit Go.Proofs.YtjijfflifonjoaaW.PrintWords Go.Proofs.YtjijfflifonjoaaW.PrintLast Go.Proofs.YtjijfflifonjoaaW.PrintMore
attribute [local go_sem] max2_int min2_int max_two min_two max_three min_three max_four min_four   -- for this text's walks alone
set_option linter.unusedVariables false
set_option linter.unusedSimpArgs false

/-! ### impl_AllLattices: by hand -/
mutual
/-- What stands in 'out' behind a call of the closure, where 'up' held some rows. -/
def impl_AllLattices.g : Nat → Int → List Int → List (List Int) → Option (List (List Int))
 | 0, _, _, _ => none
 | k + 1, n, up, out => if 0 ≤ n then (if n ≤ 5 then (if (up.length : Int) = n then ((impl_ValidLattice.f k up).bind fun b => if b = true then ((slices_Clone_int_int.f up).bind fun c => if out.length < 5000000000 then some (out ++ [c]) else none) else some out) else (if (up.length : Int) < n then impl_AllLattices.l k n up out (2 ^ up.length) else none)) else none) else none
def impl_AllLattices.l : Nat → Int → List Int → List (List Int) → Int → Option (List (List Int))
 | 0, _, _, _, _ => none
 | k + 1, n, up, out, s => if s < 2 ^ n.toNat then (if 0 ≤ s then (if Int.tmod (s / 2 ^ up.length) 2 = 1 then ((impl_AllLattices.g k n (up ++ [s]) out).bind fun o => impl_AllLattices.l k n up o (s + 2 ^ up.length)) else impl_AllLattices.l k n up out (s + 2 ^ up.length)) else none) else some out
end
def impl_AllLattices.f (k : Nat) (a0 : Int) : Option (List (List Int)) := (impl_within.f a0 1 5).bind fun b => if b = true then impl_AllLattices.g k a0 [] [] else some []
/-- What lies in memory while the closure runs: its four variables, the rows of 'up' and of 'out', told apart. -/
def ALs (B gU gN gO gG : Nat) (n : Int) (w : World) (up : List Int) (out : List (List Int)) (vu vo : Value) : Prop :=
 w.heap[gU]? = some (.cells #[vu] 30 (0, 0)) ∧ w.heap[gN]? = some (.cells #[.int .i64 n] 3 (0, 0)) ∧ w.heap[gO]? = some (.cells #[vo] 22 (0, 0)) ∧ w.heap[gG]? = some (.cells #[.func (.func 20) #[] #[.pointer (some ⟨gU, 0, none⟩), .pointer (some ⟨gN, 0, none⟩), .pointer (some ⟨gO, 0, none⟩), .pointer (some ⟨gG, 0, none⟩)]] 1 (0, 0)) ∧
 Kd.R (Kd.int .i64) 3 w B (fun k => k ≠ gU ∧ k ≠ gN ∧ k ≠ gO ∧ k ≠ gG) vu up ∧ Kd.S (Kd.slice 3 (Kd.int .i64)) 30 w B (fun k => (k ≠ gU ∧ k ≠ gN ∧ k ≠ gO ∧ k ≠ gG) ∧ some k ≠ vu.ownBlock) vo out
theorem ALs.move {B gU gN gO gG : Nat} {n : Int} {w w' : World} {up : List Int} {out : List (List Int)} {vu vo : Value} (h : ALs B gU gN gO gG n w up out vu vo) (hb : Below w.heap.size w w') : ALs B gU gN gO gG n w' up out vu vo := by
 obtain ⟨h1, h2, h3, h4, h5, h6⟩ := h
 exact ⟨(hb.block _ (blk_lt h1)).trans h1, (hb.block _ (blk_lt h2)).trans h2, (hb.block _ (blk_lt h3)).trans h3, (hb.block _ (blk_lt h4)).trans h4, Kd.R_below h5 hb, Kd.S_below h6 hb⟩
theorem ne_types {w : World} {a b t t' : Nat} {cs cs' : Array Value} (h : w.heap[a]? = some (.cells cs t (0, 0))) (h' : w.heap[b]? = some (.cells cs' t' (0, 0))) (ht : t ≠ t') : a ≠ b := by
 rintro rfl
 rw [h] at h'
 injection h' with h'
 injection h' with _ h'
 exact ht h'
section
variable {B gU gN gO gG : Nat} {n : Int} {w w' : World} {up up' : List Int} {out out' : List (List Int)} {vu vo v1 : Value}
/-- The row of 'out' is another now. -/
theorem ALs.put_out (h : ALs B gU gN gO gG n w up out vu vo) (hg : w.grownBy w' vo.ownBlock)
  (hS : Kd.S (Kd.slice 3 (Kd.int .i64)) 30 w' B (fun k => (k ≠ gU ∧ k ≠ gN ∧ k ≠ gO ∧ k ≠ gG) ∧ some k ≠ vu.ownBlock) v1 out') : ALs B gU gN gO gG n (w'.setCell ⟨gO, 0, none⟩ v1) up out' vu v1 := by
 obtain ⟨h1, h2, h3, h4, h5, h6⟩ := h
 have hS0 := (Kd.S_R h6).1
 have k1 := (hg.block gU (blk_lt h1) (fun e => (hS0 gU e.symm).1.1 rfl)).trans h1
 have k2 := (hg.block gN (blk_lt h2) (fun e => (hS0 gN e.symm).1.2.1 rfl)).trans h2
 have k3 := (hg.block gO (blk_lt h3) (fun e => (hS0 gO e.symm).1.2.2.1 rfl)).trans h3
 have k4 := (hg.block gG (blk_lt h4) (fun e => (hS0 gG e.symm).1.2.2.2 rfl)).trans h4
 refine ⟨blk_far k1 (ne_types k1 k3 (by decide)) _, blk_far k2 (ne_types k2 k3 (by decide)) _, blk_put k3 0 v1 rfl, blk_far k4 (ne_types k4 k3 (by decide)) _, ?_, ?_⟩
 ·refine Kd.R_mono (Kd.R_far (Kd.R_step (Kd.R_tight2 rfl h5) (fun k hk hlt => hg.block k hlt (fun e => (hS0 k e.symm).2 hk.1))) (fun k hk => hk.2.2.2.1) v1) (fun k hk => hk.2)
 ·exact Kd.S_far hS (fun k hk => hk.1.2.2.1) v1
/-- The row of 'up' is another now. -/
theorem ALs.put_up (h : ALs B gU gN gO gG n w up out vu vo) (hg : w.grownBy w' vu.ownBlock) (hat : v1.ownBlock = vu.ownBlock ∨ ∃ b, v1.ownBlock = some b ∧ w.heap.size ≤ b)
  (hR : Kd.R (Kd.int .i64) 3 w' B (fun k => k ≠ gU ∧ k ≠ gN ∧ k ≠ gO ∧ k ≠ gG) v1 up') : ALs B gU gN gO gG n (w'.setCell ⟨gU, 0, none⟩ v1) up' out v1 vo := by
 obtain ⟨h1, h2, h3, h4, h5, h6⟩ := h
 have hR0 := h5.1
 have k1 := (hg.block gU (blk_lt h1) (fun e => (hR0 gU e.symm).1 rfl)).trans h1
 have k2 := (hg.block gN (blk_lt h2) (fun e => (hR0 gN e.symm).2.1 rfl)).trans h2
 have k3 := (hg.block gO (blk_lt h3) (fun e => (hR0 gO e.symm).2.2.1 rfl)).trans h3
 have k4 := (hg.block gG (blk_lt h4) (fun e => (hR0 gG e.symm).2.2.2 rfl)).trans h4
 refine ⟨blk_put k1 0 v1 rfl, blk_far k2 (ne_types k2 k1 (by decide)) _, blk_far k3 (ne_types k3 k1 (by decide)) _, blk_far k4 (ne_types k4 k1 (by decide)) _, ?_, ?_⟩
 ·exact Kd.R_far hR (fun k hk => hk.1) v1
 ·exact Kd.S_far (Kd.S_after h6 hg hat) (fun k hk => hk.1.1) v1
/-- What is new is none of what the state leads to. -/
theorem ALs.fresh (h : ALs B gU gN gO gG n w up out vu vo) (k : Nat) (hk : w.heap.size ≤ k) : (k ≠ gU ∧ k ≠ gN ∧ k ≠ gO ∧ k ≠ gG) ∧ some k ≠ vu.ownBlock ∧ some k ≠ vo.ownBlock := by
 obtain ⟨h1, h2, h3, h4, h5, h6⟩ := h
 have l1 := blk_lt h1
 have l2 := blk_lt h2
 have l3 := blk_lt h3
 have l4 := blk_lt h4
 refine ⟨⟨by omega, by omega, by omega, by omega⟩, fun e => ?_, fun e => ?_⟩
 ·have := Kd.R_lt h5 k e.symm
  omega
 ·have := Kd.S_lt h6 k e.symm
  omega
end
theorem pow_small (m : Nat) (h : m ≤ 5) : 1 ≤ (2 : Int) ^ m ∧ (2 : Int) ^ m ≤ 32 := by
 have e : m = 0 ∨ m = 1 ∨ m = 2 ∨ m = 3 ∨ m = 4 ∨ m = 5 := by omega
 rcases e with e | e | e | e | e | e <;> subst e <;> decide
def impl_AllLattices.T3 : Bool × List (List Nat × List Nat) := (true, [([], []), ([], []), ([1], [1]), ([2], [2]), ([0, 3, 2], [0, 3]), ([4, 4, 0, 1, 2, 3, 4], [4])])
def impl_AllLattices.B3 : List Nat := [0, 0, 2, 6, 15, 31]
theorem impl_AllLattices.tab3 : rtab .any (opsOf Try.f20 3) = impl_AllLattices.T3 := by kernel_rfl
theorem impl_AllLattices.bits3 : waitsOk impl_AllLattices.T3.2 impl_AllLattices.B3 = true := by kernel_rfl
set_option maxHeartbeats 4000000 in
set_option maxRecDepth 100000 in
theorem impl_grow.calls (w0 : World) (gU gN gO gG : Nat) (hU : w0.heap.size ≤ gU) (hO : w0.heap.size ≤ gO) : ∀ (K k : Nat) (n : Int) (up : List Int) (out r : List (List Int)) (vu vo : Value) (w : World) (hk : k ≤ K) (hs : ALs w0.heap.size gU gN gO gG n w up out vu vo) (hb : Below w0.heap.size w0 w) (h : impl_AllLattices.g k n up out = some r),
  Calls Try.prog 20 #[.pointer (some ⟨gU, 0, none⟩), .pointer (some ⟨gN, 0, none⟩), .pointer (some ⟨gO, 0, none⟩), .pointer (some ⟨gG, 0, none⟩)] w fun e w' => e = .returned (.tuple #[]) ∧ (∃ vu' vo', ALs w0.heap.size gU gN gO gG n w' up r vu' vo') ∧ Below w0.heap.size w0 w'
 | _, 0, _, _, _, _, _, _, _, _, _, _, h => by simp [impl_AllLattices.g] at h
 | 0, k + 1, _, _, _, _, _, _, _, hk, _, _, _ => absurd hk (by omega)
 | K + 1, k + 1, n, up, out, r, vu, vo, w, hk, hs, hb, h => by
  have IH := Aside0.mk (impl_grow.calls w0 gU gN gO gG hU hO K)
  have HK := Aside0.mk (show k ≤ K by omega)
  clear hk
  have HS := Aside0.mk hs
  have HB := Aside0.mk hb
  clear hb
  obtain ⟨h1, h2, h3, h4, h5, h6⟩ := hs
  obtain ⟨Au, cu, rfl⟩ := Kd.R_slice h5
  have x1 := (blk_cell h1 0).trans rfl
  have x2 := (blk_cell h2 0).trans rfl
  have x3 := (blk_cell h3 0).trans rfl
  have x4 := (blk_cell h4 0).trans rfl
  have hr5 := Kd.R_reads' h5
  clear h1 h2 h3 h4 h5 h6
  have HR := Aside0.mk hr5
  clear hr5
  simp only [impl_AllLattices.g] at h
  by_cases n0 : 0 ≤ n
  case neg => rw [if_neg n0] at h; exact absurd h (by simp)
  rw [if_pos n0] at h
  by_cases n5 : n ≤ 5
  case neg => rw [if_neg n5] at h; exact absurd h (by simp)
  rw [if_pos n5] at h
  by_cases hn : (up.length : Int) = n
  ·rw [if_pos hn] at h
   have hd : ((up.length : Int) == n) = true := beq_iff_eq.mpr hn
   obtain ⟨b, A0, h⟩ := Option.bind_eq_some_iff.mp h
   have A := Aside0.mk A0
   clear A0
   cases b with
   | false =>
    rw [if_neg (by decide)] at h
    obtain rfl := Option.some.inj h
    clear hn
    go_enter Try.func20, Try.ntmps20
    go_wp2_with (first | (go_at_call 13; (with_reducible refine (impl_ValidLattice.calls k _ _ up false _ ?side1 ?side2 A.out).mono ?_); (case side1 => exact kC HR.out.2.2); (case side2 => exact HR.out.2.1); rintro e w' ⟨rfl, ⟨nd, rfl⟩⟩))
    refine bodyPost_ret (results_none rfl _ _ _) rfl ?_
    exact ⟨rfl, ⟨_, _, HS.out.move (pw_below_drewN (Below.refl _ _) _)⟩, pw_below_drewN HB.out _⟩
   | true =>
    rw [if_pos rfl] at h
    obtain ⟨c, A0, h⟩ := Option.bind_eq_some_iff.mp h
    have A2 := Aside0.mk A0
    clear A0
    by_cases ho : out.length < 5000000000
    case neg => rw [if_neg ho] at h; exact absurd h (by simp)
    rw [if_pos ho] at h
    obtain rfl := Option.some.inj h
    have LO := Aside0.mk ho
    clear hn ho
    go_enter Try.func20, Try.ntmps20
    go_wp2_with (first | (go_at_call 13; (with_reducible refine (impl_ValidLattice.calls k _ _ up true _ ?side1 ?side2 A.out).mono ?_); (case side1 => exact kC HR.out.2.2); (case side2 => exact HR.out.2.1); rintro e w' ⟨rfl, ⟨nd, rfl⟩⟩))
    have HS1 := Aside0.mk (HS.out.move (below_drew1 (pw_below_drewN (Below.refl w.heap.size w) nd)))
    have HB1 := Aside0.mk (below_drew1 (pw_below_drewN HB.out nd))
    have y3 : (w.drewN nd).drew.cell? ⟨gO, 0, none⟩ = some vo := x3
    have y1 : (w.drewN nd).drew.cell? ⟨gU, 0, none⟩ = some (.slice Au up.length cu) := x1
    refine start_ (n := 6) (S := fun w' => w'.cell? ⟨gO, 0, none⟩ = some vo ∧ w'.cell? ⟨gU, 0, none⟩ = some (.slice Au up.length cu)) (ds := [5]) #[false, false, false, false, false, false] (by kernel_rfl) rfl rfl ⟨y3, y1⟩ (fun hHeld => ?_)
    refine with_tabW impl_AllLattices.tab3 impl_AllLattices.bits3 (fun HT_ HW_ => ?_)
    generalize (w.drewN nd).drew = w2 at HS1 HB1 hHeld ⊢
    clear y3 y1 x1 x2 x3 x4
    refine tk 0 13 1 6 ?_
    refine tk 1 14 3 6 ?_
    refine one_ (i := 2) (N := some 15) #[true, true, true, false, false, false] rfl rfl (one_of HT_.out (by kernel_rfl)) (by decide) (fun K hK => ?_)
    refine goes_ Try.func21 (by kernel_rfl) rfl #[.slice Au up.length cu] (by rfl) rfl rfl (by (try simp only [List.map_toArray, List.map_cons, List.map_nil]); first | done | rfl) ?_
    have hc5 := Kd.R_reads' HS1.out.2.2.2.2.1
    refine (slices_Clone_int_int.calls _ _ up c _ hc5.2.2 hc5.2.1 A2.out).mono ?_
    rintro e w3 ⟨v3, rfl, ho3, hb3⟩
    obtain ⟨A3, c3, rfl⟩ := Kd.R_slice ho3
    refine ⟨_, rfl, ?_⟩
    have HS2 := Aside0.mk (HS1.out.move hb3)
    have HB2 := Aside0.mk (below_step HB1.out hb3)
    have HO3 := Aside0.mk ho3
    have hSz := Aside0.mk hb3.size
    have HU2 := Aside0.mk (Kd.S_below (Kd.S_bound HS1.out.2.2.2.2.2) hb3)
    clear ho3 hb3 hc5
    refine hK.out _ _ ⟨(blk_cell HS2.out.2.2.1 0).trans rfl, (blk_cell HS2.out.1 0).trans rfl⟩ (fun hHeld => ?_)
    clear hK K
    refine norm_ (a' := ?_) ?_ ?_
    rotate_left
    ·show Act.put _ (some 15) _ = _
     simp only [Act.put, List.setIfInBounds_toArray, List.set_cons_zero, List.set_cons_succ, i64_w, i32_w]
     rfl
    refine one_ (i := 3) (N := some 16) #[true, true, true, true, false, false] rfl rfl (one_of HT_.out (by kernel_rfl)) (by decide) (fun K hK => ?_)
    refine value_ (w1 := ?_) (v := ?_) (by rfl) rfl ?_ ?_
    rotate_left 2
    ·go_simp
     constructor
     ·rfl
     ·rfl
    have HS3 := HS2.out.move (below_alloc (Below.refl w3.heap.size w3) (.cells #[.slice A3 c.length c3] 30))
    refine hK.out _ _ ⟨(blk_cell HS3.2.2.1 0).trans rfl, (blk_cell HS3.1 0).trans rfl⟩ (fun hHeld => ?_)
    clear hK K HS3
    refine norm_ (a' := ?_) ?_ ?_
    rotate_left
    ·show Act.put _ (some 16) _ = _
     simp only [Act.put, List.setIfInBounds_toArray, List.set_cons_zero, List.set_cons_succ, i64_w, i32_w]
     rfl
    refine one_ (i := 4) (N := some 17) #[true, true, true, true, true, false] rfl rfl (one_of HT_.out (by kernel_rfl)) (by decide) (fun K hK => ?_)
    refine Kd.S_append_step (Kd.slice 3 (Kd.int .i64)) (w0 := w0) w0.heap.size (by rfl) (.tmp 13) (.tmp 16) 22 30 (.slice none 0 0) 24 rfl Try.underlying22 info30 rfl (by decide) (by omega) vo out c [.slice A3 c.length c3] (fun k => (k ≠ gU ∧ k ≠ gN ∧ k ≠ gO ∧ k ≠ gG) ∧ some k ≠ (Value.slice Au up.length cu).ownBlock) (fun k => w2.heap.size ≤ k) rfl rfl ?aP ?aK ?aF ?aO ?aB ?aS ?aL ?_
    (case aP => exact ⟨_, rfl, Kd.R_lower (Kd.R_mono (Kd.R_bound HO3.out) (fun k hk => hk.2.1)) (below_size HB1.out)⟩)
    (case aK => exact fun k hk => ⟨⟨(HS1.out.fresh k hk).1, (HS1.out.fresh k hk).2.1⟩, (HS1.out.fresh k hk).2.2⟩)
    (case aF => exact fun k hk => ⟨(HS1.out.fresh k (Nat.le_trans hSz.out hk)).1, (HS1.out.fresh k (Nat.le_trans hSz.out hk)).2.1⟩)
    (case aO => exact Kd.S_mono HU2.out (fun k hk => ⟨hk.1, Nat.not_le.mpr hk.2.2.1⟩))
    (case aB => exact HB2.out)
    (case aS => exact below_size HB2.out)
    (case aL => have := LO.out; omega)
    intro v4 w4 hS4 hb4 hg4 hat4
    obtain ⟨A4, c4, rfl⟩ := Kd.S_slice hS4
    have HS4 := Aside0.mk (HS2.out.put_out hg4 hS4)
    have HB4 := Aside0.mk hb4
    have hS0 := (Kd.S_R HS2.out.2.2.2.2.2).1
    have k1 := (hg4.block gU (blk_lt HS2.out.1) (fun e => (hS0 gU e.symm).1.1 rfl)).trans HS2.out.1
    have k3 := (hg4.block gO (blk_lt HS2.out.2.2.1) (fun e => (hS0 gO e.symm).1.2.2.1 rfl)).trans HS2.out.2.2.1
    have kf := blk_frozen k3 0
    have el : (out ++ [c]).length = out.length + 1 := by rw [List.length_append]; rfl
    rw [el] at HS4
    clear hS4 hb4 hg4 hat4 hS0 el
    refine hK.out _ _ ⟨(blk_cell k3 0).trans rfl, (blk_cell k1 0).trans rfl⟩ (fun hHeld => ?_)
    clear hK K k1
    refine norm_ (a' := ?_) ?_ ?_
    rotate_left
    ·show Act.put _ (some 17) _ = _
     simp only [Act.put, List.setIfInBounds_toArray, List.set_cons_zero, List.set_cons_succ, i64_w, i32_w]
     rfl
    refine last_ (i := 5) (N := none) #[true, true, true, true, true, true] rfl rfl (one_of HT_.out (by kernel_rfl)) (by decide) (fun K hK => ?_)
    refine skip_ (w1 := ?_) (by rfl) rfl ?_ ?_
    rotate_left
    ·go_simp
     rfl
    refine hK.out _ _ ?_
    clear hK K
    refine done_ (done_of HT_.out (by kernel_rfl)) ?_
    go_wp2
    refine bodyPost_ret (results_none rfl _ _ _) rfl ?_
    exact ⟨rfl, ⟨_, _, HS4.out⟩, below_set HB4.out hO⟩
  ·rw [if_neg hn] at h
   have hd : ((up.length : Int) == n) = false := beq_eq_false_iff_ne.mpr hn
   by_cases hl : (up.length : Int) < n
   case neg => rw [if_neg hl] at h; exact absurd h (by simp)
   rw [if_pos hl] at h
   have H' := Aside0.mk h
   obtain ⟨m, rfl⟩ : ∃ m : Nat, n = (m : Int) := ⟨n.toNat, by omega⟩
   have hm : m ≤ 5 := by omega
   have hx : up.length ≤ 4 := by omega
   have px := pow_small up.length (by omega)
   have pm := pow_small m hm
   have e1 : wrap64 (2 ^ up.length) = 2 ^ up.length := by unfold wrap64; omega
   have e2 : wrap64 (2 ^ m) = 2 ^ m := by unfold wrap64; omega
   have hp : (0 : Int) ≤ (up.length : Int) := by omega
   have hpd : decide ((0 : Int) ≤ (up.length : Int)) = true := decide_eq_true hp
   have hmd : decide ((0 : Int) ≤ (m : Int)) = true := decide_eq_true (by omega)
   have PX := Aside0.mk px
   have PM := Aside0.mk pm
   have HM := Aside0.mk hm
   have HX := Aside0.mk hx
   have HL := Aside0.mk hl
   clear h hn n0 n5 px pm
   go_enter Try.func20, Try.ntmps20
   go_wp2
   go_loopg [5] k (fun kq v5 wr => ∃ (s : Int) (out1 : List (List Int)) (vu1 vo1 : Value), v5 = .int .i64 s ∧ Aside0 (impl_AllLattices.l kq (m : Int) up out1 s = some r) ∧ Aside0 (kq ≤ k) ∧ Aside0 (ALs w0.heap.size gU gN gO gG (m : Int) wr up out1 vu1 vo1) ∧ Aside0 (Below w0.heap.size w0 wr))
   case atStart => exact ⟨2 ^ up.length, out, _, _, rfl, H', ⟨Nat.le_refl _⟩, HS, HB⟩
   case round =>
    clear x1 x2 x3 x4 H' HS HB HR
    obtain ⟨s, out1, vu1, vo1, rfl, HA, HQ, HS, HB⟩ := hrel
    cases gk with
    | zero => exact absurd HA.out (by simp [impl_AllLattices.l])
    | succ k1 =>
     have h := HA.out
     clear HA
     simp only [impl_AllLattices.l, Int.toNat_natCast] at h
     have hx2 := (blk_cell HS.out.2.1 0).trans rfl
     by_cases c1 : s < 2 ^ m
     case neg =>
      rw [if_neg c1] at h
      obtain rfl := Option.some.inj h
      have c1d : decide (s < 2 ^ m) = false := decide_eq_false c1
      go_wp2
      go_end0
      exact ⟨rfl, ⟨_, _, HS.out⟩, HB.out⟩
     rw [if_pos c1] at h
     have c1d : decide (s < 2 ^ m) = true := decide_eq_true c1
     by_cases c2 : 0 ≤ s
     case neg => rw [if_neg c2] at h; exact absurd h (by simp)
     rw [if_pos c2] at h
     have e3 : wrap64 (s + 2 ^ up.length) = s + 2 ^ up.length := by have := PX.out; have := PM.out; unfold wrap64; omega
     by_cases c3 : Int.tmod (s / 2 ^ up.length) 2 = 1
     case neg =>
      rw [if_neg c3] at h
      have c3d : (Int.tmod (s / 2 ^ up.length) 2 == 1) = false := beq_eq_false_iff_ne.mpr c3
      go_wp2
      go_roundg k1
      case measure => omega
      case rel => exact ⟨s + 2 ^ up.length, out1, _, _, by rw [e3], ⟨h⟩, ⟨by have := HQ.out; omega⟩, HS, HB⟩
     rw [if_pos c3] at h
     have c3d : (Int.tmod (s / 2 ^ up.length) 2 == 1) = true := beq_iff_eq.mpr c3
     obtain ⟨o, A0, h⟩ := Option.bind_eq_some_iff.mp h
     have A := Aside0.mk A0
     have H := Aside0.mk h
     clear A0 h
     obtain ⟨A1, cu1, rfl⟩ := Kd.R_slice HS.out.2.2.2.2.1
     have hx1 := (blk_cell HS.out.1 0).trans rfl
     have hx4 := (blk_cell HS.out.2.2.2.1 0).trans rfl
     have HRW := Aside0.mk HS.out.2.2.2.2.1
     go_wp2_with (first | (at_builtin; refine Kd.R_append (Kd.int .i64) (w0 := w0) w0.heap.size rfl (.tmp 33) (.tmp 35) 30 3 (.int .i64 0) 8 rfl Try.underlying30 info3 rfl (by decide) (by omega) (.slice A1 up.length cu1) up s [.int .i64 s] (fun k => k ≠ gU ∧ k ≠ gN ∧ k ≠ gO ∧ k ≠ gG) (fun _ => False) rfl rfl rfl (fun k hk => hk.elim) (fun k hk => (HS.out.fresh k hk).1) HRW.out HB.out (below_size HB.out) (by have := HX.out; omega) ?_; intro v1 w1 hR1 hb1 hg1 hat1; obtain ⟨A2, c2, rfl⟩ := Kd.R_slice hR1; have HS2 := Aside0.mk (HS.out.put_up hg1 hat1 hR1); have kU := (hg1.block gU (blk_lt HS.out.1) (fun e => (HRW.out.1 gU e.symm).1 rfl)).trans HS.out.1; have kf := blk_frozen kU 0; have kc := (blk_cell kU 0).trans rfl; have kg := (blk_cell HS2.out.2.2.2.1 0).trans rfl; have HB2 := Aside0.mk (below_set (j := 0) (v := .slice A2 (up ++ [s]).length c2) hb1 hU); rw [show (up ++ [s]).length = up.length + 1 by rw [List.length_append]; rfl] at HS2 HB2 kg; clear hR1 hb1 hg1 hat1))
     refine (IH.out k1 (m : Int) (up ++ [s]) out1 o _ _ _ (by have := HQ.out; have := HK.out; omega) HS2.out HB2.out A.out).mono ?_
     rintro e w2 ⟨rfl, ⟨vu2, vo2, hs2⟩, hb2⟩
     have hr2 := hs2.2.2.2.2.1
     obtain ⟨gA, cA, rfl, _, _, _⟩ := Kd.R_form hr2 (by rw [List.length_append]; exact Nat.succ_pos _)
     have ht2 := Kd.R_take (m := up.length) hr2 (by rw [List.length_append]; exact Nat.le_add_right _ _)
     rw [List.take_left] at ht2
     have HS3 := Aside0.mk (hs2.put_up (v1 := .slice (some ⟨gA, 0, none⟩) up.length cA) (World.grownBy.refl w2 _) (.inl rfl) ht2)
     have HB3 := Aside0.mk (below_set (j := 0) (v := .slice (some ⟨gA, 0, none⟩) up.length cA) hb2 hU)
     have kU2 := hs2.1
     have kf2 := blk_frozen kU2 0
     have kc2 := (blk_cell kU2 0).trans rfl
     have hcA := (Kd.R_reads' hr2).2.1
     rw [show (up ++ [s]).length = up.length + 1 by rw [List.length_append]; rfl] at hcA kU2 kc2
     have hcB : up.length ≤ cA := by omega
     clear hr2 ht2 hs2 hb2
     go_wp2
     go_roundg k1
     case measure => omega
     case rel => exact ⟨s + 2 ^ up.length, o, _, _, by rw [e3], H, ⟨by have := HQ.out; omega⟩, HS3, HB3⟩
theorem S_empty {α : Type} {d : Kd α} {e base : Nat} {ok : Nat → Prop} {w : World} {v : Value} (h : d.R e w base ok v []) : Kd.S d e w base ok v [] := by
 obtain ⟨h0, inner, ho, hr⟩ := h
 exact ⟨fun _ => 0, h0, inner, ho, hr.1, fun j p hj => by simp at hj⟩
set_option maxHeartbeats 4000000 in
set_option maxRecDepth 100000 in
theorem impl_AllLattices.calls (k : Nat) (a0 : Int) (r : List (List Int)) (w : World) (h : impl_AllLattices.f k a0 = some r) :
  Calls Try.prog 6 #[.int .i64 a0] w fun e w' => ∃ v0_ : Value, e = .returned (v0_) ∧ Kd.S (Kd.slice 3 (Kd.int .i64)) 30 w' w.heap.size (fun _ => True) v0_ r ∧ Below w.heap.size w w' := by
 have hmf : ∀ (fn : Fn) (first cap : Array Value) (w : World), (Instr.makeFunc fn first cap).run Try.prog w = .ok (.func fn first cap) w := fun _ _ _ _ => rfl
 unfold impl_AllLattices.f at h
 obtain ⟨b, A0, h⟩ := Option.bind_eq_some_iff.mp h
 have A := ak A0
 clear A0
 cases b with
 | false =>
  rw [if_neg (by decide)] at h
  obtain rfl := Option.some.inj h
  go_enter Try.func6, Try.ntmps6
  go_wp2_with (first | (go_at_call 19; (with_reducible refine (impl_within.calls _ _ _ _ _ A.out).mono ?_); rintro e w' ⟨rfl, ⟨nd, rfl⟩⟩))
  go_ret
  exact ⟨_, rfl, Kd.S_nil _ _ _ _ _, kB (Below.refl _ _)⟩
 | true =>
  rw [if_pos rfl] at h
  have H := ak h
  clear h
  go_enter Try.func6, Try.ntmps6
  go_wp2_with (first | (go_at_call 19; (with_reducible refine (impl_within.calls _ _ _ _ _ A.out).mono ?_); rintro e w' ⟨rfl, ⟨nd, rfl⟩⟩) | ((with_reducible refine gate_dst (N := 1) rfl ?_); refine box_event ?hg (N := 1) ?hd (cs := #[.int .i64 a0]) (t := 3) ?hr ?_; (case hd => rfl); (case hg => rfl); (case hr => first | (go_simp; done) | (go_simp; rfl)); intro gN hqgN w1 hXgN hb1; have KgN := ak hXgN; have QgN := ak hqgN; have BgN := ak hb1; have cgN := (blk_cell hXgN 0).trans rfl; have fgN := blk_frozen hXgN 0; clear hXgN hqgN hb1) | ((with_reducible refine gate_dst (N := 9) rfl ?_); refine Kd.R_lit (Kd.slice 3 (Kd.int .i64)) _ 30 ?hg (N := 9) ?hd (xs := []) (inner := []) (ok := fun _ => True) (okp := fun _ => True) ?hr (Reps.none _ _) (fun _ h => h) trivial (Below.refl _ _) (Nat.le_refl _) (by simp) ?_; (case hd => rfl); (case hg => rfl); (case hr => first | (go_simp; done) | (go_simp; rfl)); intro v2 w2 hS2 hb2 hg2 hn2; obtain ⟨Ao, co, rfl⟩ := Kd.R_slice hS2; have S2 := ak (S_empty hS2); have B2 := ak hb2; clear hS2 hb2 hg2 hn2) | ((with_reducible refine gate_dst (N := 10) rfl ?_); refine Kd.R_lit (Kd.int .i64) _ 3 ?hg (N := 10) ?hd (xs := []) (inner := []) (ok := fun _ => True) (okp := fun _ => True) ?hr (Reps.none _ _) (fun _ h => h) trivial (Below.refl _ _) (Nat.le_refl _) (by simp) ?_; (case hd => rfl); (case hg => rfl); (case hr => first | (go_simp; done) | (go_simp; rfl)); intro v3 w3 hR3 hb3 hg3 hn3; obtain ⟨Au, cu, rfl⟩ := Kd.R_slice hR3; have R3 := ak hR3; have B3 := ak hb3; clear hR3 hb3 hg3 hn3) | ((with_reducible refine gate_dst (N := 3) rfl ?_); refine box_event ?hg (N := 3) ?hd (cs := #[.slice none 0 0]) (t := 22) ?hr ?_; (case hd => rfl); (case hg => rfl); (case hr => first | (go_simp; done) | (go_simp; rfl)); intro gO hqgO w4 hXgO hb4; have KgO := ak hXgO; have QgO := ak hqgO; have BgO := ak hb4; have cgO := (blk_cell hXgO 0).trans rfl; have fgO := blk_frozen hXgO 0; clear hXgO hqgO hb4) | ((with_reducible refine gate_dst (N := 4) rfl ?_); refine box_event ?hg (N := 4) ?hd (cs := #[.slice none 0 0]) (t := 30) ?hr ?_; (case hd => rfl); (case hg => rfl); (case hr => first | (go_simp; done) | (go_simp; rfl)); intro gU hqgU w5 hXgU hb5; have KgU := ak hXgU; have QgU := ak hqgU; have BgU := ak hb5; have cgU := (blk_cell hXgU 0).trans rfl; have fgU := blk_frozen hXgU 0; have KgO5 := (hb5.block gO (blk_lt KgO.out)).trans KgO.out; have cgO5 := (blk_cell KgO5 0).trans rfl; have fgO5 := blk_frozen KgO5 0; have nUO := ne_types hXgU KgO5 (by decide); have LgO5 := ak KgO5; clear hXgU hqgU hb5 KgO5) | ((with_reducible refine gate_dst (N := 5) rfl ?_); refine box_event ?hg (N := 5) ?hd (cs := #[.nilFunc]) (t := 1) ?hr ?_; (case hd => rfl); (case hg => rfl); (case hr => first | (go_simp; done) | (go_simp; rfl)); intro gG hqgG w6 hXgG hb6; have KgG := ak hXgG; have QgG := ak hqgG; have BgG := ak hb6; have cgG := (blk_cell hXgG 0).trans rfl; have fgG := blk_frozen hXgG 0; clear hXgG hqgG hb6))
  have sN := blk_lt KgN.out
  have z12 : w1.heap.size ≤ w2.heap.size := B2.out.size
  have z23 := B3.out.size
  have z34 := BgO.out.size
  have z45 := BgU.out.size
  have z1 := BgN.out.size
  have eO := QgO.out
  have eU := QgU.out
  have eG : gG = w5.heap.size := by rw [QgG.out, World.size_setCell, World.size_setCell]
  have hN2 : w2.heap[gN]? = some (.cells #[.int .i64 a0] 3 (0, 0)) := (B2.out.block gN sN).trans KgN.out
  have hN5 := (BgU.out.block gN (by omega)).trans ((BgO.out.block gN (by omega)).trans ((B3.out.block gN (by omega)).trans hN2))
  have hR := Kd.R_below (Kd.R_below (Kd.R_lower (Kd.R_mono (ok' := fun k => k ≠ gU ∧ k ≠ gN ∧ k ≠ gO ∧ k ≠ gG) (Kd.R_bound R3.out) (fun k hk => by have h1 := hk.2.1; have h2 := hk.2.2.1; exact ⟨by omega, by omega, by omega, by omega⟩)) (show w.heap.size ≤ w2.heap.size by omega)) BgO.out) BgU.out
  have hS := Kd.S_below (Kd.S_below (Kd.S_below (Kd.S_lower (Kd.S_mono (ok' := fun k => (k ≠ gU ∧ k ≠ gN ∧ k ≠ gO ∧ k ≠ gG) ∧ some k ≠ (Value.slice Au ([] : List Int).length cu).ownBlock) (Kd.S_bound S2.out) (fun k hk => by
   have h1 : w1.heap.size ≤ k := hk.2.1
   have h2 := hk.2.2.1
   exact ⟨⟨by omega, by omega, by omega, by omega⟩, fun e => by have := Kd.R_base R3.out k e.symm; omega⟩)) (show w.heap.size ≤ (w1.drewN nd).heap.size from z1)) B3.out) BgO.out) BgU.out
  have nNO := ne_types hN5 LgO5.out (by decide)
  have nNU := ne_types hN5 KgU.out (by decide)
  have b5 := below_step (below_step (below_step (below_step (pw_below_drewN BgN.out nd) B2.out) B3.out) BgO.out) BgU.out
  have pU := blk_put (blk_far (p := ⟨gO, 0, none⟩) KgU.out nUO (.slice Ao 0 co)) 0 (.slice Au 0 cu) rfl
  have pN := blk_far (p := ⟨gU, 0, none⟩) (blk_far (p := ⟨gO, 0, none⟩) hN5 nNO (.slice Ao 0 co)) nNU (.slice Au 0 cu)
  have pO := blk_far (p := ⟨gU, 0, none⟩) (blk_put LgO5.out 0 (.slice Ao 0 co) rfl) (Ne.symm nUO) (.slice Au 0 cu)
  have pR := Kd.R_far (p := ⟨gU, 0, none⟩) (Kd.R_far (p := ⟨gO, 0, none⟩) hR (fun k hk => hk.2.2.1) (.slice Ao 0 co)) (fun k hk => hk.1) (.slice Au 0 cu)
  have pS := Kd.S_far (p := ⟨gU, 0, none⟩) (Kd.S_far (p := ⟨gO, 0, none⟩) hS (fun k hk => hk.1.2.2.1) (.slice Ao 0 co)) (fun k hk => hk.1.1) (.slice Au 0 cu)
  have hU0 : w.heap.size ≤ gU := by omega
  have hO0 : w.heap.size ≤ gO := by omega
  have b6 := below_step (below_set (j := 0) (v := .slice Au 0 cu) (below_set (j := 0) (v := .slice Ao 0 co) b5 hO0) hU0) BgG.out
  have qU := (BgG.out.block gU (blk_lt pU)).trans pU
  have qN := (BgG.out.block gN (blk_lt pN)).trans pN
  have qO := (BgG.out.block gO (blk_lt pO)).trans pO
  have qR := Kd.R_below pR BgG.out
  have qS := Kd.S_below pS BgG.out
  have hAL : ALs w.heap.size gU gN gO gG a0 (w6.setCell ⟨gG, 0, none⟩ (.func (.func 20) #[] #[.pointer (some ⟨gU, 0, none⟩), .pointer (some ⟨gN, 0, none⟩), .pointer (some ⟨gO, 0, none⟩), .pointer (some ⟨gG, 0, none⟩)])) [] [] (.slice Au 0 cu) (.slice Ao 0 co) :=
   ⟨blk_far qU (ne_types qU KgG.out (by decide)) _, blk_far qN (ne_types qN KgG.out (by decide)) _, blk_far qO (ne_types qO KgG.out (by decide)) _, blk_put KgG.out 0 _ rfl, Kd.R_far (p := ⟨gG, 0, none⟩) qR (fun k hk => hk.2.2.2) _, Kd.S_far (p := ⟨gG, 0, none⟩) qS (fun k hk => hk.1.2.2.2) _⟩
  refine (impl_grow.calls w gU gN gO gG hU0 hO0 k k a0 [] [] r _ _ _ (Nat.le_refl _) hAL (below_set b6 (by omega)) H.out).mono ?_
  rintro e w7 ⟨rfl, ⟨vu', vo', hs⟩, hb⟩
  obtain ⟨Ax, cx, rfl⟩ := Kd.S_slice hs.2.2.2.2.2
  have HS := ak hs
  have HB := ak hb
  have xO := (blk_cell hs.2.2.1 0).trans rfl
  clear eO eU eG sN z12 z23 z34 z45 z1 hs hb hAL qR qS qU qN qO b6 pR pS pO pN pU b5 hS hR hN5 hN2
  go_wp2
  go_ret
  exact ⟨_, rfl, Kd.S_mono HS.out.2.2.2.2.2 (fun _ _ => trivial), HB.out⟩
end Go.Proofs.Ytjijfflifonjoaa.P

-- shrunk
