-- Printed by this session's wip/print2.py (the kit's print.py, widened) out of the translation. Lean checks it.
import Derived.Test.YtjidbgmkhapklaaP0
import Derived.Test.YtjidbgmkhapklaaP23
namespace Go.Proofs.Ytjidbgmkhapklaa.P
open Go.RowKit Go.Proofs.YtjidbgmkhapklaaW.PrintWords Go.Proofs.YtjidbgmkhapklaaW.PrintLast Go.Proofs.YtjidbgmkhapklaaW.PrintMore
attribute [local go_sem] max2_int min2_int max_two min_two max_three min_three max_four min_four   -- for this text's walks alone
set_option linter.unusedVariables false
set_option linter.unusedSimpArgs false

/-! ### laws_markIntSS: by hand -/
theorem age_at {W W1 : World} (hb : Below W.heap.size W W1) : ∃ n_ : Nat, Aside0 (n_ = W.heap.size) := ⟨_, ⟨rfl⟩⟩
section
variable {α : Type} {d : Kd α} {e n base : Nat} {w1 W : World} {ok : Nat → Prop} {u v : Value} {xs : List α}
theorem age_oldR (h : d.R e W base ok u xs) (hb : Below W.heap.size W w1) (hn : n = W.heap.size) : d.R e w1 base (fun k => ok k ∧ k < n) u xs := by subst hn; exact Kd.R_old h hb
theorem age_oldS (h : Kd.S d e W base ok u xs) (hb : Below W.heap.size W w1) (hn : n = W.heap.size) : Kd.S d e w1 base (fun k => ok k ∧ k < n) u xs := by subst hn; exact Kd.S_old h hb
theorem age_newR (h : d.R e w1 W.heap.size ok v xs) (hn : n = W.heap.size) : d.R e w1 W.heap.size (fun k => ok k ∧ n ≤ k) v xs := by subst hn; exact Kd.R_mono (Kd.R_bound h) (fun _ hk => ⟨hk.1, hk.2.1⟩)
theorem age_newS (h : Kd.S d e w1 W.heap.size ok v xs) (hn : n = W.heap.size) : Kd.S d e w1 W.heap.size (fun k => ok k ∧ n ≤ k) v xs := by subst hn; exact Kd.S_mono (Kd.S_bound h) (fun _ hk => ⟨hk.1, hk.2.1⟩)
end
/-- Worlds whose heap keeps what is in it. -/
inductive KeepW : World → World → Prop
 | refl (w : World) : KeepW w w
 | alloc {w w1 : World} (o : Obj) (h : KeepW w w1) : KeepW w (w1.alloc o)
 | drew {w w1 : World} (h : KeepW w w1) : KeepW w w1.drew
 | drewN {w w1 : World} (n : Nat) (h : KeepW w w1) : KeepW w (w1.drewN n)
section
variable {α : Type} {d : Kd α} {e base : Nat} {w w1 : World} {ok : Nat → Prop} {v : Value} {xs : List α}
theorem kR (h : d.R e w base ok v xs) (k : KeepW w w1 := by repeat (with_reducible first | exact KeepW.refl _ | apply KeepW.drew | apply KeepW.drewN | apply KeepW.alloc)) : d.R e w1 base ok v xs := by
 induction k with
 | refl => exact h
 | alloc o _ ih => exact Kd.R_alloc ih o
 | drew _ ih => exact Kd.R_drew ih
 | drewN n _ ih => exact Kd.R_drewN ih n
theorem kS (h : Kd.S d e w base ok v xs) (k : KeepW w w1 := by repeat (with_reducible first | exact KeepW.refl _ | apply KeepW.drew | apply KeepW.drewN | apply KeepW.alloc)) : Kd.S d e w1 base ok v xs := by
 induction k with
 | refl => exact h
 | alloc o _ ih => exact Kd.S_alloc ih o
 | drew _ ih => exact Kd.S_drew ih
 | drewN n _ ih => exact Kd.S_drewN ih n
theorem kK {g : Nat} {o : Obj} (h : w.heap[g]? = some o) (k : KeepW w w1 := by repeat (with_reducible first | exact KeepW.refl _ | apply KeepW.drew | apply KeepW.drewN | apply KeepW.alloc)) : w1.heap[g]? = some o := by
 induction k with
 | refl => exact h
 | alloc o' _ ih => exact blk_alloc ih o'
 | drew _ ih => exact blk_drew ih
 | drewN n _ ih => exact blk_drewN ih n
theorem kB {w0 : World} (h : Below w0.heap.size w0 w) (k : KeepW w w1 := by repeat (with_reducible first | exact KeepW.refl _ | apply KeepW.drew | apply KeepW.drewN | apply KeepW.alloc)) : Below w0.heap.size w0 w1 := by
 induction k with
 | refl => exact h
 | alloc o' _ ih => exact below_alloc ih o'
 | drew _ ih => exact below_drew1 ih
 | drewN n _ ih => exact pw_below_drewN ih n
theorem ge_box {w0 : World} {g : Nat} (hg : g = w.heap.size) (h : Below w0.heap.size w0 w) : w0.heap.size ≤ g := by rw [hg]; exact below_size h
theorem ne_box {g g' : Nat} {o : Obj} (hg : g = w.heap.size) (h : w.heap[g']? = some o) : g' ≠ g := by rw [hg]; exact Nat.ne_of_lt (blk_lt h)
theorem ne_box' {g g' : Nat} {o : Obj} (hg : g = w.heap.size) (h : w.heap[g']? = some o) : g ≠ g' := by rw [hg]; exact Nat.ne_of_gt (blk_lt h)
theorem s1R {g t : Nat} {cells : Array Value} {i0 : Nat} {u0 : Value} (h : d.R e w base ok v xs) (hb : w.heap[g]? = some (.cells cells t (0, 0))) (ht : ∀ q, q ∈ e :: d.E → q ≠ t := by decide) : d.R e (w.setCell ⟨g, i0, none⟩ u0) base ok v xs := Kd.R_mono (Kd.R_far (p := ⟨g, i0, none⟩) (Kd.R_types h hb ht) (fun _ hk => hk.2) u0) (fun _ h_ => h_.1)
theorem s2R {g t : Nat} {cells : Array Value} {i0 i1 : Nat} {u0 u1 : Value} (h : d.R e w base ok v xs) (hb : w.heap[g]? = some (.cells cells t (0, 0))) (ht : ∀ q, q ∈ e :: d.E → q ≠ t := by decide) : d.R e ((w.setCell ⟨g, i0, none⟩ u0).setCell ⟨g, i1, none⟩ u1) base ok v xs := Kd.R_mono (Kd.R_far (p := ⟨g, i1, none⟩) (Kd.R_far (p := ⟨g, i0, none⟩) (Kd.R_types h hb ht) (fun _ hk => hk.2) u0) (fun _ hk => hk.2) u1) (fun _ h_ => h_.1)
theorem s3R {g t : Nat} {cells : Array Value} {i0 i1 i2 : Nat} {u0 u1 u2 : Value} (h : d.R e w base ok v xs) (hb : w.heap[g]? = some (.cells cells t (0, 0))) (ht : ∀ q, q ∈ e :: d.E → q ≠ t := by decide) : d.R e (((w.setCell ⟨g, i0, none⟩ u0).setCell ⟨g, i1, none⟩ u1).setCell ⟨g, i2, none⟩ u2) base ok v xs := Kd.R_mono (Kd.R_far (p := ⟨g, i2, none⟩) (Kd.R_far (p := ⟨g, i1, none⟩) (Kd.R_far (p := ⟨g, i0, none⟩) (Kd.R_types h hb ht) (fun _ hk => hk.2) u0) (fun _ hk => hk.2) u1) (fun _ hk => hk.2) u2) (fun _ h_ => h_.1)
theorem s4R {g t : Nat} {cells : Array Value} {i0 i1 i2 i3 : Nat} {u0 u1 u2 u3 : Value} (h : d.R e w base ok v xs) (hb : w.heap[g]? = some (.cells cells t (0, 0))) (ht : ∀ q, q ∈ e :: d.E → q ≠ t := by decide) : d.R e ((((w.setCell ⟨g, i0, none⟩ u0).setCell ⟨g, i1, none⟩ u1).setCell ⟨g, i2, none⟩ u2).setCell ⟨g, i3, none⟩ u3) base ok v xs := Kd.R_mono (Kd.R_far (p := ⟨g, i3, none⟩) (Kd.R_far (p := ⟨g, i2, none⟩) (Kd.R_far (p := ⟨g, i1, none⟩) (Kd.R_far (p := ⟨g, i0, none⟩) (Kd.R_types h hb ht) (fun _ hk => hk.2) u0) (fun _ hk => hk.2) u1) (fun _ hk => hk.2) u2) (fun _ hk => hk.2) u3) (fun _ h_ => h_.1)
theorem s1S {g t : Nat} {cells : Array Value} {i0 : Nat} {u0 : Value} (h : Kd.S d e w base ok v xs) (hb : w.heap[g]? = some (.cells cells t (0, 0))) (ht : ∀ q, q ∈ e :: d.E → q ≠ t := by decide) : Kd.S d e (w.setCell ⟨g, i0, none⟩ u0) base ok v xs := Kd.S_mono (Kd.S_far (p := ⟨g, i0, none⟩) (Kd.S_types h hb ht) (fun _ hk => hk.2) u0) (fun _ h_ => h_.1)
theorem s2S {g t : Nat} {cells : Array Value} {i0 i1 : Nat} {u0 u1 : Value} (h : Kd.S d e w base ok v xs) (hb : w.heap[g]? = some (.cells cells t (0, 0))) (ht : ∀ q, q ∈ e :: d.E → q ≠ t := by decide) : Kd.S d e ((w.setCell ⟨g, i0, none⟩ u0).setCell ⟨g, i1, none⟩ u1) base ok v xs := Kd.S_mono (Kd.S_far (p := ⟨g, i1, none⟩) (Kd.S_far (p := ⟨g, i0, none⟩) (Kd.S_types h hb ht) (fun _ hk => hk.2) u0) (fun _ hk => hk.2) u1) (fun _ h_ => h_.1)
theorem s3S {g t : Nat} {cells : Array Value} {i0 i1 i2 : Nat} {u0 u1 u2 : Value} (h : Kd.S d e w base ok v xs) (hb : w.heap[g]? = some (.cells cells t (0, 0))) (ht : ∀ q, q ∈ e :: d.E → q ≠ t := by decide) : Kd.S d e (((w.setCell ⟨g, i0, none⟩ u0).setCell ⟨g, i1, none⟩ u1).setCell ⟨g, i2, none⟩ u2) base ok v xs := Kd.S_mono (Kd.S_far (p := ⟨g, i2, none⟩) (Kd.S_far (p := ⟨g, i1, none⟩) (Kd.S_far (p := ⟨g, i0, none⟩) (Kd.S_types h hb ht) (fun _ hk => hk.2) u0) (fun _ hk => hk.2) u1) (fun _ hk => hk.2) u2) (fun _ h_ => h_.1)
theorem s4S {g t : Nat} {cells : Array Value} {i0 i1 i2 i3 : Nat} {u0 u1 u2 u3 : Value} (h : Kd.S d e w base ok v xs) (hb : w.heap[g]? = some (.cells cells t (0, 0))) (ht : ∀ q, q ∈ e :: d.E → q ≠ t := by decide) : Kd.S d e ((((w.setCell ⟨g, i0, none⟩ u0).setCell ⟨g, i1, none⟩ u1).setCell ⟨g, i2, none⟩ u2).setCell ⟨g, i3, none⟩ u3) base ok v xs := Kd.S_mono (Kd.S_far (p := ⟨g, i3, none⟩) (Kd.S_far (p := ⟨g, i2, none⟩) (Kd.S_far (p := ⟨g, i1, none⟩) (Kd.S_far (p := ⟨g, i0, none⟩) (Kd.S_types h hb ht) (fun _ hk => hk.2) u0) (fun _ hk => hk.2) u1) (fun _ hk => hk.2) u2) (fun _ hk => hk.2) u3) (fun _ h_ => h_.1)
end
/-- Marking rows of numbers, one behind the other: the mark that comes next, and the rows as they are then. -/
def laws_markIntSS.l0 : Nat → List (List Int) → Int → Int → Option (Int × (List (List Int)))
 | 0, _, _, _ => none
 | k + 1, x0, x1, x5 => if x5 < (x0.length : Int) then (if 0 ≤ x5 then ((laws_markIntS.f k (rd_L1 x0 x5) x1).bind fun t => laws_markIntSS.l0 k (x0.set x5.toNat t.2) t.1 (wrap64 (x5 + 1))) else none) else some (x1, x0)
def laws_markIntSS.f (k : Nat) (l0 : List (List Int)) (a1 : Int) : Option (Int × (List (List Int))) := laws_markIntSS.l0 k l0 a1 0
set_option maxHeartbeats 8000000 in
set_option maxRecDepth 100000 in
theorem laws_markIntSS.calls (k : Nat) (P0_ : Nat → Prop) (u0_ : Value) (l0 : List (List Int)) (a1 : Int) (r1 : Int) (r2 : List (List Int)) (w0 w : World) (hB : Below w0.heap.size w0 w) (ho : Kd.S (Kd.slice 3 (Kd.int .i64)) 22 w w0.heap.size P0_ u0_ l0) (h : laws_markIntSS.f k l0 a1 = some (r1, r2)) :
  Calls Try.prog 40 #[u0_, .int .i64 a1] w fun e w' => e = .returned (.int .i64 r1) ∧ Kd.S (Kd.slice 3 (Kd.int .i64)) 22 w' w0.heap.size P0_ u0_ r2 ∧ Below w0.heap.size w0 w' ∧ Kept w w' P0_ := by
 obtain ⟨A0, c0, rfl⟩ := Kd.S_slice ho
 have HO := Aside0.mk ho
 have HB := Aside0.mk hB
 have H' := Aside0.mk (show laws_markIntSS.l0 k l0 a1 0 = some (r1, r2) from h)
 clear ho hB h
 go_enter Try.func40, Try.ntmps40
 go_wp2
 go_loopg [1, 5] k (fun kq v1 v5 wr => ∃ (y : List (List Int)) (x1 x5 : Int), v1 = .int .i64 x1 ∧ v5 = .int .i64 x5 ∧ Aside0 (laws_markIntSS.l0 kq y x1 x5 = some (r1, r2)) ∧ Aside0 (y.length = l0.length) ∧ Aside0 (Kd.S (Kd.slice 3 (Kd.int .i64)) 22 wr w0.heap.size P0_ (.slice A0 l0.length c0) y) ∧ Aside0 (Kept w wr P0_) ∧ Aside0 (Below w0.heap.size w0 wr))
 case atStart => exact ⟨l0, a1, 0, rfl, rfl, H', ⟨rfl⟩, HO, ⟨Kept.refl _ _⟩, HB⟩
 case round =>
  clear H' HO HB
  obtain ⟨y, x1, x5, rfl, rfl, HA, HY, HO, HK, HB⟩ := hrel
  cases gk with
  | zero => exact absurd HA.out (by simp [laws_markIntSS.l0])
  | succ k1 =>
   have H := HA.out
   clear HA
   simp only [laws_markIntSS.l0] at H
   rw [HY.out] at H
   by_cases c3 : x5 < (l0.length : Int)
   ·rw [if_pos c3] at H
    by_cases c4 : 0 ≤ x5
    ·rw [if_pos c4] at H
     obtain ⟨⟨t1, t2⟩, hcall, H⟩ := Option.bind_eq_some_iff.mp H
     have H' := Aside0.mk H
     have HC := Aside0.mk hcall
     clear H hcall
     obtain ⟨g0, cap, eo, gb, gl, cl, HG⟩ := Kd.S_form HO.out (by have := HY.out; omega)
     have ecc := eo
     rw [HY.out] at ecc
     injection ecc with eA _ ec
     subst eA
     subst ec
     clear eo
     have GX := Aside0.mk (And.intro gb gl)
     clear gb gl HG
     obtain ⟨oki, cc, hcl, hM, hcc, hoki, hH⟩ := Kd.S_lend HO.out [] x5 c4 c3
     obtain ⟨v, rfl, hR⟩ := hM
     have hcell := hcc 0 v rfl
     rw [show x5.toNat * (Kd.slice 3 (Kd.int .i64)).sz + 0 = x5.toNat from by show x5.toNat * 1 + 0 = _; omega] at hcell
     have er : y.getD x5.toNat [] = rd_L1 y x5 := rfl
     rw [er] at hR
     have HR := Aside0.mk hR
     have HH := Aside0.mk hH
     have HI := Aside0.mk hoki
     obtain ⟨Av, cv, rfl⟩ := Kd.R_slice hR
     clear hR hH hoki hcc hcl er
     have d3 : decide (x5 < (l0.length : Int)) = true := decide_eq_true c3
     have d4 : decide (0 ≤ x5) = true := decide_eq_true c4
     go_wp2_with (go_at_call 18; refine (laws_markIntS.calls k1 oki _ (rd_L1 y x5) x1 t1 t2 w0 _ HB.out HR.out HC.out).mono ?_; rintro e w' ⟨rfl, hR2, hb, hkp⟩)
     go_roundg k1
     case measure => omega
     case rel =>
      have hw : wrap64 (x5 + 1) = x5 + 1 := by
       have h_ := (Kd.S_reads' HO.out).2.2.2.1
       have h2_ := HY.out
       unfold wrap64; omega
      refine ⟨y.set x5.toNat t2, t1, x5 + 1, rfl, by rw [hw], ⟨by rw [← hw]; exact H'.out⟩, ⟨by rw [List.length_set]; exact HY.out⟩, ⟨?_⟩, ⟨Kept.then_ HK.out hkp (fun k_ hk_ => .inl (HI.out k_ hk_).1)⟩, ⟨hb⟩⟩
      exact Kd.H_back (by obtain ⟨ho_, f_, h_⟩ := HH.out; exact ⟨ho_, f_, Kd.R_step h_ (fun k_ hk_ hlt => hkp.2 k_ hlt hk_.2)⟩) (Kd.M_row (Kd.R_mono (Kd.R_tight rfl hR2) (fun k_ e_ => HR.out.1 k_ e_.symm))) (fun _ h => h)
    ·rw [if_neg c4] at H
     exact absurd H (by simp)
   ·rw [if_neg c3] at H
    simp only [Option.some.injEq, Prod.mk.injEq] at H
    obtain ⟨rfl, rfl⟩ := H
    have d3 : decide (x5 < (l0.length : Int)) = false := decide_eq_false c3
    go_wp2
    go_ret
    exact ⟨rfl, HO.out, HB.out, HK.out⟩


/-! ### laws_markAlgebra: by hand -/
def laws_markAlgebra.f (k : Nat) (l0_0 : List Int) (l0_1 : List (List Int)) (a1 : Int) : Option (Int × (List Int) × (List (List Int))) := (laws_markIntS.f k l0_0 a1).bind fun t => (laws_markIntSS.f k l0_1 t.1).bind fun t2 => some (t2.1, t.2, t2.2)
set_option maxHeartbeats 8000000 in
set_option maxRecDepth 100000 in
theorem laws_markAlgebra.calls (k : Nat) (P0_ : Nat → Prop) (u0_ : Value) (l0_0 : List Int) (P1_ : Nat → Prop) (u1_ : Value) (l0_1 : List (List Int)) (a1 : Int) (r1 : Int) (r2 : List Int) (r3 : List (List Int)) (w0 w : World) (hB : Below w0.heap.size w0 w) (ho0 : Kd.R (Kd.int .i64) 3 w w0.heap.size P0_ u0_ l0_0) (ho1 : Kd.S (Kd.slice 3 (Kd.int .i64)) 22 w w0.heap.size P1_ u1_ l0_1) (hap : ∀ k_, u0_.ownBlock = some k_ → ¬ P1_ k_) (h : laws_markAlgebra.f k l0_0 l0_1 a1 = some (r1, r2, r3)) :
  Calls Try.prog 19 #[.agg #[u0_, u1_], .int .i64 a1] w fun e w' => e = .returned (.int .i64 r1) ∧ Kd.R (Kd.int .i64) 3 w' w0.heap.size (fun k_ => some k_ = u0_.ownBlock) u0_ r2 ∧ Kd.S (Kd.slice 3 (Kd.int .i64)) 22 w' w0.heap.size P1_ u1_ r3 ∧ Below w0.heap.size w0 w' ∧ Kept w w' (fun k_ => P0_ k_ ∨ P1_ k_) := by
 obtain ⟨A0, c0, rfl⟩ := Kd.R_slice ho0
 obtain ⟨A1, c1, rfl⟩ := Kd.S_slice ho1
 have HR := Aside0.mk ho0
 have HS := Aside0.mk ho1
 have HP := Aside0.mk hap
 have HB := Aside0.mk hB
 unfold laws_markAlgebra.f at h
 obtain ⟨⟨t1, t2⟩, h1, h⟩ := Option.bind_eq_some_iff.mp h
 obtain ⟨⟨t3, t4⟩, h2, h⟩ := Option.bind_eq_some_iff.mp h
 simp only [Option.some.injEq, Prod.mk.injEq] at h
 obtain ⟨rfl, rfl, rfl⟩ := h
 have H1 := Aside0.mk h1
 have H2 := Aside0.mk h2
 clear ho0 ho1 hap hB h1 h2
 go_enter Try.func19, Try.ntmps19
 go_wp2_with (first | ((with_reducible refine gate_dst (N := 2) rfl ?_); refine box_event ?hg (N := 2) ?hd (cs := #[.slice A0 l0_0.length c0, .slice A1 l0_1.length c1]) (t := 25) ?hr ?_; (case hd => rfl); (case hg => rfl); (case hr => first | (go_simp; done) | (go_simp; rfl)); intro gb hg w4 hbox hb; have HB4 := Aside0.mk (below_step HB.out hb); have BK := Aside0.mk hbox; have HR4 := Aside0.mk (Kd.R_tight rfl (Kd.R_below HR.out hb)); have HS4 := Aside0.mk (Kd.S_below HS.out hb); have HK4 := Aside0.mk hb; clear hb hbox hg; have hcz0 : w4.cell? ⟨gb, 0, none⟩ = some (.slice A0 l0_0.length c0) := (blk_cell BK.out 0).trans rfl; have hcz1 : w4.cell? ⟨gb, 1, none⟩ = some (.slice A1 l0_1.length c1) := (blk_cell BK.out 1).trans rfl) | (go_at_call 18; refine (laws_markIntS.calls k _ _ l0_0 a1 t1 t2 w0 _ HB4.out HR4.out H1.out).mono ?_; rintro e w5 ⟨rfl, hR5, hb5, hk5⟩; have HK5 := Aside0.mk hk5; have HB5 := Aside0.mk hb5; have BK5 := Aside0.mk (blk_kept BK.out hk5 (fun e_ => Kd.R_ne HR4.out BK.out (by decide) e_)); have HS5 := Aside0.mk (show Kd.S (Kd.slice 3 (Kd.int .i64)) 22 w5 w0.heap.size P1_ (.slice A1 l0_1.length c1) l0_1 from (by obtain ⟨f_, h_⟩ := HS4.out; exact ⟨f_, Kd.R_step h_ (fun k_ hk_ hlt => hk5.2 k_ hlt (fun e_ => HP.out k_ e_.symm hk_))⟩)); have HR5 := Aside0.mk hR5; clear hR5 hb5 hk5; have hcy1 : w5.cell? ⟨gb, 1, none⟩ = some (.slice A1 l0_1.length c1) := (blk_cell BK5.out 1).trans rfl) | (go_at_call 40; refine (laws_markIntSS.calls k _ _ l0_1 t1 t3 t4 w0 _ HB5.out HS5.out H2.out).mono ?_; rintro e w6 ⟨rfl, hS6, hb6, hk6⟩))
 go_ret
 exact ⟨rfl, Kd.R_kept (Kd.R_tight rfl HR5.out) hk6 (fun k_ e_ h_ => HP.out k_ e_.symm h_), hS6, hb6, Kept.then_ (Kept.then_ (Kept.of_below HK4.out _) HK5.out (fun k_ e_ => .inl (.inl (HR.out.1 k_ e_.symm)))) hk6 (fun k_ e_ => .inl (.inr e_))⟩


end Go.Proofs.Ytjidbgmkhapklaa.P

-- shrunk
