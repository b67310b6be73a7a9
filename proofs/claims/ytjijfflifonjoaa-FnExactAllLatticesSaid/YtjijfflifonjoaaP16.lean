-- Printed by this session's wip/print2.py (the kit's print.py, widened) out of the translation. Lean checks it.
import Derived.Test.YtjijfflifonjoaaP0
namespace Go.Proofs.Ytjijfflifonjoaa.P
open Go.RowKit Go.Proofs.YtjijfflifonjoaaW.PrintWords Go.Proofs.YtjijfflifonjoaaW.PrintLast Go.Proofs.YtjijfflifonjoaaW.PrintMore
attribute [local go_sem] max2_int min2_int max_two min_two max_three min_three max_four min_four   -- for this text's walks alone
set_option linter.unusedVariables false
set_option linter.unusedSimpArgs false

/-! ### laws_markIntS: function 23 -/
def laws_markIntS.l0 : Nat → List Int → Int → Int → Option (Int × List Int)
 | 0, _, _, _ => none
 | k + 1, x0, x1, x5 => if x5 < (x0.length : Int) then (if 0 ≤ x5 then (laws_markIntS.l0 k (x0.set (x5 : Int).toNat x1) (wrap64 (x1 + 1)) (wrap64 (x5 + 1))) else (none)) else (some (x1, x0))
def laws_markIntS.f (k : Nat) (l0 : List Int) (a1 : Int) : Option (Int × List Int) := laws_markIntS.l0 k l0 a1 0
set_option maxHeartbeats 8000000 in
set_option maxRecDepth 100000 in
theorem laws_markIntS.calls (k : Nat) (P0_ : Nat → Prop) (u9000_ : Value) (l0 : List Int) (a1 : Int) (r1 : Int) (r2 : List Int) (w0 w : World) (hB : Below w0.heap.size w0 w) (ho0 : Kd.R (Kd.int .i64) 3 w w0.heap.size P0_ u9000_ l0) (h : laws_markIntS.f k l0 a1 = some (r1, r2)) :
  Calls Try.prog 23 #[u9000_, .int .i64 a1] w fun e w' => e = .returned (.int .i64 r1) ∧ Kd.R (Kd.int .i64) 3 w' w0.heap.size (fun k_ => (P0_ k_ ∨ w.heap.size ≤ k_)) u9000_ r2 ∧ Below w0.heap.size w0 w' ∧ Kept w w' (fun k_ => P0_ k_) := by
 have HO0 := ak (show Kd.R (Kd.int .i64) 3 w w0.heap.size (fun k_ => (P0_ k_ ∨ w.heap.size ≤ k_)) u9000_ l0 from Kd.R_mono ho0 (fun k_ hk => (.inl hk)))
 have HK := ak (Kept.refl w (fun k_ => P0_ k_))
 have HW0 := ak hB.size
 have HB := ak hB
 clear hB
 have H : (laws_markIntS.l0 k l0 a1 0) = some (r1, r2) := h
 clear h
 have H' := ak H
 clear H
 go_enter Try.func23, Try.ntmps23
 go_wp2
 go_loopg [1, 5] k (fun kq v1 v5 w' => ∃ (x0_1 : List Int) (x1_1 : Int) (x5_1 : Int), v1 = .int .i64 x1_1 ∧ v5 = .int .i64 x5_1 ∧ Aside0 (laws_markIntS.l0 kq x0_1 x1_1 x5_1 = some (r1, r2)) ∧ Aside0 (kq ≤ k) ∧ Aside0 (Kd.R (Kd.int .i64) 3 w' w0.heap.size (fun k_ => (P0_ k_ ∨ w.heap.size ≤ k_)) u9000_ x0_1) ∧ Aside0 (Kept w w' (fun k_ => P0_ k_)) ∧ Aside0 (Below w0.heap.size w0 w'))
 case atStart => exact ⟨(l0), (a1), (0), (by first | rfl | (simp; done) | (simp [*]; done)), (by first | rfl | (simp; done) | (simp [*]; done)), H', ⟨Nat.le_refl _⟩, ⟨by (with_reducible repeat (first | apply Kd.R_alloc | apply Kd.R_drewN | apply Kd.R_drew)); exact HO0.out⟩, ⟨by repeat (first | (with_reducible first | exact HK.out | apply Kept.alloc | apply Kept.drewN | apply Kept.drew) | exact HK.out)⟩, ⟨by repeat (first | (with_reducible first | exact HB.out | apply below_alloc | apply pw_below_drewN | apply below_drew1) | exact HB.out)⟩⟩
 case round =>
  clear H'
  try clear c2
  try clear p2
  obtain ⟨x0_1, x1_1, x5_1, rfl, rfl, HA, HK1, HO_0, HK, HB⟩ := hrel
  cases gk with
  | zero => exact absurd HA.out (by simp [laws_markIntS.l0])
  | succ k1 =>
   have H := HA.out
   clear HA
   simp only [laws_markIntS.l0] at H
   by_cases c3 : x5_1 < (x0_1.length : Int)
   rotate_left
   ·rw [if_neg c3] at H
    have c3b0 : decide (x5_1 < (x0_1.length : Int)) = false := decide_eq_false c3
    clear c3
    simp only [Option.some.injEq, Prod.mk.injEq] at H
    obtain ⟨rfl, rfl⟩ := H
    obtain ⟨Ao9, co9, eo9⟩ := Kd.R_slice HO_0.out
    subst eo9
    go_wp2
    go_ret
    exact ⟨by first | rfl | (simp [errW_none, errW_some] <;> rfl) | (simp [*, errW_none, errW_some] <;> rfl), by (with_reducible repeat (first | apply Kd.R_alloc | apply Kd.R_drewN | apply Kd.R_drew)); exact HO_0.out, by repeat (first | (with_reducible first | exact HB.out | apply below_alloc | apply pw_below_drewN | apply below_drew1) | exact HB.out), by repeat (first | (with_reducible first | exact HK.out | apply Kept.alloc | apply Kept.drewN | apply Kept.drew) | exact HK.out)⟩
   rw [if_pos c3] at H
   have c3b0 : decide (x5_1 < (x0_1.length : Int)) = true := decide_eq_true c3
   clear c3
   replace H := oi H
   obtain ⟨c4, H⟩ := H
   have c4b0 : decide (0 ≤ x5_1) = true := decide_eq_true c4
   clear c4
   obtain ⟨y197, hy197⟩ : ∃ y_ : List Int, y_ = (x0_1.set (x5_1 : Int).toNat x1_1) := ⟨_, rfl⟩
   replace H : (laws_markIntS.l0 k1 y197 (wrap64 (x1_1 + 1)) (wrap64 (x5_1 + 1))) = some (r1, r2) := by first | (rw [hy197]; with_reducible exact H) | (have H2_ := (Option.bind_some _ _).symm.trans H; rw [hy197]; with_reducible exact H2_) | (have H2_ := (Option.bind_some _ _).symm.trans H; with_reducible exact H2_) | with_reducible exact H | (rw [hy197]; exact H) | exact H
   have Ny197 := ak hy197
   clear hy197
   have H' := ak H
   clear H
   obtain ⟨Ao6, co6, eo6⟩ := Kd.R_slice HO_0.out
   subst eo6
   have p5 : 0 ≤ (x5_1 : Int) := of_decide_eq_true (by first | (with_reducible assumption) | assumption)
   have q5 : (x5_1 : Int) < ((x0_1.length : Int) : Int) := of_decide_eq_true (by first | (with_reducible assumption) | assumption)
   obtain ⟨go5, co5, eo5, gb5, gl5, cl5, HG5⟩ := Kd.R_form HO_0.out (by omega)
   (first | cases eo5 | (injection eo5 with ea_ en_ ec_; (first | subst ea_ | (injection ea_ with ea_; subst ea_)); subst ec_; clear en_))
   have GB5 := ak gb5
   have GG5 := ak HG5
   clear gb5 gl5 HG5
   have HMgo5 := ak (show (P0_ go5 ∨ w.heap.size ≤ go5) from (HO_0.out.1 _ rfl))
   obtain ⟨hx5_0, hf5_0⟩ := Kd.R_celln 0 HO_0.out (x5_1 : Int) p5 q5
   replace p5 := eq_true p5
   replace q5 := eq_true q5
   have HP7 := Kd.R_putg HO_0.out (x5_1 : Int) x1_1
   go_wp2_with (first | ((with_reducible refine gate_store (t := 3) (p := 15) rfl ?_); refine store_event (t := 3) (p := 15) (v := ?vo_w8) (w1 := (wr.setCell ⟨go5, (x5_1 : Int).toNat, none⟩ (.int .i64 x1_1))) ?hg ?ho ?hn ?hr ?_; (case ho => rfl); (case hg => rfl); (case hn => rfl); (case hr => first | (go_simp; done) | (go_simp; rfl)); intro w8 hw; have hg : wr.grownBy w8 (some go5) := (by rw [hw]; exact HP7.2); have hp_ : Kd.R (Kd.int .i64) 3 w8 w0.heap.size (fun k_ => (P0_ k_ ∨ w.heap.size ≤ k_)) (.slice (some ⟨go5, 0, none⟩) x0_1.length co6) y197 := (by rw [hw, Ny197.out]; exact HP7.1); clear HP7; replace HB := ak ((by rw [hw]; exact below_set (HB.out) GB5.out : Below w0.heap.size w0 w8)); replace HK := ak (Kept.of_grown (S := (fun k_ => P0_ k_)) hg (by repeat (first | (with_reducible first | exact HK.out | apply Kept.alloc | apply Kept.drewN | apply Kept.drew) | exact HK.out)) (fun k_ e_ => (HO_0.out.1 k_ e_))); replace HO_0 := ak (hp_); clear hg hw hp_))
   go_roundg k1
   case measure => have := HK1.out; omega
   case rel => exact ⟨(y197), (wrap64 (x1_1 + 1)), (wrap64 (x5_1 + 1)), (by first | rfl | (simp; done) | (simp [*]; done)), (by first | rfl | (simp; done) | (simp [*]; done)), H', ⟨by have := HK1.out; omega⟩, ⟨by (with_reducible repeat (first | apply Kd.R_alloc | apply Kd.R_drewN | apply Kd.R_drew)); exact HO_0.out⟩, ⟨by repeat (first | (with_reducible first | exact HK.out | apply Kept.alloc | apply Kept.drewN | apply Kept.drew) | exact HK.out)⟩, ⟨by repeat (first | (with_reducible first | exact HB.out | apply below_alloc | apply pw_below_drewN | apply below_drew1) | exact HB.out)⟩⟩
/-! ### laws_markIntSS: by hand -/
theorem age_at {W W1 : World} (hb : Below W.heap.size W W1) : ∃ n_ : Nat, Aside0 (n_ = W.heap.size) := ⟨_, ⟨rfl⟩⟩
section
variable {α : Type} {d : Kd α} {e n base : Nat} {w1 W : World} {ok : Nat → Prop} {u v : Value} {xs : List α}
theorem age_oldR (h : d.R e W base ok u xs) (hb : Below W.heap.size W w1) (hn : n = W.heap.size) : d.R e w1 base (fun k => ok k ∧ k < n) u xs := by subst hn; exact Kd.R_old h hb
theorem age_oldS (h : Kd.S d e W base ok u xs) (hb : Below W.heap.size W w1) (hn : n = W.heap.size) : Kd.S d e w1 base (fun k => ok k ∧ k < n) u xs := by subst hn; exact Kd.S_old h hb
theorem age_newR (h : d.R e w1 W.heap.size ok v xs) (hn : n = W.heap.size) : d.R e w1 W.heap.size (fun k => ok k ∧ n ≤ k) v xs := by subst hn; exact Kd.R_mono (Kd.R_bound h) (fun _ hk => ⟨hk.1, hk.2.1⟩)
theorem age_newS (h : Kd.S d e w1 W.heap.size ok v xs) (hn : n = W.heap.size) : Kd.S d e w1 W.heap.size (fun k => ok k ∧ n ≤ k) v xs := by subst hn; exact Kd.S_mono (Kd.S_bound h) (fun _ hk => ⟨hk.1, hk.2.1⟩)
end
/-- Marking rows of numbers, one behind the other: the mark that comes next, and the rows as they are then. -/
def laws_markIntSS.l0 : Nat → List (List Int) → Int → Int → Option (Int × (List (List Int)))
 | 0, _, _, _ => none
 | k + 1, x0, x1, x5 => if x5 < (x0.length : Int) then (if 0 ≤ x5 then ((laws_markIntS.f k (rd_L1 x0 x5) x1).bind fun t => laws_markIntSS.l0 k (x0.set x5.toNat t.2) t.1 (wrap64 (x5 + 1))) else none) else some (x1, x0)
def laws_markIntSS.f (k : Nat) (l0 : List (List Int)) (a1 : Int) : Option (Int × (List (List Int))) := laws_markIntSS.l0 k l0 a1 0
set_option maxHeartbeats 8000000 in
set_option maxRecDepth 100000 in
theorem laws_markIntSS.calls (k : Nat) (P0_ : Nat → Prop) (u0_ : Value) (l0 : List (List Int)) (a1 : Int) (r1 : Int) (r2 : List (List Int)) (w0 w : World) (hB : Below w0.heap.size w0 w) (ho : Kd.S (Kd.slice 3 (Kd.int .i64)) 30 w w0.heap.size P0_ u0_ l0) (h : laws_markIntSS.f k l0 a1 = some (r1, r2)) :
  Calls Try.prog 8 #[u0_, .int .i64 a1] w fun e w' => e = .returned (.int .i64 r1) ∧ Kd.S (Kd.slice 3 (Kd.int .i64)) 30 w' w0.heap.size P0_ u0_ r2 ∧ Below w0.heap.size w0 w' ∧ Kept w w' P0_ := by
 obtain ⟨A0, c0, rfl⟩ := Kd.S_slice ho
 have HO := ak ho
 have HB := ak hB
 have H' := ak (show laws_markIntSS.l0 k l0 a1 0 = some (r1, r2) from h)
 clear ho hB h
 go_enter Try.func8, Try.ntmps8
 go_wp2
 go_loopg [1, 5] k (fun kq v1 v5 wr => ∃ (y : List (List Int)) (x1 x5 : Int), v1 = .int .i64 x1 ∧ v5 = .int .i64 x5 ∧ Aside0 (laws_markIntSS.l0 kq y x1 x5 = some (r1, r2)) ∧ Aside0 (y.length = l0.length) ∧ Aside0 (Kd.S (Kd.slice 3 (Kd.int .i64)) 30 wr w0.heap.size P0_ (.slice A0 l0.length c0) y) ∧ Aside0 (Kept w wr P0_) ∧ Aside0 (Below w0.heap.size w0 wr))
 case atStart => exact ⟨l0, a1, 0, rfl, rfl, H', ⟨rfl⟩, HO, ⟨Kept.refl _ _⟩, HB⟩
 case round =>
  clear H' HO HB
  obtain ⟨y, x1, x5, rfl, rfl, HA, HY, HO, HK, HB⟩ := hrel
  cases gk with
  | zero => exact absurd HA.out (by simp [laws_markIntSS.l0])
  | succ k1 =>
   have H := HA.out
   clear HA
   simp only [laws_markIntSS.l0] at H
   rw [HY.out] at H
   by_cases c3 : x5 < (l0.length : Int)
   rotate_left
   ·rw [if_neg c3] at H
    simp only [Option.some.injEq, Prod.mk.injEq] at H
    obtain ⟨rfl, rfl⟩ := H
    have d3 : decide (x5 < (l0.length : Int)) = false := decide_eq_false c3
    go_wp2
    go_ret
    exact ⟨rfl, HO.out, HB.out, HK.out⟩
   rw [if_pos c3] at H
   replace H := oi H
   obtain ⟨c4, H⟩ := H
   obtain ⟨⟨t1, t2⟩, hcall, H⟩ := bi H
   have H' := ak H
   have HC := ak hcall
   clear H hcall
   obtain ⟨g0, cap, eo, gb, gl, cl, HG⟩ := Kd.S_form HO.out (by have := HY.out; omega)
   have ecc := eo
   rw [HY.out] at ecc
   injection ecc with eA _ ec
   subst eA
   subst ec
   clear eo
   have GX := ak (And.intro gb gl)
   clear gb gl HG
   obtain ⟨oki, cc, hcl, hM, hcc, hoki, hH⟩ := Kd.S_lend HO.out [] x5 c4 c3
   obtain ⟨v, rfl, hR⟩ := hM
   have hcell := hcc 0 v rfl
   rw [show x5.toNat * (Kd.slice 3 (Kd.int .i64)).sz + 0 = x5.toNat from by show x5.toNat * 1 + 0 = _; omega] at hcell
   have er : y.getD x5.toNat [] = rd_L1 y x5 := rfl
   rw [er] at hR
   have HR := ak hR
   have HH := ak hH
   have HI := ak hoki
   obtain ⟨Av, cv, rfl⟩ := Kd.R_slice hR
   clear hR hH hoki hcc hcl er
   have d3 : decide (x5 < (l0.length : Int)) = true := decide_eq_true c3
   have d4 : decide (0 ≤ x5) = true := decide_eq_true c4
   go_wp2_with (go_at_call 23; refine (laws_markIntS.calls k1 oki _ (rd_L1 y x5) x1 t1 t2 w0 _ HB.out HR.out HC.out).mono ?_; rintro e w' ⟨rfl, hR2, hb, hkp⟩)
   go_roundg k1
   case measure => omega
   case rel =>
    have hw : wrap64 (x5 + 1) = x5 + 1 := by
     have h_ := (Kd.S_reads' HO.out).2.2.2.1
     have h2_ := HY.out
     unfold wrap64; omega
    refine ⟨y.set x5.toNat t2, t1, x5 + 1, rfl, by rw [hw], ⟨by rw [← hw]; exact H'.out⟩, ⟨by rw [List.length_set]; exact HY.out⟩, ⟨?_⟩, ⟨Kept.then_ HK.out hkp (fun k_ hk_ => .inl (HI.out k_ hk_).1)⟩, ⟨hb⟩⟩
    exact Kd.H_back (by obtain ⟨ho_, f_, h_⟩ := HH.out; exact ⟨ho_, f_, Kd.R_step h_ (fun k_ hk_ hlt => hkp.2 k_ hlt hk_.2)⟩) (Kd.M_row (Kd.R_mono (Kd.R_tight rfl hR2) (fun k_ e_ => HR.out.1 k_ e_.symm))) (fun _ h => h)
end Go.Proofs.Ytjijfflifonjoaa.P

-- shrunk
