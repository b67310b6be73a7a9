-- Printed by this session's wip/print2.py (the kit's print.py, widened) out of the translation. Lean checks it.
import Derived.Test.YtomapoenndlbiaaP0
namespace Go.Proofs.Ytomapoenndlbiaa.P
open Go.RowKit Go.Proofs.YtomapoenndlbiaaW.PrintWords Go.Proofs.YtomapoenndlbiaaW.PrintLast Go.Proofs.YtomapoenndlbiaaW.PrintMore
attribute [local go_sem] max2_int min2_int max_two min_two max_three min_three max_four min_four   -- for this text's walks alone
set_option linter.unusedVariables false
set_option linter.unusedSimpArgs false

/-! ### laws_markIntS: function 27 -/
def laws_markIntS.l0 : Nat → List Int → Int → Int → Option (Int × List Int)
 | 0, _, _, _ => none
 | k + 1, x0, x1, x5 => if x5 < (x0.length : Int) then (if 0 ≤ x5 then (laws_markIntS.l0 k (x0.set (x5 : Int).toNat x1) (wrap64 (x1 + 1)) (wrap64 (x5 + 1))) else (none)) else (some (x1, x0))
def laws_markIntS.f (k : Nat) (l0 : List Int) (a1 : Int) : Option (Int × List Int) := laws_markIntS.l0 k l0 a1 0
set_option maxHeartbeats 8000000 in
set_option maxRecDepth 100000 in
theorem laws_markIntS.calls (k : Nat) (P0_ : Nat → Prop) (u9000_ : Value) (l0 : List Int) (a1 : Int) (r1 : Int) (r2 : List Int) (w0 w : World) (hB : Below w0.heap.size w0 w) (ho0 : Kd.R (Kd.int .i64) 3 w w0.heap.size P0_ u9000_ l0) (h : laws_markIntS.f k l0 a1 = some (r1, r2)) :
  Calls Try.prog 27 #[u9000_, .int .i64 a1] w fun e w' => e = .returned (.int .i64 r1) ∧ Kd.R (Kd.int .i64) 3 w' w0.heap.size (fun k_ => (P0_ k_ ∨ w.heap.size ≤ k_)) u9000_ r2 ∧ Below w0.heap.size w0 w' ∧ Kept w w' (fun k_ => P0_ k_) := by
 have HO0 := Aside0.mk (show Kd.R (Kd.int .i64) 3 w w0.heap.size (fun k_ => (P0_ k_ ∨ w.heap.size ≤ k_)) u9000_ l0 from Kd.R_mono ho0 (fun k_ hk => (.inl hk)))
 have HK := Aside0.mk (Kept.refl w (fun k_ => P0_ k_))
 have HW0 := Aside0.mk hB.size
 have HB := Aside0.mk hB
 clear hB
 have H : (laws_markIntS.l0 k l0 a1 0) = some (r1, r2) := h
 clear h
 have H' := Aside0.mk H
 clear H
 go_enter Try.func27, Try.ntmps27
 go_wp2
 go_loopg [1, 5] k (fun kq v1 v5 w' => ∃ (x0_1 : List Int) (x1_1 : Int) (x5_1 : Int), v1 = .int .i64 x1_1 ∧ v5 = .int .i64 x5_1 ∧ Aside0 (laws_markIntS.l0 kq x0_1 x1_1 x5_1 = some (r1, r2)) ∧ Aside0 (kq ≤ k) ∧ Aside0 (Kd.R (Kd.int .i64) 3 w' w0.heap.size (fun k_ => (P0_ k_ ∨ w.heap.size ≤ k_)) u9000_ x0_1) ∧ Aside0 (Kept w w' (fun k_ => P0_ k_)) ∧ Aside0 (Below w0.heap.size w0 w'))
 case atStart => exact ⟨(l0), (a1), (0), (by first | rfl | (simp; done) | (simp [*]; done)), (by first | rfl | (simp; done) | (simp [*]; done)), H', ⟨Nat.le_refl _⟩, ⟨by (with_reducible repeat (first | apply Kd.R_alloc | apply Kd.R_drewN | apply Kd.R_drew)); exact HO0.out⟩, ⟨by repeat (first | (with_reducible first | exact HK.out | apply Kept.alloc | apply Kept.drewN | apply Kept.drew) | exact HK.out)⟩, ⟨by repeat (first | (with_reducible first | exact HB.out | apply below_alloc | apply pw_below_drewN | apply below_drew1) | exact HB.out)⟩⟩
 case round =>
  clear H'
  try clear c2
  try clear p2
  obtain ⟨x0_1, x1_1, x5_1, rfl, rfl, HA, HK1, HO_0, HK, HB⟩ := hrel
  cases gk with
  | zero => exact absurd HA.out (by simp [laws_markIntS.l0])
  | succ k1 =>
   have H := HA.out
   clear HA
   simp only [laws_markIntS.l0] at H
   by_cases c3 : x5_1 < (x0_1.length : Int)
   ·rw [if_pos c3] at H
    have c3b0 : decide (x5_1 < (x0_1.length : Int)) = true := decide_eq_true c3
    clear c3
    by_cases c4 : 0 ≤ x5_1
    ·rw [if_pos c4] at H
     have c4b0 : decide (0 ≤ x5_1) = true := decide_eq_true c4
     clear c4
     obtain ⟨y575, hy575⟩ : ∃ y_ : List Int, y_ = (x0_1.set (x5_1 : Int).toNat x1_1) := ⟨_, rfl⟩
     replace H : (laws_markIntS.l0 k1 y575 (wrap64 (x1_1 + 1)) (wrap64 (x5_1 + 1))) = some (r1, r2) := by first | (rw [hy575]; with_reducible exact H) | (have H2_ := (Option.bind_some _ _).symm.trans H; rw [hy575]; with_reducible exact H2_) | (have H2_ := (Option.bind_some _ _).symm.trans H; with_reducible exact H2_) | with_reducible exact H | (rw [hy575]; exact H) | exact H
     have Ny575 := Aside0.mk hy575
     clear hy575
     have H' := Aside0.mk H
     clear H
     obtain ⟨Ao6, co6, eo6⟩ := Kd.R_slice HO_0.out
     subst eo6
     have p5 : 0 ≤ (x5_1 : Int) := of_decide_eq_true (by first | (with_reducible assumption) | assumption)
     have q5 : (x5_1 : Int) < ((x0_1.length : Int) : Int) := of_decide_eq_true (by first | (with_reducible assumption) | assumption)
     obtain ⟨go5, co5, eo5, gb5, gl5, cl5, HG5⟩ := Kd.R_form HO_0.out (by omega)
     (first | cases eo5 | (injection eo5 with ea_ en_ ec_; (first | subst ea_ | (injection ea_ with ea_; subst ea_)); subst ec_; clear en_))
     have GB5 := Aside0.mk gb5
     have GG5 := Aside0.mk HG5
     clear gb5 gl5 HG5
     have HMgo5 := Aside0.mk (show (P0_ go5 ∨ w.heap.size ≤ go5) from (HO_0.out.1 _ rfl))
     obtain ⟨hx5_0, hf5_0⟩ := Kd.R_celln 0 HO_0.out (x5_1 : Int) p5 q5
     replace p5 := eq_true p5
     replace q5 := eq_true q5
     have HP7 := Kd.R_putg HO_0.out (x5_1 : Int) x1_1
     go_wp2_with (first | ((with_reducible refine gate_store (t := 3) (p := 15) rfl ?_); refine store_event (t := 3) (p := 15) (v := ?vo_w8) (w1 := (wr.setCell ⟨go5, (x5_1 : Int).toNat, none⟩ (.int .i64 x1_1))) ?hg ?ho ?hn ?hr ?_; (case ho => rfl); (case hg => rfl); (case hn => rfl); (case hr => first | (go_simp; done) | (go_simp; rfl)); intro w8 hw; have hg : wr.grownBy w8 (some go5) := (by rw [hw]; exact HP7.2); have hp_ : Kd.R (Kd.int .i64) 3 w8 w0.heap.size (fun k_ => (P0_ k_ ∨ w.heap.size ≤ k_)) (.slice (some ⟨go5, 0, none⟩) x0_1.length co6) y575 := (by rw [hw, Ny575.out]; exact HP7.1); clear HP7; have n0_ := Aside0.mk (hp_); have n1_ := Aside0.mk ((by rw [hw]; exact below_set (HB.out) GB5.out : Below w0.heap.size w0 w8)); have n2_ := Aside0.mk (Kept.of_grown (S := (fun k_ => P0_ k_)) hg (by repeat (first | (with_reducible first | exact HK.out | apply Kept.alloc | apply Kept.drewN | apply Kept.drew) | exact HK.out)) (fun k_ e_ => (HO_0.out.1 k_ e_))); clear HO_0; clear HB; clear HK; have HO_0 := n0_; have HB := n1_; have HK := n2_; clear n0_ n1_ n2_; clear hg hw hp_))
     go_roundg k1
     case measure => have := HK1.out; omega
     case rel => exact ⟨(y575), (wrap64 (x1_1 + 1)), (wrap64 (x5_1 + 1)), (by first | rfl | (simp; done) | (simp [*]; done)), (by first | rfl | (simp; done) | (simp [*]; done)), H', ⟨by have := HK1.out; omega⟩, ⟨by (with_reducible repeat (first | apply Kd.R_alloc | apply Kd.R_drewN | apply Kd.R_drew)); exact HO_0.out⟩, ⟨by repeat (first | (with_reducible first | exact HK.out | apply Kept.alloc | apply Kept.drewN | apply Kept.drew) | exact HK.out)⟩, ⟨by repeat (first | (with_reducible first | exact HB.out | apply below_alloc | apply pw_below_drewN | apply below_drew1) | exact HB.out)⟩⟩
    ·rw [if_neg c4] at H
     exact absurd H (by simp)
   ·rw [if_neg c3] at H
    have c3b0 : decide (x5_1 < (x0_1.length : Int)) = false := decide_eq_false c3
    clear c3
    simp only [Option.some.injEq, Prod.mk.injEq] at H
    obtain ⟨rfl, rfl⟩ := H
    obtain ⟨Ao9, co9, eo9⟩ := Kd.R_slice HO_0.out
    subst eo9
    go_wp2
    go_ret
    exact ⟨by first | rfl | (simp [errW_none, errW_some] <;> rfl) | (simp [*, errW_none, errW_some] <;> rfl), by (with_reducible repeat (first | apply Kd.R_alloc | apply Kd.R_drewN | apply Kd.R_drew)); exact HO_0.out, by repeat (first | (with_reducible first | exact HB.out | apply below_alloc | apply pw_below_drewN | apply below_drew1) | exact HB.out), by repeat (first | (with_reducible first | exact HK.out | apply Kept.alloc | apply Kept.drewN | apply Kept.drew) | exact HK.out)⟩

/-! ### laws_markIntSS: by hand -/
/-- Marking rows of numbers, one behind the other: the mark that comes next. -/
def laws_markIntSS.l0 : Nat → List (List Int) → Int → Int → Option (Int)
 | 0, _, _, _ => none
 | k + 1, x0, x1, x5 => if x5 < (x0.length : Int) then (if 0 ≤ x5 then ((laws_markIntS.f k (rd_L1 x0 x5) x1).bind fun t => laws_markIntSS.l0 k x0 t.1 (wrap64 (x5 + 1))) else none) else some x1
def laws_markIntSS.f (k : Nat) (l0 : List (List Int)) (a1 : Int) : Option (Int) := laws_markIntSS.l0 k l0 a1 0
set_option maxHeartbeats 8000000 in
set_option maxRecDepth 100000 in
theorem laws_markIntSS.calls (k : Nat) (P0_ : Nat → Prop) (u0_ : Value) (l0 : List (List Int)) (a1 : Int) (r : Int) (w0 w : World) (hB : Below w0.heap.size w0 w) (ho : Kd.S (Kd.slice 3 (Kd.int .i64)) 22 w w0.heap.size P0_ u0_ l0) (h : laws_markIntSS.f k l0 a1 = some r) :
  Calls Try.prog 50 #[u0_, .int .i64 a1] w fun e w' => e = .returned (.int .i64 r) ∧ Below w0.heap.size w0 w' ∧ Kept w w' P0_ := by
 obtain ⟨A0, c0, rfl⟩ := Kd.S_slice ho
 have HO := Aside0.mk ho
 have HB := Aside0.mk hB
 have H' := Aside0.mk (show laws_markIntSS.l0 k l0 a1 0 = some r from h)
 clear ho hB h
 go_enter Try.func50, Try.ntmps50
 go_wp2
 go_loopg [1, 5] k (fun kq v1 v5 wr => ∃ (y : List (List Int)) (x1 x5 : Int), v1 = .int .i64 x1 ∧ v5 = .int .i64 x5 ∧ Aside0 (laws_markIntSS.l0 kq l0 x1 x5 = some r) ∧ Aside0 (y.length = l0.length ∧ ∀ j : Nat, x5 ≤ (j : Int) → y[j]? = l0[j]?) ∧ Aside0 (Kd.S (Kd.slice 3 (Kd.int .i64)) 22 wr w0.heap.size P0_ (.slice A0 l0.length c0) y) ∧ Aside0 (Kept w wr P0_) ∧ Aside0 (Below w0.heap.size w0 wr))
 case atStart => exact ⟨l0, a1, 0, rfl, rfl, H', ⟨rfl, fun _ _ => rfl⟩, HO, ⟨Kept.refl _ _⟩, HB⟩
 case round =>
  clear H' HO HB
  obtain ⟨y, x1, x5, rfl, rfl, HA, HY, HO, HK, HB⟩ := hrel
  cases gk with
  | zero => exact absurd HA.out (by simp [laws_markIntSS.l0])
  | succ k1 =>
   have H := HA.out
   clear HA
   simp only [laws_markIntSS.l0] at H
   by_cases c3 : x5 < (l0.length : Int)
   ·rw [if_pos c3] at H
    by_cases c4 : 0 ≤ x5
    ·rw [if_pos c4] at H
     obtain ⟨⟨t1, t2⟩, hcall, H⟩ := Option.bind_eq_some_iff.mp H
     have H' := Aside0.mk H
     have HC := Aside0.mk hcall
     clear H hcall
     obtain ⟨g0, cap, eo, gb, gl, cl, HG⟩ := Kd.S_form HO.out (by have := HY.out.1; omega)
     have ecc := eo
     rw [HY.out.1] at ecc
     injection ecc with eA _ ec
     subst eA
     subst ec
     clear eo
     have GX := Aside0.mk (And.intro gb gl)
     clear gb gl HG
     obtain ⟨oki, cc, hcl, hM, hcc, hoki, hH⟩ := Kd.S_lend HO.out [] x5 c4 c3
     obtain ⟨v, rfl, hR⟩ := hM
     have hcell := hcc 0 v rfl
     rw [show x5.toNat * (Kd.slice 3 (Kd.int .i64)).sz + 0 = x5.toNat from by show x5.toNat * 1 + 0 = _; omega] at hcell
     have er : y.getD x5.toNat [] = rd_L1 l0 x5 := by
      unfold rd_L1
      rw [List.getD_eq_getElem?_getD, List.getD_eq_getElem?_getD, HY.out.2 x5.toNat (by omega)]
     rw [er] at hR
     have HR := Aside0.mk hR
     have HH := Aside0.mk hH
     have HI := Aside0.mk hoki
     obtain ⟨Av, cv, rfl⟩ := Kd.R_slice hR
     clear hR hH hoki hcc hcl er
     have d3 : decide (x5 < (l0.length : Int)) = true := decide_eq_true c3
     have d4 : decide (0 ≤ x5) = true := decide_eq_true c4
     go_wp2_with (go_at_call 27; refine (laws_markIntS.calls k1 oki _ (rd_L1 l0 x5) x1 t1 t2 w0 _ HB.out HR.out HC.out).mono ?_; rintro e w' ⟨rfl, hR2, hb, hkp⟩)
     go_roundg k1
     case measure => omega
     case rel =>
      have hw : wrap64 (x5 + 1) = x5 + 1 := by
       have h_ := (Kd.S_reads' HO.out).2.2.2.1
       have h2_ := HY.out.1
       unfold wrap64; omega
      refine ⟨y.set x5.toNat t2, t1, x5 + 1, rfl, by rw [hw], ⟨by rw [← hw]; exact H'.out⟩, ⟨by rw [List.length_set]; exact HY.out.1, fun j hj => ?_⟩, ⟨?_⟩, ⟨Kept.then_ HK.out hkp (fun k_ hk_ => .inl (HI.out k_ hk_).1)⟩, ⟨hb⟩⟩
      ·rw [List.getElem?_set_ne (by omega)]
       exact HY.out.2 j (by omega)
      ·exact Kd.H_back (by obtain ⟨ho_, f_, h_⟩ := HH.out; exact ⟨ho_, f_, Kd.R_step h_ (fun k_ hk_ hlt => hkp.2 k_ hlt hk_.2)⟩) (Kd.M_row (Kd.R_mono (Kd.R_tight rfl hR2) (fun k_ e_ => HR.out.1 k_ e_.symm))) (fun _ h => h)
    ·rw [if_neg c4] at H
     exact absurd H (by simp)
   ·rw [if_neg c3] at H
    obtain rfl := Option.some.inj H
    have d3 : decide (x5 < (l0.length : Int)) = false := decide_eq_false c3
    go_wp2
    go_ret
    exact ⟨rfl, HB.out, HK.out⟩


/-! ### laws_markAlgebra: by hand -/
def laws_markAlgebra.f (k : Nat) (l0_0 : List Int) (l0_1 : List (List Int)) (a1 : Int) : Option (Int) := (laws_markIntS.f k l0_0 a1).bind fun t => (laws_markIntSS.f k l0_1 t.1).bind fun t2 => some t2
set_option maxHeartbeats 8000000 in
set_option maxRecDepth 100000 in
theorem laws_markAlgebra.calls (k : Nat) (P0_ : Nat → Prop) (u0_ : Value) (l0_0 : List Int) (P1_ : Nat → Prop) (u1_ : Value) (l0_1 : List (List Int)) (a1 : Int) (r : Int) (w0 w : World) (hB : Below w0.heap.size w0 w) (ho0 : Kd.R (Kd.int .i64) 3 w w0.heap.size P0_ u0_ l0_0) (ho1 : Kd.S (Kd.slice 3 (Kd.int .i64)) 22 w w0.heap.size P1_ u1_ l0_1) (hap : ∀ k_, u0_.ownBlock = some k_ → ¬ P1_ k_) (h : laws_markAlgebra.f k l0_0 l0_1 a1 = some r) :
  Calls Try.prog 26 #[.agg #[u0_, u1_], .int .i64 a1] w fun e w' => e = .returned (.int .i64 r) ∧ Below w0.heap.size w0 w' ∧ Kept w w' (fun k_ => P0_ k_ ∨ P1_ k_) := by
 obtain ⟨A0, c0, rfl⟩ := Kd.R_slice ho0
 obtain ⟨A1, c1, rfl⟩ := Kd.S_slice ho1
 have HR := Aside0.mk ho0
 have HS := Aside0.mk ho1
 have HP := Aside0.mk hap
 have HB := Aside0.mk hB
 unfold laws_markAlgebra.f at h
 obtain ⟨⟨t1, t2⟩, h1, h⟩ := Option.bind_eq_some_iff.mp h
 obtain ⟨t3, h2, h⟩ := Option.bind_eq_some_iff.mp h
 obtain rfl := Option.some.inj h
 have H1 := Aside0.mk h1
 have H2 := Aside0.mk h2
 clear ho0 ho1 hap hB h1 h2 h
 go_enter Try.func26, Try.ntmps26
 go_wp2_with (first | ((with_reducible refine gate_dst (N := 2) rfl ?_); refine box_event ?hg (N := 2) ?hd (cs := #[.slice A0 l0_0.length c0, .slice A1 l0_1.length c1]) (t := 28) ?hr ?_; (case hd => rfl); (case hg => rfl); (case hr => first | (go_simp; done) | (go_simp; rfl)); intro gb hg w4 hbox hb; have HB4 := Aside0.mk (below_step HB.out hb); have BK := Aside0.mk hbox; have HR4 := Aside0.mk (Kd.R_tight rfl (Kd.R_below HR.out hb)); have HS4 := Aside0.mk (Kd.S_below HS.out hb); have HK4 := Aside0.mk hb; clear hb hbox hg; have hcz0 : w4.cell? ⟨gb, 0, none⟩ = some (.slice A0 l0_0.length c0) := (blk_cell BK.out 0).trans rfl; have hcz1 : w4.cell? ⟨gb, 1, none⟩ = some (.slice A1 l0_1.length c1) := (blk_cell BK.out 1).trans rfl) | (go_at_call 27; refine (laws_markIntS.calls k _ _ l0_0 a1 t1 t2 w0 _ HB4.out HR4.out H1.out).mono ?_; rintro e w5 ⟨rfl, hR5, hb5, hk5⟩; have HK5 := Aside0.mk hk5; have HB5 := Aside0.mk hb5; have BK5 := Aside0.mk (blk_kept BK.out hk5 (fun e_ => Kd.R_ne HR4.out BK.out (by decide) e_)); have HS5 := Aside0.mk (show Kd.S (Kd.slice 3 (Kd.int .i64)) 22 w5 w0.heap.size P1_ (.slice A1 l0_1.length c1) l0_1 from (by obtain ⟨f_, h_⟩ := HS4.out; exact ⟨f_, Kd.R_step h_ (fun k_ hk_ hlt => hk5.2 k_ hlt (fun e_ => HP.out k_ e_.symm hk_))⟩)); clear hR5 hb5 hk5; have hcy1 : w5.cell? ⟨gb, 1, none⟩ = some (.slice A1 l0_1.length c1) := (blk_cell BK5.out 1).trans rfl) | (go_at_call 50; refine (laws_markIntSS.calls k _ _ l0_1 t1 t3 w0 _ HB5.out HS5.out H2.out).mono ?_; rintro e w6 ⟨rfl, hb6, hk6⟩))
 go_ret
 exact ⟨rfl, hb6, Kept.then_ (Kept.then_ (Kept.of_below HK4.out _) HK5.out (fun k_ e_ => .inl (.inl (HR.out.1 k_ e_.symm)))) hk6 (fun k_ e_ => .inl (.inr e_))⟩


end Go.Proofs.Ytomapoenndlbiaa.P

-- shrunk
