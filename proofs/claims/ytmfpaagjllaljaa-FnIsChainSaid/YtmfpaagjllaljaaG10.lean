-- Texts that the same laws need, in one (merge.py).
import Derived.Test.YtmfpaagjllaljaaG8
import Derived.Test.YtmfpaagjllaljaaG0
import Derived.Test.YtmfpaagjllaljaaG5
import Derived.Test.YtmfpaagjllaljaaG1
import Derived.Test.YtmfpaagjllaljaaG3
section
namespace Go.Proofs.Ytmfpaagjllaljaa.M
set_option linter.unusedVariables false
open Go.RowKit Go.Proofs.YtmfpaagjllaljaaW.PrintWords Go.Proofs.YtmfpaagjllaljaaW.PrintLast Go.Proofs.YtmfpaagjllaljaaW.PrintMore Go.Proofs.Ytmfpaagjllaljaa.P

theorem chain_one_cover {up : List Int} (hb : latB up = true) (hc : chainB up = true) {x : Nat} (hx : x + 1 < up.length) : (listN (coverB up x) up.length).length = 1 := by
  have L := Lat.of hb
  have tot : ∀ x y, x < up.length → y < up.length → le up x y = true ∨ le up y x = true := by
    intro x y hx hy
    have := allN_iff.1 (allN_iff.1 hc x hx) y hy
    rwa [Bool.or_eq_true] at this
  obtain ⟨c, h1, h2, _⟩ := cover_exists hb (x := x) (y := up.length - 1) (by omega) (by omega) (by omega) (L.top x (by omega))
  have hm : (c : Int) ∈ listN (coverB up x) up.length := listN_mem.2 ⟨c, h1, h2, rfl⟩
  have h0 : 0 < (listN (coverB up x) up.length).length := List.length_pos_of_mem hm
  have hle := listN_one (p := coverB up x) (n := up.length) (by
    intro b c hb' hc' e1 e2
    have i1 := coverB_iff.1 e1
    have i2 := coverB_iff.1 e2
    rcases tot b c hb' hc' with h | h
    · exact i2.2 b hb' i1.1.1 i1.1.2 h
    · exact (i1.2 c hc' i2.1.1 i2.1.2 h).symm)
  omega
theorem one_cover_chain {up : List Int} (hb : latB up = true) (h : ∀ x, x + 1 < up.length → (listN (coverB up x) up.length).length = 1) : chainB up = true := by
  have L := Lat.of hb
  refine allN_iff.2 fun x hx => allN_iff.2 fun y hy => ?_
  rw [Bool.or_eq_true]
  refine Decidable.byContradiction fun hn => ?_
  have n1 : ¬ le up x y = true := fun e => hn (.inl e)
  have n2 : ¬ le up y x = true := fun e => hn (.inr e)
  have hm := mlt hb hx hy
  have mx : x ≠ meetN up x y := fun e => n1 ((le_meet hb hx hy).2 e.symm)
  have my : y ≠ meetN up x y := by
    intro e
    have := m_l hb hx hy
    rw [← e] at this
    exact n2 this
  have mtop : meetN up x y + 1 < up.length := by
    refine Decidable.byContradiction fun e => mx ?_
    have e : meetN up x y = up.length - 1 := by omega
    refine L.anti _ _ hx hm ?_ (m_l hb hx hy)
    rw [e]
    exact L.top x hx
  obtain ⟨c, c1, c2, c3⟩ := cover_exists hb hm hx mx (m_l hb hx hy)
  obtain ⟨d, d1, d2, d3⟩ := cover_exists hb hm hy my (m_r hb hx hy)
  have hone := h _ mtop
  obtain ⟨v, hv⟩ := List.length_eq_one_iff.1 hone
  have hc : (c : Int) ∈ listN (coverB up (meetN up x y)) up.length := listN_mem.2 ⟨c, c1, c2, rfl⟩
  have hd : (d : Int) ∈ listN (coverB up (meetN up x y)) up.length := listN_mem.2 ⟨d, d1, d2, rfl⟩
  rw [hv, List.mem_singleton] at hc hd
  have e : c = d := by omega
  subst e
  have i := coverB_iff.1 c2
  exact i.1.1 (L.anti _ _ c1 hm (m_g hb hx hy c1 c3 d3) i.1.2)
theorem chainB_covers {up : List Int} (hb : latB up = true) : chainB up = (List.range (up.length - 1)).all fun x => decide ((listN (coverB up x) up.length).length = 1) := by
  rw [Bool.eq_iff_iff, List.all_eq_true]
  constructor
  · intro h x hx
    have := List.mem_range.1 hx
    exact decide_eq_true (chain_one_cover hb h (by omega))
  · intro h
    exact one_cover_chain hb fun x hx => of_decide_eq_true (h x (List.mem_range.2 (by omega)))
theorem chain_dist {up : List Int} (hb : latB up = true) (hc : chainB up = true) : distB up = true := by
  have L := Lat.of hb
  refine allN_iff.2 fun x hx => allN_iff.2 fun y hy => allN_iff.2 fun z hz => ?_
  unfold distAt
  rw [decide_eq_true_eq]
  have mono : ∀ y z, y < up.length → z < up.length → le up y z = true → le up (meetN up x y) (meetN up x z) = true := by
    intro y z hy hz h
    exact m_g hb hx hz (mlt hb hx hy) (m_l hb hx hy) (L.trans _ _ _ (mlt hb hx hy) hy hz (m_r hb hx hy) h)
  have tot := allN_iff.1 (allN_iff.1 hc y hy) z hz
  rw [Bool.or_eq_true] at tot
  rcases tot with h | h
  · rw [(le_join hb hy hz).1 h, (le_join hb (mlt hb hx hy) (mlt hb hx hz)).1 (mono y z hy hz h)]
  · rw [j_comm hb hy hz, j_comm hb (mlt hb hx hy) (mlt hb hx hz), (le_join hb hz hy).1 h, (le_join hb (mlt hb hx hz) (mlt hb hx hy)).1 (mono z y hz hy h)]
end Go.Proofs.Ytmfpaagjllaljaa.M
end
section
namespace Go.Proofs.Ytmfpaagjllaljaa.P
open Go.RowKit Go.Proofs.YtmfpaagjllaljaaW.PrintWords Go.Proofs.YtmfpaagjllaljaaW.PrintLast Go.Proofs.YtmfpaagjllaljaaW.PrintMore
attribute [local go_sem] max2_int min2_int max_two min_two max_three min_three max_four min_four   -- for this text's walks alone
set_option linter.unusedVariables false
set_option linter.unusedSimpArgs false

/-! ### spec_DrawIsChain: function 68 -/
def spec_DrawIsChain.f (k : Nat) (l0 : List Int) : Option (List Int) := (spec_newReader.f l0).bind fun bt919 => ((spec_someLattice.f k bt919.1 bt919.2).bind fun bt922 => (some bt922.1))
set_option maxHeartbeats 8000000 in
set_option maxRecDepth 100000 in
theorem spec_DrawIsChain.calls (k : Nat) (A0 : Option Addr) (c0 : Nat) (l0 : List Int) (r : List Int) (w : World) (hr0 : Kd.C (Kd.int .u8) w A0 l0.length l0) (hc0 : l0.length ≤ c0) (h : spec_DrawIsChain.f k l0 = some r) :
  Calls Try.prog 68 #[.slice A0 l0.length c0] w fun e w' => ∃ v0_ : Value, e = .returned (v0_) ∧ Kd.R (Kd.int .i64) 3 w' w.heap.size (fun _ => True) v0_ r ∧ Below w.heap.size w w' := by
 have HR0 := Aside0.mk hr0
 have HC0 := Aside0.mk hc0
 clear hr0 hc0
 have HB := Aside0.mk (Below.refl w.heap.size w)
 have H : ((spec_newReader.f l0).bind fun bt919 => ((spec_someLattice.f k bt919.1 bt919.2).bind fun bt922 => (some bt922.1))) = some r := h
 clear h
 replace H := Option.bind_eq_some_iff.mp H
 obtain ⟨⟨t919, t920⟩, A20, H⟩ := H
 replace H : ((spec_someLattice.f k t919 t920).bind fun bt922 => (some bt922.1)) = some r := H
 have A2 := Aside0.mk A20
 clear A20
 replace H := Option.bind_eq_some_iff.mp H
 obtain ⟨⟨t922, t925⟩, A30, H⟩ := H
 replace H : (some t922) = some r := H
 have A3 := Aside0.mk A30
 clear A30
 obtain rfl := Option.some.inj H
 go_enter Try.func68, Try.ntmps68
 go_wp2_with (first | ((with_reducible refine gate_callee (f := 80) rfl ?_); refine goesL_ (some 4) rfl rfl Try.func80 (by kernel_rfl) rfl #[.slice A0 l0.length c0] rfl (by (try simp only [List.map_toArray, List.map_cons, List.map_nil]); first | done | rfl | (simp only [List.length_drop, List.length_take]; rfl)) ?_; (with_reducible refine (spec_newReader.calls _ _ l0 t919 t920 w _ ?side1 ?side2 ?side3 A2.out).mono ?_); (case side1 => repeat (first | (with_reducible first | exact HB.out | apply below_alloc | apply pw_below_drewN | apply below_drew1) | exact HB.out)); (case side2 => exact HR0.out); (case side3 => exact HC0.out); rintro e w4 ⟨g921, rfl, hi, hb, hb2⟩; refine ⟨_, rfl, ?_⟩; have n0_ := Aside0.mk (hb); have n1_ := Aside0.mk (hi); clear HB; have HB := n0_; have HI921 := n1_; clear n0_ n1_; (try clear hb); (try clear hb2); (try clear hk); (try clear hi)) | ((with_reducible refine gate_callee (f := 99) rfl ?_); refine goesL_ (some 5) rfl rfl Try.func99 (by kernel_rfl) rfl #[.pointer (some ⟨g921, 0, none⟩)] rfl (by (try simp only [List.map_toArray, List.map_cons, List.map_nil]); first | done | rfl | (simp only [List.length_drop, List.length_take]; rfl)) ?_; (with_reducible refine (spec_someLattice.calls k g921 t919 t920 t922 t925 w _ ?side1 ?side2 A3.out).mono ?_); (case side1 => repeat (first | (with_reducible first | exact HI921.out | apply IsS66.alloc | apply IsS66.drewN | apply IsS66.drew | apply IsS66.set_1) | exact HI921.out)); (case side2 => repeat (first | (with_reducible first | exact HB.out | apply below_alloc | apply pw_below_drewN | apply below_drew1 | refine below_set ?_ (IsS66.ge HI921.out)) | exact HB.out)); rintro e w5 ⟨v923, rfl, ho0, hi, hb, hk⟩; refine ⟨_, rfl, ?_⟩; have n0_ := Aside0.mk (Kd.R_lower ho0 (below_size (by repeat (first | (with_reducible first | exact HB.out | apply below_alloc | apply pw_below_drewN | apply below_drew1 | refine below_set ?_ (IsS66.ge HI921.out)) | exact HB.out)))); have n1_ := Aside0.mk (hb); have n2_ := Aside0.mk (hi); clear HB; clear HI921; have HO924 := n0_; have HB := n1_; have HI921 := n2_; clear n0_ n1_ n2_; (try clear hb); (try clear hb2); (try clear hk); (try clear hi); (try clear ho0)))
 go_ret
 exact ⟨_, by first | rfl | (simp [errW_none, errW_some] <;> rfl) | (simp [*, errW_none, errW_some] <;> rfl), by (with_reducible repeat (first | apply Kd.R_alloc | apply Kd.R_drewN | apply Kd.R_drew)); exact HO924.out, by repeat (first | (with_reducible first | exact HB.out | apply below_alloc | apply pw_below_drewN | apply below_drew1 | refine below_set ?_ (IsS66.ge HI921.out)) | exact HB.out)⟩

end Go.Proofs.Ytmfpaagjllaljaa.P
end
section
namespace Go.Proofs.Ytmfpaagjllaljaa.P
open Go.RowKit Go.Proofs.YtmfpaagjllaljaaW.PrintWords Go.Proofs.YtmfpaagjllaljaaW.PrintLast Go.Proofs.YtmfpaagjllaljaaW.PrintMore
attribute [local go_sem] max2_int min2_int max_two min_two max_three min_three max_four min_four   -- for this text's walks alone
set_option linter.unusedVariables false
set_option linter.unusedSimpArgs false

/-! ### laws_FnIsChain: function 22 -/
mutual
def laws_FnIsChain.j0 : Nat → List Int → Bool → Bool → Option (Bool)
 | 0, _, _, _ => none
 | k + 1, x3, x4, x22 => if x22 = true then ((spec_IsChain.f k x3).bind fun t932 => (some (x4 == t932))) else (laws_FnIsChain.l0 k x3 x4 true 0)
def laws_FnIsChain.l0 : Nat → List Int → Bool → Bool → Int → Option (Bool)
 | 0, _, _, _, _ => none
 | k + 1, x3, x4, x5, x6 => if (wrap64 (x6 + 1)) < (x3.length : Int) then (if x5 = true then ((impl_CoversOf.f k x3 x6).bind fun t933 => (laws_FnIsChain.l0 k x3 x4 ((t933.length : Int) == 1) (wrap64 (x6 + 1)))) else (laws_FnIsChain.l0 k x3 x4 false (wrap64 (x6 + 1)))) else (if (x4 == x5) = true then (if x4 = true then ((impl_IsDistributive.f k x3).bind fun t936 => (some t936)) else (some true)) else (some false))
end
def laws_FnIsChain.f (k : Nat) (l0 : List Int) : Option (Bool) := if (l0.length : Int) > 1048576 then (some true) else ((spec_DrawIsChain.f k l0).bind fun t926 => ((impl_IsChain.f k t926).bind fun t929 => ((spec_IsChain.f k t926).bind fun t930 => (if (t929 != t930) = true then (laws_FnIsChain.j0 k t926 t929 true) else ((impl_ValidLattice.f k t926).bind fun t931 => (laws_FnIsChain.j0 k t926 t929 (!t931)))))))
set_option maxHeartbeats 8000000 in
set_option maxRecDepth 100000 in
theorem laws_FnIsChain.calls (k : Nat) (A0 : Option Addr) (c0 : Nat) (l0 : List Int) (r : Bool) (w : World) (hr0 : Kd.C (Kd.int .u8) w A0 l0.length l0) (hc0 : l0.length ≤ c0) (h : laws_FnIsChain.f k l0 = some r) :
  Calls Try.prog 22 #[.slice A0 l0.length c0] w fun e w' => e = .returned (.bool r) ∧ Below w.heap.size w w' := by
 have HR0 := Aside0.mk hr0
 have HC0 := Aside0.mk hc0
 clear hr0 hc0
 have HB := Aside0.mk (Below.refl w.heap.size w)
 have H : (if (l0.length : Int) > 1048576 then (some true) else ((spec_DrawIsChain.f k l0).bind fun t926 => ((impl_IsChain.f k t926).bind fun t929 => ((spec_IsChain.f k t926).bind fun t930 => (if (t929 != t930) = true then (laws_FnIsChain.j0 k t926 t929 true) else ((impl_ValidLattice.f k t926).bind fun t931 => (laws_FnIsChain.j0 k t926 t929 (!t931)))))))) = some r := h
 clear h
 by_cases c2 : (l0.length : Int) > 1048576
 ·rw [if_pos c2] at H
  have c2b0 : decide (1048576 < (l0.length : Int)) = true := decide_eq_true c2
  have c2b1 : decide (1048576 < l0.length) = true := decide_eq_true (by omega)
  clear c2
  obtain rfl := Option.some.inj H
  go_enter Try.func22, Try.ntmps22
  go_wp2
  go_ret
  exact ⟨by first | rfl | (simp [errW_none, errW_some] <;> rfl) | (simp [*, errW_none, errW_some] <;> rfl), by repeat (first | (with_reducible first | exact HB.out | apply below_alloc | apply pw_below_drewN | apply below_drew1) | exact HB.out)⟩
 ·rw [if_neg c2] at H
  have c2b0 : decide (1048576 < (l0.length : Int)) = false := decide_eq_false c2
  have c2b1 : decide (1048576 < l0.length) = false := decide_eq_false (by omega)
  clear c2
  replace H := Option.bind_eq_some_iff.mp H
  obtain ⟨t926, A30, H⟩ := H
  replace H : ((impl_IsChain.f k t926).bind fun t929 => ((spec_IsChain.f k t926).bind fun t930 => (if (t929 != t930) = true then (laws_FnIsChain.j0 k t926 t929 true) else ((impl_ValidLattice.f k t926).bind fun t931 => (laws_FnIsChain.j0 k t926 t929 (!t931)))))) = some r := H
  have A3 := Aside0.mk A30
  clear A30
  replace H := Option.bind_eq_some_iff.mp H
  obtain ⟨t929, A40, H⟩ := H
  replace H : ((spec_IsChain.f k t926).bind fun t930 => (if (t929 != t930) = true then (laws_FnIsChain.j0 k t926 t929 true) else ((impl_ValidLattice.f k t926).bind fun t931 => (laws_FnIsChain.j0 k t926 t929 (!t931))))) = some r := H
  have A4 := Aside0.mk A40
  clear A40
  have HC5 := Aside0.mk H
  clear H
  go_enter Try.func22, Try.ntmps22
  go_upto_region 5 with (first | ((with_reducible refine gate_callee (f := 68) rfl ?_); refine goesL_ (some 11) rfl rfl Try.func68 (by kernel_rfl) rfl #[.slice A0 l0.length c0] rfl (by (try simp only [List.map_toArray, List.map_cons, List.map_nil]); first | done | rfl | (simp only [List.length_drop, List.length_take]; rfl)) ?_; (with_reducible refine (spec_DrawIsChain.calls k _ _ l0 t926 _ ?side1 ?side2 A3.out).mono ?_); (case side1 => repeat (first | exact HR0.out | (with_reducible refine Kd.C_alloc ?_ _) | (with_reducible refine Kd.C_drewN ?_ _) | (with_reducible refine Kd.C_drew ?_))); (case side2 => exact HC0.out); rintro e w6 ⟨v927, rfl, ho0, hb⟩; refine ⟨_, rfl, ?_⟩; have n0_ := Aside0.mk (Kd.R_lower ho0 (below_size (by repeat (first | (with_reducible first | exact HB.out | apply below_alloc | apply pw_below_drewN | apply below_drew1) | exact HB.out)))); have n1_ := Aside0.mk (below_step (by repeat (first | (with_reducible first | exact HB.out | apply below_alloc | apply pw_below_drewN | apply below_drew1) | exact HB.out)) hb); clear HB; have HO928 := n0_; have HB := n1_; clear n0_ n1_; (try clear hb); (try clear hb2); (try clear hk); (try clear hi); (try clear ho0); obtain ⟨Ao7, co7, eo7⟩ := Kd.R_slice HO928.out; subst eo7) | ((with_reducible refine gate_callee (f := 35) rfl ?_); refine goesL_ (some 13) rfl rfl Try.func35 (by kernel_rfl) rfl #[.slice Ao7 t926.length co7] rfl (by (try simp only [List.map_toArray, List.map_cons, List.map_nil]); first | done | rfl | (simp only [List.length_drop, List.length_take]; rfl)) ?_; (with_reducible refine (impl_IsChain.calls k _ _ t926 t929 _ ?side1 ?side2 A4.out).mono ?_); (case side1 => repeat (first | exact (Kd.R_reads' HO928.out).2.2 | (with_reducible refine Kd.C_alloc ?_ _) | (with_reducible refine Kd.C_drewN ?_ _) | (with_reducible refine Kd.C_drew ?_))); (case side2 => exact (Kd.R_reads' HO928.out).2.1); rintro e w' ⟨rfl, ⟨nd, rfl⟩⟩; refine ⟨_, rfl, ?_⟩))
  (try simp only [Act.put, List.setIfInBounds_toArray, List.set_cons_zero, List.set_cons_succ])
  go_cut [22] (fun v22 wc => ∃ (kq : Nat) (x22_4 : Bool), v22 = .bool x22_4 ∧ Aside0 (laws_FnIsChain.j0 kq t926 t929 x22_4 = some r) ∧ Aside0 (kq ≤ k) ∧ Aside0 (Kd.R (Kd.int .i64) 3 wc w.heap.size (fun _ => True) (.slice Ao7 t926.length co7) t926) ∧ Aside0 (Below w.heap.size w wc))
  case first =>
   have H := HC5.out
   clear HC5
   replace H := Option.bind_eq_some_iff.mp H
   obtain ⟨t930, A80, H⟩ := H
   replace H : (if (t929 != t930) = true then (laws_FnIsChain.j0 k t926 t929 true) else ((impl_ValidLattice.f k t926).bind fun t931 => (laws_FnIsChain.j0 k t926 t929 (!t931)))) = some r := H
   have A8 := Aside0.mk A80
   clear A80
   by_cases c9 : (t929 != t930) = true
   ·rw [if_pos c9] at H
    have c9b0 : (t929 != t930) = true := c9
    (try (have c9b1 : decide (t929 = t930) = false := by simpa using c9))
    (try (have c9b2 : (t929 == t930) = false := by simpa using c9))
    (try (have c9b3 : ¬ (t929 = t930) := by simpa using c9))
    clear c9
    (first | rw [c9b0] | (simp only [i64_w, i32_w]; rw [c9b0]) | skip)
    have H' := Aside0.mk H
    clear H
    go_wp2_with (first | ((with_reducible refine gate_callee (f := 38) rfl ?_); refine goesL_ (some 16) rfl rfl Try.func38 (by kernel_rfl) rfl #[.slice Ao7 t926.length co7] rfl (by (try simp only [List.map_toArray, List.map_cons, List.map_nil]); first | done | rfl | (simp only [List.length_drop, List.length_take]; rfl)) ?_; (with_reducible refine (spec_IsChain.calls k _ _ t926 t930 _ ?side1 ?side2 A8.out).mono ?_); (case side1 => repeat (first | exact (Kd.R_reads' HO928.out).2.2 | (with_reducible refine Kd.C_alloc ?_ _) | (with_reducible refine Kd.C_drewN ?_ _) | (with_reducible refine Kd.C_drew ?_))); (case side2 => exact (Kd.R_reads' HO928.out).2.1); rintro e w' ⟨rfl, ⟨nd, rfl⟩⟩; refine ⟨_, rfl, ?_⟩))
    go_meet
    case rel => exact ⟨_, (true), (by first | rfl | (simp; done) | (simp [*]; done)), H', ⟨by first | omega | exact Nat.le_refl _⟩, ⟨by (with_reducible repeat (first | apply Kd.R_alloc | apply Kd.R_drewN | apply Kd.R_drew)); exact HO928.out⟩, ⟨by repeat (first | (with_reducible first | exact HB.out | apply below_alloc | apply pw_below_drewN | apply below_drew1) | exact HB.out)⟩⟩
   ·rw [if_neg c9] at H
    have c9b0 : (t929 != t930) = false := by simpa using c9
    (try (have c9b1 : decide (t929 = t930) = true := by simpa using c9))
    (try (have c9b2 : (t929 == t930) = true := by simpa using c9))
    clear c9
    (first | rw [c9b0] | (simp only [i64_w, i32_w]; rw [c9b0]) | skip)
    replace H := Option.bind_eq_some_iff.mp H
    obtain ⟨t931, A100, H⟩ := H
    replace H : (laws_FnIsChain.j0 k t926 t929 (!t931)) = some r := H
    have A10 := Aside0.mk A100
    clear A100
    have H' := Aside0.mk H
    clear H
    go_wp2_with (first | ((with_reducible refine gate_callee (f := 38) rfl ?_); refine goesL_ (some 16) rfl rfl Try.func38 (by kernel_rfl) rfl #[.slice Ao7 t926.length co7] rfl (by (try simp only [List.map_toArray, List.map_cons, List.map_nil]); first | done | rfl | (simp only [List.length_drop, List.length_take]; rfl)) ?_; (with_reducible refine (spec_IsChain.calls k _ _ t926 t930 _ ?side1 ?side2 A8.out).mono ?_); (case side1 => repeat (first | exact (Kd.R_reads' HO928.out).2.2 | (with_reducible refine Kd.C_alloc ?_ _) | (with_reducible refine Kd.C_drewN ?_ _) | (with_reducible refine Kd.C_drew ?_))); (case side2 => exact (Kd.R_reads' HO928.out).2.1); rintro e w' ⟨rfl, ⟨nd, rfl⟩⟩; refine ⟨_, rfl, ?_⟩) | (go_at_call 28; (with_reducible refine (impl_ValidLattice.calls k _ _ t926 t931 _ ?side1 ?side2 A10.out).mono ?_); (case side1 => repeat (first | exact (Kd.R_reads' HO928.out).2.2 | (with_reducible refine Kd.C_alloc ?_ _) | (with_reducible refine Kd.C_drewN ?_ _) | (with_reducible refine Kd.C_drew ?_))); (case side2 => exact (Kd.R_reads' HO928.out).2.1); rintro e w' ⟨rfl, ⟨nd, rfl⟩⟩))
    go_meet
    case rel => exact ⟨_, (!t931), (by first | rfl | (simp; done) | (simp [*]; done)), H', ⟨by first | omega | exact Nat.le_refl _⟩, ⟨by (with_reducible repeat (first | apply Kd.R_alloc | apply Kd.R_drewN | apply Kd.R_drew)); exact HO928.out⟩, ⟨by repeat (first | (with_reducible first | exact HB.out | apply below_alloc | apply pw_below_drewN | apply below_drew1) | exact HB.out)⟩⟩
  case rest =>
   clear HC5
   try clear c2
   try clear c2b0
   try clear c2b1
   try clear p2
   try clear c3
   try clear c6
   try clear c9
   try clear c9b0
   try clear c9b1
   try clear c9b2
   obtain ⟨kq, x22_4, rfl, HA, HJ4, HO_3, HB⟩ := hcut
   cases kq with
   | zero => exact absurd HA.out (by simp [laws_FnIsChain.j0])
   | succ kj4 =>
    have H := HA.out
    clear HA
    simp only [laws_FnIsChain.j0] at H
    by_cases c11 : x22_4 = true
    ·subst c11
     have H1 : ((spec_IsChain.f kj4 t926).bind fun t932 => (some (t929 == t932))) = some r := by rw [if_pos rfl] at H; exact H
     clear H
     have H := H1
     clear H1
     replace H := Option.bind_eq_some_iff.mp H
     obtain ⟨t932, A120, H⟩ := H
     replace H : (some (t929 == t932)) = some r := H
     have A12 := Aside0.mk A120
     clear A120
     obtain rfl := Option.some.inj H
     go_wp2_with (first | ((with_reducible refine gate_callee (f := 38) rfl ?_); refine goesL_ (some 25) rfl rfl Try.func38 (by kernel_rfl) rfl #[.slice Ao7 t926.length co7] rfl (by (try simp only [List.map_toArray, List.map_cons, List.map_nil]); first | done | rfl | (simp only [List.length_drop, List.length_take]; rfl)) ?_; (with_reducible refine (spec_IsChain.calls kj4 _ _ t926 t932 _ ?side1 ?side2 A12.out).mono ?_); (case side1 => repeat (first | exact (Kd.R_reads' HO_3.out).2.2 | (with_reducible refine Kd.C_alloc ?_ _) | (with_reducible refine Kd.C_drewN ?_ _) | (with_reducible refine Kd.C_drew ?_))); (case side2 => exact (Kd.R_reads' HO_3.out).2.1); rintro e w' ⟨rfl, ⟨nd, rfl⟩⟩; refine ⟨_, rfl, ?_⟩))
     go_ret
     exact ⟨by first | rfl | (simp [errW_none, errW_some] <;> rfl) | (simp [*, errW_none, errW_some] <;> rfl), by repeat (first | (with_reducible first | exact HB.out | apply below_alloc | apply pw_below_drewN | apply below_drew1) | exact HB.out)⟩
    ·replace c11 := Bool.eq_false_iff.mpr c11
     subst c11
     have H1 : (laws_FnIsChain.l0 kj4 t926 t929 true 0) = some r := by rw [if_neg (show ¬ (false = true) by decide)] at H; exact H
     clear H
     have H := H1
     clear H1
     have H' := Aside0.mk H
     clear H
     go_wp2
     go_loopg [5, 6] kj4 (fun kq v5 v6 w' => ∃ (x5_2 : Bool) (x6_2 : Int), v5 = .bool x5_2 ∧ v6 = .int .i64 x6_2 ∧ Aside0 (laws_FnIsChain.l0 kq t926 t929 x5_2 x6_2 = some r) ∧ Aside0 (kq ≤ kj4) ∧ Aside0 (Kd.R (Kd.int .i64) 3 w' w.heap.size (fun _ => True) (.slice Ao7 t926.length co7) t926) ∧ Aside0 (Below w.heap.size w w'))
     case atStart => exact ⟨(true), (0), (by first | rfl | (simp; done) | (simp [*]; done)), (by first | rfl | (simp; done) | (simp [*]; done)), H', ⟨Nat.le_refl _⟩, ⟨by (with_reducible repeat (first | apply Kd.R_alloc | apply Kd.R_drewN | apply Kd.R_drew)); exact HO_3.out⟩, ⟨by repeat (first | (with_reducible first | exact HB.out | apply below_alloc | apply pw_below_drewN | apply below_drew1) | exact HB.out)⟩⟩
     case round =>
      clear H'
      try clear c1
      try clear c2
      try clear c2b0
      try clear c2b1
      try clear p2
      try clear c3
      try clear c6
      try clear c9
      try clear c9b0
      try clear c9b1
      try clear c9b2
      try clear c11
      try clear p2
      obtain ⟨x5_2, x6_2, rfl, rfl, HA, HK2, HO_3, HB⟩ := hrel
      cases gk with
      | zero => exact absurd HA.out (by simp [laws_FnIsChain.l0])
      | succ k2 =>
       have H := HA.out
       clear HA
       simp only [laws_FnIsChain.l0] at H
       by_cases c13 : (wrap64 (x6_2 + 1)) < (t926.length : Int)
       ·rw [if_pos c13] at H
        have c13b0 : decide ((wrap64 (x6_2 + 1)) < (t926.length : Int)) = true := decide_eq_true c13
        clear c13
        by_cases c14 : x5_2 = true
        ·subst c14
         have H1 : ((impl_CoversOf.f k2 t926 x6_2).bind fun t933 => (laws_FnIsChain.l0 k2 t926 t929 ((t933.length : Int) == 1) (wrap64 (x6_2 + 1)))) = some r := by rw [if_pos rfl] at H; exact H
         clear H
         have H := H1
         clear H1
         replace H := Option.bind_eq_some_iff.mp H
         obtain ⟨t933, A150, H⟩ := H
         replace H : (laws_FnIsChain.l0 k2 t926 t929 ((t933.length : Int) == 1) (wrap64 (x6_2 + 1))) = some r := H
         have A15 := Aside0.mk A150
         clear A150
         have H' := Aside0.mk H
         clear H
         go_wp2_with (first | (go_at_call 53; (with_reducible refine (impl_CoversOf.calls k2 _ _ t926 x6_2 t933 _ ?side1 ?side2 A15.out).mono ?_); (case side1 => repeat (first | exact (Kd.R_reads' HO_3.out).2.2 | (with_reducible refine Kd.C_alloc ?_ _) | (with_reducible refine Kd.C_drewN ?_ _) | (with_reducible refine Kd.C_drew ?_))); (case side2 => exact (Kd.R_reads' HO_3.out).2.1); rintro e w16 ⟨v934, rfl, ho0, hb⟩; have n0_ := Aside0.mk (Kd.R_elder' (by (with_reducible repeat (first | apply Kd.R_alloc | apply Kd.R_drewN | apply Kd.R_drew)); exact HO_3.out) (Kd.R_base ho0) hb); have n1_ := Aside0.mk (Kd.R_lower (Kd.R_new' ho0 (Kd.R_lt (by (with_reducible repeat (first | apply Kd.R_alloc | apply Kd.R_drewN | apply Kd.R_drew)); exact HO_3.out))) (below_size (by repeat (first | (with_reducible first | exact HB.out | apply below_alloc | apply pw_below_drewN | apply below_drew1) | exact HB.out)))); have n2_ := Aside0.mk (below_step (by repeat (first | (with_reducible first | exact HB.out | apply below_alloc | apply pw_below_drewN | apply below_drew1) | exact HB.out)) hb); clear HO_3; clear HB; have HO_3 := n0_; have HO935 := n1_; have HB := n2_; clear n0_ n1_ n2_; (try clear hb); (try clear hb2); (try clear hk); (try clear hi); (try clear ho0); obtain ⟨Ao17, co17, eo17⟩ := Kd.R_slice HO935.out; subst eo17))
         go_roundg k2
         case measure => have := HJ4.out; have := HK2.out; omega
         case rel => exact ⟨(((t933.length : Int) == 1)), (wrap64 (x6_2 + 1)), (by first | rfl | (simp; done) | (simp [*]; done)), (by first | rfl | (simp; done) | (simp [*]; done)), H', ⟨by have := HJ4.out; have := HK2.out; omega⟩, ⟨by (with_reducible repeat (first | apply Kd.R_alloc | apply Kd.R_drewN | apply Kd.R_drew)); exact Kd.R_mono HO_3.out (fun _ hk => trivial)⟩, ⟨by repeat (first | (with_reducible first | exact HB.out | apply below_alloc | apply pw_below_drewN | apply below_drew1) | exact HB.out)⟩⟩
        ·replace c14 := Bool.eq_false_iff.mpr c14
         subst c14
         have H1 : (laws_FnIsChain.l0 k2 t926 t929 false (wrap64 (x6_2 + 1))) = some r := by rw [if_neg (show ¬ (false = true) by decide)] at H; exact H
         clear H
         have H := H1
         clear H1
         have H' := Aside0.mk H
         clear H
         go_wp2
         go_roundg k2
         case measure => have := HJ4.out; have := HK2.out; omega
         case rel => exact ⟨(false), (wrap64 (x6_2 + 1)), (by first | rfl | (simp; done) | (simp [*]; done)), (by first | rfl | (simp; done) | (simp [*]; done)), H', ⟨by have := HJ4.out; have := HK2.out; omega⟩, ⟨by (with_reducible repeat (first | apply Kd.R_alloc | apply Kd.R_drewN | apply Kd.R_drew)); exact HO_3.out⟩, ⟨by repeat (first | (with_reducible first | exact HB.out | apply below_alloc | apply pw_below_drewN | apply below_drew1) | exact HB.out)⟩⟩
       ·rw [if_neg c13] at H
        have c13b0 : decide ((wrap64 (x6_2 + 1)) < (t926.length : Int)) = false := decide_eq_false c13
        clear c13
        by_cases c18 : (t929 == x5_2) = true
        ·rw [if_pos c18] at H
         have c18b0 : (t929 == x5_2) = true := c18
         (try (have c18b1 : decide (t929 = x5_2) = true := by simpa using c18))
         (try (have c18b2 : (t929 == x5_2) = true := by simpa using c18))
         clear c18
         by_cases c19 : t929 = true
         ·subst c19
          have H1 : ((impl_IsDistributive.f k2 t926).bind fun t936 => (some t936)) = some r := by rw [if_pos rfl] at H; exact H
          clear H
          have H := H1
          clear H1
          replace H := Option.bind_eq_some_iff.mp H
          obtain ⟨t936, A200, H⟩ := H
          replace H : (some t936) = some r := H
          have A20 := Aside0.mk A200
          clear A200
          obtain rfl := Option.some.inj H
          go_wp2_with (first | (go_at_call 44; (with_reducible refine (impl_IsDistributive.calls k2 _ _ t926 t936 _ ?side1 ?side2 A20.out).mono ?_); (case side1 => repeat (first | exact (Kd.R_reads' HO_3.out).2.2 | (with_reducible refine Kd.C_alloc ?_ _) | (with_reducible refine Kd.C_drewN ?_ _) | (with_reducible refine Kd.C_drew ?_))); (case side2 => exact (Kd.R_reads' HO_3.out).2.1); rintro e w' ⟨rfl, ⟨nd, rfl⟩⟩))
          go_ret
          exact ⟨by first | rfl | (simp [errW_none, errW_some] <;> rfl) | (simp [*, errW_none, errW_some] <;> rfl), by repeat (first | (with_reducible first | exact HB.out | apply below_alloc | apply pw_below_drewN | apply below_drew1) | exact HB.out)⟩
         ·replace c19 := Bool.eq_false_iff.mpr c19
          subst c19
          have H1 : (some true) = some r := by rw [if_neg (show ¬ (false = true) by decide)] at H; exact H
          clear H
          have H := H1
          clear H1
          obtain rfl := Option.some.inj H
          go_wp2
          go_ret
          exact ⟨by first | rfl | (simp [errW_none, errW_some] <;> rfl) | (simp [*, errW_none, errW_some] <;> rfl), by repeat (first | (with_reducible first | exact HB.out | apply below_alloc | apply pw_below_drewN | apply below_drew1) | exact HB.out)⟩
        ·rw [if_neg c18] at H
         have c18b0 : (t929 == x5_2) = false := by simpa using c18
         (try (have c18b1 : decide (t929 = x5_2) = false := by simpa using c18))
         (try (have c18b2 : (t929 == x5_2) = false := by simpa using c18))
         (try (have c18b3 : ¬ (t929 = x5_2) := by simpa using c18))
         clear c18
         obtain rfl := Option.some.inj H
         go_wp2
         go_ret
         exact ⟨by first | rfl | (simp [errW_none, errW_some] <;> rfl) | (simp [*, errW_none, errW_some] <;> rfl), by repeat (first | (with_reducible first | exact HB.out | apply below_alloc | apply pw_below_drewN | apply below_drew1) | exact HB.out)⟩

/-- THE ONE PURE STATEMENT of laws_FnIsChain: yours. -/
def laws_FnIsChain.Pure : Prop := ∀ (l0 : List Int), l0.length ≤ maxLen → l0.length * 1 ≤ 140737488351232 → (∀ x ∈ l0, (Lit.int .u8 x).wf = true) → ∃ k, laws_FnIsChain.f k l0 = some true
theorem laws_FnIsChain.walk (P : laws_FnIsChain.Pure) (a0 : Option Addr) (len0 cap0 : Nat) (z0 : List Int) (w : World) (w0 : (a0 = none ∧ len0 = 0 ∧ cap0 = 0 ∧ z0 = []) ∨ ∃ x, a0 = some x ∧ len0 ≤ cap0 ∧ cap0 ≤ maxLen ∧ z0.length = cap0 ∧ (∀ i, i < z0.length → w.cell? (x.add i) = some (.int .u8 (z0.getD i 0))) ∧ ∀ n ∈ z0, (Lit.int .u8 n).wf = true) (y0 : len0 * 1 ≤ 140737488351232) :
  Calls Try.prog 22 #[.slice a0 len0 cap0] w fun e w' => e = .returned (.bool true) ∧ Below w.heap.size w w' := by
 obtain ⟨l0, rfl, hr0, hm0, hw0, hc0⟩ := ReadsInt.ofRowC w0
 obtain ⟨k, h⟩ := P l0 hm0 y0 hw0
 refine (laws_FnIsChain.calls k _ _ l0 true w (Kd.C_of_reads (d := (0 : Int)) (h1 := fun _ => rfl) hr0) hc0 h).mono ?_
 rintro e w' ⟨rfl, hd⟩
 exact ⟨rfl, hd⟩

end Go.Proofs.Ytmfpaagjllaljaa.P
end
