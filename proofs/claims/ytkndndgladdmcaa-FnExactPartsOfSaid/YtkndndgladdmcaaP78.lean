-- Printed by this session's wip/print2.py (the kit's print.py, widened) out of the translation. Lean checks it.
import Derived.Test.YtkndndgladdmcaaP0
import Derived.Test.YtkndndgladdmcaaP2
import Derived.Test.YtkndndgladdmcaaP11
import Derived.Test.YtkndndgladdmcaaP18
import Derived.Test.YtkndndgladdmcaaP20
import Derived.Test.YtkndndgladdmcaaP49
import Derived.Test.YtkndndgladdmcaaP50
import Derived.Test.YtkndndgladdmcaaP75
import Derived.Test.YtkndndgladdmcaaP77
namespace Go.Proofs.Ytkndndgladdmcaa.P
open Go.RowKit Go.Proofs.YtkndndgladdmcaaW.PrintWords Go.Proofs.YtkndndgladdmcaaW.PrintLast Go.Proofs.YtkndndgladdmcaaW.PrintMore
attribute [local go_sem] max2_int min2_int max_two min_two max_three min_three max_four min_four   -- for this text's walks alone
set_option linter.unusedVariables false
set_option linter.unusedSimpArgs false

/-! ### laws_FnExactPartsOf: function 17 -/
def laws_FnExactPartsOf.j0 : Nat → List Int → List Int → Bool → List Int → List (List Int) → Option (Bool)
 | 0, _, _, _, _, _ => none
 | k + 1, x4, x6, x42, x991000, x991001 => if x42 = true then (some false) else ((laws_markIntS.f k x6 1).bind fun bt1021 => ((laws_heldIntS.f k bt1021.2 1).bind fun t1023 => (if t1023 < 0 then (some false) else (if t1023 = bt1021.1 then ((laws_toAlgebra.f k x991000 x991001).bind fun bt1024 => ((impl_PartsOf.f k bt1024.1 bt1024.2).bind fun t1030 => ((laws_eqIntS.f k t1030 x4).bind fun t1033 => (if t1033 = true then ((laws_heldIntS.f k bt1021.2 1).bind fun t1034 => (if t1034 < 0 then (some false) else (if t1034 = bt1021.1 then (some true) else (some false)))) else (some false))))) else (some false)))))
def laws_FnExactPartsOf.f (k : Nat) (l0_0 : List Int) (l0_1 : List (List Int)) : Option (Bool) := (laws_szAlgebra.f k l0_0 l0_1 1048576).bind fun t991 => (if t991 < 0 then (some true) else ((laws_toAlgebra.f k l0_0 l0_1).bind fun bt992 => ((spec_PartsOf.f k bt992.1 bt992.2).bind fun t998 => ((laws_toAlgebra.f k l0_0 l0_1).bind fun bt1001 => ((impl_PartsOf.f k bt1001.1 bt1001.2).bind fun t1008 => ((laws_eqIntS.f k t1008 t998).bind fun t1011 => (if t1011 = true then ((laws_toAlgebra.f k l0_0 l0_1).bind fun bt1012 => ((laws_eqAlgebra.f k bt1001.1 bt1001.2 bt1012.1 bt1012.2).bind fun t1018 => (if t1018 = true then ((laws_markAlgebra.f k bt1001.1 bt1001.2 1).bind fun t1019 => (if t1019 < 0 then (laws_FnExactPartsOf.j0 k t998 t1008 true l0_0 l0_1) else ((laws_eqIntS.f k t1008 t998).bind fun t1020 => (laws_FnExactPartsOf.j0 k t998 t1008 (!t1020) l0_0 l0_1)))) else (some false)))) else (some false))))))))
set_option maxHeartbeats 8000000 in
set_option maxRecDepth 100000 in
theorem laws_FnExactPartsOf.calls (k : Nat) (A0_0 : Option Addr) (c0_0 : Nat) (l0_0 : List Int) (A0_1 : Option Addr) (c0_1 : Nat) (l0_1 : List (List Int)) (r : Bool) (w : World) (hr0_0 : Kd.C (Kd.int .i64) w A0_0 l0_0.length l0_0) (hc0_0 : l0_0.length ≤ c0_0) (hr0_1 : Kd.C (Kd.slice 3 (Kd.int .i64)) w A0_1 l0_1.length l0_1) (hc0_1 : l0_1.length ≤ c0_1) (hrt : Aside0 (r = true)) (h : laws_FnExactPartsOf.f k l0_0 l0_1 = some r) :
  Calls Try.prog 17 #[.agg #[.slice A0_0 l0_0.length c0_0, .slice A0_1 l0_1.length c0_1]] w fun e w' => e = .returned (.bool r) ∧ Below w.heap.size w w' := by
 have hu25 := Try.underlying25
 have hu28 := Try.underlying28
 have HR0_0 := Aside0.mk hr0_0
 have HC0_0 := Aside0.mk hc0_0
 clear hr0_0 hc0_0
 have HR0_1 := Aside0.mk hr0_1
 have HC0_1 := Aside0.mk hc0_1
 clear hr0_1 hc0_1
 have HB := Aside0.mk (Below.refl w.heap.size w)
 have H : ((laws_szAlgebra.f k l0_0 l0_1 1048576).bind fun t991 => (if t991 < 0 then (some true) else ((laws_toAlgebra.f k l0_0 l0_1).bind fun bt992 => ((spec_PartsOf.f k bt992.1 bt992.2).bind fun t998 => ((laws_toAlgebra.f k l0_0 l0_1).bind fun bt1001 => ((impl_PartsOf.f k bt1001.1 bt1001.2).bind fun t1008 => ((laws_eqIntS.f k t1008 t998).bind fun t1011 => (if t1011 = true then ((laws_toAlgebra.f k l0_0 l0_1).bind fun bt1012 => ((laws_eqAlgebra.f k bt1001.1 bt1001.2 bt1012.1 bt1012.2).bind fun t1018 => (if t1018 = true then ((laws_markAlgebra.f k bt1001.1 bt1001.2 1).bind fun t1019 => (if t1019 < 0 then (laws_FnExactPartsOf.j0 k t998 t1008 true l0_0 l0_1) else ((laws_eqIntS.f k t1008 t998).bind fun t1020 => (laws_FnExactPartsOf.j0 k t998 t1008 (!t1020) l0_0 l0_1)))) else (some false)))) else (some false))))))))) = some r := h
 clear h
 replace H := Option.bind_eq_some_iff.mp H
 obtain ⟨t991, A20, H⟩ := H
 replace H : (if t991 < 0 then (some true) else ((laws_toAlgebra.f k l0_0 l0_1).bind fun bt992 => ((spec_PartsOf.f k bt992.1 bt992.2).bind fun t998 => ((laws_toAlgebra.f k l0_0 l0_1).bind fun bt1001 => ((impl_PartsOf.f k bt1001.1 bt1001.2).bind fun t1008 => ((laws_eqIntS.f k t1008 t998).bind fun t1011 => (if t1011 = true then ((laws_toAlgebra.f k l0_0 l0_1).bind fun bt1012 => ((laws_eqAlgebra.f k bt1001.1 bt1001.2 bt1012.1 bt1012.2).bind fun t1018 => (if t1018 = true then ((laws_markAlgebra.f k bt1001.1 bt1001.2 1).bind fun t1019 => (if t1019 < 0 then (laws_FnExactPartsOf.j0 k t998 t1008 true l0_0 l0_1) else ((laws_eqIntS.f k t1008 t998).bind fun t1020 => (laws_FnExactPartsOf.j0 k t998 t1008 (!t1020) l0_0 l0_1)))) else (some false)))) else (some false)))))))) = some r := H
 have A2 := Aside0.mk A20
 clear A20
 by_cases c3 : t991 < 0
 ·rw [if_pos c3] at H
  have c3b0 : decide (t991 < 0) = true := decide_eq_true c3
  clear c3
  obtain rfl := Option.some.inj H
  go_enter Try.func17, Try.ntmps17
  go_wp2_with (first | ((with_reducible refine gate_dst (N := 1) rfl ?_); refine box_event ?hg (N := 1) ?hd (cs := #[.slice A0_0 l0_0.length c0_0, .slice A0_1 l0_1.length c0_1]) (t := 25) ?hr ?_; (case hd => rfl); (case hg => rfl); (case hr => first | (go_simp; done) | (go_simp; rfl)); intro gb990 hg w4 hbox hb; have n0_ := Aside0.mk (below_step (by repeat (first | (with_reducible first | exact HB.out | apply below_alloc | apply pw_below_drewN | apply below_drew1) | exact HB.out)) hb); have n1_ := Aside0.mk (hbox); have n2_ := Aside0.mk ((by rw [hg]; exact (below_size (by repeat (first | (with_reducible first | exact HB.out | apply below_alloc | apply pw_below_drewN | apply below_drew1) | exact HB.out))) : w.heap.size ≤ gb990)); have n3_ := Aside0.mk ((by rw [hg]; exact (below_size (by repeat (first | (with_reducible first | exact HB.out | apply below_alloc | apply pw_below_drewN | apply below_drew1) | exact HB.out))) : w.heap.size ≤ gb990)); clear HB; have HB := n0_; have BK990 := n1_; have GW990 := n2_; have GE990 := n3_; clear n0_ n1_ n2_ n3_; clear hb hbox hg; have hcz5_0 : w4.cell? ⟨gb990, 0, none⟩ = some (.slice A0_0 l0_0.length c0_0) := (blk_cell BK990.out 0).trans rfl; have hcz5_1 : w4.cell? ⟨gb990, 1, none⟩ = some (.slice A0_1 l0_1.length c0_1) := (blk_cell BK990.out 1).trans rfl; have hfz5_0 := blk_frozen BK990.out 0; have hfz5_1 := blk_frozen BK990.out 1) | ((with_reducible refine gate_callee (f := 19) rfl ?_); refine goesL_ (some 13) rfl rfl Try.func19 (by kernel_rfl) rfl #[.agg #[.slice A0_0 l0_0.length c0_0, .slice A0_1 l0_1.length c0_1], .int .i64 1048576] rfl (by (try simp only [List.map_toArray, List.map_cons, List.map_nil]); first | done | rfl | (simp only [List.length_drop, List.length_take]; rfl)) ?_; (with_reducible refine (laws_szAlgebra.calls k _ _ l0_0 _ _ l0_1 1048576 t991 _ ?side1 ?side2 ?side3 ?side4 A2.out).mono ?_); (case side1 => repeat (first | exact (Kd.C_below HR0_0.out HB.out) | (with_reducible refine Kd.C_alloc ?_ _) | (with_reducible refine Kd.C_drewN ?_ _) | (with_reducible refine Kd.C_drew ?_))); (case side2 => exact HC0_0.out); (case side3 => repeat (first | exact (Kd.C_below HR0_1.out HB.out) | (with_reducible refine Kd.C_alloc ?_ _) | (with_reducible refine Kd.C_drewN ?_ _) | (with_reducible refine Kd.C_drew ?_))); (case side4 => exact HC0_1.out); rintro e w6 ⟨rfl, hb⟩; refine ⟨_, rfl, ?_⟩; have n0_ := Aside0.mk (blk_below (g := gb990) (o := .cells #[.slice A0_0 l0_0.length c0_0, .slice A0_1 l0_1.length c0_1] 25 (0, 0)) (by (with_reducible repeat (first | refine blk_drewN ?_ _ | refine blk_drew ?_ | refine blk_alloc ?_ _)); exact BK990.out) hb); have n1_ := Aside0.mk (below_step (by repeat (first | (with_reducible first | exact HB.out | apply below_alloc | apply pw_below_drewN | apply below_drew1 | refine below_set ?_ GE990.out) | exact HB.out)) hb); clear BK990; clear HB; have BK990 := n0_; have HB := n1_; clear n0_ n1_; (try clear hb); (try clear hb2); (try clear hk); (try clear hi)))
  go_ret
  exact ⟨by first | rfl | (simp [errW_none, errW_some] <;> rfl) | (simp [*, errW_none, errW_some] <;> rfl), by repeat (first | (with_reducible first | exact HB.out | apply below_alloc | apply pw_below_drewN | apply below_drew1 | refine below_set ?_ GE990.out) | exact HB.out)⟩
 ·rw [if_neg c3] at H
  have c3b0 : decide (t991 < 0) = false := decide_eq_false c3
  clear c3
  replace H := Option.bind_eq_some_iff.mp H
  obtain ⟨⟨t992, t995⟩, A70, H⟩ := H
  replace H : ((spec_PartsOf.f k t992 t995).bind fun t998 => ((laws_toAlgebra.f k l0_0 l0_1).bind fun bt1001 => ((impl_PartsOf.f k bt1001.1 bt1001.2).bind fun t1008 => ((laws_eqIntS.f k t1008 t998).bind fun t1011 => (if t1011 = true then ((laws_toAlgebra.f k l0_0 l0_1).bind fun bt1012 => ((laws_eqAlgebra.f k bt1001.1 bt1001.2 bt1012.1 bt1012.2).bind fun t1018 => (if t1018 = true then ((laws_markAlgebra.f k bt1001.1 bt1001.2 1).bind fun t1019 => (if t1019 < 0 then (laws_FnExactPartsOf.j0 k t998 t1008 true l0_0 l0_1) else ((laws_eqIntS.f k t1008 t998).bind fun t1020 => (laws_FnExactPartsOf.j0 k t998 t1008 (!t1020) l0_0 l0_1)))) else (some false)))) else (some false)))))) = some r := H
  have A7 := Aside0.mk A70
  clear A70
  replace H := Option.bind_eq_some_iff.mp H
  obtain ⟨t998, A80, H⟩ := H
  replace H : ((laws_toAlgebra.f k l0_0 l0_1).bind fun bt1001 => ((impl_PartsOf.f k bt1001.1 bt1001.2).bind fun t1008 => ((laws_eqIntS.f k t1008 t998).bind fun t1011 => (if t1011 = true then ((laws_toAlgebra.f k l0_0 l0_1).bind fun bt1012 => ((laws_eqAlgebra.f k bt1001.1 bt1001.2 bt1012.1 bt1012.2).bind fun t1018 => (if t1018 = true then ((laws_markAlgebra.f k bt1001.1 bt1001.2 1).bind fun t1019 => (if t1019 < 0 then (laws_FnExactPartsOf.j0 k t998 t1008 true l0_0 l0_1) else ((laws_eqIntS.f k t1008 t998).bind fun t1020 => (laws_FnExactPartsOf.j0 k t998 t1008 (!t1020) l0_0 l0_1)))) else (some false)))) else (some false))))) = some r := H
  have A8 := Aside0.mk A80
  clear A80
  replace H := Option.bind_eq_some_iff.mp H
  obtain ⟨⟨t1001, t1004⟩, A90, H⟩ := H
  replace H : ((impl_PartsOf.f k t1001 t1004).bind fun t1008 => ((laws_eqIntS.f k t1008 t998).bind fun t1011 => (if t1011 = true then ((laws_toAlgebra.f k l0_0 l0_1).bind fun bt1012 => ((laws_eqAlgebra.f k t1001 t1004 bt1012.1 bt1012.2).bind fun t1018 => (if t1018 = true then ((laws_markAlgebra.f k t1001 t1004 1).bind fun t1019 => (if t1019 < 0 then (laws_FnExactPartsOf.j0 k t998 t1008 true l0_0 l0_1) else ((laws_eqIntS.f k t1008 t998).bind fun t1020 => (laws_FnExactPartsOf.j0 k t998 t1008 (!t1020) l0_0 l0_1)))) else (some false)))) else (some false)))) = some r := H
  have A9 := Aside0.mk A90
  clear A90
  replace H := Option.bind_eq_some_iff.mp H
  obtain ⟨t1008, A100, H⟩ := H
  replace H : ((laws_eqIntS.f k t1008 t998).bind fun t1011 => (if t1011 = true then ((laws_toAlgebra.f k l0_0 l0_1).bind fun bt1012 => ((laws_eqAlgebra.f k t1001 t1004 bt1012.1 bt1012.2).bind fun t1018 => (if t1018 = true then ((laws_markAlgebra.f k t1001 t1004 1).bind fun t1019 => (if t1019 < 0 then (laws_FnExactPartsOf.j0 k t998 t1008 true l0_0 l0_1) else ((laws_eqIntS.f k t1008 t998).bind fun t1020 => (laws_FnExactPartsOf.j0 k t998 t1008 (!t1020) l0_0 l0_1)))) else (some false)))) else (some false))) = some r := H
  have A10 := Aside0.mk A100
  clear A100
  replace H := Option.bind_eq_some_iff.mp H
  obtain ⟨t1011, A110, H⟩ := H
  replace H : (if t1011 = true then ((laws_toAlgebra.f k l0_0 l0_1).bind fun bt1012 => ((laws_eqAlgebra.f k t1001 t1004 bt1012.1 bt1012.2).bind fun t1018 => (if t1018 = true then ((laws_markAlgebra.f k t1001 t1004 1).bind fun t1019 => (if t1019 < 0 then (laws_FnExactPartsOf.j0 k t998 t1008 true l0_0 l0_1) else ((laws_eqIntS.f k t1008 t998).bind fun t1020 => (laws_FnExactPartsOf.j0 k t998 t1008 (!t1020) l0_0 l0_1)))) else (some false)))) else (some false)) = some r := H
  have A11 := Aside0.mk A110
  clear A110
  by_cases c12 : t1011 = true
  ·subst c12
   have H1 : ((laws_toAlgebra.f k l0_0 l0_1).bind fun bt1012 => ((laws_eqAlgebra.f k t1001 t1004 bt1012.1 bt1012.2).bind fun t1018 => (if t1018 = true then ((laws_markAlgebra.f k t1001 t1004 1).bind fun t1019 => (if t1019 < 0 then (laws_FnExactPartsOf.j0 k t998 t1008 true l0_0 l0_1) else ((laws_eqIntS.f k t1008 t998).bind fun t1020 => (laws_FnExactPartsOf.j0 k t998 t1008 (!t1020) l0_0 l0_1)))) else (some false)))) = some r := by rw [if_pos rfl] at H; exact H
   clear H
   have H := H1
   clear H1
   replace H := Option.bind_eq_some_iff.mp H
   obtain ⟨⟨t1012, t1015⟩, A130, H⟩ := H
   replace H : ((laws_eqAlgebra.f k t1001 t1004 t1012 t1015).bind fun t1018 => (if t1018 = true then ((laws_markAlgebra.f k t1001 t1004 1).bind fun t1019 => (if t1019 < 0 then (laws_FnExactPartsOf.j0 k t998 t1008 true l0_0 l0_1) else ((laws_eqIntS.f k t1008 t998).bind fun t1020 => (laws_FnExactPartsOf.j0 k t998 t1008 (!t1020) l0_0 l0_1)))) else (some false))) = some r := H
   have A13 := Aside0.mk A130
   clear A130
   replace H := Option.bind_eq_some_iff.mp H
   obtain ⟨t1018, A140, H⟩ := H
   replace H : (if t1018 = true then ((laws_markAlgebra.f k t1001 t1004 1).bind fun t1019 => (if t1019 < 0 then (laws_FnExactPartsOf.j0 k t998 t1008 true l0_0 l0_1) else ((laws_eqIntS.f k t1008 t998).bind fun t1020 => (laws_FnExactPartsOf.j0 k t998 t1008 (!t1020) l0_0 l0_1)))) else (some false)) = some r := H
   have A14 := Aside0.mk A140
   clear A140
   by_cases c15 : t1018 = true
   ·subst c15
    have H1 : ((laws_markAlgebra.f k t1001 t1004 1).bind fun t1019 => (if t1019 < 0 then (laws_FnExactPartsOf.j0 k t998 t1008 true l0_0 l0_1) else ((laws_eqIntS.f k t1008 t998).bind fun t1020 => (laws_FnExactPartsOf.j0 k t998 t1008 (!t1020) l0_0 l0_1)))) = some r := by rw [if_pos rfl] at H; exact H
    clear H
    have H := H1
    clear H1
    replace H := Option.bind_eq_some_iff.mp H
    obtain ⟨t1019, A160, H⟩ := H
    replace H : (if t1019 < 0 then (laws_FnExactPartsOf.j0 k t998 t1008 true l0_0 l0_1) else ((laws_eqIntS.f k t1008 t998).bind fun t1020 => (laws_FnExactPartsOf.j0 k t998 t1008 (!t1020) l0_0 l0_1))) = some r := H
    have A16 := Aside0.mk A160
    clear A160
    have HC17 := Aside0.mk H
    clear H
    go_enter Try.func17, Try.ntmps17
    try go_wp2_with (first | ((with_reducible refine gate_dst (N := 1) rfl ?_); refine box_event ?hg (N := 1) ?hd (cs := #[.slice A0_0 l0_0.length c0_0, .slice A0_1 l0_1.length c0_1]) (t := 25) ?hr ?_; (case hd => rfl); (case hg => rfl); (case hr => first | (go_simp; done) | (go_simp; rfl)); intro gb990 hg w18 hbox hb; have n0_ := Aside0.mk (below_step (by repeat (first | (with_reducible first | exact HB.out | apply below_alloc | apply pw_below_drewN | apply below_drew1) | exact HB.out)) hb); have n1_ := Aside0.mk (hbox); have n2_ := Aside0.mk ((by rw [hg]; exact (below_size (by repeat (first | (with_reducible first | exact HB.out | apply below_alloc | apply pw_below_drewN | apply below_drew1) | exact HB.out))) : w.heap.size ≤ gb990)); have n3_ := Aside0.mk ((by rw [hg]; exact (below_size (by repeat (first | (with_reducible first | exact HB.out | apply below_alloc | apply pw_below_drewN | apply below_drew1) | exact HB.out))) : w.heap.size ≤ gb990)); clear HB; have HB := n0_; have BK990 := n1_; have GW990 := n2_; have GE990 := n3_; clear n0_ n1_ n2_ n3_; clear hb hbox hg; have hcz19_0 : w18.cell? ⟨gb990, 0, none⟩ = some (.slice A0_0 l0_0.length c0_0) := (blk_cell BK990.out 0).trans rfl; have hcz19_1 : w18.cell? ⟨gb990, 1, none⟩ = some (.slice A0_1 l0_1.length c0_1) := (blk_cell BK990.out 1).trans rfl; have hfz19_0 := blk_frozen BK990.out 0; have hfz19_1 := blk_frozen BK990.out 1) | ((with_reducible refine gate_callee (f := 19) rfl ?_); refine goesL_ (some 13) rfl rfl Try.func19 (by kernel_rfl) rfl #[.agg #[.slice A0_0 l0_0.length c0_0, .slice A0_1 l0_1.length c0_1], .int .i64 1048576] rfl (by (try simp only [List.map_toArray, List.map_cons, List.map_nil]); first | done | rfl | (simp only [List.length_drop, List.length_take]; rfl)) ?_; (with_reducible refine (laws_szAlgebra.calls k _ _ l0_0 _ _ l0_1 1048576 t991 _ ?side1 ?side2 ?side3 ?side4 A2.out).mono ?_); (case side1 => repeat (first | exact (Kd.C_below HR0_0.out HB.out) | (with_reducible refine Kd.C_alloc ?_ _) | (with_reducible refine Kd.C_drewN ?_ _) | (with_reducible refine Kd.C_drew ?_))); (case side2 => exact HC0_0.out); (case side3 => repeat (first | exact (Kd.C_below HR0_1.out HB.out) | (with_reducible refine Kd.C_alloc ?_ _) | (with_reducible refine Kd.C_drewN ?_ _) | (with_reducible refine Kd.C_drew ?_))); (case side4 => exact HC0_1.out); rintro e w20 ⟨rfl, hb⟩; refine ⟨_, rfl, ?_⟩; have n0_ := Aside0.mk (blk_below (g := gb990) (o := .cells #[.slice A0_0 l0_0.length c0_0, .slice A0_1 l0_1.length c0_1] 25 (0, 0)) (by (with_reducible repeat (first | refine blk_drewN ?_ _ | refine blk_drew ?_ | refine blk_alloc ?_ _)); exact BK990.out) hb); have n1_ := Aside0.mk (below_step (by repeat (first | (with_reducible first | exact HB.out | apply below_alloc | apply pw_below_drewN | apply below_drew1 | refine below_set ?_ GE990.out) | exact HB.out)) hb); clear BK990; clear HB; have BK990 := n0_; have HB := n1_; clear n0_ n1_; (try clear hb); (try clear hb2); (try clear hk); (try clear hi); have hcz21_0 : w20.cell? ⟨gb990, 0, none⟩ = some (.slice A0_0 l0_0.length c0_0) := (blk_cell BK990.out 0).trans rfl; have hcz21_1 : w20.cell? ⟨gb990, 1, none⟩ = some (.slice A0_1 l0_1.length c0_1) := (blk_cell BK990.out 1).trans rfl; have hfz21_0 := blk_frozen BK990.out 0; have hfz21_1 := blk_frozen BK990.out 1) | ((with_reducible refine gate_callee (f := 21) rfl ?_); refine goesL_ (some 17) rfl rfl Try.func21 (by kernel_rfl) rfl #[.agg #[.slice A0_0 l0_0.length c0_0, .slice A0_1 l0_1.length c0_1]] rfl (by (try simp only [List.map_toArray, List.map_cons, List.map_nil]); first | done | rfl | (simp only [List.length_drop, List.length_take]; rfl)) ?_; (with_reducible refine (laws_toAlgebra.calls k _ _ l0_0 _ _ l0_1 t992 t995 _ ?side1 ?side2 ?side3 ?side4 A7.out).mono ?_); (case side1 => repeat (first | exact (Kd.C_below HR0_0.out HB.out) | (with_reducible refine Kd.C_alloc ?_ _) | (with_reducible refine Kd.C_drewN ?_ _) | (with_reducible refine Kd.C_drew ?_))); (case side2 => exact HC0_0.out); (case side3 => repeat (first | exact (Kd.C_below HR0_1.out HB.out) | (with_reducible refine Kd.C_alloc ?_ _) | (with_reducible refine Kd.C_drewN ?_ _) | (with_reducible refine Kd.C_drew ?_))); (case side4 => exact HC0_1.out); rintro e w22 ⟨v993, v996, rfl, ho0, ho1, hb⟩; refine ⟨_, rfl, ?_⟩; have n0_ := Aside0.mk (Kd.R_lower ho0 (below_size (by repeat (first | (with_reducible first | exact HB.out | apply below_alloc | apply pw_below_drewN | apply below_drew1 | refine below_set ?_ GE990.out) | exact HB.out)))); have n1_ := Aside0.mk (Kd.S_lower ho1 (below_size (by repeat (first | (with_reducible first | exact HB.out | apply below_alloc | apply pw_below_drewN | apply below_drew1 | refine below_set ?_ GE990.out) | exact HB.out)))); have n2_ := Aside0.mk (blk_below (g := gb990) (o := .cells #[.slice A0_0 l0_0.length c0_0, .slice A0_1 l0_1.length c0_1] 25 (0, 0)) (by (with_reducible repeat (first | refine blk_drewN ?_ _ | refine blk_drew ?_ | refine blk_alloc ?_ _)); exact BK990.out) hb); have n3_ := Aside0.mk (below_step (by repeat (first | (with_reducible first | exact HB.out | apply below_alloc | apply pw_below_drewN | apply below_drew1 | refine below_set ?_ GE990.out) | exact HB.out)) hb); clear BK990; clear HB; have HO994 := n0_; have HO997 := n1_; have BK990 := n2_; have HB := n3_; clear n0_ n1_ n2_ n3_; (try clear hb); (try clear hb2); (try clear hk); (try clear hi); (try clear ho0); (try clear ho1); obtain ⟨Ao23, co23, eo23⟩ := Kd.R_slice HO994.out; subst eo23; obtain ⟨Ao24, co24, eo24⟩ := Kd.S_slice HO997.out; subst eo24) | ((with_reducible refine gate_callee (f := 54) rfl ?_); refine goesL_ (some 18) rfl rfl Try.func54 (by kernel_rfl) rfl #[.agg #[.slice Ao23 t992.length co23, .slice Ao24 t995.length co24]] rfl (by (try simp only [List.map_toArray, List.map_cons, List.map_nil]); first | done | rfl | (simp only [List.length_drop, List.length_take]; rfl)) ?_; (with_reducible refine (spec_PartsOf.calls k _ _ t992 _ _ t995 t998 _ ?side1 ?side2 ?side3 ?side4 A8.out).mono ?_); (case side1 => repeat (first | exact (Kd.R_reads' HO994.out).2.2 | (with_reducible refine Kd.C_alloc ?_ _) | (with_reducible refine Kd.C_drewN ?_ _) | (with_reducible refine Kd.C_drew ?_))); (case side2 => exact (Kd.R_reads' HO994.out).2.1); (case side3 => repeat (first | exact (Kd.S_reads' HO997.out).2.2 | (with_reducible refine Kd.C_alloc ?_ _) | (with_reducible refine Kd.C_drewN ?_ _) | (with_reducible refine Kd.C_drew ?_))); (case side4 => exact (Kd.S_reads' HO997.out).2.1); rintro e w25 ⟨v999, rfl, ho0, hb⟩; refine ⟨_, rfl, ?_⟩; have n0_ := Aside0.mk (Kd.R_elder' (by (with_reducible repeat (first | apply Kd.R_alloc | apply Kd.R_drewN | apply Kd.R_drew)); exact HO994.out) (Kd.R_base ho0) hb); have n1_ := Aside0.mk (Kd.S_elder' (by (with_reducible repeat (first | apply Kd.S_alloc | apply Kd.S_drewN | apply Kd.S_drew)); exact HO997.out) (Kd.R_base ho0) hb); have n2_ := Aside0.mk (Kd.R_lower (Kd.R_new' ho0 (Kd.R_lt (by (with_reducible repeat (first | apply Kd.R_alloc | apply Kd.R_drewN | apply Kd.R_drew)); exact HO994.out))) (below_size (by repeat (first | (with_reducible first | exact HB.out | apply below_alloc | apply pw_below_drewN | apply below_drew1 | refine below_set ?_ GE990.out) | exact HB.out)))); have n3_ := Aside0.mk (blk_below (g := gb990) (o := .cells #[.slice A0_0 l0_0.length c0_0, .slice A0_1 l0_1.length c0_1] 25 (0, 0)) (by (with_reducible repeat (first | refine blk_drewN ?_ _ | refine blk_drew ?_ | refine blk_alloc ?_ _)); exact BK990.out) hb); have n4_ := Aside0.mk (below_step (by repeat (first | (with_reducible first | exact HB.out | apply below_alloc | apply pw_below_drewN | apply below_drew1 | refine below_set ?_ GE990.out) | exact HB.out)) hb); clear HO994; clear HO997; clear BK990; clear HB; have HO994 := n0_; have HO997 := n1_; have HO1000 := n2_; have BK990 := n3_; have HB := n4_; clear n0_ n1_ n2_ n3_ n4_; (try clear hb); (try clear hb2); (try clear hk); (try clear hi); (try clear ho0); have hcz26_0 : w25.cell? ⟨gb990, 0, none⟩ = some (.slice A0_0 l0_0.length c0_0) := (blk_cell BK990.out 0).trans rfl; have hcz26_1 : w25.cell? ⟨gb990, 1, none⟩ = some (.slice A0_1 l0_1.length c0_1) := (blk_cell BK990.out 1).trans rfl; have hfz26_0 := blk_frozen BK990.out 0; have hfz26_1 := blk_frozen BK990.out 1) | ((with_reducible refine gate_callee (f := 21) rfl ?_); refine goesL_ (some 20) rfl rfl Try.func21 (by kernel_rfl) rfl #[.agg #[.slice A0_0 l0_0.length c0_0, .slice A0_1 l0_1.length c0_1]] rfl (by (try simp only [List.map_toArray, List.map_cons, List.map_nil]); first | done | rfl | (simp only [List.length_drop, List.length_take]; rfl)) ?_; (with_reducible refine (laws_toAlgebra.calls k _ _ l0_0 _ _ l0_1 t1001 t1004 _ ?side1 ?side2 ?side3 ?side4 A9.out).mono ?_); (case side1 => repeat (first | exact (Kd.C_below HR0_0.out HB.out) | (with_reducible refine Kd.C_alloc ?_ _) | (with_reducible refine Kd.C_drewN ?_ _) | (with_reducible refine Kd.C_drew ?_))); (case side2 => exact HC0_0.out); (case side3 => repeat (first | exact (Kd.C_below HR0_1.out HB.out) | (with_reducible refine Kd.C_alloc ?_ _) | (with_reducible refine Kd.C_drewN ?_ _) | (with_reducible refine Kd.C_drew ?_))); (case side4 => exact HC0_1.out); rintro e w27 ⟨v1002, v1005, rfl, ho0, ho1, hb⟩; refine ⟨_, rfl, ?_⟩; have n0_ := Aside0.mk (Kd.R_elder' (by (with_reducible repeat (first | apply Kd.R_alloc | apply Kd.R_drewN | apply Kd.R_drew)); exact HO994.out) (Kd.R_base ho0) hb); have n1_ := Aside0.mk (Kd.S_mono (Kd.S_told (Kd.S_told (Kd.S_old (by (with_reducible repeat (first | apply Kd.S_alloc | apply Kd.S_drewN | apply Kd.S_drew)); exact HO997.out) hb) (Kd.R_base ho0)) (Kd.S_base ho1)) (fun _ h_ => h_.1)); have n2_ := Aside0.mk (Kd.R_elder' (by (with_reducible repeat (first | apply Kd.R_alloc | apply Kd.R_drewN | apply Kd.R_drew)); exact HO1000.out) (Kd.R_base ho0) hb); have n3_ := Aside0.mk (Kd.R_lower (Kd.R_new' (Kd.R_new' ho0 (Kd.R_lt (by (with_reducible repeat (first | apply Kd.R_alloc | apply Kd.R_drewN | apply Kd.R_drew)); exact HO994.out))) (Kd.R_lt (by (with_reducible repeat (first | apply Kd.R_alloc | apply Kd.R_drewN | apply Kd.R_drew)); exact HO1000.out))) (below_size (by repeat (first | (with_reducible first | exact HB.out | apply below_alloc | apply pw_below_drewN | apply below_drew1 | refine below_set ?_ GE990.out) | exact HB.out)))); have n4_ := Aside0.mk (Kd.S_lower (Kd.S_new' (Kd.S_new' (Kd.S_new' ho1 (Kd.R_lt (by (with_reducible repeat (first | apply Kd.R_alloc | apply Kd.R_drewN | apply Kd.R_drew)); exact HO994.out))) (Kd.S_lt (by (with_reducible repeat (first | apply Kd.S_alloc | apply Kd.S_drewN | apply Kd.S_drew)); exact HO997.out))) (Kd.R_lt (by (with_reducible repeat (first | apply Kd.R_alloc | apply Kd.R_drewN | apply Kd.R_drew)); exact HO1000.out))) (below_size (by repeat (first | (with_reducible first | exact HB.out | apply below_alloc | apply pw_below_drewN | apply below_drew1 | refine below_set ?_ GE990.out) | exact HB.out)))); have n5_ := Aside0.mk (blk_below (g := gb990) (o := .cells #[.slice A0_0 l0_0.length c0_0, .slice A0_1 l0_1.length c0_1] 25 (0, 0)) (by (with_reducible repeat (first | refine blk_drewN ?_ _ | refine blk_drew ?_ | refine blk_alloc ?_ _)); exact BK990.out) hb); have n6_ := Aside0.mk (below_step (by repeat (first | (with_reducible first | exact HB.out | apply below_alloc | apply pw_below_drewN | apply below_drew1 | refine below_set ?_ GE990.out) | exact HB.out)) hb); clear HO994; clear HO997; clear HO1000; clear BK990; clear HB; have HO994 := n0_; have HO997 := n1_; have HO1000 := n2_; have HO1003 := n3_; have HO1006 := n4_; have BK990 := n5_; have HB := n6_; clear n0_ n1_ n2_ n3_ n4_ n5_ n6_; (try clear hb); (try clear hb2); (try clear hk); (try clear hi); (try clear ho0); (try clear ho1)) | ((with_reducible refine gate_dst (N := 5) rfl ?_); refine box_event ?hg (N := 5) ?hd (cs := #[.slice none 0 0, .slice none 0 0]) (t := 28) ?hr ?_; (case hd => rfl); (case hg => rfl); (case hr => first | (go_simp; done) | (go_simp; rfl)); intro gb1007 hg w28 hbox hb; have n0_ := Aside0.mk (Kd.R_below (by (with_reducible repeat (first | apply Kd.R_alloc | apply Kd.R_drewN | apply Kd.R_drew)); exact HO994.out) hb); have n1_ := Aside0.mk (Kd.S_below (by (with_reducible repeat (first | apply Kd.S_alloc | apply Kd.S_drewN | apply Kd.S_drew)); exact HO997.out) hb); have n2_ := Aside0.mk (Kd.R_below (by (with_reducible repeat (first | apply Kd.R_alloc | apply Kd.R_drewN | apply Kd.R_drew)); exact HO1000.out) hb); have n3_ := Aside0.mk (Kd.R_below (by (with_reducible repeat (first | apply Kd.R_alloc | apply Kd.R_drewN | apply Kd.R_drew)); exact HO1003.out) hb); have n4_ := Aside0.mk (Kd.S_below (by (with_reducible repeat (first | apply Kd.S_alloc | apply Kd.S_drewN | apply Kd.S_drew)); exact HO1006.out) hb); have n5_ := Aside0.mk (blk_below (g := gb990) (o := .cells #[.slice A0_0 l0_0.length c0_0, .slice A0_1 l0_1.length c0_1] 25 (0, 0)) (by (with_reducible repeat (first | refine blk_drewN ?_ _ | refine blk_drew ?_ | refine blk_alloc ?_ _)); exact BK990.out) hb); have n6_ := Aside0.mk (below_step (by repeat (first | (with_reducible first | exact HB.out | apply below_alloc | apply pw_below_drewN | apply below_drew1 | refine below_set ?_ GE990.out) | exact HB.out)) hb); have n7_ := Aside0.mk (hbox); have n8_ := Aside0.mk ((by rw [hg]; exact (below_size (by repeat (first | (with_reducible first | exact HB.out | apply below_alloc | apply pw_below_drewN | apply below_drew1 | refine below_set ?_ GE990.out) | exact HB.out))) : w.heap.size ≤ gb1007)); have n9_ := Aside0.mk ((by rw [hg]; exact (below_size (by repeat (first | (with_reducible first | exact HB.out | apply below_alloc | apply pw_below_drewN | apply below_drew1 | refine below_set ?_ GE990.out) | exact HB.out))) : w.heap.size ≤ gb1007)); have n10_ := Aside0.mk ((by rw [hg]; exact Nat.ne_of_lt (blk_lt (g := gb990) (o := .cells #[.slice A0_0 l0_0.length c0_0, .slice A0_1 l0_1.length c0_1] 25 (0, 0)) (by (with_reducible repeat (first | refine blk_drewN ?_ _ | refine blk_drew ?_ | refine blk_alloc ?_ _)); exact BK990.out)) : gb990 ≠ gb1007)); have n11_ := Aside0.mk ((by rw [hg]; exact Nat.ne_of_gt (blk_lt (g := gb990) (o := .cells #[.slice A0_0 l0_0.length c0_0, .slice A0_1 l0_1.length c0_1] 25 (0, 0)) (by (with_reducible repeat (first | refine blk_drewN ?_ _ | refine blk_drew ?_ | refine blk_alloc ?_ _)); exact BK990.out)) : gb1007 ≠ gb990)); clear HO994; clear HO997; clear HO1000; clear HO1003; clear HO1006; clear BK990; clear HB; have HO994 := n0_; have HO997 := n1_; have HO1000 := n2_; have HO1003 := n3_; have HO1006 := n4_; have BK990 := n5_; have HB := n6_; have BK1007 := n7_; have GW1007 := n8_; have GE1007 := n9_; have NB990_1007 := n10_; have NB1007_990 := n11_; clear n0_ n1_ n2_ n3_ n4_ n5_ n6_ n7_ n8_ n9_ n10_ n11_; clear hb hbox hg; obtain ⟨Ao29, co29, eo29⟩ := Kd.R_slice HO1003.out; subst eo29; have hnb30 := NB1007_990.out; have hnc30 := NB990_1007.out; have hcz31_0 : w28.cell? ⟨gb1007, 0, none⟩ = some (.slice none 0 0) := (blk_cell BK1007.out 0).trans rfl; have hcz31_1 : w28.cell? ⟨gb1007, 1, none⟩ = some (.slice none 0 0) := (blk_cell BK1007.out 1).trans rfl; have hfz31_0 := blk_frozen BK1007.out 0; have hfz31_1 := blk_frozen BK1007.out 1; obtain ⟨Ao32, co32, eo32⟩ := Kd.S_slice HO1006.out; subst eo32) | ((with_reducible refine gate_callee (f := 55) rfl ?_); refine goesL_ (some 22) rfl rfl Try.func55 (by kernel_rfl) rfl #[.agg #[.slice Ao29 t1001.length co29, .slice Ao32 t1004.length co32]] rfl (by (try simp only [List.map_toArray, List.map_cons, List.map_nil]); first | done | rfl | (simp only [List.length_drop, List.length_take]; rfl)) ?_; (with_reducible refine (impl_PartsOf.calls k _ _ t1001 _ _ t1004 t1008 _ ?side1 ?side2 ?side3 ?side4 A10.out).mono ?_); (case side1 => refine (Kd.R_reads' (e := 3) (base := w.heap.size) (ok := fun k_ => ((True ∧ some k_ ≠ (.slice Ao23 t992.length co23 : Value).ownBlock) ∧ some k_ ≠ (v999 : Value).ownBlock)) (n := t1001.length) (c := co29) ?_).2.2; exact (by (with_reducible repeat (first | apply Kd.R_alloc | apply Kd.R_drewN | apply Kd.R_drew)); exact (Kd.R_mono (Kd.R_far (p := ⟨gb1007, 1, none⟩) (Kd.R_far (p := ⟨gb1007, 0, none⟩) (Kd.R_types HO1003.out BK1007.out (by decide)) (fun _ hk => hk.2) (.slice Ao29 t1001.length co29)) (fun _ hk => hk.2) (.slice Ao32 t1004.length co32)) (fun _ h_ => h_.1)))); (case side2 => exact (Kd.R_reads' HO1003.out).2.1); (case side3 => refine (Kd.S_reads' (e := 22) (base := w.heap.size) (ok := fun k_ => (((some k_ ≠ (.slice Ao29 t1001.length co29 : Value).ownBlock ∧ some k_ ≠ (.slice Ao23 t992.length co23 : Value).ownBlock) ∧ some k_ ≠ (.slice Ao24 t995.length co24 : Value).ownBlock) ∧ some k_ ≠ (v999 : Value).ownBlock)) (n := t1004.length) (c := co32) ?_).2.2; exact (by (with_reducible repeat (first | apply Kd.S_alloc | apply Kd.S_drewN | apply Kd.S_drew)); exact (Kd.S_mono (Kd.S_far (p := ⟨gb1007, 1, none⟩) (Kd.S_far (p := ⟨gb1007, 0, none⟩) (Kd.S_types HO1006.out BK1007.out (by decide)) (fun _ hk => hk.2) (.slice Ao29 t1001.length co29)) (fun _ hk => hk.2) (.slice Ao32 t1004.length co32)) (fun _ h_ => h_.1)))); (case side4 => exact (Kd.S_reads' HO1006.out).2.1); rintro e w33 ⟨v1009, rfl, ho0, hb⟩; refine ⟨_, rfl, ?_⟩; have n0_ := Aside0.mk (Kd.R_elder' (by (with_reducible repeat (first | apply Kd.R_alloc | apply Kd.R_drewN | apply Kd.R_drew)); exact (Kd.R_mono (Kd.R_far (p := ⟨gb1007, 1, none⟩) (Kd.R_far (p := ⟨gb1007, 0, none⟩) (Kd.R_types HO994.out BK1007.out (by decide)) (fun _ hk => hk.2) (.slice Ao29 t1001.length co29)) (fun _ hk => hk.2) (.slice Ao32 t1004.length co32)) (fun _ h_ => h_.1))) (Kd.R_base ho0) hb); have n1_ := Aside0.mk (Kd.S_elder' (by (with_reducible repeat (first | apply Kd.S_alloc | apply Kd.S_drewN | apply Kd.S_drew)); exact (Kd.S_mono (Kd.S_far (p := ⟨gb1007, 1, none⟩) (Kd.S_far (p := ⟨gb1007, 0, none⟩) (Kd.S_types HO997.out BK1007.out (by decide)) (fun _ hk => hk.2) (.slice Ao29 t1001.length co29)) (fun _ hk => hk.2) (.slice Ao32 t1004.length co32)) (fun _ h_ => h_.1))) (Kd.R_base ho0) hb); have n2_ := Aside0.mk (Kd.R_elder' (by (with_reducible repeat (first | apply Kd.R_alloc | apply Kd.R_drewN | apply Kd.R_drew)); exact (Kd.R_mono (Kd.R_far (p := ⟨gb1007, 1, none⟩) (Kd.R_far (p := ⟨gb1007, 0, none⟩) (Kd.R_types HO1000.out BK1007.out (by decide)) (fun _ hk => hk.2) (.slice Ao29 t1001.length co29)) (fun _ hk => hk.2) (.slice Ao32 t1004.length co32)) (fun _ h_ => h_.1))) (Kd.R_base ho0) hb); have n3_ := Aside0.mk (Kd.R_elder' (by (with_reducible repeat (first | apply Kd.R_alloc | apply Kd.R_drewN | apply Kd.R_drew)); exact (Kd.R_mono (Kd.R_far (p := ⟨gb1007, 1, none⟩) (Kd.R_far (p := ⟨gb1007, 0, none⟩) (Kd.R_types HO1003.out BK1007.out (by decide)) (fun _ hk => hk.2) (.slice Ao29 t1001.length co29)) (fun _ hk => hk.2) (.slice Ao32 t1004.length co32)) (fun _ h_ => h_.1))) (Kd.R_base ho0) hb); have n4_ := Aside0.mk (Kd.S_elder' (by (with_reducible repeat (first | apply Kd.S_alloc | apply Kd.S_drewN | apply Kd.S_drew)); exact (Kd.S_mono (Kd.S_far (p := ⟨gb1007, 1, none⟩) (Kd.S_far (p := ⟨gb1007, 0, none⟩) (Kd.S_types HO1006.out BK1007.out (by decide)) (fun _ hk => hk.2) (.slice Ao29 t1001.length co29)) (fun _ hk => hk.2) (.slice Ao32 t1004.length co32)) (fun _ h_ => h_.1))) (Kd.R_base ho0) hb); have n5_ := Aside0.mk (Kd.R_lower (Kd.R_new' (Kd.R_new' (Kd.R_new' ho0 (Kd.R_lt (by (with_reducible repeat (first | apply Kd.R_alloc | apply Kd.R_drewN | apply Kd.R_drew)); exact (Kd.R_mono (Kd.R_far (p := ⟨gb1007, 1, none⟩) (Kd.R_far (p := ⟨gb1007, 0, none⟩) (Kd.R_types HO994.out BK1007.out (by decide)) (fun _ hk => hk.2) (.slice Ao29 t1001.length co29)) (fun _ hk => hk.2) (.slice Ao32 t1004.length co32)) (fun _ h_ => h_.1))))) (Kd.R_lt (by (with_reducible repeat (first | apply Kd.R_alloc | apply Kd.R_drewN | apply Kd.R_drew)); exact (Kd.R_mono (Kd.R_far (p := ⟨gb1007, 1, none⟩) (Kd.R_far (p := ⟨gb1007, 0, none⟩) (Kd.R_types HO1000.out BK1007.out (by decide)) (fun _ hk => hk.2) (.slice Ao29 t1001.length co29)) (fun _ hk => hk.2) (.slice Ao32 t1004.length co32)) (fun _ h_ => h_.1))))) (Kd.R_lt (by (with_reducible repeat (first | apply Kd.R_alloc | apply Kd.R_drewN | apply Kd.R_drew)); exact (Kd.R_mono (Kd.R_far (p := ⟨gb1007, 1, none⟩) (Kd.R_far (p := ⟨gb1007, 0, none⟩) (Kd.R_types HO1003.out BK1007.out (by decide)) (fun _ hk => hk.2) (.slice Ao29 t1001.length co29)) (fun _ hk => hk.2) (.slice Ao32 t1004.length co32)) (fun _ h_ => h_.1))))) (below_size (by repeat (first | (with_reducible first | exact HB.out | apply below_alloc | apply pw_below_drewN | apply below_drew1 | refine below_set ?_ GE990.out | refine below_set ?_ GE1007.out) | exact HB.out)))); have n6_ := Aside0.mk (blk_below (g := gb990) (o := .cells #[.slice A0_0 l0_0.length c0_0, .slice A0_1 l0_1.length c0_1] 25 (0, 0)) (by (with_reducible repeat (first | refine blk_drewN ?_ _ | refine blk_drew ?_ | refine blk_alloc ?_ _)); refine blk_far ?_ NB990_1007.out _; (with_reducible repeat (first | refine blk_drewN ?_ _ | refine blk_drew ?_ | refine blk_alloc ?_ _)); refine blk_far ?_ NB990_1007.out _; (with_reducible repeat (first | refine blk_drewN ?_ _ | refine blk_drew ?_ | refine blk_alloc ?_ _)); exact BK990.out) hb); have n7_ := Aside0.mk (blk_below (g := gb1007) (o := .cells #[.slice Ao29 t1001.length co29, .slice Ao32 t1004.length co32] 28 (0, 0)) (by (with_reducible repeat (first | refine blk_drewN ?_ _ | refine blk_drew ?_ | refine blk_alloc ?_ _)); refine blk_put (cs := #[.slice Ao29 t1001.length co29, .slice none 0 0]) ?_ 1 _ rfl; (with_reducible repeat (first | refine blk_drewN ?_ _ | refine blk_drew ?_ | refine blk_alloc ?_ _)); refine blk_put (cs := #[.slice none 0 0, .slice none 0 0]) ?_ 0 _ rfl; (with_reducible repeat (first | refine blk_drewN ?_ _ | refine blk_drew ?_ | refine blk_alloc ?_ _)); exact BK1007.out) hb); have n8_ := Aside0.mk (below_step (by repeat (first | (with_reducible first | exact HB.out | apply below_alloc | apply pw_below_drewN | apply below_drew1 | refine below_set ?_ GE990.out | refine below_set ?_ GE1007.out) | exact HB.out)) hb); clear HO994; clear HO997; clear HO1000; clear HO1003; clear HO1006; clear BK990; clear BK1007; clear HB; have HO994 := n0_; have HO997 := n1_; have HO1000 := n2_; have HO1003 := n3_; have HO1006 := n4_; have HO1010 := n5_; have BK990 := n6_; have BK1007 := n7_; have HB := n8_; clear n0_ n1_ n2_ n3_ n4_ n5_ n6_ n7_ n8_; (try clear hb); (try clear hb2); (try clear hk); (try clear hi); (try clear ho0); obtain ⟨Ao34, co34, eo34⟩ := Kd.R_slice HO1010.out; subst eo34; obtain ⟨Ao35, co35, eo35⟩ := Kd.R_slice HO1000.out; subst eo35) | ((with_reducible refine gate_callee (f := 38) rfl ?_); refine goesL_ (some 25) rfl rfl Try.func38 (by kernel_rfl) rfl #[.slice Ao34 t1008.length co34, .slice Ao35 t998.length co35] rfl (by (try simp only [List.map_toArray, List.map_cons, List.map_nil]); first | done | rfl | (simp only [List.length_drop, List.length_take]; rfl)) ?_; (with_reducible refine (laws_eqIntS.calls k _ _ t1008 _ _ t998 true _ ?side1 ?side2 ?side3 ?side4 A11.out).mono ?_); (case side1 => repeat (first | exact (Kd.R_reads' HO1010.out).2.2 | (with_reducible refine Kd.C_alloc ?_ _) | (with_reducible refine Kd.C_drewN ?_ _) | (with_reducible refine Kd.C_drew ?_))); (case side2 => exact (Kd.R_reads' HO1010.out).2.1); (case side3 => repeat (first | exact (Kd.R_reads' HO1000.out).2.2 | (with_reducible refine Kd.C_alloc ?_ _) | (with_reducible refine Kd.C_drewN ?_ _) | (with_reducible refine Kd.C_drew ?_))); (case side4 => exact (Kd.R_reads' HO1000.out).2.1); rintro e w' ⟨rfl, ⟨nd, rfl⟩⟩; refine ⟨_, rfl, ?_⟩))
    iterate 3 (try (rw [drewN_self w33]; generalize hq_ : World.drewN w33 _ = w33; have n0_ : Aside0 (Kd.R (Kd.int .i64) 3 w33 w.heap.size (fun k_ => some k_ ≠ (.slice Ao29 t1001.length co29 : Value).ownBlock ∧ some k_ ≠ (.slice Ao34 t1008.length co34 : Value).ownBlock ∧ some k_ ≠ (.slice Ao23 t992.length co23 : Value).ownBlock) (.slice Ao35 t998.length co35) t998) := ⟨by rw [← hq_]; exact (by (with_reducible repeat (first | apply Kd.R_alloc | apply Kd.R_drewN | apply Kd.R_drew)); exact Kd.R_mono HO1000.out (fun _ hk => ⟨hk.1.2, ⟨hk.2, hk.1.1.2⟩⟩))⟩; have n1_ : Aside0 (Kd.R (Kd.int .i64) 3 w33 w.heap.size (fun k_ => some k_ ≠ (.slice Ao35 t998.length co35 : Value).ownBlock ∧ some k_ ≠ (.slice Ao34 t1008.length co34 : Value).ownBlock ∧ some k_ ≠ (.slice Ao23 t992.length co23 : Value).ownBlock) (.slice Ao29 t1001.length co29) t1001) := ⟨by rw [← hq_]; exact (by (with_reducible repeat (first | apply Kd.R_alloc | apply Kd.R_drewN | apply Kd.R_drew)); exact Kd.R_mono HO1003.out (fun _ hk => ⟨hk.1.2, ⟨hk.2, hk.1.1.2⟩⟩))⟩; have n2_ : Aside0 (Kd.S (Kd.slice 3 (Kd.int .i64)) 22 w33 w.heap.size (fun k_ => some k_ ≠ (.slice Ao35 t998.length co35 : Value).ownBlock ∧ some k_ ≠ (.slice Ao29 t1001.length co29 : Value).ownBlock ∧ some k_ ≠ (.slice Ao34 t1008.length co34 : Value).ownBlock ∧ some k_ ≠ (.slice Ao23 t992.length co23 : Value).ownBlock ∧ some k_ ≠ (.slice Ao24 t995.length co24 : Value).ownBlock) (.slice Ao32 t1004.length co32) t1004) := ⟨by rw [← hq_]; exact (by (with_reducible repeat (first | apply Kd.S_alloc | apply Kd.S_drewN | apply Kd.S_drew)); exact Kd.S_mono HO1006.out (fun _ hk => ⟨hk.1.2, ⟨hk.1.1.1.1, ⟨hk.2, ⟨hk.1.1.1.2, hk.1.1.2⟩⟩⟩⟩))⟩; have n3_ : Aside0 (Kd.R (Kd.int .i64) 3 w33 w.heap.size (fun k_ => some k_ ≠ (.slice Ao35 t998.length co35 : Value).ownBlock ∧ some k_ ≠ (.slice Ao29 t1001.length co29 : Value).ownBlock ∧ some k_ ≠ (.slice Ao23 t992.length co23 : Value).ownBlock) (.slice Ao34 t1008.length co34) t1008) := ⟨by rw [← hq_]; exact (by (with_reducible repeat (first | apply Kd.R_alloc | apply Kd.R_drewN | apply Kd.R_drew)); exact Kd.R_mono HO1010.out (fun _ hk => ⟨hk.1.2, ⟨hk.2, hk.1.1.2⟩⟩))⟩; have n4_ : Aside0 (Kd.R (Kd.int .i64) 3 w33 w.heap.size (fun k_ => some k_ ≠ (.slice Ao35 t998.length co35 : Value).ownBlock ∧ some k_ ≠ (.slice Ao29 t1001.length co29 : Value).ownBlock ∧ some k_ ≠ (.slice Ao34 t1008.length co34 : Value).ownBlock) (.slice Ao23 t992.length co23) t992) := ⟨by rw [← hq_]; exact (by (with_reducible repeat (first | apply Kd.R_alloc | apply Kd.R_drewN | apply Kd.R_drew)); exact Kd.R_mono HO994.out (fun _ hk => ⟨hk.1.1.2, ⟨hk.1.2, hk.2⟩⟩))⟩; have n5_ : Aside0 (Kd.S (Kd.slice 3 (Kd.int .i64)) 22 w33 w.heap.size (fun k_ => some k_ ≠ (.slice Ao35 t998.length co35 : Value).ownBlock ∧ some k_ ≠ (.slice Ao29 t1001.length co29 : Value).ownBlock ∧ some k_ ≠ (.slice Ao32 t1004.length co32 : Value).ownBlock ∧ some k_ ≠ (.slice Ao34 t1008.length co34 : Value).ownBlock ∧ some k_ ≠ (.slice Ao23 t992.length co23 : Value).ownBlock) (.slice Ao24 t995.length co24) t995) := ⟨by rw [← hq_]; exact (by (with_reducible repeat (first | apply Kd.S_alloc | apply Kd.S_drewN | apply Kd.S_drew)); exact Kd.S_mono HO997.out (fun _ hk => ⟨hk.1.1.1.2, ⟨hk.1.1.2, ⟨hk.1.2, ⟨hk.2, hk.1.1.1.1⟩⟩⟩⟩))⟩; have n6_ : Aside0 (w33.heap[gb1007]? = some (.cells #[.slice Ao29 t1001.length co29, .slice Ao32 t1004.length co32] 28 (0, 0))) := ⟨by rw [← hq_]; exact (by (with_reducible repeat (first | refine blk_drewN ?_ _ | refine blk_drew ?_ | refine blk_alloc ?_ _)); exact BK1007.out)⟩; have n7_ : Aside0 (w33.heap[gb990]? = some (.cells #[.slice A0_0 l0_0.length c0_0, .slice A0_1 l0_1.length c0_1] 25 (0, 0))) := ⟨by rw [← hq_]; exact (by (with_reducible repeat (first | refine blk_drewN ?_ _ | refine blk_drew ?_ | refine blk_alloc ?_ _)); exact BK990.out)⟩; have n8_ : Aside0 (Below w.heap.size w w33) := ⟨by rw [← hq_]; exact (by repeat (first | (with_reducible first | exact HB.out | apply below_alloc | apply pw_below_drewN | apply below_drew1 | refine below_set ?_ GE990.out | refine below_set ?_ GE1007.out) | exact HB.out))⟩; clear HO1000 HO1003 HO1006 HO1010 HO994 HO997 BK1007 BK990 HB hq_; have HO1000 := n0_; have HO1003 := n1_; have HO1006 := n2_; have HO1010 := n3_; have HO994 := n4_; have HO997 := n5_; have BK1007 := n6_; have BK990 := n7_; have HB := n8_; clear n0_ n1_ n2_ n3_ n4_ n5_ n6_ n7_ n8_))
    have n0_ := Aside0.mk (Kd.R_drew HO994.out)
    have n1_ := Aside0.mk (Kd.S_drew HO997.out)
    have n2_ := Aside0.mk (Kd.R_drew HO1000.out)
    have n3_ := Aside0.mk (Kd.R_drew HO1003.out)
    have n4_ := Aside0.mk (Kd.S_drew HO1006.out)
    have n5_ := Aside0.mk (Kd.R_drew HO1010.out)
    have n6_ := Aside0.mk (blk_drew BK990.out)
    have n7_ := Aside0.mk (blk_drew BK1007.out)
    have n8_ := Aside0.mk (below_drew1 HB.out)
    clear HO994
    clear HO997
    clear HO1000
    clear HO1003
    clear HO1006
    clear HO1010
    clear BK990
    clear BK1007
    clear HB
    have HO994 := n0_
    have HO997 := n1_
    have HO1000 := n2_
    have HO1003 := n3_
    have HO1006 := n4_
    have HO1010 := n5_
    have BK990 := n6_
    have BK1007 := n7_
    have HB := n8_
    clear n0_ n1_ n2_ n3_ n4_ n5_ n6_ n7_ n8_
    refine start_ (n := 5) (S := fun w' => w'.cell? ⟨gb1007, 0, none⟩ = some (.slice Ao29 t1001.length co29) ∧ w'.cell? ⟨gb1007, 1, none⟩ = some (.slice Ao32 t1004.length co32) ∧ w'.cell? ⟨gb990, 0, none⟩ = some (.slice A0_0 l0_0.length c0_0) ∧ w'.cell? ⟨gb990, 1, none⟩ = some (.slice A0_1 l0_1.length c0_1)) (ds := []) #[false, false, false, false, false] (by kernel_rfl) rfl rfl ⟨(blk_cell BK1007.out 0).trans rfl, (blk_cell BK1007.out 1).trans rfl, (blk_cell BK990.out 0).trans rfl, (blk_cell BK990.out 1).trans rfl⟩ (fun hHeld => ?_)
    generalize w33.drew = w36 at HO994 HO997 HO1000 HO1003 HO1006 HO1010 BK990 BK1007 HB hHeld ⊢
    refine take_ (i := 0) (N := some 27) (v := ?_) (a' := ?_) #[true, false, false, false, false] rfl rfl (by kernel_rfl) (fun _ _ _ h => h) (Or.inl ⟨by rfl, ?_⟩) hHeld ?_ ?_
    rotate_left
    ·rintro w' ⟨s0, s1, s2, s3⟩
     go_simp
     with_reducible rfl
    rotate_left
    ·simp only [Act.put, List.setIfInBounds_toArray, List.set_cons_zero, List.set_cons_succ, i64_w, i32_w]
     rfl
    refine take_ (i := 1) (N := some 28) (v := ?_) (a' := ?_) #[true, true, false, false, false] rfl rfl (by kernel_rfl) (fun _ _ _ h => h) (Or.inl ⟨by rfl, ?_⟩) hHeld ?_ ?_
    rotate_left
    ·rintro w' ⟨s0, s1, s2, s3⟩
     go_simp
     with_reducible rfl
    rotate_left
    ·simp only [Act.put, List.setIfInBounds_toArray, List.set_cons_zero, List.set_cons_succ, i64_w, i32_w]
     rfl
    refine one_ (i := 2) (N := some 29) #[true, true, true, false, false] rfl rfl (by kernel_rfl) (by decide) (fun K hK => ?_)
    refine goes_ Try.func21 (by kernel_rfl) rfl #[.agg #[.slice A0_0 l0_0.length c0_0, .slice A0_1 l0_1.length c0_1]] (by rfl) rfl rfl (by (try simp only [List.map_toArray, List.map_cons, List.map_nil]); first | done | rfl | (simp only [List.length_drop, List.length_take]; rfl)) ?_
    with_reducible refine (laws_toAlgebra.calls k _ _ l0_0 _ _ l0_1 t1012 t1015 _ ?side1 ?side2 ?side3 ?side4 A13.out).mono ?_
    (case side1 => repeat (first | exact (Kd.C_below HR0_0.out HB.out) | (with_reducible refine Kd.C_alloc ?_ _) | (with_reducible refine Kd.C_drewN ?_ _) | (with_reducible refine Kd.C_drew ?_)))
    (case side2 => exact HC0_0.out)
    (case side3 => repeat (first | exact (Kd.C_below HR0_1.out HB.out) | (with_reducible refine Kd.C_alloc ?_ _) | (with_reducible refine Kd.C_drewN ?_ _) | (with_reducible refine Kd.C_drew ?_)))
    (case side4 => exact HC0_1.out)
    rintro e w37 ⟨v1013, v1016, rfl, ho0, ho1, hb⟩
    refine ⟨_, rfl, ?_⟩
    have n0_ := Aside0.mk (Kd.R_elder' (by (with_reducible repeat (first | apply Kd.R_alloc | apply Kd.R_drewN | apply Kd.R_drew)); exact HO994.out) (Kd.R_base ho0) hb)
    have n1_ := Aside0.mk (Kd.S_mono (Kd.S_told (Kd.S_told (Kd.S_old (by (with_reducible repeat (first | apply Kd.S_alloc | apply Kd.S_drewN | apply Kd.S_drew)); exact HO997.out) hb) (Kd.R_base ho0)) (Kd.S_base ho1)) (fun _ h_ => h_.1))
    have n2_ := Aside0.mk (Kd.R_elder' (by (with_reducible repeat (first | apply Kd.R_alloc | apply Kd.R_drewN | apply Kd.R_drew)); exact HO1000.out) (Kd.R_base ho0) hb)
    have n3_ := Aside0.mk (Kd.R_elder' (by (with_reducible repeat (first | apply Kd.R_alloc | apply Kd.R_drewN | apply Kd.R_drew)); exact HO1003.out) (Kd.R_base ho0) hb)
    have n4_ := Aside0.mk (Kd.S_mono (Kd.S_told (Kd.S_told (Kd.S_old (by (with_reducible repeat (first | apply Kd.S_alloc | apply Kd.S_drewN | apply Kd.S_drew)); exact HO1006.out) hb) (Kd.R_base ho0)) (Kd.S_base ho1)) (fun _ h_ => h_.1))
    have n5_ := Aside0.mk (Kd.R_elder' (by (with_reducible repeat (first | apply Kd.R_alloc | apply Kd.R_drewN | apply Kd.R_drew)); exact HO1010.out) (Kd.R_base ho0) hb)
    have n6_ := Aside0.mk (Kd.R_lower (Kd.R_new' (Kd.R_new' (Kd.R_new' (Kd.R_new' ho0 (Kd.R_lt (by (with_reducible repeat (first | apply Kd.R_alloc | apply Kd.R_drewN | apply Kd.R_drew)); exact HO994.out))) (Kd.R_lt (by (with_reducible repeat (first | apply Kd.R_alloc | apply Kd.R_drewN | apply Kd.R_drew)); exact HO1000.out))) (Kd.R_lt (by (with_reducible repeat (first | apply Kd.R_alloc | apply Kd.R_drewN | apply Kd.R_drew)); exact HO1003.out))) (Kd.R_lt (by (with_reducible repeat (first | apply Kd.R_alloc | apply Kd.R_drewN | apply Kd.R_drew)); exact HO1010.out))) (below_size (by repeat (first | (with_reducible first | exact HB.out | apply below_alloc | apply pw_below_drewN | apply below_drew1 | refine below_set ?_ GE990.out | refine below_set ?_ GE1007.out) | exact HB.out))))
    have n7_ := Aside0.mk (Kd.S_lower (Kd.S_new' (Kd.S_new' (Kd.S_new' (Kd.S_new' (Kd.S_new' (Kd.S_new' ho1 (Kd.R_lt (by (with_reducible repeat (first | apply Kd.R_alloc | apply Kd.R_drewN | apply Kd.R_drew)); exact HO994.out))) (Kd.S_lt (by (with_reducible repeat (first | apply Kd.S_alloc | apply Kd.S_drewN | apply Kd.S_drew)); exact HO997.out))) (Kd.R_lt (by (with_reducible repeat (first | apply Kd.R_alloc | apply Kd.R_drewN | apply Kd.R_drew)); exact HO1000.out))) (Kd.R_lt (by (with_reducible repeat (first | apply Kd.R_alloc | apply Kd.R_drewN | apply Kd.R_drew)); exact HO1003.out))) (Kd.S_lt (by (with_reducible repeat (first | apply Kd.S_alloc | apply Kd.S_drewN | apply Kd.S_drew)); exact HO1006.out))) (Kd.R_lt (by (with_reducible repeat (first | apply Kd.R_alloc | apply Kd.R_drewN | apply Kd.R_drew)); exact HO1010.out))) (below_size (by repeat (first | (with_reducible first | exact HB.out | apply below_alloc | apply pw_below_drewN | apply below_drew1 | refine below_set ?_ GE990.out | refine below_set ?_ GE1007.out) | exact HB.out))))
    have n8_ := Aside0.mk (blk_below (g := gb990) (o := .cells #[.slice A0_0 l0_0.length c0_0, .slice A0_1 l0_1.length c0_1] 25 (0, 0)) (by (with_reducible repeat (first | refine blk_drewN ?_ _ | refine blk_drew ?_ | refine blk_alloc ?_ _)); exact BK990.out) hb)
    have n9_ := Aside0.mk (blk_below (g := gb1007) (o := .cells #[.slice Ao29 t1001.length co29, .slice Ao32 t1004.length co32] 28 (0, 0)) (by (with_reducible repeat (first | refine blk_drewN ?_ _ | refine blk_drew ?_ | refine blk_alloc ?_ _)); exact BK1007.out) hb)
    have n10_ := Aside0.mk (below_step (by repeat (first | (with_reducible first | exact HB.out | apply below_alloc | apply pw_below_drewN | apply below_drew1 | refine below_set ?_ GE990.out | refine below_set ?_ GE1007.out) | exact HB.out)) hb)
    clear HO994
    clear HO997
    clear HO1000
    clear HO1003
    clear HO1006
    clear HO1010
    clear BK990
    clear BK1007
    clear HB
    have HO994 := n0_
    have HO997 := n1_
    have HO1000 := n2_
    have HO1003 := n3_
    have HO1006 := n4_
    have HO1010 := n5_
    have HO1014 := n6_
    have HO1017 := n7_
    have BK990 := n8_
    have BK1007 := n9_
    have HB := n10_
    clear n0_ n1_ n2_ n3_ n4_ n5_ n6_ n7_ n8_ n9_ n10_
    (try clear hb)
    (try clear hb2)
    (try clear hk)
    (try clear hi)
    (try clear ho0)
    (try clear ho1)
    obtain ⟨Ao38, co38, eo38⟩ := Kd.R_slice HO1014.out
    (first | subst eo38 | (injection eo38 with f1_ f2_ f3_; have f4_ := f1_.symm; have f5_ := f3_.symm; clear f1_ f2_ f3_; subst f4_; subst f5_))
    obtain ⟨Ao39, co39, eo39⟩ := Kd.S_slice HO1017.out
    (first | subst eo39 | (injection eo39 with f1_ f2_ f3_; have f4_ := f1_.symm; have f5_ := f3_.symm; clear f1_ f2_ f3_; subst f4_; subst f5_))
    refine hK.out _ _ ⟨(blk_cell BK1007.out 0).trans rfl, (blk_cell BK1007.out 1).trans rfl, (blk_cell BK990.out 0).trans rfl, (blk_cell BK990.out 1).trans rfl⟩ (fun hHeld => ?_)
    clear hK K
    refine norm_ (a' := ?_) ?_ ?_
    rotate_left
    ·show Act.put _ (some 29) _ = _
     simp only [Act.put, List.setIfInBounds_toArray, List.set_cons_zero, List.set_cons_succ, i64_w, i32_w]
     rfl
    refine one_ (i := 3) (N := some 30) #[true, true, true, true, false] rfl rfl (by kernel_rfl) (by decide) (fun K hK => ?_)
    refine goes_ Try.func23 (by kernel_rfl) rfl #[.agg #[.slice Ao29 t1001.length co29, .slice Ao32 t1004.length co32], .agg #[.slice Ao38 t1012.length co38, .slice Ao39 t1015.length co39]] (by rfl) rfl rfl (by (try simp only [List.map_toArray, List.map_cons, List.map_nil]); first | done | rfl | (simp only [List.length_drop, List.length_take]; rfl)) ?_
    with_reducible refine (laws_eqAlgebra.calls k _ _ t1001 _ _ t1004 _ _ t1012 _ _ t1015 true _ ?side1 ?side2 ?side3 ?side4 ?side5 ?side6 ?side7 ?side8 A14.out).mono ?_
    (case side1 => repeat (first | exact (Kd.R_reads' HO1003.out).2.2 | (with_reducible refine Kd.C_alloc ?_ _) | (with_reducible refine Kd.C_drewN ?_ _) | (with_reducible refine Kd.C_drew ?_)))
    (case side2 => exact (Kd.R_reads' HO1003.out).2.1)
    (case side3 => repeat (first | exact (Kd.S_reads' HO1006.out).2.2 | (with_reducible refine Kd.C_alloc ?_ _) | (with_reducible refine Kd.C_drewN ?_ _) | (with_reducible refine Kd.C_drew ?_)))
    (case side4 => exact (Kd.S_reads' HO1006.out).2.1)
    (case side5 => repeat (first | exact (Kd.R_reads' HO1014.out).2.2 | (with_reducible refine Kd.C_alloc ?_ _) | (with_reducible refine Kd.C_drewN ?_ _) | (with_reducible refine Kd.C_drew ?_)))
    (case side6 => exact (Kd.R_reads' HO1014.out).2.1)
    (case side7 => repeat (first | exact (Kd.S_reads' HO1017.out).2.2 | (with_reducible refine Kd.C_alloc ?_ _) | (with_reducible refine Kd.C_drewN ?_ _) | (with_reducible refine Kd.C_drew ?_)))
    (case side8 => exact (Kd.S_reads' HO1017.out).2.1)
    rintro e w40 ⟨rfl, hb⟩
    refine ⟨_, rfl, ?_⟩
    have n0_ := Aside0.mk (Kd.R_below (by (with_reducible repeat (first | apply Kd.R_alloc | apply Kd.R_drewN | apply Kd.R_drew)); exact HO994.out) hb)
    have n1_ := Aside0.mk (Kd.S_below (by (with_reducible repeat (first | apply Kd.S_alloc | apply Kd.S_drewN | apply Kd.S_drew)); exact HO997.out) hb)
    have n2_ := Aside0.mk (Kd.R_below (by (with_reducible repeat (first | apply Kd.R_alloc | apply Kd.R_drewN | apply Kd.R_drew)); exact HO1000.out) hb)
    have n3_ := Aside0.mk (Kd.R_below (by (with_reducible repeat (first | apply Kd.R_alloc | apply Kd.R_drewN | apply Kd.R_drew)); exact HO1003.out) hb)
    have n4_ := Aside0.mk (Kd.S_below (by (with_reducible repeat (first | apply Kd.S_alloc | apply Kd.S_drewN | apply Kd.S_drew)); exact HO1006.out) hb)
    have n5_ := Aside0.mk (Kd.R_below (by (with_reducible repeat (first | apply Kd.R_alloc | apply Kd.R_drewN | apply Kd.R_drew)); exact HO1010.out) hb)
    have n6_ := Aside0.mk (Kd.R_below (by (with_reducible repeat (first | apply Kd.R_alloc | apply Kd.R_drewN | apply Kd.R_drew)); exact HO1014.out) hb)
    have n7_ := Aside0.mk (Kd.S_below (by (with_reducible repeat (first | apply Kd.S_alloc | apply Kd.S_drewN | apply Kd.S_drew)); exact HO1017.out) hb)
    have n8_ := Aside0.mk (blk_below (g := gb990) (o := .cells #[.slice A0_0 l0_0.length c0_0, .slice A0_1 l0_1.length c0_1] 25 (0, 0)) (by (with_reducible repeat (first | refine blk_drewN ?_ _ | refine blk_drew ?_ | refine blk_alloc ?_ _)); exact BK990.out) hb)
    have n9_ := Aside0.mk (blk_below (g := gb1007) (o := .cells #[.slice Ao29 t1001.length co29, .slice Ao32 t1004.length co32] 28 (0, 0)) (by (with_reducible repeat (first | refine blk_drewN ?_ _ | refine blk_drew ?_ | refine blk_alloc ?_ _)); exact BK1007.out) hb)
    have n10_ := Aside0.mk (below_step (by repeat (first | (with_reducible first | exact HB.out | apply below_alloc | apply pw_below_drewN | apply below_drew1 | refine below_set ?_ GE990.out | refine below_set ?_ GE1007.out) | exact HB.out)) hb)
    clear HO994
    clear HO997
    clear HO1000
    clear HO1003
    clear HO1006
    clear HO1010
    clear HO1014
    clear HO1017
    clear BK990
    clear BK1007
    clear HB
    have HO994 := n0_
    have HO997 := n1_
    have HO1000 := n2_
    have HO1003 := n3_
    have HO1006 := n4_
    have HO1010 := n5_
    have HO1014 := n6_
    have HO1017 := n7_
    have BK990 := n8_
    have BK1007 := n9_
    have HB := n10_
    clear n0_ n1_ n2_ n3_ n4_ n5_ n6_ n7_ n8_ n9_ n10_
    (try clear hb)
    (try clear hb2)
    (try clear hk)
    (try clear hi)
    refine hK.out _ _ ⟨(blk_cell BK1007.out 0).trans rfl, (blk_cell BK1007.out 1).trans rfl, (blk_cell BK990.out 0).trans rfl, (blk_cell BK990.out 1).trans rfl⟩ (fun hHeld => ?_)
    clear hK K
    refine norm_ (a' := ?_) ?_ ?_
    rotate_left
    ·show Act.put _ (some 30) _ = _
     simp only [Act.put, List.setIfInBounds_toArray, List.set_cons_zero, List.set_cons_succ, i64_w, i32_w]
     rfl
    refine pure_ (i := 4) (N := some 31) (v := ?_) (a' := ?_) #[true, true, true, true, true] rfl rfl (by kernel_rfl) (fun _ _ _ h => h) (Or.inl ⟨by rfl, ?_⟩) ?_ ?_
    rotate_left
    ·intro w'
     go_simp
     with_reducible rfl
    rotate_left
    ·simp only [Act.put, List.setIfInBounds_toArray, List.set_cons_zero, List.set_cons_succ, i64_w, i32_w]
     rfl
    refine done_ (by kernel_rfl) ?_
    have hcz41_0 : w40.cell? ⟨gb1007, 0, none⟩ = some (.slice Ao29 t1001.length co29) := (blk_cell BK1007.out 0).trans rfl
    have hcz41_1 : w40.cell? ⟨gb1007, 1, none⟩ = some (.slice Ao32 t1004.length co32) := (blk_cell BK1007.out 1).trans rfl
    have hfz41_0 := blk_frozen BK1007.out 0
    have hfz41_1 := blk_frozen BK1007.out 1
    go_upto_region 14 with (first | ((with_reducible refine gate_callee (f := 39) rfl ?_); refine goesL_ (some 34) rfl rfl Try.func39 (by kernel_rfl) rfl #[.agg #[.slice Ao29 t1001.length co29, .slice Ao32 t1004.length co32], .int .i64 1] rfl (by (try simp only [List.map_toArray, List.map_cons, List.map_nil]); first | done | rfl | (simp only [List.length_drop, List.length_take]; rfl)) ?_; (with_reducible refine (laws_markAlgebra.calls k (fun k_ => some k_ ≠ (.slice Ao23 t992.length co23 : Value).ownBlock ∧ some k_ ≠ (.slice Ao35 t998.length co35 : Value).ownBlock ∧ some k_ ≠ (.slice Ao34 t1008.length co34 : Value).ownBlock ∧ some k_ ≠ (.slice Ao38 t1012.length co38 : Value).ownBlock ∧ k_ ≠ gb990 ∧ k_ ≠ gb1007 ∧ True) (.slice Ao29 t1001.length co29) t1001 (fun k_ => some k_ ≠ (.slice Ao29 t1001.length co29 : Value).ownBlock ∧ some k_ ≠ (.slice Ao23 t992.length co23 : Value).ownBlock ∧ some k_ ≠ (.slice Ao35 t998.length co35 : Value).ownBlock ∧ some k_ ≠ (.slice Ao34 t1008.length co34 : Value).ownBlock ∧ some k_ ≠ (.slice Ao38 t1012.length co38 : Value).ownBlock ∧ k_ ≠ gb990 ∧ k_ ≠ gb1007 ∧ True) (.slice Ao32 t1004.length co32) t1004 1 t1019 w _ ?side1 ?side2 ?side3 ?side4 A16.out).mono ?_); (case side1 => repeat (first | (with_reducible first | exact HB.out | apply below_alloc | apply pw_below_drewN | apply below_drew1 | refine below_set ?_ GE990.out | refine below_set ?_ GE1007.out) | exact HB.out)); (case side2 => exact Kd.R_mono (Kd.R_types (Kd.R_types (HO1003.out) BK990.out (by decide)) BK1007.out (by decide)) (fun k_ hk_ => by refine ⟨?_, ?_, ?_, ?_, ?_, ?_, trivial⟩ <;> first | exact hk_ | exact hk_.2.1 | exact hk_.2 | exact hk_.2.2.1 | exact hk_.2.2 | exact hk_.2.2.2.1 | exact hk_.2.2.2 | exact hk_.2.2.2.2.1 | exact hk_.2.2.2.2 | exact hk_.1 | exact hk_.1.2.1 | exact hk_.1.2 | exact hk_.1.2.2.1 | exact hk_.1.2.2 | exact hk_.1.2.2.2.1 | exact hk_.1.2.2.2 | exact hk_.1.2.2.2.2.1 | exact hk_.1.2.2.2.2 | exact hk_.1.1 | exact hk_.1.1.2.1 | exact hk_.1.1.2 | exact hk_.1.1.2.2.1 | exact hk_.1.1.2.2 | exact hk_.1.1.2.2.2.1 | exact hk_.1.1.2.2.2 | exact hk_.1.1.2.2.2.2.1 | exact hk_.1.1.2.2.2.2 | exact hk_.1.1.1 | exact hk_.1.1.1.2.1 | exact hk_.1.1.1.2 | exact hk_.1.1.1.2.2.1 | exact hk_.1.1.1.2.2 | exact hk_.1.1.1.2.2.2.1 | exact hk_.1.1.1.2.2.2 | exact hk_.1.1.1.2.2.2.2.1 | exact hk_.1.1.1.2.2.2.2 | exact hk_.1.1.1.1 | exact hk_.1.1.1.1.2.1 | exact hk_.1.1.1.1.2 | exact hk_.1.1.1.1.2.2.1 | exact hk_.1.1.1.1.2.2 | exact hk_.1.1.1.1.2.2.2.1 | exact hk_.1.1.1.1.2.2.2 | exact hk_.1.1.1.1.2.2.2.2.1 | exact hk_.1.1.1.1.2.2.2.2 | exact hk_.1.1.1.1.1 | exact hk_.1.1.1.1.1.2.1 | exact hk_.1.1.1.1.1.2 | exact hk_.1.1.1.1.1.2.2.1 | exact hk_.1.1.1.1.1.2.2 | exact hk_.1.1.1.1.1.2.2.2.1 | exact hk_.1.1.1.1.1.2.2.2 | exact hk_.1.1.1.1.1.2.2.2.2.1 | exact hk_.1.1.1.1.1.2.2.2.2 | exact hk_.1.1.1.1.1.1 | exact hk_.1.1.1.1.1.1.2.1 | exact hk_.1.1.1.1.1.1.2 | exact hk_.1.1.1.1.1.1.2.2.1 | exact hk_.1.1.1.1.1.1.2.2 | exact hk_.1.1.1.1.1.1.2.2.2.1 | exact hk_.1.1.1.1.1.1.2.2.2 | exact hk_.1.1.1.1.1.1.2.2.2.2.1 | exact hk_.1.1.1.1.1.1.2.2.2.2 | exact hk_.1.1.1.1.1.1.1 | exact hk_.1.1.1.1.1.1.1.2.1 | exact hk_.1.1.1.1.1.1.1.2 | exact hk_.1.1.1.1.1.1.1.2.2.1 | exact hk_.1.1.1.1.1.1.1.2.2 | exact hk_.1.1.1.1.1.1.1.2.2.2.1 | exact hk_.1.1.1.1.1.1.1.2.2.2 | exact hk_.1.1.1.1.1.1.1.2.2.2.2.1 | exact hk_.1.1.1.1.1.1.1.2.2.2.2)); (case side3 => exact Kd.S_mono (Kd.S_types (Kd.S_types (HO1006.out) BK990.out (by decide)) BK1007.out (by decide)) (fun k_ hk_ => by refine ⟨?_, ?_, ?_, ?_, ?_, ?_, ?_, trivial⟩ <;> first | exact hk_ | exact hk_.2.1 | exact hk_.2 | exact hk_.2.2.1 | exact hk_.2.2 | exact hk_.2.2.2.1 | exact hk_.2.2.2 | exact hk_.2.2.2.2.1 | exact hk_.2.2.2.2 | exact hk_.1 | exact hk_.1.2.1 | exact hk_.1.2 | exact hk_.1.2.2.1 | exact hk_.1.2.2 | exact hk_.1.2.2.2.1 | exact hk_.1.2.2.2 | exact hk_.1.2.2.2.2.1 | exact hk_.1.2.2.2.2 | exact hk_.1.1 | exact hk_.1.1.2.1 | exact hk_.1.1.2 | exact hk_.1.1.2.2.1 | exact hk_.1.1.2.2 | exact hk_.1.1.2.2.2.1 | exact hk_.1.1.2.2.2 | exact hk_.1.1.2.2.2.2.1 | exact hk_.1.1.2.2.2.2 | exact hk_.1.1.1 | exact hk_.1.1.1.2.1 | exact hk_.1.1.1.2 | exact hk_.1.1.1.2.2.1 | exact hk_.1.1.1.2.2 | exact hk_.1.1.1.2.2.2.1 | exact hk_.1.1.1.2.2.2 | exact hk_.1.1.1.2.2.2.2.1 | exact hk_.1.1.1.2.2.2.2 | exact hk_.1.1.1.1 | exact hk_.1.1.1.1.2.1 | exact hk_.1.1.1.1.2 | exact hk_.1.1.1.1.2.2.1 | exact hk_.1.1.1.1.2.2 | exact hk_.1.1.1.1.2.2.2.1 | exact hk_.1.1.1.1.2.2.2 | exact hk_.1.1.1.1.2.2.2.2.1 | exact hk_.1.1.1.1.2.2.2.2 | exact hk_.1.1.1.1.1 | exact hk_.1.1.1.1.1.2.1 | exact hk_.1.1.1.1.1.2 | exact hk_.1.1.1.1.1.2.2.1 | exact hk_.1.1.1.1.1.2.2 | exact hk_.1.1.1.1.1.2.2.2.1 | exact hk_.1.1.1.1.1.2.2.2 | exact hk_.1.1.1.1.1.2.2.2.2.1 | exact hk_.1.1.1.1.1.2.2.2.2 | exact hk_.1.1.1.1.1.1 | exact hk_.1.1.1.1.1.1.2.1 | exact hk_.1.1.1.1.1.1.2 | exact hk_.1.1.1.1.1.1.2.2.1 | exact hk_.1.1.1.1.1.1.2.2 | exact hk_.1.1.1.1.1.1.2.2.2.1 | exact hk_.1.1.1.1.1.1.2.2.2 | exact hk_.1.1.1.1.1.1.2.2.2.2.1 | exact hk_.1.1.1.1.1.1.2.2.2.2 | exact hk_.1.1.1.1.1.1.1 | exact hk_.1.1.1.1.1.1.1.2.1 | exact hk_.1.1.1.1.1.1.1.2 | exact hk_.1.1.1.1.1.1.1.2.2.1 | exact hk_.1.1.1.1.1.1.1.2.2 | exact hk_.1.1.1.1.1.1.1.2.2.2.1 | exact hk_.1.1.1.1.1.1.1.2.2.2 | exact hk_.1.1.1.1.1.1.1.2.2.2.2.1 | exact hk_.1.1.1.1.1.1.1.2.2.2.2)); (case side4 => exact fun k_ e_ h_ => h_.1 e_.symm); rintro e w42 ⟨rfl, hb, hkp⟩; refine ⟨_, rfl, ?_⟩; have n0_ := Aside0.mk (blk_kept (by (with_reducible repeat (first | refine blk_drewN ?_ _ | refine blk_drew ?_ | refine blk_alloc ?_ _)); exact BK990.out) hkp (fun hs_ => (Or.elim hs_ (fun h_ => (h_.2.2.2.2.1) rfl) (fun h_ => (h_.2.2.2.2.2.1) rfl)))); have n1_ := Aside0.mk (Kd.R_mono (ok' := fun k_ => some k_ ≠ (.slice Ao35 t998.length co35 : Value).ownBlock ∧ some k_ ≠ (.slice Ao34 t1008.length co34 : Value).ownBlock ∧ some k_ ≠ (.slice Ao38 t1012.length co38 : Value).ownBlock) (Kd.R_keptB (Kd.R_tight2 rfl (by (with_reducible repeat (first | apply Kd.R_alloc | apply Kd.R_drewN | apply Kd.R_drew)); exact HO994.out)) hkp (fun k_ hk_ hs_ => (Or.elim hs_ (fun h_ => (h_.1) hk_.1) (fun h_ => (h_.2.1) hk_.1)))) (fun k_ hk_ => (fun hz_ => by refine ⟨?_, ?_, ?_⟩ <;> first | exact hz_ | exact hz_.2.1 | exact hz_.2 | exact hz_.2.2.1 | exact hz_.2.2 | exact hz_.2.2.2.1 | exact hz_.2.2.2 | exact hz_.2.2.2.2.1 | exact hz_.2.2.2.2 | exact hz_.1 | exact hz_.1.2.1 | exact hz_.1.2 | exact hz_.1.2.2.1 | exact hz_.1.2.2 | exact hz_.1.2.2.2.1 | exact hz_.1.2.2.2 | exact hz_.1.2.2.2.2.1 | exact hz_.1.2.2.2.2 | exact hz_.1.1 | exact hz_.1.1.2.1 | exact hz_.1.1.2 | exact hz_.1.1.2.2.1 | exact hz_.1.1.2.2 | exact hz_.1.1.2.2.2.1 | exact hz_.1.1.2.2.2 | exact hz_.1.1.2.2.2.2.1 | exact hz_.1.1.2.2.2.2 | exact hz_.1.1.1 | exact hz_.1.1.1.2.1 | exact hz_.1.1.1.2 | exact hz_.1.1.1.2.2.1 | exact hz_.1.1.1.2.2 | exact hz_.1.1.1.2.2.2.1 | exact hz_.1.1.1.2.2.2 | exact hz_.1.1.1.2.2.2.2.1 | exact hz_.1.1.1.2.2.2.2 | exact hz_.1.1.1.1 | exact hz_.1.1.1.1.2.1 | exact hz_.1.1.1.1.2 | exact hz_.1.1.1.1.2.2.1 | exact hz_.1.1.1.1.2.2 | exact hz_.1.1.1.1.2.2.2.1 | exact hz_.1.1.1.1.2.2.2 | exact hz_.1.1.1.1.2.2.2.2.1 | exact hz_.1.1.1.1.2.2.2.2 | exact hz_.1.1.1.1.1 | exact hz_.1.1.1.1.1.2.1 | exact hz_.1.1.1.1.1.2 | exact hz_.1.1.1.1.1.2.2.1 | exact hz_.1.1.1.1.1.2.2 | exact hz_.1.1.1.1.1.2.2.2.1 | exact hz_.1.1.1.1.1.2.2.2 | exact hz_.1.1.1.1.1.2.2.2.2.1 | exact hz_.1.1.1.1.1.2.2.2.2 | exact hz_.1.1.1.1.1.1 | exact hz_.1.1.1.1.1.1.2.1 | exact hz_.1.1.1.1.1.1.2 | exact hz_.1.1.1.1.1.1.2.2.1 | exact hz_.1.1.1.1.1.1.2.2 | exact hz_.1.1.1.1.1.1.2.2.2.1 | exact hz_.1.1.1.1.1.1.2.2.2 | exact hz_.1.1.1.1.1.1.2.2.2.2.1 | exact hz_.1.1.1.1.1.1.2.2.2.2 | exact hz_.1.1.1.1.1.1.1 | exact hz_.1.1.1.1.1.1.1.2.1 | exact hz_.1.1.1.1.1.1.1.2 | exact hz_.1.1.1.1.1.1.1.2.2.1 | exact hz_.1.1.1.1.1.1.1.2.2 | exact hz_.1.1.1.1.1.1.1.2.2.2.1 | exact hz_.1.1.1.1.1.1.1.2.2.2 | exact hz_.1.1.1.1.1.1.1.2.2.2.2.1 | exact hz_.1.1.1.1.1.1.1.2.2.2.2) hk_.1.2)); have n2_ := Aside0.mk (Kd.R_mono (ok' := fun k_ => some k_ ≠ (.slice Ao23 t992.length co23 : Value).ownBlock ∧ some k_ ≠ (.slice Ao34 t1008.length co34 : Value).ownBlock ∧ some k_ ≠ (.slice Ao38 t1012.length co38 : Value).ownBlock) (Kd.R_keptB (Kd.R_tight2 rfl (by (with_reducible repeat (first | apply Kd.R_alloc | apply Kd.R_drewN | apply Kd.R_drew)); exact HO1000.out)) hkp (fun k_ hk_ hs_ => (Or.elim hs_ (fun h_ => (h_.2.1) hk_.1) (fun h_ => (h_.2.2.1) hk_.1)))) (fun k_ hk_ => (fun hz_ => by refine ⟨?_, ?_, ?_⟩ <;> first | exact hz_ | exact hz_.2.1 | exact hz_.2 | exact hz_.2.2.1 | exact hz_.2.2 | exact hz_.2.2.2.1 | exact hz_.2.2.2 | exact hz_.2.2.2.2.1 | exact hz_.2.2.2.2 | exact hz_.1 | exact hz_.1.2.1 | exact hz_.1.2 | exact hz_.1.2.2.1 | exact hz_.1.2.2 | exact hz_.1.2.2.2.1 | exact hz_.1.2.2.2 | exact hz_.1.2.2.2.2.1 | exact hz_.1.2.2.2.2 | exact hz_.1.1 | exact hz_.1.1.2.1 | exact hz_.1.1.2 | exact hz_.1.1.2.2.1 | exact hz_.1.1.2.2 | exact hz_.1.1.2.2.2.1 | exact hz_.1.1.2.2.2 | exact hz_.1.1.2.2.2.2.1 | exact hz_.1.1.2.2.2.2 | exact hz_.1.1.1 | exact hz_.1.1.1.2.1 | exact hz_.1.1.1.2 | exact hz_.1.1.1.2.2.1 | exact hz_.1.1.1.2.2 | exact hz_.1.1.1.2.2.2.1 | exact hz_.1.1.1.2.2.2 | exact hz_.1.1.1.2.2.2.2.1 | exact hz_.1.1.1.2.2.2.2 | exact hz_.1.1.1.1 | exact hz_.1.1.1.1.2.1 | exact hz_.1.1.1.1.2 | exact hz_.1.1.1.1.2.2.1 | exact hz_.1.1.1.1.2.2 | exact hz_.1.1.1.1.2.2.2.1 | exact hz_.1.1.1.1.2.2.2 | exact hz_.1.1.1.1.2.2.2.2.1 | exact hz_.1.1.1.1.2.2.2.2 | exact hz_.1.1.1.1.1 | exact hz_.1.1.1.1.1.2.1 | exact hz_.1.1.1.1.1.2 | exact hz_.1.1.1.1.1.2.2.1 | exact hz_.1.1.1.1.1.2.2 | exact hz_.1.1.1.1.1.2.2.2.1 | exact hz_.1.1.1.1.1.2.2.2 | exact hz_.1.1.1.1.1.2.2.2.2.1 | exact hz_.1.1.1.1.1.2.2.2.2 | exact hz_.1.1.1.1.1.1 | exact hz_.1.1.1.1.1.1.2.1 | exact hz_.1.1.1.1.1.1.2 | exact hz_.1.1.1.1.1.1.2.2.1 | exact hz_.1.1.1.1.1.1.2.2 | exact hz_.1.1.1.1.1.1.2.2.2.1 | exact hz_.1.1.1.1.1.1.2.2.2 | exact hz_.1.1.1.1.1.1.2.2.2.2.1 | exact hz_.1.1.1.1.1.1.2.2.2.2 | exact hz_.1.1.1.1.1.1.1 | exact hz_.1.1.1.1.1.1.1.2.1 | exact hz_.1.1.1.1.1.1.1.2 | exact hz_.1.1.1.1.1.1.1.2.2.1 | exact hz_.1.1.1.1.1.1.1.2.2 | exact hz_.1.1.1.1.1.1.1.2.2.2.1 | exact hz_.1.1.1.1.1.1.1.2.2.2 | exact hz_.1.1.1.1.1.1.1.2.2.2.2.1 | exact hz_.1.1.1.1.1.1.1.2.2.2.2) hk_.1.2)); have n3_ := Aside0.mk (blk_kept (by (with_reducible repeat (first | refine blk_drewN ?_ _ | refine blk_drew ?_ | refine blk_alloc ?_ _)); exact BK1007.out) hkp (fun hs_ => (Or.elim hs_ (fun h_ => (h_.2.2.2.2.2.1) rfl) (fun h_ => (h_.2.2.2.2.2.2.1) rfl)))); have n4_ := Aside0.mk (Kd.R_mono (ok' := fun k_ => some k_ ≠ (.slice Ao23 t992.length co23 : Value).ownBlock ∧ some k_ ≠ (.slice Ao35 t998.length co35 : Value).ownBlock ∧ some k_ ≠ (.slice Ao38 t1012.length co38 : Value).ownBlock) (Kd.R_keptB (Kd.R_tight2 rfl (by (with_reducible repeat (first | apply Kd.R_alloc | apply Kd.R_drewN | apply Kd.R_drew)); exact HO1010.out)) hkp (fun k_ hk_ hs_ => (Or.elim hs_ (fun h_ => (h_.2.2.1) hk_.1) (fun h_ => (h_.2.2.2.1) hk_.1)))) (fun k_ hk_ => (fun hz_ => by refine ⟨?_, ?_, ?_⟩ <;> first | exact hz_ | exact hz_.2.1 | exact hz_.2 | exact hz_.2.2.1 | exact hz_.2.2 | exact hz_.2.2.2.1 | exact hz_.2.2.2 | exact hz_.2.2.2.2.1 | exact hz_.2.2.2.2 | exact hz_.1 | exact hz_.1.2.1 | exact hz_.1.2 | exact hz_.1.2.2.1 | exact hz_.1.2.2 | exact hz_.1.2.2.2.1 | exact hz_.1.2.2.2 | exact hz_.1.2.2.2.2.1 | exact hz_.1.2.2.2.2 | exact hz_.1.1 | exact hz_.1.1.2.1 | exact hz_.1.1.2 | exact hz_.1.1.2.2.1 | exact hz_.1.1.2.2 | exact hz_.1.1.2.2.2.1 | exact hz_.1.1.2.2.2 | exact hz_.1.1.2.2.2.2.1 | exact hz_.1.1.2.2.2.2 | exact hz_.1.1.1 | exact hz_.1.1.1.2.1 | exact hz_.1.1.1.2 | exact hz_.1.1.1.2.2.1 | exact hz_.1.1.1.2.2 | exact hz_.1.1.1.2.2.2.1 | exact hz_.1.1.1.2.2.2 | exact hz_.1.1.1.2.2.2.2.1 | exact hz_.1.1.1.2.2.2.2 | exact hz_.1.1.1.1 | exact hz_.1.1.1.1.2.1 | exact hz_.1.1.1.1.2 | exact hz_.1.1.1.1.2.2.1 | exact hz_.1.1.1.1.2.2 | exact hz_.1.1.1.1.2.2.2.1 | exact hz_.1.1.1.1.2.2.2 | exact hz_.1.1.1.1.2.2.2.2.1 | exact hz_.1.1.1.1.2.2.2.2 | exact hz_.1.1.1.1.1 | exact hz_.1.1.1.1.1.2.1 | exact hz_.1.1.1.1.1.2 | exact hz_.1.1.1.1.1.2.2.1 | exact hz_.1.1.1.1.1.2.2 | exact hz_.1.1.1.1.1.2.2.2.1 | exact hz_.1.1.1.1.1.2.2.2 | exact hz_.1.1.1.1.1.2.2.2.2.1 | exact hz_.1.1.1.1.1.2.2.2.2 | exact hz_.1.1.1.1.1.1 | exact hz_.1.1.1.1.1.1.2.1 | exact hz_.1.1.1.1.1.1.2 | exact hz_.1.1.1.1.1.1.2.2.1 | exact hz_.1.1.1.1.1.1.2.2 | exact hz_.1.1.1.1.1.1.2.2.2.1 | exact hz_.1.1.1.1.1.1.2.2.2 | exact hz_.1.1.1.1.1.1.2.2.2.2.1 | exact hz_.1.1.1.1.1.1.2.2.2.2 | exact hz_.1.1.1.1.1.1.1 | exact hz_.1.1.1.1.1.1.1.2.1 | exact hz_.1.1.1.1.1.1.1.2 | exact hz_.1.1.1.1.1.1.1.2.2.1 | exact hz_.1.1.1.1.1.1.1.2.2 | exact hz_.1.1.1.1.1.1.1.2.2.2.1 | exact hz_.1.1.1.1.1.1.1.2.2.2 | exact hz_.1.1.1.1.1.1.1.2.2.2.2.1 | exact hz_.1.1.1.1.1.1.1.2.2.2.2) hk_.1.2)); have n5_ := Aside0.mk (Kd.R_mono (ok' := fun k_ => some k_ ≠ (.slice Ao23 t992.length co23 : Value).ownBlock ∧ some k_ ≠ (.slice Ao35 t998.length co35 : Value).ownBlock ∧ some k_ ≠ (.slice Ao34 t1008.length co34 : Value).ownBlock) (Kd.R_keptB (Kd.R_tight2 rfl (by (with_reducible repeat (first | apply Kd.R_alloc | apply Kd.R_drewN | apply Kd.R_drew)); exact HO1014.out)) hkp (fun k_ hk_ hs_ => (Or.elim hs_ (fun h_ => (h_.2.2.2.1) hk_.1) (fun h_ => (h_.2.2.2.2.1) hk_.1)))) (fun k_ hk_ => (fun hz_ => by refine ⟨?_, ?_, ?_⟩ <;> first | exact hz_ | exact hz_.2.1 | exact hz_.2 | exact hz_.2.2.1 | exact hz_.2.2 | exact hz_.2.2.2.1 | exact hz_.2.2.2 | exact hz_.2.2.2.2.1 | exact hz_.2.2.2.2 | exact hz_.1 | exact hz_.1.2.1 | exact hz_.1.2 | exact hz_.1.2.2.1 | exact hz_.1.2.2 | exact hz_.1.2.2.2.1 | exact hz_.1.2.2.2 | exact hz_.1.2.2.2.2.1 | exact hz_.1.2.2.2.2 | exact hz_.1.1 | exact hz_.1.1.2.1 | exact hz_.1.1.2 | exact hz_.1.1.2.2.1 | exact hz_.1.1.2.2 | exact hz_.1.1.2.2.2.1 | exact hz_.1.1.2.2.2 | exact hz_.1.1.2.2.2.2.1 | exact hz_.1.1.2.2.2.2 | exact hz_.1.1.1 | exact hz_.1.1.1.2.1 | exact hz_.1.1.1.2 | exact hz_.1.1.1.2.2.1 | exact hz_.1.1.1.2.2 | exact hz_.1.1.1.2.2.2.1 | exact hz_.1.1.1.2.2.2 | exact hz_.1.1.1.2.2.2.2.1 | exact hz_.1.1.1.2.2.2.2 | exact hz_.1.1.1.1 | exact hz_.1.1.1.1.2.1 | exact hz_.1.1.1.1.2 | exact hz_.1.1.1.1.2.2.1 | exact hz_.1.1.1.1.2.2 | exact hz_.1.1.1.1.2.2.2.1 | exact hz_.1.1.1.1.2.2.2 | exact hz_.1.1.1.1.2.2.2.2.1 | exact hz_.1.1.1.1.2.2.2.2 | exact hz_.1.1.1.1.1 | exact hz_.1.1.1.1.1.2.1 | exact hz_.1.1.1.1.1.2 | exact hz_.1.1.1.1.1.2.2.1 | exact hz_.1.1.1.1.1.2.2 | exact hz_.1.1.1.1.1.2.2.2.1 | exact hz_.1.1.1.1.1.2.2.2 | exact hz_.1.1.1.1.1.2.2.2.2.1 | exact hz_.1.1.1.1.1.2.2.2.2 | exact hz_.1.1.1.1.1.1 | exact hz_.1.1.1.1.1.1.2.1 | exact hz_.1.1.1.1.1.1.2 | exact hz_.1.1.1.1.1.1.2.2.1 | exact hz_.1.1.1.1.1.1.2.2 | exact hz_.1.1.1.1.1.1.2.2.2.1 | exact hz_.1.1.1.1.1.1.2.2.2 | exact hz_.1.1.1.1.1.1.2.2.2.2.1 | exact hz_.1.1.1.1.1.1.2.2.2.2 | exact hz_.1.1.1.1.1.1.1 | exact hz_.1.1.1.1.1.1.1.2.1 | exact hz_.1.1.1.1.1.1.1.2 | exact hz_.1.1.1.1.1.1.1.2.2.1 | exact hz_.1.1.1.1.1.1.1.2.2 | exact hz_.1.1.1.1.1.1.1.2.2.2.1 | exact hz_.1.1.1.1.1.1.1.2.2.2 | exact hz_.1.1.1.1.1.1.1.2.2.2.2.1 | exact hz_.1.1.1.1.1.1.1.2.2.2.2) hk_.1.2)); have n6_ := Aside0.mk (hb); clear BK990; clear HO994; clear HO1000; clear BK1007; clear HO1010; clear HO1014; clear HB; clear HO1003; clear HO1006; clear HO1017; clear HO997; have BK990 := n0_; have HO994 := n1_; have HO1000 := n2_; have BK1007 := n3_; have HO1010 := n4_; have HO1014 := n5_; have HB := n6_; clear n0_ n1_ n2_ n3_ n4_ n5_ n6_; (try clear hb); (try clear hkp)))
    (try simp only [Act.put, List.setIfInBounds_toArray, List.set_cons_zero, List.set_cons_succ])
    go_cut [42] (fun v42 wc => ∃ (kq : Nat) (x42_16 : Bool), v42 = .bool x42_16 ∧ Aside0 (laws_FnExactPartsOf.j0 kq t998 t1008 x42_16 l0_0 l0_1 = some r) ∧ Aside0 (kq ≤ k) ∧ Aside0 (Kd.R (Kd.int .i64) 3 wc w.heap.size (fun k_ => some k_ ≠ ((.slice Ao34 t1008.length co34) : Value).ownBlock) (.slice Ao35 t998.length co35) t998) ∧ Aside0 (Kd.R (Kd.int .i64) 3 wc w.heap.size (fun k_ => some k_ ≠ ((.slice Ao35 t998.length co35) : Value).ownBlock) (.slice Ao34 t1008.length co34) t1008) ∧ Aside0 (wc.heap[gb990]? = some (.cells #[(.slice A0_0 l0_0.length c0_0), (.slice A0_1 l0_1.length c0_1)] 25 (0, 0))) ∧ Aside0 (Below w.heap.size w wc))
    case first =>
     have H := HC17.out
     clear HC17
     by_cases c43 : t1019 < 0
     ·rw [if_pos c43] at H
      have c43b0 : decide (t1019 < 0) = true := decide_eq_true c43
      clear c43
      (first | rw [c43b0] | (simp only [i64_w, i32_w]; rw [c43b0]) | skip)
      have H' := Aside0.mk H
      clear H
      go_wp2
      go_meet
      case rel => exact ⟨_, (true), (by first | rfl | (simp; done) | (simp [*]; done)), H', ⟨by first | omega | exact Nat.le_refl _⟩, ⟨by (with_reducible repeat (first | apply Kd.R_alloc | apply Kd.R_drewN | apply Kd.R_drew)); exact Kd.R_mono HO1000.out (fun _ hk => hk.2.1)⟩, ⟨by (with_reducible repeat (first | apply Kd.R_alloc | apply Kd.R_drewN | apply Kd.R_drew)); exact Kd.R_mono HO1010.out (fun _ hk => hk.2.1)⟩, ⟨by (with_reducible repeat (first | refine blk_drewN ?_ _ | refine blk_drew ?_ | refine blk_alloc ?_ _)); exact BK990.out⟩, ⟨by repeat (first | (with_reducible first | exact HB.out | apply below_alloc | apply pw_below_drewN | apply below_drew1 | refine below_set ?_ GE990.out | refine below_set ?_ GE1007.out) | exact HB.out)⟩⟩
     ·rw [if_neg c43] at H
      have c43b0 : decide (t1019 < 0) = false := decide_eq_false c43
      clear c43
      (first | rw [c43b0] | (simp only [i64_w, i32_w]; rw [c43b0]) | skip)
      replace H := Option.bind_eq_some_iff.mp H
      obtain ⟨t1020, A440, H⟩ := H
      replace H : (laws_FnExactPartsOf.j0 k t998 t1008 (!t1020) l0_0 l0_1) = some r := H
      have A44 := Aside0.mk A440
      clear A440
      have H' := Aside0.mk H
      clear H
      go_wp2_with (first | (go_at_call 38; (with_reducible refine (laws_eqIntS.calls k _ _ t1008 _ _ t998 t1020 _ ?side1 ?side2 ?side3 ?side4 A44.out).mono ?_); (case side1 => repeat (first | exact (Kd.R_reads' HO1010.out).2.2 | (with_reducible refine Kd.C_alloc ?_ _) | (with_reducible refine Kd.C_drewN ?_ _) | (with_reducible refine Kd.C_drew ?_))); (case side2 => exact (Kd.R_reads' HO1010.out).2.1); (case side3 => repeat (first | exact (Kd.R_reads' HO1000.out).2.2 | (with_reducible refine Kd.C_alloc ?_ _) | (with_reducible refine Kd.C_drewN ?_ _) | (with_reducible refine Kd.C_drew ?_))); (case side4 => exact (Kd.R_reads' HO1000.out).2.1); rintro e w' ⟨rfl, ⟨nd, rfl⟩⟩))
      go_meet
      case rel => exact ⟨_, (!t1020), (by first | rfl | (simp; done) | (simp [*]; done)), H', ⟨by first | omega | exact Nat.le_refl _⟩, ⟨by (with_reducible repeat (first | apply Kd.R_alloc | apply Kd.R_drewN | apply Kd.R_drew)); exact Kd.R_mono HO1000.out (fun _ hk => hk.2.1)⟩, ⟨by (with_reducible repeat (first | apply Kd.R_alloc | apply Kd.R_drewN | apply Kd.R_drew)); exact Kd.R_mono HO1010.out (fun _ hk => hk.2.1)⟩, ⟨by (with_reducible repeat (first | refine blk_drewN ?_ _ | refine blk_drew ?_ | refine blk_alloc ?_ _)); exact BK990.out⟩, ⟨by repeat (first | (with_reducible first | exact HB.out | apply below_alloc | apply pw_below_drewN | apply below_drew1 | refine below_set ?_ GE990.out | refine below_set ?_ GE1007.out) | exact HB.out)⟩⟩
    case rest =>
     clear HC17
     try clear c1
     try clear c2
     try clear p2
     try clear c3
     try clear c3b0
     try clear c4
     try clear c5
     try clear c12
     try clear c15
     try clear c17
     try clear c19
     try clear c21
     try clear c23
     try clear c30
     try clear c38
     try clear c39
     try clear c43
     try clear c43b0
     try clear hcz19_0
     try clear hcz19_1
     try clear hcz21_0
     try clear hcz21_1
     try clear hcz26_0
     try clear hcz26_1
     try clear hcz31_0
     try clear hcz31_1
     try clear hcz41_0
     try clear hcz41_1
     try clear hcz5_0
     try clear hcz5_1
     try clear hfz19_0
     try clear hfz19_1
     try clear hfz21_0
     try clear hfz21_1
     try clear hfz26_0
     try clear hfz26_1
     try clear hfz31_0
     try clear hfz31_1
     try clear hfz41_0
     try clear hfz41_1
     try clear hfz5_0
     try clear hfz5_1
     obtain ⟨kq, x42_16, rfl, HA, HJ16, HO_4, HO_6, BK990, HB⟩ := hcut
     cases kq with
     | zero => exact absurd HA.out (by simp [laws_FnExactPartsOf.j0])
     | succ kj16 =>
      have H := HA.out
      clear HA
      simp only [laws_FnExactPartsOf.j0] at H
      by_cases c45 : x42_16 = true
      ·subst c45
       have H1 : (some false) = some r := by rw [if_pos rfl] at H; exact H
       clear H
       have H := H1
       clear H1
       exact absurd (Option.some.inj H) (by rw [hrt.out]; decide)
      ·replace c45 := Bool.eq_false_iff.mpr c45
       subst c45
       have H1 : ((laws_markIntS.f kj16 t1008 1).bind fun bt1021 => ((laws_heldIntS.f kj16 bt1021.2 1).bind fun t1023 => (if t1023 < 0 then (some false) else (if t1023 = bt1021.1 then ((laws_toAlgebra.f kj16 l0_0 l0_1).bind fun bt1024 => ((impl_PartsOf.f kj16 bt1024.1 bt1024.2).bind fun t1030 => ((laws_eqIntS.f kj16 t1030 t998).bind fun t1033 => (if t1033 = true then ((laws_heldIntS.f kj16 bt1021.2 1).bind fun t1034 => (if t1034 < 0 then (some false) else (if t1034 = bt1021.1 then (some true) else (some false)))) else (some false))))) else (some false))))) = some r := by rw [if_neg (show ¬ (false = true) by decide)] at H; exact H
       clear H
       have H := H1
       clear H1
       replace H := Option.bind_eq_some_iff.mp H
       obtain ⟨⟨t1021, t1022⟩, A460, H⟩ := H
       replace H : ((laws_heldIntS.f kj16 t1022 1).bind fun t1023 => (if t1023 < 0 then (some false) else (if t1023 = t1021 then ((laws_toAlgebra.f kj16 l0_0 l0_1).bind fun bt1024 => ((impl_PartsOf.f kj16 bt1024.1 bt1024.2).bind fun t1030 => ((laws_eqIntS.f kj16 t1030 t998).bind fun t1033 => (if t1033 = true then ((laws_heldIntS.f kj16 t1022 1).bind fun t1034 => (if t1034 < 0 then (some false) else (if t1034 = t1021 then (some true) else (some false)))) else (some false))))) else (some false)))) = some r := H
       have A46 := Aside0.mk A460
       clear A460
       replace H := Option.bind_eq_some_iff.mp H
       obtain ⟨t1023, A470, H⟩ := H
       replace H : (if t1023 < 0 then (some false) else (if t1023 = t1021 then ((laws_toAlgebra.f kj16 l0_0 l0_1).bind fun bt1024 => ((impl_PartsOf.f kj16 bt1024.1 bt1024.2).bind fun t1030 => ((laws_eqIntS.f kj16 t1030 t998).bind fun t1033 => (if t1033 = true then ((laws_heldIntS.f kj16 t1022 1).bind fun t1034 => (if t1034 < 0 then (some false) else (if t1034 = t1021 then (some true) else (some false)))) else (some false))))) else (some false))) = some r := H
       have A47 := Aside0.mk A470
       clear A470
       by_cases c48 : t1023 < 0
       ·rw [if_pos c48] at H
        have c48b0 : decide (t1023 < 0) = true := decide_eq_true c48
        clear c48
        exact absurd (Option.some.inj H) (by rw [hrt.out]; decide)
       ·rw [if_neg c48] at H
        have c48b0 : decide (t1023 < 0) = false := decide_eq_false c48
        clear c48
        by_cases c49 : t1023 = t1021
        ·rw [if_pos c49] at H
         have c49b0 : (t1023 == t1021) = true := beq_iff_eq.mpr c49
         have c49b1 : (t1023 != t1021) = false := bne_eq_false_iff_eq.mpr c49
         clear c49
         replace H := Option.bind_eq_some_iff.mp H
         obtain ⟨⟨t1024, t1027⟩, A500, H⟩ := H
         replace H : ((impl_PartsOf.f kj16 t1024 t1027).bind fun t1030 => ((laws_eqIntS.f kj16 t1030 t998).bind fun t1033 => (if t1033 = true then ((laws_heldIntS.f kj16 t1022 1).bind fun t1034 => (if t1034 < 0 then (some false) else (if t1034 = t1021 then (some true) else (some false)))) else (some false)))) = some r := H
         have A50 := Aside0.mk A500
         clear A500
         replace H := Option.bind_eq_some_iff.mp H
         obtain ⟨t1030, A510, H⟩ := H
         replace H : ((laws_eqIntS.f kj16 t1030 t998).bind fun t1033 => (if t1033 = true then ((laws_heldIntS.f kj16 t1022 1).bind fun t1034 => (if t1034 < 0 then (some false) else (if t1034 = t1021 then (some true) else (some false)))) else (some false))) = some r := H
         have A51 := Aside0.mk A510
         clear A510
         replace H := Option.bind_eq_some_iff.mp H
         obtain ⟨t1033, A520, H⟩ := H
         replace H : (if t1033 = true then ((laws_heldIntS.f kj16 t1022 1).bind fun t1034 => (if t1034 < 0 then (some false) else (if t1034 = t1021 then (some true) else (some false)))) else (some false)) = some r := H
         have A52 := Aside0.mk A520
         clear A520
         by_cases c53 : t1033 = true
         ·subst c53
          have H1 : ((laws_heldIntS.f kj16 t1022 1).bind fun t1034 => (if t1034 < 0 then (some false) else (if t1034 = t1021 then (some true) else (some false)))) = some r := by rw [if_pos rfl] at H; exact H
          clear H
          have H := H1
          clear H1
          replace H := Option.bind_eq_some_iff.mp H
          obtain ⟨t1034, A540, H⟩ := H
          replace H : (if t1034 < 0 then (some false) else (if t1034 = t1021 then (some true) else (some false))) = some r := H
          have A54 := Aside0.mk A540
          clear A540
          by_cases c55 : t1034 < 0
          ·rw [if_pos c55] at H
           have c55b0 : decide (t1034 < 0) = true := decide_eq_true c55
           clear c55
           exact absurd (Option.some.inj H) (by rw [hrt.out]; decide)
          ·rw [if_neg c55] at H
           have c55b0 : decide (t1034 < 0) = false := decide_eq_false c55
           clear c55
           by_cases c56 : t1034 = t1021
           ·rw [if_pos c56] at H
            have c56b0 : (t1034 == t1021) = true := beq_iff_eq.mpr c56
            have c56b1 : (t1034 != t1021) = false := bne_eq_false_iff_eq.mpr c56
            clear c56
            obtain rfl := Option.some.inj H
            go_wp2_with (first | ((with_reducible refine gate_callee (f := 40) rfl ?_); refine goesL_ (some 45) rfl rfl Try.func40 (by kernel_rfl) rfl #[.slice Ao34 t1008.length co34, .int .i64 1] rfl (by (try simp only [List.map_toArray, List.map_cons, List.map_nil]); first | done | rfl | (simp only [List.length_drop, List.length_take]; rfl)) ?_; (with_reducible refine (laws_markIntS.calls kj16 (fun k_ => some k_ = (.slice Ao34 t1008.length co34 : Value).ownBlock) (.slice Ao34 t1008.length co34) t1008 1 t1021 t1022 w _ ?side1 ?side2 A46.out).mono ?_); (case side1 => repeat (first | (with_reducible first | exact HB.out | apply below_alloc | apply pw_below_drewN | apply below_drew1 | refine below_set ?_ GE990.out) | exact HB.out)); (case side2 => exact Kd.R_tight rfl HO_6.out); rintro e w57 ⟨rfl, hy0, hb, hkp⟩; refine ⟨_, rfl, ?_⟩; have n0_ := Aside0.mk (Kd.R_mono (ok' := fun k_ => some k_ ≠ (.slice Ao34 t1008.length co34 : Value).ownBlock) (Kd.R_keptB (HO_4.out) hkp (fun k_ hk_ hs_ => (hk_) hs_)) (fun k_ hk_ => hk_.1)); have n1_ := Aside0.mk (Kd.R_reok rfl hy0 (fun k_ e_ => HO_6.out.1 k_ e_)); have n2_ := Aside0.mk (blk_kept (by (with_reducible repeat (first | refine blk_drewN ?_ _ | refine blk_drew ?_ | refine blk_alloc ?_ _)); exact BK990.out) hkp (fun hs_ => (fun e_ => (Kd.R_ne HO_6.out BK990.out (by decide)) e_) hs_)); have n3_ := Aside0.mk (hb); clear HO_4; clear HO_6; clear BK990; clear HB; have HO_4 := n0_; have HO_6 := n1_; have BK990 := n2_; have HB := n3_; clear n0_ n1_ n2_ n3_; (try clear hb); (try clear hkp); (try clear hy0)) | ((with_reducible refine gate_callee (f := 41) rfl ?_); refine goesL_ (some 48) rfl rfl Try.func41 (by kernel_rfl) rfl #[.slice Ao34 t1022.length co34, .int .i64 1] rfl (by (try simp only [List.map_toArray, List.map_cons, List.map_nil]); first | done | (rw [show t1022.length = t1008.length from (Kd.R_reads' HO_6.out).1.symm] <;> rfl) | rfl | (simp only [List.length_drop, List.length_take]; rfl)) ?_; (with_reducible refine (laws_heldIntS.calls kj16 _ _ t1022 1 t1023 _ ?side1 ?side2 A47.out).mono ?_); (case side1 => repeat (first | exact (Kd.R_reads' HO_6.out).2.2 | (with_reducible refine Kd.C_alloc ?_ _) | (with_reducible refine Kd.C_drewN ?_ _) | (with_reducible refine Kd.C_drew ?_))); (case side2 => rw [show t1022.length = t1008.length from (Kd.R_reads' HO_6.out).1.symm]; exact (Kd.R_reads' HO_6.out).2.1); rintro e w' ⟨rfl, ⟨nd, rfl⟩⟩; refine ⟨_, rfl, ?_⟩; have hcz58_0 : w57.cell? ⟨gb990, 0, none⟩ = some (.slice A0_0 l0_0.length c0_0) := (blk_cell BK990.out 0).trans rfl; have hcz58_1 : w57.cell? ⟨gb990, 1, none⟩ = some (.slice A0_1 l0_1.length c0_1) := (blk_cell BK990.out 1).trans rfl; have hfz58_0 := blk_frozen BK990.out 0; have hfz58_1 := blk_frozen BK990.out 1) | ((with_reducible refine gate_callee (f := 21) rfl ?_); refine goesL_ (some 55) rfl rfl Try.func21 (by kernel_rfl) rfl #[.agg #[.slice A0_0 l0_0.length c0_0, .slice A0_1 l0_1.length c0_1]] rfl (by (try simp only [List.map_toArray, List.map_cons, List.map_nil]); first | done | rfl | (simp only [List.length_drop, List.length_take]; rfl)) ?_; (with_reducible refine (laws_toAlgebra.calls kj16 _ _ l0_0 _ _ l0_1 t1024 t1027 _ ?side1 ?side2 ?side3 ?side4 A50.out).mono ?_); (case side1 => repeat (first | exact (Kd.C_below HR0_0.out (by repeat (first | (with_reducible first | exact HB.out | apply below_alloc | apply pw_below_drewN | apply below_drew1 | refine below_set ?_ GE990.out) | exact HB.out))) | (with_reducible refine Kd.C_alloc ?_ _) | (with_reducible refine Kd.C_drewN ?_ _) | (with_reducible refine Kd.C_drew ?_))); (case side2 => exact HC0_0.out); (case side3 => repeat (first | exact (Kd.C_below HR0_1.out (by repeat (first | (with_reducible first | exact HB.out | apply below_alloc | apply pw_below_drewN | apply below_drew1 | refine below_set ?_ GE990.out) | exact HB.out))) | (with_reducible refine Kd.C_alloc ?_ _) | (with_reducible refine Kd.C_drewN ?_ _) | (with_reducible refine Kd.C_drew ?_))); (case side4 => exact HC0_1.out); rintro e w59 ⟨v1025, v1028, rfl, ho0, ho1, hb⟩; refine ⟨_, rfl, ?_⟩; have n0_ := Aside0.mk (Kd.R_elder' (by (with_reducible repeat (first | apply Kd.R_alloc | apply Kd.R_drewN | apply Kd.R_drew)); exact HO_4.out) (Kd.R_base ho0) hb); have n1_ := Aside0.mk (Kd.R_elder' (by (with_reducible repeat (first | apply Kd.R_alloc | apply Kd.R_drewN | apply Kd.R_drew)); exact HO_6.out) (Kd.R_base ho0) hb); have n2_ := Aside0.mk (Kd.R_lower (Kd.R_new' (Kd.R_new' ho0 (Kd.R_lt (by (with_reducible repeat (first | apply Kd.R_alloc | apply Kd.R_drewN | apply Kd.R_drew)); exact HO_4.out))) (Kd.R_lt (by (with_reducible repeat (first | apply Kd.R_alloc | apply Kd.R_drewN | apply Kd.R_drew)); exact HO_6.out))) (below_size (by repeat (first | (with_reducible first | exact HB.out | apply below_alloc | apply pw_below_drewN | apply below_drew1 | refine below_set ?_ GE990.out) | exact HB.out)))); have n3_ := Aside0.mk (Kd.S_lower (Kd.S_new' (Kd.S_new' ho1 (Kd.R_lt (by (with_reducible repeat (first | apply Kd.R_alloc | apply Kd.R_drewN | apply Kd.R_drew)); exact HO_4.out))) (Kd.R_lt (by (with_reducible repeat (first | apply Kd.R_alloc | apply Kd.R_drewN | apply Kd.R_drew)); exact HO_6.out))) (below_size (by repeat (first | (with_reducible first | exact HB.out | apply below_alloc | apply pw_below_drewN | apply below_drew1 | refine below_set ?_ GE990.out) | exact HB.out)))); have n4_ := Aside0.mk (blk_below (g := gb990) (o := .cells #[.slice A0_0 l0_0.length c0_0, .slice A0_1 l0_1.length c0_1] 25 (0, 0)) (by (with_reducible repeat (first | refine blk_drewN ?_ _ | refine blk_drew ?_ | refine blk_alloc ?_ _)); exact BK990.out) hb); have n5_ := Aside0.mk (below_step (by repeat (first | (with_reducible first | exact HB.out | apply below_alloc | apply pw_below_drewN | apply below_drew1 | refine below_set ?_ GE990.out) | exact HB.out)) hb); clear HO_4; clear HO_6; clear BK990; clear HB; have HO_4 := n0_; have HO_6 := n1_; have HO1026 := n2_; have HO1029 := n3_; have BK990 := n4_; have HB := n5_; clear n0_ n1_ n2_ n3_ n4_ n5_; (try clear hb); (try clear hb2); (try clear hk); (try clear hi); (try clear ho0); (try clear ho1); obtain ⟨Ao60, co60, eo60⟩ := Kd.R_slice HO1026.out; subst eo60; obtain ⟨Ao61, co61, eo61⟩ := Kd.S_slice HO1029.out; subst eo61) | ((with_reducible refine gate_callee (f := 55) rfl ?_); refine goesL_ (some 56) rfl rfl Try.func55 (by kernel_rfl) rfl #[.agg #[.slice Ao60 t1024.length co60, .slice Ao61 t1027.length co61]] rfl (by (try simp only [List.map_toArray, List.map_cons, List.map_nil]); first | done | rfl | (simp only [List.length_drop, List.length_take]; rfl)) ?_; (with_reducible refine (impl_PartsOf.calls kj16 _ _ t1024 _ _ t1027 t1030 _ ?side1 ?side2 ?side3 ?side4 A51.out).mono ?_); (case side1 => repeat (first | exact (Kd.R_reads' HO1026.out).2.2 | (with_reducible refine Kd.C_alloc ?_ _) | (with_reducible refine Kd.C_drewN ?_ _) | (with_reducible refine Kd.C_drew ?_))); (case side2 => exact (Kd.R_reads' HO1026.out).2.1); (case side3 => repeat (first | exact (Kd.S_reads' HO1029.out).2.2 | (with_reducible refine Kd.C_alloc ?_ _) | (with_reducible refine Kd.C_drewN ?_ _) | (with_reducible refine Kd.C_drew ?_))); (case side4 => exact (Kd.S_reads' HO1029.out).2.1); rintro e w62 ⟨v1031, rfl, ho0, hb⟩; refine ⟨_, rfl, ?_⟩; have n0_ := Aside0.mk (Kd.R_elder' (by (with_reducible repeat (first | apply Kd.R_alloc | apply Kd.R_drewN | apply Kd.R_drew)); exact HO_4.out) (Kd.R_base ho0) hb); have n1_ := Aside0.mk (Kd.R_elder' (by (with_reducible repeat (first | apply Kd.R_alloc | apply Kd.R_drewN | apply Kd.R_drew)); exact HO_6.out) (Kd.R_base ho0) hb); have n2_ := Aside0.mk (Kd.R_elder' (by (with_reducible repeat (first | apply Kd.R_alloc | apply Kd.R_drewN | apply Kd.R_drew)); exact HO1026.out) (Kd.R_base ho0) hb); have n3_ := Aside0.mk (Kd.S_elder' (by (with_reducible repeat (first | apply Kd.S_alloc | apply Kd.S_drewN | apply Kd.S_drew)); exact HO1029.out) (Kd.R_base ho0) hb); have n4_ := Aside0.mk (Kd.R_lower (Kd.R_new' (Kd.R_new' (Kd.R_new' ho0 (Kd.R_lt (by (with_reducible repeat (first | apply Kd.R_alloc | apply Kd.R_drewN | apply Kd.R_drew)); exact HO_4.out))) (Kd.R_lt (by (with_reducible repeat (first | apply Kd.R_alloc | apply Kd.R_drewN | apply Kd.R_drew)); exact HO_6.out))) (Kd.R_lt (by (with_reducible repeat (first | apply Kd.R_alloc | apply Kd.R_drewN | apply Kd.R_drew)); exact HO1026.out))) (below_size (by repeat (first | (with_reducible first | exact HB.out | apply below_alloc | apply pw_below_drewN | apply below_drew1 | refine below_set ?_ GE990.out) | exact HB.out)))); have n5_ := Aside0.mk (blk_below (g := gb990) (o := .cells #[.slice A0_0 l0_0.length c0_0, .slice A0_1 l0_1.length c0_1] 25 (0, 0)) (by (with_reducible repeat (first | refine blk_drewN ?_ _ | refine blk_drew ?_ | refine blk_alloc ?_ _)); exact BK990.out) hb); have n6_ := Aside0.mk (below_step (by repeat (first | (with_reducible first | exact HB.out | apply below_alloc | apply pw_below_drewN | apply below_drew1 | refine below_set ?_ GE990.out) | exact HB.out)) hb); clear HO_4; clear HO_6; clear HO1026; clear HO1029; clear BK990; clear HB; have HO_4 := n0_; have HO_6 := n1_; have HO1026 := n2_; have HO1029 := n3_; have HO1032 := n4_; have BK990 := n5_; have HB := n6_; clear n0_ n1_ n2_ n3_ n4_ n5_ n6_; (try clear hb); (try clear hb2); (try clear hk); (try clear hi); (try clear ho0); obtain ⟨Ao63, co63, eo63⟩ := Kd.R_slice HO1032.out; subst eo63) | ((with_reducible refine gate_callee (f := 38) rfl ?_); refine goesL_ (some 59) rfl rfl Try.func38 (by kernel_rfl) rfl #[.slice Ao63 t1030.length co63, .slice Ao35 t998.length co35] rfl (by (try simp only [List.map_toArray, List.map_cons, List.map_nil]); first | done | rfl | (simp only [List.length_drop, List.length_take]; rfl)) ?_; (with_reducible refine (laws_eqIntS.calls kj16 _ _ t1030 _ _ t998 true _ ?side1 ?side2 ?side3 ?side4 A52.out).mono ?_); (case side1 => repeat (first | exact (Kd.R_reads' HO1032.out).2.2 | (with_reducible refine Kd.C_alloc ?_ _) | (with_reducible refine Kd.C_drewN ?_ _) | (with_reducible refine Kd.C_drew ?_))); (case side2 => exact (Kd.R_reads' HO1032.out).2.1); (case side3 => repeat (first | exact (Kd.R_reads' HO_4.out).2.2 | (with_reducible refine Kd.C_alloc ?_ _) | (with_reducible refine Kd.C_drewN ?_ _) | (with_reducible refine Kd.C_drew ?_))); (case side4 => exact (Kd.R_reads' HO_4.out).2.1); rintro e w' ⟨rfl, ⟨nd, rfl⟩⟩; refine ⟨_, rfl, ?_⟩) | ((with_reducible refine gate_callee (f := 41) rfl ?_); refine goesL_ (some 63) rfl rfl Try.func41 (by kernel_rfl) rfl #[.slice Ao34 t1022.length co34, .int .i64 1] rfl (by (try simp only [List.map_toArray, List.map_cons, List.map_nil]); first | done | (rw [show t1022.length = t1008.length from (Kd.R_reads' HO_6.out).1.symm] <;> rfl) | rfl | (simp only [List.length_drop, List.length_take]; rfl)) ?_; (with_reducible refine (laws_heldIntS.calls kj16 _ _ t1022 1 t1034 _ ?side1 ?side2 A54.out).mono ?_); (case side1 => repeat (first | exact (Kd.R_reads' HO_6.out).2.2 | (with_reducible refine Kd.C_alloc ?_ _) | (with_reducible refine Kd.C_drewN ?_ _) | (with_reducible refine Kd.C_drew ?_))); (case side2 => rw [show t1022.length = t1008.length from (Kd.R_reads' HO_6.out).1.symm]; exact (Kd.R_reads' HO_6.out).2.1); rintro e w' ⟨rfl, ⟨nd, rfl⟩⟩; refine ⟨_, rfl, ?_⟩))
            go_ret
            exact ⟨by first | rfl | (simp [errW_none, errW_some] <;> rfl) | (simp [*, errW_none, errW_some] <;> rfl), by repeat (first | (with_reducible first | exact HB.out | apply below_alloc | apply pw_below_drewN | apply below_drew1 | refine below_set ?_ GE990.out) | exact HB.out)⟩
           ·rw [if_neg c56] at H
            have c56b0 : (t1034 == t1021) = false := beq_eq_false_iff_ne.mpr c56
            have c56b1 : (t1034 != t1021) = true := bne_iff_ne.mpr c56
            exact absurd (Option.some.inj H) (by rw [hrt.out]; decide)
         ·replace c53 := Bool.eq_false_iff.mpr c53
          subst c53
          have H1 : (some false) = some r := by rw [if_neg (show ¬ (false = true) by decide)] at H; exact H
          clear H
          have H := H1
          clear H1
          exact absurd (Option.some.inj H) (by rw [hrt.out]; decide)
        ·rw [if_neg c49] at H
         have c49b0 : (t1023 == t1021) = false := beq_eq_false_iff_ne.mpr c49
         have c49b1 : (t1023 != t1021) = true := bne_iff_ne.mpr c49
         exact absurd (Option.some.inj H) (by rw [hrt.out]; decide)
   ·replace c15 := Bool.eq_false_iff.mpr c15
    subst c15
    have H1 : (some false) = some r := by rw [if_neg (show ¬ (false = true) by decide)] at H; exact H
    clear H
    have H := H1
    clear H1
    exact absurd (Option.some.inj H) (by rw [hrt.out]; decide)
  ·replace c12 := Bool.eq_false_iff.mpr c12
   subst c12
   have H1 : (some false) = some r := by rw [if_neg (show ¬ (false = true) by decide)] at H; exact H
   clear H
   have H := H1
   clear H1
   exact absurd (Option.some.inj H) (by rw [hrt.out]; decide)

/-- THE ONE PURE STATEMENT of laws_FnExactPartsOf: yours. -/
def laws_FnExactPartsOf.Pure : Prop := ∀ (l0_0 : List Int) (l0_1 : List (List Int)), l0_0.length ≤ maxLen → (∀ x ∈ l0_0, (Lit.int .i64 x).wf = true) → l0_1.length ≤ maxLen → (∀ r ∈ l0_1, r.length ≤ maxLen ∧ ∀ x ∈ r, (Lit.int .i64 x).wf = true) → ∃ k, laws_FnExactPartsOf.f k l0_0 l0_1 = some true
theorem laws_FnExactPartsOf.walk (P : laws_FnExactPartsOf.Pure) (A0_0 : Option Addr) (c0_0 : Nat) (l0_0 : List Int) (A0_1 : Option Addr) (c0_1 : Nat) (l0_1 : List (List Int)) (w : World) (hr0_0 : Kd.C (Kd.int .i64) w A0_0 l0_0.length l0_0) (hc0_0 : l0_0.length ≤ c0_0) (hm0_0 : l0_0.length ≤ maxLen) (hw0_0 : (∀ x ∈ l0_0, (Lit.int .i64 x).wf = true)) (hr0_1 : Kd.C (Kd.slice 3 (Kd.int .i64)) w A0_1 l0_1.length l0_1) (hc0_1 : l0_1.length ≤ c0_1) (hm0_1 : l0_1.length ≤ maxLen) (hw0_1 : (∀ r ∈ l0_1, r.length ≤ maxLen ∧ ∀ x ∈ r, (Lit.int .i64 x).wf = true)) :
  Calls Try.prog 17 #[.agg #[.slice A0_0 l0_0.length c0_0, .slice A0_1 l0_1.length c0_1]] w fun e w' => e = .returned (.bool true) ∧ Below w.heap.size w w' := by
 obtain ⟨k, h⟩ := P l0_0 l0_1 hm0_0 hw0_0 hm0_1 hw0_1
 refine (laws_FnExactPartsOf.calls k _ _ l0_0 _ _ l0_1 true w hr0_0 hc0_0 hr0_1 hc0_1 ⟨rfl⟩ h).mono ?_
 rintro e w' ⟨rfl, hd⟩
 exact ⟨rfl, hd⟩

end Go.Proofs.Ytkndndgladdmcaa.P

-- shrunk
