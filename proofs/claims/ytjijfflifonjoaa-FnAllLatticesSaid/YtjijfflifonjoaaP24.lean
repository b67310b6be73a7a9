-- Printed by this session's wip/print2.py (the kit's print.py, widened) out of the translation. Lean checks it.
import Derived.Test.YtjijfflifonjoaaP0
import Derived.Test.YtjijfflifonjoaaP8
import Derived.Test.YtjijfflifonjoaaP11
namespace Go.Proofs.Ytjijfflifonjoaa.P
open Go.RowKit Go.Proofs.YtjijfflifonjoaaW.PrintWords Go.Proofs.YtjijfflifonjoaaW.PrintLast Go.Proofs.YtjijfflifonjoaaW.PrintMore
attribute [local go_sem] max2_int min2_int max_two min_two max_three min_three max_four min_four   -- for this text's walks alone
set_option linter.unusedVariables false
set_option linter.unusedSimpArgs false

/-! ### cf_latticeAt_1: by hand -/
/-- A number lies in a range. -/
def withinB (a b c : Int) : Bool := decide (a ≥ b) && decide (a ≤ c)
theorem within_eq (a b c : Int) : impl_within.f a b c = some (withinB a b c) := by
 unfold impl_within.f withinB
 by_cases h : a ≥ b <;> simp [h]
/-- What is asked of a closure: called at any number, wherever all that lay in w lies as it was, it answers p; it may draw. -/
def Answers (g : Nat) (lb : Array Value) (p : Int → Bool) (w : World) : Prop :=
 ∀ (W : World) (x : Int), Below w.heap.size w W → Calls Try.prog g (#[.int .i64 x] ++ lb) W fun e w' => e = .returned (.bool (p x)) ∧ ∃ q, w' = W.drewN q
/-- The place of the first number at which p holds, or -1. -/
def fIdx (p : Int → Bool) (l : List Int) : Int := match l.findIdx? p with
 | some i => (i : Int)
 | none => -1
theorem fIdx_hit (p : Int → Bool) (l : List Int) (k : Nat) (hk : k < l.length) (h : p (rd l k) = true) (h0 : ∀ j, j < k → p (rd l j) = false) : fIdx p l = k := by
 have e : l.findIdx? p = some k := by
  rw [List.findIdx?_eq_some_iff_getElem]
  refine ⟨hk, ?_, ?_⟩
  ·simpa [rd, hk] using h
  ·intro j hj
   have := h0 j hj
   have hj' : j < l.length := by omega
   simpa [rd, hj'] using this
 simp [fIdx, e]
theorem fIdx_miss (p : Int → Bool) (l : List Int) (h0 : ∀ j, j < l.length → p (rd l j) = false) : fIdx p l = -1 := by
 have e : l.findIdx? p = none := by
  rw [List.findIdx?_eq_none_iff]
  intro x hx
  obtain ⟨j, hj, rfl⟩ := List.mem_iff_getElem.1 hx
  have := h0 j hj
  simpa [rd, hj] using this
 simp [fIdx, e]
set_option maxHeartbeats 2000000 in
set_option maxRecDepth 100000 in
theorem indexFunc_at (p : Int → Bool) (g : Nat) (lb : Array Value) (eg : ∀ args w, (callFunc g args).run Try.prog w = .ok (.enter g args) w) (A0 : Option Addr) (c0 : Nat) (l0 : List Int) (w : World)
  (hpAt : ∀ (x : Int) (q : Nat), Calls Try.prog g (#[.int .i64 x] ++ lb) (w.drewN q) fun e w' => e = .returned (.bool (p x)) ∧ ∃ q', w' = (w.drewN q).drewN q') (hr : Kd.C (Kd.int .i64) w A0 l0.length l0) (hbig : l0.length ≤ 9223372036854775807) :
  Calls Try.prog 41 #[.slice A0 l0.length c0, .func (.func g) #[] lb] w fun e w' => e = .returned (.int .i64 (fIdx p l0)) ∧ ∃ q, w' = w.drewN q := by
 have HR := Aside0.mk hr
 clear hr
 generalize hn : l0.length = n at HR hbig ⊢
 have HN := Aside0.mk hn
 clear hn
 go_enter Try.func41, Try.ntmps41
 go_wp2
 go_loopg [5, 8] n (fun gg _ s8 wr => ∃ kk q : Nat, kk ≤ n ∧ n - kk ≤ gg ∧ s8 = .int .i64 kk ∧ wr = w.drewN q ∧ Aside0 (∀ j, j < kk → p (rd l0 j) = false))
 case atStart => exact ⟨0, 0, Nat.zero_le _, by omega, rfl, rfl, ⟨fun j hj => absurd hj (Nat.not_lt_zero _)⟩⟩
 case round =>
  obtain ⟨kk, q, hkk, hg, rfl, rfl, ZA⟩ := hrel
  by_cases hlt : kk < n
  ·have hltz : (kk : Int) < (n : Int) := by omega
   obtain ⟨ad, rfl, hcell⟩ := Kd.at_int HR.out (kk : Int) (by omega) (by omega)
   rw [Int.toNat_natCast] at hcell
   generalize hy : rd l0 (kk : Int) = y at hcell
   have B := Aside0.mk hy
   clear hy
   have hcall := hpAt y
   cases hq : p y with
   | true =>
    rw [hq] at hcall
    go_wp2_with (go_at_fn g; refine (hcall _).mono ?_; rintro e w' ⟨rfl, q', rfl⟩)
    go_ret
    refine ⟨?_, _, rfl⟩
    rw [fIdx_hit p l0 kk (by rw [HN.out]; exact hlt) (by rw [B.out]; exact hq) ZA.out]
    rfl
   | false =>
    rw [hq] at hcall
    go_wp2_with (go_at_fn g; refine (hcall _).mono ?_; rintro e w' ⟨rfl, q', rfl⟩)
    go_roundg (n - (kk + 1))
    case measure => omega
    case rel =>
     refine ⟨kk + 1, _, by omega, by omega, by go_num, rfl, ⟨fun j hj => ?_⟩⟩
     by_cases e : j = kk
     ·subst e
      rw [B.out]; exact hq
     ·exact ZA.out j (by omega)
  ·have hltz : ¬ (kk : Int) < (n : Int) := by omega
   have : kk = n := by omega
   subst this
   go_wp2
   go_ret
   refine ⟨?_, q, rfl⟩
   rw [fIdx_miss p l0 (fun j hj => ZA.out j (by rw [HN.out] at hj; exact hj))]
   rfl
theorem indexFunc_any (p : Int → Bool) (g : Nat) (lb : Array Value) (eg : ∀ args w, (callFunc g args).run Try.prog w = .ok (.enter g args) w) (A0 : Option Addr) (c0 : Nat) (l0 : List Int) (w : World)
  (hp : Answers g lb p w) (hr : Kd.C (Kd.int .i64) w A0 l0.length l0) (hbig : l0.length ≤ 9223372036854775807) :
  Calls Try.prog 41 #[.slice A0 l0.length c0, .func (.func g) #[] lb] w fun e w' => e = .returned (.int .i64 (fIdx p l0)) ∧ ∃ q, w' = w.drewN q :=
 indexFunc_at p g lb eg A0 c0 l0 w (fun x q => hp _ x (pw_below_drewN (Below.refl _ w) q)) hr hbig
theorem fIdx_any (p : Int → Bool) (l : List Int) : decide (0 ≤ fIdx p l) = l.any p := by
 unfold fIdx
 cases h : l.findIdx? p with
 | none =>
  have : l.any p = false := by
   rw [List.findIdx?_eq_none_iff] at h
   rw [List.any_eq_false]
   intro x hx
   simp [h x hx]
  rw [this]; decide
 | some i =>
  have : l.any p = true := by
   rw [List.findIdx?_eq_some_iff_getElem] at h
   obtain ⟨hi, hp, _⟩ := h
   rw [List.any_eq_true]
   exact ⟨_, List.getElem_mem hi, hp⟩
  rw [this]; simp
set_option maxHeartbeats 1000000 in
theorem containsFunc_any (p : Int → Bool) (g : Nat) (lb : Array Value) (eg : ∀ args w, (callFunc g args).run Try.prog w = .ok (.enter g args) w) (A0 : Option Addr) (c0 : Nat) (l0 : List Int) (w : World)
  (hp : Answers g lb p w) (hr : Kd.C (Kd.int .i64) w A0 l0.length l0) (hbig : l0.length ≤ 9223372036854775807) :
  Calls Try.prog 36 #[.slice A0 l0.length c0, .func (.func g) #[] lb] w fun e w' => e = .returned (.bool (l0.any p)) ∧ ∃ q, w' = w.drewN q := by
 have HI := Aside0.mk (indexFunc_any p g lb eg A0 c0 l0 w hp hr hbig)
 have HE := Aside0.mk (fIdx_any p l0)
 clear hp hr hbig
 generalize fIdx p l0 = r at HI HE
 generalize l0.any p = b at HE ⊢
 go_enter Try.func36, Try.ntmps36
 go_wp2_with (go_at_call 41; refine HI.out.mono ?_; rintro e w' ⟨rfl, q, rfl⟩)
 go_ret
 exact ⟨by rw [← HE.out]; rfl, q, rfl⟩
def cf_latticeAt_1.f (l0 : List Int) (l1 : List Int) : Option Bool := if l0.length ≤ 9223372036854775807 then some (l0.any (fun x => !(withinB x 0 (wrap64 ((l1.length : Int) - 1))))) else none
theorem cf_latticeAt_1.pred (B : Nat) (A1 : Option Addr) (c1 : Nat) (l1 : List Int) (w : World) (hb : w.heap[B]? = some (.cells #[.slice A1 l1.length c1] 30 (0, 0))) :
  Answers 37 #[.pointer (some ⟨B, 0, none⟩)] (fun x => !(withinB x 0 (wrap64 ((l1.length : Int) - 1)))) w := fun W x hb' => by
 have hB := Aside0.mk (blk_below hb hb')
 have hc0 := (blk_cell hB.out 0).trans rfl
 have hc1 := (blk_cell hB.out 1).trans rfl
 show Calls Try.prog 37 #[.int .i64 x, .pointer (some ⟨B, 0, none⟩)] W _
 go_enter Try.func37, Try.ntmps37
 go_wp2_with (go_at_call 19; refine (impl_within.calls _ _ _ _ _ (within_eq _ _ _)).mono ?_; rintro e w' ⟨rfl, ⟨nd, rfl⟩⟩)
 go_ret
 exact ⟨rfl, nd, rfl⟩
theorem cf_latticeAt_1.calls (A0 : Option Addr) (c0 : Nat) (l0 : List Int) (g1 : Nat) (A1 : Option Addr) (c1 : Nat) (l1 : List Int) (r : Bool) (w : World) (hr0 : Kd.C (Kd.int .i64) w A0 l0.length l0) (hc0 : l0.length ≤ c0) (hr1 : Kd.C (Kd.int .i64) w A1 l1.length l1) (hc1 : l1.length ≤ c1) (hb1 : w.heap[g1]? = some (.cells #[.slice A1 l1.length c1] 30 (0, 0))) (h : cf_latticeAt_1.f l0 l1 = some r) :
  Calls Try.prog 36 #[.slice A0 l0.length c0, .func (.func 37) #[] #[.pointer (some ⟨g1, 0, none⟩)]] w fun e w' => e = .returned (.bool r) ∧ Drawn0 w w' := by
 unfold cf_latticeAt_1.f at h
 by_cases hl : l0.length ≤ 9223372036854775807
 rotate_left
 ·rw [if_neg hl] at h
  exact absurd h (by simp)
 rw [if_pos hl] at h
 obtain rfl := Option.some.inj h
 refine (containsFunc_any _ 37 _ (enters_of Try.func37 (by kernel_rfl) rfl) A0 c0 l0 w (cf_latticeAt_1.pred g1 A1 c1 l1 w hb1) hr0 hl).mono ?_
 rintro e w' ⟨rfl, q, rfl⟩
 exact ⟨rfl, ⟨⟨q, rfl⟩⟩⟩
/-! ### impl_latticeAt: function 27 -/
def impl_latticeAt.f (k : Nat) (l0 : List Int) (l1 : List Int) : Option (Bool) := (impl_ValidLattice.f k l0).bind fun t224 => (if t224 = true then ((cf_latticeAt_1.f l1 l0).bind fun t225 => (some (!t225))) else (some false))
set_option maxHeartbeats 8000000 in
set_option maxRecDepth 100000 in
theorem impl_latticeAt.calls (k : Nat) (A0 : Option Addr) (c0 : Nat) (l0 : List Int) (A1 : Option Addr) (c1 : Nat) (l1 : List Int) (r : Bool) (w : World) (hr0 : Kd.C (Kd.int .i64) w A0 l0.length l0) (hc0 : l0.length ≤ c0) (hr1 : Kd.C (Kd.int .i64) w A1 l1.length l1) (hc1 : l1.length ≤ c1) (h : impl_latticeAt.f k l0 l1 = some r) :
  Calls Try.prog 27 #[.slice A0 l0.length c0, .slice A1 l1.length c1] w fun e w' => e = .returned (.bool r) ∧ Below w.heap.size w w' := by
 have HR0 := ak hr0
 have HC0 := ak hc0
 clear hr0 hc0
 have HR1 := ak hr1
 have HC1 := ak hc1
 clear hr1 hc1
 have HB := ak (Below.refl w.heap.size w)
 have H : ((impl_ValidLattice.f k l0).bind fun t224 => (if t224 = true then ((cf_latticeAt_1.f l1 l0).bind fun t225 => (some (!t225))) else (some false))) = some r := h
 clear h
 replace H := bi H
 obtain ⟨t224, A30, H⟩ := H
 try dsimp only at H
 have A3 := ak A30
 clear A30
 by_cases c4 : t224 = true
 rotate_left
 ·replace c4 := Bool.eq_false_iff.mpr c4
  subst c4
  rw [if_neg (show ¬ (false = true) by decide)] at H
  obtain rfl := Option.some.inj H
  have hmf : ∀ (fn : Fn) (first cap : Array Value) (w : World), (Instr.makeFunc fn first cap).run Try.prog w = .ok (.func fn first cap) w := fun _ _ _ _ => rfl
  go_enter Try.func27, Try.ntmps27
  go_wp2_with (first | ((with_reducible refine gate_dst (N := 2) rfl ?_); refine box_event ?hg (N := 2) ?hd (cs := #[.slice A0 l0.length c0]) (t := 30) ?hr ?_; (case hd => rfl); (case hg => rfl); (case hr => first | (go_simp; done) | (go_simp; rfl)); intro gb223 hg w8 hbox hb; have BK223 := ak (hbox); have GW223 := ak ((by rw [hg]; exact (below_size (bB HB.out)) : w.heap.size ≤ gb223)); have GE223 := ak ((by rw [hg]; exact (below_size (bB HB.out)) : w.heap.size ≤ gb223)); replace HB := ak (below_step (bB HB.out) hb); clear hb hbox hg; have hcz9_0 : w8.cell? ⟨gb223, 0, none⟩ = some (.slice A0 l0.length c0) := (blk_cell BK223.out 0).trans rfl; have hfz9_0 := blk_frozen BK223.out 0) | ((with_reducible refine gate_callee (f := 13) rfl ?_); refine goesL_ (some 6) rfl rfl Try.func13 (by kernel_rfl) rfl #[.slice A0 l0.length c0] rfl (by (try simp only [List.map_toArray, List.map_cons, List.map_nil]); first | done | rfl | (simp only [List.length_drop, List.length_take]; rfl)) ?_; (with_reducible refine (impl_ValidLattice.calls k _ _ l0 false _ ?side1 ?side2 A3.out).mono ?_); (case side1 => exact kC (Kd.C_below HR0.out HB.out)); (case side2 => exact HC0.out); rintro e w' ⟨rfl, ⟨nd, rfl⟩⟩; refine ⟨_, rfl, ?_⟩))
  go_ret
  exact ⟨by first | rfl | (simp [errW_none, errW_some] <;> rfl) | (simp [*, errW_none, errW_some] <;> rfl), by repeat (first | (with_reducible first | exact HB.out | apply below_alloc | apply pw_below_drewN | apply below_drew1 | refine below_set ?_ GE223.out) | exact HB.out)⟩
 subst c4
 rw [if_pos rfl] at H
 replace H := bi H
 obtain ⟨t225, A50, H⟩ := H
 try dsimp only at H
 have A5 := ak A50
 clear A50
 obtain rfl := Option.some.inj H
 have hmf : ∀ (fn : Fn) (first cap : Array Value) (w : World), (Instr.makeFunc fn first cap).run Try.prog w = .ok (.func fn first cap) w := fun _ _ _ _ => rfl
 go_enter Try.func27, Try.ntmps27
 go_wp2_with (first | ((with_reducible refine gate_dst (N := 2) rfl ?_); refine box_event ?hg (N := 2) ?hd (cs := #[.slice A0 l0.length c0]) (t := 30) ?hr ?_; (case hd => rfl); (case hg => rfl); (case hr => first | (go_simp; done) | (go_simp; rfl)); intro gb223 hg w6 hbox hb; have BK223 := ak (hbox); have GW223 := ak ((by rw [hg]; exact (below_size (bB HB.out)) : w.heap.size ≤ gb223)); have GE223 := ak ((by rw [hg]; exact (below_size (bB HB.out)) : w.heap.size ≤ gb223)); replace HB := ak (below_step (bB HB.out) hb); clear hb hbox hg; have hcz7_0 : w6.cell? ⟨gb223, 0, none⟩ = some (.slice A0 l0.length c0) := (blk_cell BK223.out 0).trans rfl; have hfz7_0 := blk_frozen BK223.out 0) | ((with_reducible refine gate_callee (f := 13) rfl ?_); refine goesL_ (some 6) rfl rfl Try.func13 (by kernel_rfl) rfl #[.slice A0 l0.length c0] rfl (by (try simp only [List.map_toArray, List.map_cons, List.map_nil]); first | done | rfl | (simp only [List.length_drop, List.length_take]; rfl)) ?_; (with_reducible refine (impl_ValidLattice.calls k _ _ l0 true _ ?side1 ?side2 A3.out).mono ?_); (case side1 => exact kC (Kd.C_below HR0.out HB.out)); (case side2 => exact HC0.out); rintro e w' ⟨rfl, ⟨nd, rfl⟩⟩; refine ⟨_, rfl, ?_⟩) | (go_at_call 36; (with_reducible refine (cf_latticeAt_1.calls _ _ l1 gb223 A0 c0 l0 t225 _ ?side1 ?side2 ?side3 ?side4 ?side5 A5.out).mono ?_); (case side1 => exact kC (Kd.C_below HR1.out (bB HB.out))); (case side2 => exact HC1.out); (case side3 => exact kC (Kd.C_below HR0.out (bB HB.out))); (case side4 => exact HC0.out); (case side5 => exact (show _ from by (with_reducible repeat (first | refine blk_drewN ?_ _ | refine blk_drew ?_ | refine blk_alloc ?_ _)); exact BK223.out)); rintro e w' ⟨rfl, ⟨nd, rfl⟩⟩))
 go_ret
 exact ⟨by first | rfl | (simp [errW_none, errW_some] <;> rfl) | (simp [*, errW_none, errW_some] <;> rfl), by repeat (first | (with_reducible first | exact HB.out | apply below_alloc | apply pw_below_drewN | apply below_drew1 | refine below_set ?_ GE223.out) | exact HB.out)⟩
end Go.Proofs.Ytjijfflifonjoaa.P

-- shrunk
