-- Printed by this session's wip/print2.py (the kit's print.py, widened) out of the translation. Lean checks it.
import Derived.Test.YtomapoenndlbiaaP0
import Derived.Test.YtomapoenndlbiaaP18
import Derived.Test.YtomapoenndlbiaaP35
namespace Go.Proofs.Ytomapoenndlbiaa.P
open Go.RowKit Go.Proofs.YtomapoenndlbiaaW.PrintWords Go.Proofs.YtomapoenndlbiaaW.PrintLast Go.Proofs.YtomapoenndlbiaaW.PrintMore
attribute [local go_sem] max2_int min2_int max_two min_two max_three min_three max_four min_four   -- for this text's walks alone
set_option linter.unusedVariables false
set_option linter.unusedSimpArgs false

/-! ### df_proper_1: by hand -/
/-- A row out of which numbers are struck: of the first j places the kept ones lie at its head; from place j on it is as it was. -/
structure DelInv (p : Int → Bool) (l : List Int) (i j : Nat) (x : List Int) : Prop where
 len : x.length = l.length
 lt : i < j
 hj : j ≤ l.length
 low : x.take i = (l.take j).filter fun y => !p y
 high : ∀ t, j ≤ t → x[t]? = l[t]?
theorem DelInv.start (p : Int → Bool) (l : List Int) (k : Nat) (hk : k < l.length) (h : p l[k] = true) (h0 : ∀ j, (hj : j < k) → p (l[j]'(by omega)) = false) : DelInv p l k (k + 1) l := by
 refine ⟨rfl, Nat.lt_succ_self _, hk, ?_, fun _ _ => rfl⟩
 rw [List.take_succ_eq_append_getElem hk, List.filter_append, List.filter_eq_self.2]
 ·simp [h]
 ·intro a ha
  obtain ⟨j, hj, rfl⟩ := List.mem_iff_getElem.1 ha
  have hj' : j < k := by simpa using (Nat.lt_of_lt_of_le hj (by simp; omega))
  have := h0 j hj'
  simpa using this
theorem DelInv.skip {p : Int → Bool} {l x : List Int} {i j : Nat} (h : DelInv p l i j x) (hj : j < l.length) (hp : p (rd l j) = true) : DelInv p l i (j + 1) x := by
 have e : rd l j = l[j] := by simp [rd, hj]
 rw [e] at hp
 refine ⟨h.len, by have := h.lt; omega, hj, ?_, fun t ht => h.high t (by omega)⟩
 rw [h.low, List.take_succ_eq_append_getElem hj, List.filter_append]
 simp [hp]
theorem DelInv.keep {p : Int → Bool} {l x : List Int} {i j : Nat} (h : DelInv p l i j x) (hj : j < l.length) (hp : p (rd l j) = false) : DelInv p l (i + 1) (j + 1) (x.set i (rd l j)) := by
 have e : rd l j = l[j] := by simp [rd, hj]
 rw [e] at hp ⊢
 have hl := h.len
 have hlt := h.lt
 refine ⟨by rw [List.length_set]; exact hl, by omega, hj, ?_, fun t ht => ?_⟩
 ·rw [List.take_succ_eq_append_getElem (by rw [List.length_set]; omega), List.take_succ_eq_append_getElem hj, List.filter_append, ← h.low, List.getElem_set_self, List.take_set_of_le (Nat.le_refl _)]
  simp [hp]
 ·rw [List.getElem?_set_ne (by omega)]
  exact h.high t (by omega)
theorem DelInv.at_ {p : Int → Bool} {l x : List Int} {i j : Nat} (h : DelInv p l i j x) : rd x j = rd l j := by
 have := h.high j (Nat.le_refl _)
 simp [rd, List.getD_eq_getElem?_getD, this]
theorem DelInv.done {p : Int → Bool} {l x : List Int} {i : Nat} (h : DelInv p l i l.length x) : x.take i = l.filter fun y => !p y := by
 have := h.low
 rwa [List.take_length] at this
theorem DelInv.count {p : Int → Bool} {l x : List Int} {i : Nat} (h : DelInv p l i l.length x) : (l.filter fun y => !p y).length = i := by
 rw [← h.done, List.length_take, h.len]
 have := h.lt
 omega
theorem fIdx_cases (p : Int → Bool) (l : List Int) : (fIdx p l = -1 ∧ (l.filter fun y => !p y) = l) ∨ ∃ k : Nat, k < l.length ∧ fIdx p l = k ∧ DelInv p l k (k + 1) l := by
 unfold fIdx
 cases h : l.findIdx? p with
 | none =>
  rw [List.findIdx?_eq_none_iff] at h
  exact .inl ⟨rfl, List.filter_eq_self.2 fun a ha => by simp [h a ha]⟩
 | some k =>
  rw [List.findIdx?_eq_some_iff_getElem] at h
  obtain ⟨hk, h1, h2⟩ := h
  exact .inr ⟨k, hk, rfl, DelInv.start p l k hk h1 (fun j hj => by simpa using h2 j hj)⟩
/-- Clearing cells of a row from place i on: what lies ahead stays. -/
theorem clear_row {ok : Nat → Prop} {S : Nat → Prop} {w0 w : World} {g n cap : Nat} (hg : w0.heap.size ≤ g) (hs : S g) : ∀ (m i : Nat) (x : List Int) (W : World), Kd.R (Kd.int .i64) 3 W w0.heap.size ok (.slice (some ⟨g, 0, none⟩) n cap) x → Below w0.heap.size w0 W → Kept w W S →
  ∃ y, Kd.R (Kd.int .i64) 3 (W.setCells g i (List.replicate m (.int .i64 0))) w0.heap.size ok (.slice (some ⟨g, 0, none⟩) n cap) y ∧ y.length = x.length ∧ y.take i = x.take i ∧ Below w0.heap.size w0 (W.setCells g i (List.replicate m (.int .i64 0))) ∧ Kept w (W.setCells g i (List.replicate m (.int .i64 0))) S
 | 0, i, x, W, h, hb, hk => ⟨x, h, rfl, rfl, hb, hk⟩
 | m + 1, i, x, W, h, hb, hk => by
  have hp := Kd.R_putg h (i : Int) 0
  rw [Int.toNat_natCast] at hp
  obtain ⟨y, h1, h2, h3, h4, h5⟩ := clear_row hg hs m (i + 1) (x.set i 0) _ hp.1 (below_set hb hg) (Kept.of_grown hp.2 hk (fun k e => .inl (by injection e with e; exact e ▸ hs)))
  refine ⟨y, h1, by rw [h2, List.length_set], ?_, h4, h5⟩
  have e := congrArg (List.take i) h3
  rw [List.take_take, List.take_take, Nat.min_eq_left (Nat.le_succ i), List.take_set_of_le (Nat.le_refl i)] at e
  exact e
set_option maxHeartbeats 4000000 in
set_option maxRecDepth 100000 in
theorem deleteFunc_any (p : Int → Bool) (g : Nat) (lb : Array Value) (eg : ∀ args w, (callFunc g args).run Try.prog w = .ok (.enter g args) w) (ok : Nat → Prop) (u : Value) (l : List Int) (w0 w : World) (I : World → Prop) (hI0 : I w) (hIq : ∀ W q, I W → I (W.drewN q)) (hIs : ∀ W (j gx : Nat) (v : Value), I W → some gx = u.ownBlock → I (W.setCell ⟨gx, j, none⟩ v))
  (hB : Below w0.heap.size w0 w) (hp : ∀ (W : World) (x : Int), I W → Calls Try.prog g (#[.int .i64 x] ++ lb) W fun e w' => e = .returned (.bool (p x)) ∧ ∃ q, w' = W.drewN q)
  (hr : Kd.R (Kd.int .i64) 3 w w0.heap.size ok u l) (hbig : l.length ≤ 9223372036854775807) :
  Calls Try.prog 53 #[u, .func (.func g) #[] lb] w fun e w' => ∃ v, e = .returned v ∧ Kd.R (Kd.int .i64) 3 w' w0.heap.size ok v (l.filter fun y => !p y) ∧ Below w0.heap.size w0 w' ∧ Kept w w' (fun k => some k = u.ownBlock) := by
 obtain ⟨A, c, rfl⟩ := Kd.R_slice hr
 obtain ⟨_, hc0, hC⟩ := Kd.R_reads' hr
 have HI := Aside0.mk (indexFunc_at p g lb eg A c l w (fun x q => hp _ x (hIq _ q hI0)) hC hbig)
 have HP := Aside0.mk hp
 have IQ := Aside0.mk hIq
 have IS := Aside0.mk hIs
 have II := Aside0.mk hI0
 have HB := Aside0.mk hB
 have HR := Aside0.mk hr
 clear hC hp hB hIq hIs hI0
 rcases fIdx_cases p l with ⟨e1, e2⟩ | ⟨k0, hk0, e1, hI⟩
 ·rw [e1] at HI
  have E2 := Aside0.mk e2
  clear e1 e2 hr
  go_enter Try.func53, Try.ntmps53
  go_wp2_with (go_at_call 77; refine HI.out.mono ?_; rintro e w' ⟨rfl, q, rfl⟩)
  go_ret
  exact ⟨_, rfl, by rw [E2.out]; exact Kd.R_drewN HR.out q, pw_below_drewN HB.out q, Kept.drewN (Kept.refl _ _) q⟩
 ·obtain ⟨g0, cap, eo, gb, gl, cl, HG⟩ := Kd.R_form hr (by omega)
  injection eo with eA _ ec
  subst eA
  subst ec
  rw [e1] at HI
  have GB := Aside0.mk gb
  have I0 := Aside0.mk hI
  clear gb gl HG hr e1 hI
  have hK0 := Aside0.mk hk0
  have hne1 : ((k0 : Int) == -1) = false := beq_eq_false_iff_ne.2 (by omega)
  go_enter Try.func53, Try.ntmps53
  go_wp2_with (go_at_call 77; refine HI.out.mono ?_; rintro e w' ⟨rfl, q, rfl⟩)
  go_loopg [5, 6, 7] l.length (fun gg s5 s6 _ wr => ∃ (i j : Nat) (x : List Int), s5 = .int .i64 i ∧ s6 = .int .i64 j ∧ Aside0 (l.length - j ≤ gg) ∧ Aside0 (DelInv p l i j x) ∧ Aside0 (Kd.R (Kd.int .i64) 3 wr w0.heap.size ok (.slice (some ⟨g0, 0, none⟩) l.length c) x) ∧ Aside0 (Kept w wr (fun k => some k = (Value.slice (some ⟨g0, 0, none⟩) l.length c).ownBlock)) ∧ Aside0 (Below w0.heap.size w0 wr) ∧ Aside0 (I wr))
  case atStart => exact ⟨k0, k0 + 1, l, rfl, by go_num, ⟨by omega⟩, I0, ⟨Kd.R_drewN HR.out q⟩, ⟨Kept.drewN (Kept.refl _ _) q⟩, ⟨pw_below_drewN HB.out q⟩, ⟨IQ.out _ q II.out⟩⟩
  case round =>
   clear HR HB HI I0 II
   obtain ⟨i, j, x, rfl, rfl, HG, HI, HR, HK, HB, II⟩ := hrel
   have hij := HI.out.lt
   have hjn := HI.out.hj
   have hlen := HI.out.len
   by_cases hlt : j < l.length
   ·have hltz : (j : Int) < (l.length : Int) := by omega
    obtain ⟨cj, fj⟩ := Kd.R_celln 0 HR.out (j : Int) (by omega) (by omega)
    obtain ⟨ci, fi⟩ := Kd.R_celln 0 HR.out (i : Int) (by omega) (by omega)
    rw [Int.toNat_natCast] at cj fj ci fi
    have ea : rdOf 0 x (j : Int) = rd l j := HI.out.at_
    rw [ea] at cj
    generalize rdOf 0 x (i : Int) = old at ci
    have hcall := HP.out wr (rd l j) II.out
    generalize hy : rd l j = y at cj hcall
    have Y := Aside0.mk hy
    clear hy ea hk0
    cases hq : p y with
    | false =>
     rw [hq] at hcall
     have Q := Aside0.mk hq
     have HP2 := Aside0.mk (Kd.R_putg HR.out (i : Int) y)
     clear hq
     go_wp2_with (go_at_fn g; refine hcall.mono ?_; rintro e w' ⟨rfl, qq, rfl⟩)
     go_roundg (l.length - (j + 1))
     case measure => have := HG.out; omega
     case rel =>
      have hw := Kd.R_putg (Kd.R_drewN HR.out qq) (i : Int) y
      rw [Int.toNat_natCast] at hw
      refine ⟨i + 1, j + 1, x.set i y, by go_num, by go_num, ⟨by omega⟩, ⟨?_⟩, ⟨hw.1⟩, ⟨Kept.of_grown hw.2 (Kept.drewN HK.out qq) (fun k e => .inl e.symm)⟩, ⟨below_set (pw_below_drewN HB.out qq) GB.out⟩, ⟨IS.out _ _ _ _ (IQ.out _ qq II.out) rfl⟩⟩
      rw [← Y.out]
      exact HI.out.keep hlt (by rw [Y.out]; exact Q.out)
    | true =>
     rw [hq] at hcall
     have Q := Aside0.mk hq
     clear hq
     go_wp2_with (go_at_fn g; refine hcall.mono ?_; rintro e w' ⟨rfl, qq, rfl⟩)
     go_roundg (l.length - (j + 1))
     case measure => have := HG.out; omega
     case rel => exact ⟨i, j + 1, x, rfl, by go_num, ⟨by omega⟩, ⟨HI.out.skip hlt (by rw [Y.out]; exact Q.out)⟩, ⟨Kd.R_drewN HR.out qq⟩, ⟨Kept.drewN HK.out qq⟩, ⟨pw_below_drewN HB.out qq⟩, ⟨IQ.out _ qq II.out⟩⟩
   ·obtain rfl : j = l.length := by omega
    have hltz : ¬ (l.length : Int) < (l.length : Int) := by omega
    have hcl : ∀ ty, (Builtin.clear_ #[22] ty #[.slice (some ⟨g0, 0 + i, none⟩) (l.length - i) (c - i)]).run Try.prog wr = .ok (.tuple #[]) (wr.setCells g0 (0 + i) (List.replicate (l.length - i) (.int .i64 0))) :=
     fun ty => Lib.run_clear_slice wr _ _ ty _ rfl (fun _ => rfl) rfl rfl g0 (0 + i) _ _ (by omega) (fun t ht => by
      have := (Kd.R_celln 0 HR.out ((i + t : Nat) : Int) (by omega) (by omega)).1
      rw [Int.toNat_natCast] at this
      rw [show 0 + i + t = i + t by omega, this]; rfl) (fun t ht => by
      have := (Kd.R_celln 0 HR.out ((i + t : Nat) : Int) (by omega) (by omega)).2
      rw [Int.toNat_natCast] at this
      rw [show 0 + i + t = i + t by omega, this])
    rw [Nat.zero_add] at hcl
    go_wp2
    go_ret
    obtain ⟨y, h1, h2, h3, h4, h5⟩ := clear_row (w := w) GB.out (S := fun k => some k = (Value.slice (some ⟨g0, 0, none⟩) l.length c).ownBlock) rfl (l.length - i) i x wr HR.out HB.out HK.out
    refine ⟨_, rfl, ?_, h4, h5⟩
    have h6 := Kd.R_take h1 (m := i) (by omega)
    rw [h3, HI.out.done] at h6
    exact h6
def df_proper_1.f (l0 : List Int)  : Option (List Int) := if l0.length ≤ 9223372036854775807 ∧ True then some (l0.filter fun y => !((fun x => (Int.tmod (shr .i64 x 0) 2) == 1) y)) else none
set_option maxHeartbeats 4000000 in
set_option maxRecDepth 100000 in
theorem df_proper_1.calls (P0_ : Nat → Prop) (u0_ : Value) (l0 : List Int)   (r : List Int) (w0 w : World) (hB : Below w0.heap.size w0 w) (ho : Kd.R (Kd.int .i64) 3 w w0.heap.size P0_ u0_ l0)   (h : df_proper_1.f l0  = some r) :
  Calls Try.prog 53 #[u0_, .func (.func 80) #[] #[]] w fun e w' => ∃ v0_ : Value, e = .returned (v0_) ∧ Kd.R (Kd.int .i64) 3 w' w0.heap.size (fun k_ => (P0_ k_ ∨ w.heap.size ≤ k_)) v0_ r ∧ Below w0.heap.size w0 w' ∧ Kept w w' (fun k_ => P0_ k_) := by
 unfold df_proper_1.f at h
 by_cases hl : l0.length ≤ 9223372036854775807 ∧ True
 ·rw [if_pos hl] at h
  obtain rfl := Option.some.inj h
  refine (deleteFunc_any (fun x => (Int.tmod (shr .i64 x 0) 2) == 1) 80 _ (enters_of Try.func80 (by kernel_rfl) rfl) P0_ u0_ l0 w0 w (fun _ => True) trivial (fun _ _ _ => trivial) (fun _ _ _ _ _ _ => trivial) hB ?_ ho hl.1).mono ?_
  ·intro W x hI
   show Calls Try.prog 80 #[.int .i64 x] W _
   go_enter Try.func80, Try.ntmps80
   go_wp2_with (go_at_call 81; refine (impl_has.calls x 0 ((Int.tmod (shr .i64 x 0) 2) == 1) _ (by unfold impl_has.f; rw [if_pos (by decide)])).mono ?_; rintro e w' ⟨rfl, ⟨nd, rfl⟩⟩)
   go_ret
   exact ⟨rfl, nd, rfl⟩
  ·rintro e w' ⟨v, rfl, h1, h2, h3⟩
   exact ⟨v, rfl, Kd.R_mono h1 (fun _ hk => .inl hk), h2, Kept.mono h3 (fun k hk => ho.1 k hk.symm)⟩
 ·rw [if_neg hl] at h
  exact absurd h (by simp)


end Go.Proofs.Ytomapoenndlbiaa.P

-- shrunk
