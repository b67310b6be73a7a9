/- Greatest filters: the program and the reference list the same. -/
import Derived.Test.YtomapoenndlbiaaP33
import Derived.Test.YtomapoenndlbiaaP38
import Derived.Test.YtomapoenndlbiaaP39
import Derived.Test.YtomapoenndlbiaaP40
import Derived.Test.YtomapoenndlbiaaMFilts
namespace Go.Proofs.Ytomapoenndlbiaa.M
set_option linter.unusedVariables false
open Go.RowKit Go.Proofs.YtomapoenndlbiaaW.PrintWords Go.Proofs.YtomapoenndlbiaaW.PrintLast Go.Proofs.YtomapoenndlbiaaW.PrintMore Go.Proofs.Ytomapoenndlbiaa.P

/-- A loop over a list that keeps some. -/
theorem ev_filter {α : Type} (F : Nat → List Int → Int → Option α) (L : List Int) (q : Int → Bool) (r : α)
    (h1 : ∀ i, (hi : i < L.length) → ∀ s, s.length ≤ i → ∀ r, (q (rd L (i : Int)) = true → Ev (fun k => F k (s ++ [rd L (i : Int)]) ((i + 1 : Nat) : Int)) r) → (q (rd L (i : Int)) = false → Ev (fun k => F k s ((i + 1 : Nat) : Int)) r) → Ev (fun k => F k s (i : Int)) r)
    (h2 : Ev (fun k => F k (L.filter q) (L.length : Int)) r) : Ev (fun k => F k [] 0) r := by
  refine ev_inv2 F L.length (fun i s => s = (L.take i).filter q) r ?_ (fun s hs => by rw [hs, List.take_length]; exact h2) L.length 0 [] (by omega) (by simp)
  intro i hi s hs k
  subst hs
  have e : (L.take (i + 1)).filter q = (L.take i).filter q ++ (if q L[i] then [L[i]] else []) := by
    rw [List.take_succ_eq_append_getElem hi, List.filter_append]
    congr 1
    cases hq : q L[i] <;> simp [hq]
  refine h1 i hi _ (Nat.le_trans (List.length_filter_le _ _) (by simp; omega)) r (fun hp => k _ ?_) (fun hp => k _ ?_)
  · rw [rd_lt hi] at hp ⊢
    rw [e, hp]
    rfl
  · rw [rd_lt hi] at hp
    rw [e, hp]
    simp
def no0 (v : Int) : Bool := !(v.toNat.testBit 0)
def over (v g : Int) : Bool := g.toNat.testBit 0 || (decide (g = v) || decide (bits .and .i64 g v ≠ v))
def okS (L : List Int) (v : Int) : Bool := no0 v && allN L.length fun j => over v (rd L (j : Int))
def okI (P : List Int) (v : Int) : Bool := !(P.any fun x => (x != v) && (bits .andNot .i64 v x == 0))
def small (L : List Int) : Prop := L.length ≤ 64 ∧ ∀ v, v ∈ L → ∃ F : Nat, F < 64 ∧ v = (F : Int)
theorem and_self_iff {a b : Nat} : a &&& b = b ↔ ∀ z, b.testBit z = true → a.testBit z = true := by
  constructor
  · intro h z hz
    rw [← h, Nat.testBit_and, Bool.and_eq_true] at hz
    exact hz.1
  · intro h
    apply Nat.eq_of_testBit_eq
    intro z
    rw [Nat.testBit_and]
    cases hb : b.testBit z with
    | false => simp
    | true => rw [h z hb]; rfl
theorem okS_eq {L : List Int} (h : small L) {v : Int} (hv : v ∈ L) : okS L v = (okI (L.filter no0) v && no0 v) := by
  obtain ⟨F, hF, rfl⟩ := h.2 v hv
  unfold okS okI
  rw [Bool.and_comm]
  congr 1
  rw [Bool.eq_iff_iff, allN_iff, Bool.not_eq_true', ← Bool.not_eq_true, List.any_eq_true]
  constructor
  · rintro h1 ⟨x, hx, hn⟩
    rw [List.mem_filter] at hx
    obtain ⟨G, hG, rfl⟩ := h.2 x hx.1
    obtain ⟨j, hj, e⟩ := List.mem_iff_getElem.1 hx.1
    have h2 := h1 j hj
    rw [rd_lt hj, e] at h2
    rw [Bool.and_eq_true, bne_iff_ne, beq_iff_eq, andNot0 F G (by omega) (by omega)] at hn
    have h3 := hx.2
    unfold no0 at h3
    unfold over at h2
    rw [Bool.or_eq_true, Bool.or_eq_true, decide_eq_true_eq, decide_eq_true_eq] at h2
    rcases h2 with h2 | h2 | h2
    · rw [h2] at h3
      cases h3
    · exact hn.1 h2
    · refine h2 ?_
      rw [bitsAnd G F (by omega) (by omega), and_self_iff.2 hn.2]
  · intro h1 j hj
    have hm : rd L (j : Int) ∈ L := rd_mem hj
    generalize rd L (j : Int) = g at hm
    obtain ⟨G, hG, rfl⟩ := h.2 g hm
    unfold over
    rw [Bool.or_eq_true, Bool.or_eq_true, decide_eq_true_eq, decide_eq_true_eq]
    refine Classical.byContradiction fun hc => h1 ⟨(G : Int), List.mem_filter.2 ⟨hm, ?_⟩, ?_⟩
    · unfold no0
      rw [Bool.not_eq_true']
      cases e : ((G : Int).toNat.testBit 0) with
      | false => rfl
      | true => exact absurd (.inl e) hc
    · rw [Bool.and_eq_true, bne_iff_ne, beq_iff_eq, andNot0 F G (by omega) (by omega), ← and_self_iff]
      refine ⟨fun e => hc (.inr (.inl e)), Classical.byContradiction fun e => hc (.inr (.inr ?_))⟩
      rw [bitsAnd G F (by omega) (by omega)]
      omega
def greatN (up : List Int) (T : List (List Int)) : List Int := (filtersN up T).filter (okS (filtersN up T))
theorem filters_small {up : List Int} (T : List (List Int)) (h6 : up.length ≤ 6) : small (filtersN up T) := by
  refine ⟨filtersN_len T h6, fun v hv => ?_⟩
  obtain ⟨c, hc, _, rfl⟩ := listN_mem.1 hv
  exact ⟨c, pow64 h6 hc, rfl⟩
theorem filter_small {L : List Int} (h : small L) (q : Int → Bool) : small (L.filter q) :=
  ⟨Nat.le_trans (List.length_filter_le _ _) h.1, fun v hv => h.2 v (List.mem_filter.1 hv).1⟩
theorem great_small {up : List Int} (T : List (List Int)) (h6 : up.length ≤ 6) : small (greatN up T) := filter_small (filters_small T h6) _
theorem great_two {up : List Int} (T : List (List Int)) (h6 : up.length ≤ 6) : greatN up T = ((filtersN up T).filter no0).filter (okI ((filtersN up T).filter no0)) := by
  rw [List.filter_filter]
  exact List.filter_congr fun v hv => okS_eq (filters_small T h6) hv
theorem spec_great_list {L : List Int} (h : small L) {r : List Int} (hr : r = L.filter (okS L)) : Ev (fun k => spec_greatest.l0 k [] L 0) r := by
  subst hr
  have h64 := h.1
  refine ev_filter (fun k s i => spec_greatest.l0 k s L i) L (okS L) _ ?_ ?_
  · intro i hi s hs r k1 k2
    obtain ⟨F, hF, ev⟩ := h.2 _ (rd_mem hi)
    unfold okS at k1 k2
    rw [ev] at k1 k2
    refine Ev.step (fun k => by simp only [spec_greatest.l0]; exact rfl) (Ev.pos (by omega) (Ev.pos (by omega) ?_))
    rw [ev]
    refine Ev.bind (sbit F 0 hF (by omega)) ?_
    have out : ∀ j : Int, (no0 (F : Int) && allN L.length fun j => over (F : Int) (rd L (j : Int))) = false → Ev (fun k => spec_greatest.l1 k s L (i : Int) false j) r := by
      intro j e
      have := k2 e
      refine Ev.step (fun k => by simp only [spec_greatest.l1]; exact rfl) ?_
      rw [w64s hi (by omega)]
      exact Ev.ite' (fun _ => Ev.neg (by decide) this) (fun _ => Ev.neg (by decide) this)
    have e0 : (((if F.testBit 0 then (1 : Int) else 0)) == 0) = no0 (F : Int) := by
      unfold no0
      rw [Int.toNat_natCast]
      cases F.testBit 0 <;> rfl
    rw [e0]
    refine ev_inv2 (fun k b j => spec_greatest.l1 k s L (i : Int) b j) L.length (fun j b => b = (no0 (F : Int) && allN j fun j => over (F : Int) (rd L (j : Int)))) r ?_ ?_ L.length 0 _ (by omega) (by simp [allN])
    · intro j hj b hb kk
      have hS : (no0 (F : Int) && allN (j + 1) fun j => over (F : Int) (rd L (j : Int))) = (b && over (F : Int) (rd L (j : Int))) := by
        rw [hb, Bool.and_assoc]
        congr 1
        unfold allN
        rw [List.range_succ, List.all_append]
        simp
      cases b with
      | false =>
        refine out _ ?_
        rw [Bool.and_eq_false_iff]
        rcases Bool.and_eq_false_iff.1 hb.symm with e | e
        · exact .inl e
        · refine .inr ?_
          rw [← Bool.not_eq_true, allN_iff]
          rw [← Bool.not_eq_true, allN_iff] at e
          exact fun a => e fun x hx => a x (by omega)
      | true =>
        rw [Bool.true_and] at hS
        obtain ⟨G, hG, eg⟩ := h.2 _ (rd_mem hj)
        refine Ev.step (fun k => by simp only [spec_greatest.l1]; exact rfl) (Ev.pos (by omega) (Ev.pos (c := true = true) rfl (Ev.pos (by omega) ?_)))
        rw [ev, eg, w64s hj (by omega)]
        rw [eg] at hS
        generalize (no0 (F : Int) && allN (j + 1) fun j => over (F : Int) (rd L (j : Int))) = z at hS kk
        unfold over at hS
        rw [Int.toNat_natCast] at hS
        refine Ev.bind (sbit G 0 hG (by omega)) ?_
        cases hb0 : G.testBit 0 with
        | true => exact Ev.pos rfl (kk _ (by rw [hS, hb0]; rfl))
        | false =>
          rw [hb0, Bool.false_or] at hS
          refine Ev.neg (by decide) (Ev.pos (by omega) (Ev.pos (by omega) (Ev.ite' (fun e => ?_) (fun e => ?_))))
          · exact kk _ (by rw [hS, decide_eq_true e]; rfl)
          · rw [decide_eq_false e, Bool.false_or] at hS
            refine kk _ ?_
            rw [hS, Bool.eq_iff_iff, bne_iff_ne, decide_eq_true_eq]
    · intro b hb
      cases b with
      | false => exact out _ hb.symm
      | true =>
        refine Ev.step (fun k => by simp only [spec_greatest.l1]; exact rfl) (Ev.neg (by omega) (Ev.pos (c := true = true) rfl (Ev.pos (by omega) (Ev.pos (by omega) (Ev.pos (by omega) ?_)))))
        rw [w64s hi (by omega), ev]
        exact k1 hb.symm
  · exact Ev.step (fun k => by simp only [spec_greatest.l0]; exact rfl) (Ev.neg (by omega) (Ev.some _))
theorem spec_greatest_ev {up : List Int} {T : List (List Int)} (A : Alg up T) : Ev (fun k => spec_greatest.f k up T) (greatN up T) := by
  unfold spec_greatest.f
  exact Ev.bind (spec_filters_ev A) (spec_great_list (filters_small T A.ok.1) rfl)
theorem impl_proper_ev {up : List Int} {T : List (List Int)} (A : Alg up T) : Ev (fun k => impl_proper.f k up T) ((filtersN up T).filter no0) := by
  have h := filters_small T A.ok.1
  have h64 := h.1
  unfold impl_proper.f
  refine Ev.bind (impl_filters_ev A) ?_
  have e : df_proper_1.f (filtersN up T) = some ((filtersN up T).filter no0) := by
    unfold df_proper_1.f
    rw [if_pos ⟨by omega, trivial⟩]
    congr 1
    refine List.filter_congr fun v hv => ?_
    obtain ⟨F, hF, rfl⟩ := h.2 v hv
    have := bit_ask F 0 (by omega)
    rw [show ((0 : Nat) : Int) = 0 from rfl] at this
    unfold no0
    rw [Int.toNat_natCast, ← this]
  exact Ev.bindc e (Ev.some _)
theorem impl_great_list {P : List Int} (h : small P) : Ev (fun k => impl_greatest.l0 k P [] P (P.length : Int) 0) (P.filter (okI P)) := by
  have h64 := h.1
  refine ev_filter (fun k s i => impl_greatest.l0 k P s P (P.length : Int) i) P (okI P) _ ?_ ?_
  · intro i hi s hs r k1 k2
    unfold okI at k1 k2
    refine Ev.step (fun k => by simp only [impl_greatest.l0]; exact rfl) (Ev.pos (by omega) (Ev.pos (by omega) (Ev.pos (by omega) ?_)))
    have e : cf_greatest_1.f P (rd P (i : Int)) = some (P.any fun x => (x != rd P (i : Int)) && (bits .andNot .i64 (rd P (i : Int)) x == 0)) := by
      unfold cf_greatest_1.f
      rw [if_pos (by omega)]
    rw [w64s hi (by omega)]
    refine Ev.bindc e ?_
    cases hb : (P.any fun x => (x != rd P (i : Int)) && (bits .andNot .i64 (rd P (i : Int)) x == 0)) with
    | true => exact Ev.pos rfl (k2 (by rw [hb]; rfl))
    | false => exact Ev.neg (by decide) (Ev.pos (by omega) (k1 (by rw [hb]; rfl)))
  · exact Ev.step (fun k => by simp only [impl_greatest.l0]; exact rfl) (Ev.neg (by omega) (Ev.some _))
theorem impl_greatest_ev {up : List Int} {T : List (List Int)} (A : Alg up T) : Ev (fun k => impl_greatest.f k up T) (greatN up T) := by
  unfold impl_greatest.f
  rw [great_two T A.ok.1]
  exact Ev.bind (impl_proper_ev A) (impl_great_list (filter_small (filters_small T A.ok.1) _))
end Go.Proofs.Ytomapoenndlbiaa.M
