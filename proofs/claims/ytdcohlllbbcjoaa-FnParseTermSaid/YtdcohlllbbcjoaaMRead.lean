/- Texts of terms read: what both programs' readers make of a text, and that both say the same of it. -/
import Derived.Test.YtdcohlllbbcjoaaP19
import Derived.Test.YtdcohlllbbcjoaaP20
import Derived.Test.YtdcohlllbbcjoaaP22
import Derived.Test.YtdcohlllbbcjoaaP23
import Derived.Test.YtdcohlllbbcjoaaP21
import Derived.Test.YtdcohlllbbcjoaaMTm
namespace Go.Proofs.Ytdcohlllbbcjoaa.M
set_option linter.unusedVariables false
open Go.RowKit Go.Proofs.YtdcohlllbbcjoaaW.PrintWords Go.Proofs.YtdcohlllbbcjoaaW.PrintLast Go.Proofs.YtdcohlllbbcjoaaW.PrintMore Go.Proofs.Ytdcohlllbbcjoaa.P

def rdB (rec : List UInt8 → Option (Tm × List UInt8)) (p : Tm × List UInt8) : Option (Tm × List UInt8) :=
  match p.2 with
  | [] => none
  | s :: r => if sig s.toNat = 0 then none else (rec r).bind fun q => match q.2 with
    | [] => none
    | e :: r2 => if e.toNat = 41 then some (.bin (sig s.toNat) p.1 q.1, r2) else none
/-- A term at the head of some bytes, at most f deep, and the bytes behind it. -/
def rdI : Nat → List UInt8 → Option (Tm × List UInt8)
  | 0, _ => none
  | _ + 1, [] => none
  | f + 1, c :: l => if 120 ≤ c.toNat ∧ c.toNat ≤ 122 then some (.leaf ((c.toNat : Int) - 120), l) else if c.toNat = 48 then some (.leaf 10, l) else if c.toNat = 49 then some (.leaf 11, l) else if c.toNat = 45 then (rdI f l).bind fun p => some (.neg p.1, p.2) else if c.toNat = 40 then (rdI f l).bind (rdB (rdI f)) else none
theorem u8_eq {c d : UInt8} (h : c.toNat = d.toNat) : c = d := UInt8.toNat_inj.mp h
theorem sig_ok (b : Int) (h : ¬ sig b = 0) : 13 ≤ sig b ∧ sig b ≤ 16 := by
  rcases sig_range b with e | e
  · exact absurd e h
  · exact e
theorem binC_sig (c : UInt8) (h : ¬ sig c.toNat = 0) : binC (sig c.toNat) = c := by
  unfold sig at h ⊢
  split at h
  · rename_i e
    rw [if_pos e]
    exact (u8_eq (by omega : c.toNat = 38)).symm
  · rename_i e1
    rw [if_neg e1]
    split at h
    · rename_i e
      rw [if_pos e]
      exact (u8_eq (by omega : c.toNat = 124)).symm
    · rename_i e2
      rw [if_neg e2]
      split at h
      · rename_i e
        rw [if_pos e]
        exact (u8_eq (by omega : c.toNat = 42)).symm
      · rename_i e3
        rw [if_neg e3]
        split at h
        · rename_i e
          rw [if_pos e]
          exact (u8_eq (by omega : c.toNat = 62)).symm
        · exact absurd rfl h
theorem sig_binC (x : Int) (h : 13 ≤ x ∧ x ≤ 16) : sig (binC x).toNat = x := by
  have e : x = 13 ∨ x = 14 ∨ x = 15 ∨ x = 16 := by omega
  rcases e with e | e | e | e <;> subst e <;> decide
theorem leafC_up (c : UInt8) (h : 120 ≤ c.toNat ∧ c.toNat ≤ 122) : leafC ((c.toNat : Int) - 120) = c := by
  have e : c.toNat = 120 ∨ c.toNat = 121 ∨ c.toNat = 122 := by omega
  rcases e with e | e | e
  · rw [u8_eq (show c.toNat = (120 : UInt8).toNat from e)]; rfl
  · rw [u8_eq (show c.toNat = (121 : UInt8).toNat from e)]; rfl
  · rw [u8_eq (show c.toNat = (122 : UInt8).toNat from e)]; rfl
theorem rdI_sound : ∀ f l t r, rdI f l = some (t, r) → t.ok ∧ l = t.txt ++ r := by
  intro f
  induction f with
  | zero => intro l t r h; cases h
  | succ f ih =>
    intro l t r h
    cases l with
    | nil => cases h
    | cons c l =>
      unfold rdI at h
      by_cases h1 : 120 ≤ c.toNat ∧ c.toNat ≤ 122
      · rw [if_pos h1] at h
        simp only [Option.some.injEq, Prod.mk.injEq] at h
        obtain ⟨rfl, rfl⟩ := h
        exact ⟨.inl ⟨by omega, by omega⟩, by simp only [Tm.txt, leafC_up c h1]; rfl⟩
      rw [if_neg h1] at h
      by_cases h2 : c.toNat = 48
      · rw [if_pos h2] at h
        simp only [Option.some.injEq, Prod.mk.injEq] at h
        obtain ⟨rfl, rfl⟩ := h
        exact ⟨.inr (.inl rfl), by rw [u8_eq (show c.toNat = (48 : UInt8).toNat from h2)]; rfl⟩
      rw [if_neg h2] at h
      by_cases h3 : c.toNat = 49
      · rw [if_pos h3] at h
        simp only [Option.some.injEq, Prod.mk.injEq] at h
        obtain ⟨rfl, rfl⟩ := h
        exact ⟨.inr (.inr rfl), by rw [u8_eq (show c.toNat = (49 : UInt8).toNat from h3)]; rfl⟩
      rw [if_neg h3] at h
      by_cases h4 : c.toNat = 45
      · rw [if_pos h4] at h
        obtain ⟨⟨p, r1⟩, h5, h⟩ := Option.bind_eq_some_iff.mp h
        simp only [Option.some.injEq, Prod.mk.injEq] at h
        obtain ⟨rfl, rfl⟩ := h
        obtain ⟨a, b⟩ := ih _ _ _ h5
        exact ⟨a, by rw [u8_eq (show c.toNat = (45 : UInt8).toNat from h4), b]; rfl⟩
      rw [if_neg h4] at h
      by_cases h5 : c.toNat = 40
      · rw [if_pos h5] at h
        obtain ⟨⟨p, r1⟩, h6, h⟩ := Option.bind_eq_some_iff.mp h
        obtain ⟨a, b⟩ := ih _ _ _ h6
        unfold rdB at h
        cases r1 with
        | nil => cases h
        | cons s r1 =>
          simp only at h
          by_cases hs : sig s.toNat = 0
          · rw [if_pos hs] at h
            cases h
          rw [if_neg hs] at h
          obtain ⟨⟨q, r2⟩, h7, h⟩ := Option.bind_eq_some_iff.mp h
          obtain ⟨a2, b2⟩ := ih _ _ _ h7
          cases r2 with
          | nil => cases h
          | cons e r2 =>
            simp only at h
            by_cases he : e.toNat = 41
            · rw [if_pos he] at h
              simp only [Option.some.injEq, Prod.mk.injEq] at h
              obtain ⟨rfl, rfl⟩ := h
              refine ⟨⟨sig_ok _ hs, a, a2⟩, ?_⟩
              rw [u8_eq (show c.toNat = (40 : UInt8).toNat from h5), b, b2, u8_eq (show e.toNat = (41 : UInt8).toNat from he)]
              simp only [Tm.txt, binC_sig s hs, List.append_assoc, List.cons_append, List.nil_append]
            · rw [if_neg he] at h
              cases h
      · rw [if_neg h5] at h
        cases h
theorem rdI_whole : ∀ (t : Tm), t.ok → ∀ f r, t.dep ≤ f → rdI f (t.txt ++ r) = some (t, r) := by
  intro t
  induction t with
  | leaf x =>
    intro hok f r hf
    obtain ⟨f, rfl⟩ : ∃ f', f = f' + 1 := ⟨f - 1, by simp only [Tm.dep] at hf; omega⟩
    have hok' : (0 ≤ x ∧ x ≤ 2) ∨ x = 10 ∨ x = 11 := hok
    have e : x = 0 ∨ x = 1 ∨ x = 2 ∨ x = 10 ∨ x = 11 := by omega
    rcases e with e | e | e | e | e <;> subst e <;> rfl
  | neg t ih =>
    intro hok f r hf
    obtain ⟨f, rfl⟩ : ∃ f', f = f' + 1 := ⟨f - 1, by simp only [Tm.dep] at hf; omega⟩
    show rdI (f + 1) (45 :: (t.txt ++ r)) = _
    unfold rdI
    rw [if_neg (by decide), if_neg (by decide), if_neg (by decide), if_pos (by decide), ih hok f r (by simp only [Tm.dep] at hf; omega)]
    rfl
  | bin x a b ha hb =>
    intro hok f r hf
    obtain ⟨hx, oa, ob⟩ := hok
    obtain ⟨f, rfl⟩ : ∃ f', f = f' + 1 := ⟨f - 1, by simp only [Tm.dep] at hf; omega⟩
    have e : (Tm.bin x a b).txt ++ r = 40 :: (a.txt ++ (binC x :: (b.txt ++ (41 :: r)))) := by simp [Tm.txt]
    rw [e]
    unfold rdI
    rw [if_neg (by decide), if_neg (by decide), if_neg (by decide), if_neg (by decide), if_pos (by decide), ha oa f _ (by simp only [Tm.dep] at hf; omega)]
    simp only [Option.bind_some, rdB]
    rw [sig_binC x hx, if_neg (by omega), hb ob f _ (by simp only [Tm.dep] at hf; omega)]
    rfl
theorem Tm.enc_txt (t : Tm) : t.enc.length ≤ t.txt.length := by
  induction t with
  | leaf x => simp [Tm.txt, Tm.enc]
  | neg t ih => simp only [Tm.txt, Tm.enc, List.length_cons]; omega
  | bin x a b ha hb => simp only [Tm.txt, Tm.enc, List.length_cons, List.length_append, List.length_nil]; omega
theorem bs_bt {l r : List UInt8} {c : UInt8} {i : Nat} (h : l.drop i = c :: r) : bt (bs l) (i : Int) = (c.toNat : Int) := by
  have hi : i < l.length := by
    have h2 := congrArg List.length h
    rw [List.length_drop, List.length_cons] at h2
    omega
  rw [List.drop_eq_getElem_cons hi] at h
  injection h with h3 h4
  unfold bt
  rw [dif_pos (by rw [bs_size]; exact hi)]
  exact congrArg (fun x : UInt8 => (x.toNat : Int)) h3
theorem bs_drop (l : List UInt8) (i : Nat) : (bs l).extract i (bs l).size = bs (l.drop i) := by
  apply ByteArray.ext
  rw [bs_size]
  apply Array.ext'
  simp [ByteArray.data_extract, bs]
  exact List.take_of_length_le (by simp)
theorem drop_suffix {α : Type} {l x y : List α} (h : l = x ++ y) : l.drop (l.length - y.length) = y := by
  subst h
  rw [List.length_append, Nat.add_sub_cancel]
  exact List.drop_left
theorem drop_next {α : Type} {l r : List α} {c : α} {i : Nat} (h : l.drop i = c :: r) : i < l.length ∧ l.drop (i + 1) = r := by
  have hi : i < l.length := by
    have h2 := congrArg List.length h
    rw [List.length_drop, List.length_cons] at h2
    omega
  rw [List.drop_eq_getElem_cons hi] at h
  injection h with h3 h4
  exact ⟨hi, h4⟩
/-- The end of what is read, as the reference tells it. -/
def endOf (n : Nat) : Option (Tm × List UInt8) → Int
  | some (_, r) => ((n - r.length : Nat) : Int)
  | none => -1
def encOf (p : List Int) : Option (Tm × List UInt8) → Prop
  | some (t, _) => p = t.enc
  | none => True
theorem ofNat_beq (a b : Nat) : ((a : Int) == (b : Int)) = decide (a = b) := by
  rw [Bool.eq_iff_iff, beq_iff_eq, decide_eq_true_eq]
  omega
theorem ix_up2 {L r n : Nat} (h1 : L - n = r + 1) (h2 : n < L) : n + 1 = L - r := by omega
theorem at_neg (n : Nat) : ¬ ((n : Int) < 0) := by omega
theorem at_pos (n : Nat) : (0 : Int) ≤ (n : Int) := by omega
theorem at_in {L : List UInt8} {n : Nat} (h : n < L.length) : ((n : Int) < ((bs L).size : Int)) := by rw [bs_size]; omega
theorem at_in' {L : List UInt8} {n : Nat} (h : n < L.length) : ¬ ((n : Int) ≥ ((bs L).size : Int)) := by rw [bs_size]; omega
theorem at_out {L : List UInt8} : ((L.length - ([] : List UInt8).length : Nat) : Int) ≥ ((bs L).size : Int) := by rw [bs_size]; exact Int.le_refl _
theorem len_ok {a b : Nat} (ha : a ≤ 5000) (hb : b ≤ 5000) : a + b < 17592186044416 := by omega
theorem len3 {N a b r1 r2 t : Nat} (hN : a + r1 + 1 ≤ N) (h1 : r1 = t + (r2 + 1)) (h2 : b ≤ t) : a + b + 1 ≤ N := by omega
theorem spec_sign (L : List UInt8) (hL : L.length ≤ 1000) (f m : Nat) (ta : Tm) (s : UInt8) (r1 : List UInt8) (p2 : List Int) (hta : ta.enc.length ≤ 1000) (hm1 : L.drop (m + 1) = r1) (hp2 : encOf p2 (rdI f r1)) (hpl2 : p2.length ≤ r1.length)
    (E2 : Ev (fun k => spec_read.f k (bs L) ((m + 1 : Nat) : Int)) (p2, endOf L.length (rdI f r1))) (N : Nat) (hN : ta.enc.length + r1.length + 1 ≤ N) (g : Int) (hg : sig s.toNat = g) (hg0 : g ≠ 0) :
    ∃ p : List Int, encOf p (rdB (rdI f) (ta, s :: r1)) ∧ p.length ≤ N ∧ Ev (fun k => (spec_read.f k (bs L) ((m + 1 : Nat) : Int)).bind fun b => if b.2 < 0 then some (([] : List Int), (-1 : Int)) else if b.2 ≥ ((bs L).size : Int) then some (([] : List Int), (-1)) else if 0 ≤ b.2 then (if b.2 < ((bs L).size : Int) then (if bt (bs L) b.2 = 41 then ((some (([g] : List Int) : List Int)).bind fun y => if y.length + ta.enc.length < 17592186044416 then ((some (y ++ ta.enc : List Int)).bind fun y2 => if y2.length + b.1.length < 17592186044416 then some (y2 ++ b.1, wrap64 (b.2 + 1)) else none) else none) else some (([] : List Int), (-1))) else none) else none) (p, endOf L.length (rdB (rdI f) (ta, s :: r1))) := by
  have e0 : rdB (rdI f) (ta, s :: r1) = (rdI f r1).bind fun q => match q.2 with
    | [] => none
    | e :: r2 => if e.toNat = 41 then some (.bin g ta q.1, r2) else none := by
    unfold rdB
    simp only [hg]
    rw [if_neg hg0]
  rw [e0]
  cases hr2 : rdI f r1 with
  | none =>
    rw [hr2] at E2
    exact ⟨[], trivial, Nat.zero_le _, Ev.bind E2 (Ev.pos (show (-1 : Int) < 0 by decide) (Ev.some _))⟩
  | some q2 =>
    obtain ⟨tb, r2⟩ := q2
    rw [hr2] at E2 hp2
    obtain rfl : p2 = tb.enc := hp2
    obtain ⟨ob, sb⟩ := rdI_sound _ _ _ _ hr2
    have sbl := congrArg List.length sb
    rw [List.length_append] at sbl
    have etb := tb.enc_txt
    have hend2 : endOf L.length (some (tb, r2)) = ((L.length - r2.length : Nat) : Int) := rfl
    rw [hend2] at E2
    simp only [Option.bind_some]
    cases r2 with
    | nil =>
      exact ⟨[], trivial, Nat.zero_le _, Ev.bind E2 (Ev.neg (at_neg _) (Ev.pos at_out (Ev.some _)))⟩
    | cons e r2 =>
      have hn : L.drop (L.length - (e :: r2).length) = e :: r2 := drop_suffix (x := L.take (m + 1) ++ tb.txt) (by rw [List.append_assoc, ← sb, ← hm1, List.take_append_drop])
      generalize hnn : L.length - (e :: r2).length = n at hn E2
      obtain ⟨hnlt, hn1⟩ := drop_next hn
      have hbn := bs_bt hn
      have hwn : wrap64 ((n : Int) + 1) = ((n + 1 : Nat) : Int) := w64s hnlt (Nat.le_trans hL (by decide))
      rw [List.length_cons] at sbl
      have hnn' := congrArg List.length hn
      rw [List.length_drop, List.length_cons] at hnn'
      clear hnn
      simp only
      by_cases he : e.toNat = 41
      · rw [if_pos he]
        have hb1 : tb.enc.length ≤ 1000 := Nat.le_trans hpl2 (by rw [← hm1, List.length_drop]; exact Nat.le_trans (Nat.sub_le _ _) hL)
        refine ⟨(Tm.bin g ta tb).enc, rfl, ?_, Ev.bind E2 (Ev.neg (at_neg n) (Ev.neg (at_in' hnlt) (Ev.pos (at_pos n) (Ev.pos (at_in hnlt) (Ev.pos ?_ (Ev.bind (Ev.some _) (Ev.pos ?_ (Ev.bind (Ev.some _) (Ev.pos ?_ (Ev.eq (Ev.some _) ?_))))))))))⟩
        · simp only [Tm.enc, List.length_cons, List.length_append]
          exact len3 hN sbl etb
        · show bt (bs L) (n : Int) = 41
          rw [hbn, he]
          rfl
        · exact len_ok (show 1 ≤ 5000 by decide) (Nat.le_trans hta (by decide))
        · show ([g] ++ ta.enc).length + tb.enc.length < _
          rw [List.length_append]
          exact len_ok (show 1 + ta.enc.length ≤ 5000 from Nat.le_trans (Nat.add_le_add_left hta 1) (by decide)) (Nat.le_trans hb1 (by decide))
        · show ([g] ++ ta.enc ++ tb.enc, wrap64 ((n : Int) + 1)) = ((Tm.bin g ta tb).enc, ((L.length - r2.length : Nat) : Int))
          rw [hwn, ix_up2 hnn' hnlt]
          rfl
      · rw [if_neg he]
        refine ⟨[], trivial, Nat.zero_le _, Ev.bind E2 (Ev.neg (at_neg n) (Ev.neg (at_in' hnlt) (Ev.pos (at_pos n) (Ev.pos (at_in hnlt) (Ev.neg ?_ (Ev.some _))))))⟩
        show ¬ bt (bs L) (n : Int) = 41
        rw [hbn]
        exact fun h => he (Int.ofNat_inj.mp h)
theorem nat_eq {a b : Nat} (h : a = b) : (a : Int) = (b : Int) := by rw [h]
theorem nat_ne {a b : Nat} (h : ¬ a = b) : ¬ (a : Int) = (b : Int) := fun e => h (Int.ofNat_inj.mp e)
theorem sig38 {n : Nat} (h : n = 38) : sig (n : Int) = 13 := by subst h; decide
theorem sig124 {n : Nat} (h : n = 124) : sig (n : Int) = 14 := by subst h; decide
theorem sig42 {n : Nat} (h : n = 42) : sig (n : Int) = 15 := by subst h; decide
theorem sig62 {n : Nat} (h : n = 62) : sig (n : Int) = 16 := by subst h; decide
theorem sigNo {n : Nat} (h1 : ¬ n = 38) (h2 : ¬ n = 124) (h3 : ¬ n = 42) (h4 : ¬ n = 62) : sig (n : Int) = 0 := by unfold sig; rw [if_neg (by omega), if_neg (by omega), if_neg (by omega), if_neg (by omega)]
theorem len4 {a t l r : Nat} (h : l = t + (r + 1)) (ha : a ≤ t) : a + r + 1 ≤ l + 1 := by omega
theorem len5 {a t l r L i : Nat} (h : l = t + (r + 1)) (ha : a ≤ t) (hl : l = L - (i + 1)) (hL : L ≤ 1000) : a ≤ 1000 := by omega
theorem ix_up {L l r t m i f : Nat} (h1 : l = L - (i + 1)) (h2 : i < L) (h3 : L ≤ i + (f + 1)) (h4 : l = t + (r + 1)) (h5 : L - (r + 1) = m) : L ≤ m + 1 + f := by omega
set_option maxHeartbeats 4000000 in
theorem spec_read_ev (L : List UInt8) (hL : L.length ≤ 1000) : ∀ f i : Nat, i ≤ L.length → L.length ≤ i + f → ∃ p : List Int, encOf p (rdI f (L.drop i)) ∧ p.length ≤ (L.drop i).length ∧ Ev (fun k => spec_read.f k (bs L) (i : Int)) (p, endOf L.length (rdI f (L.drop i))) := by
  intro f
  induction f with
  | zero =>
    intro i hi hf
    obtain rfl : i = L.length := by omega
    refine ⟨[], trivial, Nat.zero_le _, ?_⟩
    refine Ev.step (fun k => by simp only [spec_read.f]; exact rfl) (Ev.neg (by omega) ?_)
    refine Ev.step (fun k => by simp only [spec_read.j0]; exact rfl) (Ev.pos (decide_eq_true (by rw [bs_size]; omega)) (Ev.some _))
  | succ f ih =>
    intro i hi hf
    cases hd : L.drop i with
    | nil =>
      have h2 := congrArg List.length hd
      rw [List.length_drop, List.length_nil] at h2
      refine ⟨[], trivial, Nat.le_refl _, ?_⟩
      refine Ev.step (fun k => by simp only [spec_read.f]; exact rfl) (Ev.neg (by omega) ?_)
      refine Ev.step (fun k => by simp only [spec_read.j0]; exact rfl) (Ev.pos (decide_eq_true (by rw [bs_size]; omega)) (Ev.some _))
    | cons c l =>
      obtain ⟨hlt, hd1⟩ := drop_next hd
      have hb := bs_bt hd
      have hl : l.length = L.length - (i + 1) := by rw [← hd1, List.length_drop]
      have hw : wrap64 ((i : Int) + 1) = ((i + 1 : Nat) : Int) := w64s hlt (by omega)
      have hb255 : c.toNat < 256 := c.toNat_lt
      obtain ⟨p1, hp1, hpl1, E1⟩ := ih (i + 1) (by omega) (by omega)
      rw [hd1] at hp1 hpl1 E1
      suffices h : ∃ p : List Int, encOf p (rdI (f + 1) (c :: l)) ∧ p.length ≤ (c :: l).length ∧ Ev (fun k => spec_read.j1 k (bs L) (i : Int) (c.toNat : Int) (decide (120 ≤ c.toNat ∧ c.toNat ≤ 122))) (p, endOf L.length (rdI (f + 1) (c :: l))) by
        obtain ⟨p, a, b, E⟩ := h
        refine ⟨p, a, b, ?_⟩
        refine Ev.step (fun k => by simp only [spec_read.f]; exact rfl) (Ev.neg (by omega) ?_)
        refine Ev.step (fun k => by simp only [spec_read.j0]; exact rfl) (Ev.neg (by rw [decide_eq_true_eq, bs_size]; omega) (Ev.pos (by omega) (Ev.pos (by rw [bs_size]; omega) ?_)))
        rw [hb]
        refine Ev.ite' (fun e => ?_) (fun e1 => Ev.ite' (fun e => ?_) (fun e2 => ?_))
        · rw [decide_eq_true (p := 120 ≤ c.toNat ∧ c.toNat ≤ 122) (by omega)] at E
          rw [beq_iff_eq.mpr e]
          exact E
        · rw [decide_eq_true (p := 120 ≤ c.toNat ∧ c.toNat ≤ 122) (by omega)] at E
          rw [beq_iff_eq.mpr e]
          exact E
        · rw [show (((c.toNat : Int) == 122) = decide (120 ≤ c.toNat ∧ c.toNat ≤ 122)) by rw [Bool.eq_iff_iff, beq_iff_eq, decide_eq_true_eq]; omega]
          exact E
      unfold rdI
      by_cases h1 : 120 ≤ c.toNat ∧ c.toNat ≤ 122
      · rw [if_pos h1, decide_eq_true h1]
        refine ⟨[(c.toNat : Int) - 120], rfl, by simp, Ev.step (fun k => by simp only [spec_read.j1]; exact rfl) (Ev.pos trivial (Ev.pos (by omega) (Ev.pos (by rw [bs_size]; omega) (Ev.eq (Ev.some _) ?_))))⟩
        rw [hb, hw]
        show ([((c.toNat : Int) - 120) % 256], ((i + 1 : Nat) : Int)) = ([(c.toNat : Int) - 120], ((L.length - l.length : Nat) : Int))
        rw [show ((c.toNat : Int) - 120) % 256 = (c.toNat : Int) - 120 by omega, show i + 1 = L.length - l.length by omega]
      rw [if_neg h1, decide_eq_false h1]
      by_cases h2 : c.toNat = 48
      · rw [if_pos h2]
        refine ⟨[10], rfl, by simp, Ev.step (fun k => by simp only [spec_read.j1]; exact rfl) (Ev.neg (by decide) (Ev.pos (by omega) (Ev.eq (Ev.some _) ?_)))⟩
        rw [hw]
        show (_, ((i + 1 : Nat) : Int)) = (_, ((L.length - l.length : Nat) : Int))
        rw [show i + 1 = L.length - l.length by omega]
      rw [if_neg h2]
      by_cases h3 : c.toNat = 49
      · rw [if_pos h3]
        refine ⟨[11], rfl, by simp, Ev.step (fun k => by simp only [spec_read.j1]; exact rfl) (Ev.neg (by decide) (Ev.neg (by omega) (Ev.pos (by omega) (Ev.eq (Ev.some _) ?_))))⟩
        rw [hw]
        show (_, ((i + 1 : Nat) : Int)) = (_, ((L.length - l.length : Nat) : Int))
        rw [show i + 1 = L.length - l.length by omega]
      rw [if_neg h3]
      by_cases h4 : c.toNat = 45
      · rw [if_pos h4]
        have e : endOf L.length ((rdI f l).bind fun p => some (Tm.neg p.1, p.2)) = endOf L.length (rdI f l) := by cases rdI f l <;> rfl
        refine ⟨12 :: p1, ?_, by simp only [List.length_cons]; omega, ?_⟩
        · cases hr : rdI f l with
          | none => exact trivial
          | some q =>
            rw [hr] at hp1
            show 12 :: p1 = (Tm.neg q.1).enc
            rw [show p1 = q.1.enc from hp1]
            rfl
        · rw [e]
          refine Ev.step (fun k => by simp only [spec_read.j1]; exact rfl) (Ev.neg (by decide) (Ev.neg (by omega) (Ev.neg (by omega) (Ev.pos (by omega) ?_))))
          rw [hw]
          exact Ev.bind E1 (Ev.bind (Ev.some _) (Ev.pos (by simp only [List.length_cons, List.length_nil]; omega) (Ev.some _)))
      rw [if_neg h4]
      by_cases h5 : c.toNat = 40
      · rw [if_pos h5]
        suffices h : ∃ p : List Int, encOf p ((rdI f l).bind (rdB (rdI f))) ∧ p.length ≤ (c :: l).length ∧ Ev (fun k => if endOf L.length (rdI f l) < 0 then spec_read.j2 k (bs L) p1 (endOf L.length (rdI f l)) true else spec_read.j2 k (bs L) p1 (endOf L.length (rdI f l)) (decide (endOf L.length (rdI f l) ≥ ((bs L).size : Int)))) (p, endOf L.length ((rdI f l).bind (rdB (rdI f)))) by
          obtain ⟨p, a, b, E⟩ := h
          refine ⟨p, a, b, Ev.step (fun k => by simp only [spec_read.j1]; exact rfl) (Ev.neg (by decide) (Ev.neg (by omega) (Ev.neg (by omega) (Ev.neg (by omega) (Ev.pos (by omega) ?_)))))⟩
          rw [hw]
          exact Ev.bind E1 E
        cases hr : rdI f l with
        | none =>
          exact ⟨[], trivial, Nat.zero_le _, Ev.pos (show (-1 : Int) < 0 by decide) (Ev.step (fun k => by simp only [spec_read.j2]; exact rfl) (Ev.pos trivial (Ev.some _)))⟩
        | some q =>
          obtain ⟨ta, r1⟩ := q
          rw [hr] at hp1
          obtain rfl : p1 = ta.enc := hp1
          obtain ⟨oa, sa⟩ := rdI_sound _ _ _ _ hr
          have sal := congrArg List.length sa
          rw [List.length_append] at sal
          have eta := ta.enc_txt
          have epa := ta.enc_pos
          show ∃ p : List Int, encOf p (rdB (rdI f) (ta, r1)) ∧ _ ∧ Ev _ (p, endOf L.length (rdB (rdI f) (ta, r1)))
          have hend : endOf L.length (some (ta, r1)) = ((L.length - r1.length : Nat) : Int) := rfl
          rw [hend]
          cases r1 with
          | nil =>
            exact ⟨[], trivial, Nat.zero_le _, Ev.neg (at_neg _) (Ev.step (fun k => by simp only [spec_read.j2]; exact rfl) (Ev.pos (decide_eq_true at_out) (Ev.some _)))⟩
          | cons s r1 =>
            have hm : L.drop (L.length - (s :: r1).length) = s :: r1 := drop_suffix (x := L.take (i + 1) ++ ta.txt) (by rw [List.append_assoc, ← sa, ← hd1, List.take_append_drop])
            generalize hmm : L.length - (s :: r1).length = m at hm
            obtain ⟨hmlt, hm1⟩ := drop_next hm
            have hbm := bs_bt hm
            have hwm : wrap64 ((m : Int) + 1) = ((m + 1 : Nat) : Int) := w64s hmlt (Nat.le_trans hL (by decide))
            rw [List.length_cons] at sal hmm
            obtain ⟨p2, hp2, hpl2, E2⟩ := ih (m + 1) hmlt (ix_up hl hlt hf sal hmm)
            rw [hm1] at hp2 hpl2 E2
            have key := spec_sign L hL f m ta s r1 p2 (len5 sal eta hl hL) hm1 hp2 hpl2 E2 (c :: l).length (by rw [List.length_cons]; exact len4 sal eta)
            have pre : ∀ {p : List Int} {r : Int} {g : Nat → Option (List Int × Int)}, Ev g (p, r) → (∀ k, g k = spec_read.j2 (k + 1) (bs L) ta.enc (m : Int) false) → Ev (fun k => if (m : Int) < 0 then spec_read.j2 k (bs L) ta.enc (m : Int) true else spec_read.j2 k (bs L) ta.enc (m : Int) (decide ((m : Int) ≥ ((bs L).size : Int)))) (p, r) := by
              intro p r g E hg
              refine Ev.neg (at_neg m) ?_
              rw [decide_eq_false (at_in' hmlt)]
              exact Ev.step (fun k => (hg k).symm) E
            have unf : ∀ k, spec_read.j2 (k + 1) (bs L) ta.enc (m : Int) false = _ := fun k => by
              simp only [spec_read.j2]
              rw [if_neg (by decide), if_pos (at_pos m), if_pos (at_in hmlt), hbm, hwm]
            by_cases c38 : s.toNat = 38
            · obtain ⟨p, a, b, E⟩ := key 13 (sig38 c38) (by decide)
              exact ⟨p, a, b, pre (Ev.pos (nat_eq c38) E) (fun k => (unf k).symm)⟩
            by_cases c124 : s.toNat = 124
            · obtain ⟨p, a, b, E⟩ := key 14 (sig124 c124) (by decide)
              exact ⟨p, a, b, pre (Ev.neg (nat_ne c38) (Ev.pos (nat_eq c124) E)) (fun k => (unf k).symm)⟩
            by_cases c42 : s.toNat = 42
            · obtain ⟨p, a, b, E⟩ := key 15 (sig42 c42) (by decide)
              exact ⟨p, a, b, pre (Ev.neg (nat_ne c38) (Ev.neg (nat_ne c124) (Ev.pos (nat_eq c42) E))) (fun k => (unf k).symm)⟩
            by_cases c62 : s.toNat = 62
            · obtain ⟨p, a, b, E⟩ := key 16 (sig62 c62) (by decide)
              exact ⟨p, a, b, pre (Ev.neg (nat_ne c38) (Ev.neg (nat_ne c124) (Ev.neg (nat_ne c42) (Ev.pos (nat_eq c62) E)))) (fun k => (unf k).symm)⟩
            · have h0 := sigNo c38 c124 c42 c62
              have e0 : rdB (rdI f) (ta, s :: r1) = none := by
                unfold rdB
                simp only
                rw [if_pos h0]
              rw [e0]
              exact ⟨[], trivial, Nat.zero_le _, pre (Ev.neg (nat_ne c38) (Ev.neg (nat_ne c124) (Ev.neg (nat_ne c42) (Ev.neg (nat_ne c62) (Ev.some _))))) (fun k => (unf k).symm)⟩
      · rw [if_neg h5]
        exact ⟨[], trivial, Nat.zero_le _, Ev.step (fun k => by simp only [spec_read.j1]; exact rfl) (Ev.neg (by decide) (Ev.neg (by omega) (Ev.neg (by omega) (Ev.neg (by omega) (Ev.neg (by omega) (Ev.some _))))))⟩
theorem cut_ev (r : List UInt8) : strings_CutPrefix.f (bs r) (⟨#[41]⟩ : ByteArray) = some (match r with | [] => (bs [], false) | e :: r2 => if e.toNat = 41 then (bs r2, true) else (bs (e :: r2), false)) := by
  have e1 : (⟨#[41]⟩ : ByteArray).size = 1 := rfl
  have e2 : (⟨#[41]⟩ : ByteArray).toList = [41] := bs_toList [41]
  unfold strings_CutPrefix.f stringslite_CutPrefix.f stringslite_HasPrefix.f
  rw [e1, e2, bs_size]
  cases r with
  | nil =>
    rw [if_neg (by decide)]
    rfl
  | cons e r2 =>
    have h1 : ((e :: r2).length : Int) ≥ ((1 : Nat) : Int) := by rw [List.length_cons]; omega
    have h2 : ((1 : Nat) : Int) ≤ ((e :: r2).length : Int) := h1
    have h3 : ((bs (e :: r2)).extract 0 (((1 : Nat) : Int)).toNat).toList = [e] := by
      rw [ByteArray.toList_eq]
      simp [ByteArray.data_extract, bs]
    have h4 : (bs (e :: r2)).extract (((1 : Nat) : Int)).toNat (e :: r2).length = bs r2 := by
      have h := bs_drop (e :: r2) 1
      rw [bs_size] at h
      exact h
    rw [if_pos h1, if_pos (by decide), if_pos h2, h3]
    simp only [Option.bind_some]
    by_cases he : e.toNat = 41
    · have he' : e = 41 := u8_eq (show e.toNat = (41 : UInt8).toNat from he)
      subst he'
      rw [if_pos (by decide), if_pos (by decide), if_pos h2, h4]
      rfl
    · have hne : (([e] : List UInt8) == [41]) = false := by
        rw [beq_eq_false_iff_ne]
        intro h
        injection h with h
        exact he (by rw [h]; rfl)
      rw [hne, if_neg (by decide)]
      simp only [Option.bind_some]
      rw [if_neg he]
theorem two_pow (f : Nat) (h : f ≤ 15) : 2 ^ f ≤ 32768 := Nat.le_trans (Nat.pow_le_pow_right (by decide) h) (by decide)
theorem pow_s (f : Nat) : 2 ^ (f + 1) = 2 * 2 ^ f := by rw [Nat.pow_succ]; omega
/-- What the program's reader makes of some bytes: a term, or no. -/
def saysI (x : List Int × ByteArray × Bool) : Option (Tm × List UInt8) → Prop
  | some (t, r) => x = (t.enc, bs r, true)
  | none => x.2.2 = false
theorem impl_read_ev : ∀ f : Nat, f ≤ 15 → ∀ l : List UInt8, ∃ x : List Int × ByteArray × Bool, saysI x (rdI f l) ∧ x.1.length + 1 ≤ 2 ^ f ∧ Ev (fun k => impl_read.f k (bs l) ((16 - f : Nat) : Int)) x := by
  intro f
  induction f with
  | zero =>
    intro hf l
    refine ⟨([], (⟨#[]⟩ : ByteArray), false), rfl, Nat.le_refl _, ?_⟩
    refine Ev.step (fun k => by simp only [impl_read.f]; exact rfl) ?_
    exact Ev.ite' (fun _ => Ev.some _) (fun _ => Ev.pos (by decide) (Ev.some _))
  | succ f ih =>
    intro hf l
    have hp := two_pow f (by omega)
    have hp1 : 1 ≤ 2 ^ f := Nat.one_le_pow _ _ (by decide)
    rw [pow_s]
    cases l with
    | nil =>
      refine ⟨([], (⟨#[]⟩ : ByteArray), false), rfl, by simp only [List.length_nil]; omega, ?_⟩
      refine Ev.step (fun k => by simp only [impl_read.f]; exact rfl) ?_
      exact Ev.pos (bs_size []) (Ev.some _)
    | cons c l =>
      have hb : bt (bs (c :: l)) 0 = (c.toNat : Int) := bs_bt (i := 0) (show (c :: l).drop 0 = c :: l from rfl)
      have hd : (bs (c :: l)).extract 1 (bs (c :: l)).size = bs l := bs_drop (c :: l) 1
      have hz : ¬ (bs (c :: l)).size = 0 := by rw [bs_size, List.length_cons]; omega
      have hn : ¬ (15 : Int) < ((16 - (f + 1) : Nat) : Int) := by omega
      have hw : wrap64 (((16 - (f + 1) : Nat) : Int) + 1) = ((16 - f : Nat) : Int) := by rw [w64 (by omega) (by omega)]; omega
      obtain ⟨x1, hx1, hl1, E1⟩ := ih (by omega) l
      have unf : ∀ k, impl_read.f (k + 1) (bs (c :: l)) ((16 - (f + 1) : Nat) : Int) = _ := fun k => by
        simp only [impl_read.f]
        rw [if_neg hz, if_neg hn, hb, hd, hw]
      unfold rdI
      by_cases h1 : 120 ≤ c.toNat ∧ c.toNat ≤ 122
      · rw [if_pos h1]
        exact ⟨([(c.toNat : Int) - 120], bs l, true), rfl, by simp only [List.length_cons, List.length_nil]; omega, Ev.step unf (Ev.pos (by omega) (Ev.some _))⟩
      rw [if_neg h1]
      by_cases h2 : c.toNat = 48
      · rw [if_pos h2]
        exact ⟨([10], bs l, true), rfl, by simp only [List.length_cons, List.length_nil]; omega, Ev.step unf (Ev.neg (by omega) (Ev.pos (nat_eq h2) (Ev.some _)))⟩
      rw [if_neg h2]
      by_cases h3 : c.toNat = 49
      · rw [if_pos h3]
        exact ⟨([11], bs l, true), rfl, by simp only [List.length_cons, List.length_nil]; omega, Ev.step unf (Ev.neg (by omega) (Ev.neg (nat_ne h2) (Ev.pos (nat_eq h3) (Ev.some _))))⟩
      rw [if_neg h3]
      by_cases h4 : c.toNat = 45
      · rw [if_pos h4]
        refine ⟨(12 :: x1.1, x1.2.1, x1.2.2), ?_, by simp only [List.length_cons]; omega, Ev.step unf (Ev.neg (by omega) (Ev.neg (nat_ne h2) (Ev.neg (nat_ne h3) (Ev.pos (nat_eq h4) (Ev.bind E1 (Ev.pos (by omega) (Ev.some _)))))))⟩
        cases hr : rdI f l with
        | none =>
          rw [hr] at hx1
          exact hx1
        | some q =>
          rw [hr] at hx1
          obtain rfl : x1 = (q.1.enc, bs q.2, true) := hx1
          rfl
      rw [if_neg h4]
      by_cases h5 : c.toNat = 40
      · rw [if_pos h5]
        suffices h : ∃ x : List Int × ByteArray × Bool, saysI x ((rdI f l).bind (rdB (rdI f))) ∧ x.1.length + 1 ≤ 2 * 2 ^ f ∧ Ev (fun k => if x1.2.2 = false then some ([], (⟨#[]⟩ : ByteArray), false) else if x1.2.1.size = 0 then some ([], (⟨#[]⟩ : ByteArray), false) else ((impl_read.f k (x1.2.1.extract 1 x1.2.1.size) ((16 - f : Nat) : Int)).bind fun q => if q.2.2 = false then some ([], (⟨#[]⟩ : ByteArray), false) else if sig (bt x1.2.1 0) = 0 then some ([], (⟨#[]⟩ : ByteArray), false) else ((strings_CutPrefix.f q.2.1 (⟨#[41]⟩ : ByteArray)).bind fun z => if x1.1.length < 1000000 then (if q.1.length < 1000000 then some (sig (bt x1.2.1 0) :: (x1.1 ++ q.1), z.1, z.2) else none) else none))) x by
          obtain ⟨x, a, b, E⟩ := h
          exact ⟨x, a, b, Ev.step unf (Ev.neg (by omega) (Ev.neg (nat_ne h2) (Ev.neg (nat_ne h3) (Ev.neg (nat_ne h4) (Ev.pos (nat_eq h5) (Ev.bind E1 E))))))⟩
        have no : ∀ {P : Prop}, P → P ∧ ([] : List Int).length + 1 ≤ 2 * 2 ^ f := fun h => ⟨h, by simp only [List.length_nil]; omega⟩
        cases hr : rdI f l with
        | none =>
          rw [hr] at hx1
          exact ⟨([], (⟨#[]⟩ : ByteArray), false), rfl, (no trivial).2, Ev.pos hx1 (Ev.some _)⟩
        | some q =>
          obtain ⟨ta, r1⟩ := q
          rw [hr] at hx1
          obtain rfl : x1 = (ta.enc, bs r1, true) := hx1
          show ∃ x : List Int × ByteArray × Bool, saysI x (rdB (rdI f) (ta, r1)) ∧ _
          cases r1 with
          | nil => exact ⟨([], (⟨#[]⟩ : ByteArray), false), rfl, (no trivial).2, Ev.neg (by simp) (Ev.pos rfl (Ev.some _))⟩
          | cons s r1 =>
            have hb1 : bt (bs (s :: r1)) 0 = (s.toNat : Int) := bs_bt (i := 0) (show (s :: r1).drop 0 = s :: r1 from rfl)
            have hd1 : (bs (s :: r1)).extract 1 (bs (s :: r1)).size = bs r1 := bs_drop (s :: r1) 1
            have hz1 : ¬ (bs (s :: r1)).size = 0 := by rw [bs_size, List.length_cons]; omega
            obtain ⟨x2, hx2, hl2, E2⟩ := ih (by omega) r1
            suffices h : ∃ x : List Int × ByteArray × Bool, saysI x (rdB (rdI f) (ta, s :: r1)) ∧ x.1.length + 1 ≤ 2 * 2 ^ f ∧ Ev (fun k => if x2.2.2 = false then some ([], (⟨#[]⟩ : ByteArray), false) else if sig (s.toNat : Int) = 0 then some ([], (⟨#[]⟩ : ByteArray), false) else ((strings_CutPrefix.f x2.2.1 (⟨#[41]⟩ : ByteArray)).bind fun z => if ta.enc.length < 1000000 then (if x2.1.length < 1000000 then some (sig (s.toNat : Int) :: (ta.enc ++ x2.1), z.1, z.2) else none) else none)) x by
              obtain ⟨x, a, b, E⟩ := h
              refine ⟨x, a, b, Ev.neg (by simp) (Ev.neg hz1 ?_)⟩
              simp only
              rw [hb1, hd1]
              exact Ev.bind E2 E
            by_cases hs : sig (s.toNat : Int) = 0
            · have e0 : rdB (rdI f) (ta, s :: r1) = none := by
                unfold rdB
                simp only
                rw [if_pos hs]
              rw [e0]
              exact ⟨([], (⟨#[]⟩ : ByteArray), false), rfl, (no trivial).2, Ev.ite' (fun _ => Ev.some _) (fun _ => Ev.pos hs (Ev.some _))⟩
            have e0 : rdB (rdI f) (ta, s :: r1) = (rdI f r1).bind fun q => match q.2 with
              | [] => none
              | e :: r2 => if e.toNat = 41 then some (.bin (sig (s.toNat : Int)) ta q.1, r2) else none := by
              unfold rdB
              simp only
              rw [if_neg hs]
            rw [e0]
            cases hr2 : rdI f r1 with
            | none =>
              rw [hr2] at hx2
              exact ⟨([], (⟨#[]⟩ : ByteArray), false), rfl, (no trivial).2, Ev.pos hx2 (Ev.some _)⟩
            | some q2 =>
              obtain ⟨tb, r2⟩ := q2
              rw [hr2] at hx2
              obtain rfl : x2 = (tb.enc, bs r2, true) := hx2
              have hca : ta.enc.length < 1000000 := by
                have h : ta.enc.length + 1 ≤ 2 ^ f := hl1
                omega
              have hcb : tb.enc.length < 1000000 := by
                have h : tb.enc.length + 1 ≤ 2 ^ f := hl2
                omega
              have hlen : (sig (s.toNat : Int) :: (ta.enc ++ tb.enc)).length + 1 ≤ 2 * 2 ^ f := by
                have h : ta.enc.length + 1 ≤ 2 ^ f := hl1
                have h' : tb.enc.length + 1 ≤ 2 ^ f := hl2
                rw [List.length_cons, List.length_append]
                omega
              refine ⟨_, ?_, ?_, Ev.neg (by simp) (Ev.neg hs (Ev.bindc (cut_ev r2) (Ev.pos hca (Ev.pos hcb (Ev.some _)))))⟩
              · simp only [Option.bind_some]
                cases r2 with
                | nil => rfl
                | cons e r2 =>
                  simp only
                  by_cases he : e.toNat = 41
                  · rw [if_pos he, if_pos he]
                    rfl
                  · rw [if_neg he, if_neg he]
                    rfl
              · exact hlen
      · rw [if_neg h5]
        exact ⟨([], (⟨#[]⟩ : ByteArray), false), rfl, by simp only [List.length_nil]; omega, Ev.step unf (Ev.neg (by omega) (Ev.neg (nat_ne h2) (Ev.neg (nat_ne h3) (Ev.neg (nat_ne h4) (Ev.neg (nat_ne h5) (Ev.some _))))))⟩
/-- The text l is that of the term t, which is not too long. -/
def IsT (l : List UInt8) (t : Tm) : Prop := t.ok ∧ l = t.txt ∧ t.enc.length ≤ 15
theorem IsT.read {l : List UInt8} {t : Tm} (h : IsT l t) (f : Nat) (hf : t.enc.length ≤ f) : rdI f l = some (t, []) := by
  obtain ⟨h1, rfl, h2⟩ := h
  have h := rdI_whole t h1 f [] (Nat.le_trans t.dep_le hf)
  rwa [List.append_nil] at h
theorem spec_valid_ev (l : List Int) (hl : l.length ≤ 1048576) : Ev (fun k => spec_validTerm.f k l) (termB l) :=
  Ev.congr (fun k => by unfold spec_ValidTerm.f; cases spec_validTerm.f k l <;> rfl) (spec_ValidTerm_ev l hl)
theorem spec_parse_ev (l : List UInt8) : ∃ x : List Int × Bool, ((∃ t, IsT l t ∧ x = (t.enc, true)) ∨ ((∀ t, ¬ IsT l t) ∧ x = ([], false))) ∧ Ev (fun k => spec_ParseTerm.f k (bs l)) x := by
  suffices h : ∃ x : List Int × Bool, ((∃ t, IsT l t ∧ x = (t.enc, true)) ∨ ((∀ t, ¬ IsT l t) ∧ x = ([], false))) ∧ Ev (fun k => spec_parseTerm.f k (bs l)) x by
    obtain ⟨x, a, E⟩ := h
    refine ⟨x, a, ?_⟩
    unfold spec_ParseTerm.f
    exact Ev.bind E (Ev.some _)
  unfold spec_parseTerm.f
  by_cases h60 : ((bs l).size : Int) > 60
  · refine ⟨([], false), .inr ⟨fun t ht => ?_, rfl⟩, Ev.pos h60 (Ev.some _)⟩
    obtain ⟨h1, rfl, h2⟩ := ht
    rw [bs_size] at h60
    have := t.txt_le
    omega
  · rw [bs_size] at h60
    obtain ⟨p, hp, hpl, E⟩ := spec_read_ev l (by omega) l.length 0 (by omega) (by omega)
    rw [List.drop_zero] at hp hpl E
    have E' : Ev (fun k => spec_read.f k (bs l) 0) (p, endOf l.length (rdI l.length l)) := E
    have none_ : ∀ {x : Option (Tm × List UInt8)}, rdI l.length l = x → (∀ t, x ≠ some (t, [])) → ∀ t, ¬ IsT l t := by
      intro x hx hne t ht
      have h2 : t.enc.length ≤ l.length := by
        rw [ht.2.1]
        exact t.enc_txt
      exact hne t (hx.symm.trans (ht.read _ h2))
    cases hr : rdI l.length l with
    | none =>
      rw [hr] at E'
      refine ⟨([], false), .inr ⟨none_ hr (by simp), rfl⟩, Ev.neg (by rw [bs_size]; omega) (Ev.bind E' (Ev.neg ?_ (Ev.some _)))⟩
      rw [bs_size]
      show ¬ (-1 : Int) = _
      omega
    | some q =>
      obtain ⟨t, r⟩ := q
      rw [hr] at hp E'
      obtain rfl : p = t.enc := hp
      obtain ⟨ot, st⟩ := rdI_sound _ _ _ _ hr
      cases r with
      | nil =>
        rw [List.append_nil] at st
        have hv := spec_valid_ev t.enc (by omega)
        cases hb : termB t.enc with
        | true =>
          rw [hb] at hv
          obtain ⟨_, _, _, h15⟩ := (termB_tm t.enc).1 hb
          refine ⟨(t.enc, true), .inl ⟨t, ⟨ot, st, h15⟩, rfl⟩, Ev.neg (by rw [bs_size]; omega) (Ev.bind E' (Ev.pos ?_ (Ev.bind hv (Ev.pos rfl (Ev.some _)))))⟩
          rw [bs_size]
          rfl
        | false =>
          rw [hb] at hv
          refine ⟨([], false), .inr ⟨fun t' ht' => ?_, rfl⟩, Ev.neg (by rw [bs_size]; omega) (Ev.bind E' (Ev.pos ?_ (Ev.bind hv (Ev.neg (by decide) (Ev.some _)))))⟩
          · have h2 : t'.enc.length ≤ l.length := by
              rw [ht'.2.1]
              exact t'.enc_txt
            have h3 := hr.symm.trans (ht'.read _ h2)
            simp only [Option.some.injEq, Prod.mk.injEq] at h3
            obtain ⟨rfl, _⟩ := h3
            rw [(termB_tm t.enc).2 ⟨t, ot, rfl, ht'.2.2⟩] at hb
            cases hb
          · rw [bs_size]
            rfl
      | cons e r =>
        refine ⟨([], false), .inr ⟨none_ hr (by simp), rfl⟩, Ev.neg (by rw [bs_size]; omega) (Ev.bind E' (Ev.neg ?_ (Ev.some _)))⟩
        rw [bs_size]
        have h4 := congrArg List.length st
        rw [List.length_append, List.length_cons] at h4
        show ¬ ((l.length - (e :: r).length : Nat) : Int) = _
        rw [List.length_cons]
        omega
theorem impl_parse_ev (l : List UInt8) : ∃ x : List Int × Bool, ((∃ t, IsT l t ∧ x = (t.enc, true)) ∨ ((∀ t, ¬ IsT l t) ∧ x = ([], false))) ∧ Ev (fun k => impl_ParseTerm.f k (bs l)) x := by
  unfold impl_ParseTerm.f
  obtain ⟨y, hy, hyl, E⟩ := impl_read_ev 15 (by decide) l
  have E' : Ev (fun k => impl_read.f k (bs l) 1) y := E
  have none_ : ∀ {x : Option (Tm × List UInt8)}, rdI 15 l = x → (∀ t, x ≠ some (t, [])) → ∀ t, ¬ IsT l t := by
    intro x hx hne t ht
    exact hne t (hx.symm.trans (ht.read _ ht.2.2))
  cases hr : rdI 15 l with
  | none =>
    rw [hr] at hy
    refine ⟨([], false), .inr ⟨none_ hr (by simp), rfl⟩, Ev.bind E' (Ev.neg ?_ (Ev.some _))⟩
    rw [show y.2.2 = false from hy]
    decide
  | some q =>
    obtain ⟨t, r⟩ := q
    rw [hr] at hy
    obtain rfl : y = (t.enc, bs r, true) := hy
    obtain ⟨ot, st⟩ := rdI_sound _ _ _ _ hr
    have hyl' : t.enc.length + 1 ≤ 2 ^ 15 := hyl
    have e15 : 2 ^ 15 = 32768 := by decide
    cases r with
    | nil =>
      rw [List.append_nil] at st
      have hv := impl_ValidTerm_ev t.enc (by omega)
      cases hb : termB t.enc with
      | true =>
        rw [hb] at hv
        obtain ⟨_, _, _, h15⟩ := (termB_tm t.enc).1 hb
        exact ⟨(t.enc, true), .inl ⟨t, ⟨ot, st, h15⟩, rfl⟩, Ev.bind E' (Ev.pos rfl (Ev.pos (bs_toList []) (Ev.bind hv (Ev.pos rfl (Ev.some _)))))⟩
      | false =>
        rw [hb] at hv
        refine ⟨([], false), .inr ⟨fun t' ht' => ?_, rfl⟩, Ev.bind E' (Ev.pos rfl (Ev.pos (bs_toList []) (Ev.bind hv (Ev.neg (by decide) (Ev.some _)))))⟩
        have h3 := hr.symm.trans (ht'.read _ ht'.2.2)
        simp only [Option.some.injEq, Prod.mk.injEq] at h3
        obtain ⟨rfl, _⟩ := h3
        rw [(termB_tm t.enc).2 ⟨t, ot, rfl, ht'.2.2⟩] at hb
        cases hb
    | cons e r =>
      refine ⟨([], false), .inr ⟨none_ hr (by simp), rfl⟩, Ev.bind E' (Ev.pos rfl (Ev.neg ?_ (Ev.some _)))⟩
      show ¬ (bs (e :: r)).toList = []
      rw [bs_toList]
      simp
theorem IsT.uniq {l : List UInt8} {t t' : Tm} (h : IsT l t) (h' : IsT l t') : t = t' := by
  have e := (h.read 15 h.2.2).symm.trans (h'.read 15 h'.2.2)
  simp only [Option.some.injEq, Prod.mk.injEq] at e
  exact e.1
/-- Both programs read the same. -/
theorem ParseTerm_ev (s : ByteArray) : ∃ x : List Int × Bool, x.1.length ≤ 15 ∧ ((∃ t, IsT s.data.toList t ∧ x = (t.enc, true)) ∨ ((∀ t, ¬ IsT s.data.toList t) ∧ x = ([], false))) ∧ Ev (fun k => spec_ParseTerm.f k s) x ∧ Ev (fun k => impl_ParseTerm.f k s) x := by
  have hs := bs_of s
  generalize s.data.toList = l at hs
  subst hs
  obtain ⟨x, hx, E⟩ := spec_parse_ev l
  obtain ⟨y, hy, E2⟩ := impl_parse_ev l
  have hl : x.1.length ≤ 15 := by
    rcases hx with ⟨t, h, rfl⟩ | ⟨_, rfl⟩
    · exact h.2.2
    · exact Nat.zero_le _
  have e : x = y := by
    rcases hx with ⟨t, h, rfl⟩ | ⟨h, rfl⟩
    · rcases hy with ⟨t', h', rfl⟩ | ⟨h', rfl⟩
      · rw [h.uniq h']
      · exact absurd h (h' t)
    · rcases hy with ⟨t', h', rfl⟩ | ⟨h', rfl⟩
      · exact absurd h' (h t')
      · rfl
  subst e
  exact ⟨x, hl, hx, E, E2⟩
end Go.Proofs.Ytdcohlllbbcjoaa.M
