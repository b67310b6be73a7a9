/- Terms as trees: their numbers and their texts; what is a term by numbers is the numbers of a tree; both programs' texts of it. -/
import Derived.Test.YtdcohlllbbcjoaaP4
import Derived.Test.YtdcohlllbbcjoaaP5
import Derived.Test.YtdcohlllbbcjoaaP10
import Derived.Test.YtdcohlllbbcjoaaMTerm
namespace Go.Proofs.Ytdcohlllbbcjoaa.M
set_option linter.unusedVariables false
open Go.RowKit Go.Proofs.YtdcohlllbbcjoaaW.PrintWords Go.Proofs.YtdcohlllbbcjoaaW.PrintLast Go.Proofs.YtdcohlllbbcjoaaW.PrintMore Go.Proofs.Ytdcohlllbbcjoaa.P

/-- A term. -/
inductive Tm where
  | leaf (x : Int) : Tm
  | neg (t : Tm) : Tm
  | bin (x : Int) (a b : Tm) : Tm
def Tm.enc : Tm → List Int
  | .leaf x => [x]
  | .neg t => 12 :: t.enc
  | .bin x a b => x :: (a.enc ++ b.enc)
def Tm.ok : Tm → Prop
  | .leaf x => (0 ≤ x ∧ x ≤ 2) ∨ x = 10 ∨ x = 11
  | .neg t => t.ok
  | .bin x a b => (13 ≤ x ∧ x ≤ 16) ∧ a.ok ∧ b.ok
def Tm.dep : Tm → Nat
  | .leaf _ => 1
  | .neg t => t.dep + 1
  | .bin _ a b => max a.dep b.dep + 1
def leafC (x : Int) : UInt8 := if x = 10 then 48 else if x = 11 then 49 else if x = 0 then 120 else if x = 1 then 121 else 122
def binC (x : Int) : UInt8 := if x = 13 then 38 else if x = 14 then 124 else if x = 15 then 42 else 62
def Tm.txt : Tm → List UInt8
  | .leaf x => [leafC x]
  | .neg t => 45 :: t.txt
  | .bin x a b => 40 :: (a.txt ++ binC x :: (b.txt ++ [41]))
theorem Tm.enc_pos (t : Tm) : 1 ≤ t.enc.length := by cases t <;> simp [Tm.enc]
theorem Tm.dep_le (t : Tm) : t.dep ≤ t.enc.length := by
  induction t with
  | leaf x => simp [Tm.dep, Tm.enc]
  | neg t ih => simp [Tm.dep, Tm.enc]; exact ih
  | bin x a b ha hb =>
    have h1 := a.enc_pos
    have h2 := b.enc_pos
    simp only [Tm.dep, Tm.enc, List.length_cons, List.length_append]
    omega
theorem Tm.txt_le (t : Tm) : t.txt.length ≤ 3 * t.enc.length := by
  induction t with
  | leaf x => simp [Tm.txt, Tm.enc]
  | neg t ih => simp only [Tm.txt, Tm.enc, List.length_cons]; omega
  | bin x a b ha hb => simp only [Tm.txt, Tm.enc, List.length_cons, List.length_append, List.length_nil]; omega
theorem Tm.txt_pos (t : Tm) : t.txt ≠ [] := by cases t <;> simp [Tm.txt]
/-- A text out of its bytes. -/
def bs (l : List UInt8) : ByteArray := ⟨l.toArray⟩
theorem bs_app (a b : List UInt8) : bs a ++ bs b = bs (a ++ b) := by
  apply ByteArray.ext
  simp [bs]
theorem bs_size (l : List UInt8) : (bs l).size = l.length := by simp [bs, ByteArray.size]
theorem bs_toList (l : List UInt8) : (bs l).toList = l := by rw [ByteArray.toList_eq]; simp [bs]
theorem bs_of (s : ByteArray) : s = bs s.data.toList := by
  apply ByteArray.ext
  simp [bs]
theorem drop_head {l r : List Int} {x : Int} {i : Nat} (h : l.drop i = x :: r) : i < l.length ∧ rd l (i : Int) = x ∧ l.drop (i + 1) = r := by
  have h1 : i < l.length := by
    have h2 := congrArg List.length h
    rw [List.length_drop, List.length_cons] at h2
    omega
  rw [List.drop_eq_getElem_cons h1] at h
  injection h with h3 h4
  exact ⟨h1, by simp [rd, h1, h3], h4⟩
theorem endI_tm (l : List Int) : ∀ f i j, endI l f i = some j → ∃ t : Tm, t.ok ∧ l.drop i = t.enc ++ l.drop j ∧ j = i + t.enc.length := by
  intro f
  induction f with
  | zero => intro i j h; cases h
  | succ f ih =>
    intro i j h
    unfold endI at h
    by_cases hi : i < l.length
    case neg => rw [if_neg hi] at h; cases h
    rw [if_pos hi] at h
    have hd : l.drop i = rd l (i : Int) :: l.drop (i + 1) := by rw [List.drop_eq_getElem_cons hi]; simp [rd, hi]
    generalize rd l (i : Int) = x at h hd
    rw [hd]
    by_cases h0 : tk x = 0
    · rw [if_pos h0] at h
      obtain rfl := Option.some.inj h
      refine ⟨.leaf x, ?_, by simp [Tm.enc], by simp [Tm.enc]⟩
      by_cases c : (0 ≤ x ∧ x ≤ 2) ∨ x = 10 ∨ x = 11
      · exact c
      · rw [tk, if_neg c] at h0
        split at h0
        · cases h0
        · split at h0
          · cases h0
          · cases h0
    rw [if_neg h0] at h
    by_cases h1 : tk x = 1
    · rw [if_pos h1] at h
      obtain ⟨t, a, b, c⟩ := ih _ _ h
      have hx : x = 12 := by
        unfold tk at h1
        split at h1
        · cases h1
        · split at h1
          · assumption
          · split at h1 <;> cases h1
      exact ⟨.neg t, a, by rw [b, hx]; rfl, by rw [c]; simp only [Tm.enc, List.length_cons]; omega⟩
    rw [if_neg h1] at h
    by_cases h2 : tk x = 2
    · rw [if_pos h2] at h
      obtain ⟨m, e1, e2⟩ := Option.bind_eq_some_iff.mp h
      obtain ⟨t, a, b, c⟩ := ih _ _ e1
      obtain ⟨t', a', b', c'⟩ := ih _ _ e2
      have hx : 13 ≤ x ∧ x ≤ 16 := by
        unfold tk at h2
        split at h2
        · cases h2
        · split at h2
          · cases h2
          · split at h2
            · assumption
            · cases h2
      exact ⟨.bin x t t', ⟨hx, a, a'⟩, by rw [b, b']; simp [Tm.enc], by rw [c', c]; simp only [Tm.enc, List.length_cons, List.length_append]; omega⟩
    · rw [if_neg h2] at h
      cases h
theorem tm_endI (l : List Int) : ∀ (t : Tm), t.ok → ∀ f i r, l.drop i = t.enc ++ r → t.dep ≤ f → endI l f i = some (i + t.enc.length) ∧ l.drop (i + t.enc.length) = r := by
  intro t
  induction t with
  | leaf x =>
    intro hok f i r hd hf
    obtain ⟨f, rfl⟩ : ∃ f', f = f' + 1 := ⟨f - 1, by simp only [Tm.dep] at hf; omega⟩
    obtain ⟨h1, h2, h3⟩ := drop_head (show l.drop i = x :: r from hd)
    have hk : tk x = 0 := by rw [tk, if_pos (show (0 ≤ x ∧ x ≤ 2) ∨ x = 10 ∨ x = 11 from hok)]
    unfold endI
    rw [if_pos h1, h2, if_pos hk]
    exact ⟨rfl, h3⟩
  | neg t ih =>
    intro hok f i r hd hf
    obtain ⟨f, rfl⟩ : ∃ f', f = f' + 1 := ⟨f - 1, by simp only [Tm.dep] at hf; omega⟩
    obtain ⟨h1, h2, h3⟩ := drop_head (show l.drop i = 12 :: (t.enc ++ r) from hd)
    have h4 := ih hok f (i + 1) r h3 (by simp only [Tm.dep] at hf; omega)
    have e : i + 1 + t.enc.length = i + (Tm.neg t).enc.length := by simp only [Tm.enc, List.length_cons]; omega
    rw [e] at h4
    unfold endI
    rw [if_pos h1, h2, if_neg (by decide), if_pos (by decide)]
    exact h4
  | bin x a b ha hb =>
    intro hok f i r hd hf
    obtain ⟨hx, oa, ob⟩ := hok
    obtain ⟨f, rfl⟩ : ∃ f', f = f' + 1 := ⟨f - 1, by simp only [Tm.dep] at hf; omega⟩
    obtain ⟨h1, h2, h3⟩ := drop_head (show l.drop i = x :: (a.enc ++ (b.enc ++ r)) by rw [hd]; simp [Tm.enc])
    have hk : tk x = 2 := by rw [tk, if_neg (by omega), if_neg (by omega), if_pos hx]
    have h4 := ha oa f (i + 1) (b.enc ++ r) h3 (by simp only [Tm.dep] at hf; omega)
    have h5 := hb ob f _ r h4.2 (by simp only [Tm.dep] at hf; omega)
    have e : i + 1 + a.enc.length + b.enc.length = i + (Tm.bin x a b).enc.length := by simp only [Tm.enc, List.length_cons, List.length_append]; omega
    rw [e] at h5
    unfold endI
    rw [if_pos h1, h2, if_neg (by omega), if_neg (by omega), if_pos hk, h4.1]
    exact h5
theorem termB_tm (l : List Int) : termB l = true ↔ ∃ t : Tm, t.ok ∧ t.enc = l ∧ l.length ≤ 15 := by
  unfold termB
  rw [run_all, Bool.and_eq_true, decide_eq_true_eq, decide_eq_true_eq]
  constructor
  · rintro ⟨h1, h2⟩
    cases he : endI l l.length 0 with
    | none => rw [he] at h1; exact absurd h1 (by show ¬ ((-1 : Int) = (l.length : Int)); omega)
    | some j =>
      rw [he] at h1
      have hj : j = l.length := by
        have h3 : (j : Int) = (l.length : Int) := h1
        omega
      obtain ⟨t, a, b, c⟩ := endI_tm l _ _ _ he
      rw [hj, List.drop_length, List.append_nil, List.drop_zero] at b
      exact ⟨t, a, b.symm, h2⟩
  · rintro ⟨t, a, rfl, c⟩
    have h := (tm_endI t.enc t a t.enc.length 0 [] (by simp) t.dep_le).1
    rw [h]
    exact ⟨by show ((0 + t.enc.length : Nat) : Int) = _; omega, c⟩
theorem leafC_low (x : Int) (h : 0 ≤ x ∧ x ≤ 2) : bs [leafC x] = (⟨#[120, 121, 122]⟩ : ByteArray).extract x.toNat (x.toNat + 1) := by
  have e : x = 0 ∨ x = 1 ∨ x = 2 := by omega
  rcases e with e | e | e <;> subst e <;> decide
theorem sgn_bin (x : Int) (h : 13 ≤ x ∧ x ≤ 16) : sgn x = bs [binC x] := by
  have e : x = 13 ∨ x = 14 ∨ x = 15 ∨ x = 16 := by omega
  rcases e with e | e | e | e <;> subst e <;> rfl
theorem neg_bs (l : List UInt8) : (⟨#[45]⟩ : ByteArray) ++ bs l = bs (45 :: l) := bs_app [45] l
theorem bin_bs (a b : List UInt8) (c : UInt8) : (((⟨#[40]⟩ : ByteArray) ++ bs a ++ bs [c]) ++ bs b) ++ (⟨#[41]⟩ : ByteArray) = bs (40 :: (a ++ c :: (b ++ [41]))) := by
  show (((bs [40] ++ bs a) ++ bs [c]) ++ bs b) ++ bs [41] = _
  rw [bs_app, bs_app, bs_app, bs_app]
  simp
theorem Tm.lt3 {t : Tm} (h : t.enc.length ≤ 1048576) : t.txt.length ≤ 3145728 := Nat.le_trans t.txt_le (by omega)
theorem impl_text_ev : ∀ (t : Tm), t.ok → t.enc.length ≤ 1048576 → ∀ r, Ev (fun k => impl_text.f k (t.enc ++ r)) (bs t.txt, r) := by
  intro t
  induction t with
  | leaf x =>
    intro hok hl r
    have hr : rd ((Tm.leaf x).enc ++ r) 0 = x := rfl
    refine Ev.step (fun k => by simp only [impl_text.f]; exact rfl) (Ev.pos (by simp [Tm.enc]) ?_)
    rw [hr]
    refine Ev.ite' (fun h3 => Ev.ite' (fun h0 => ?_) (fun h0 => ?_)) (fun h3 => Ev.ite' (fun h10 => ?_) (fun h10 => Ev.ite' (fun h11 => ?_) (fun h11 => ?_)))
    · refine Ev.eq (Ev.some _) ?_
      rw [← leafC_low x ⟨h0, by omega⟩]
      rfl
    · have : (0 ≤ x ∧ x ≤ 2) ∨ x = 10 ∨ x = 11 := hok
      omega
    · subst h10
      exact Ev.some _
    · subst h11
      exact Ev.some _
    · have : (0 ≤ x ∧ x ≤ 2) ∨ x = 10 ∨ x = 11 := hok
      omega
  | neg t ih =>
    intro hok hl r
    have hr : rd ((Tm.neg t).enc ++ r) 0 = 12 := rfl
    have hl' : t.enc.length ≤ 1048576 := by simp only [Tm.enc, List.length_cons] at hl; omega
    have h3 := Tm.lt3 hl'
    refine Ev.step (fun k => by simp only [impl_text.f]; exact rfl) (Ev.pos (by simp [Tm.enc]; omega) ?_)
    rw [hr]
    refine Ev.neg (by decide) (Ev.neg (by decide) (Ev.neg (by decide) (Ev.bind (ih hok hl' r) (Ev.pos rfl (Ev.pos ?_ ?_)))))
    · show 1 + (bs t.txt).size ≤ _
      rw [bs_size]
      omega
    · refine Ev.eq (Ev.some _) ?_
      show ((⟨#[45]⟩ : ByteArray) ++ bs t.txt, r) = _
      rw [neg_bs]
      rfl
  | bin x a b ha hb =>
    intro hok hl r
    obtain ⟨hx, oa, ob⟩ := hok
    have hr : rd ((Tm.bin x a b).enc ++ r) 0 = x := rfl
    have he : ((Tm.bin x a b).enc ++ r).drop 1 = a.enc ++ (b.enc ++ r) := by simp [Tm.enc]
    have hla : a.enc.length ≤ 1048576 := by simp only [Tm.enc, List.length_cons, List.length_append] at hl; omega
    have hlb : b.enc.length ≤ 1048576 := by simp only [Tm.enc, List.length_cons, List.length_append] at hl; omega
    have h3 := Tm.lt3 hla
    have h4 := Tm.lt3 hlb
    have e40 : (⟨#[40]⟩ : ByteArray).size = 1 := rfl
    refine Ev.step (fun k => by simp only [impl_text.f]; exact rfl) (Ev.pos (by simp [Tm.enc]; omega) ?_)
    rw [hr, he, sgn_bin x hx]
    refine Ev.neg (by omega) (Ev.neg (by omega) (Ev.neg (by omega) (Ev.bind (ha oa hla _) (Ev.neg (by omega) (Ev.pos hx (Ev.bind (hb ob hlb r) (Ev.pos ?_ (Ev.pos ?_ (Ev.pos ?_ (Ev.pos ?_ ?_))))))))))
    · simp only [bs_size]
      omega
    · simp only [ByteArray.size_append, e40, bs_size, List.length_cons, List.length_nil]
      omega
    · simp only [ByteArray.size_append, e40, bs_size, List.length_cons, List.length_nil]
      omega
    · simp only [ByteArray.size_append, e40, bs_size, List.length_cons, List.length_nil]
      omega
    · refine Ev.eq (Ev.some _) ?_
      simp only
      rw [bin_bs]
      rfl
theorem spec_text_ev (l : List Int) (hl : l.length ≤ 1048576) : ∀ (t : Tm), t.ok → ∀ i r, l.drop i = t.enc ++ r → Ev (fun k => spec_text.f k l (i : Int)) (bs t.txt) := by
  intro t
  induction t with
  | leaf x =>
    intro hok i r hd
    obtain ⟨h1, h2, h3⟩ := drop_head (show l.drop i = x :: r from hd)
    refine Ev.step (fun k => by simp only [spec_text.f]; exact rfl) (Ev.pos (by omega) (Ev.pos (by omega) ?_))
    rw [h2]
    have hok' : (0 ≤ x ∧ x ≤ 2) ∨ x = 10 ∨ x = 11 := hok
    refine Ev.ite' (fun h10 => ?_) (fun h10 => Ev.ite' (fun h11 => ?_) (fun h11 => Ev.neg (by omega) (Ev.pos (by omega) (Ev.pos (by omega) ?_))))
    · subst h10
      exact Ev.some _
    · subst h11
      exact Ev.some _
    · have e : wrap64 (x + 1) = x + 1 := w64 (by omega) (by omega)
      rw [e]
      refine Ev.pos (by omega) (Ev.pos (by omega) (Ev.eq (Ev.some _) ?_))
      rw [show (x + 1).toNat = x.toNat + 1 by omega, ← leafC_low x (by omega)]
      rfl
  | neg t ih =>
    intro hok i r hd
    obtain ⟨h1, h2, h3⟩ := drop_head (show l.drop i = 12 :: (t.enc ++ r) from hd)
    have hle : t.enc.length ≤ 1048576 := by
      have h4 := congrArg List.length h3
      rw [List.length_drop, List.length_append] at h4
      omega
    have h5 := Tm.lt3 hle
    refine Ev.step (fun k => by simp only [spec_text.f]; exact rfl) (Ev.pos (by omega) (Ev.pos (by omega) ?_))
    rw [h2, w64s h1 (by omega)]
    refine Ev.neg (by decide) (Ev.neg (by decide) (Ev.pos rfl (Ev.bind (ih hok (i + 1) r h3) (Ev.pos ?_ (Ev.eq (Ev.some _) ?_)))))
    · rw [bs_size]
      omega
    · rw [neg_bs]
      rfl
  | bin x a b ha hb =>
    intro hok i r hd
    obtain ⟨hx, oa, ob⟩ := hok
    obtain ⟨h1, h2, h3⟩ := drop_head (show l.drop i = x :: (a.enc ++ (b.enc ++ r)) by rw [hd]; simp [Tm.enc])
    have hE := tm_endI l a oa l.length (i + 1) (b.enc ++ r) h3 (by
      have h4 := congrArg List.length h3
      rw [List.length_drop, List.length_append] at h4
      have := a.dep_le
      omega)
    have hle : a.enc.length ≤ 1048576 ∧ b.enc.length ≤ 1048576 := by
      have h4 := congrArg List.length h3
      rw [List.length_drop, List.length_append, List.length_append] at h4
      omega
    have h5 := Tm.lt3 hle.1
    have h6 := Tm.lt3 hle.2
    have A := ha oa (i + 1) _ h3
    have B := hb ob _ r hE.2
    have E := end_ev l hl l.length (i + 1) (by omega)
    rw [hE.1] at E
    have e40 : (⟨#[40]⟩ : ByteArray).size = 1 := rfl
    have e38 : (⟨#[38]⟩ : ByteArray).size = 1 := rfl
    have e42 : (⟨#[42]⟩ : ByteArray).size = 1 := rfl
    have e62 : (⟨#[62]⟩ : ByteArray).size = 1 := rfl
    have e124 : (⟨#[124]⟩ : ByteArray).size = 1 := rfl
    refine Ev.step (fun k => by simp only [spec_text.f]; exact rfl) (Ev.pos (by omega) (Ev.pos (by omega) ?_))
    rw [h2, w64s h1 (by omega)]
    refine Ev.neg (by omega) (Ev.neg (by omega) (Ev.neg (by omega) (Ev.neg (by omega) ?_)))
    have hcase : x = 13 ∨ x = 14 ∨ x = 15 ∨ x = 16 := by omega
    have key : ∀ c : UInt8, binC x = c → Ev (fun k => (spec_text.f k l ((i + 1 : Nat) : Int)).bind fun t1 => if 1 + t1.size ≤ 9223372036854775807 then (if ((⟨#[40]⟩ : ByteArray) ++ t1).size + 1 ≤ 9223372036854775807 then ((spec_end.f k l ((i + 1 : Nat) : Int)).bind fun t2 => ((spec_text.f k l t2).bind fun t3 => if (((⟨#[40]⟩ : ByteArray) ++ t1) ++ (⟨#[c]⟩ : ByteArray)).size + t3.size ≤ 9223372036854775807 then (if ((((⟨#[40]⟩ : ByteArray) ++ t1) ++ (⟨#[c]⟩ : ByteArray)) ++ t3).size + 1 ≤ 9223372036854775807 then some (((((⟨#[40]⟩ : ByteArray) ++ t1) ++ (⟨#[c]⟩ : ByteArray)) ++ t3) ++ (⟨#[41]⟩ : ByteArray)) else none) else none)) else none) else none) (bs (Tm.bin x a b).txt) := by
      intro c hc
      have ec : (⟨#[c]⟩ : ByteArray).size = 1 := rfl
      refine Ev.bind A (Ev.pos ?_ (Ev.pos ?_ (Ev.bind E (Ev.bind B (Ev.pos ?_ (Ev.pos ?_ (Ev.eq (Ev.some _) ?_)))))))
      · rw [bs_size]
        omega
      · simp only [ByteArray.size_append, e40, bs_size]
        omega
      · simp only [ByteArray.size_append, e40, ec, bs_size]
        omega
      · simp only [ByteArray.size_append, e40, ec, bs_size]
        omega
      · rw [show (⟨#[c]⟩ : ByteArray) = bs [c] from rfl, bin_bs, ← hc]
        rfl
    rcases hcase with e | e | e | e <;> subst e
    · exact Ev.pos rfl (key 38 rfl)
    · exact Ev.neg (by decide) (Ev.pos rfl (key 124 rfl))
    · exact Ev.neg (by decide) (Ev.neg (by decide) (Ev.pos rfl (key 42 rfl)))
    · exact Ev.neg (by decide) (Ev.neg (by decide) (Ev.neg (by decide) (key 62 rfl)))
theorem spec_TermText_no (l : List Int) (hl : l.length ≤ 1048576) (h : termB l = false) : Ev (fun k => spec_TermText.f k l) (⟨#[]⟩ : ByteArray) := by
  unfold spec_TermText.f
  have h1 := spec_ValidTerm_ev l hl
  rw [h] at h1
  have h2 : Ev (fun k => spec_validTerm.f k l) false := Ev.congr (fun k => by unfold spec_ValidTerm.f; cases spec_validTerm.f k l <;> rfl) h1
  exact Ev.bind h2 (Ev.neg (by decide) (Ev.some _))
theorem spec_TermText_tm (t : Tm) (ht : t.ok) (hl : t.enc.length ≤ 15) : Ev (fun k => spec_TermText.f k t.enc) (bs t.txt) := by
  unfold spec_TermText.f
  have h1 := spec_ValidTerm_ev t.enc (by omega)
  rw [(termB_tm t.enc).2 ⟨t, ht, rfl, hl⟩] at h1
  have h2 : Ev (fun k => spec_validTerm.f k t.enc) true := Ev.congr (fun k => by unfold spec_ValidTerm.f; cases spec_validTerm.f k t.enc <;> rfl) h1
  exact Ev.bind h2 (Ev.pos rfl (Ev.bind (spec_text_ev t.enc (by omega) t ht 0 [] (by simp)) (Ev.some _)))
theorem impl_TermText_no (l : List Int) (hl : l.length ≤ 1048576) (h : termB l = false) : Ev (fun k => impl_TermText.f k l) (⟨#[]⟩ : ByteArray) := by
  unfold impl_TermText.f
  have h1 := impl_ValidTerm_ev l hl
  rw [h] at h1
  exact Ev.bind h1 (Ev.neg (by decide) (Ev.some _))
theorem impl_TermText_tm (t : Tm) (ht : t.ok) (hl : t.enc.length ≤ 15) : Ev (fun k => impl_TermText.f k t.enc) (bs t.txt) := by
  unfold impl_TermText.f
  have h1 := impl_ValidTerm_ev t.enc (by omega)
  rw [(termB_tm t.enc).2 ⟨t, ht, rfl, hl⟩] at h1
  have h2 := impl_text_ev t ht (by omega) []
  rw [List.append_nil] at h2
  exact Ev.bind h1 (Ev.pos rfl (Ev.bind h2 (Ev.some _)))
/-- Of the same numbers both tell the same text. -/
theorem TermText_ev (l : List Int) (hl : l.length ≤ 1048576) : ∃ s, Ev (fun k => spec_TermText.f k l) s ∧ Ev (fun k => impl_TermText.f k l) s := by
  cases h : termB l with
  | false => exact ⟨_, spec_TermText_no l hl h, impl_TermText_no l hl h⟩
  | true =>
    obtain ⟨t, ht, rfl, h15⟩ := (termB_tm l).1 h
    exact ⟨_, spec_TermText_tm t ht h15, impl_TermText_tm t ht h15⟩
end Go.Proofs.Ytdcohlllbbcjoaa.M
