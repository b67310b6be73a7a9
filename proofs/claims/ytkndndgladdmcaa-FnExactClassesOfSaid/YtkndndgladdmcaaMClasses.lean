/- The least elements that are as others by a filter: the program and the reference list the same. -/
import Derived.Test.YtkndndgladdmcaaP79
import Derived.Test.YtkndndgladdmcaaP81
import Derived.Test.YtkndndgladdmcaaP80
import Derived.Test.YtkndndgladdmcaaP82
import Derived.Test.YtkndndgladdmcaaMFilt
import Derived.Test.YtkndndgladdmcaaMNear
namespace Go.Proofs.Ytkndndgladdmcaa.M
set_option linter.unusedVariables false
open Go.RowKit Go.Proofs.YtkndndgladdmcaaW.PrintWords Go.Proofs.YtkndndgladdmcaaW.PrintLast Go.Proofs.YtkndndgladdmcaaW.PrintMore Go.Proofs.Ytkndndgladdmcaa.P

/-- x is as y by a set. -/
def asB (up : List Int) (T : List (List Int)) (F x y : Nat) : Bool := F.testBit (nearN up T x y)
/-- The least element, below d, that x is as; otherwise a. -/
def leastB (up : List Int) (T : List (List Int)) (F x : Nat) : Nat → Nat → Nat
  | 0, a => a
  | d + 1, a => leastB up T F x d (if asB up T F x d = true then d else a)
theorem leastB_spec (up : List Int) (T : List (List Int)) (F x : Nat) : ∀ d a, (leastB up T F x d a = a ∧ ∀ y, y < d → asB up T F x y = false) ∨ (leastB up T F x d a < d ∧ asB up T F x (leastB up T F x d a) = true ∧ ∀ y, y < leastB up T F x d a → asB up T F x y = false) := by
  intro d
  induction d with
  | zero => intro a; exact .inl ⟨rfl, fun y hy => by omega⟩
  | succ d ih =>
    intro a
    show (leastB up T F x d (if asB up T F x d = true then d else a) = a ∧ _) ∨ (leastB up T F x d (if asB up T F x d = true then d else a) < d + 1 ∧ asB up T F x (leastB up T F x d (if asB up T F x d = true then d else a)) = true ∧ ∀ y, y < leastB up T F x d (if asB up T F x d = true then d else a) → asB up T F x y = false)
    cases h : asB up T F x d with
    | true =>
      rw [if_pos rfl]
      rcases ih d with ⟨e, h2⟩ | ⟨e, h2, h3⟩
      · rw [e]
        exact .inr ⟨by omega, h, h2⟩
      · exact .inr ⟨by omega, h2, h3⟩
    | false =>
      rw [if_neg (by decide)]
      rcases ih a with ⟨e, h2⟩ | ⟨e, h2, h3⟩
      · refine .inl ⟨e, fun y hy => ?_⟩
        by_cases c : y = d
        · rw [c]; exact h
        · exact h2 y (by omega)
      · exact .inr ⟨by omega, h2, h3⟩
/-- The least element that x is as. -/
def classN (up : List Int) (T : List (List Int)) (F x : Nat) : Nat := leastB up T F x x x
theorem as_self {up : List Int} {T : List (List Int)} (A : Alg up T) {F x : Nat} (hF : filtB up T F = true) (hx : x < up.length) : asB up T F x x = true := by
  unfold asB
  rw [near_self A hx]
  unfold filtB at hF
  rw [Bool.and_eq_true] at hF
  exact hF.1
theorem class_spec {up : List Int} {T : List (List Int)} (A : Alg up T) {F x : Nat} (hF : filtB up T F = true) (hx : x < up.length) : classN up T F x ≤ x ∧ asB up T F x (classN up T F x) = true ∧ ∀ y, y < classN up T F x → asB up T F x y = false := by
  unfold classN
  rcases leastB_spec up T F x x x with ⟨e, h2⟩ | ⟨e, h2, h3⟩
  · rw [e]
    exact ⟨Nat.le_refl _, as_self A hF hx, h2⟩
  · exact ⟨by omega, h2, h3⟩
def classL (up : List Int) (T : List (List Int)) (F n : Nat) : List Int := (List.range n).map fun x => ((classN up T F x : Nat) : Int)
theorem classL_succ (up : List Int) (T : List (List Int)) (F n : Nat) : classL up T F (n + 1) = classL up T F n ++ [((classN up T F n : Nat) : Int)] := by
  unfold classL
  rw [List.range_succ, List.map_append]
  rfl
theorem classL_len (up : List Int) (T : List (List Int)) (F n : Nat) : (classL up T F n).length = n := by simp [classL]
theorem spec_class_l1 {up : List Int} {T : List (List Int)} (A : Alg up T) {F x : Nat} (h64 : F < 64) (hx : x < up.length) (s : List Int) (hs : s.length ≤ 64) (r : List Int) : ∀ d a : Nat, d ≤ x →
    Ev (fun k => spec_classes.l0 k (F : Int) (s ++ [((leastB up T F x d a : Nat) : Int)]) ((x + 1 : Nat) : Int) up T) r →
    Ev (fun k => spec_classes.l1 k (F : Int) s (x : Int) (a : Int) ((d : Int) - 1) up T) r := by
  have h6 := A.ok.1
  intro d
  induction d with
  | zero =>
    intro a _ h
    refine Ev.step (fun k => by simp only [spec_classes.l1]; exact rfl) (Ev.neg (by omega) (Ev.pos (by omega) ?_))
    rw [w64s hx (by omega)]
    exact h
  | succ d ih =>
    intro a hd h
    refine Ev.step (fun k => by simp only [spec_classes.l1]; exact rfl) ?_
    rw [show ((d + 1 : Nat) : Int) - 1 = (d : Int) by omega, w64 (x := (d : Int) - 1) (by omega) (by omega)]
    have hn := near_lt A x d
    refine Ev.pos (by omega) (Ev.bind (spec_near_ev A hx (by omega)) (Ev.bind (sbit F _ h64 (by omega)) ?_))
    have h' : Ev (fun k => spec_classes.l0 k (F : Int) (s ++ [((leastB up T F x d (if asB up T F x d = true then d else a) : Nat) : Int)]) ((x + 1 : Nat) : Int) up T) r := h
    unfold asB at h'
    cases hb : F.testBit (nearN up T x d) with
    | true =>
      rw [hb, if_pos rfl] at h'
      exact Ev.pos rfl (ih d (by omega) h')
    | false =>
      rw [hb, if_neg (by decide)] at h'
      exact Ev.neg (by decide) (ih a (by omega) h')
theorem spec_classes_ev {up : List Int} {T : List (List Int)} (A : Alg up T) {F : Nat} (h64 : F < 64) : Ev (fun k => spec_classes.f k up T (F : Int)) (classL up T F up.length) := by
  have h6 := A.ok.1
  unfold spec_classes.f
  refine ev_inv2 (fun k (s : List Int) i => spec_classes.l0 k (F : Int) s i up T) up.length (fun i s => s = classL up T F i) _ ?_ ?_ up.length 0 [] (by omega) rfl
  · intro x hx s hs h
    subst hs
    have hn := classL_len up T F x
    refine Ev.step (fun k => by simp only [spec_classes.l0]; exact rfl) (Ev.pos (by omega) ?_)
    rw [w64 (x := (x : Int) - 1) (by omega) (by omega)]
    exact spec_class_l1 A h64 hx _ (by omega) _ x x (Nat.le_refl _) (h _ (classL_succ up T F x).symm)
  · intro s hs
    subst hs
    exact Ev.step (fun k => by simp only [spec_classes.l0]; exact rfl) (Ev.neg (by omega) (Ev.some _))
theorem impl_class_l1 {up : List Int} {T : List (List Int)} (A : Alg up T) {F x c : Nat} (h64 : F < 64) (hx : x < up.length) (s : List Int) (hs : s.length ≤ 64) (r : List Int) (hc : c ≤ x) (h1 : asB up T F x c = true) (h0 : ∀ y, y < c → asB up T F x y = false)
    (h : Ev (fun k => impl_classes.l0 k (F : Int) (s ++ [(c : Int)]) (up.length : Int) ((x + 1 : Nat) : Int) up T) r) : ∀ d y : Nat, y + d = c → Ev (fun k => impl_classes.l1 k (F : Int) s (x : Int) (y : Int) (up.length : Int) (x : Int) up T) r := by
  have h6 := A.ok.1
  intro d
  induction d with
  | zero =>
    intro y hy
    obtain rfl : y = c := by omega
    refine Ev.step (fun k => by simp only [impl_classes.l1]; exact rfl) (Ev.bind (impl_near_ev A hx (by omega)) (Ev.bindc (has_eq F _ h64) ?_))
    rw [show F.testBit (nearN up T x y) = true from h1, w64s hx (by omega)]
    exact Ev.pos rfl (Ev.pos (by omega) h)
  | succ d ih =>
    intro y hy
    refine Ev.step (fun k => by simp only [impl_classes.l1]; exact rfl) (Ev.bind (impl_near_ev A hx (by omega)) (Ev.bindc (has_eq F _ h64) ?_))
    rw [show F.testBit (nearN up T x y) = false from h0 y (by omega), w64s (i := y) (n := up.length) (by omega) (by omega)]
    exact Ev.neg (by decide) (ih (y + 1) (by omega))
theorem impl_classes_ev {up : List Int} {T : List (List Int)} (A : Alg up T) {F : Nat} (h64 : F < 64) (hF : filtB up T F = true) : Ev (fun k => impl_classes.f k up T (F : Int)) (classL up T F up.length) := by
  have h6 := A.ok.1
  unfold impl_classes.f
  refine ev_inv2 (fun k (s : List Int) i => impl_classes.l0 k (F : Int) s (up.length : Int) i up T) up.length (fun i s => s = classL up T F i) _ ?_ ?_ up.length 0 [] (by omega) rfl
  · intro x hx s hs h
    subst hs
    have hn := classL_len up T F x
    obtain ⟨c1, c2, c3⟩ := class_spec A hF hx
    refine Ev.step (fun k => by simp only [impl_classes.l0]; exact rfl) (Ev.pos (by omega) ?_)
    exact impl_class_l1 A h64 hx _ (by omega) _ c1 c2 c3 (h _ (classL_succ up T F x).symm) (classN up T F x) 0 (by omega)
  · intro s hs
    subst hs
    exact Ev.step (fun k => by simp only [impl_classes.l0]; exact rfl) (Ev.neg (by omega) (Ev.some _))
def ClassesOfM (up : List Int) (T : List (List Int)) (f : Int) : List Int := if isFilterB up T f = true then classL up T f.toNat up.length else []
theorem ClassesOfM_len (up : List Int) (T : List (List Int)) (f : Int) : (ClassesOfM up T f).length ≤ 64 := by
  unfold ClassesOfM
  split
  · rename_i h
    unfold isFilterB at h
    rw [Bool.and_eq_true] at h
    have h6 := (Alg.of h.1).ok.1
    rw [classL_len]
    omega
  · simp
theorem spec_ClassesOf_ev (up : List Int) (T : List (List Int)) (f : Int) (hl : up.length ≤ 17592186044416) : Ev (fun k => spec_ClassesOf.f k up T f) (ClassesOfM up T f) := by
  unfold spec_ClassesOf.f ClassesOfM isFilterB
  refine Ev.bind (spec_validAlgebra_ev up T hl) ?_
  cases hb : algB up T with
  | false => exact Ev.neg (by decide) (Ev.some _)
  | true =>
    have A := Alg.of hb
    refine Ev.pos rfl ?_
    cases hs : setB up f with
    | false =>
      refine Ev.bind (spec_isFilter_no A (of_decide_eq_false hs)) ?_
      exact Ev.neg (by decide) (Ev.some _)
    | true =>
      obtain ⟨F, rfl, hF⟩ := setB_nat hs
      refine Ev.bind (spec_isFilter_ev A hF) ?_
      rw [Int.toNat_natCast]
      cases hf : filtB up T F with
      | false => exact Ev.neg (by decide) (Ev.some _)
      | true => exact Ev.pos rfl (Ev.bind (spec_classes_ev A (pow64 A.ok.1 hF)) (Ev.some _))
theorem impl_ClassesOf_ev (up : List Int) (T : List (List Int)) (f : Int) (hl : up.length ≤ 17592186044416) : Ev (fun k => impl_ClassesOf.f k up T f) (ClassesOfM up T f) := by
  unfold impl_ClassesOf.f ClassesOfM
  refine Ev.bind (impl_IsFilter_ev up T f hl) ?_
  cases hg : isFilterB up T f with
  | false => exact Ev.neg (by decide) (Ev.some _)
  | true =>
    unfold isFilterB at hg
    rw [Bool.and_eq_true, Bool.and_eq_true] at hg
    have A := Alg.of hg.1
    obtain ⟨F, rfl, hF⟩ := setB_nat hg.2.1
    have hf := hg.2.2
    rw [Int.toNat_natCast] at hf
    rw [if_pos rfl, Int.toNat_natCast]
    exact Ev.pos rfl (Ev.bind (impl_classes_ev A (pow64 A.ok.1 hF) hf) (Ev.some _))
end Go.Proofs.Ytkndndgladdmcaa.M
