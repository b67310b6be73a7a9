/- Properties of algebras by their names: the program and the reference answer the same. -/
import Derived.Test.YtkndndgladdmcaaP43
import Derived.Test.YtkndndgladdmcaaP42
import Derived.Test.YtkndndgladdmcaaP41
import Derived.Test.YtkndndgladdmcaaP45
import Derived.Test.YtkndndgladdmcaaMHolds
namespace Go.Proofs.Ytkndndgladdmcaa.M
set_option linter.unusedVariables false
open Go.RowKit Go.Proofs.YtkndndgladdmcaaW.PrintWords Go.Proofs.YtkndndgladdmcaaW.PrintLast Go.Proofs.YtkndndgladdmcaaW.PrintMore Go.Proofs.Ytkndndgladdmcaa.P

theorem index_ev (a : ByteArray) : Ev (fun k => slices_Index_string_string.f k ([(⟨#[112, 114, 101, 108, 105, 110, 101, 97, 114]⟩ : ByteArray), (⟨#[100, 105, 118, 105, 115, 105, 98, 108, 101]⟩ : ByteArray), (⟨#[105, 110, 118, 111, 108, 117, 116, 105, 118, 101]⟩ : ByteArray), (⟨#[105, 100, 101, 109, 112, 111, 116, 101, 110, 116]⟩ : ByteArray), (⟨#[98, 111, 111, 108, 101, 97, 110]⟩ : ByteArray)] : List ByteArray) a) (if propN a < 5 then (propN a : Int) else -1) := by
  unfold slices_Index_string_string.f propN
  refine Ev.step (fun k => by simp only [slices_Index_string_string.l0]; exact rfl) (Ev.pos (by decide) (Ev.pos (by decide) (Ev.pos (by decide) ?_)))
  rw [show (rdOf ByteArray.empty ([(⟨#[112, 114, 101, 108, 105, 110, 101, 97, 114]⟩ : ByteArray), (⟨#[100, 105, 118, 105, 115, 105, 98, 108, 101]⟩ : ByteArray), (⟨#[105, 110, 118, 111, 108, 117, 116, 105, 118, 101]⟩ : ByteArray), (⟨#[105, 100, 101, 109, 112, 111, 116, 101, 110, 116]⟩ : ByteArray), (⟨#[98, 111, 111, 108, 101, 97, 110]⟩ : ByteArray)] : List ByteArray) (0 : Int)).toList = ([112, 114, 101, 108, 105, 110, 101, 97, 114] : List UInt8) from by decide +kernel]
  by_cases c0 : a.toList = ([112, 114, 101, 108, 105, 110, 101, 97, 114] : List UInt8)
  · rw [if_pos c0]
    exact Ev.pos c0 (Ev.some _)
  rw [if_neg c0]
  refine Ev.neg c0 ?_
  rw [show wrap64 (0 + 1) = 1 from by unfold wrap64; omega]
  refine Ev.step (fun k => by simp only [slices_Index_string_string.l0]; exact rfl) (Ev.pos (by decide) (Ev.pos (by decide) (Ev.pos (by decide) ?_)))
  rw [show (rdOf ByteArray.empty ([(⟨#[112, 114, 101, 108, 105, 110, 101, 97, 114]⟩ : ByteArray), (⟨#[100, 105, 118, 105, 115, 105, 98, 108, 101]⟩ : ByteArray), (⟨#[105, 110, 118, 111, 108, 117, 116, 105, 118, 101]⟩ : ByteArray), (⟨#[105, 100, 101, 109, 112, 111, 116, 101, 110, 116]⟩ : ByteArray), (⟨#[98, 111, 111, 108, 101, 97, 110]⟩ : ByteArray)] : List ByteArray) (1 : Int)).toList = ([100, 105, 118, 105, 115, 105, 98, 108, 101] : List UInt8) from by decide +kernel]
  by_cases c1 : a.toList = ([100, 105, 118, 105, 115, 105, 98, 108, 101] : List UInt8)
  · rw [if_pos c1]
    exact Ev.pos c1 (Ev.some _)
  rw [if_neg c1]
  refine Ev.neg c1 ?_
  rw [show wrap64 (1 + 1) = 2 from by unfold wrap64; omega]
  refine Ev.step (fun k => by simp only [slices_Index_string_string.l0]; exact rfl) (Ev.pos (by decide) (Ev.pos (by decide) (Ev.pos (by decide) ?_)))
  rw [show (rdOf ByteArray.empty ([(⟨#[112, 114, 101, 108, 105, 110, 101, 97, 114]⟩ : ByteArray), (⟨#[100, 105, 118, 105, 115, 105, 98, 108, 101]⟩ : ByteArray), (⟨#[105, 110, 118, 111, 108, 117, 116, 105, 118, 101]⟩ : ByteArray), (⟨#[105, 100, 101, 109, 112, 111, 116, 101, 110, 116]⟩ : ByteArray), (⟨#[98, 111, 111, 108, 101, 97, 110]⟩ : ByteArray)] : List ByteArray) (2 : Int)).toList = ([105, 110, 118, 111, 108, 117, 116, 105, 118, 101] : List UInt8) from by decide +kernel]
  by_cases c2 : a.toList = ([105, 110, 118, 111, 108, 117, 116, 105, 118, 101] : List UInt8)
  · rw [if_pos c2]
    exact Ev.pos c2 (Ev.some _)
  rw [if_neg c2]
  refine Ev.neg c2 ?_
  rw [show wrap64 (2 + 1) = 3 from by unfold wrap64; omega]
  refine Ev.step (fun k => by simp only [slices_Index_string_string.l0]; exact rfl) (Ev.pos (by decide) (Ev.pos (by decide) (Ev.pos (by decide) ?_)))
  rw [show (rdOf ByteArray.empty ([(⟨#[112, 114, 101, 108, 105, 110, 101, 97, 114]⟩ : ByteArray), (⟨#[100, 105, 118, 105, 115, 105, 98, 108, 101]⟩ : ByteArray), (⟨#[105, 110, 118, 111, 108, 117, 116, 105, 118, 101]⟩ : ByteArray), (⟨#[105, 100, 101, 109, 112, 111, 116, 101, 110, 116]⟩ : ByteArray), (⟨#[98, 111, 111, 108, 101, 97, 110]⟩ : ByteArray)] : List ByteArray) (3 : Int)).toList = ([105, 100, 101, 109, 112, 111, 116, 101, 110, 116] : List UInt8) from by decide +kernel]
  by_cases c3 : a.toList = ([105, 100, 101, 109, 112, 111, 116, 101, 110, 116] : List UInt8)
  · rw [if_pos c3]
    exact Ev.pos c3 (Ev.some _)
  rw [if_neg c3]
  refine Ev.neg c3 ?_
  rw [show wrap64 (3 + 1) = 4 from by unfold wrap64; omega]
  refine Ev.step (fun k => by simp only [slices_Index_string_string.l0]; exact rfl) (Ev.pos (by decide) (Ev.pos (by decide) (Ev.pos (by decide) ?_)))
  rw [show (rdOf ByteArray.empty ([(⟨#[112, 114, 101, 108, 105, 110, 101, 97, 114]⟩ : ByteArray), (⟨#[100, 105, 118, 105, 115, 105, 98, 108, 101]⟩ : ByteArray), (⟨#[105, 110, 118, 111, 108, 117, 116, 105, 118, 101]⟩ : ByteArray), (⟨#[105, 100, 101, 109, 112, 111, 116, 101, 110, 116]⟩ : ByteArray), (⟨#[98, 111, 111, 108, 101, 97, 110]⟩ : ByteArray)] : List ByteArray) (4 : Int)).toList = ([98, 111, 111, 108, 101, 97, 110] : List UInt8) from by decide +kernel]
  by_cases c4 : a.toList = ([98, 111, 111, 108, 101, 97, 110] : List UInt8)
  · rw [if_pos c4]
    exact Ev.pos c4 (Ev.some _)
  rw [if_neg c4]
  refine Ev.neg c4 ?_
  rw [show wrap64 (4 + 1) = 5 from by unfold wrap64; omega]
  exact Ev.step (fun k => by simp only [slices_Index_string_string.l0]; exact rfl) (Ev.neg (by decide) (Ev.some _))
theorem isProperty_ev (a : ByteArray) : Ev (fun k => impl_isProperty.f k a) (decide (propN a < 5)) := by
  unfold impl_isProperty.f slices_Contains_string_string.f
  refine Ev.bind (Ev.bind (index_ev a) (Ev.some _)) (Ev.eq (Ev.some _) ?_)
  rw [decide_eq_decide]
  split <;> omega
def isN (up : List Int) (T : List (List Int)) (p : Nat) : Bool := allN up.length fun x => allN up.length fun y => holdsN up T x y p
theorem spec_is_l1 {up : List Int} {T : List (List Int)} (A : Alg up T) (a : ByteArray) (hp : propN a < 5) {x : Nat} (hx : x < up.length) (r : Bool × Bool) : ∀ d y ok, y + d = up.length →
    (∀ ok' : Bool, ok' = (ok && (List.range d).all fun j => holdsN up T x (y + j) (propN a)) → Ev (fun k => spec_is.l0 k a (up.length : Int) ok' ((x + 1 : Nat) : Int) up T) r) →
    Ev (fun k => spec_is.l1 k a (up.length : Int) ok (x : Int) (y : Int) up T) r := by
  have h6 := A.ok.1
  have pos := A.pos
  have hl := A.len
  have rx : (rd_L1 T (x : Int)).length = up.length := A.row x hx
  have a3 := imply_lt A x 0
  intro d
  induction d with
  | zero =>
    intro y ok hy h
    refine Ev.step (fun k => by simp only [spec_is.l1]; exact rfl) (Ev.neg (by omega) ?_)
    rw [w64s hx (by omega)]
    exact h ok (by simp)
  | succ d ih =>
    intro y ok hyd h
    have hy : y < up.length := by omega
    have a1 := imply_lt A x y
    have a2 := imply_lt A y x
    rw [all_step (fun j => holdsN up T x j (propN a))] at h
    have next : ∀ b : Bool, b = (ok && holdsN up T x y (propN a)) → Ev (fun k => spec_is.l1 k a (up.length : Int) b (x : Int) ((y + 1 : Nat) : Int) up T) r := by
      intro b hb
      refine ih (y + 1) b (by omega) fun ok' h' => h ok' ?_
      rw [h', hb, Bool.and_assoc]
    refine Ev.step (fun k => by simp only [spec_is.l1]; exact rfl) (Ev.pos (by omega) ?_)
    rw [w64s hy (by omega), last_eq pos h6]
    unfold propN at next hp
    by_cases c0 : a.toList = ([112, 114, 101, 108, 105, 110, 101, 97, 114] : List UInt8)
    · rw [if_pos c0] at next
      refine Ev.pos c0 ?_
      cases ok with
      | false => exact Ev.neg (by decide) (next false rfl)
      | true =>
        exact Ev.pos rfl (Ev.bind (spec_imply_ev A hx hy) (Ev.bind (spec_imply_ev A hy hx) (Ev.bind (sjoin A.lat a1 a2) (next _ (beq_nat _ _)))))
    rw [if_neg c0] at next hp
    refine Ev.neg c0 ?_
    by_cases c1 : a.toList = ([100, 105, 118, 105, 115, 105, 98, 108, 101] : List UInt8)
    · rw [if_pos c1] at next
      refine Ev.pos c1 ?_
      cases ok with
      | false => exact Ev.neg (by decide) (next false rfl)
      | true =>
        refine Ev.pos rfl (Ev.pos (by omega) (Ev.pos (by omega) (Ev.bind (spec_imply_ev A hx hy) ?_)))
        rw [show rd (rd_L1 T (x : Int)) (implyN up T x y : Int) = (tN T x (implyN up T x y) : Int) from A.val _ _ hx a1]
        exact Ev.pos (by omega) (Ev.pos (by omega) (Ev.bind (smeet A.lat hx hy) (next _ (beq_nat _ _))))
    rw [if_neg c1] at next hp
    refine Ev.neg c1 ?_
    by_cases c2 : a.toList = ([105, 110, 118, 111, 108, 117, 116, 105, 118, 101] : List UInt8)
    · rw [if_pos c2] at next
      refine Ev.pos c2 ?_
      cases ok with
      | false => exact Ev.neg (by decide) (next false rfl)
      | true =>
        exact Ev.pos rfl (Ev.bind (spec_not_ev A hx) (Ev.bind (spec_not_ev A a3) (next _ (beq_nat _ _))))
    rw [if_neg c2] at next hp
    refine Ev.neg c2 ?_
    by_cases c3 : a.toList = ([105, 100, 101, 109, 112, 111, 116, 101, 110, 116] : List UInt8)
    · rw [if_pos c3] at next
      refine Ev.pos c3 ?_
      cases ok with
      | false => exact Ev.neg (by decide) (next false rfl)
      | true =>
        rw [show rd (rd_L1 T (x : Int)) (x : Int) = (tN T x x : Int) from A.val _ _ hx hx]
        exact Ev.pos rfl (Ev.pos (by omega) (Ev.pos (by omega) (Ev.pos (by omega) (next _ (beq_nat _ _)))))
    rw [if_neg c3] at next hp
    refine Ev.neg c3 ?_
    by_cases c4 : a.toList = ([98, 111, 111, 108, 101, 97, 110] : List UInt8)
    · rw [if_pos c4] at next
      refine Ev.pos c4 ?_
      cases ok with
      | false => exact Ev.neg (by decide) (next false rfl)
      | true =>
        exact Ev.pos rfl (Ev.bind (spec_not_ev A hx) (Ev.bind (sjoin A.lat hx a3) (next _ (beq_nat _ _))))
    rw [if_neg c4] at next hp
    refine Ev.neg c4 ?_
    exact absurd hp (by decide)
theorem spec_is_l0 {up : List Int} {T : List (List Int)} (A : Alg up T) (a : ByteArray) (hp : propN a < 5) : ∀ d x ok, x + d = up.length →
    Ev (fun k => spec_is.l0 k a (up.length : Int) ok (x : Int) up T) (ok && (List.range d).all fun i => allN up.length fun y => holdsN up T (x + i) y (propN a), true) := by
  intro d
  induction d with
  | zero =>
    intro x ok hx
    exact Ev.step (fun k => by simp only [spec_is.l0]; exact rfl) (Ev.neg (by omega) (Ev.eq (Ev.some _) (by simp)))
  | succ d ih =>
    intro x ok hxd
    have hx : x < up.length := by omega
    refine Ev.step (fun k => by simp only [spec_is.l0]; exact rfl) (Ev.pos (by omega) ?_)
    refine spec_is_l1 A a hp hx _ up.length 0 ok (by omega) fun ok' h' => ?_
    rw [all_step (fun i => allN up.length fun y => holdsN up T i y (propN a)), ← Bool.and_assoc]
    have : ok' = (ok && allN up.length fun y => holdsN up T x y (propN a)) := by
      rw [h']
      unfold allN
      simp
    rw [← this]
    exact ih (x + 1) ok' (by omega)
theorem spec_is_no {up : List Int} {T : List (List Int)} (A : Alg up T) (a : ByteArray) (hp : ¬ propN a < 5) : Ev (fun k => spec_is.f k a up T) (false, false) := by
  have pos := A.pos
  unfold spec_is.f
  refine Ev.step (fun k => by simp only [spec_is.l0]; exact rfl) (Ev.pos (by omega) ?_)
  refine Ev.step (fun k => by simp only [spec_is.l1]; exact rfl) (Ev.pos (by omega) ?_)
  unfold propN at hp
  by_cases c0 : a.toList = ([112, 114, 101, 108, 105, 110, 101, 97, 114] : List UInt8)
  · rw [if_pos c0] at hp
    exact absurd (by decide) hp
  rw [if_neg c0] at hp
  refine Ev.neg c0 ?_
  by_cases c1 : a.toList = ([100, 105, 118, 105, 115, 105, 98, 108, 101] : List UInt8)
  · rw [if_pos c1] at hp
    exact absurd (by decide) hp
  rw [if_neg c1] at hp
  refine Ev.neg c1 ?_
  by_cases c2 : a.toList = ([105, 110, 118, 111, 108, 117, 116, 105, 118, 101] : List UInt8)
  · rw [if_pos c2] at hp
    exact absurd (by decide) hp
  rw [if_neg c2] at hp
  refine Ev.neg c2 ?_
  by_cases c3 : a.toList = ([105, 100, 101, 109, 112, 111, 116, 101, 110, 116] : List UInt8)
  · rw [if_pos c3] at hp
    exact absurd (by decide) hp
  rw [if_neg c3] at hp
  refine Ev.neg c3 ?_
  by_cases c4 : a.toList = ([98, 111, 111, 108, 101, 97, 110] : List UInt8)
  · rw [if_pos c4] at hp
    exact absurd (by decide) hp
  rw [if_neg c4] at hp
  refine Ev.neg c4 ?_
  exact Ev.some _
def HasPropertyM (a : ByteArray) (up : List Int) (T : List (List Int)) : Bool := decide (propN a < 5) && (algB up T && isN up T (propN a))
theorem spec_HasProperty_ev (a : ByteArray) (up : List Int) (T : List (List Int)) (hl : up.length ≤ 17592186044416) : Ev (fun k => spec_HasProperty.f k a up T) (HasPropertyM a up T) := by
  unfold spec_HasProperty.f HasPropertyM
  refine Ev.bind (spec_validAlgebra_ev up T hl) ?_
  cases hb : algB up T with
  | false => exact Ev.neg (by decide) (Ev.eq (Ev.some _) (by simp))
  | true =>
    refine Ev.pos rfl ?_
    by_cases hp : propN a < 5
    · have h := spec_is_l0 (Alg.of hb) a hp up.length 0 true (by omega)
      refine Ev.bind (show Ev (fun k => spec_is.f k a up T) _ from h) (Ev.eq (Ev.some _) ?_)
      rw [decide_eq_true hp]
      unfold isN allN
      simp
    · refine Ev.bind (spec_is_no (Alg.of hb) a hp) (Ev.eq (Ev.some _) ?_)
      rw [decide_eq_false hp]
      rfl
theorem impl_HasProperty_ev (a : ByteArray) (up : List Int) (T : List (List Int)) (hl : up.length ≤ 17592186044416) : Ev (fun k => impl_HasProperty.f k a up T) (HasPropertyM a up T) := by
  unfold impl_HasProperty.f HasPropertyM
  refine Ev.bind (isProperty_ev a) ?_
  by_cases hp : propN a < 5
  · rw [decide_eq_true hp]
    refine Ev.pos rfl (Ev.bind (impl_ValidAlgebra_ev up T hl) (Ev.step (fun k => by simp only [impl_HasProperty.j0]; exact rfl) ?_))
    cases hb : algB up T with
    | false => exact Ev.pos rfl (Ev.some _)
    | true =>
      have A := Alg.of hb
      have h6 := A.ok.1
      refine Ev.neg (by decide) ?_
      rw [Bool.true_and, Bool.true_and]
      refine ev_all (fun k i => impl_HasProperty.l0 k a (up.length : Int) i up T) up.length (fun x => allN up.length fun y => holdsN up T x y (propN a)) _ ?_ (fun e => ?_) (fun e => e)
      · intro x hx r k1 k2
        refine Ev.step (fun k => by simp only [impl_HasProperty.l0]; exact rfl) (Ev.pos (by omega) ?_)
        refine ev_all (fun k i => impl_HasProperty.l1 k a (x : Int) (up.length : Int) (x : Int) (up.length : Int) i up T) up.length (fun y => holdsN up T x y (propN a)) r ?_ (fun e => ?_) k2
        · intro y hy r q1 q2
          refine Ev.step (fun k => by simp only [impl_HasProperty.l1]; exact rfl) (Ev.pos (by omega) (Ev.bind (impl_holds_ev A a hx hy) ?_))
          rw [w64s hy (by omega)]
          cases hh : holdsN up T x y (propN a) with
          | true => exact Ev.pos rfl (q1 hh)
          | false =>
            rw [q2 hh]
            exact Ev.neg (by decide) (Ev.some _)
        · refine Ev.step (fun k => by simp only [impl_HasProperty.l1]; exact rfl) (Ev.neg (by omega) ?_)
          rw [w64s hx (by omega)]
          exact k1 e
      · refine Ev.step (fun k => by simp only [impl_HasProperty.l0]; exact rfl) (Ev.neg (by omega) ?_)
        rw [show isN up T (propN a) = true from e]
        exact Ev.some _
  · rw [decide_eq_false hp]
    refine Ev.neg (by decide) (Ev.step (fun k => by simp only [impl_HasProperty.j0]; exact rfl) ?_)
    exact Ev.pos trivial (Ev.some _)
end Go.Proofs.Ytkndndgladdmcaa.M
