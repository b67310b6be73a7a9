/- What is asked of elements of an algebra: implications, opposites, powers and depths; the program and the reference answer the same. -/
import Derived.Test.YtkndndgladdmcaaP24
import Derived.Test.YtkndndgladdmcaaP26
import Derived.Test.YtkndndgladdmcaaP28
import Derived.Test.YtkndndgladdmcaaP30
import Derived.Test.YtkndndgladdmcaaP32
import Derived.Test.YtkndndgladdmcaaP31
import Derived.Test.YtkndndgladdmcaaP33
import Derived.Test.YtkndndgladdmcaaP35
import Derived.Test.YtkndndgladdmcaaP36
import Derived.Test.YtkndndgladdmcaaP38
import Derived.Test.YtkndndgladdmcaaP39
import Derived.Test.YtkndndgladdmcaaMAlgFn
import Derived.Test.YtkndndgladdmcaaMAlgAt
import Derived.Test.YtkndndgladdmcaaMDepth
namespace Go.Proofs.Ytkndndgladdmcaa.M
set_option linter.unusedVariables false
open Go.RowKit Go.Proofs.YtkndndgladdmcaaW.PrintWords Go.Proofs.YtkndndgladdmcaaW.PrintLast Go.Proofs.YtkndndgladdmcaaW.PrintMore Go.Proofs.Ytkndndgladdmcaa.P

def atB (up : List Int) (T : List (List Int)) (x y : Int) : Bool := algB up T && (inB up x && inB up y)
def ImplyOfM (up : List Int) (T : List (List Int)) (x y : Int) : Int := if atB up T x y = true then (implyN up T x.toNat y.toNat : Int) else -1
theorem spec_ImplyOf_ev (up : List Int) (T : List (List Int)) (x y : Int) (hl : up.length ≤ 17592186044416) : Ev (fun k => spec_ImplyOf.f k up T x y) (ImplyOfM up T x y) := by
  unfold spec_ImplyOf.f ImplyOfM atB
  refine Ev.bind (spec_has_ev up T x y hl) ?_
  cases hg : (algB up T && (inB up x && inB up y)) with
  | false => exact Ev.neg (by decide) (Ev.some _)
  | true =>
    obtain ⟨A, a, b, rfl, rfl, ha, hb⟩ := at_cases hg
    exact Ev.pos rfl (Ev.bind (spec_imply_ev A ha hb) (Ev.const (by simp)))
theorem impl_ImplyOf_ev (up : List Int) (T : List (List Int)) (x y : Int) (hl : up.length ≤ 17592186044416) : Ev (fun k => impl_ImplyOf.f k up T x y) (ImplyOfM up T x y) := by
  unfold impl_ImplyOf.f ImplyOfM atB
  refine Ev.bind (impl_at_ev up T [x, y] hl (by simp)) ?_
  rw [two_inA]
  cases hg : (algB up T && (inB up x && inB up y)) with
  | false => exact Ev.neg (by decide) (Ev.some _)
  | true =>
    obtain ⟨A, a, b, rfl, rfl, ha, hb⟩ := at_cases hg
    exact Ev.pos rfl (Ev.bind (impl_imply_ev A ha hb) (Ev.const (by simp)))
theorem spec_not_ev {up : List Int} {T : List (List Int)} (A : Alg up T) {x : Nat} (hx : x < up.length) : Ev (fun k => spec_imply.f k up T (x : Int) 0) (implyN up T x 0 : Int) := spec_imply_ev A hx (y := 0) A.pos
theorem impl_not_ev {up : List Int} {T : List (List Int)} (A : Alg up T) {x : Nat} (hx : x < up.length) : Ev (fun k => impl_not.f k up T (x : Int)) (implyN up T x 0 : Int) := by
  unfold impl_not.f
  exact Ev.bind (impl_imply_ev A hx (y := 0) A.pos) (Ev.some _)
def NotOfM (up : List Int) (T : List (List Int)) (x : Int) : Int := if atB up T x x = true then (implyN up T x.toNat 0 : Int) else -1
theorem spec_NotOf_ev (up : List Int) (T : List (List Int)) (x : Int) (hl : up.length ≤ 17592186044416) : Ev (fun k => spec_NotOf.f k up T x) (NotOfM up T x) := by
  unfold spec_NotOf.f NotOfM atB
  refine Ev.bind (spec_has_ev up T x x hl) ?_
  cases hg : (algB up T && (inB up x && inB up x)) with
  | false => exact Ev.neg (by decide) (Ev.some _)
  | true =>
    obtain ⟨A, a, b, rfl, _, ha, _⟩ := at_cases hg
    exact Ev.pos rfl (Ev.bind (spec_not_ev A ha) (Ev.const (by simp)))
theorem impl_NotOf_ev (up : List Int) (T : List (List Int)) (x : Int) (hl : up.length ≤ 17592186044416) : Ev (fun k => impl_NotOf.f k up T x) (NotOfM up T x) := by
  unfold impl_NotOf.f NotOfM atB
  refine Ev.bind (impl_at_ev up T [x] hl (by simp)) ?_
  rw [one_inA]
  cases hg : (algB up T && (inB up x && inB up x)) with
  | false => exact Ev.neg (by decide) (Ev.some _)
  | true =>
    obtain ⟨A, a, b, rfl, _, ha, _⟩ := at_cases hg
    exact Ev.pos rfl (Ev.bind (impl_not_ev A ha) (Ev.const (by simp)))
theorem spec_near_ev {up : List Int} {T : List (List Int)} (A : Alg up T) {x y : Nat} (hx : x < up.length) (hy : y < up.length) : Ev (fun k => spec_near.f k up T (x : Int) (y : Int)) (nearN up T x y : Int) := by
  unfold spec_near.f nearN
  have hl := A.len
  have a := imply_lt A x y
  have b := imply_lt A y x
  have r : (rd_L1 T (implyN up T x y : Int)).length = up.length := A.row _ a
  refine Ev.bind (spec_imply_ev A hx hy) (Ev.pos (by omega) (Ev.pos (by omega) (Ev.bind (spec_imply_ev A hy hx) (Ev.pos (by omega) (Ev.pos (by omega) (Ev.eq (Ev.some _) ?_))))))
  exact A.val _ _ a b
theorem impl_near_ev {up : List Int} {T : List (List Int)} (A : Alg up T) {x y : Nat} (hx : x < up.length) (hy : y < up.length) : Ev (fun k => impl_near.f k up T (x : Int) (y : Int)) (nearN up T x y : Int) := by
  unfold impl_near.f nearN
  have hl := A.len
  have a := imply_lt A x y
  have b := imply_lt A y x
  have r : (rd_L1 T (implyN up T x y : Int)).length = up.length := A.row _ a
  refine Ev.bind (impl_imply_ev A hx hy) (Ev.pos (by omega) (Ev.pos (by omega) (Ev.bind (impl_imply_ev A hy hx) (Ev.pos (by omega) (Ev.pos (by omega) (Ev.eq (Ev.some _) ?_))))))
  exact A.val _ _ a b
def NearOfM (up : List Int) (T : List (List Int)) (x y : Int) : Int := if atB up T x y = true then (nearN up T x.toNat y.toNat : Int) else -1
theorem spec_NearOf_ev (up : List Int) (T : List (List Int)) (x y : Int) (hl : up.length ≤ 17592186044416) : Ev (fun k => spec_NearOf.f k up T x y) (NearOfM up T x y) := by
  unfold spec_NearOf.f NearOfM atB
  refine Ev.bind (spec_has_ev up T x y hl) ?_
  cases hg : (algB up T && (inB up x && inB up y)) with
  | false => exact Ev.neg (by decide) (Ev.some _)
  | true =>
    obtain ⟨A, a, b, rfl, rfl, ha, hb⟩ := at_cases hg
    exact Ev.pos rfl (Ev.bind (spec_near_ev A ha hb) (Ev.const (by simp)))
theorem impl_NearOf_ev (up : List Int) (T : List (List Int)) (x y : Int) (hl : up.length ≤ 17592186044416) : Ev (fun k => impl_NearOf.f k up T x y) (NearOfM up T x y) := by
  unfold impl_NearOf.f NearOfM atB
  refine Ev.bind (impl_at_ev up T [x, y] hl (by simp)) ?_
  rw [two_inA]
  cases hg : (algB up T && (inB up x && inB up y)) with
  | false => exact Ev.neg (by decide) (Ev.some _)
  | true =>
    obtain ⟨A, a, b, rfl, rfl, ha, hb⟩ := at_cases hg
    exact Ev.pos rfl (Ev.bind (impl_near_ev A ha hb) (Ev.const (by simp)))
theorem spec_pow_l0 {up : List Int} {T : List (List Int)} (A : Alg up T) {x : Nat} (hx : x < up.length) : ∀ m j : Nat, m ≤ 1000 → Ev (fun k => spec_pow.l0 k (x : Int) (m : Int) (powN up T x j : Int) up T) (powN up T x (j + m) : Int) := by
  intro m
  induction m with
  | zero => intro j _; exact Ev.step (fun k => by simp only [spec_pow.l0]; exact rfl) (Ev.neg (by omega) (Ev.some _))
  | succ m ih =>
    intro j hm
    have hp := pow_lt A hx j
    have hl := A.len
    have r : (rd_L1 T (powN up T x j : Int)).length = up.length := A.row _ hp
    refine Ev.step (fun k => by simp only [spec_pow.l0]; exact rfl) (Ev.pos (by omega) (Ev.pos (by omega) (Ev.pos (by omega) (Ev.pos (by omega) (Ev.pos (by omega) ?_)))))
    rw [w64 (by omega) (by omega), show ((m + 1 : Nat) : Int) - 1 = (m : Int) by omega, show rd (rd_L1 T (powN up T x j : Int)) (x : Int) = (powN up T x (j + 1) : Int) from A.val _ _ hp hx, show j + (m + 1) = (j + 1) + m by omega]
    exact ih (j + 1) (by omega)
theorem impl_pow_l0 {up : List Int} {T : List (List Int)} (A : Alg up T) {x : Nat} (hx : x < up.length) : ∀ m j : Nat, m ≤ 1000 → Ev (fun k => impl_power.l0 k (x : Int) (m : Int) (powN up T x j : Int) up T) (powN up T x (j + m) : Int) := by
  intro m
  induction m with
  | zero => intro j _; exact Ev.step (fun k => by simp only [impl_power.l0]; exact rfl) (Ev.neg (by omega) (Ev.some _))
  | succ m ih =>
    intro j hm
    have hp := pow_lt A hx j
    have hl := A.len
    have r : (rd_L1 T (powN up T x j : Int)).length = up.length := A.row _ hp
    refine Ev.step (fun k => by simp only [impl_power.l0]; exact rfl) (Ev.pos (by omega) (Ev.pos (by omega) (Ev.pos (by omega) (Ev.pos (by omega) (Ev.pos (by omega) ?_)))))
    rw [w64 (by omega) (by omega), show ((m + 1 : Nat) : Int) - 1 = (m : Int) by omega, show rd (rd_L1 T (powN up T x j : Int)) (x : Int) = (powN up T x (j + 1) : Int) from A.val _ _ hp hx, show j + (m + 1) = (j + 1) + m by omega]
    exact ih (j + 1) (by omega)
theorem spec_pow_ev {up : List Int} {T : List (List Int)} (A : Alg up T) {x : Nat} (hx : x < up.length) (m : Nat) (hm : m ≤ 1000) : Ev (fun k => spec_pow.f k up T (x : Int) (m : Int)) (powN up T x m : Int) := by
  unfold spec_pow.f
  rw [last_eq A.pos A.ok.1]
  have h := spec_pow_l0 A hx m 0 hm
  rwa [Nat.zero_add] at h
theorem impl_pow_ev {up : List Int} {T : List (List Int)} (A : Alg up T) {x : Nat} (hx : x < up.length) (m : Nat) (hm : m ≤ 1000) : Ev (fun k => impl_power.f k up T (x : Int) (m : Int)) (powN up T x m : Int) := by
  unfold impl_power.f
  rw [last_eq A.pos A.ok.1]
  have h := impl_pow_l0 A hx m 0 hm
  rwa [Nat.zero_add] at h
def PowerOfM (up : List Int) (T : List (List Int)) (x m : Int) : Int := if atB up T x x = true then (if 0 ≤ m ∧ m ≤ 20 then (powN up T x.toNat m.toNat : Int) else -1) else -1
theorem spec_PowerOf_ev (up : List Int) (T : List (List Int)) (x m : Int) (hl : up.length ≤ 17592186044416) : Ev (fun k => spec_PowerOf.f k up T x m) (PowerOfM up T x m) := by
  unfold spec_PowerOf.f PowerOfM atB
  refine Ev.bind (spec_has_ev up T x x hl) ?_
  cases hg : (algB up T && (inB up x && inB up x)) with
  | false => exact Ev.neg (by decide) (Ev.some _)
  | true =>
    obtain ⟨A, a, b, rfl, _, ha, _⟩ := at_cases hg
    refine Ev.pos rfl (Ev.bindc (inRange_eq m 0 20) ?_)
    rw [if_pos rfl]
    by_cases c : 0 ≤ m ∧ m ≤ 20
    · obtain ⟨n, rfl⟩ : ∃ n : Nat, m = (n : Int) := ⟨m.toNat, by omega⟩
      rw [if_pos c]
      exact Ev.pos (decide_eq_true c) (Ev.bind (spec_pow_ev A ha n (by omega)) (Ev.const (by simp)))
    · rw [if_neg c]
      exact Ev.neg (by rw [decide_eq_true_eq]; exact c) (Ev.some _)
theorem impl_PowerOf_ev (up : List Int) (T : List (List Int)) (x m : Int) (hl : up.length ≤ 17592186044416) : Ev (fun k => impl_PowerOf.f k up T x m) (PowerOfM up T x m) := by
  unfold impl_PowerOf.f PowerOfM atB
  refine Ev.bind (impl_at_ev up T [x] hl (by simp)) ?_
  rw [one_inA]
  cases hg : (algB up T && (inB up x && inB up x)) with
  | false => exact Ev.neg (by decide) (Ev.some _)
  | true =>
    obtain ⟨A, a, b, rfl, _, ha, _⟩ := at_cases hg
    refine Ev.pos rfl (Ev.bindc (within_eq' m 0 20) ?_)
    rw [if_pos rfl]
    by_cases c : 0 ≤ m ∧ m ≤ 20
    · obtain ⟨n, rfl⟩ : ∃ n : Nat, m = (n : Int) := ⟨m.toNat, by omega⟩
      rw [if_pos c]
      exact Ev.pos (decide_eq_true c) (Ev.bind (impl_pow_ev A ha n (by omega)) (Ev.const (by simp)))
    · rw [if_neg c]
      exact Ev.neg (by rw [decide_eq_true_eq]; exact c) (Ev.some _)
theorem run_pair (p : Nat → Bool) : ∀ d i, runL (fun z => if p z then some ((z : Int), true) else none) (0, false) d i = if runL (fun z => if p z then some (z : Int) else none) (-1) d i < 0 then (0, false) else (runL (fun z => if p z then some (z : Int) else none) (-1) d i, true) := by
  intro d
  induction d with
  | zero => intro i; rfl
  | succ d ih =>
    intro i
    unfold runL
    cases h : p i with
    | true =>
      show ((i : Int), true) = if (i : Int) < 0 then _ else _
      rw [if_neg (by omega)]
      rfl
    | false => exact ih (i + 1)
def DepthOfM (up : List Int) (T : List (List Int)) (x : Int) : Int × Bool := if atB up T x x = true then depthM up T x.toNat else (0, false)
theorem depth_run (up : List Int) (T : List (List Int)) (x N : Nat) : runL (fun z => if decide (powN up T x z = 0) then some ((z : Int), true) else none) (0, false) (N + 1) 0 = if depthN up T x N < 0 then (0, false) else (depthN up T x N, true) :=
  run_pair (fun z => decide (powN up T x z = 0)) (N + 1) 0
theorem spec_DepthOf_ev (up : List Int) (T : List (List Int)) (x : Int) (hl : up.length ≤ 17592186044416) : Ev (fun k => spec_DepthOf.f k up T x) (DepthOfM up T x) := by
  unfold spec_DepthOf.f DepthOfM atB
  refine Ev.bind (spec_has_ev up T x x hl) ?_
  cases hg : (algB up T && (inB up x && inB up x)) with
  | false => exact Ev.neg (by decide) (Ev.some _)
  | true =>
    obtain ⟨A, a, b, rfl, _, ha, _⟩ := at_cases hg
    refine Ev.pos rfl ?_
    rw [if_pos rfl, Int.toNat_natCast]
    unfold depthM
    rw [← depth_run]
    have h6 := A.ok.1
    refine ev_run (fun k i => spec_DepthOf.l0 k (a : Int) i up T) (up.length + 1) _ _ ?_ ?_ (up.length + 1) 0 (by omega)
    · intro i hi
      have hs := spec_pow_ev A ha i (by omega)
      refine ⟨fun v hv => ?_, fun hv r hr => ?_⟩
      · by_cases c : powN up T a i = 0
        · rw [decide_eq_true c, if_pos rfl] at hv
          obtain rfl := Option.some.inj hv
          refine Ev.step (fun k => by simp only [spec_DepthOf.l0]; exact rfl) (Ev.pos (by omega) (Ev.bind hs ?_))
          exact Ev.pos (by omega) (Ev.some _)
        · rw [decide_eq_false c] at hv
          cases hv
      · by_cases c : powN up T a i = 0
        · rw [decide_eq_true c, if_pos rfl] at hv
          cases hv
        · refine Ev.step (fun k => by simp only [spec_DepthOf.l0]; exact rfl) (Ev.pos (by omega) (Ev.bind hs ?_))
          refine Ev.neg (by omega) ?_
          rw [w64s hi (by omega)]
          exact hr
    · exact Ev.step (fun k => by simp only [spec_DepthOf.l0]; exact rfl) (Ev.neg (by omega) (Ev.some _))
theorem impl_DepthOf_ev (up : List Int) (T : List (List Int)) (x : Int) (hl : up.length ≤ 17592186044416) : Ev (fun k => impl_DepthOf.f k up T x) (DepthOfM up T x) := by
  unfold impl_DepthOf.f DepthOfM atB
  refine Ev.bind (impl_at_ev up T [x] hl (by simp)) ?_
  rw [one_inA]
  cases hg : (algB up T && (inB up x && inB up x)) with
  | false => exact Ev.neg (by decide) (Ev.some _)
  | true =>
    obtain ⟨A, a, b, rfl, _, ha, _⟩ := at_cases hg
    refine Ev.pos rfl ?_
    rw [if_pos rfl, Int.toNat_natCast]
    unfold depthM
    rw [← depth_same A ha, ← depth_run]
    refine ev_run (fun k i => impl_DepthOf.l0 k (a : Int) i up T) (20 + 1) _ _ ?_ ?_ (20 + 1) 0 (by omega)
    · intro i hi
      have hs := impl_pow_ev A ha i (by omega)
      refine ⟨fun v hv => ?_, fun hv r hr => ?_⟩
      · by_cases c : powN up T a i = 0
        · rw [decide_eq_true c, if_pos rfl] at hv
          obtain rfl := Option.some.inj hv
          refine Ev.step (fun k => by simp only [impl_DepthOf.l0]; exact rfl) (Ev.pos (by omega) (Ev.bind hs ?_))
          exact Ev.pos (by omega) (Ev.some _)
        · rw [decide_eq_false c] at hv
          cases hv
      · by_cases c : powN up T a i = 0
        · rw [decide_eq_true c, if_pos rfl] at hv
          cases hv
        · refine Ev.step (fun k => by simp only [impl_DepthOf.l0]; exact rfl) (Ev.pos (by omega) (Ev.bind hs ?_))
          refine Ev.neg (by omega) ?_
          rw [w64s hi (by omega)]
          exact hr
    · exact Ev.step (fun k => by simp only [impl_DepthOf.l0]; exact rfl) (Ev.neg (by omega) (Ev.some _))
end Go.Proofs.Ytkndndgladdmcaa.M
