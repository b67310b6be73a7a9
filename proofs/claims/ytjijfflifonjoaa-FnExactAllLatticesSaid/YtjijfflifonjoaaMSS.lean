/- Rows of numbers: compared with themselves, marked with numbers, held against the marks. -/
import Derived.Test.YtjijfflifonjoaaP15
import Derived.Test.YtjijfflifonjoaaP16
import Derived.Test.YtjijfflifonjoaaP18
import Derived.Test.YtjijfflifonjoaaMMark
namespace Go.Proofs.Ytjijfflifonjoaa.M
set_option linter.unusedVariables false
open Go.RowKit Go.Proofs.YtjijfflifonjoaaW.PrintWords Go.Proofs.YtjijfflifonjoaaW.PrintLast Go.Proofs.YtjijfflifonjoaaW.PrintMore Go.Proofs.Ytjijfflifonjoaa.P

def szT : List (List Int) → Nat
  | [] => 0
  | r :: T => r.length + szT T
def marksT (m : Int) : List (List Int) → List (List Int)
  | [] => []
  | r :: T => marks m r.length :: marksT (m + (r.length : Int)) T
theorem szT_le {T : List (List Int)} {b : Nat} (hr : ∀ r ∈ T, r.length ≤ b) : szT T ≤ T.length * b := by
  induction T with
  | nil => simp [szT]
  | cons r T ih =>
    have h1 := hr r (by simp)
    have h2 := ih (fun s hs => hr s (by simp [hs]))
    rw [List.length_cons, Nat.succ_mul]
    show r.length + szT T ≤ _
    omega
theorem rd_mid (D R : List (List Int)) (r : List Int) : rd_L1 (D ++ r :: R) (D.length : Int) = r := by
  simp [rd_L1]
theorem markSS_l (R : List (List Int)) : ∀ (D : List (List Int)) (m : Int), 0 ≤ m → m + (szT R : Int) ≤ 4611686018427387904 → D.length + R.length ≤ 1048576 → (∀ r ∈ R, r.length ≤ 1048576) →
    Ev (fun k => laws_markIntSS.l0 k (D ++ R) m (D.length : Int)) (m + (szT R : Int), D ++ marksT m R) := by
  induction R with
  | nil =>
    intro D m h0 h1 h2 h3
    refine Ev.step (fun k => by simp only [laws_markIntSS.l0]; exact rfl) ?_
    refine Ev.neg (by simp) (Ev.const ?_)
    simp [szT, marksT]
  | cons r R ih =>
    intro D m h0 h1 h2 h3
    have hr := h3 r (by simp)
    have hs : szT (r :: R) = r.length + szT R := rfl
    have hl : (r :: R).length = R.length + 1 := rfl
    rw [hs] at h1
    rw [hl] at h2
    refine Ev.step (fun k => by simp only [laws_markIntSS.l0]; exact rfl) ?_
    refine Ev.pos (by rw [List.length_append, hl]; omega) (Ev.pos (by omega) ?_)
    rw [rd_mid]
    refine Ev.bind (markIntS_ev r m h0 (by omega) (by omega)) ?_
    have h := ih (D ++ [marks m r.length]) (m + (r.length : Int)) (by omega) (by omega) (by rw [List.length_append, List.length_singleton]; omega) (fun s hs => h3 s (by simp [hs]))
    have e1 : (D ++ r :: R).set ((D.length : Int)).toNat (marks m r.length) = (D ++ [marks m r.length]) ++ R := by
      rw [Int.toNat_natCast, List.set_append_right _ _ (Nat.le_refl _), Nat.sub_self]
      simp
    have e2 : wrap64 ((D.length : Int) + 1) = ((D ++ [marks m r.length]).length : Int) := by
      rw [List.length_append, List.length_singleton, w64 (by omega) (by omega)]
      omega
    have e3 : (m + (szT (r :: R) : Int), D ++ marksT m (r :: R)) = (m + (r.length : Int) + (szT R : Int), (D ++ [marks m r.length]) ++ marksT (m + (r.length : Int)) R) := by
      rw [hs]
      refine Prod.ext ?_ ?_
      · show m + ((r.length + szT R : Nat) : Int) = _
        omega
      · show D ++ (marks m r.length :: marksT _ R) = _
        simp
    rw [e3]
    show Ev (fun k => laws_markIntSS.l0 k ((D ++ r :: R).set ((D.length : Int)).toNat (marks m r.length)) (m + (r.length : Int)) (wrap64 ((D.length : Int) + 1))) _
    rw [e1, e2]
    exact h
theorem heldSS_l (R : List (List Int)) : ∀ (D : List (List Int)) (m : Int), 0 ≤ m → m + (szT R : Int) ≤ 4611686018427387904 → D.length + R.length ≤ 1048576 → (∀ r ∈ R, r.length ≤ 1048576) →
    Ev (fun k => laws_heldIntSS.l0 k (D ++ marksT m R) m (D.length : Int)) (m + (szT R : Int)) := by
  induction R with
  | nil =>
    intro D m h0 h1 h2 h3
    refine Ev.step (fun k => by simp only [laws_heldIntSS.l0]; exact rfl) ?_
    refine Ev.neg (by simp [marksT]) (Ev.const ?_)
    simp [szT]
  | cons r R ih =>
    intro D m h0 h1 h2 h3
    have hr := h3 r (by simp)
    have hs : szT (r :: R) = r.length + szT R := rfl
    have hl : (r :: R).length = R.length + 1 := rfl
    rw [hs] at h1
    rw [hl] at h2
    refine Ev.step (fun k => by simp only [laws_heldIntSS.l0]; exact rfl) ?_
    have hm : marksT m (r :: R) = marks m r.length :: marksT (m + (r.length : Int)) R := rfl
    rw [hm]
    refine Ev.pos (by rw [List.length_append, List.length_cons]; omega) (Ev.pos (by omega) ?_)
    rw [rd_mid]
    refine Ev.bind (heldIntS_ev m r.length h0 (by omega) (by omega)) (Ev.neg (by omega) ?_)
    have h := ih (D ++ [marks m r.length]) (m + (r.length : Int)) (by omega) (by omega) (by rw [List.length_append, List.length_singleton]; omega) (fun s hs => h3 s (by simp [hs]))
    have e2 : wrap64 ((D.length : Int) + 1) = ((D ++ [marks m r.length]).length : Int) := by
      rw [List.length_append, List.length_singleton, w64 (by omega) (by omega)]
      omega
    have e1 : D ++ marks m r.length :: marksT (m + (r.length : Int)) R = (D ++ [marks m r.length]) ++ marksT (m + (r.length : Int)) R := by simp
    rw [e1, e2, hs]
    have e3 : m + ((r.length + szT R : Nat) : Int) = m + (r.length : Int) + (szT R : Int) := by omega
    rw [e3]
    exact h
theorem rdL_mem {T : List (List Int)} {i : Nat} (h : i < T.length) : rd_L1 T (i : Int) ∈ T := by
  have e : rd_L1 T (i : Int) = T[i] := by simp [rd_L1, h]
  rw [e]
  exact List.getElem_mem h
theorem eqIntSS_same (T : List (List Int)) (hT : T.length ≤ 1048576) (hr : ∀ r ∈ T, r.length ≤ 1048576) : Ev (fun k => laws_eqIntSS.f k T T) true := by
  unfold laws_eqIntSS.f
  refine Ev.pos rfl ?_
  refine ev_inv (fun k (_ : Unit) i => laws_eqIntSS.l0 k T T i) T.length (fun _ _ => True) true ?_ ?_ T.length 0 () (by omega) trivial
  · intro i hi _ _
    refine ⟨(), trivial, fun h => ?_⟩
    have hrow := hr _ (rdL_mem hi)
    refine Ev.step (fun k => by simp only [laws_eqIntSS.l0]; exact rfl) ?_
    refine Ev.pos (by omega) (Ev.pos (by omega) (Ev.pos (by omega) (Ev.bind (eqIntS_same (rd_L1 T (i : Int)) (by omega)) (Ev.pos rfl ?_))))
    rw [w64s hi (by omega)]
    exact h
  · intro _ _
    refine Ev.step (fun k => by simp only [laws_eqIntSS.l0]; exact rfl) ?_
    exact Ev.neg (by omega) (Ev.some _)
end Go.Proofs.Ytjijfflifonjoaa.M
