/- For every law of this seat: what its row asks of all functions that the law reaches. Written by wip/facts.py. -/
import Derived.Test.YtomapoenndlbiaaMFacts
import Derived.Test.YtomapoenndlbiaaProg
import Derived.KernelRfl
namespace Go.Proofs.Ytomapoenndlbiaa.F
open Go MFacts
def LA : List Nat := [4, 5, 6, 11, 13, 14, 16, 17, 18, 19, 20, 21, 22, 23, 35, 36, 37, 39, 40, 42, 43, 44, 45, 46, 47, 56, 58, 59, 60, 61, 62, 63, 64, 65, 67, 68, 69, 70, 71, 72, 73, 77, 79]
def LU : List Nat := [11, 13, 14, 16, 17, 18, 20, 22, 35, 36, 37, 39, 42, 43, 45, 46, 47, 58, 59, 60, 61, 62, 63, 64, 65, 67, 68, 69, 70, 71, 72, 73, 79]
def LN : List Nat := [11, 13, 14, 16, 17, 18, 20, 22, 35, 36, 37, 39, 42, 43, 45, 46, 47, 58, 59, 60, 61, 62, 63, 64, 65, 67, 68, 69, 70, 71, 72, 73, 79]
def rk (g : Nat) : Nat := ([0, 0, 0, 0, 0, 0, 0, 0, 0, 0, 0, 3, 0, 3, 1, 0, 3, 1, 7, 0, 7, 0, 7, 0, 0, 0, 0, 0, 0, 0, 0, 0, 0, 0, 0, 1, 2, 6, 0, 2, 0, 0, 2, 6, 0, 1, 2, 1, 0, 0, 0, 0, 0, 0, 0, 0, 0, 0, 5, 1, 4, 3, 3, 2, 1, 1, 0, 1, 5, 4, 2, 2, 2, 2, 0, 0, 0, 0, 0, 4] : List Nat).getD g 0
abbrev A (n : Nat) : Prop := ∃ fn, Try.prog.funcs[n]? = some fn ∧ fnOk Try.prog LA fn = true
abbrev U (n : Nat) : Prop := ∃ fn, Try.prog.funcs[n]? = some fn ∧ fnOk Try.prog LU fn = true
abbrev N (n : Nat) : Prop := ∃ fn, Try.prog.funcs[n]? = some fn ∧ fnOk Try.prog LN fn = true
def R (n : Nat) : Prop := ∀ x ∈ next Try.prog n, rk x < rk n
abbrev V (n : Nat) : Prop := ∃ fn, Try.prog.funcs[n]? = some fn ∧ fnFollowed fn = true
theorem a4 : A 4 := ⟨_, Try.func4, by kernel_rfl⟩
theorem a5 : A 5 := ⟨_, Try.func5, by kernel_rfl⟩
theorem a6 : A 6 := ⟨_, Try.func6, by kernel_rfl⟩
theorem a11 : A 11 := ⟨_, Try.func11, by kernel_rfl⟩
theorem a13 : A 13 := ⟨_, Try.func13, by kernel_rfl⟩
theorem a14 : A 14 := ⟨_, Try.func14, by kernel_rfl⟩
theorem a16 : A 16 := ⟨_, Try.func16, by kernel_rfl⟩
theorem a17 : A 17 := ⟨_, Try.func17, by kernel_rfl⟩
theorem a18 : A 18 := ⟨_, Try.func18, by kernel_rfl⟩
theorem a19 : A 19 := ⟨_, Try.func19, by kernel_rfl⟩
theorem a20 : A 20 := ⟨_, Try.func20, by kernel_rfl⟩
theorem a21 : A 21 := ⟨_, Try.func21, by kernel_rfl⟩
theorem a22 : A 22 := ⟨_, Try.func22, by kernel_rfl⟩
theorem a23 : A 23 := ⟨_, Try.func23, by kernel_rfl⟩
theorem a35 : A 35 := ⟨_, Try.func35, by kernel_rfl⟩
theorem a36 : A 36 := ⟨_, Try.func36, by kernel_rfl⟩
theorem a37 : A 37 := ⟨_, Try.func37, by kernel_rfl⟩
theorem a39 : A 39 := ⟨_, Try.func39, by kernel_rfl⟩
theorem a40 : A 40 := ⟨_, Try.func40, by kernel_rfl⟩
theorem a42 : A 42 := ⟨_, Try.func42, by kernel_rfl⟩
theorem a43 : A 43 := ⟨_, Try.func43, by kernel_rfl⟩
theorem a44 : A 44 := ⟨_, Try.func44, by kernel_rfl⟩
theorem a45 : A 45 := ⟨_, Try.func45, by kernel_rfl⟩
theorem a46 : A 46 := ⟨_, Try.func46, by kernel_rfl⟩
theorem a47 : A 47 := ⟨_, Try.func47, by kernel_rfl⟩
theorem a56 : A 56 := ⟨_, Try.func56, by kernel_rfl⟩
theorem a58 : A 58 := ⟨_, Try.func58, by kernel_rfl⟩
theorem a59 : A 59 := ⟨_, Try.func59, by kernel_rfl⟩
theorem a60 : A 60 := ⟨_, Try.func60, by kernel_rfl⟩
theorem a61 : A 61 := ⟨_, Try.func61, by kernel_rfl⟩
theorem a62 : A 62 := ⟨_, Try.func62, by kernel_rfl⟩
theorem a63 : A 63 := ⟨_, Try.func63, by kernel_rfl⟩
theorem a64 : A 64 := ⟨_, Try.func64, by kernel_rfl⟩
theorem a65 : A 65 := ⟨_, Try.func65, by kernel_rfl⟩
theorem a67 : A 67 := ⟨_, Try.func67, by kernel_rfl⟩
theorem a68 : A 68 := ⟨_, Try.func68, by kernel_rfl⟩
theorem a69 : A 69 := ⟨_, Try.func69, by kernel_rfl⟩
theorem a70 : A 70 := ⟨_, Try.func70, by kernel_rfl⟩
theorem a71 : A 71 := ⟨_, Try.func71, by kernel_rfl⟩
theorem a72 : A 72 := ⟨_, Try.func72, by kernel_rfl⟩
theorem a73 : A 73 := ⟨_, Try.func73, by kernel_rfl⟩
theorem a77 : A 77 := ⟨_, Try.func77, by kernel_rfl⟩
theorem a79 : A 79 := ⟨_, Try.func79, by kernel_rfl⟩
theorem u11 : U 11 := ⟨_, Try.func11, by kernel_rfl⟩
theorem v11 : V 11 := ⟨_, Try.func11, by kernel_rfl⟩
theorem u13 : U 13 := ⟨_, Try.func13, by kernel_rfl⟩
theorem v13 : V 13 := ⟨_, Try.func13, by kernel_rfl⟩
theorem u14 : U 14 := ⟨_, Try.func14, by kernel_rfl⟩
theorem v14 : V 14 := ⟨_, Try.func14, by kernel_rfl⟩
theorem u16 : U 16 := ⟨_, Try.func16, by kernel_rfl⟩
theorem v16 : V 16 := ⟨_, Try.func16, by kernel_rfl⟩
theorem u17 : U 17 := ⟨_, Try.func17, by kernel_rfl⟩
theorem v17 : V 17 := ⟨_, Try.func17, by kernel_rfl⟩
theorem u18 : U 18 := ⟨_, Try.func18, by kernel_rfl⟩
theorem v18 : V 18 := ⟨_, Try.func18, by kernel_rfl⟩
theorem u20 : U 20 := ⟨_, Try.func20, by kernel_rfl⟩
theorem v20 : V 20 := ⟨_, Try.func20, by kernel_rfl⟩
theorem u22 : U 22 := ⟨_, Try.func22, by kernel_rfl⟩
theorem v22 : V 22 := ⟨_, Try.func22, by kernel_rfl⟩
theorem u35 : U 35 := ⟨_, Try.func35, by kernel_rfl⟩
theorem v35 : V 35 := ⟨_, Try.func35, by kernel_rfl⟩
theorem u36 : U 36 := ⟨_, Try.func36, by kernel_rfl⟩
theorem v36 : V 36 := ⟨_, Try.func36, by kernel_rfl⟩
theorem u37 : U 37 := ⟨_, Try.func37, by kernel_rfl⟩
theorem v37 : V 37 := ⟨_, Try.func37, by kernel_rfl⟩
theorem u39 : U 39 := ⟨_, Try.func39, by kernel_rfl⟩
theorem v39 : V 39 := ⟨_, Try.func39, by kernel_rfl⟩
theorem u42 : U 42 := ⟨_, Try.func42, by kernel_rfl⟩
theorem v42 : V 42 := ⟨_, Try.func42, by kernel_rfl⟩
theorem u43 : U 43 := ⟨_, Try.func43, by kernel_rfl⟩
theorem v43 : V 43 := ⟨_, Try.func43, by kernel_rfl⟩
theorem u45 : U 45 := ⟨_, Try.func45, by kernel_rfl⟩
theorem v45 : V 45 := ⟨_, Try.func45, by kernel_rfl⟩
theorem u46 : U 46 := ⟨_, Try.func46, by kernel_rfl⟩
theorem v46 : V 46 := ⟨_, Try.func46, by kernel_rfl⟩
theorem u47 : U 47 := ⟨_, Try.func47, by kernel_rfl⟩
theorem v47 : V 47 := ⟨_, Try.func47, by kernel_rfl⟩
theorem u58 : U 58 := ⟨_, Try.func58, by kernel_rfl⟩
theorem v58 : V 58 := ⟨_, Try.func58, by kernel_rfl⟩
theorem u59 : U 59 := ⟨_, Try.func59, by kernel_rfl⟩
theorem v59 : V 59 := ⟨_, Try.func59, by kernel_rfl⟩
theorem u60 : U 60 := ⟨_, Try.func60, by kernel_rfl⟩
theorem v60 : V 60 := ⟨_, Try.func60, by kernel_rfl⟩
theorem u61 : U 61 := ⟨_, Try.func61, by kernel_rfl⟩
theorem v61 : V 61 := ⟨_, Try.func61, by kernel_rfl⟩
theorem u62 : U 62 := ⟨_, Try.func62, by kernel_rfl⟩
theorem v62 : V 62 := ⟨_, Try.func62, by kernel_rfl⟩
theorem u63 : U 63 := ⟨_, Try.func63, by kernel_rfl⟩
theorem v63 : V 63 := ⟨_, Try.func63, by kernel_rfl⟩
theorem u64 : U 64 := ⟨_, Try.func64, by kernel_rfl⟩
theorem v64 : V 64 := ⟨_, Try.func64, by kernel_rfl⟩
theorem u65 : U 65 := ⟨_, Try.func65, by kernel_rfl⟩
theorem v65 : V 65 := ⟨_, Try.func65, by kernel_rfl⟩
theorem u67 : U 67 := ⟨_, Try.func67, by kernel_rfl⟩
theorem v67 : V 67 := ⟨_, Try.func67, by kernel_rfl⟩
theorem u68 : U 68 := ⟨_, Try.func68, by kernel_rfl⟩
theorem v68 : V 68 := ⟨_, Try.func68, by kernel_rfl⟩
theorem u69 : U 69 := ⟨_, Try.func69, by kernel_rfl⟩
theorem v69 : V 69 := ⟨_, Try.func69, by kernel_rfl⟩
theorem u70 : U 70 := ⟨_, Try.func70, by kernel_rfl⟩
theorem v70 : V 70 := ⟨_, Try.func70, by kernel_rfl⟩
theorem u71 : U 71 := ⟨_, Try.func71, by kernel_rfl⟩
theorem v71 : V 71 := ⟨_, Try.func71, by kernel_rfl⟩
theorem u72 : U 72 := ⟨_, Try.func72, by kernel_rfl⟩
theorem v72 : V 72 := ⟨_, Try.func72, by kernel_rfl⟩
theorem u73 : U 73 := ⟨_, Try.func73, by kernel_rfl⟩
theorem v73 : V 73 := ⟨_, Try.func73, by kernel_rfl⟩
theorem u79 : U 79 := ⟨_, Try.func79, by kernel_rfl⟩
theorem v79 : V 79 := ⟨_, Try.func79, by kernel_rfl⟩
theorem n11 : N 11 := ⟨_, Try.func11, by kernel_rfl⟩
theorem r11 : R 11 := by unfold R next; rw [Try.func11]; exact of_decide_eq_true (by kernel_rfl)
theorem n13 : N 13 := ⟨_, Try.func13, by kernel_rfl⟩
theorem r13 : R 13 := by unfold R next; rw [Try.func13]; exact of_decide_eq_true (by kernel_rfl)
theorem n14 : N 14 := ⟨_, Try.func14, by kernel_rfl⟩
theorem r14 : R 14 := by unfold R next; rw [Try.func14]; exact of_decide_eq_true (by kernel_rfl)
theorem n16 : N 16 := ⟨_, Try.func16, by kernel_rfl⟩
theorem r16 : R 16 := by unfold R next; rw [Try.func16]; exact of_decide_eq_true (by kernel_rfl)
theorem n17 : N 17 := ⟨_, Try.func17, by kernel_rfl⟩
theorem r17 : R 17 := by unfold R next; rw [Try.func17]; exact of_decide_eq_true (by kernel_rfl)
theorem n18 : N 18 := ⟨_, Try.func18, by kernel_rfl⟩
theorem r18 : R 18 := by unfold R next; rw [Try.func18]; exact of_decide_eq_true (by kernel_rfl)
theorem n20 : N 20 := ⟨_, Try.func20, by kernel_rfl⟩
theorem r20 : R 20 := by unfold R next; rw [Try.func20]; exact of_decide_eq_true (by kernel_rfl)
theorem n22 : N 22 := ⟨_, Try.func22, by kernel_rfl⟩
theorem r22 : R 22 := by unfold R next; rw [Try.func22]; exact of_decide_eq_true (by kernel_rfl)
theorem n35 : N 35 := ⟨_, Try.func35, by kernel_rfl⟩
theorem r35 : R 35 := by unfold R next; rw [Try.func35]; exact of_decide_eq_true (by kernel_rfl)
theorem n36 : N 36 := ⟨_, Try.func36, by kernel_rfl⟩
theorem r36 : R 36 := by unfold R next; rw [Try.func36]; exact of_decide_eq_true (by kernel_rfl)
theorem n37 : N 37 := ⟨_, Try.func37, by kernel_rfl⟩
theorem r37 : R 37 := by unfold R next; rw [Try.func37]; exact of_decide_eq_true (by kernel_rfl)
theorem n39 : N 39 := ⟨_, Try.func39, by kernel_rfl⟩
theorem r39 : R 39 := by unfold R next; rw [Try.func39]; exact of_decide_eq_true (by kernel_rfl)
theorem n42 : N 42 := ⟨_, Try.func42, by kernel_rfl⟩
theorem r42 : R 42 := by unfold R next; rw [Try.func42]; exact of_decide_eq_true (by kernel_rfl)
theorem n43 : N 43 := ⟨_, Try.func43, by kernel_rfl⟩
theorem r43 : R 43 := by unfold R next; rw [Try.func43]; exact of_decide_eq_true (by kernel_rfl)
theorem n45 : N 45 := ⟨_, Try.func45, by kernel_rfl⟩
theorem r45 : R 45 := by unfold R next; rw [Try.func45]; exact of_decide_eq_true (by kernel_rfl)
theorem n46 : N 46 := ⟨_, Try.func46, by kernel_rfl⟩
theorem r46 : R 46 := by unfold R next; rw [Try.func46]; exact of_decide_eq_true (by kernel_rfl)
theorem n47 : N 47 := ⟨_, Try.func47, by kernel_rfl⟩
theorem r47 : R 47 := by unfold R next; rw [Try.func47]; exact of_decide_eq_true (by kernel_rfl)
theorem n58 : N 58 := ⟨_, Try.func58, by kernel_rfl⟩
theorem r58 : R 58 := by unfold R next; rw [Try.func58]; exact of_decide_eq_true (by kernel_rfl)
theorem n59 : N 59 := ⟨_, Try.func59, by kernel_rfl⟩
theorem r59 : R 59 := by unfold R next; rw [Try.func59]; exact of_decide_eq_true (by kernel_rfl)
theorem n60 : N 60 := ⟨_, Try.func60, by kernel_rfl⟩
theorem r60 : R 60 := by unfold R next; rw [Try.func60]; exact of_decide_eq_true (by kernel_rfl)
theorem n61 : N 61 := ⟨_, Try.func61, by kernel_rfl⟩
theorem r61 : R 61 := by unfold R next; rw [Try.func61]; exact of_decide_eq_true (by kernel_rfl)
theorem n62 : N 62 := ⟨_, Try.func62, by kernel_rfl⟩
theorem r62 : R 62 := by unfold R next; rw [Try.func62]; exact of_decide_eq_true (by kernel_rfl)
theorem n63 : N 63 := ⟨_, Try.func63, by kernel_rfl⟩
theorem r63 : R 63 := by unfold R next; rw [Try.func63]; exact of_decide_eq_true (by kernel_rfl)
theorem n64 : N 64 := ⟨_, Try.func64, by kernel_rfl⟩
theorem r64 : R 64 := by unfold R next; rw [Try.func64]; exact of_decide_eq_true (by kernel_rfl)
theorem n65 : N 65 := ⟨_, Try.func65, by kernel_rfl⟩
theorem r65 : R 65 := by unfold R next; rw [Try.func65]; exact of_decide_eq_true (by kernel_rfl)
theorem n67 : N 67 := ⟨_, Try.func67, by kernel_rfl⟩
theorem r67 : R 67 := by unfold R next; rw [Try.func67]; exact of_decide_eq_true (by kernel_rfl)
theorem n68 : N 68 := ⟨_, Try.func68, by kernel_rfl⟩
theorem r68 : R 68 := by unfold R next; rw [Try.func68]; exact of_decide_eq_true (by kernel_rfl)
theorem n69 : N 69 := ⟨_, Try.func69, by kernel_rfl⟩
theorem r69 : R 69 := by unfold R next; rw [Try.func69]; exact of_decide_eq_true (by kernel_rfl)
theorem n70 : N 70 := ⟨_, Try.func70, by kernel_rfl⟩
theorem r70 : R 70 := by unfold R next; rw [Try.func70]; exact of_decide_eq_true (by kernel_rfl)
theorem n71 : N 71 := ⟨_, Try.func71, by kernel_rfl⟩
theorem r71 : R 71 := by unfold R next; rw [Try.func71]; exact of_decide_eq_true (by kernel_rfl)
theorem n72 : N 72 := ⟨_, Try.func72, by kernel_rfl⟩
theorem r72 : R 72 := by unfold R next; rw [Try.func72]; exact of_decide_eq_true (by kernel_rfl)
theorem n73 : N 73 := ⟨_, Try.func73, by kernel_rfl⟩
theorem r73 : R 73 := by unfold R next; rw [Try.func73]; exact of_decide_eq_true (by kernel_rfl)
theorem n79 : N 79 := ⟨_, Try.func79, by kernel_rfl⟩
theorem r79 : R 79 := by unfold R next; rw [Try.func79]; exact of_decide_eq_true (by kernel_rfl)
set_option maxRecDepth 100000
theorem okA : AllOk Try.prog LA := ⟨List.forall_mem_cons.2 ⟨a4, List.forall_mem_cons.2 ⟨a5, List.forall_mem_cons.2 ⟨a6, List.forall_mem_cons.2 ⟨a11, List.forall_mem_cons.2 ⟨a13, List.forall_mem_cons.2 ⟨a14, List.forall_mem_cons.2 ⟨a16, List.forall_mem_cons.2 ⟨a17, List.forall_mem_cons.2 ⟨a18, List.forall_mem_cons.2 ⟨a19, List.forall_mem_cons.2 ⟨a20, List.forall_mem_cons.2 ⟨a21, List.forall_mem_cons.2 ⟨a22, List.forall_mem_cons.2 ⟨a23, List.forall_mem_cons.2 ⟨a35, List.forall_mem_cons.2 ⟨a36, List.forall_mem_cons.2 ⟨a37, List.forall_mem_cons.2 ⟨a39, List.forall_mem_cons.2 ⟨a40, List.forall_mem_cons.2 ⟨a42, List.forall_mem_cons.2 ⟨a43, List.forall_mem_cons.2 ⟨a44, List.forall_mem_cons.2 ⟨a45, List.forall_mem_cons.2 ⟨a46, List.forall_mem_cons.2 ⟨a47, List.forall_mem_cons.2 ⟨a56, List.forall_mem_cons.2 ⟨a58, List.forall_mem_cons.2 ⟨a59, List.forall_mem_cons.2 ⟨a60, List.forall_mem_cons.2 ⟨a61, List.forall_mem_cons.2 ⟨a62, List.forall_mem_cons.2 ⟨a63, List.forall_mem_cons.2 ⟨a64, List.forall_mem_cons.2 ⟨a65, List.forall_mem_cons.2 ⟨a67, List.forall_mem_cons.2 ⟨a68, List.forall_mem_cons.2 ⟨a69, List.forall_mem_cons.2 ⟨a70, List.forall_mem_cons.2 ⟨a71, List.forall_mem_cons.2 ⟨a72, List.forall_mem_cons.2 ⟨a73, List.forall_mem_cons.2 ⟨a77, List.forall_mem_cons.2 ⟨a79, fun _ h => by cases h⟩⟩⟩⟩⟩⟩⟩⟩⟩⟩⟩⟩⟩⟩⟩⟩⟩⟩⟩⟩⟩⟩⟩⟩⟩⟩⟩⟩⟩⟩⟩⟩⟩⟩⟩⟩⟩⟩⟩⟩⟩⟩⟩⟩
theorem okU : AllOk Try.prog LU := ⟨List.forall_mem_cons.2 ⟨u11, List.forall_mem_cons.2 ⟨u13, List.forall_mem_cons.2 ⟨u14, List.forall_mem_cons.2 ⟨u16, List.forall_mem_cons.2 ⟨u17, List.forall_mem_cons.2 ⟨u18, List.forall_mem_cons.2 ⟨u20, List.forall_mem_cons.2 ⟨u22, List.forall_mem_cons.2 ⟨u35, List.forall_mem_cons.2 ⟨u36, List.forall_mem_cons.2 ⟨u37, List.forall_mem_cons.2 ⟨u39, List.forall_mem_cons.2 ⟨u42, List.forall_mem_cons.2 ⟨u43, List.forall_mem_cons.2 ⟨u45, List.forall_mem_cons.2 ⟨u46, List.forall_mem_cons.2 ⟨u47, List.forall_mem_cons.2 ⟨u58, List.forall_mem_cons.2 ⟨u59, List.forall_mem_cons.2 ⟨u60, List.forall_mem_cons.2 ⟨u61, List.forall_mem_cons.2 ⟨u62, List.forall_mem_cons.2 ⟨u63, List.forall_mem_cons.2 ⟨u64, List.forall_mem_cons.2 ⟨u65, List.forall_mem_cons.2 ⟨u67, List.forall_mem_cons.2 ⟨u68, List.forall_mem_cons.2 ⟨u69, List.forall_mem_cons.2 ⟨u70, List.forall_mem_cons.2 ⟨u71, List.forall_mem_cons.2 ⟨u72, List.forall_mem_cons.2 ⟨u73, List.forall_mem_cons.2 ⟨u79, fun _ h => by cases h⟩⟩⟩⟩⟩⟩⟩⟩⟩⟩⟩⟩⟩⟩⟩⟩⟩⟩⟩⟩⟩⟩⟩⟩⟩⟩⟩⟩⟩⟩⟩⟩⟩⟩
theorem followedU : ∀ g ∈ LU, ∃ fn, Try.prog.funcs[g]? = some fn ∧ fnFollowed fn = true := List.forall_mem_cons.2 ⟨v11, List.forall_mem_cons.2 ⟨v13, List.forall_mem_cons.2 ⟨v14, List.forall_mem_cons.2 ⟨v16, List.forall_mem_cons.2 ⟨v17, List.forall_mem_cons.2 ⟨v18, List.forall_mem_cons.2 ⟨v20, List.forall_mem_cons.2 ⟨v22, List.forall_mem_cons.2 ⟨v35, List.forall_mem_cons.2 ⟨v36, List.forall_mem_cons.2 ⟨v37, List.forall_mem_cons.2 ⟨v39, List.forall_mem_cons.2 ⟨v42, List.forall_mem_cons.2 ⟨v43, List.forall_mem_cons.2 ⟨v45, List.forall_mem_cons.2 ⟨v46, List.forall_mem_cons.2 ⟨v47, List.forall_mem_cons.2 ⟨v58, List.forall_mem_cons.2 ⟨v59, List.forall_mem_cons.2 ⟨v60, List.forall_mem_cons.2 ⟨v61, List.forall_mem_cons.2 ⟨v62, List.forall_mem_cons.2 ⟨v63, List.forall_mem_cons.2 ⟨v64, List.forall_mem_cons.2 ⟨v65, List.forall_mem_cons.2 ⟨v67, List.forall_mem_cons.2 ⟨v68, List.forall_mem_cons.2 ⟨v69, List.forall_mem_cons.2 ⟨v70, List.forall_mem_cons.2 ⟨v71, List.forall_mem_cons.2 ⟨v72, List.forall_mem_cons.2 ⟨v73, List.forall_mem_cons.2 ⟨v79, fun _ h => by cases h⟩⟩⟩⟩⟩⟩⟩⟩⟩⟩⟩⟩⟩⟩⟩⟩⟩⟩⟩⟩⟩⟩⟩⟩⟩⟩⟩⟩⟩⟩⟩⟩⟩
theorem okN : AllOk Try.prog LN := ⟨List.forall_mem_cons.2 ⟨n11, List.forall_mem_cons.2 ⟨n13, List.forall_mem_cons.2 ⟨n14, List.forall_mem_cons.2 ⟨n16, List.forall_mem_cons.2 ⟨n17, List.forall_mem_cons.2 ⟨n18, List.forall_mem_cons.2 ⟨n20, List.forall_mem_cons.2 ⟨n22, List.forall_mem_cons.2 ⟨n35, List.forall_mem_cons.2 ⟨n36, List.forall_mem_cons.2 ⟨n37, List.forall_mem_cons.2 ⟨n39, List.forall_mem_cons.2 ⟨n42, List.forall_mem_cons.2 ⟨n43, List.forall_mem_cons.2 ⟨n45, List.forall_mem_cons.2 ⟨n46, List.forall_mem_cons.2 ⟨n47, List.forall_mem_cons.2 ⟨n58, List.forall_mem_cons.2 ⟨n59, List.forall_mem_cons.2 ⟨n60, List.forall_mem_cons.2 ⟨n61, List.forall_mem_cons.2 ⟨n62, List.forall_mem_cons.2 ⟨n63, List.forall_mem_cons.2 ⟨n64, List.forall_mem_cons.2 ⟨n65, List.forall_mem_cons.2 ⟨n67, List.forall_mem_cons.2 ⟨n68, List.forall_mem_cons.2 ⟨n69, List.forall_mem_cons.2 ⟨n70, List.forall_mem_cons.2 ⟨n71, List.forall_mem_cons.2 ⟨n72, List.forall_mem_cons.2 ⟨n73, List.forall_mem_cons.2 ⟨n79, fun _ h => by cases h⟩⟩⟩⟩⟩⟩⟩⟩⟩⟩⟩⟩⟩⟩⟩⟩⟩⟩⟩⟩⟩⟩⟩⟩⟩⟩⟩⟩⟩⟩⟩⟩⟩⟩
theorem rankN : ∀ g ∈ LN, ∀ x ∈ next Try.prog g, rk x < rk g := List.forall_mem_cons.2 ⟨r11, List.forall_mem_cons.2 ⟨r13, List.forall_mem_cons.2 ⟨r14, List.forall_mem_cons.2 ⟨r16, List.forall_mem_cons.2 ⟨r17, List.forall_mem_cons.2 ⟨r18, List.forall_mem_cons.2 ⟨r20, List.forall_mem_cons.2 ⟨r22, List.forall_mem_cons.2 ⟨r35, List.forall_mem_cons.2 ⟨r36, List.forall_mem_cons.2 ⟨r37, List.forall_mem_cons.2 ⟨r39, List.forall_mem_cons.2 ⟨r42, List.forall_mem_cons.2 ⟨r43, List.forall_mem_cons.2 ⟨r45, List.forall_mem_cons.2 ⟨r46, List.forall_mem_cons.2 ⟨r47, List.forall_mem_cons.2 ⟨r58, List.forall_mem_cons.2 ⟨r59, List.forall_mem_cons.2 ⟨r60, List.forall_mem_cons.2 ⟨r61, List.forall_mem_cons.2 ⟨r62, List.forall_mem_cons.2 ⟨r63, List.forall_mem_cons.2 ⟨r64, List.forall_mem_cons.2 ⟨r65, List.forall_mem_cons.2 ⟨r67, List.forall_mem_cons.2 ⟨r68, List.forall_mem_cons.2 ⟨r69, List.forall_mem_cons.2 ⟨r70, List.forall_mem_cons.2 ⟨r71, List.forall_mem_cons.2 ⟨r72, List.forall_mem_cons.2 ⟨r73, List.forall_mem_cons.2 ⟨r79, fun _ h => by cases h⟩⟩⟩⟩⟩⟩⟩⟩⟩⟩⟩⟩⟩⟩⟩⟩⟩⟩⟩⟩⟩⟩⟩⟩⟩⟩⟩⟩⟩⟩⟩⟩⟩
theorem inPlace_FnExactIsMap : Try.prog.inPlace 4 = [] := okA.inPlace (by decide)
theorem named_FnExactIsMap : Try.prog.varsNamed 4 = [] := okA.varsNamed (by decide)
theorem has_FnExactIsMap : 77 ∈ Try.prog.closure 4 := closure_has _ _ _ 83 (of_decide_eq_true (by kernel_rfl)) (List.contains_iff_mem.1 (by kernel_rfl))
theorem unf_FnExactIsMap : Try.prog.unfollowed 4 = true := unfollowed_yes has_FnExactIsMap Try.func77 rfl (by kernel_rfl)
theorem rec_FnExactIsMap : Try.prog.recurses 4 = true := recurses_un unf_FnExactIsMap
theorem inPlace_FnExactKernelOf : Try.prog.inPlace 5 = [] := okA.inPlace (by decide)
theorem named_FnExactKernelOf : Try.prog.varsNamed 5 = [] := okA.varsNamed (by decide)
theorem has_FnExactKernelOf : 77 ∈ Try.prog.closure 5 := closure_has _ _ _ 85 (of_decide_eq_true (by kernel_rfl)) (List.contains_iff_mem.1 (by kernel_rfl))
theorem unf_FnExactKernelOf : Try.prog.unfollowed 5 = true := unfollowed_yes has_FnExactKernelOf Try.func77 rfl (by kernel_rfl)
theorem rec_FnExactKernelOf : Try.prog.recurses 5 = true := recurses_un unf_FnExactKernelOf
theorem inPlace_FnExactImageOf : Try.prog.inPlace 6 = [] := okA.inPlace (by decide)
theorem named_FnExactImageOf : Try.prog.varsNamed 6 = [] := okA.varsNamed (by decide)
theorem has_FnExactImageOf : 77 ∈ Try.prog.closure 6 := closure_has _ _ _ 86 (of_decide_eq_true (by kernel_rfl)) (List.contains_iff_mem.1 (by kernel_rfl))
theorem unf_FnExactImageOf : Try.prog.unfollowed 6 = true := unfollowed_yes has_FnExactImageOf Try.func77 rfl (by kernel_rfl)
theorem rec_FnExactImageOf : Try.prog.recurses 6 = true := recurses_un unf_FnExactImageOf
def w1 : List Char := chs [104, 97, 114, 110, 101, 115, 115]
def w2 : List Char := chs [102, 52, 53, 49, 50, 57, 56, 50, 50, 57, 56, 57, 101, 52, 99, 56, 56, 54, 48, 99, 54, 51, 98, 54, 53, 98, 53, 51, 101, 57, 97, 49, 98, 50, 99, 101, 51, 51, 48, 97, 98, 55, 56, 101, 101, 57, 56, 97, 51, 56, 57, 55, 100, 55, 53, 57, 51, 54, 54, 100, 56, 97, 51, 100]
def w3 : List Char := cutW
def w4 : List Char := chs [97, 116, 32, 108, 111, 111, 112, 46, 101, 120, 97, 109, 112, 108, 101, 47, 114, 101, 115, 105, 100, 117, 97, 116, 101, 100, 116, 97, 98, 108, 101, 115, 47, 108, 97, 119, 115, 46, 70, 110, 69, 120, 97, 99, 116, 73, 115, 78, 117, 99, 108, 101, 117, 115, 32, 108, 111, 111, 112, 46, 101, 120, 97, 109, 112, 108, 101, 47, 114, 101, 115, 105, 100, 117, 97, 116, 101, 100, 116, 97, 98, 108, 101, 115, 47, 108, 97, 119, 115, 46, 70, 110, 69, 120, 97, 99, 116, 73, 115, 77, 97, 112, 32, 108, 111, 111, 112, 46, 101, 120, 97, 109, 112, 108, 101, 47, 114, 101, 115, 105, 100, 117, 97, 116, 101, 100, 116, 97, 98, 108, 101, 115, 47, 108, 97, 119, 115, 46, 70, 110, 69, 120, 97, 99, 116, 75, 101, 114, 110, 101, 108, 79, 102, 32, 108, 111, 111, 112, 46, 101, 120, 97, 109, 112, 108, 101, 47, 114, 101, 115, 105, 100, 117, 97, 116, 101, 100, 116, 97, 98, 108, 101, 115, 47, 108, 97, 119, 115, 46, 70, 110, 69, 120, 97, 99, 116, 73, 109, 97, 103, 101, 79, 102, 32, 108, 111, 111, 112, 46, 101, 120, 97, 109, 112, 108, 101, 47, 114, 101, 115, 105, 100, 117, 97, 116, 101, 100, 116, 97, 98, 108, 101, 115, 47, 108, 97, 119, 115, 46, 70, 110, 69, 120, 97, 99, 116, 71, 114, 101, 97, 116, 101, 115, 116, 70, 105, 108, 116, 101, 114, 115, 32, 108, 111, 111, 112, 46, 101, 120, 97, 109, 112, 108, 101, 47, 114, 101, 115, 105, 100, 117, 97, 116, 101, 100, 116, 97, 98, 108, 101, 115, 47, 108, 97, 119, 115, 46, 70, 110, 69, 120, 97, 99, 116, 82, 97, 100, 105, 99, 97, 108, 79, 102, 32, 108, 111, 111, 112, 46, 101, 120, 97, 109, 112, 108, 101, 47, 114, 101, 115, 105, 100, 117, 97, 116, 101, 100, 116, 97, 98, 108, 101, 115, 47, 108, 97, 119, 115, 46, 70, 110, 69, 120, 97, 99, 116, 73, 115, 76, 111, 99, 97, 108, 32, 108, 111, 111, 112, 46, 101, 120, 97, 109, 112, 108, 101, 47, 114, 101, 115, 105, 100, 117, 97, 116, 101, 100, 116, 97, 98, 108, 101, 115, 47, 108, 97, 119, 115, 46, 70, 110, 69, 120, 97, 99, 116, 72, 101, 97, 114, 116, 79, 102]
theorem io : Try.prog.initOrder = String.ofList (w1 ++ sp :: (w2 ++ sp :: (w3 ++ sp :: w4))) := by kernel_rfl
theorem heads : wordsSigns Try.prog.initOrder.toList = w1 :: w2 :: w3 :: wordsSigns w4 := by
  rw [io, String.toList_ofList, ws_word _ _ (of_decide_eq_true (by kernel_rfl)), ws_word _ _ (of_decide_eq_true (by kernel_rfl)), ws_word _ _ (of_decide_eq_true (by kernel_rfl))]
theorem beh : behindMainWord (wordsSigns Try.prog.initOrder.toList) = cutW :: wordsSigns w4 := by rw [heads]; exact behind_of _ _ _ (by decide +kernel)
theorem mayEnter : Try.prog.mayEnter = true := mayEnter_of _ _ beh (by kernel_rfl) (by kernel_rfl) (by kernel_rfl)
theorem liftsFinal : Try.prog.liftsFinal = false := liftsFinal_of _ _ beh
theorem make : Try.prog.make = some .cut := make_of _ _ beh
end Go.Proofs.Ytomapoenndlbiaa.F
