/- For every law of this seat: what its row asks of all functions that the law reaches. Written by wip/facts.py. -/
import Derived.Test.YtjidbgmkhapklaaMFacts
import Derived.Test.YtjidbgmkhapklaaProg
import Derived.KernelRfl
namespace Go.Proofs.Ytjidbgmkhapklaa.F
open Go MFacts
def LA : List Nat := [6, 14, 16, 17, 18, 19, 20, 23, 25, 27, 28, 33, 39, 40, 41, 45, 56, 59, 60, 62, 63, 64, 66, 68, 69, 70, 72, 75, 76, 81, 82, 83, 84, 90, 98, 99, 100, 101, 103, 104, 105, 106, 111]
def LU : List Nat := [14, 16, 17, 18, 19, 20, 23, 25, 27, 39, 40, 41, 45, 56, 62, 63, 64, 66, 68, 69, 70, 72, 75, 82, 83, 84, 90, 98, 99, 100, 101, 103, 104, 105, 111]
def LN : List Nat := [14, 16, 17, 18, 19, 20, 23, 25, 27, 39, 40, 41, 45, 56, 62, 63, 64, 66, 68, 69, 70, 72, 75, 82, 83, 84, 90, 98, 99, 100, 101, 103, 104, 105, 111]
def rk (g : Nat) : Nat := ([0, 0, 0, 0, 0, 0, 0, 0, 0, 0, 0, 0, 0, 0, 1, 0, 3, 1, 1, 3, 3, 0, 0, 3, 0, 3, 0, 7, 0, 0, 0, 0, 0, 0, 0, 0, 0, 0, 0, 2, 2, 2, 0, 0, 0, 3, 0, 0, 0, 0, 0, 0, 0, 0, 0, 0, 5, 0, 0, 0, 0, 0, 2, 1, 1, 0, 1, 0, 1, 2, 6, 0, 2, 0, 0, 4, 0, 0, 0, 0, 0, 0, 2, 1, 1, 0, 0, 0, 0, 0, 1, 0, 0, 0, 0, 0, 0, 0, 4, 4, 4, 2, 0, 3, 1, 1, 0, 0, 0, 0, 0, 2] : List Nat).getD g 0
abbrev A (n : Nat) : Prop := ∃ fn, Try.prog.funcs[n]? = some fn ∧ fnOk Try.prog LA fn = true
abbrev U (n : Nat) : Prop := ∃ fn, Try.prog.funcs[n]? = some fn ∧ fnOk Try.prog LU fn = true
abbrev N (n : Nat) : Prop := ∃ fn, Try.prog.funcs[n]? = some fn ∧ fnOk Try.prog LN fn = true
def R (n : Nat) : Prop := ∀ x ∈ next Try.prog n, rk x < rk n
abbrev V (n : Nat) : Prop := ∃ fn, Try.prog.funcs[n]? = some fn ∧ fnFollowed fn = true
theorem a6 : A 6 := ⟨_, Try.func6, by kernel_rfl⟩
theorem a14 : A 14 := ⟨_, Try.func14, by kernel_rfl⟩
theorem a16 : A 16 := ⟨_, Try.func16, by kernel_rfl⟩
theorem a17 : A 17 := ⟨_, Try.func17, by kernel_rfl⟩
theorem a18 : A 18 := ⟨_, Try.func18, by kernel_rfl⟩
theorem a19 : A 19 := ⟨_, Try.func19, by kernel_rfl⟩
theorem a20 : A 20 := ⟨_, Try.func20, by kernel_rfl⟩
theorem a23 : A 23 := ⟨_, Try.func23, by kernel_rfl⟩
theorem a25 : A 25 := ⟨_, Try.func25, by kernel_rfl⟩
theorem a27 : A 27 := ⟨_, Try.func27, by kernel_rfl⟩
theorem a28 : A 28 := ⟨_, Try.func28, by kernel_rfl⟩
theorem a33 : A 33 := ⟨_, Try.func33, by kernel_rfl⟩
theorem a39 : A 39 := ⟨_, Try.func39, by kernel_rfl⟩
theorem a40 : A 40 := ⟨_, Try.func40, by kernel_rfl⟩
theorem a41 : A 41 := ⟨_, Try.func41, by kernel_rfl⟩
theorem a45 : A 45 := ⟨_, Try.func45, by kernel_rfl⟩
theorem a56 : A 56 := ⟨_, Try.func56, by kernel_rfl⟩
theorem a59 : A 59 := ⟨_, Try.func59, by kernel_rfl⟩
theorem a60 : A 60 := ⟨_, Try.func60, by kernel_rfl⟩
theorem a62 : A 62 := ⟨_, Try.func62, by kernel_rfl⟩
theorem a63 : A 63 := ⟨_, Try.func63, by kernel_rfl⟩
theorem a64 : A 64 := ⟨_, Try.func64, by kernel_rfl⟩
theorem a66 : A 66 := ⟨_, Try.func66, by kernel_rfl⟩
theorem a68 : A 68 := ⟨_, Try.func68, by kernel_rfl⟩
theorem a69 : A 69 := ⟨_, Try.func69, by kernel_rfl⟩
theorem a70 : A 70 := ⟨_, Try.func70, by kernel_rfl⟩
theorem a72 : A 72 := ⟨_, Try.func72, by kernel_rfl⟩
theorem a75 : A 75 := ⟨_, Try.func75, by kernel_rfl⟩
theorem a76 : A 76 := ⟨_, Try.func76, by kernel_rfl⟩
theorem a81 : A 81 := ⟨_, Try.func81, by kernel_rfl⟩
theorem a82 : A 82 := ⟨_, Try.func82, by kernel_rfl⟩
theorem a83 : A 83 := ⟨_, Try.func83, by kernel_rfl⟩
theorem a84 : A 84 := ⟨_, Try.func84, by kernel_rfl⟩
theorem a90 : A 90 := ⟨_, Try.func90, by kernel_rfl⟩
theorem a98 : A 98 := ⟨_, Try.func98, by kernel_rfl⟩
theorem a99 : A 99 := ⟨_, Try.func99, by kernel_rfl⟩
theorem a100 : A 100 := ⟨_, Try.func100, by kernel_rfl⟩
theorem a101 : A 101 := ⟨_, Try.func101, by kernel_rfl⟩
theorem a103 : A 103 := ⟨_, Try.func103, by kernel_rfl⟩
theorem a104 : A 104 := ⟨_, Try.func104, by kernel_rfl⟩
theorem a105 : A 105 := ⟨_, Try.func105, by kernel_rfl⟩
theorem a106 : A 106 := ⟨_, Try.func106, by kernel_rfl⟩
theorem a111 : A 111 := ⟨_, Try.func111, by kernel_rfl⟩
theorem u14 : U 14 := ⟨_, Try.func14, by kernel_rfl⟩
theorem v14 : V 14 := ⟨_, Try.func14, by kernel_rfl⟩
theorem u16 : U 16 := ⟨_, Try.func16, by kernel_rfl⟩
theorem v16 : V 16 := ⟨_, Try.func16, by kernel_rfl⟩
theorem u17 : U 17 := ⟨_, Try.func17, by kernel_rfl⟩
theorem v17 : V 17 := ⟨_, Try.func17, by kernel_rfl⟩
theorem u18 : U 18 := ⟨_, Try.func18, by kernel_rfl⟩
theorem v18 : V 18 := ⟨_, Try.func18, by kernel_rfl⟩
theorem u19 : U 19 := ⟨_, Try.func19, by kernel_rfl⟩
theorem v19 : V 19 := ⟨_, Try.func19, by kernel_rfl⟩
theorem u20 : U 20 := ⟨_, Try.func20, by kernel_rfl⟩
theorem v20 : V 20 := ⟨_, Try.func20, by kernel_rfl⟩
theorem u23 : U 23 := ⟨_, Try.func23, by kernel_rfl⟩
theorem v23 : V 23 := ⟨_, Try.func23, by kernel_rfl⟩
theorem u25 : U 25 := ⟨_, Try.func25, by kernel_rfl⟩
theorem v25 : V 25 := ⟨_, Try.func25, by kernel_rfl⟩
theorem u27 : U 27 := ⟨_, Try.func27, by kernel_rfl⟩
theorem v27 : V 27 := ⟨_, Try.func27, by kernel_rfl⟩
theorem u39 : U 39 := ⟨_, Try.func39, by kernel_rfl⟩
theorem v39 : V 39 := ⟨_, Try.func39, by kernel_rfl⟩
theorem u40 : U 40 := ⟨_, Try.func40, by kernel_rfl⟩
theorem v40 : V 40 := ⟨_, Try.func40, by kernel_rfl⟩
theorem u41 : U 41 := ⟨_, Try.func41, by kernel_rfl⟩
theorem v41 : V 41 := ⟨_, Try.func41, by kernel_rfl⟩
theorem u45 : U 45 := ⟨_, Try.func45, by kernel_rfl⟩
theorem v45 : V 45 := ⟨_, Try.func45, by kernel_rfl⟩
theorem u56 : U 56 := ⟨_, Try.func56, by kernel_rfl⟩
theorem v56 : V 56 := ⟨_, Try.func56, by kernel_rfl⟩
theorem u62 : U 62 := ⟨_, Try.func62, by kernel_rfl⟩
theorem v62 : V 62 := ⟨_, Try.func62, by kernel_rfl⟩
theorem u63 : U 63 := ⟨_, Try.func63, by kernel_rfl⟩
theorem v63 : V 63 := ⟨_, Try.func63, by kernel_rfl⟩
theorem u64 : U 64 := ⟨_, Try.func64, by kernel_rfl⟩
theorem v64 : V 64 := ⟨_, Try.func64, by kernel_rfl⟩
theorem u66 : U 66 := ⟨_, Try.func66, by kernel_rfl⟩
theorem v66 : V 66 := ⟨_, Try.func66, by kernel_rfl⟩
theorem u68 : U 68 := ⟨_, Try.func68, by kernel_rfl⟩
theorem v68 : V 68 := ⟨_, Try.func68, by kernel_rfl⟩
theorem u69 : U 69 := ⟨_, Try.func69, by kernel_rfl⟩
theorem v69 : V 69 := ⟨_, Try.func69, by kernel_rfl⟩
theorem u70 : U 70 := ⟨_, Try.func70, by kernel_rfl⟩
theorem v70 : V 70 := ⟨_, Try.func70, by kernel_rfl⟩
theorem u72 : U 72 := ⟨_, Try.func72, by kernel_rfl⟩
theorem v72 : V 72 := ⟨_, Try.func72, by kernel_rfl⟩
theorem u75 : U 75 := ⟨_, Try.func75, by kernel_rfl⟩
theorem v75 : V 75 := ⟨_, Try.func75, by kernel_rfl⟩
theorem u82 : U 82 := ⟨_, Try.func82, by kernel_rfl⟩
theorem v82 : V 82 := ⟨_, Try.func82, by kernel_rfl⟩
theorem u83 : U 83 := ⟨_, Try.func83, by kernel_rfl⟩
theorem v83 : V 83 := ⟨_, Try.func83, by kernel_rfl⟩
theorem u84 : U 84 := ⟨_, Try.func84, by kernel_rfl⟩
theorem v84 : V 84 := ⟨_, Try.func84, by kernel_rfl⟩
theorem u90 : U 90 := ⟨_, Try.func90, by kernel_rfl⟩
theorem v90 : V 90 := ⟨_, Try.func90, by kernel_rfl⟩
theorem u98 : U 98 := ⟨_, Try.func98, by kernel_rfl⟩
theorem v98 : V 98 := ⟨_, Try.func98, by kernel_rfl⟩
theorem u99 : U 99 := ⟨_, Try.func99, by kernel_rfl⟩
theorem v99 : V 99 := ⟨_, Try.func99, by kernel_rfl⟩
theorem u100 : U 100 := ⟨_, Try.func100, by kernel_rfl⟩
theorem v100 : V 100 := ⟨_, Try.func100, by kernel_rfl⟩
theorem u101 : U 101 := ⟨_, Try.func101, by kernel_rfl⟩
theorem v101 : V 101 := ⟨_, Try.func101, by kernel_rfl⟩
theorem u103 : U 103 := ⟨_, Try.func103, by kernel_rfl⟩
theorem v103 : V 103 := ⟨_, Try.func103, by kernel_rfl⟩
theorem u104 : U 104 := ⟨_, Try.func104, by kernel_rfl⟩
theorem v104 : V 104 := ⟨_, Try.func104, by kernel_rfl⟩
theorem u105 : U 105 := ⟨_, Try.func105, by kernel_rfl⟩
theorem v105 : V 105 := ⟨_, Try.func105, by kernel_rfl⟩
theorem u111 : U 111 := ⟨_, Try.func111, by kernel_rfl⟩
theorem v111 : V 111 := ⟨_, Try.func111, by kernel_rfl⟩
theorem n14 : N 14 := ⟨_, Try.func14, by kernel_rfl⟩
theorem r14 : R 14 := by unfold R next; rw [Try.func14]; exact of_decide_eq_true (by kernel_rfl)
theorem n16 : N 16 := ⟨_, Try.func16, by kernel_rfl⟩
theorem r16 : R 16 := by unfold R next; rw [Try.func16]; exact of_decide_eq_true (by kernel_rfl)
theorem n17 : N 17 := ⟨_, Try.func17, by kernel_rfl⟩
theorem r17 : R 17 := by unfold R next; rw [Try.func17]; exact of_decide_eq_true (by kernel_rfl)
theorem n18 : N 18 := ⟨_, Try.func18, by kernel_rfl⟩
theorem r18 : R 18 := by unfold R next; rw [Try.func18]; exact of_decide_eq_true (by kernel_rfl)
theorem n19 : N 19 := ⟨_, Try.func19, by kernel_rfl⟩
theorem r19 : R 19 := by unfold R next; rw [Try.func19]; exact of_decide_eq_true (by kernel_rfl)
theorem n20 : N 20 := ⟨_, Try.func20, by kernel_rfl⟩
theorem r20 : R 20 := by unfold R next; rw [Try.func20]; exact of_decide_eq_true (by kernel_rfl)
theorem n23 : N 23 := ⟨_, Try.func23, by kernel_rfl⟩
theorem r23 : R 23 := by unfold R next; rw [Try.func23]; exact of_decide_eq_true (by kernel_rfl)
theorem n25 : N 25 := ⟨_, Try.func25, by kernel_rfl⟩
theorem r25 : R 25 := by unfold R next; rw [Try.func25]; exact of_decide_eq_true (by kernel_rfl)
theorem n27 : N 27 := ⟨_, Try.func27, by kernel_rfl⟩
theorem r27 : R 27 := by unfold R next; rw [Try.func27]; exact of_decide_eq_true (by kernel_rfl)
theorem n39 : N 39 := ⟨_, Try.func39, by kernel_rfl⟩
theorem r39 : R 39 := by unfold R next; rw [Try.func39]; exact of_decide_eq_true (by kernel_rfl)
theorem n40 : N 40 := ⟨_, Try.func40, by kernel_rfl⟩
theorem r40 : R 40 := by unfold R next; rw [Try.func40]; exact of_decide_eq_true (by kernel_rfl)
theorem n41 : N 41 := ⟨_, Try.func41, by kernel_rfl⟩
theorem r41 : R 41 := by unfold R next; rw [Try.func41]; exact of_decide_eq_true (by kernel_rfl)
theorem n45 : N 45 := ⟨_, Try.func45, by kernel_rfl⟩
theorem r45 : R 45 := by unfold R next; rw [Try.func45]; exact of_decide_eq_true (by kernel_rfl)
theorem n56 : N 56 := ⟨_, Try.func56, by kernel_rfl⟩
theorem r56 : R 56 := by unfold R next; rw [Try.func56]; exact of_decide_eq_true (by kernel_rfl)
theorem n62 : N 62 := ⟨_, Try.func62, by kernel_rfl⟩
theorem r62 : R 62 := by unfold R next; rw [Try.func62]; exact of_decide_eq_true (by kernel_rfl)
theorem n63 : N 63 := ⟨_, Try.func63, by kernel_rfl⟩
theorem r63 : R 63 := by unfold R next; rw [Try.func63]; exact of_decide_eq_true (by kernel_rfl)
theorem n64 : N 64 := ⟨_, Try.func64, by kernel_rfl⟩
theorem r64 : R 64 := by unfold R next; rw [Try.func64]; exact of_decide_eq_true (by kernel_rfl)
theorem n66 : N 66 := ⟨_, Try.func66, by kernel_rfl⟩
theorem r66 : R 66 := by unfold R next; rw [Try.func66]; exact of_decide_eq_true (by kernel_rfl)
theorem n68 : N 68 := ⟨_, Try.func68, by kernel_rfl⟩
theorem r68 : R 68 := by unfold R next; rw [Try.func68]; exact of_decide_eq_true (by kernel_rfl)
theorem n69 : N 69 := ⟨_, Try.func69, by kernel_rfl⟩
theorem r69 : R 69 := by unfold R next; rw [Try.func69]; exact of_decide_eq_true (by kernel_rfl)
theorem n70 : N 70 := ⟨_, Try.func70, by kernel_rfl⟩
theorem r70 : R 70 := by unfold R next; rw [Try.func70]; exact of_decide_eq_true (by kernel_rfl)
theorem n72 : N 72 := ⟨_, Try.func72, by kernel_rfl⟩
theorem r72 : R 72 := by unfold R next; rw [Try.func72]; exact of_decide_eq_true (by kernel_rfl)
theorem n75 : N 75 := ⟨_, Try.func75, by kernel_rfl⟩
theorem r75 : R 75 := by unfold R next; rw [Try.func75]; exact of_decide_eq_true (by kernel_rfl)
theorem n82 : N 82 := ⟨_, Try.func82, by kernel_rfl⟩
theorem r82 : R 82 := by unfold R next; rw [Try.func82]; exact of_decide_eq_true (by kernel_rfl)
theorem n83 : N 83 := ⟨_, Try.func83, by kernel_rfl⟩
theorem r83 : R 83 := by unfold R next; rw [Try.func83]; exact of_decide_eq_true (by kernel_rfl)
theorem n84 : N 84 := ⟨_, Try.func84, by kernel_rfl⟩
theorem r84 : R 84 := by unfold R next; rw [Try.func84]; exact of_decide_eq_true (by kernel_rfl)
theorem n90 : N 90 := ⟨_, Try.func90, by kernel_rfl⟩
theorem r90 : R 90 := by unfold R next; rw [Try.func90]; exact of_decide_eq_true (by kernel_rfl)
theorem n98 : N 98 := ⟨_, Try.func98, by kernel_rfl⟩
theorem r98 : R 98 := by unfold R next; rw [Try.func98]; exact of_decide_eq_true (by kernel_rfl)
theorem n99 : N 99 := ⟨_, Try.func99, by kernel_rfl⟩
theorem r99 : R 99 := by unfold R next; rw [Try.func99]; exact of_decide_eq_true (by kernel_rfl)
theorem n100 : N 100 := ⟨_, Try.func100, by kernel_rfl⟩
theorem r100 : R 100 := by unfold R next; rw [Try.func100]; exact of_decide_eq_true (by kernel_rfl)
theorem n101 : N 101 := ⟨_, Try.func101, by kernel_rfl⟩
theorem r101 : R 101 := by unfold R next; rw [Try.func101]; exact of_decide_eq_true (by kernel_rfl)
theorem n103 : N 103 := ⟨_, Try.func103, by kernel_rfl⟩
theorem r103 : R 103 := by unfold R next; rw [Try.func103]; exact of_decide_eq_true (by kernel_rfl)
theorem n104 : N 104 := ⟨_, Try.func104, by kernel_rfl⟩
theorem r104 : R 104 := by unfold R next; rw [Try.func104]; exact of_decide_eq_true (by kernel_rfl)
theorem n105 : N 105 := ⟨_, Try.func105, by kernel_rfl⟩
theorem r105 : R 105 := by unfold R next; rw [Try.func105]; exact of_decide_eq_true (by kernel_rfl)
theorem n111 : N 111 := ⟨_, Try.func111, by kernel_rfl⟩
theorem r111 : R 111 := by unfold R next; rw [Try.func111]; exact of_decide_eq_true (by kernel_rfl)
set_option maxRecDepth 100000
theorem okA : AllOk Try.prog LA := ⟨List.forall_mem_cons.2 ⟨a6, List.forall_mem_cons.2 ⟨a14, List.forall_mem_cons.2 ⟨a16, List.forall_mem_cons.2 ⟨a17, List.forall_mem_cons.2 ⟨a18, List.forall_mem_cons.2 ⟨a19, List.forall_mem_cons.2 ⟨a20, List.forall_mem_cons.2 ⟨a23, List.forall_mem_cons.2 ⟨a25, List.forall_mem_cons.2 ⟨a27, List.forall_mem_cons.2 ⟨a28, List.forall_mem_cons.2 ⟨a33, List.forall_mem_cons.2 ⟨a39, List.forall_mem_cons.2 ⟨a40, List.forall_mem_cons.2 ⟨a41, List.forall_mem_cons.2 ⟨a45, List.forall_mem_cons.2 ⟨a56, List.forall_mem_cons.2 ⟨a59, List.forall_mem_cons.2 ⟨a60, List.forall_mem_cons.2 ⟨a62, List.forall_mem_cons.2 ⟨a63, List.forall_mem_cons.2 ⟨a64, List.forall_mem_cons.2 ⟨a66, List.forall_mem_cons.2 ⟨a68, List.forall_mem_cons.2 ⟨a69, List.forall_mem_cons.2 ⟨a70, List.forall_mem_cons.2 ⟨a72, List.forall_mem_cons.2 ⟨a75, List.forall_mem_cons.2 ⟨a76, List.forall_mem_cons.2 ⟨a81, List.forall_mem_cons.2 ⟨a82, List.forall_mem_cons.2 ⟨a83, List.forall_mem_cons.2 ⟨a84, List.forall_mem_cons.2 ⟨a90, List.forall_mem_cons.2 ⟨a98, List.forall_mem_cons.2 ⟨a99, List.forall_mem_cons.2 ⟨a100, List.forall_mem_cons.2 ⟨a101, List.forall_mem_cons.2 ⟨a103, List.forall_mem_cons.2 ⟨a104, List.forall_mem_cons.2 ⟨a105, List.forall_mem_cons.2 ⟨a106, List.forall_mem_cons.2 ⟨a111, fun _ h => by cases h⟩⟩⟩⟩⟩⟩⟩⟩⟩⟩⟩⟩⟩⟩⟩⟩⟩⟩⟩⟩⟩⟩⟩⟩⟩⟩⟩⟩⟩⟩⟩⟩⟩⟩⟩⟩⟩⟩⟩⟩⟩⟩⟩⟩
theorem okU : AllOk Try.prog LU := ⟨List.forall_mem_cons.2 ⟨u14, List.forall_mem_cons.2 ⟨u16, List.forall_mem_cons.2 ⟨u17, List.forall_mem_cons.2 ⟨u18, List.forall_mem_cons.2 ⟨u19, List.forall_mem_cons.2 ⟨u20, List.forall_mem_cons.2 ⟨u23, List.forall_mem_cons.2 ⟨u25, List.forall_mem_cons.2 ⟨u27, List.forall_mem_cons.2 ⟨u39, List.forall_mem_cons.2 ⟨u40, List.forall_mem_cons.2 ⟨u41, List.forall_mem_cons.2 ⟨u45, List.forall_mem_cons.2 ⟨u56, List.forall_mem_cons.2 ⟨u62, List.forall_mem_cons.2 ⟨u63, List.forall_mem_cons.2 ⟨u64, List.forall_mem_cons.2 ⟨u66, List.forall_mem_cons.2 ⟨u68, List.forall_mem_cons.2 ⟨u69, List.forall_mem_cons.2 ⟨u70, List.forall_mem_cons.2 ⟨u72, List.forall_mem_cons.2 ⟨u75, List.forall_mem_cons.2 ⟨u82, List.forall_mem_cons.2 ⟨u83, List.forall_mem_cons.2 ⟨u84, List.forall_mem_cons.2 ⟨u90, List.forall_mem_cons.2 ⟨u98, List.forall_mem_cons.2 ⟨u99, List.forall_mem_cons.2 ⟨u100, List.forall_mem_cons.2 ⟨u101, List.forall_mem_cons.2 ⟨u103, List.forall_mem_cons.2 ⟨u104, List.forall_mem_cons.2 ⟨u105, List.forall_mem_cons.2 ⟨u111, fun _ h => by cases h⟩⟩⟩⟩⟩⟩⟩⟩⟩⟩⟩⟩⟩⟩⟩⟩⟩⟩⟩⟩⟩⟩⟩⟩⟩⟩⟩⟩⟩⟩⟩⟩⟩⟩⟩⟩
theorem followedU : ∀ g ∈ LU, ∃ fn, Try.prog.funcs[g]? = some fn ∧ fnFollowed fn = true := List.forall_mem_cons.2 ⟨v14, List.forall_mem_cons.2 ⟨v16, List.forall_mem_cons.2 ⟨v17, List.forall_mem_cons.2 ⟨v18, List.forall_mem_cons.2 ⟨v19, List.forall_mem_cons.2 ⟨v20, List.forall_mem_cons.2 ⟨v23, List.forall_mem_cons.2 ⟨v25, List.forall_mem_cons.2 ⟨v27, List.forall_mem_cons.2 ⟨v39, List.forall_mem_cons.2 ⟨v40, List.forall_mem_cons.2 ⟨v41, List.forall_mem_cons.2 ⟨v45, List.forall_mem_cons.2 ⟨v56, List.forall_mem_cons.2 ⟨v62, List.forall_mem_cons.2 ⟨v63, List.forall_mem_cons.2 ⟨v64, List.forall_mem_cons.2 ⟨v66, List.forall_mem_cons.2 ⟨v68, List.forall_mem_cons.2 ⟨v69, List.forall_mem_cons.2 ⟨v70, List.forall_mem_cons.2 ⟨v72, List.forall_mem_cons.2 ⟨v75, List.forall_mem_cons.2 ⟨v82, List.forall_mem_cons.2 ⟨v83, List.forall_mem_cons.2 ⟨v84, List.forall_mem_cons.2 ⟨v90, List.forall_mem_cons.2 ⟨v98, List.forall_mem_cons.2 ⟨v99, List.forall_mem_cons.2 ⟨v100, List.forall_mem_cons.2 ⟨v101, List.forall_mem_cons.2 ⟨v103, List.forall_mem_cons.2 ⟨v104, List.forall_mem_cons.2 ⟨v105, List.forall_mem_cons.2 ⟨v111, fun _ h => by cases h⟩⟩⟩⟩⟩⟩⟩⟩⟩⟩⟩⟩⟩⟩⟩⟩⟩⟩⟩⟩⟩⟩⟩⟩⟩⟩⟩⟩⟩⟩⟩⟩⟩⟩⟩
theorem okN : AllOk Try.prog LN := ⟨List.forall_mem_cons.2 ⟨n14, List.forall_mem_cons.2 ⟨n16, List.forall_mem_cons.2 ⟨n17, List.forall_mem_cons.2 ⟨n18, List.forall_mem_cons.2 ⟨n19, List.forall_mem_cons.2 ⟨n20, List.forall_mem_cons.2 ⟨n23, List.forall_mem_cons.2 ⟨n25, List.forall_mem_cons.2 ⟨n27, List.forall_mem_cons.2 ⟨n39, List.forall_mem_cons.2 ⟨n40, List.forall_mem_cons.2 ⟨n41, List.forall_mem_cons.2 ⟨n45, List.forall_mem_cons.2 ⟨n56, List.forall_mem_cons.2 ⟨n62, List.forall_mem_cons.2 ⟨n63, List.forall_mem_cons.2 ⟨n64, List.forall_mem_cons.2 ⟨n66, List.forall_mem_cons.2 ⟨n68, List.forall_mem_cons.2 ⟨n69, List.forall_mem_cons.2 ⟨n70, List.forall_mem_cons.2 ⟨n72, List.forall_mem_cons.2 ⟨n75, List.forall_mem_cons.2 ⟨n82, List.forall_mem_cons.2 ⟨n83, List.forall_mem_cons.2 ⟨n84, List.forall_mem_cons.2 ⟨n90, List.forall_mem_cons.2 ⟨n98, List.forall_mem_cons.2 ⟨n99, List.forall_mem_cons.2 ⟨n100, List.forall_mem_cons.2 ⟨n101, List.forall_mem_cons.2 ⟨n103, List.forall_mem_cons.2 ⟨n104, List.forall_mem_cons.2 ⟨n105, List.forall_mem_cons.2 ⟨n111, fun _ h => by cases h⟩⟩⟩⟩⟩⟩⟩⟩⟩⟩⟩⟩⟩⟩⟩⟩⟩⟩⟩⟩⟩⟩⟩⟩⟩⟩⟩⟩⟩⟩⟩⟩⟩⟩⟩⟩
theorem rankN : ∀ g ∈ LN, ∀ x ∈ next Try.prog g, rk x < rk g := List.forall_mem_cons.2 ⟨r14, List.forall_mem_cons.2 ⟨r16, List.forall_mem_cons.2 ⟨r17, List.forall_mem_cons.2 ⟨r18, List.forall_mem_cons.2 ⟨r19, List.forall_mem_cons.2 ⟨r20, List.forall_mem_cons.2 ⟨r23, List.forall_mem_cons.2 ⟨r25, List.forall_mem_cons.2 ⟨r27, List.forall_mem_cons.2 ⟨r39, List.forall_mem_cons.2 ⟨r40, List.forall_mem_cons.2 ⟨r41, List.forall_mem_cons.2 ⟨r45, List.forall_mem_cons.2 ⟨r56, List.forall_mem_cons.2 ⟨r62, List.forall_mem_cons.2 ⟨r63, List.forall_mem_cons.2 ⟨r64, List.forall_mem_cons.2 ⟨r66, List.forall_mem_cons.2 ⟨r68, List.forall_mem_cons.2 ⟨r69, List.forall_mem_cons.2 ⟨r70, List.forall_mem_cons.2 ⟨r72, List.forall_mem_cons.2 ⟨r75, List.forall_mem_cons.2 ⟨r82, List.forall_mem_cons.2 ⟨r83, List.forall_mem_cons.2 ⟨r84, List.forall_mem_cons.2 ⟨r90, List.forall_mem_cons.2 ⟨r98, List.forall_mem_cons.2 ⟨r99, List.forall_mem_cons.2 ⟨r100, List.forall_mem_cons.2 ⟨r101, List.forall_mem_cons.2 ⟨r103, List.forall_mem_cons.2 ⟨r104, List.forall_mem_cons.2 ⟨r105, List.forall_mem_cons.2 ⟨r111, fun _ h => by cases h⟩⟩⟩⟩⟩⟩⟩⟩⟩⟩⟩⟩⟩⟩⟩⟩⟩⟩⟩⟩⟩⟩⟩⟩⟩⟩⟩⟩⟩⟩⟩⟩⟩⟩⟩
theorem inPlace_FnExactStackAlgebras : Try.prog.inPlace 6 = [] := okA.inPlace (by decide)
theorem named_FnExactStackAlgebras : Try.prog.varsNamed 6 = [] := okA.varsNamed (by decide)
theorem has_FnExactStackAlgebras : 106 ∈ Try.prog.closure 6 := closure_has _ _ _ 75 (of_decide_eq_true (by kernel_rfl)) (List.contains_iff_mem.1 (by kernel_rfl))
theorem unf_FnExactStackAlgebras : Try.prog.unfollowed 6 = true := unfollowed_yes has_FnExactStackAlgebras Try.func106 rfl (by kernel_rfl)
theorem rec_FnExactStackAlgebras : Try.prog.recurses 6 = true := recurses_un unf_FnExactStackAlgebras
def w1 : List Char := chs [104, 97, 114, 110, 101, 115, 115]
def w2 : List Char := chs [53, 98, 53, 54, 57, 54, 99, 48, 51, 49, 102, 101, 101, 98, 102, 55, 56, 54, 97, 99, 55, 99, 98, 98, 97, 50, 51, 56, 52, 50, 101, 100, 99, 56, 52, 100, 102, 51, 51, 52, 57, 102, 54, 99, 55, 51, 99, 49, 100, 57, 98, 102, 55, 54, 54, 102, 53, 100, 57, 50, 100, 57, 99, 49]
def w3 : List Char := cutW
def w4 : List Char := chs [97, 116, 32, 108, 111, 111, 112, 46, 101, 120, 97, 109, 112, 108, 101, 47, 114, 101, 115, 105, 100, 117, 97, 116, 101, 100, 116, 97, 98, 108, 101, 115, 47, 108, 97, 119, 115, 46, 70, 110, 69, 120, 97, 99, 116, 77, 101, 101, 116, 65, 108, 103, 101, 98, 114, 97, 32, 108, 111, 111, 112, 46, 101, 120, 97, 109, 112, 108, 101, 47, 114, 101, 115, 105, 100, 117, 97, 116, 101, 100, 116, 97, 98, 108, 101, 115, 47, 108, 97, 119, 115, 46, 70, 110, 69, 120, 97, 99, 116, 83, 117, 109, 67, 104, 97, 105, 110, 32, 108, 111, 111, 112, 46, 101, 120, 97, 109, 112, 108, 101, 47, 114, 101, 115, 105, 100, 117, 97, 116, 101, 100, 116, 97, 98, 108, 101, 115, 47, 108, 97, 119, 115, 46, 70, 110, 69, 120, 97, 99, 116, 67, 114, 111, 115, 115, 65, 108, 103, 101, 98, 114, 97, 115, 32, 108, 111, 111, 112, 46, 101, 120, 97, 109, 112, 108, 101, 47, 114, 101, 115, 105, 100, 117, 97, 116, 101, 100, 116, 97, 98, 108, 101, 115, 47, 108, 97, 119, 115, 46, 70, 110, 69, 120, 97, 99, 116, 83, 116, 97, 99, 107, 65, 108, 103, 101, 98, 114, 97, 115, 32, 108, 111, 111, 112, 46, 101, 120, 97, 109, 112, 108, 101, 47, 114, 101, 115, 105, 100, 117, 97, 116, 101, 100, 116, 97, 98, 108, 101, 115, 47, 108, 97, 119, 115, 46, 70, 110, 69, 120, 97, 99, 116, 83, 116, 97, 99, 107, 79, 102, 83, 117, 109, 115, 32, 108, 111, 111, 112, 46, 101, 120, 97, 109, 112, 108, 101, 47, 114, 101, 115, 105, 100, 117, 97, 116, 101, 100, 116, 97, 98, 108, 101, 115, 47, 108, 97, 119, 115, 46, 70, 110, 83, 117, 109, 67, 104, 97, 105, 110, 32, 108, 111, 111, 112, 46, 101, 120, 97, 109, 112, 108, 101, 47, 114, 101, 115, 105, 100, 117, 97, 116, 101, 100, 116, 97, 98, 108, 101, 115, 47, 108, 97, 119, 115, 46, 70, 110, 69, 120, 97, 99, 116, 65, 108, 108, 76, 97, 116, 116, 105, 99, 101, 115, 32, 108, 111, 111, 112, 46, 101, 120, 97, 109, 112, 108, 101, 47, 114, 101, 115, 105, 100, 117, 97, 116, 101, 100, 116, 97, 98, 108, 101, 115, 47, 108, 97, 119, 115, 46, 70, 110, 65, 108, 108, 76, 97, 116, 116, 105, 99, 101, 115, 32, 108, 111, 111, 112, 46, 101, 120, 97, 109, 112, 108, 101, 47, 114, 101, 115, 105, 100, 117, 97, 116, 101, 100, 116, 97, 98, 108, 101, 115, 47, 108, 97, 119, 115, 46, 70, 110, 67, 114, 111, 115, 115, 76, 97, 116, 116, 105, 99, 101, 115, 32, 108, 111, 111, 112, 46, 101, 120, 97, 109, 112, 108, 101, 47, 114, 101, 115, 105, 100, 117, 97, 116, 101, 100, 116, 97, 98, 108, 101, 115, 47, 108, 97, 119, 115, 46, 70, 110, 73, 115, 68, 105, 115, 116, 114, 105, 98, 117, 116, 105, 118, 101]
theorem io : Try.prog.initOrder = String.ofList (w1 ++ sp :: (w2 ++ sp :: (w3 ++ sp :: w4))) := by kernel_rfl
theorem heads : wordsSigns Try.prog.initOrder.toList = w1 :: w2 :: w3 :: wordsSigns w4 := by
  rw [io, String.toList_ofList, ws_word _ _ (of_decide_eq_true (by kernel_rfl)), ws_word _ _ (of_decide_eq_true (by kernel_rfl)), ws_word _ _ (of_decide_eq_true (by kernel_rfl))]
theorem beh : behindMainWord (wordsSigns Try.prog.initOrder.toList) = cutW :: wordsSigns w4 := by rw [heads]; exact behind_of _ _ _ (by decide +kernel)
theorem mayEnter : Try.prog.mayEnter = true := mayEnter_of _ _ beh (by kernel_rfl) (by kernel_rfl) (by kernel_rfl)
theorem liftsFinal : Try.prog.liftsFinal = false := liftsFinal_of _ _ beh
theorem make : Try.prog.make = some .cut := make_of _ _ beh
end Go.Proofs.Ytjidbgmkhapklaa.F
