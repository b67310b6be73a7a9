/- For every law of this seat: what its row asks of all functions that the law reaches. Written by wip/facts.py. -/
import Derived.Test.YtmfpaagjllaljaaMFacts
import Derived.Test.YtmfpaagjllaljaaProg
import Derived.KernelRfl
namespace Go.Proofs.Ytmfpaagjllaljaa.F
open Go MFacts
def LA : List Nat := [23, 24, 28, 32, 34, 42, 44, 50, 51, 52, 53, 69, 70, 71, 72, 75, 76, 77, 78, 79, 80, 81, 83, 84, 85, 86, 87, 89, 90, 92, 93, 95, 96, 99, 100, 101, 105, 106, 107, 108, 109, 110, 111, 114]
def LU : List Nat := [28, 32, 44, 50, 52, 69, 70, 71, 72, 75, 76, 77, 78, 79, 80, 81, 83, 84, 86, 87, 89, 90, 92, 93, 95, 96, 99, 100, 101, 105, 106, 108, 109, 110, 111]
def LN : List Nat := [28, 32, 44, 50, 52, 70, 71, 75, 76, 77, 78, 79, 80, 81, 83, 84, 86, 87, 89, 90, 92, 93, 95, 100, 101, 105, 106, 108, 109, 111]
def rk (g : Nat) : Nat := ([0, 0, 0, 0, 0, 0, 0, 0, 0, 0, 0, 0, 0, 0, 0, 0, 0, 0, 0, 0, 0, 0, 0, 0, 0, 0, 0, 0, 3, 0, 0, 0, 1, 0, 0, 0, 0, 0, 0, 0, 0, 0, 0, 0, 4, 0, 0, 0, 0, 0, 7, 0, 7, 0, 0, 0, 0, 0, 0, 0, 0, 0, 0, 0, 0, 0, 0, 0, 0, 0, 1, 1, 0, 0, 0, 5, 1, 1, 2, 1, 1, 2, 0, 1, 2, 0, 6, 3, 0, 4, 4, 0, 4, 4, 0, 4, 0, 0, 0, 0, 3, 1, 0, 0, 0, 4, 1, 0, 2, 2, 0, 2, 0, 0, 0] : List Nat).getD g 0
abbrev A (n : Nat) : Prop := ∃ fn, Try.prog.funcs[n]? = some fn ∧ fnOk Try.prog LA fn = true
abbrev U (n : Nat) : Prop := ∃ fn, Try.prog.funcs[n]? = some fn ∧ fnOk Try.prog LU fn = true
abbrev N (n : Nat) : Prop := ∃ fn, Try.prog.funcs[n]? = some fn ∧ fnOk Try.prog LN fn = true
def R (n : Nat) : Prop := ∀ x ∈ next Try.prog n, rk x < rk n
abbrev V (n : Nat) : Prop := ∃ fn, Try.prog.funcs[n]? = some fn ∧ fnFollowed fn = true
theorem a23 : A 23 := ⟨_, Try.func23, by kernel_rfl⟩
theorem a24 : A 24 := ⟨_, Try.func24, by kernel_rfl⟩
theorem a28 : A 28 := ⟨_, Try.func28, by kernel_rfl⟩
theorem a32 : A 32 := ⟨_, Try.func32, by kernel_rfl⟩
theorem a34 : A 34 := ⟨_, Try.func34, by kernel_rfl⟩
theorem a42 : A 42 := ⟨_, Try.func42, by kernel_rfl⟩
theorem a44 : A 44 := ⟨_, Try.func44, by kernel_rfl⟩
theorem a50 : A 50 := ⟨_, Try.func50, by kernel_rfl⟩
theorem a51 : A 51 := ⟨_, Try.func51, by kernel_rfl⟩
theorem a52 : A 52 := ⟨_, Try.func52, by kernel_rfl⟩
theorem a53 : A 53 := ⟨_, Try.func53, by kernel_rfl⟩
theorem a69 : A 69 := ⟨_, Try.func69, by kernel_rfl⟩
theorem a70 : A 70 := ⟨_, Try.func70, by kernel_rfl⟩
theorem a71 : A 71 := ⟨_, Try.func71, by kernel_rfl⟩
theorem a72 : A 72 := ⟨_, Try.func72, by kernel_rfl⟩
theorem a75 : A 75 := ⟨_, Try.func75, by kernel_rfl⟩
theorem a76 : A 76 := ⟨_, Try.func76, by kernel_rfl⟩
theorem a77 : A 77 := ⟨_, Try.func77, by kernel_rfl⟩
theorem a78 : A 78 := ⟨_, Try.func78, by kernel_rfl⟩
theorem a79 : A 79 := ⟨_, Try.func79, by kernel_rfl⟩
theorem a80 : A 80 := ⟨_, Try.func80, by kernel_rfl⟩
theorem a81 : A 81 := ⟨_, Try.func81, by kernel_rfl⟩
theorem a83 : A 83 := ⟨_, Try.func83, by kernel_rfl⟩
theorem a84 : A 84 := ⟨_, Try.func84, by kernel_rfl⟩
theorem a85 : A 85 := ⟨_, Try.func85, by kernel_rfl⟩
theorem a86 : A 86 := ⟨_, Try.func86, by kernel_rfl⟩
theorem a87 : A 87 := ⟨_, Try.func87, by kernel_rfl⟩
theorem a89 : A 89 := ⟨_, Try.func89, by kernel_rfl⟩
theorem a90 : A 90 := ⟨_, Try.func90, by kernel_rfl⟩
theorem a92 : A 92 := ⟨_, Try.func92, by kernel_rfl⟩
theorem a93 : A 93 := ⟨_, Try.func93, by kernel_rfl⟩
theorem a95 : A 95 := ⟨_, Try.func95, by kernel_rfl⟩
theorem a96 : A 96 := ⟨_, Try.func96, by kernel_rfl⟩
theorem a99 : A 99 := ⟨_, Try.func99, by kernel_rfl⟩
theorem a100 : A 100 := ⟨_, Try.func100, by kernel_rfl⟩
theorem a101 : A 101 := ⟨_, Try.func101, by kernel_rfl⟩
theorem a105 : A 105 := ⟨_, Try.func105, by kernel_rfl⟩
theorem a106 : A 106 := ⟨_, Try.func106, by kernel_rfl⟩
theorem a107 : A 107 := ⟨_, Try.func107, by kernel_rfl⟩
theorem a108 : A 108 := ⟨_, Try.func108, by kernel_rfl⟩
theorem a109 : A 109 := ⟨_, Try.func109, by kernel_rfl⟩
theorem a110 : A 110 := ⟨_, Try.func110, by kernel_rfl⟩
theorem a111 : A 111 := ⟨_, Try.func111, by kernel_rfl⟩
theorem a114 : A 114 := ⟨_, Try.func114, by kernel_rfl⟩
theorem u28 : U 28 := ⟨_, Try.func28, by kernel_rfl⟩
theorem v28 : V 28 := ⟨_, Try.func28, by kernel_rfl⟩
theorem u32 : U 32 := ⟨_, Try.func32, by kernel_rfl⟩
theorem v32 : V 32 := ⟨_, Try.func32, by kernel_rfl⟩
theorem u44 : U 44 := ⟨_, Try.func44, by kernel_rfl⟩
theorem v44 : V 44 := ⟨_, Try.func44, by kernel_rfl⟩
theorem u50 : U 50 := ⟨_, Try.func50, by kernel_rfl⟩
theorem v50 : V 50 := ⟨_, Try.func50, by kernel_rfl⟩
theorem u52 : U 52 := ⟨_, Try.func52, by kernel_rfl⟩
theorem v52 : V 52 := ⟨_, Try.func52, by kernel_rfl⟩
theorem u69 : U 69 := ⟨_, Try.func69, by kernel_rfl⟩
theorem v69 : V 69 := ⟨_, Try.func69, by kernel_rfl⟩
theorem u70 : U 70 := ⟨_, Try.func70, by kernel_rfl⟩
theorem v70 : V 70 := ⟨_, Try.func70, by kernel_rfl⟩
theorem u71 : U 71 := ⟨_, Try.func71, by kernel_rfl⟩
theorem v71 : V 71 := ⟨_, Try.func71, by kernel_rfl⟩
theorem u72 : U 72 := ⟨_, Try.func72, by kernel_rfl⟩
theorem v72 : V 72 := ⟨_, Try.func72, by kernel_rfl⟩
theorem u75 : U 75 := ⟨_, Try.func75, by kernel_rfl⟩
theorem v75 : V 75 := ⟨_, Try.func75, by kernel_rfl⟩
theorem u76 : U 76 := ⟨_, Try.func76, by kernel_rfl⟩
theorem v76 : V 76 := ⟨_, Try.func76, by kernel_rfl⟩
theorem u77 : U 77 := ⟨_, Try.func77, by kernel_rfl⟩
theorem v77 : V 77 := ⟨_, Try.func77, by kernel_rfl⟩
theorem u78 : U 78 := ⟨_, Try.func78, by kernel_rfl⟩
theorem v78 : V 78 := ⟨_, Try.func78, by kernel_rfl⟩
theorem u79 : U 79 := ⟨_, Try.func79, by kernel_rfl⟩
theorem v79 : V 79 := ⟨_, Try.func79, by kernel_rfl⟩
theorem u80 : U 80 := ⟨_, Try.func80, by kernel_rfl⟩
theorem v80 : V 80 := ⟨_, Try.func80, by kernel_rfl⟩
theorem u81 : U 81 := ⟨_, Try.func81, by kernel_rfl⟩
theorem v81 : V 81 := ⟨_, Try.func81, by kernel_rfl⟩
theorem u83 : U 83 := ⟨_, Try.func83, by kernel_rfl⟩
theorem v83 : V 83 := ⟨_, Try.func83, by kernel_rfl⟩
theorem u84 : U 84 := ⟨_, Try.func84, by kernel_rfl⟩
theorem v84 : V 84 := ⟨_, Try.func84, by kernel_rfl⟩
theorem u86 : U 86 := ⟨_, Try.func86, by kernel_rfl⟩
theorem v86 : V 86 := ⟨_, Try.func86, by kernel_rfl⟩
theorem u87 : U 87 := ⟨_, Try.func87, by kernel_rfl⟩
theorem v87 : V 87 := ⟨_, Try.func87, by kernel_rfl⟩
theorem u89 : U 89 := ⟨_, Try.func89, by kernel_rfl⟩
theorem v89 : V 89 := ⟨_, Try.func89, by kernel_rfl⟩
theorem u90 : U 90 := ⟨_, Try.func90, by kernel_rfl⟩
theorem v90 : V 90 := ⟨_, Try.func90, by kernel_rfl⟩
theorem u92 : U 92 := ⟨_, Try.func92, by kernel_rfl⟩
theorem v92 : V 92 := ⟨_, Try.func92, by kernel_rfl⟩
theorem u93 : U 93 := ⟨_, Try.func93, by kernel_rfl⟩
theorem v93 : V 93 := ⟨_, Try.func93, by kernel_rfl⟩
theorem u95 : U 95 := ⟨_, Try.func95, by kernel_rfl⟩
theorem v95 : V 95 := ⟨_, Try.func95, by kernel_rfl⟩
theorem u96 : U 96 := ⟨_, Try.func96, by kernel_rfl⟩
theorem v96 : V 96 := ⟨_, Try.func96, by kernel_rfl⟩
theorem u99 : U 99 := ⟨_, Try.func99, by kernel_rfl⟩
theorem v99 : V 99 := ⟨_, Try.func99, by kernel_rfl⟩
theorem u100 : U 100 := ⟨_, Try.func100, by kernel_rfl⟩
theorem v100 : V 100 := ⟨_, Try.func100, by kernel_rfl⟩
theorem u101 : U 101 := ⟨_, Try.func101, by kernel_rfl⟩
theorem v101 : V 101 := ⟨_, Try.func101, by kernel_rfl⟩
theorem u105 : U 105 := ⟨_, Try.func105, by kernel_rfl⟩
theorem v105 : V 105 := ⟨_, Try.func105, by kernel_rfl⟩
theorem u106 : U 106 := ⟨_, Try.func106, by kernel_rfl⟩
theorem v106 : V 106 := ⟨_, Try.func106, by kernel_rfl⟩
theorem u108 : U 108 := ⟨_, Try.func108, by kernel_rfl⟩
theorem v108 : V 108 := ⟨_, Try.func108, by kernel_rfl⟩
theorem u109 : U 109 := ⟨_, Try.func109, by kernel_rfl⟩
theorem v109 : V 109 := ⟨_, Try.func109, by kernel_rfl⟩
theorem u110 : U 110 := ⟨_, Try.func110, by kernel_rfl⟩
theorem v110 : V 110 := ⟨_, Try.func110, by kernel_rfl⟩
theorem u111 : U 111 := ⟨_, Try.func111, by kernel_rfl⟩
theorem v111 : V 111 := ⟨_, Try.func111, by kernel_rfl⟩
theorem n28 : N 28 := ⟨_, Try.func28, by kernel_rfl⟩
theorem r28 : R 28 := by unfold R next; rw [Try.func28]; exact of_decide_eq_true (by kernel_rfl)
theorem n32 : N 32 := ⟨_, Try.func32, by kernel_rfl⟩
theorem r32 : R 32 := by unfold R next; rw [Try.func32]; exact of_decide_eq_true (by kernel_rfl)
theorem n44 : N 44 := ⟨_, Try.func44, by kernel_rfl⟩
theorem r44 : R 44 := by unfold R next; rw [Try.func44]; exact of_decide_eq_true (by kernel_rfl)
theorem n50 : N 50 := ⟨_, Try.func50, by kernel_rfl⟩
theorem r50 : R 50 := by unfold R next; rw [Try.func50]; exact of_decide_eq_true (by kernel_rfl)
theorem n52 : N 52 := ⟨_, Try.func52, by kernel_rfl⟩
theorem r52 : R 52 := by unfold R next; rw [Try.func52]; exact of_decide_eq_true (by kernel_rfl)
theorem n70 : N 70 := ⟨_, Try.func70, by kernel_rfl⟩
theorem r70 : R 70 := by unfold R next; rw [Try.func70]; exact of_decide_eq_true (by kernel_rfl)
theorem n71 : N 71 := ⟨_, Try.func71, by kernel_rfl⟩
theorem r71 : R 71 := by unfold R next; rw [Try.func71]; exact of_decide_eq_true (by kernel_rfl)
theorem n75 : N 75 := ⟨_, Try.func75, by kernel_rfl⟩
theorem r75 : R 75 := by unfold R next; rw [Try.func75]; exact of_decide_eq_true (by kernel_rfl)
theorem n76 : N 76 := ⟨_, Try.func76, by kernel_rfl⟩
theorem r76 : R 76 := by unfold R next; rw [Try.func76]; exact of_decide_eq_true (by kernel_rfl)
theorem n77 : N 77 := ⟨_, Try.func77, by kernel_rfl⟩
theorem r77 : R 77 := by unfold R next; rw [Try.func77]; exact of_decide_eq_true (by kernel_rfl)
theorem n78 : N 78 := ⟨_, Try.func78, by kernel_rfl⟩
theorem r78 : R 78 := by unfold R next; rw [Try.func78]; exact of_decide_eq_true (by kernel_rfl)
theorem n79 : N 79 := ⟨_, Try.func79, by kernel_rfl⟩
theorem r79 : R 79 := by unfold R next; rw [Try.func79]; exact of_decide_eq_true (by kernel_rfl)
theorem n80 : N 80 := ⟨_, Try.func80, by kernel_rfl⟩
theorem r80 : R 80 := by unfold R next; rw [Try.func80]; exact of_decide_eq_true (by kernel_rfl)
theorem n81 : N 81 := ⟨_, Try.func81, by kernel_rfl⟩
theorem r81 : R 81 := by unfold R next; rw [Try.func81]; exact of_decide_eq_true (by kernel_rfl)
theorem n83 : N 83 := ⟨_, Try.func83, by kernel_rfl⟩
theorem r83 : R 83 := by unfold R next; rw [Try.func83]; exact of_decide_eq_true (by kernel_rfl)
theorem n84 : N 84 := ⟨_, Try.func84, by kernel_rfl⟩
theorem r84 : R 84 := by unfold R next; rw [Try.func84]; exact of_decide_eq_true (by kernel_rfl)
theorem n86 : N 86 := ⟨_, Try.func86, by kernel_rfl⟩
theorem r86 : R 86 := by unfold R next; rw [Try.func86]; exact of_decide_eq_true (by kernel_rfl)
theorem n87 : N 87 := ⟨_, Try.func87, by kernel_rfl⟩
theorem r87 : R 87 := by unfold R next; rw [Try.func87]; exact of_decide_eq_true (by kernel_rfl)
theorem n89 : N 89 := ⟨_, Try.func89, by kernel_rfl⟩
theorem r89 : R 89 := by unfold R next; rw [Try.func89]; exact of_decide_eq_true (by kernel_rfl)
theorem n90 : N 90 := ⟨_, Try.func90, by kernel_rfl⟩
theorem r90 : R 90 := by unfold R next; rw [Try.func90]; exact of_decide_eq_true (by kernel_rfl)
theorem n92 : N 92 := ⟨_, Try.func92, by kernel_rfl⟩
theorem r92 : R 92 := by unfold R next; rw [Try.func92]; exact of_decide_eq_true (by kernel_rfl)
theorem n93 : N 93 := ⟨_, Try.func93, by kernel_rfl⟩
theorem r93 : R 93 := by unfold R next; rw [Try.func93]; exact of_decide_eq_true (by kernel_rfl)
theorem n95 : N 95 := ⟨_, Try.func95, by kernel_rfl⟩
theorem r95 : R 95 := by unfold R next; rw [Try.func95]; exact of_decide_eq_true (by kernel_rfl)
theorem n100 : N 100 := ⟨_, Try.func100, by kernel_rfl⟩
theorem r100 : R 100 := by unfold R next; rw [Try.func100]; exact of_decide_eq_true (by kernel_rfl)
theorem n101 : N 101 := ⟨_, Try.func101, by kernel_rfl⟩
theorem r101 : R 101 := by unfold R next; rw [Try.func101]; exact of_decide_eq_true (by kernel_rfl)
theorem n105 : N 105 := ⟨_, Try.func105, by kernel_rfl⟩
theorem r105 : R 105 := by unfold R next; rw [Try.func105]; exact of_decide_eq_true (by kernel_rfl)
theorem n106 : N 106 := ⟨_, Try.func106, by kernel_rfl⟩
theorem r106 : R 106 := by unfold R next; rw [Try.func106]; exact of_decide_eq_true (by kernel_rfl)
theorem n108 : N 108 := ⟨_, Try.func108, by kernel_rfl⟩
theorem r108 : R 108 := by unfold R next; rw [Try.func108]; exact of_decide_eq_true (by kernel_rfl)
theorem n109 : N 109 := ⟨_, Try.func109, by kernel_rfl⟩
theorem r109 : R 109 := by unfold R next; rw [Try.func109]; exact of_decide_eq_true (by kernel_rfl)
theorem n111 : N 111 := ⟨_, Try.func111, by kernel_rfl⟩
theorem r111 : R 111 := by unfold R next; rw [Try.func111]; exact of_decide_eq_true (by kernel_rfl)
set_option maxRecDepth 100000
theorem okA : AllOk Try.prog LA := ⟨List.forall_mem_cons.2 ⟨a23, List.forall_mem_cons.2 ⟨a24, List.forall_mem_cons.2 ⟨a28, List.forall_mem_cons.2 ⟨a32, List.forall_mem_cons.2 ⟨a34, List.forall_mem_cons.2 ⟨a42, List.forall_mem_cons.2 ⟨a44, List.forall_mem_cons.2 ⟨a50, List.forall_mem_cons.2 ⟨a51, List.forall_mem_cons.2 ⟨a52, List.forall_mem_cons.2 ⟨a53, List.forall_mem_cons.2 ⟨a69, List.forall_mem_cons.2 ⟨a70, List.forall_mem_cons.2 ⟨a71, List.forall_mem_cons.2 ⟨a72, List.forall_mem_cons.2 ⟨a75, List.forall_mem_cons.2 ⟨a76, List.forall_mem_cons.2 ⟨a77, List.forall_mem_cons.2 ⟨a78, List.forall_mem_cons.2 ⟨a79, List.forall_mem_cons.2 ⟨a80, List.forall_mem_cons.2 ⟨a81, List.forall_mem_cons.2 ⟨a83, List.forall_mem_cons.2 ⟨a84, List.forall_mem_cons.2 ⟨a85, List.forall_mem_cons.2 ⟨a86, List.forall_mem_cons.2 ⟨a87, List.forall_mem_cons.2 ⟨a89, List.forall_mem_cons.2 ⟨a90, List.forall_mem_cons.2 ⟨a92, List.forall_mem_cons.2 ⟨a93, List.forall_mem_cons.2 ⟨a95, List.forall_mem_cons.2 ⟨a96, List.forall_mem_cons.2 ⟨a99, List.forall_mem_cons.2 ⟨a100, List.forall_mem_cons.2 ⟨a101, List.forall_mem_cons.2 ⟨a105, List.forall_mem_cons.2 ⟨a106, List.forall_mem_cons.2 ⟨a107, List.forall_mem_cons.2 ⟨a108, List.forall_mem_cons.2 ⟨a109, List.forall_mem_cons.2 ⟨a110, List.forall_mem_cons.2 ⟨a111, List.forall_mem_cons.2 ⟨a114, fun _ h => by cases h⟩⟩⟩⟩⟩⟩⟩⟩⟩⟩⟩⟩⟩⟩⟩⟩⟩⟩⟩⟩⟩⟩⟩⟩⟩⟩⟩⟩⟩⟩⟩⟩⟩⟩⟩⟩⟩⟩⟩⟩⟩⟩⟩⟩⟩
theorem okU : AllOk Try.prog LU := ⟨List.forall_mem_cons.2 ⟨u28, List.forall_mem_cons.2 ⟨u32, List.forall_mem_cons.2 ⟨u44, List.forall_mem_cons.2 ⟨u50, List.forall_mem_cons.2 ⟨u52, List.forall_mem_cons.2 ⟨u69, List.forall_mem_cons.2 ⟨u70, List.forall_mem_cons.2 ⟨u71, List.forall_mem_cons.2 ⟨u72, List.forall_mem_cons.2 ⟨u75, List.forall_mem_cons.2 ⟨u76, List.forall_mem_cons.2 ⟨u77, List.forall_mem_cons.2 ⟨u78, List.forall_mem_cons.2 ⟨u79, List.forall_mem_cons.2 ⟨u80, List.forall_mem_cons.2 ⟨u81, List.forall_mem_cons.2 ⟨u83, List.forall_mem_cons.2 ⟨u84, List.forall_mem_cons.2 ⟨u86, List.forall_mem_cons.2 ⟨u87, List.forall_mem_cons.2 ⟨u89, List.forall_mem_cons.2 ⟨u90, List.forall_mem_cons.2 ⟨u92, List.forall_mem_cons.2 ⟨u93, List.forall_mem_cons.2 ⟨u95, List.forall_mem_cons.2 ⟨u96, List.forall_mem_cons.2 ⟨u99, List.forall_mem_cons.2 ⟨u100, List.forall_mem_cons.2 ⟨u101, List.forall_mem_cons.2 ⟨u105, List.forall_mem_cons.2 ⟨u106, List.forall_mem_cons.2 ⟨u108, List.forall_mem_cons.2 ⟨u109, List.forall_mem_cons.2 ⟨u110, List.forall_mem_cons.2 ⟨u111, fun _ h => by cases h⟩⟩⟩⟩⟩⟩⟩⟩⟩⟩⟩⟩⟩⟩⟩⟩⟩⟩⟩⟩⟩⟩⟩⟩⟩⟩⟩⟩⟩⟩⟩⟩⟩⟩⟩⟩
theorem followedU : ∀ g ∈ LU, ∃ fn, Try.prog.funcs[g]? = some fn ∧ fnFollowed fn = true := List.forall_mem_cons.2 ⟨v28, List.forall_mem_cons.2 ⟨v32, List.forall_mem_cons.2 ⟨v44, List.forall_mem_cons.2 ⟨v50, List.forall_mem_cons.2 ⟨v52, List.forall_mem_cons.2 ⟨v69, List.forall_mem_cons.2 ⟨v70, List.forall_mem_cons.2 ⟨v71, List.forall_mem_cons.2 ⟨v72, List.forall_mem_cons.2 ⟨v75, List.forall_mem_cons.2 ⟨v76, List.forall_mem_cons.2 ⟨v77, List.forall_mem_cons.2 ⟨v78, List.forall_mem_cons.2 ⟨v79, List.forall_mem_cons.2 ⟨v80, List.forall_mem_cons.2 ⟨v81, List.forall_mem_cons.2 ⟨v83, List.forall_mem_cons.2 ⟨v84, List.forall_mem_cons.2 ⟨v86, List.forall_mem_cons.2 ⟨v87, List.forall_mem_cons.2 ⟨v89, List.forall_mem_cons.2 ⟨v90, List.forall_mem_cons.2 ⟨v92, List.forall_mem_cons.2 ⟨v93, List.forall_mem_cons.2 ⟨v95, List.forall_mem_cons.2 ⟨v96, List.forall_mem_cons.2 ⟨v99, List.forall_mem_cons.2 ⟨v100, List.forall_mem_cons.2 ⟨v101, List.forall_mem_cons.2 ⟨v105, List.forall_mem_cons.2 ⟨v106, List.forall_mem_cons.2 ⟨v108, List.forall_mem_cons.2 ⟨v109, List.forall_mem_cons.2 ⟨v110, List.forall_mem_cons.2 ⟨v111, fun _ h => by cases h⟩⟩⟩⟩⟩⟩⟩⟩⟩⟩⟩⟩⟩⟩⟩⟩⟩⟩⟩⟩⟩⟩⟩⟩⟩⟩⟩⟩⟩⟩⟩⟩⟩⟩⟩
theorem okN : AllOk Try.prog LN := ⟨List.forall_mem_cons.2 ⟨n28, List.forall_mem_cons.2 ⟨n32, List.forall_mem_cons.2 ⟨n44, List.forall_mem_cons.2 ⟨n50, List.forall_mem_cons.2 ⟨n52, List.forall_mem_cons.2 ⟨n70, List.forall_mem_cons.2 ⟨n71, List.forall_mem_cons.2 ⟨n75, List.forall_mem_cons.2 ⟨n76, List.forall_mem_cons.2 ⟨n77, List.forall_mem_cons.2 ⟨n78, List.forall_mem_cons.2 ⟨n79, List.forall_mem_cons.2 ⟨n80, List.forall_mem_cons.2 ⟨n81, List.forall_mem_cons.2 ⟨n83, List.forall_mem_cons.2 ⟨n84, List.forall_mem_cons.2 ⟨n86, List.forall_mem_cons.2 ⟨n87, List.forall_mem_cons.2 ⟨n89, List.forall_mem_cons.2 ⟨n90, List.forall_mem_cons.2 ⟨n92, List.forall_mem_cons.2 ⟨n93, List.forall_mem_cons.2 ⟨n95, List.forall_mem_cons.2 ⟨n100, List.forall_mem_cons.2 ⟨n101, List.forall_mem_cons.2 ⟨n105, List.forall_mem_cons.2 ⟨n106, List.forall_mem_cons.2 ⟨n108, List.forall_mem_cons.2 ⟨n109, List.forall_mem_cons.2 ⟨n111, fun _ h => by cases h⟩⟩⟩⟩⟩⟩⟩⟩⟩⟩⟩⟩⟩⟩⟩⟩⟩⟩⟩⟩⟩⟩⟩⟩⟩⟩⟩⟩⟩⟩⟩
theorem rankN : ∀ g ∈ LN, ∀ x ∈ next Try.prog g, rk x < rk g := List.forall_mem_cons.2 ⟨r28, List.forall_mem_cons.2 ⟨r32, List.forall_mem_cons.2 ⟨r44, List.forall_mem_cons.2 ⟨r50, List.forall_mem_cons.2 ⟨r52, List.forall_mem_cons.2 ⟨r70, List.forall_mem_cons.2 ⟨r71, List.forall_mem_cons.2 ⟨r75, List.forall_mem_cons.2 ⟨r76, List.forall_mem_cons.2 ⟨r77, List.forall_mem_cons.2 ⟨r78, List.forall_mem_cons.2 ⟨r79, List.forall_mem_cons.2 ⟨r80, List.forall_mem_cons.2 ⟨r81, List.forall_mem_cons.2 ⟨r83, List.forall_mem_cons.2 ⟨r84, List.forall_mem_cons.2 ⟨r86, List.forall_mem_cons.2 ⟨r87, List.forall_mem_cons.2 ⟨r89, List.forall_mem_cons.2 ⟨r90, List.forall_mem_cons.2 ⟨r92, List.forall_mem_cons.2 ⟨r93, List.forall_mem_cons.2 ⟨r95, List.forall_mem_cons.2 ⟨r100, List.forall_mem_cons.2 ⟨r101, List.forall_mem_cons.2 ⟨r105, List.forall_mem_cons.2 ⟨r106, List.forall_mem_cons.2 ⟨r108, List.forall_mem_cons.2 ⟨r109, List.forall_mem_cons.2 ⟨r111, fun _ h => by cases h⟩⟩⟩⟩⟩⟩⟩⟩⟩⟩⟩⟩⟩⟩⟩⟩⟩⟩⟩⟩⟩⟩⟩⟩⟩⟩⟩⟩⟩⟩
theorem inPlace_FnComplementsOf : Try.prog.inPlace 23 = [] := okA.inPlace (by decide)
theorem named_FnComplementsOf : Try.prog.varsNamed 23 = [] := okA.varsNamed (by decide)
theorem has_FnComplementsOf : 114 ∈ Try.prog.closure 23 := closure_has _ _ _ 92 (of_decide_eq_true (by kernel_rfl)) (List.contains_iff_mem.1 (by kernel_rfl))
theorem unf_FnComplementsOf : Try.prog.unfollowed 23 = true := unfollowed_yes has_FnComplementsOf Try.func114 rfl (by kernel_rfl)
theorem rec_FnComplementsOf : Try.prog.recurses 23 = true := recurses_un unf_FnComplementsOf
theorem inPlace_FnCoversOf : Try.prog.inPlace 24 = [] := okA.inPlace (by decide)
theorem named_FnCoversOf : Try.prog.varsNamed 24 = [] := okA.varsNamed (by decide)
theorem has_FnCoversOf : 114 ∈ Try.prog.closure 24 := closure_has _ _ _ 92 (of_decide_eq_true (by kernel_rfl)) (List.contains_iff_mem.1 (by kernel_rfl))
theorem unf_FnCoversOf : Try.prog.unfollowed 24 = true := unfollowed_yes has_FnCoversOf Try.func114 rfl (by kernel_rfl)
theorem rec_FnCoversOf : Try.prog.recurses 24 = true := recurses_un unf_FnCoversOf
def w1 : List Char := chs [104, 97, 114, 110, 101, 115, 115]
def w2 : List Char := chs [50, 52, 101, 48, 100, 52, 55, 100, 54, 53, 54, 101, 57, 52, 101, 99, 50, 56, 57, 97, 53, 100, 49, 51, 99, 49, 57, 57, 57, 102, 101, 50, 56, 48, 49, 49, 48, 99, 101, 57, 56, 51, 102, 52, 97, 54, 54, 51, 48, 52, 56, 55, 57, 100, 100, 57, 100, 55, 54, 54, 100, 98, 54, 98]
def w3 : List Char := cutW
def w4 : List Char := chs [97, 116, 32, 108, 111, 111, 112, 46, 101, 120, 97, 109, 112, 108, 101, 47, 114, 101, 115, 105, 100, 117, 97, 116, 101, 100, 116, 97, 98, 108, 101, 115, 47, 108, 97, 119, 115, 46, 70, 110, 69, 120, 97, 99, 116, 86, 97, 108, 105, 100, 76, 97, 116, 116, 105, 99, 101, 32, 108, 111, 111, 112, 46, 101, 120, 97, 109, 112, 108, 101, 47, 114, 101, 115, 105, 100, 117, 97, 116, 101, 100, 116, 97, 98, 108, 101, 115, 47, 108, 97, 119, 115, 46, 70, 110, 67, 104, 97, 105, 110, 79, 102, 32, 108, 111, 111, 112, 46, 101, 120, 97, 109, 112, 108, 101, 47, 114, 101, 115, 105, 100, 117, 97, 116, 101, 100, 116, 97, 98, 108, 101, 115, 47, 108, 97, 119, 115, 46, 70, 110, 69, 120, 97, 99, 116, 73, 115, 66, 101, 108, 111, 119, 32, 108, 111, 111, 112, 46, 101, 120, 97, 109, 112, 108, 101, 47, 114, 101, 115, 105, 100, 117, 97, 116, 101, 100, 116, 97, 98, 108, 101, 115, 47, 108, 97, 119, 115, 46, 70, 110, 69, 120, 97, 99, 116, 73, 115, 67, 104, 97, 105, 110, 32, 108, 111, 111, 112, 46, 101, 120, 97, 109, 112, 108, 101, 47, 114, 101, 115, 105, 100, 117, 97, 116, 101, 100, 116, 97, 98, 108, 101, 115, 47, 108, 97, 119, 115, 46, 70, 110, 69, 120, 97, 99, 116, 74, 111, 105, 110, 79, 102, 32, 108, 111, 111, 112, 46, 101, 120, 97, 109, 112, 108, 101, 47, 114, 101, 115, 105, 100, 117, 97, 116, 101, 100, 116, 97, 98, 108, 101, 115, 47, 108, 97, 119, 115, 46, 70, 110, 69, 120, 97, 99, 116, 77, 101, 101, 116, 79, 102, 32, 108, 111, 111, 112, 46, 101, 120, 97, 109, 112, 108, 101, 47, 114, 101, 115, 105, 100, 117, 97, 116, 101, 100, 116, 97, 98, 108, 101, 115, 47, 108, 97, 119, 115, 46, 70, 110, 69, 120, 97, 99, 116, 73, 115, 68, 105, 115, 116, 114, 105, 98, 117, 116, 105, 118, 101, 32, 108, 111, 111, 112, 46, 101, 120, 97, 109, 112, 108, 101, 47, 114, 101, 115, 105, 100, 117, 97, 116, 101, 100, 116, 97, 98, 108, 101, 115, 47, 108, 97, 119, 115, 46, 70, 110, 69, 120, 97, 99, 116, 84, 117, 114, 110, 101, 100, 76, 97, 116, 116, 105, 99, 101, 32, 108, 111, 111, 112, 46, 101, 120, 97, 109, 112, 108, 101, 47, 114, 101, 115, 105, 100, 117, 97, 116, 101, 100, 116, 97, 98, 108, 101, 115, 47, 108, 97, 119, 115, 46, 70, 110, 69, 120, 97, 99, 116, 67, 114, 111, 115, 115, 76, 97, 116, 116, 105, 99, 101, 115, 32, 108, 111, 111, 112, 46, 101, 120, 97, 109, 112, 108, 101, 47, 114, 101, 115, 105, 100, 117, 97, 116, 101, 100, 116, 97, 98, 108, 101, 115, 47, 108, 97, 119, 115, 46, 70, 110, 69, 120, 97, 99, 116, 67, 111, 109, 112, 108, 101, 109, 101, 110, 116, 115, 79, 102, 32, 108, 111, 111, 112, 46, 101, 120, 97, 109, 112, 108, 101, 47, 114, 101, 115, 105, 100, 117, 97, 116, 101, 100, 116, 97, 98, 108, 101, 115, 47, 108, 97, 119, 115, 46, 70, 110, 69, 120, 97, 99, 116, 67, 111, 118, 101, 114, 115, 79, 102, 32, 108, 111, 111, 112, 46, 101, 120, 97, 109, 112, 108, 101, 47, 114, 101, 115, 105, 100, 117, 97, 116, 101, 100, 116, 97, 98, 108, 101, 115, 47, 108, 97, 119, 115, 46, 70, 110, 69, 120, 97, 99, 116, 65, 108, 108, 76, 97, 116, 116, 105, 99, 101, 115, 32, 108, 111, 111, 112, 46, 101, 120, 97, 109, 112, 108, 101, 47, 114, 101, 115, 105, 100, 117, 97, 116, 101, 100, 116, 97, 98, 108, 101, 115, 47, 108, 97, 119, 115, 46, 70, 110, 86, 97, 108, 105, 100, 76, 97, 116, 116, 105, 99, 101, 32, 108, 111, 111, 112, 46, 101, 120, 97, 109, 112, 108, 101, 47, 114, 101, 115, 105, 100, 117, 97, 116, 101, 100, 116, 97, 98, 108, 101, 115, 47, 108, 97, 119, 115, 46, 70, 110, 65, 108, 108, 76, 97, 116, 116, 105, 99, 101, 115, 32, 108, 111, 111, 112, 46, 101, 120, 97, 109, 112, 108, 101, 47, 114, 101, 115, 105, 100, 117, 97, 116, 101, 100, 116, 97, 98, 108, 101, 115, 47, 108, 97, 119, 115, 46, 70, 110, 73, 115, 66, 101, 108, 111, 119, 32, 108, 111, 111, 112, 46, 101, 120, 97, 109, 112, 108, 101, 47, 114, 101, 115, 105, 100, 117, 97, 116, 101, 100, 116, 97, 98, 108, 101, 115, 47, 108, 97, 119, 115, 46, 70, 110, 77, 101, 101, 116, 79, 102, 32, 108, 111, 111, 112, 46, 101, 120, 97, 109, 112, 108, 101, 47, 114, 101, 115, 105, 100, 117, 97, 116, 101, 100, 116, 97, 98, 108, 101, 115, 47, 108, 97, 119, 115, 46, 70, 110, 84, 117, 114, 110, 101, 100, 76, 97, 116, 116, 105, 99, 101, 32, 108, 111, 111, 112, 46, 101, 120, 97, 109, 112, 108, 101, 47, 114, 101, 115, 105, 100, 117, 97, 116, 101, 100, 116, 97, 98, 108, 101, 115, 47, 108, 97, 119, 115, 46, 70, 110, 67, 114, 111, 115, 115, 76, 97, 116, 116, 105, 99, 101, 115, 32, 108, 111, 111, 112, 46, 101, 120, 97, 109, 112, 108, 101, 47, 114, 101, 115, 105, 100, 117, 97, 116, 101, 100, 116, 97, 98, 108, 101, 115, 47, 108, 97, 119, 115, 46, 70, 110, 74, 111, 105, 110, 79, 102, 32, 108, 111, 111, 112, 46, 101, 120, 97, 109, 112, 108, 101, 47, 114, 101, 115, 105, 100, 117, 97, 116, 101, 100, 116, 97, 98, 108, 101, 115, 47, 108, 97, 119, 115, 46, 70, 110, 73, 115, 67, 104, 97, 105, 110, 32, 108, 111, 111, 112, 46, 101, 120, 97, 109, 112, 108, 101, 47, 114, 101, 115, 105, 100, 117, 97, 116, 101, 100, 116, 97, 98, 108, 101, 115, 47, 108, 97, 119, 115, 46, 70, 110, 67, 111, 109, 112, 108, 101, 109, 101, 110, 116, 115, 79, 102, 32, 108, 111, 111, 112, 46, 101, 120, 97, 109, 112, 108, 101, 47, 114, 101, 115, 105, 100, 117, 97, 116, 101, 100, 116, 97, 98, 108, 101, 115, 47, 108, 97, 119, 115, 46, 70, 110, 67, 111, 118, 101, 114, 115, 79, 102, 32, 108, 111, 111, 112, 46, 101, 120, 97, 109, 112, 108, 101, 47, 114, 101, 115, 105, 100, 117, 97, 116, 101, 100, 116, 97, 98, 108, 101, 115, 47, 108, 97, 119, 115, 46, 70, 110, 73, 115, 68, 105, 115, 116, 114, 105, 98, 117, 116, 105, 118, 101]
theorem io : Try.prog.initOrder = String.ofList (w1 ++ sp :: (w2 ++ sp :: (w3 ++ sp :: w4))) := by kernel_rfl
theorem heads : wordsSigns Try.prog.initOrder.toList = w1 :: w2 :: w3 :: wordsSigns w4 := by
  rw [io, String.toList_ofList, ws_word _ _ (of_decide_eq_true (by kernel_rfl)), ws_word _ _ (of_decide_eq_true (by kernel_rfl)), ws_word _ _ (of_decide_eq_true (by kernel_rfl))]
theorem beh : behindMainWord (wordsSigns Try.prog.initOrder.toList) = cutW :: wordsSigns w4 := by rw [heads]; exact behind_of _ _ _ (by decide +kernel)
theorem mayEnter : Try.prog.mayEnter = true := mayEnter_of _ _ beh (by kernel_rfl) (by kernel_rfl) (by kernel_rfl)
theorem liftsFinal : Try.prog.liftsFinal = false := liftsFinal_of _ _ beh
theorem make : Try.prog.make = some .cut := make_of _ _ beh
end Go.Proofs.Ytmfpaagjllaljaa.F
