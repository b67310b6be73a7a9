/-
  No cell of these rows narrows 'for every input' (looked for: loops, veiled, ifaces, maps, wideKeys, modest, calm, conditions, laid).
  DERIVED. THE GIVEN ROWS OF THIS SEAT. 2 by the template 'for every input the law returns true; each argument reads behind the call as it read before'; 0 by the template 'total and deterministic' (their statements: YtjijfflifonjoaaTotals.lean).
  GIVEN WITH THE SEED: the statements are not yours to turn. If you find one false, say at which input.
  Laid BY PROGRAM, IN A SANDBOX (cutbox-rows.mjs): the forced cells as the released guide's own fill.sh prints them over the translation c83204f444931da0… (all of the seat's roots in one cut). By AI agents, Wed Nov 11 2026. No macro, syntax, notation, axiom, sorry.
-/
import Derived.Test.YtjijfflifonjoaaChecked
import GoSem.Claim
import GoSem.ClaimJoined
import GoSem.ClaimMapViews
import Derived.JoinedTies
import Derived.KernelRfl
namespace Go.Proofs.Ytjijfflifonjoaa
/- THE CELL 'sum', in the pinned program and in every row, IS THE sha256 OF THE DUMP (.gsa) THAT YtjijfflifonjoaaProg.lean LOADS. Nothing in Lean hashes anything: it is a label: what it is worth is what the hold of that sum in a sandbox is worth. -/
noncomputable def Try.pinned : Pinned := { name := "ytjijfflifonjoaa", sum := "c83204f444931da0236c2e66efd784f82ad3a770060a00b8dbfa0b718bd0309d", checked := Try.checked }
namespace Rows
def none {H : Type} : Left H := { results := [], args := [] }

/-- 'laws.FnExactAllLattices': WHATEVER THE INPUT: true; the input reads as it did. -/
def fnExactAllLatticesSpec : ChangeSpec := { name := "fnExactAllLattices", fn := fun _ => fun
  | [d] => { results := [.lit (.bool true)], args := [d] }
  | _ => none }
def fnExactAllLatticesRow : OpenClaim := { program := "ytjijfflifonjoaa", sum := "c83204f444931da0236c2e66efd784f82ad3a770060a00b8dbfa0b718bd0309d", func := "loop.example/residuatedtables/laws.FnExactAllLattices", spec := "fnExactAllLattices", unfollowed := true, recurses := true, apart := false }
def FnExactAllLatticesSaid : Prop := fnExactAllLatticesRow.holds Try.pinned (OpenSpec.ofChange fnExactAllLatticesSpec)

/-- ITS FALSE NEIGHBOUR: 'it returns false'. Refute it at one input. -/
def fnExactAllLatticesWrong : ChangeSpec := { name := "fnExactAllLattices", fn := fun _ => fun
  | [d] => { results := [.lit (.bool false)], args := [d] }
  | _ => none }
def FnExactAllLatticesWrongFalsely : Prop := fnExactAllLatticesRow.holds Try.pinned (OpenSpec.ofChange fnExactAllLatticesWrong)

/-- 'laws.FnAllLattices': WHATEVER THE INPUT: true; the input reads as it did. -/
def fnAllLatticesSpec : ChangeSpec := { name := "fnAllLattices", fn := fun _ => fun
  | [d] => { results := [.lit (.bool true)], args := [d] }
  | _ => none }
def fnAllLatticesRow : OpenClaim := { program := "ytjijfflifonjoaa", sum := "c83204f444931da0236c2e66efd784f82ad3a770060a00b8dbfa0b718bd0309d", func := "loop.example/residuatedtables/laws.FnAllLattices", spec := "fnAllLattices", unfollowed := true, recurses := true, apart := false }
def FnAllLatticesSaid : Prop := fnAllLatticesRow.holds Try.pinned (OpenSpec.ofChange fnAllLatticesSpec)

/-- ITS FALSE NEIGHBOUR: 'it returns false'. Refute it at one input. -/
def fnAllLatticesWrong : ChangeSpec := { name := "fnAllLattices", fn := fun _ => fun
  | [d] => { results := [.lit (.bool false)], args := [d] }
  | _ => none }
def FnAllLatticesWrongFalsely : Prop := fnAllLatticesRow.holds Try.pinned (OpenSpec.ofChange fnAllLatticesWrong)

/- THE SECOND FORM. 'bulk': how many values and letters a reading holds, each counted each time it is reached (what is shared counts as often as it is met; a slice's spare places count too). A statement '..UptoSaid' is the law's where the arguments, and the package variables that the reading takes, are together of bulk at most 1048576: NARROWER than '..Said'. Prove '..Said' where nothing that the law and all that it calls make is longer than what came in: it says more and counts as full. Else prove '..UptoSaid'. A law counts once. -/
mutual
def uptoBulk {H : Type} : DataW H → Nat
  | .lit (.string bytes) => bytes.length + 1
  | .lit _ => 1
  | .nil => 1
  | .ptr d => uptoBulk d + 1
  | .slice elems spare => uptoBulkAll elems + uptoBulkAll spare + 1
  | .agg parts => uptoBulkAll parts + 1
  | .iface _ d => uptoBulk d + 1
  | .map entries => uptoBulkEntries entries + 1
  | .held _ => 1
def uptoBulkAll {H : Type} : List (DataW H) → Nat
  | [] => 0
  | d :: r => uptoBulk d + uptoBulkAll r
def uptoBulkEntries {H : Type} : List (Lit × DataW H) → Nat
  | [] => 0
  | x :: r => uptoBulkEntry x + uptoBulkEntries r
def uptoBulkEntry {H : Type} : Lit × DataW H → Nat
  | (.string bytes, d) => bytes.length + uptoBulk d + 1
  | (_, d) => uptoBulk d + 1
 end
def uptoSmall : (H : Type) → List (DataW H) → Bool := fun _ ds => decide (uptoBulkAll ds ≤ 1048576)
def OpenSpec.upto (s : _root_.Go.ChangeSpec) : _root_.Go.OpenSpec := { _root_.Go.OpenSpec.ofChange s with cond := some uptoSmall }

/-- 'laws.FnExactAllLattices', WHERE WHAT IT READS IS OF BULK AT MOST 1048576: true; the input reads as it did. -/
def fnExactAllLatticesUptoRow : OpenClaim := { program := "ytjijfflifonjoaa", sum := "c83204f444931da0236c2e66efd784f82ad3a770060a00b8dbfa0b718bd0309d", func := "loop.example/residuatedtables/laws.FnExactAllLattices", spec := "fnExactAllLattices", unfollowed := true, recurses := true, apart := false, narrowed := true }
def FnExactAllLatticesUptoSaid : Prop := fnExactAllLatticesUptoRow.holds Try.pinned (OpenSpec.upto fnExactAllLatticesSpec)

/-- 'laws.FnAllLattices', WHERE WHAT IT READS IS OF BULK AT MOST 1048576: true; the input reads as it did. -/
def fnAllLatticesUptoRow : OpenClaim := { program := "ytjijfflifonjoaa", sum := "c83204f444931da0236c2e66efd784f82ad3a770060a00b8dbfa0b718bd0309d", func := "loop.example/residuatedtables/laws.FnAllLattices", spec := "fnAllLattices", unfollowed := true, recurses := true, apart := false, narrowed := true }
def FnAllLatticesUptoSaid : Prop := fnAllLatticesUptoRow.holds Try.pinned (OpenSpec.upto fnAllLatticesSpec)

end Rows
end Go.Proofs.Ytjijfflifonjoaa
