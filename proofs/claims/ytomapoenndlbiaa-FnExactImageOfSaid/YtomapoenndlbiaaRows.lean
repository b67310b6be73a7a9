/-
  No cell of these rows narrows 'for every input' (looked for: loops, veiled, ifaces, maps, wideKeys, modest, calm, conditions, laid).
  DERIVED. THE GIVEN ROWS OF THIS SEAT. 8 by the template 'for every input the law returns true; each argument reads behind the call as it read before'; 0 by the template 'total and deterministic' (their statements: YtomapoenndlbiaaTotals.lean).
  GIVEN WITH THE SEED: the statements are not yours to turn. If you find one false, say at which input.
  Laid BY PROGRAM, IN A SANDBOX (cutbox-rows.mjs): the forced cells as the released guide's own fill.sh prints them over the translation e3916ee187bd9f08… (all of the seat's roots in one cut). By AI agents, Wed Nov 11 2026. No macro, syntax, notation, axiom, sorry.
-/
import Derived.Test.YtomapoenndlbiaaChecked
import GoSem.Claim
import GoSem.ClaimJoined
import GoSem.ClaimMapViews
import Derived.JoinedTies
import Derived.KernelRfl
namespace Go.Proofs.Ytomapoenndlbiaa
/- THE CELL 'sum', in the pinned program and in every row, IS THE sha256 OF THE DUMP (.gsa) THAT YtomapoenndlbiaaProg.lean LOADS. Nothing in Lean hashes anything: it is a label: what it is worth is what the hold of that sum in a sandbox is worth. -/
noncomputable def Try.pinned : Pinned := { name := "ytomapoenndlbiaa", sum := "e3916ee187bd9f08687f719e8579f63c317eebe353240453319aa4b2c5c9de43", checked := Try.checked }
namespace Rows
def none {H : Type} : Left H := { results := [], args := [] }

/-- 'laws.FnExactIsNucleus': WHATEVER THE INPUT: true; the input reads as it did. -/
def fnExactIsNucleusSpec : ChangeSpec := { name := "fnExactIsNucleus", fn := fun _ => fun
  | [d1, d2] => { results := [.lit (.bool true)], args := [d1, d2] }
  | _ => none }
def fnExactIsNucleusRow : OpenClaim := { program := "ytomapoenndlbiaa", sum := "e3916ee187bd9f08687f719e8579f63c317eebe353240453319aa4b2c5c9de43", func := "loop.example/residuatedtables/laws.FnExactIsNucleus", spec := "fnExactIsNucleus", unfollowed := true, recurses := true, apart := false }
def FnExactIsNucleusSaid : Prop := fnExactIsNucleusRow.holds Try.pinned (OpenSpec.ofChange fnExactIsNucleusSpec)

/-- ITS FALSE NEIGHBOUR: 'it returns false'. Refute it at one input. -/
def fnExactIsNucleusWrong : ChangeSpec := { name := "fnExactIsNucleus", fn := fun _ => fun
  | [d1, d2] => { results := [.lit (.bool false)], args := [d1, d2] }
  | _ => none }
def FnExactIsNucleusWrongFalsely : Prop := fnExactIsNucleusRow.holds Try.pinned (OpenSpec.ofChange fnExactIsNucleusWrong)

/-- 'laws.FnExactIsMap': WHATEVER THE INPUT: true; the input reads as it did. -/
def fnExactIsMapSpec : ChangeSpec := { name := "fnExactIsMap", fn := fun _ => fun
  | [d1, d2, d3] => { results := [.lit (.bool true)], args := [d1, d2, d3] }
  | _ => none }
def fnExactIsMapRow : OpenClaim := { program := "ytomapoenndlbiaa", sum := "e3916ee187bd9f08687f719e8579f63c317eebe353240453319aa4b2c5c9de43", func := "loop.example/residuatedtables/laws.FnExactIsMap", spec := "fnExactIsMap", unfollowed := true, recurses := true, apart := false }
def FnExactIsMapSaid : Prop := fnExactIsMapRow.holds Try.pinned (OpenSpec.ofChange fnExactIsMapSpec)

/-- ITS FALSE NEIGHBOUR: 'it returns false'. Refute it at one input. -/
def fnExactIsMapWrong : ChangeSpec := { name := "fnExactIsMap", fn := fun _ => fun
  | [d1, d2, d3] => { results := [.lit (.bool false)], args := [d1, d2, d3] }
  | _ => none }
def FnExactIsMapWrongFalsely : Prop := fnExactIsMapRow.holds Try.pinned (OpenSpec.ofChange fnExactIsMapWrong)

/-- 'laws.FnExactKernelOf': WHATEVER THE INPUT: true; the input reads as it did. -/
def fnExactKernelOfSpec : ChangeSpec := { name := "fnExactKernelOf", fn := fun _ => fun
  | [d1, d2, d3] => { results := [.lit (.bool true)], args := [d1, d2, d3] }
  | _ => none }
def fnExactKernelOfRow : OpenClaim := { program := "ytomapoenndlbiaa", sum := "e3916ee187bd9f08687f719e8579f63c317eebe353240453319aa4b2c5c9de43", func := "loop.example/residuatedtables/laws.FnExactKernelOf", spec := "fnExactKernelOf", unfollowed := true, recurses := true, apart := false }
def FnExactKernelOfSaid : Prop := fnExactKernelOfRow.holds Try.pinned (OpenSpec.ofChange fnExactKernelOfSpec)

/-- ITS FALSE NEIGHBOUR: 'it returns false'. Refute it at one input. -/
def fnExactKernelOfWrong : ChangeSpec := { name := "fnExactKernelOf", fn := fun _ => fun
  | [d1, d2, d3] => { results := [.lit (.bool false)], args := [d1, d2, d3] }
  | _ => none }
def FnExactKernelOfWrongFalsely : Prop := fnExactKernelOfRow.holds Try.pinned (OpenSpec.ofChange fnExactKernelOfWrong)

/-- 'laws.FnExactImageOf': WHATEVER THE INPUT: true; the input reads as it did. -/
def fnExactImageOfSpec : ChangeSpec := { name := "fnExactImageOf", fn := fun _ => fun
  | [d1, d2, d3] => { results := [.lit (.bool true)], args := [d1, d2, d3] }
  | _ => none }
def fnExactImageOfRow : OpenClaim := { program := "ytomapoenndlbiaa", sum := "e3916ee187bd9f08687f719e8579f63c317eebe353240453319aa4b2c5c9de43", func := "loop.example/residuatedtables/laws.FnExactImageOf", spec := "fnExactImageOf", unfollowed := true, recurses := true, apart := false }
def FnExactImageOfSaid : Prop := fnExactImageOfRow.holds Try.pinned (OpenSpec.ofChange fnExactImageOfSpec)

/-- ITS FALSE NEIGHBOUR: 'it returns false'. Refute it at one input. -/
def fnExactImageOfWrong : ChangeSpec := { name := "fnExactImageOf", fn := fun _ => fun
  | [d1, d2, d3] => { results := [.lit (.bool false)], args := [d1, d2, d3] }
  | _ => none }
def FnExactImageOfWrongFalsely : Prop := fnExactImageOfRow.holds Try.pinned (OpenSpec.ofChange fnExactImageOfWrong)

/-- 'laws.FnExactGreatestFilters': WHATEVER THE INPUT: true; the input reads as it did. -/
def fnExactGreatestFiltersSpec : ChangeSpec := { name := "fnExactGreatestFilters", fn := fun _ => fun
  | [d] => { results := [.lit (.bool true)], args := [d] }
  | _ => none }
def fnExactGreatestFiltersRow : OpenClaim := { program := "ytomapoenndlbiaa", sum := "e3916ee187bd9f08687f719e8579f63c317eebe353240453319aa4b2c5c9de43", func := "loop.example/residuatedtables/laws.FnExactGreatestFilters", spec := "fnExactGreatestFilters", unfollowed := true, recurses := true, apart := false }
def FnExactGreatestFiltersSaid : Prop := fnExactGreatestFiltersRow.holds Try.pinned (OpenSpec.ofChange fnExactGreatestFiltersSpec)

/-- ITS FALSE NEIGHBOUR: 'it returns false'. Refute it at one input. -/
def fnExactGreatestFiltersWrong : ChangeSpec := { name := "fnExactGreatestFilters", fn := fun _ => fun
  | [d] => { results := [.lit (.bool false)], args := [d] }
  | _ => none }
def FnExactGreatestFiltersWrongFalsely : Prop := fnExactGreatestFiltersRow.holds Try.pinned (OpenSpec.ofChange fnExactGreatestFiltersWrong)

/-- 'laws.FnExactRadicalOf': WHATEVER THE INPUT: true; the input reads as it did. -/
def fnExactRadicalOfSpec : ChangeSpec := { name := "fnExactRadicalOf", fn := fun _ => fun
  | [d] => { results := [.lit (.bool true)], args := [d] }
  | _ => none }
def fnExactRadicalOfRow : OpenClaim := { program := "ytomapoenndlbiaa", sum := "e3916ee187bd9f08687f719e8579f63c317eebe353240453319aa4b2c5c9de43", func := "loop.example/residuatedtables/laws.FnExactRadicalOf", spec := "fnExactRadicalOf", unfollowed := true, recurses := true, apart := false }
def FnExactRadicalOfSaid : Prop := fnExactRadicalOfRow.holds Try.pinned (OpenSpec.ofChange fnExactRadicalOfSpec)

/-- ITS FALSE NEIGHBOUR: 'it returns false'. Refute it at one input. -/
def fnExactRadicalOfWrong : ChangeSpec := { name := "fnExactRadicalOf", fn := fun _ => fun
  | [d] => { results := [.lit (.bool false)], args := [d] }
  | _ => none }
def FnExactRadicalOfWrongFalsely : Prop := fnExactRadicalOfRow.holds Try.pinned (OpenSpec.ofChange fnExactRadicalOfWrong)

/-- 'laws.FnExactIsLocal': WHATEVER THE INPUT: true; the input reads as it did. -/
def fnExactIsLocalSpec : ChangeSpec := { name := "fnExactIsLocal", fn := fun _ => fun
  | [d] => { results := [.lit (.bool true)], args := [d] }
  | _ => none }
def fnExactIsLocalRow : OpenClaim := { program := "ytomapoenndlbiaa", sum := "e3916ee187bd9f08687f719e8579f63c317eebe353240453319aa4b2c5c9de43", func := "loop.example/residuatedtables/laws.FnExactIsLocal", spec := "fnExactIsLocal", unfollowed := true, recurses := true, apart := false }
def FnExactIsLocalSaid : Prop := fnExactIsLocalRow.holds Try.pinned (OpenSpec.ofChange fnExactIsLocalSpec)

/-- ITS FALSE NEIGHBOUR: 'it returns false'. Refute it at one input. -/
def fnExactIsLocalWrong : ChangeSpec := { name := "fnExactIsLocal", fn := fun _ => fun
  | [d] => { results := [.lit (.bool false)], args := [d] }
  | _ => none }
def FnExactIsLocalWrongFalsely : Prop := fnExactIsLocalRow.holds Try.pinned (OpenSpec.ofChange fnExactIsLocalWrong)

/-- 'laws.FnExactHeartOf': WHATEVER THE INPUT: true; the input reads as it did. -/
def fnExactHeartOfSpec : ChangeSpec := { name := "fnExactHeartOf", fn := fun _ => fun
  | [d] => { results := [.lit (.bool true)], args := [d] }
  | _ => none }
def fnExactHeartOfRow : OpenClaim := { program := "ytomapoenndlbiaa", sum := "e3916ee187bd9f08687f719e8579f63c317eebe353240453319aa4b2c5c9de43", func := "loop.example/residuatedtables/laws.FnExactHeartOf", spec := "fnExactHeartOf", unfollowed := true, recurses := true, apart := false }
def FnExactHeartOfSaid : Prop := fnExactHeartOfRow.holds Try.pinned (OpenSpec.ofChange fnExactHeartOfSpec)

/-- ITS FALSE NEIGHBOUR: 'it returns false'. Refute it at one input. -/
def fnExactHeartOfWrong : ChangeSpec := { name := "fnExactHeartOf", fn := fun _ => fun
  | [d] => { results := [.lit (.bool false)], args := [d] }
  | _ => none }
def FnExactHeartOfWrongFalsely : Prop := fnExactHeartOfRow.holds Try.pinned (OpenSpec.ofChange fnExactHeartOfWrong)

/- THE SECOND FORM. 'bulk': how many values and letters a reading holds, each counted each time it is reached (what is shared counts as often as it is met; a slice's spare places count too). A statement '..UptoSaid' is the law's where the arguments, and the package variables that the reading takes, are together of bulk at most 1048576: NARROWER than '..Said'. Prove '..Said' where nothing that the law and all that it calls make is longer than what came in: it says more and counts as full. Else prove '..UptoSaid'. A law counts once. -/
mutual
def uptoBulk {H : Type} : DataW H → Nat
  | .lit (.string bytes) => bytes.length + 1
  | .lit _ => 1
  | .nil => 1
  | .ptr d => uptoBulk d + 1
  | .slice elems spare => uptoBulkAll elems + uptoBulkAll spare + 1
  | .agg parts => uptoBulkAll parts + 1
  | .iface _ d => uptoBulk d + 1
  | .map entries => uptoBulkEntries entries + 1
  | .held _ => 1
def uptoBulkAll {H : Type} : List (DataW H) → Nat
  | [] => 0
  | d :: r => uptoBulk d + uptoBulkAll r
def uptoBulkEntries {H : Type} : List (Lit × DataW H) → Nat
  | [] => 0
  | x :: r => uptoBulkEntry x + uptoBulkEntries r
def uptoBulkEntry {H : Type} : Lit × DataW H → Nat
  | (.string bytes, d) => bytes.length + uptoBulk d + 1
  | (_, d) => uptoBulk d + 1
 end
def uptoSmall : (H : Type) → List (DataW H) → Bool := fun _ ds => decide (uptoBulkAll ds ≤ 1048576)
def OpenSpec.upto (s : _root_.Go.ChangeSpec) : _root_.Go.OpenSpec := { _root_.Go.OpenSpec.ofChange s with cond := some uptoSmall }

/-- 'laws.FnExactIsNucleus', WHERE WHAT IT READS IS OF BULK AT MOST 1048576: true; the input reads as it did. -/
def fnExactIsNucleusUptoRow : OpenClaim := { program := "ytomapoenndlbiaa", sum := "e3916ee187bd9f08687f719e8579f63c317eebe353240453319aa4b2c5c9de43", func := "loop.example/residuatedtables/laws.FnExactIsNucleus", spec := "fnExactIsNucleus", unfollowed := true, recurses := true, apart := false, narrowed := true }
def FnExactIsNucleusUptoSaid : Prop := fnExactIsNucleusUptoRow.holds Try.pinned (OpenSpec.upto fnExactIsNucleusSpec)

/-- 'laws.FnExactIsMap', WHERE WHAT IT READS IS OF BULK AT MOST 1048576: true; the input reads as it did. -/
def fnExactIsMapUptoRow : OpenClaim := { program := "ytomapoenndlbiaa", sum := "e3916ee187bd9f08687f719e8579f63c317eebe353240453319aa4b2c5c9de43", func := "loop.example/residuatedtables/laws.FnExactIsMap", spec := "fnExactIsMap", unfollowed := true, recurses := true, apart := false, narrowed := true }
def FnExactIsMapUptoSaid : Prop := fnExactIsMapUptoRow.holds Try.pinned (OpenSpec.upto fnExactIsMapSpec)

/-- 'laws.FnExactKernelOf', WHERE WHAT IT READS IS OF BULK AT MOST 1048576: true; the input reads as it did. -/
def fnExactKernelOfUptoRow : OpenClaim := { program := "ytomapoenndlbiaa", sum := "e3916ee187bd9f08687f719e8579f63c317eebe353240453319aa4b2c5c9de43", func := "loop.example/residuatedtables/laws.FnExactKernelOf", spec := "fnExactKernelOf", unfollowed := true, recurses := true, apart := false, narrowed := true }
def FnExactKernelOfUptoSaid : Prop := fnExactKernelOfUptoRow.holds Try.pinned (OpenSpec.upto fnExactKernelOfSpec)

/-- 'laws.FnExactImageOf', WHERE WHAT IT READS IS OF BULK AT MOST 1048576: true; the input reads as it did. -/
def fnExactImageOfUptoRow : OpenClaim := { program := "ytomapoenndlbiaa", sum := "e3916ee187bd9f08687f719e8579f63c317eebe353240453319aa4b2c5c9de43", func := "loop.example/residuatedtables/laws.FnExactImageOf", spec := "fnExactImageOf", unfollowed := true, recurses := true, apart := false, narrowed := true }
def FnExactImageOfUptoSaid : Prop := fnExactImageOfUptoRow.holds Try.pinned (OpenSpec.upto fnExactImageOfSpec)

/-- 'laws.FnExactGreatestFilters', WHERE WHAT IT READS IS OF BULK AT MOST 1048576: true; the input reads as it did. -/
def fnExactGreatestFiltersUptoRow : OpenClaim := { program := "ytomapoenndlbiaa", sum := "e3916ee187bd9f08687f719e8579f63c317eebe353240453319aa4b2c5c9de43", func := "loop.example/residuatedtables/laws.FnExactGreatestFilters", spec := "fnExactGreatestFilters", unfollowed := true, recurses := true, apart := false, narrowed := true }
def FnExactGreatestFiltersUptoSaid : Prop := fnExactGreatestFiltersUptoRow.holds Try.pinned (OpenSpec.upto fnExactGreatestFiltersSpec)

/-- 'laws.FnExactRadicalOf', WHERE WHAT IT READS IS OF BULK AT MOST 1048576: true; the input reads as it did. -/
def fnExactRadicalOfUptoRow : OpenClaim := { program := "ytomapoenndlbiaa", sum := "e3916ee187bd9f08687f719e8579f63c317eebe353240453319aa4b2c5c9de43", func := "loop.example/residuatedtables/laws.FnExactRadicalOf", spec := "fnExactRadicalOf", unfollowed := true, recurses := true, apart := false, narrowed := true }
def FnExactRadicalOfUptoSaid : Prop := fnExactRadicalOfUptoRow.holds Try.pinned (OpenSpec.upto fnExactRadicalOfSpec)

/-- 'laws.FnExactIsLocal', WHERE WHAT IT READS IS OF BULK AT MOST 1048576: true; the input reads as it did. -/
def fnExactIsLocalUptoRow : OpenClaim := { program := "ytomapoenndlbiaa", sum := "e3916ee187bd9f08687f719e8579f63c317eebe353240453319aa4b2c5c9de43", func := "loop.example/residuatedtables/laws.FnExactIsLocal", spec := "fnExactIsLocal", unfollowed := true, recurses := true, apart := false, narrowed := true }
def FnExactIsLocalUptoSaid : Prop := fnExactIsLocalUptoRow.holds Try.pinned (OpenSpec.upto fnExactIsLocalSpec)

/-- 'laws.FnExactHeartOf', WHERE WHAT IT READS IS OF BULK AT MOST 1048576: true; the input reads as it did. -/
def fnExactHeartOfUptoRow : OpenClaim := { program := "ytomapoenndlbiaa", sum := "e3916ee187bd9f08687f719e8579f63c317eebe353240453319aa4b2c5c9de43", func := "loop.example/residuatedtables/laws.FnExactHeartOf", spec := "fnExactHeartOf", unfollowed := true, recurses := true, apart := false, narrowed := true }
def FnExactHeartOfUptoSaid : Prop := fnExactHeartOfUptoRow.holds Try.pinned (OpenSpec.upto fnExactHeartOfSpec)

end Rows
end Go.Proofs.Ytomapoenndlbiaa
