/-
  No cell of these rows narrows 'for every input' (looked for: loops, veiled, ifaces, maps, wideKeys, modest, calm, conditions, laid).
  DERIVED. THE GIVEN ROWS OF THIS SEAT. 16 by the template 'for every input the law returns true; each argument reads behind the call as it read before'; 0 by the template 'total and deterministic' (their statements: YtkndndgladdmcaaTotals.lean).
  GIVEN WITH THE SEED: the statements are not yours to turn. If you find one false, say at which input.
  Laid BY PROGRAM, IN A SANDBOX (cutbox-rows.mjs): the forced cells as the released guide's own fill.sh prints them over the translation 0c723bb05b2db690… (all of the seat's roots in one cut). By AI agents, Wed Nov 11 2026. No macro, syntax, notation, axiom, sorry.
-/
import Derived.Test.YtkndndgladdmcaaChecked
import GoSem.Claim
import GoSem.ClaimJoined
import GoSem.ClaimMapViews
import Derived.JoinedTies
import Derived.KernelRfl
namespace Go.Proofs.Ytkndndgladdmcaa
/- THE CELL 'sum', in the pinned program and in every row, IS THE sha256 OF THE DUMP (.gsa) THAT YtkndndgladdmcaaProg.lean LOADS. Nothing in Lean hashes anything: it is a label: what it is worth is what the hold of that sum in a sandbox is worth. -/
noncomputable def Try.pinned : Pinned := { name := "ytkndndgladdmcaa", sum := "0c723bb05b2db6909dbed2bb0c838a8b9653662a7ea1680b79a64e4dbf46c244", checked := Try.checked }
namespace Rows
def none {H : Type} : Left H := { results := [], args := [] }

/-- 'laws.FnExactValidAlgebra': WHATEVER THE INPUT: true; the input reads as it did. -/
def fnExactValidAlgebraSpec : ChangeSpec := { name := "fnExactValidAlgebra", fn := fun _ => fun
  | [d] => { results := [.lit (.bool true)], args := [d] }
  | _ => none }
def fnExactValidAlgebraRow : OpenClaim := { program := "ytkndndgladdmcaa", sum := "0c723bb05b2db6909dbed2bb0c838a8b9653662a7ea1680b79a64e4dbf46c244", func := "loop.example/residuatedtables/laws.FnExactValidAlgebra", spec := "fnExactValidAlgebra", unfollowed := true, recurses := true, apart := false }
def FnExactValidAlgebraSaid : Prop := fnExactValidAlgebraRow.holds Try.pinned (OpenSpec.ofChange fnExactValidAlgebraSpec)

/-- ITS FALSE NEIGHBOUR: 'it returns false'. Refute it at one input. -/
def fnExactValidAlgebraWrong : ChangeSpec := { name := "fnExactValidAlgebra", fn := fun _ => fun
  | [d] => { results := [.lit (.bool false)], args := [d] }
  | _ => none }
def FnExactValidAlgebraWrongFalsely : Prop := fnExactValidAlgebraRow.holds Try.pinned (OpenSpec.ofChange fnExactValidAlgebraWrong)

/-- 'laws.FnExactImplyOf': WHATEVER THE INPUT: true; the input reads as it did. -/
def fnExactImplyOfSpec : ChangeSpec := { name := "fnExactImplyOf", fn := fun _ => fun
  | [d1, d2, d3] => { results := [.lit (.bool true)], args := [d1, d2, d3] }
  | _ => none }
def fnExactImplyOfRow : OpenClaim := { program := "ytkndndgladdmcaa", sum := "0c723bb05b2db6909dbed2bb0c838a8b9653662a7ea1680b79a64e4dbf46c244", func := "loop.example/residuatedtables/laws.FnExactImplyOf", spec := "fnExactImplyOf", unfollowed := true, recurses := true, apart := false }
def FnExactImplyOfSaid : Prop := fnExactImplyOfRow.holds Try.pinned (OpenSpec.ofChange fnExactImplyOfSpec)

/-- ITS FALSE NEIGHBOUR: 'it returns false'. Refute it at one input. -/
def fnExactImplyOfWrong : ChangeSpec := { name := "fnExactImplyOf", fn := fun _ => fun
  | [d1, d2, d3] => { results := [.lit (.bool false)], args := [d1, d2, d3] }
  | _ => none }
def FnExactImplyOfWrongFalsely : Prop := fnExactImplyOfRow.holds Try.pinned (OpenSpec.ofChange fnExactImplyOfWrong)

/-- 'laws.FnExactNotOf': WHATEVER THE INPUT: true; the input reads as it did. -/
def fnExactNotOfSpec : ChangeSpec := { name := "fnExactNotOf", fn := fun _ => fun
  | [d1, d2] => { results := [.lit (.bool true)], args := [d1, d2] }
  | _ => none }
def fnExactNotOfRow : OpenClaim := { program := "ytkndndgladdmcaa", sum := "0c723bb05b2db6909dbed2bb0c838a8b9653662a7ea1680b79a64e4dbf46c244", func := "loop.example/residuatedtables/laws.FnExactNotOf", spec := "fnExactNotOf", unfollowed := true, recurses := true, apart := false }
def FnExactNotOfSaid : Prop := fnExactNotOfRow.holds Try.pinned (OpenSpec.ofChange fnExactNotOfSpec)

/-- ITS FALSE NEIGHBOUR: 'it returns false'. Refute it at one input. -/
def fnExactNotOfWrong : ChangeSpec := { name := "fnExactNotOf", fn := fun _ => fun
  | [d1, d2] => { results := [.lit (.bool false)], args := [d1, d2] }
  | _ => none }
def FnExactNotOfWrongFalsely : Prop := fnExactNotOfRow.holds Try.pinned (OpenSpec.ofChange fnExactNotOfWrong)

/-- 'laws.FnExactNearOf': WHATEVER THE INPUT: true; the input reads as it did. -/
def fnExactNearOfSpec : ChangeSpec := { name := "fnExactNearOf", fn := fun _ => fun
  | [d1, d2, d3] => { results := [.lit (.bool true)], args := [d1, d2, d3] }
  | _ => none }
def fnExactNearOfRow : OpenClaim := { program := "ytkndndgladdmcaa", sum := "0c723bb05b2db6909dbed2bb0c838a8b9653662a7ea1680b79a64e4dbf46c244", func := "loop.example/residuatedtables/laws.FnExactNearOf", spec := "fnExactNearOf", unfollowed := true, recurses := true, apart := false }
def FnExactNearOfSaid : Prop := fnExactNearOfRow.holds Try.pinned (OpenSpec.ofChange fnExactNearOfSpec)

/-- ITS FALSE NEIGHBOUR: 'it returns false'. Refute it at one input. -/
def fnExactNearOfWrong : ChangeSpec := { name := "fnExactNearOf", fn := fun _ => fun
  | [d1, d2, d3] => { results := [.lit (.bool false)], args := [d1, d2, d3] }
  | _ => none }
def FnExactNearOfWrongFalsely : Prop := fnExactNearOfRow.holds Try.pinned (OpenSpec.ofChange fnExactNearOfWrong)

/-- 'laws.FnExactPowerOf': WHATEVER THE INPUT: true; the input reads as it did. -/
def fnExactPowerOfSpec : ChangeSpec := { name := "fnExactPowerOf", fn := fun _ => fun
  | [d1, d2, d3] => { results := [.lit (.bool true)], args := [d1, d2, d3] }
  | _ => none }
def fnExactPowerOfRow : OpenClaim := { program := "ytkndndgladdmcaa", sum := "0c723bb05b2db6909dbed2bb0c838a8b9653662a7ea1680b79a64e4dbf46c244", func := "loop.example/residuatedtables/laws.FnExactPowerOf", spec := "fnExactPowerOf", unfollowed := true, recurses := true, apart := false }
def FnExactPowerOfSaid : Prop := fnExactPowerOfRow.holds Try.pinned (OpenSpec.ofChange fnExactPowerOfSpec)

/-- ITS FALSE NEIGHBOUR: 'it returns false'. Refute it at one input. -/
def fnExactPowerOfWrong : ChangeSpec := { name := "fnExactPowerOf", fn := fun _ => fun
  | [d1, d2, d3] => { results := [.lit (.bool false)], args := [d1, d2, d3] }
  | _ => none }
def FnExactPowerOfWrongFalsely : Prop := fnExactPowerOfRow.holds Try.pinned (OpenSpec.ofChange fnExactPowerOfWrong)

/-- 'laws.FnExactDepthOf': WHATEVER THE INPUT: true; the input reads as it did. -/
def fnExactDepthOfSpec : ChangeSpec := { name := "fnExactDepthOf", fn := fun _ => fun
  | [d1, d2] => { results := [.lit (.bool true)], args := [d1, d2] }
  | _ => none }
def fnExactDepthOfRow : OpenClaim := { program := "ytkndndgladdmcaa", sum := "0c723bb05b2db6909dbed2bb0c838a8b9653662a7ea1680b79a64e4dbf46c244", func := "loop.example/residuatedtables/laws.FnExactDepthOf", spec := "fnExactDepthOf", unfollowed := true, recurses := true, apart := false }
def FnExactDepthOfSaid : Prop := fnExactDepthOfRow.holds Try.pinned (OpenSpec.ofChange fnExactDepthOfSpec)

/-- ITS FALSE NEIGHBOUR: 'it returns false'. Refute it at one input. -/
def fnExactDepthOfWrong : ChangeSpec := { name := "fnExactDepthOf", fn := fun _ => fun
  | [d1, d2] => { results := [.lit (.bool false)], args := [d1, d2] }
  | _ => none }
def FnExactDepthOfWrongFalsely : Prop := fnExactDepthOfRow.holds Try.pinned (OpenSpec.ofChange fnExactDepthOfWrong)

/-- 'laws.FnExactHasProperty': WHATEVER THE INPUT: true; the input reads as it did. -/
def fnExactHasPropertySpec : ChangeSpec := { name := "fnExactHasProperty", fn := fun _ => fun
  | [d1, d2] => { results := [.lit (.bool true)], args := [d1, d2] }
  | _ => none }
def fnExactHasPropertyRow : OpenClaim := { program := "ytkndndgladdmcaa", sum := "0c723bb05b2db6909dbed2bb0c838a8b9653662a7ea1680b79a64e4dbf46c244", func := "loop.example/residuatedtables/laws.FnExactHasProperty", spec := "fnExactHasProperty", unfollowed := true, recurses := true, apart := false }
def FnExactHasPropertySaid : Prop := fnExactHasPropertyRow.holds Try.pinned (OpenSpec.ofChange fnExactHasPropertySpec)

/-- ITS FALSE NEIGHBOUR: 'it returns false'. Refute it at one input. -/
def fnExactHasPropertyWrong : ChangeSpec := { name := "fnExactHasProperty", fn := fun _ => fun
  | [d1, d2] => { results := [.lit (.bool false)], args := [d1, d2] }
  | _ => none }
def FnExactHasPropertyWrongFalsely : Prop := fnExactHasPropertyRow.holds Try.pinned (OpenSpec.ofChange fnExactHasPropertyWrong)

/-- 'laws.FnExactSharpOf': WHATEVER THE INPUT: true; the input reads as it did. -/
def fnExactSharpOfSpec : ChangeSpec := { name := "fnExactSharpOf", fn := fun _ => fun
  | [d] => { results := [.lit (.bool true)], args := [d] }
  | _ => none }
def fnExactSharpOfRow : OpenClaim := { program := "ytkndndgladdmcaa", sum := "0c723bb05b2db6909dbed2bb0c838a8b9653662a7ea1680b79a64e4dbf46c244", func := "loop.example/residuatedtables/laws.FnExactSharpOf", spec := "fnExactSharpOf", unfollowed := true, recurses := true, apart := false }
def FnExactSharpOfSaid : Prop := fnExactSharpOfRow.holds Try.pinned (OpenSpec.ofChange fnExactSharpOfSpec)

/-- ITS FALSE NEIGHBOUR: 'it returns false'. Refute it at one input. -/
def fnExactSharpOfWrong : ChangeSpec := { name := "fnExactSharpOf", fn := fun _ => fun
  | [d] => { results := [.lit (.bool false)], args := [d] }
  | _ => none }
def FnExactSharpOfWrongFalsely : Prop := fnExactSharpOfRow.holds Try.pinned (OpenSpec.ofChange fnExactSharpOfWrong)

/-- 'laws.FnExactFixedOf': WHATEVER THE INPUT: true; the input reads as it did. -/
def fnExactFixedOfSpec : ChangeSpec := { name := "fnExactFixedOf", fn := fun _ => fun
  | [d] => { results := [.lit (.bool true)], args := [d] }
  | _ => none }
def fnExactFixedOfRow : OpenClaim := { program := "ytkndndgladdmcaa", sum := "0c723bb05b2db6909dbed2bb0c838a8b9653662a7ea1680b79a64e4dbf46c244", func := "loop.example/residuatedtables/laws.FnExactFixedOf", spec := "fnExactFixedOf", unfollowed := true, recurses := true, apart := false }
def FnExactFixedOfSaid : Prop := fnExactFixedOfRow.holds Try.pinned (OpenSpec.ofChange fnExactFixedOfSpec)

/-- ITS FALSE NEIGHBOUR: 'it returns false'. Refute it at one input. -/
def fnExactFixedOfWrong : ChangeSpec := { name := "fnExactFixedOf", fn := fun _ => fun
  | [d] => { results := [.lit (.bool false)], args := [d] }
  | _ => none }
def FnExactFixedOfWrongFalsely : Prop := fnExactFixedOfRow.holds Try.pinned (OpenSpec.ofChange fnExactFixedOfWrong)

/-- 'laws.FnExactTwiceNot': WHATEVER THE INPUT: true; the input reads as it did. -/
def fnExactTwiceNotSpec : ChangeSpec := { name := "fnExactTwiceNot", fn := fun _ => fun
  | [d] => { results := [.lit (.bool true)], args := [d] }
  | _ => none }
def fnExactTwiceNotRow : OpenClaim := { program := "ytkndndgladdmcaa", sum := "0c723bb05b2db6909dbed2bb0c838a8b9653662a7ea1680b79a64e4dbf46c244", func := "loop.example/residuatedtables/laws.FnExactTwiceNot", spec := "fnExactTwiceNot", unfollowed := true, recurses := true, apart := false }
def FnExactTwiceNotSaid : Prop := fnExactTwiceNotRow.holds Try.pinned (OpenSpec.ofChange fnExactTwiceNotSpec)

/-- ITS FALSE NEIGHBOUR: 'it returns false'. Refute it at one input. -/
def fnExactTwiceNotWrong : ChangeSpec := { name := "fnExactTwiceNot", fn := fun _ => fun
  | [d] => { results := [.lit (.bool false)], args := [d] }
  | _ => none }
def FnExactTwiceNotWrongFalsely : Prop := fnExactTwiceNotRow.holds Try.pinned (OpenSpec.ofChange fnExactTwiceNotWrong)

/-- 'laws.FnExactIsFilter': WHATEVER THE INPUT: true; the input reads as it did. -/
def fnExactIsFilterSpec : ChangeSpec := { name := "fnExactIsFilter", fn := fun _ => fun
  | [d1, d2] => { results := [.lit (.bool true)], args := [d1, d2] }
  | _ => none }
def fnExactIsFilterRow : OpenClaim := { program := "ytkndndgladdmcaa", sum := "0c723bb05b2db6909dbed2bb0c838a8b9653662a7ea1680b79a64e4dbf46c244", func := "loop.example/residuatedtables/laws.FnExactIsFilter", spec := "fnExactIsFilter", unfollowed := true, recurses := true, apart := false }
def FnExactIsFilterSaid : Prop := fnExactIsFilterRow.holds Try.pinned (OpenSpec.ofChange fnExactIsFilterSpec)

/-- ITS FALSE NEIGHBOUR: 'it returns false'. Refute it at one input. -/
def fnExactIsFilterWrong : ChangeSpec := { name := "fnExactIsFilter", fn := fun _ => fun
  | [d1, d2] => { results := [.lit (.bool false)], args := [d1, d2] }
  | _ => none }
def FnExactIsFilterWrongFalsely : Prop := fnExactIsFilterRow.holds Try.pinned (OpenSpec.ofChange fnExactIsFilterWrong)

/-- 'laws.FnExactIsSimple': WHATEVER THE INPUT: true; the input reads as it did. -/
def fnExactIsSimpleSpec : ChangeSpec := { name := "fnExactIsSimple", fn := fun _ => fun
  | [d] => { results := [.lit (.bool true)], args := [d] }
  | _ => none }
def fnExactIsSimpleRow : OpenClaim := { program := "ytkndndgladdmcaa", sum := "0c723bb05b2db6909dbed2bb0c838a8b9653662a7ea1680b79a64e4dbf46c244", func := "loop.example/residuatedtables/laws.FnExactIsSimple", spec := "fnExactIsSimple", unfollowed := true, recurses := true, apart := false }
def FnExactIsSimpleSaid : Prop := fnExactIsSimpleRow.holds Try.pinned (OpenSpec.ofChange fnExactIsSimpleSpec)

/-- ITS FALSE NEIGHBOUR: 'it returns false'. Refute it at one input. -/
def fnExactIsSimpleWrong : ChangeSpec := { name := "fnExactIsSimple", fn := fun _ => fun
  | [d] => { results := [.lit (.bool false)], args := [d] }
  | _ => none }
def FnExactIsSimpleWrongFalsely : Prop := fnExactIsSimpleRow.holds Try.pinned (OpenSpec.ofChange fnExactIsSimpleWrong)

/-- 'laws.FnExactFiltersOf': WHATEVER THE INPUT: true; the input reads as it did. -/
def fnExactFiltersOfSpec : ChangeSpec := { name := "fnExactFiltersOf", fn := fun _ => fun
  | [d] => { results := [.lit (.bool true)], args := [d] }
  | _ => none }
def fnExactFiltersOfRow : OpenClaim := { program := "ytkndndgladdmcaa", sum := "0c723bb05b2db6909dbed2bb0c838a8b9653662a7ea1680b79a64e4dbf46c244", func := "loop.example/residuatedtables/laws.FnExactFiltersOf", spec := "fnExactFiltersOf", unfollowed := true, recurses := true, apart := false }
def FnExactFiltersOfSaid : Prop := fnExactFiltersOfRow.holds Try.pinned (OpenSpec.ofChange fnExactFiltersOfSpec)

/-- ITS FALSE NEIGHBOUR: 'it returns false'. Refute it at one input. -/
def fnExactFiltersOfWrong : ChangeSpec := { name := "fnExactFiltersOf", fn := fun _ => fun
  | [d] => { results := [.lit (.bool false)], args := [d] }
  | _ => none }
def FnExactFiltersOfWrongFalsely : Prop := fnExactFiltersOfRow.holds Try.pinned (OpenSpec.ofChange fnExactFiltersOfWrong)

/-- 'laws.FnExactFilterBy': WHATEVER THE INPUT: true; the input reads as it did. -/
def fnExactFilterBySpec : ChangeSpec := { name := "fnExactFilterBy", fn := fun _ => fun
  | [d1, d2] => { results := [.lit (.bool true)], args := [d1, d2] }
  | _ => none }
def fnExactFilterByRow : OpenClaim := { program := "ytkndndgladdmcaa", sum := "0c723bb05b2db6909dbed2bb0c838a8b9653662a7ea1680b79a64e4dbf46c244", func := "loop.example/residuatedtables/laws.FnExactFilterBy", spec := "fnExactFilterBy", unfollowed := true, recurses := true, apart := false }
def FnExactFilterBySaid : Prop := fnExactFilterByRow.holds Try.pinned (OpenSpec.ofChange fnExactFilterBySpec)

/-- ITS FALSE NEIGHBOUR: 'it returns false'. Refute it at one input. -/
def fnExactFilterByWrong : ChangeSpec := { name := "fnExactFilterBy", fn := fun _ => fun
  | [d1, d2] => { results := [.lit (.bool false)], args := [d1, d2] }
  | _ => none }
def FnExactFilterByWrongFalsely : Prop := fnExactFilterByRow.holds Try.pinned (OpenSpec.ofChange fnExactFilterByWrong)

/-- 'laws.FnExactPartsOf': WHATEVER THE INPUT: true; the input reads as it did. -/
def fnExactPartsOfSpec : ChangeSpec := { name := "fnExactPartsOf", fn := fun _ => fun
  | [d] => { results := [.lit (.bool true)], args := [d] }
  | _ => none }
def fnExactPartsOfRow : OpenClaim := { program := "ytkndndgladdmcaa", sum := "0c723bb05b2db6909dbed2bb0c838a8b9653662a7ea1680b79a64e4dbf46c244", func := "loop.example/residuatedtables/laws.FnExactPartsOf", spec := "fnExactPartsOf", unfollowed := true, recurses := true, apart := false }
def FnExactPartsOfSaid : Prop := fnExactPartsOfRow.holds Try.pinned (OpenSpec.ofChange fnExactPartsOfSpec)

/-- ITS FALSE NEIGHBOUR: 'it returns false'. Refute it at one input. -/
def fnExactPartsOfWrong : ChangeSpec := { name := "fnExactPartsOf", fn := fun _ => fun
  | [d] => { results := [.lit (.bool false)], args := [d] }
  | _ => none }
def FnExactPartsOfWrongFalsely : Prop := fnExactPartsOfRow.holds Try.pinned (OpenSpec.ofChange fnExactPartsOfWrong)

/-- 'laws.FnExactClassesOf': WHATEVER THE INPUT: true; the input reads as it did. -/
def fnExactClassesOfSpec : ChangeSpec := { name := "fnExactClassesOf", fn := fun _ => fun
  | [d1, d2] => { results := [.lit (.bool true)], args := [d1, d2] }
  | _ => none }
def fnExactClassesOfRow : OpenClaim := { program := "ytkndndgladdmcaa", sum := "0c723bb05b2db6909dbed2bb0c838a8b9653662a7ea1680b79a64e4dbf46c244", func := "loop.example/residuatedtables/laws.FnExactClassesOf", spec := "fnExactClassesOf", unfollowed := true, recurses := true, apart := false }
def FnExactClassesOfSaid : Prop := fnExactClassesOfRow.holds Try.pinned (OpenSpec.ofChange fnExactClassesOfSpec)

/-- ITS FALSE NEIGHBOUR: 'it returns false'. Refute it at one input. -/
def fnExactClassesOfWrong : ChangeSpec := { name := "fnExactClassesOf", fn := fun _ => fun
  | [d1, d2] => { results := [.lit (.bool false)], args := [d1, d2] }
  | _ => none }
def FnExactClassesOfWrongFalsely : Prop := fnExactClassesOfRow.holds Try.pinned (OpenSpec.ofChange fnExactClassesOfWrong)

/- THE SECOND FORM. 'bulk': how many values and letters a reading holds, each counted each time it is reached (what is shared counts as often as it is met; a slice's spare places count too). A statement '..UptoSaid' is the law's where the arguments, and the package variables that the reading takes, are together of bulk at most 1048576: NARROWER than '..Said'. Prove '..Said' where nothing that the law and all that it calls make is longer than what came in: it says more and counts as full. Else prove '..UptoSaid'. A law counts once. -/
mutual
def uptoBulk {H : Type} : DataW H → Nat
  | .lit (.string bytes) => bytes.length + 1
  | .lit _ => 1
  | .nil => 1
  | .ptr d => uptoBulk d + 1
  | .slice elems spare => uptoBulkAll elems + uptoBulkAll spare + 1
  | .agg parts => uptoBulkAll parts + 1
  | .iface _ d => uptoBulk d + 1
  | .map entries => uptoBulkEntries entries + 1
  | .held _ => 1
def uptoBulkAll {H : Type} : List (DataW H) → Nat
  | [] => 0
  | d :: r => uptoBulk d + uptoBulkAll r
def uptoBulkEntries {H : Type} : List (Lit × DataW H) → Nat
  | [] => 0
  | x :: r => uptoBulkEntry x + uptoBulkEntries r
def uptoBulkEntry {H : Type} : Lit × DataW H → Nat
  | (.string bytes, d) => bytes.length + uptoBulk d + 1
  | (_, d) => uptoBulk d + 1
 end
def uptoSmall : (H : Type) → List (DataW H) → Bool := fun _ ds => decide (uptoBulkAll ds ≤ 1048576)
def OpenSpec.upto (s : _root_.Go.ChangeSpec) : _root_.Go.OpenSpec := { _root_.Go.OpenSpec.ofChange s with cond := some uptoSmall }

/-- 'laws.FnExactValidAlgebra', WHERE WHAT IT READS IS OF BULK AT MOST 1048576: true; the input reads as it did. -/
def fnExactValidAlgebraUptoRow : OpenClaim := { program := "ytkndndgladdmcaa", sum := "0c723bb05b2db6909dbed2bb0c838a8b9653662a7ea1680b79a64e4dbf46c244", func := "loop.example/residuatedtables/laws.FnExactValidAlgebra", spec := "fnExactValidAlgebra", unfollowed := true, recurses := true, apart := false, narrowed := true }
def FnExactValidAlgebraUptoSaid : Prop := fnExactValidAlgebraUptoRow.holds Try.pinned (OpenSpec.upto fnExactValidAlgebraSpec)

/-- 'laws.FnExactImplyOf', WHERE WHAT IT READS IS OF BULK AT MOST 1048576: true; the input reads as it did. -/
def fnExactImplyOfUptoRow : OpenClaim := { program := "ytkndndgladdmcaa", sum := "0c723bb05b2db6909dbed2bb0c838a8b9653662a7ea1680b79a64e4dbf46c244", func := "loop.example/residuatedtables/laws.FnExactImplyOf", spec := "fnExactImplyOf", unfollowed := true, recurses := true, apart := false, narrowed := true }
def FnExactImplyOfUptoSaid : Prop := fnExactImplyOfUptoRow.holds Try.pinned (OpenSpec.upto fnExactImplyOfSpec)

/-- 'laws.FnExactNotOf', WHERE WHAT IT READS IS OF BULK AT MOST 1048576: true; the input reads as it did. -/
def fnExactNotOfUptoRow : OpenClaim := { program := "ytkndndgladdmcaa", sum := "0c723bb05b2db6909dbed2bb0c838a8b9653662a7ea1680b79a64e4dbf46c244", func := "loop.example/residuatedtables/laws.FnExactNotOf", spec := "fnExactNotOf", unfollowed := true, recurses := true, apart := false, narrowed := true }
def FnExactNotOfUptoSaid : Prop := fnExactNotOfUptoRow.holds Try.pinned (OpenSpec.upto fnExactNotOfSpec)

/-- 'laws.FnExactNearOf', WHERE WHAT IT READS IS OF BULK AT MOST 1048576: true; the input reads as it did. -/
def fnExactNearOfUptoRow : OpenClaim := { program := "ytkndndgladdmcaa", sum := "0c723bb05b2db6909dbed2bb0c838a8b9653662a7ea1680b79a64e4dbf46c244", func := "loop.example/residuatedtables/laws.FnExactNearOf", spec := "fnExactNearOf", unfollowed := true, recurses := true, apart := false, narrowed := true }
def FnExactNearOfUptoSaid : Prop := fnExactNearOfUptoRow.holds Try.pinned (OpenSpec.upto fnExactNearOfSpec)

/-- 'laws.FnExactPowerOf', WHERE WHAT IT READS IS OF BULK AT MOST 1048576: true; the input reads as it did. -/
def fnExactPowerOfUptoRow : OpenClaim := { program := "ytkndndgladdmcaa", sum := "0c723bb05b2db6909dbed2bb0c838a8b9653662a7ea1680b79a64e4dbf46c244", func := "loop.example/residuatedtables/laws.FnExactPowerOf", spec := "fnExactPowerOf", unfollowed := true, recurses := true, apart := false, narrowed := true }
def FnExactPowerOfUptoSaid : Prop := fnExactPowerOfUptoRow.holds Try.pinned (OpenSpec.upto fnExactPowerOfSpec)

/-- 'laws.FnExactDepthOf', WHERE WHAT IT READS IS OF BULK AT MOST 1048576: true; the input reads as it did. -/
def fnExactDepthOfUptoRow : OpenClaim := { program := "ytkndndgladdmcaa", sum := "0c723bb05b2db6909dbed2bb0c838a8b9653662a7ea1680b79a64e4dbf46c244", func := "loop.example/residuatedtables/laws.FnExactDepthOf", spec := "fnExactDepthOf", unfollowed := true, recurses := true, apart := false, narrowed := true }
def FnExactDepthOfUptoSaid : Prop := fnExactDepthOfUptoRow.holds Try.pinned (OpenSpec.upto fnExactDepthOfSpec)

/-- 'laws.FnExactHasProperty', WHERE WHAT IT READS IS OF BULK AT MOST 1048576: true; the input reads as it did. -/
def fnExactHasPropertyUptoRow : OpenClaim := { program := "ytkndndgladdmcaa", sum := "0c723bb05b2db6909dbed2bb0c838a8b9653662a7ea1680b79a64e4dbf46c244", func := "loop.example/residuatedtables/laws.FnExactHasProperty", spec := "fnExactHasProperty", unfollowed := true, recurses := true, apart := false, narrowed := true }
def FnExactHasPropertyUptoSaid : Prop := fnExactHasPropertyUptoRow.holds Try.pinned (OpenSpec.upto fnExactHasPropertySpec)

/-- 'laws.FnExactSharpOf', WHERE WHAT IT READS IS OF BULK AT MOST 1048576: true; the input reads as it did. -/
def fnExactSharpOfUptoRow : OpenClaim := { program := "ytkndndgladdmcaa", sum := "0c723bb05b2db6909dbed2bb0c838a8b9653662a7ea1680b79a64e4dbf46c244", func := "loop.example/residuatedtables/laws.FnExactSharpOf", spec := "fnExactSharpOf", unfollowed := true, recurses := true, apart := false, narrowed := true }
def FnExactSharpOfUptoSaid : Prop := fnExactSharpOfUptoRow.holds Try.pinned (OpenSpec.upto fnExactSharpOfSpec)

/-- 'laws.FnExactFixedOf', WHERE WHAT IT READS IS OF BULK AT MOST 1048576: true; the input reads as it did. -/
def fnExactFixedOfUptoRow : OpenClaim := { program := "ytkndndgladdmcaa", sum := "0c723bb05b2db6909dbed2bb0c838a8b9653662a7ea1680b79a64e4dbf46c244", func := "loop.example/residuatedtables/laws.FnExactFixedOf", spec := "fnExactFixedOf", unfollowed := true, recurses := true, apart := false, narrowed := true }
def FnExactFixedOfUptoSaid : Prop := fnExactFixedOfUptoRow.holds Try.pinned (OpenSpec.upto fnExactFixedOfSpec)

/-- 'laws.FnExactTwiceNot', WHERE WHAT IT READS IS OF BULK AT MOST 1048576: true; the input reads as it did. -/
def fnExactTwiceNotUptoRow : OpenClaim := { program := "ytkndndgladdmcaa", sum := "0c723bb05b2db6909dbed2bb0c838a8b9653662a7ea1680b79a64e4dbf46c244", func := "loop.example/residuatedtables/laws.FnExactTwiceNot", spec := "fnExactTwiceNot", unfollowed := true, recurses := true, apart := false, narrowed := true }
def FnExactTwiceNotUptoSaid : Prop := fnExactTwiceNotUptoRow.holds Try.pinned (OpenSpec.upto fnExactTwiceNotSpec)

/-- 'laws.FnExactIsFilter', WHERE WHAT IT READS IS OF BULK AT MOST 1048576: true; the input reads as it did. -/
def fnExactIsFilterUptoRow : OpenClaim := { program := "ytkndndgladdmcaa", sum := "0c723bb05b2db6909dbed2bb0c838a8b9653662a7ea1680b79a64e4dbf46c244", func := "loop.example/residuatedtables/laws.FnExactIsFilter", spec := "fnExactIsFilter", unfollowed := true, recurses := true, apart := false, narrowed := true }
def FnExactIsFilterUptoSaid : Prop := fnExactIsFilterUptoRow.holds Try.pinned (OpenSpec.upto fnExactIsFilterSpec)

/-- 'laws.FnExactIsSimple', WHERE WHAT IT READS IS OF BULK AT MOST 1048576: true; the input reads as it did. -/
def fnExactIsSimpleUptoRow : OpenClaim := { program := "ytkndndgladdmcaa", sum := "0c723bb05b2db6909dbed2bb0c838a8b9653662a7ea1680b79a64e4dbf46c244", func := "loop.example/residuatedtables/laws.FnExactIsSimple", spec := "fnExactIsSimple", unfollowed := true, recurses := true, apart := false, narrowed := true }
def FnExactIsSimpleUptoSaid : Prop := fnExactIsSimpleUptoRow.holds Try.pinned (OpenSpec.upto fnExactIsSimpleSpec)

/-- 'laws.FnExactFiltersOf', WHERE WHAT IT READS IS OF BULK AT MOST 1048576: true; the input reads as it did. -/
def fnExactFiltersOfUptoRow : OpenClaim := { program := "ytkndndgladdmcaa", sum := "0c723bb05b2db6909dbed2bb0c838a8b9653662a7ea1680b79a64e4dbf46c244", func := "loop.example/residuatedtables/laws.FnExactFiltersOf", spec := "fnExactFiltersOf", unfollowed := true, recurses := true, apart := false, narrowed := true }
def FnExactFiltersOfUptoSaid : Prop := fnExactFiltersOfUptoRow.holds Try.pinned (OpenSpec.upto fnExactFiltersOfSpec)

/-- 'laws.FnExactFilterBy', WHERE WHAT IT READS IS OF BULK AT MOST 1048576: true; the input reads as it did. -/
def fnExactFilterByUptoRow : OpenClaim := { program := "ytkndndgladdmcaa", sum := "0c723bb05b2db6909dbed2bb0c838a8b9653662a7ea1680b79a64e4dbf46c244", func := "loop.example/residuatedtables/laws.FnExactFilterBy", spec := "fnExactFilterBy", unfollowed := true, recurses := true, apart := false, narrowed := true }
def FnExactFilterByUptoSaid : Prop := fnExactFilterByUptoRow.holds Try.pinned (OpenSpec.upto fnExactFilterBySpec)

/-- 'laws.FnExactPartsOf', WHERE WHAT IT READS IS OF BULK AT MOST 1048576: true; the input reads as it did. -/
def fnExactPartsOfUptoRow : OpenClaim := { program := "ytkndndgladdmcaa", sum := "0c723bb05b2db6909dbed2bb0c838a8b9653662a7ea1680b79a64e4dbf46c244", func := "loop.example/residuatedtables/laws.FnExactPartsOf", spec := "fnExactPartsOf", unfollowed := true, recurses := true, apart := false, narrowed := true }
def FnExactPartsOfUptoSaid : Prop := fnExactPartsOfUptoRow.holds Try.pinned (OpenSpec.upto fnExactPartsOfSpec)

/-- 'laws.FnExactClassesOf', WHERE WHAT IT READS IS OF BULK AT MOST 1048576: true; the input reads as it did. -/
def fnExactClassesOfUptoRow : OpenClaim := { program := "ytkndndgladdmcaa", sum := "0c723bb05b2db6909dbed2bb0c838a8b9653662a7ea1680b79a64e4dbf46c244", func := "loop.example/residuatedtables/laws.FnExactClassesOf", spec := "fnExactClassesOf", unfollowed := true, recurses := true, apart := false, narrowed := true }
def FnExactClassesOfUptoSaid : Prop := fnExactClassesOfUptoRow.holds Try.pinned (OpenSpec.upto fnExactClassesOfSpec)

end Rows
end Go.Proofs.Ytkndndgladdmcaa
