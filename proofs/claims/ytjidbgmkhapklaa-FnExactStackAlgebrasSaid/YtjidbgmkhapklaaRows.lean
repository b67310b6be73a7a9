/-
  No cell of these rows narrows 'for every input' (looked for: loops, veiled, ifaces, maps, wideKeys, modest, calm, conditions, laid).
  DERIVED. THE GIVEN ROWS OF THIS SEAT. 10 by the template 'for every input the law returns true; each argument reads behind the call as it read before'; 0 by the template 'total and deterministic' (their statements: YtjidbgmkhapklaaTotals.lean).
  GIVEN WITH THE SEED: the statements are not yours to turn. If you find one false, say at which input.
  Laid BY PROGRAM, IN A SANDBOX (cutbox-rows.mjs): the forced cells as the released guide's own fill.sh prints them over the translation e7e559c5816c3c60… (all of the seat's roots in one cut). By AI agents, Wed Nov 11 2026. No macro, syntax, notation, axiom, sorry.
-/
import Derived.Test.YtjidbgmkhapklaaChecked
import GoSem.Claim
import GoSem.ClaimJoined
import GoSem.ClaimMapViews
import Derived.JoinedTies
import Derived.KernelRfl
namespace Go.Proofs.Ytjidbgmkhapklaa
/- THE CELL 'sum', in the pinned program and in every row, IS THE sha256 OF THE DUMP (.gsa) THAT YtjidbgmkhapklaaProg.lean LOADS. Nothing in Lean hashes anything: it is a label: what it is worth is what the hold of that sum in a sandbox is worth. -/
noncomputable def Try.pinned : Pinned := { name := "ytjidbgmkhapklaa", sum := "e7e559c5816c3c6080436c84b311ad6355a60c52f5f109f0eba561757d48c3c0", checked := Try.checked }
namespace Rows
def none {H : Type} : Left H := { results := [], args := [] }

/-- 'laws.FnExactMeetAlgebra': WHATEVER THE INPUT: true; the input reads as it did. -/
def fnExactMeetAlgebraSpec : ChangeSpec := { name := "fnExactMeetAlgebra", fn := fun _ => fun
  | [d] => { results := [.lit (.bool true)], args := [d] }
  | _ => none }
def fnExactMeetAlgebraRow : OpenClaim := { program := "ytjidbgmkhapklaa", sum := "e7e559c5816c3c6080436c84b311ad6355a60c52f5f109f0eba561757d48c3c0", func := "loop.example/residuatedtables/laws.FnExactMeetAlgebra", spec := "fnExactMeetAlgebra", unfollowed := true, recurses := true, apart := false }
def FnExactMeetAlgebraSaid : Prop := fnExactMeetAlgebraRow.holds Try.pinned (OpenSpec.ofChange fnExactMeetAlgebraSpec)

/-- ITS FALSE NEIGHBOUR: 'it returns false'. Refute it at one input. -/
def fnExactMeetAlgebraWrong : ChangeSpec := { name := "fnExactMeetAlgebra", fn := fun _ => fun
  | [d] => { results := [.lit (.bool false)], args := [d] }
  | _ => none }
def FnExactMeetAlgebraWrongFalsely : Prop := fnExactMeetAlgebraRow.holds Try.pinned (OpenSpec.ofChange fnExactMeetAlgebraWrong)

/-- 'laws.FnExactSumChain': WHATEVER THE INPUT: true; the input reads as it did. -/
def fnExactSumChainSpec : ChangeSpec := { name := "fnExactSumChain", fn := fun _ => fun
  | [d] => { results := [.lit (.bool true)], args := [d] }
  | _ => none }
def fnExactSumChainRow : OpenClaim := { program := "ytjidbgmkhapklaa", sum := "e7e559c5816c3c6080436c84b311ad6355a60c52f5f109f0eba561757d48c3c0", func := "loop.example/residuatedtables/laws.FnExactSumChain", spec := "fnExactSumChain", unfollowed := true, recurses := true, apart := false }
def FnExactSumChainSaid : Prop := fnExactSumChainRow.holds Try.pinned (OpenSpec.ofChange fnExactSumChainSpec)

/-- ITS FALSE NEIGHBOUR: 'it returns false'. Refute it at one input. -/
def fnExactSumChainWrong : ChangeSpec := { name := "fnExactSumChain", fn := fun _ => fun
  | [d] => { results := [.lit (.bool false)], args := [d] }
  | _ => none }
def FnExactSumChainWrongFalsely : Prop := fnExactSumChainRow.holds Try.pinned (OpenSpec.ofChange fnExactSumChainWrong)

/-- 'laws.FnExactCrossAlgebras': WHATEVER THE INPUT: true; the input reads as it did. -/
def fnExactCrossAlgebrasSpec : ChangeSpec := { name := "fnExactCrossAlgebras", fn := fun _ => fun
  | [d1, d2] => { results := [.lit (.bool true)], args := [d1, d2] }
  | _ => none }
def fnExactCrossAlgebrasRow : OpenClaim := { program := "ytjidbgmkhapklaa", sum := "e7e559c5816c3c6080436c84b311ad6355a60c52f5f109f0eba561757d48c3c0", func := "loop.example/residuatedtables/laws.FnExactCrossAlgebras", spec := "fnExactCrossAlgebras", unfollowed := true, recurses := true, apart := false }
def FnExactCrossAlgebrasSaid : Prop := fnExactCrossAlgebrasRow.holds Try.pinned (OpenSpec.ofChange fnExactCrossAlgebrasSpec)

/-- ITS FALSE NEIGHBOUR: 'it returns false'. Refute it at one input. -/
def fnExactCrossAlgebrasWrong : ChangeSpec := { name := "fnExactCrossAlgebras", fn := fun _ => fun
  | [d1, d2] => { results := [.lit (.bool false)], args := [d1, d2] }
  | _ => none }
def FnExactCrossAlgebrasWrongFalsely : Prop := fnExactCrossAlgebrasRow.holds Try.pinned (OpenSpec.ofChange fnExactCrossAlgebrasWrong)

/-- 'laws.FnExactStackAlgebras': WHATEVER THE INPUT: true; the input reads as it did. -/
def fnExactStackAlgebrasSpec : ChangeSpec := { name := "fnExactStackAlgebras", fn := fun _ => fun
  | [d1, d2] => { results := [.lit (.bool true)], args := [d1, d2] }
  | _ => none }
def fnExactStackAlgebrasRow : OpenClaim := { program := "ytjidbgmkhapklaa", sum := "e7e559c5816c3c6080436c84b311ad6355a60c52f5f109f0eba561757d48c3c0", func := "loop.example/residuatedtables/laws.FnExactStackAlgebras", spec := "fnExactStackAlgebras", unfollowed := true, recurses := true, apart := false }
def FnExactStackAlgebrasSaid : Prop := fnExactStackAlgebrasRow.holds Try.pinned (OpenSpec.ofChange fnExactStackAlgebrasSpec)

/-- ITS FALSE NEIGHBOUR: 'it returns false'. Refute it at one input. -/
def fnExactStackAlgebrasWrong : ChangeSpec := { name := "fnExactStackAlgebras", fn := fun _ => fun
  | [d1, d2] => { results := [.lit (.bool false)], args := [d1, d2] }
  | _ => none }
def FnExactStackAlgebrasWrongFalsely : Prop := fnExactStackAlgebrasRow.holds Try.pinned (OpenSpec.ofChange fnExactStackAlgebrasWrong)

/-- 'laws.FnExactStackOfSums': WHATEVER THE INPUT: true; the input reads as it did. -/
def fnExactStackOfSumsSpec : ChangeSpec := { name := "fnExactStackOfSums", fn := fun _ => fun
  | [d] => { results := [.lit (.bool true)], args := [d] }
  | _ => none }
def fnExactStackOfSumsRow : OpenClaim := { program := "ytjidbgmkhapklaa", sum := "e7e559c5816c3c6080436c84b311ad6355a60c52f5f109f0eba561757d48c3c0", func := "loop.example/residuatedtables/laws.FnExactStackOfSums", spec := "fnExactStackOfSums", unfollowed := true, recurses := true, apart := false }
def FnExactStackOfSumsSaid : Prop := fnExactStackOfSumsRow.holds Try.pinned (OpenSpec.ofChange fnExactStackOfSumsSpec)

/-- ITS FALSE NEIGHBOUR: 'it returns false'. Refute it at one input. -/
def fnExactStackOfSumsWrong : ChangeSpec := { name := "fnExactStackOfSums", fn := fun _ => fun
  | [d] => { results := [.lit (.bool false)], args := [d] }
  | _ => none }
def FnExactStackOfSumsWrongFalsely : Prop := fnExactStackOfSumsRow.holds Try.pinned (OpenSpec.ofChange fnExactStackOfSumsWrong)

/-- 'laws.FnSumChain': WHATEVER THE INPUT: true; the input reads as it did. -/
def fnSumChainSpec : ChangeSpec := { name := "fnSumChain", fn := fun _ => fun
  | [d] => { results := [.lit (.bool true)], args := [d] }
  | _ => none }
def fnSumChainRow : OpenClaim := { program := "ytjidbgmkhapklaa", sum := "e7e559c5816c3c6080436c84b311ad6355a60c52f5f109f0eba561757d48c3c0", func := "loop.example/residuatedtables/laws.FnSumChain", spec := "fnSumChain", unfollowed := true, recurses := true, apart := false }
def FnSumChainSaid : Prop := fnSumChainRow.holds Try.pinned (OpenSpec.ofChange fnSumChainSpec)

/-- ITS FALSE NEIGHBOUR: 'it returns false'. Refute it at one input. -/
def fnSumChainWrong : ChangeSpec := { name := "fnSumChain", fn := fun _ => fun
  | [d] => { results := [.lit (.bool false)], args := [d] }
  | _ => none }
def FnSumChainWrongFalsely : Prop := fnSumChainRow.holds Try.pinned (OpenSpec.ofChange fnSumChainWrong)

/-- 'laws.FnExactAllLattices': WHATEVER THE INPUT: true; the input reads as it did. -/
def fnExactAllLatticesSpec : ChangeSpec := { name := "fnExactAllLattices", fn := fun _ => fun
  | [d] => { results := [.lit (.bool true)], args := [d] }
  | _ => none }
def fnExactAllLatticesRow : OpenClaim := { program := "ytjidbgmkhapklaa", sum := "e7e559c5816c3c6080436c84b311ad6355a60c52f5f109f0eba561757d48c3c0", func := "loop.example/residuatedtables/laws.FnExactAllLattices", spec := "fnExactAllLattices", unfollowed := true, recurses := true, apart := false }
def FnExactAllLatticesSaid : Prop := fnExactAllLatticesRow.holds Try.pinned (OpenSpec.ofChange fnExactAllLatticesSpec)

/-- ITS FALSE NEIGHBOUR: 'it returns false'. Refute it at one input. -/
def fnExactAllLatticesWrong : ChangeSpec := { name := "fnExactAllLattices", fn := fun _ => fun
  | [d] => { results := [.lit (.bool false)], args := [d] }
  | _ => none }
def FnExactAllLatticesWrongFalsely : Prop := fnExactAllLatticesRow.holds Try.pinned (OpenSpec.ofChange fnExactAllLatticesWrong)

/-- 'laws.FnAllLattices': WHATEVER THE INPUT: true; the input reads as it did. -/
def fnAllLatticesSpec : ChangeSpec := { name := "fnAllLattices", fn := fun _ => fun
  | [d] => { results := [.lit (.bool true)], args := [d] }
  | _ => none }
def fnAllLatticesRow : OpenClaim := { program := "ytjidbgmkhapklaa", sum := "e7e559c5816c3c6080436c84b311ad6355a60c52f5f109f0eba561757d48c3c0", func := "loop.example/residuatedtables/laws.FnAllLattices", spec := "fnAllLattices", unfollowed := true, recurses := true, apart := false }
def FnAllLatticesSaid : Prop := fnAllLatticesRow.holds Try.pinned (OpenSpec.ofChange fnAllLatticesSpec)

/-- ITS FALSE NEIGHBOUR: 'it returns false'. Refute it at one input. -/
def fnAllLatticesWrong : ChangeSpec := { name := "fnAllLattices", fn := fun _ => fun
  | [d] => { results := [.lit (.bool false)], args := [d] }
  | _ => none }
def FnAllLatticesWrongFalsely : Prop := fnAllLatticesRow.holds Try.pinned (OpenSpec.ofChange fnAllLatticesWrong)

/-- 'laws.FnCrossLattices': WHATEVER THE INPUT: true; the input reads as it did. -/
def fnCrossLatticesSpec : ChangeSpec := { name := "fnCrossLattices", fn := fun _ => fun
  | [d] => { results := [.lit (.bool true)], args := [d] }
  | _ => none }
def fnCrossLatticesRow : OpenClaim := { program := "ytjidbgmkhapklaa", sum := "e7e559c5816c3c6080436c84b311ad6355a60c52f5f109f0eba561757d48c3c0", func := "loop.example/residuatedtables/laws.FnCrossLattices", spec := "fnCrossLattices", recurses := true, apart := false }
def FnCrossLatticesSaid : Prop := fnCrossLatticesRow.holds Try.pinned (OpenSpec.ofChange fnCrossLatticesSpec)

/-- ITS FALSE NEIGHBOUR: 'it returns false'. Refute it at one input. -/
def fnCrossLatticesWrong : ChangeSpec := { name := "fnCrossLattices", fn := fun _ => fun
  | [d] => { results := [.lit (.bool false)], args := [d] }
  | _ => none }
def FnCrossLatticesWrongFalsely : Prop := fnCrossLatticesRow.holds Try.pinned (OpenSpec.ofChange fnCrossLatticesWrong)

/-- 'laws.FnIsDistributive': WHATEVER THE INPUT: true; the input reads as it did. -/
def fnIsDistributiveSpec : ChangeSpec := { name := "fnIsDistributive", fn := fun _ => fun
  | [d] => { results := [.lit (.bool true)], args := [d] }
  | _ => none }
def fnIsDistributiveRow : OpenClaim := { program := "ytjidbgmkhapklaa", sum := "e7e559c5816c3c6080436c84b311ad6355a60c52f5f109f0eba561757d48c3c0", func := "loop.example/residuatedtables/laws.FnIsDistributive", spec := "fnIsDistributive", unfollowed := true, recurses := true, apart := false }
def FnIsDistributiveSaid : Prop := fnIsDistributiveRow.holds Try.pinned (OpenSpec.ofChange fnIsDistributiveSpec)

/-- ITS FALSE NEIGHBOUR: 'it returns false'. Refute it at one input. -/
def fnIsDistributiveWrong : ChangeSpec := { name := "fnIsDistributive", fn := fun _ => fun
  | [d] => { results := [.lit (.bool false)], args := [d] }
  | _ => none }
def FnIsDistributiveWrongFalsely : Prop := fnIsDistributiveRow.holds Try.pinned (OpenSpec.ofChange fnIsDistributiveWrong)

/- THE SECOND FORM. 'bulk': how many values and letters a reading holds, each counted each time it is reached (what is shared counts as often as it is met; a slice's spare places count too). A statement '..UptoSaid' is the law's where the arguments, and the package variables that the reading takes, are together of bulk at most 1048576: NARROWER than '..Said'. Prove '..Said' where nothing that the law and all that it calls make is longer than what came in: it says more and counts as full. Else prove '..UptoSaid'. A law counts once. -/
mutual
def uptoBulk {H : Type} : DataW H → Nat
  | .lit (.string bytes) => bytes.length + 1
  | .lit _ => 1
  | .nil => 1
  | .ptr d => uptoBulk d + 1
  | .slice elems spare => uptoBulkAll elems + uptoBulkAll spare + 1
  | .agg parts => uptoBulkAll parts + 1
  | .iface _ d => uptoBulk d + 1
  | .map entries => uptoBulkEntries entries + 1
  | .held _ => 1
def uptoBulkAll {H : Type} : List (DataW H) → Nat
  | [] => 0
  | d :: r => uptoBulk d + uptoBulkAll r
def uptoBulkEntries {H : Type} : List (Lit × DataW H) → Nat
  | [] => 0
  | x :: r => uptoBulkEntry x + uptoBulkEntries r
def uptoBulkEntry {H : Type} : Lit × DataW H → Nat
  | (.string bytes, d) => bytes.length + uptoBulk d + 1
  | (_, d) => uptoBulk d + 1
 end
def uptoSmall : (H : Type) → List (DataW H) → Bool := fun _ ds => decide (uptoBulkAll ds ≤ 1048576)
def OpenSpec.upto (s : _root_.Go.ChangeSpec) : _root_.Go.OpenSpec := { _root_.Go.OpenSpec.ofChange s with cond := some uptoSmall }

/-- 'laws.FnExactMeetAlgebra', WHERE WHAT IT READS IS OF BULK AT MOST 1048576: true; the input reads as it did. -/
def fnExactMeetAlgebraUptoRow : OpenClaim := { program := "ytjidbgmkhapklaa", sum := "e7e559c5816c3c6080436c84b311ad6355a60c52f5f109f0eba561757d48c3c0", func := "loop.example/residuatedtables/laws.FnExactMeetAlgebra", spec := "fnExactMeetAlgebra", unfollowed := true, recurses := true, apart := false, narrowed := true }
def FnExactMeetAlgebraUptoSaid : Prop := fnExactMeetAlgebraUptoRow.holds Try.pinned (OpenSpec.upto fnExactMeetAlgebraSpec)

/-- 'laws.FnExactSumChain', WHERE WHAT IT READS IS OF BULK AT MOST 1048576: true; the input reads as it did. -/
def fnExactSumChainUptoRow : OpenClaim := { program := "ytjidbgmkhapklaa", sum := "e7e559c5816c3c6080436c84b311ad6355a60c52f5f109f0eba561757d48c3c0", func := "loop.example/residuatedtables/laws.FnExactSumChain", spec := "fnExactSumChain", unfollowed := true, recurses := true, apart := false, narrowed := true }
def FnExactSumChainUptoSaid : Prop := fnExactSumChainUptoRow.holds Try.pinned (OpenSpec.upto fnExactSumChainSpec)

/-- 'laws.FnExactCrossAlgebras', WHERE WHAT IT READS IS OF BULK AT MOST 1048576: true; the input reads as it did. -/
def fnExactCrossAlgebrasUptoRow : OpenClaim := { program := "ytjidbgmkhapklaa", sum := "e7e559c5816c3c6080436c84b311ad6355a60c52f5f109f0eba561757d48c3c0", func := "loop.example/residuatedtables/laws.FnExactCrossAlgebras", spec := "fnExactCrossAlgebras", unfollowed := true, recurses := true, apart := false, narrowed := true }
def FnExactCrossAlgebrasUptoSaid : Prop := fnExactCrossAlgebrasUptoRow.holds Try.pinned (OpenSpec.upto fnExactCrossAlgebrasSpec)

/-- 'laws.FnExactStackAlgebras', WHERE WHAT IT READS IS OF BULK AT MOST 1048576: true; the input reads as it did. -/
def fnExactStackAlgebrasUptoRow : OpenClaim := { program := "ytjidbgmkhapklaa", sum := "e7e559c5816c3c6080436c84b311ad6355a60c52f5f109f0eba561757d48c3c0", func := "loop.example/residuatedtables/laws.FnExactStackAlgebras", spec := "fnExactStackAlgebras", unfollowed := true, recurses := true, apart := false, narrowed := true }
def FnExactStackAlgebrasUptoSaid : Prop := fnExactStackAlgebrasUptoRow.holds Try.pinned (OpenSpec.upto fnExactStackAlgebrasSpec)

/-- 'laws.FnExactStackOfSums', WHERE WHAT IT READS IS OF BULK AT MOST 1048576: true; the input reads as it did. -/
def fnExactStackOfSumsUptoRow : OpenClaim := { program := "ytjidbgmkhapklaa", sum := "e7e559c5816c3c6080436c84b311ad6355a60c52f5f109f0eba561757d48c3c0", func := "loop.example/residuatedtables/laws.FnExactStackOfSums", spec := "fnExactStackOfSums", unfollowed := true, recurses := true, apart := false, narrowed := true }
def FnExactStackOfSumsUptoSaid : Prop := fnExactStackOfSumsUptoRow.holds Try.pinned (OpenSpec.upto fnExactStackOfSumsSpec)

/-- 'laws.FnSumChain', WHERE WHAT IT READS IS OF BULK AT MOST 1048576: true; the input reads as it did. -/
def fnSumChainUptoRow : OpenClaim := { program := "ytjidbgmkhapklaa", sum := "e7e559c5816c3c6080436c84b311ad6355a60c52f5f109f0eba561757d48c3c0", func := "loop.example/residuatedtables/laws.FnSumChain", spec := "fnSumChain", unfollowed := true, recurses := true, apart := false, narrowed := true }
def FnSumChainUptoSaid : Prop := fnSumChainUptoRow.holds Try.pinned (OpenSpec.upto fnSumChainSpec)

/-- 'laws.FnExactAllLattices', WHERE WHAT IT READS IS OF BULK AT MOST 1048576: true; the input reads as it did. -/
def fnExactAllLatticesUptoRow : OpenClaim := { program := "ytjidbgmkhapklaa", sum := "e7e559c5816c3c6080436c84b311ad6355a60c52f5f109f0eba561757d48c3c0", func := "loop.example/residuatedtables/laws.FnExactAllLattices", spec := "fnExactAllLattices", unfollowed := true, recurses := true, apart := false, narrowed := true }
def FnExactAllLatticesUptoSaid : Prop := fnExactAllLatticesUptoRow.holds Try.pinned (OpenSpec.upto fnExactAllLatticesSpec)

/-- 'laws.FnAllLattices', WHERE WHAT IT READS IS OF BULK AT MOST 1048576: true; the input reads as it did. -/
def fnAllLatticesUptoRow : OpenClaim := { program := "ytjidbgmkhapklaa", sum := "e7e559c5816c3c6080436c84b311ad6355a60c52f5f109f0eba561757d48c3c0", func := "loop.example/residuatedtables/laws.FnAllLattices", spec := "fnAllLattices", unfollowed := true, recurses := true, apart := false, narrowed := true }
def FnAllLatticesUptoSaid : Prop := fnAllLatticesUptoRow.holds Try.pinned (OpenSpec.upto fnAllLatticesSpec)

/-- 'laws.FnCrossLattices', WHERE WHAT IT READS IS OF BULK AT MOST 1048576: true; the input reads as it did. -/
def fnCrossLatticesUptoRow : OpenClaim := { program := "ytjidbgmkhapklaa", sum := "e7e559c5816c3c6080436c84b311ad6355a60c52f5f109f0eba561757d48c3c0", func := "loop.example/residuatedtables/laws.FnCrossLattices", spec := "fnCrossLattices", recurses := true, apart := false, narrowed := true }
def FnCrossLatticesUptoSaid : Prop := fnCrossLatticesUptoRow.holds Try.pinned (OpenSpec.upto fnCrossLatticesSpec)

/-- 'laws.FnIsDistributive', WHERE WHAT IT READS IS OF BULK AT MOST 1048576: true; the input reads as it did. -/
def fnIsDistributiveUptoRow : OpenClaim := { program := "ytjidbgmkhapklaa", sum := "e7e559c5816c3c6080436c84b311ad6355a60c52f5f109f0eba561757d48c3c0", func := "loop.example/residuatedtables/laws.FnIsDistributive", spec := "fnIsDistributive", unfollowed := true, recurses := true, apart := false, narrowed := true }
def FnIsDistributiveUptoSaid : Prop := fnIsDistributiveUptoRow.holds Try.pinned (OpenSpec.upto fnIsDistributiveSpec)

end Rows
end Go.Proofs.Ytjidbgmkhapklaa
