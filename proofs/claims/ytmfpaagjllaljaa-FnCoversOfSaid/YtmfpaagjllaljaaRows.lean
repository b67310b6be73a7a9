/-
  No cell of these rows narrows 'for every input' (looked for: loops, veiled, ifaces, maps, wideKeys, modest, calm, conditions, laid).
  DERIVED. THE GIVEN ROWS OF THIS SEAT. 23 by the template 'for every input the law returns true; each argument reads behind the call as it read before'; 0 by the template 'total and deterministic' (their statements: YtmfpaagjllaljaaTotals.lean).
  GIVEN WITH THE SEED: the statements are not yours to turn. If you find one false, say at which input.
  Laid BY PROGRAM, IN A SANDBOX (cutbox-rows.mjs): the forced cells as the released guide's own fill.sh prints them over the translation 287cd3b90d48c706… (all of the seat's roots in one cut). By AI agents, Wed Nov 11 2026. No macro, syntax, notation, axiom, sorry.
-/
import Derived.Test.YtmfpaagjllaljaaChecked
import GoSem.Claim
import GoSem.ClaimJoined
import GoSem.ClaimMapViews
import Derived.JoinedTies
import Derived.KernelRfl
namespace Go.Proofs.Ytmfpaagjllaljaa
/- THE CELL 'sum', in the pinned program and in every row, IS THE sha256 OF THE DUMP (.gsa) THAT YtmfpaagjllaljaaProg.lean LOADS. Nothing in Lean hashes anything: it is a label: what it is worth is what the hold of that sum in a sandbox is worth. -/
noncomputable def Try.pinned : Pinned := { name := "ytmfpaagjllaljaa", sum := "287cd3b90d48c706038a486689d102a10c1998e970754c1130c905559cea66ce", checked := Try.checked }
namespace Rows
def none {H : Type} : Left H := { results := [], args := [] }

/-- 'laws.FnExactValidLattice': WHATEVER THE INPUT: true; the input reads as it did. -/
def fnExactValidLatticeSpec : ChangeSpec := { name := "fnExactValidLattice", fn := fun _ => fun
  | [d] => { results := [.lit (.bool true)], args := [d] }
  | _ => none }
def fnExactValidLatticeRow : OpenClaim := { program := "ytmfpaagjllaljaa", sum := "287cd3b90d48c706038a486689d102a10c1998e970754c1130c905559cea66ce", func := "loop.example/residuatedtables/laws.FnExactValidLattice", spec := "fnExactValidLattice", apart := false }
def FnExactValidLatticeSaid : Prop := fnExactValidLatticeRow.holds Try.pinned (OpenSpec.ofChange fnExactValidLatticeSpec)

/-- ITS FALSE NEIGHBOUR: 'it returns false'. Refute it at one input. -/
def fnExactValidLatticeWrong : ChangeSpec := { name := "fnExactValidLattice", fn := fun _ => fun
  | [d] => { results := [.lit (.bool false)], args := [d] }
  | _ => none }
def FnExactValidLatticeWrongFalsely : Prop := fnExactValidLatticeRow.holds Try.pinned (OpenSpec.ofChange fnExactValidLatticeWrong)

/-- 'laws.FnChainOf': WHATEVER THE INPUT: true; the input reads as it did. -/
def fnChainOfSpec : ChangeSpec := { name := "fnChainOf", fn := fun _ => fun
  | [d] => { results := [.lit (.bool true)], args := [d] }
  | _ => none }
def fnChainOfRow : OpenClaim := { program := "ytmfpaagjllaljaa", sum := "287cd3b90d48c706038a486689d102a10c1998e970754c1130c905559cea66ce", func := "loop.example/residuatedtables/laws.FnChainOf", spec := "fnChainOf", unfollowed := true, recurses := true, apart := false }
def FnChainOfSaid : Prop := fnChainOfRow.holds Try.pinned (OpenSpec.ofChange fnChainOfSpec)

/-- ITS FALSE NEIGHBOUR: 'it returns false'. Refute it at one input. -/
def fnChainOfWrong : ChangeSpec := { name := "fnChainOf", fn := fun _ => fun
  | [d] => { results := [.lit (.bool false)], args := [d] }
  | _ => none }
def FnChainOfWrongFalsely : Prop := fnChainOfRow.holds Try.pinned (OpenSpec.ofChange fnChainOfWrong)

/-- 'laws.FnExactIsBelow': WHATEVER THE INPUT: true; the input reads as it did. -/
def fnExactIsBelowSpec : ChangeSpec := { name := "fnExactIsBelow", fn := fun _ => fun
  | [d1, d2, d3] => { results := [.lit (.bool true)], args := [d1, d2, d3] }
  | _ => none }
def fnExactIsBelowRow : OpenClaim := { program := "ytmfpaagjllaljaa", sum := "287cd3b90d48c706038a486689d102a10c1998e970754c1130c905559cea66ce", func := "loop.example/residuatedtables/laws.FnExactIsBelow", spec := "fnExactIsBelow", unfollowed := true, recurses := true, apart := false }
def FnExactIsBelowSaid : Prop := fnExactIsBelowRow.holds Try.pinned (OpenSpec.ofChange fnExactIsBelowSpec)

/-- ITS FALSE NEIGHBOUR: 'it returns false'. Refute it at one input. -/
def fnExactIsBelowWrong : ChangeSpec := { name := "fnExactIsBelow", fn := fun _ => fun
  | [d1, d2, d3] => { results := [.lit (.bool false)], args := [d1, d2, d3] }
  | _ => none }
def FnExactIsBelowWrongFalsely : Prop := fnExactIsBelowRow.holds Try.pinned (OpenSpec.ofChange fnExactIsBelowWrong)

/-- 'laws.FnExactIsChain': WHATEVER THE INPUT: true; the input reads as it did. -/
def fnExactIsChainSpec : ChangeSpec := { name := "fnExactIsChain", fn := fun _ => fun
  | [d] => { results := [.lit (.bool true)], args := [d] }
  | _ => none }
def fnExactIsChainRow : OpenClaim := { program := "ytmfpaagjllaljaa", sum := "287cd3b90d48c706038a486689d102a10c1998e970754c1130c905559cea66ce", func := "loop.example/residuatedtables/laws.FnExactIsChain", spec := "fnExactIsChain", apart := false }
def FnExactIsChainSaid : Prop := fnExactIsChainRow.holds Try.pinned (OpenSpec.ofChange fnExactIsChainSpec)

/-- ITS FALSE NEIGHBOUR: 'it returns false'. Refute it at one input. -/
def fnExactIsChainWrong : ChangeSpec := { name := "fnExactIsChain", fn := fun _ => fun
  | [d] => { results := [.lit (.bool false)], args := [d] }
  | _ => none }
def FnExactIsChainWrongFalsely : Prop := fnExactIsChainRow.holds Try.pinned (OpenSpec.ofChange fnExactIsChainWrong)

/-- 'laws.FnExactJoinOf': WHATEVER THE INPUT: true; the input reads as it did. -/
def fnExactJoinOfSpec : ChangeSpec := { name := "fnExactJoinOf", fn := fun _ => fun
  | [d1, d2, d3] => { results := [.lit (.bool true)], args := [d1, d2, d3] }
  | _ => none }
def fnExactJoinOfRow : OpenClaim := { program := "ytmfpaagjllaljaa", sum := "287cd3b90d48c706038a486689d102a10c1998e970754c1130c905559cea66ce", func := "loop.example/residuatedtables/laws.FnExactJoinOf", spec := "fnExactJoinOf", unfollowed := true, recurses := true, apart := false }
def FnExactJoinOfSaid : Prop := fnExactJoinOfRow.holds Try.pinned (OpenSpec.ofChange fnExactJoinOfSpec)

/-- ITS FALSE NEIGHBOUR: 'it returns false'. Refute it at one input. -/
def fnExactJoinOfWrong : ChangeSpec := { name := "fnExactJoinOf", fn := fun _ => fun
  | [d1, d2, d3] => { results := [.lit (.bool false)], args := [d1, d2, d3] }
  | _ => none }
def FnExactJoinOfWrongFalsely : Prop := fnExactJoinOfRow.holds Try.pinned (OpenSpec.ofChange fnExactJoinOfWrong)

/-- 'laws.FnExactMeetOf': WHATEVER THE INPUT: true; the input reads as it did. -/
def fnExactMeetOfSpec : ChangeSpec := { name := "fnExactMeetOf", fn := fun _ => fun
  | [d1, d2, d3] => { results := [.lit (.bool true)], args := [d1, d2, d3] }
  | _ => none }
def fnExactMeetOfRow : OpenClaim := { program := "ytmfpaagjllaljaa", sum := "287cd3b90d48c706038a486689d102a10c1998e970754c1130c905559cea66ce", func := "loop.example/residuatedtables/laws.FnExactMeetOf", spec := "fnExactMeetOf", unfollowed := true, recurses := true, apart := false }
def FnExactMeetOfSaid : Prop := fnExactMeetOfRow.holds Try.pinned (OpenSpec.ofChange fnExactMeetOfSpec)

/-- ITS FALSE NEIGHBOUR: 'it returns false'. Refute it at one input. -/
def fnExactMeetOfWrong : ChangeSpec := { name := "fnExactMeetOf", fn := fun _ => fun
  | [d1, d2, d3] => { results := [.lit (.bool false)], args := [d1, d2, d3] }
  | _ => none }
def FnExactMeetOfWrongFalsely : Prop := fnExactMeetOfRow.holds Try.pinned (OpenSpec.ofChange fnExactMeetOfWrong)

/-- 'laws.FnExactIsDistributive': WHATEVER THE INPUT: true; the input reads as it did. -/
def fnExactIsDistributiveSpec : ChangeSpec := { name := "fnExactIsDistributive", fn := fun _ => fun
  | [d] => { results := [.lit (.bool true)], args := [d] }
  | _ => none }
def fnExactIsDistributiveRow : OpenClaim := { program := "ytmfpaagjllaljaa", sum := "287cd3b90d48c706038a486689d102a10c1998e970754c1130c905559cea66ce", func := "loop.example/residuatedtables/laws.FnExactIsDistributive", spec := "fnExactIsDistributive", apart := false }
def FnExactIsDistributiveSaid : Prop := fnExactIsDistributiveRow.holds Try.pinned (OpenSpec.ofChange fnExactIsDistributiveSpec)

/-- ITS FALSE NEIGHBOUR: 'it returns false'. Refute it at one input. -/
def fnExactIsDistributiveWrong : ChangeSpec := { name := "fnExactIsDistributive", fn := fun _ => fun
  | [d] => { results := [.lit (.bool false)], args := [d] }
  | _ => none }
def FnExactIsDistributiveWrongFalsely : Prop := fnExactIsDistributiveRow.holds Try.pinned (OpenSpec.ofChange fnExactIsDistributiveWrong)

/-- 'laws.FnExactTurnedLattice': WHATEVER THE INPUT: true; the input reads as it did. -/
def fnExactTurnedLatticeSpec : ChangeSpec := { name := "fnExactTurnedLattice", fn := fun _ => fun
  | [d] => { results := [.lit (.bool true)], args := [d] }
  | _ => none }
def fnExactTurnedLatticeRow : OpenClaim := { program := "ytmfpaagjllaljaa", sum := "287cd3b90d48c706038a486689d102a10c1998e970754c1130c905559cea66ce", func := "loop.example/residuatedtables/laws.FnExactTurnedLattice", spec := "fnExactTurnedLattice", apart := false }
def FnExactTurnedLatticeSaid : Prop := fnExactTurnedLatticeRow.holds Try.pinned (OpenSpec.ofChange fnExactTurnedLatticeSpec)

/-- ITS FALSE NEIGHBOUR: 'it returns false'. Refute it at one input. -/
def fnExactTurnedLatticeWrong : ChangeSpec := { name := "fnExactTurnedLattice", fn := fun _ => fun
  | [d] => { results := [.lit (.bool false)], args := [d] }
  | _ => none }
def FnExactTurnedLatticeWrongFalsely : Prop := fnExactTurnedLatticeRow.holds Try.pinned (OpenSpec.ofChange fnExactTurnedLatticeWrong)

/-- 'laws.FnExactCrossLattices': WHATEVER THE INPUT: true; the input reads as it did. -/
def fnExactCrossLatticesSpec : ChangeSpec := { name := "fnExactCrossLattices", fn := fun _ => fun
  | [d1, d2] => { results := [.lit (.bool true)], args := [d1, d2] }
  | _ => none }
def fnExactCrossLatticesRow : OpenClaim := { program := "ytmfpaagjllaljaa", sum := "287cd3b90d48c706038a486689d102a10c1998e970754c1130c905559cea66ce", func := "loop.example/residuatedtables/laws.FnExactCrossLattices", spec := "fnExactCrossLattices", apart := false }
def FnExactCrossLatticesSaid : Prop := fnExactCrossLatticesRow.holds Try.pinned (OpenSpec.ofChange fnExactCrossLatticesSpec)

/-- ITS FALSE NEIGHBOUR: 'it returns false'. Refute it at one input. -/
def fnExactCrossLatticesWrong : ChangeSpec := { name := "fnExactCrossLattices", fn := fun _ => fun
  | [d1, d2] => { results := [.lit (.bool false)], args := [d1, d2] }
  | _ => none }
def FnExactCrossLatticesWrongFalsely : Prop := fnExactCrossLatticesRow.holds Try.pinned (OpenSpec.ofChange fnExactCrossLatticesWrong)

/-- 'laws.FnExactComplementsOf': WHATEVER THE INPUT: true; the input reads as it did. -/
def fnExactComplementsOfSpec : ChangeSpec := { name := "fnExactComplementsOf", fn := fun _ => fun
  | [d1, d2] => { results := [.lit (.bool true)], args := [d1, d2] }
  | _ => none }
def fnExactComplementsOfRow : OpenClaim := { program := "ytmfpaagjllaljaa", sum := "287cd3b90d48c706038a486689d102a10c1998e970754c1130c905559cea66ce", func := "loop.example/residuatedtables/laws.FnExactComplementsOf", spec := "fnExactComplementsOf", unfollowed := true, recurses := true, apart := false }
def FnExactComplementsOfSaid : Prop := fnExactComplementsOfRow.holds Try.pinned (OpenSpec.ofChange fnExactComplementsOfSpec)

/-- ITS FALSE NEIGHBOUR: 'it returns false'. Refute it at one input. -/
def fnExactComplementsOfWrong : ChangeSpec := { name := "fnExactComplementsOf", fn := fun _ => fun
  | [d1, d2] => { results := [.lit (.bool false)], args := [d1, d2] }
  | _ => none }
def FnExactComplementsOfWrongFalsely : Prop := fnExactComplementsOfRow.holds Try.pinned (OpenSpec.ofChange fnExactComplementsOfWrong)

/-- 'laws.FnExactCoversOf': WHATEVER THE INPUT: true; the input reads as it did. -/
def fnExactCoversOfSpec : ChangeSpec := { name := "fnExactCoversOf", fn := fun _ => fun
  | [d1, d2] => { results := [.lit (.bool true)], args := [d1, d2] }
  | _ => none }
def fnExactCoversOfRow : OpenClaim := { program := "ytmfpaagjllaljaa", sum := "287cd3b90d48c706038a486689d102a10c1998e970754c1130c905559cea66ce", func := "loop.example/residuatedtables/laws.FnExactCoversOf", spec := "fnExactCoversOf", unfollowed := true, recurses := true, apart := false }
def FnExactCoversOfSaid : Prop := fnExactCoversOfRow.holds Try.pinned (OpenSpec.ofChange fnExactCoversOfSpec)

/-- ITS FALSE NEIGHBOUR: 'it returns false'. Refute it at one input. -/
def fnExactCoversOfWrong : ChangeSpec := { name := "fnExactCoversOf", fn := fun _ => fun
  | [d1, d2] => { results := [.lit (.bool false)], args := [d1, d2] }
  | _ => none }
def FnExactCoversOfWrongFalsely : Prop := fnExactCoversOfRow.holds Try.pinned (OpenSpec.ofChange fnExactCoversOfWrong)

/-- 'laws.FnExactAllLattices': WHATEVER THE INPUT: true; the input reads as it did. -/
def fnExactAllLatticesSpec : ChangeSpec := { name := "fnExactAllLattices", fn := fun _ => fun
  | [d] => { results := [.lit (.bool true)], args := [d] }
  | _ => none }
def fnExactAllLatticesRow : OpenClaim := { program := "ytmfpaagjllaljaa", sum := "287cd3b90d48c706038a486689d102a10c1998e970754c1130c905559cea66ce", func := "loop.example/residuatedtables/laws.FnExactAllLattices", spec := "fnExactAllLattices", unfollowed := true, recurses := true, apart := false }
def FnExactAllLatticesSaid : Prop := fnExactAllLatticesRow.holds Try.pinned (OpenSpec.ofChange fnExactAllLatticesSpec)

/-- ITS FALSE NEIGHBOUR: 'it returns false'. Refute it at one input. -/
def fnExactAllLatticesWrong : ChangeSpec := { name := "fnExactAllLattices", fn := fun _ => fun
  | [d] => { results := [.lit (.bool false)], args := [d] }
  | _ => none }
def FnExactAllLatticesWrongFalsely : Prop := fnExactAllLatticesRow.holds Try.pinned (OpenSpec.ofChange fnExactAllLatticesWrong)

/-- 'laws.FnValidLattice': WHATEVER THE INPUT: true; the input reads as it did. -/
def fnValidLatticeSpec : ChangeSpec := { name := "fnValidLattice", fn := fun _ => fun
  | [d] => { results := [.lit (.bool true)], args := [d] }
  | _ => none }
def fnValidLatticeRow : OpenClaim := { program := "ytmfpaagjllaljaa", sum := "287cd3b90d48c706038a486689d102a10c1998e970754c1130c905559cea66ce", func := "loop.example/residuatedtables/laws.FnValidLattice", spec := "fnValidLattice", unfollowed := true, recurses := true, apart := false }
def FnValidLatticeSaid : Prop := fnValidLatticeRow.holds Try.pinned (OpenSpec.ofChange fnValidLatticeSpec)

/-- ITS FALSE NEIGHBOUR: 'it returns false'. Refute it at one input. -/
def fnValidLatticeWrong : ChangeSpec := { name := "fnValidLattice", fn := fun _ => fun
  | [d] => { results := [.lit (.bool false)], args := [d] }
  | _ => none }
def FnValidLatticeWrongFalsely : Prop := fnValidLatticeRow.holds Try.pinned (OpenSpec.ofChange fnValidLatticeWrong)

/-- 'laws.FnAllLattices': WHATEVER THE INPUT: true; the input reads as it did. -/
def fnAllLatticesSpec : ChangeSpec := { name := "fnAllLattices", fn := fun _ => fun
  | [d] => { results := [.lit (.bool true)], args := [d] }
  | _ => none }
def fnAllLatticesRow : OpenClaim := { program := "ytmfpaagjllaljaa", sum := "287cd3b90d48c706038a486689d102a10c1998e970754c1130c905559cea66ce", func := "loop.example/residuatedtables/laws.FnAllLattices", spec := "fnAllLattices", unfollowed := true, recurses := true, apart := false }
def FnAllLatticesSaid : Prop := fnAllLatticesRow.holds Try.pinned (OpenSpec.ofChange fnAllLatticesSpec)

/-- ITS FALSE NEIGHBOUR: 'it returns false'. Refute it at one input. -/
def fnAllLatticesWrong : ChangeSpec := { name := "fnAllLattices", fn := fun _ => fun
  | [d] => { results := [.lit (.bool false)], args := [d] }
  | _ => none }
def FnAllLatticesWrongFalsely : Prop := fnAllLatticesRow.holds Try.pinned (OpenSpec.ofChange fnAllLatticesWrong)

/-- 'laws.FnIsBelow': WHATEVER THE INPUT: true; the input reads as it did. -/
def fnIsBelowSpec : ChangeSpec := { name := "fnIsBelow", fn := fun _ => fun
  | [d] => { results := [.lit (.bool true)], args := [d] }
  | _ => none }
def fnIsBelowRow : OpenClaim := { program := "ytmfpaagjllaljaa", sum := "287cd3b90d48c706038a486689d102a10c1998e970754c1130c905559cea66ce", func := "loop.example/residuatedtables/laws.FnIsBelow", spec := "fnIsBelow", unfollowed := true, recurses := true, apart := false }
def FnIsBelowSaid : Prop := fnIsBelowRow.holds Try.pinned (OpenSpec.ofChange fnIsBelowSpec)

/-- ITS FALSE NEIGHBOUR: 'it returns false'. Refute it at one input. -/
def fnIsBelowWrong : ChangeSpec := { name := "fnIsBelow", fn := fun _ => fun
  | [d] => { results := [.lit (.bool false)], args := [d] }
  | _ => none }
def FnIsBelowWrongFalsely : Prop := fnIsBelowRow.holds Try.pinned (OpenSpec.ofChange fnIsBelowWrong)

/-- 'laws.FnMeetOf': WHATEVER THE INPUT: true; the input reads as it did. -/
def fnMeetOfSpec : ChangeSpec := { name := "fnMeetOf", fn := fun _ => fun
  | [d] => { results := [.lit (.bool true)], args := [d] }
  | _ => none }
def fnMeetOfRow : OpenClaim := { program := "ytmfpaagjllaljaa", sum := "287cd3b90d48c706038a486689d102a10c1998e970754c1130c905559cea66ce", func := "loop.example/residuatedtables/laws.FnMeetOf", spec := "fnMeetOf", unfollowed := true, recurses := true, apart := false }
def FnMeetOfSaid : Prop := fnMeetOfRow.holds Try.pinned (OpenSpec.ofChange fnMeetOfSpec)

/-- ITS FALSE NEIGHBOUR: 'it returns false'. Refute it at one input. -/
def fnMeetOfWrong : ChangeSpec := { name := "fnMeetOf", fn := fun _ => fun
  | [d] => { results := [.lit (.bool false)], args := [d] }
  | _ => none }
def FnMeetOfWrongFalsely : Prop := fnMeetOfRow.holds Try.pinned (OpenSpec.ofChange fnMeetOfWrong)

/-- 'laws.FnTurnedLattice': WHATEVER THE INPUT: true; the input reads as it did. -/
def fnTurnedLatticeSpec : ChangeSpec := { name := "fnTurnedLattice", fn := fun _ => fun
  | [d] => { results := [.lit (.bool true)], args := [d] }
  | _ => none }
def fnTurnedLatticeRow : OpenClaim := { program := "ytmfpaagjllaljaa", sum := "287cd3b90d48c706038a486689d102a10c1998e970754c1130c905559cea66ce", func := "loop.example/residuatedtables/laws.FnTurnedLattice", spec := "fnTurnedLattice", unfollowed := true, recurses := true, apart := false }
def FnTurnedLatticeSaid : Prop := fnTurnedLatticeRow.holds Try.pinned (OpenSpec.ofChange fnTurnedLatticeSpec)

/-- ITS FALSE NEIGHBOUR: 'it returns false'. Refute it at one input. -/
def fnTurnedLatticeWrong : ChangeSpec := { name := "fnTurnedLattice", fn := fun _ => fun
  | [d] => { results := [.lit (.bool false)], args := [d] }
  | _ => none }
def FnTurnedLatticeWrongFalsely : Prop := fnTurnedLatticeRow.holds Try.pinned (OpenSpec.ofChange fnTurnedLatticeWrong)

/-- 'laws.FnCrossLattices': WHATEVER THE INPUT: true; the input reads as it did. -/
def fnCrossLatticesSpec : ChangeSpec := { name := "fnCrossLattices", fn := fun _ => fun
  | [d] => { results := [.lit (.bool true)], args := [d] }
  | _ => none }
def fnCrossLatticesRow : OpenClaim := { program := "ytmfpaagjllaljaa", sum := "287cd3b90d48c706038a486689d102a10c1998e970754c1130c905559cea66ce", func := "loop.example/residuatedtables/laws.FnCrossLattices", spec := "fnCrossLattices", recurses := true, apart := false }
def FnCrossLatticesSaid : Prop := fnCrossLatticesRow.holds Try.pinned (OpenSpec.ofChange fnCrossLatticesSpec)

/-- ITS FALSE NEIGHBOUR: 'it returns false'. Refute it at one input. -/
def fnCrossLatticesWrong : ChangeSpec := { name := "fnCrossLattices", fn := fun _ => fun
  | [d] => { results := [.lit (.bool false)], args := [d] }
  | _ => none }
def FnCrossLatticesWrongFalsely : Prop := fnCrossLatticesRow.holds Try.pinned (OpenSpec.ofChange fnCrossLatticesWrong)

/-- 'laws.FnJoinOf': WHATEVER THE INPUT: true; the input reads as it did. -/
def fnJoinOfSpec : ChangeSpec := { name := "fnJoinOf", fn := fun _ => fun
  | [d] => { results := [.lit (.bool true)], args := [d] }
  | _ => none }
def fnJoinOfRow : OpenClaim := { program := "ytmfpaagjllaljaa", sum := "287cd3b90d48c706038a486689d102a10c1998e970754c1130c905559cea66ce", func := "loop.example/residuatedtables/laws.FnJoinOf", spec := "fnJoinOf", unfollowed := true, recurses := true, apart := false }
def FnJoinOfSaid : Prop := fnJoinOfRow.holds Try.pinned (OpenSpec.ofChange fnJoinOfSpec)

/-- ITS FALSE NEIGHBOUR: 'it returns false'. Refute it at one input. -/
def fnJoinOfWrong : ChangeSpec := { name := "fnJoinOf", fn := fun _ => fun
  | [d] => { results := [.lit (.bool false)], args := [d] }
  | _ => none }
def FnJoinOfWrongFalsely : Prop := fnJoinOfRow.holds Try.pinned (OpenSpec.ofChange fnJoinOfWrong)

/-- 'laws.FnIsChain': WHATEVER THE INPUT: true; the input reads as it did. -/
def fnIsChainSpec : ChangeSpec := { name := "fnIsChain", fn := fun _ => fun
  | [d] => { results := [.lit (.bool true)], args := [d] }
  | _ => none }
def fnIsChainRow : OpenClaim := { program := "ytmfpaagjllaljaa", sum := "287cd3b90d48c706038a486689d102a10c1998e970754c1130c905559cea66ce", func := "loop.example/residuatedtables/laws.FnIsChain", spec := "fnIsChain", unfollowed := true, recurses := true, apart := false }
def FnIsChainSaid : Prop := fnIsChainRow.holds Try.pinned (OpenSpec.ofChange fnIsChainSpec)

/-- ITS FALSE NEIGHBOUR: 'it returns false'. Refute it at one input. -/
def fnIsChainWrong : ChangeSpec := { name := "fnIsChain", fn := fun _ => fun
  | [d] => { results := [.lit (.bool false)], args := [d] }
  | _ => none }
def FnIsChainWrongFalsely : Prop := fnIsChainRow.holds Try.pinned (OpenSpec.ofChange fnIsChainWrong)

/-- 'laws.FnComplementsOf': WHATEVER THE INPUT: true; the input reads as it did. -/
def fnComplementsOfSpec : ChangeSpec := { name := "fnComplementsOf", fn := fun _ => fun
  | [d] => { results := [.lit (.bool true)], args := [d] }
  | _ => none }
def fnComplementsOfRow : OpenClaim := { program := "ytmfpaagjllaljaa", sum := "287cd3b90d48c706038a486689d102a10c1998e970754c1130c905559cea66ce", func := "loop.example/residuatedtables/laws.FnComplementsOf", spec := "fnComplementsOf", unfollowed := true, recurses := true, apart := false }
def FnComplementsOfSaid : Prop := fnComplementsOfRow.holds Try.pinned (OpenSpec.ofChange fnComplementsOfSpec)

/-- ITS FALSE NEIGHBOUR: 'it returns false'. Refute it at one input. -/
def fnComplementsOfWrong : ChangeSpec := { name := "fnComplementsOf", fn := fun _ => fun
  | [d] => { results := [.lit (.bool false)], args := [d] }
  | _ => none }
def FnComplementsOfWrongFalsely : Prop := fnComplementsOfRow.holds Try.pinned (OpenSpec.ofChange fnComplementsOfWrong)

/-- 'laws.FnCoversOf': WHATEVER THE INPUT: true; the input reads as it did. -/
def fnCoversOfSpec : ChangeSpec := { name := "fnCoversOf", fn := fun _ => fun
  | [d] => { results := [.lit (.bool true)], args := [d] }
  | _ => none }
def fnCoversOfRow : OpenClaim := { program := "ytmfpaagjllaljaa", sum := "287cd3b90d48c706038a486689d102a10c1998e970754c1130c905559cea66ce", func := "loop.example/residuatedtables/laws.FnCoversOf", spec := "fnCoversOf", unfollowed := true, recurses := true, apart := false }
def FnCoversOfSaid : Prop := fnCoversOfRow.holds Try.pinned (OpenSpec.ofChange fnCoversOfSpec)

/-- ITS FALSE NEIGHBOUR: 'it returns false'. Refute it at one input. -/
def fnCoversOfWrong : ChangeSpec := { name := "fnCoversOf", fn := fun _ => fun
  | [d] => { results := [.lit (.bool false)], args := [d] }
  | _ => none }
def FnCoversOfWrongFalsely : Prop := fnCoversOfRow.holds Try.pinned (OpenSpec.ofChange fnCoversOfWrong)

/-- 'laws.FnIsDistributive': WHATEVER THE INPUT: true; the input reads as it did. -/
def fnIsDistributiveSpec : ChangeSpec := { name := "fnIsDistributive", fn := fun _ => fun
  | [d] => { results := [.lit (.bool true)], args := [d] }
  | _ => none }
def fnIsDistributiveRow : OpenClaim := { program := "ytmfpaagjllaljaa", sum := "287cd3b90d48c706038a486689d102a10c1998e970754c1130c905559cea66ce", func := "loop.example/residuatedtables/laws.FnIsDistributive", spec := "fnIsDistributive", unfollowed := true, recurses := true, apart := false }
def FnIsDistributiveSaid : Prop := fnIsDistributiveRow.holds Try.pinned (OpenSpec.ofChange fnIsDistributiveSpec)

/-- ITS FALSE NEIGHBOUR: 'it returns false'. Refute it at one input. -/
def fnIsDistributiveWrong : ChangeSpec := { name := "fnIsDistributive", fn := fun _ => fun
  | [d] => { results := [.lit (.bool false)], args := [d] }
  | _ => none }
def FnIsDistributiveWrongFalsely : Prop := fnIsDistributiveRow.holds Try.pinned (OpenSpec.ofChange fnIsDistributiveWrong)

/- THE SECOND FORM. 'bulk': how many values and letters a reading holds, each counted each time it is reached (what is shared counts as often as it is met; a slice's spare places count too). A statement '..UptoSaid' is the law's where the arguments, and the package variables that the reading takes, are together of bulk at most 1048576: NARROWER than '..Said'. Prove '..Said' where nothing that the law and all that it calls make is longer than what came in: it says more and counts as full. Else prove '..UptoSaid'. A law counts once. -/
mutual
def uptoBulk {H : Type} : DataW H → Nat
  | .lit (.string bytes) => bytes.length + 1
  | .lit _ => 1
  | .nil => 1
  | .ptr d => uptoBulk d + 1
  | .slice elems spare => uptoBulkAll elems + uptoBulkAll spare + 1
  | .agg parts => uptoBulkAll parts + 1
  | .iface _ d => uptoBulk d + 1
  | .map entries => uptoBulkEntries entries + 1
  | .held _ => 1
def uptoBulkAll {H : Type} : List (DataW H) → Nat
  | [] => 0
  | d :: r => uptoBulk d + uptoBulkAll r
def uptoBulkEntries {H : Type} : List (Lit × DataW H) → Nat
  | [] => 0
  | x :: r => uptoBulkEntry x + uptoBulkEntries r
def uptoBulkEntry {H : Type} : Lit × DataW H → Nat
  | (.string bytes, d) => bytes.length + uptoBulk d + 1
  | (_, d) => uptoBulk d + 1
 end
def uptoSmall : (H : Type) → List (DataW H) → Bool := fun _ ds => decide (uptoBulkAll ds ≤ 1048576)
def OpenSpec.upto (s : _root_.Go.ChangeSpec) : _root_.Go.OpenSpec := { _root_.Go.OpenSpec.ofChange s with cond := some uptoSmall }

/-- 'laws.FnExactValidLattice', WHERE WHAT IT READS IS OF BULK AT MOST 1048576: true; the input reads as it did. -/
def fnExactValidLatticeUptoRow : OpenClaim := { program := "ytmfpaagjllaljaa", sum := "287cd3b90d48c706038a486689d102a10c1998e970754c1130c905559cea66ce", func := "loop.example/residuatedtables/laws.FnExactValidLattice", spec := "fnExactValidLattice", apart := false, narrowed := true }
def FnExactValidLatticeUptoSaid : Prop := fnExactValidLatticeUptoRow.holds Try.pinned (OpenSpec.upto fnExactValidLatticeSpec)

/-- 'laws.FnChainOf', WHERE WHAT IT READS IS OF BULK AT MOST 1048576: true; the input reads as it did. -/
def fnChainOfUptoRow : OpenClaim := { program := "ytmfpaagjllaljaa", sum := "287cd3b90d48c706038a486689d102a10c1998e970754c1130c905559cea66ce", func := "loop.example/residuatedtables/laws.FnChainOf", spec := "fnChainOf", unfollowed := true, recurses := true, apart := false, narrowed := true }
def FnChainOfUptoSaid : Prop := fnChainOfUptoRow.holds Try.pinned (OpenSpec.upto fnChainOfSpec)

/-- 'laws.FnExactIsBelow', WHERE WHAT IT READS IS OF BULK AT MOST 1048576: true; the input reads as it did. -/
def fnExactIsBelowUptoRow : OpenClaim := { program := "ytmfpaagjllaljaa", sum := "287cd3b90d48c706038a486689d102a10c1998e970754c1130c905559cea66ce", func := "loop.example/residuatedtables/laws.FnExactIsBelow", spec := "fnExactIsBelow", unfollowed := true, recurses := true, apart := false, narrowed := true }
def FnExactIsBelowUptoSaid : Prop := fnExactIsBelowUptoRow.holds Try.pinned (OpenSpec.upto fnExactIsBelowSpec)

/-- 'laws.FnExactIsChain', WHERE WHAT IT READS IS OF BULK AT MOST 1048576: true; the input reads as it did. -/
def fnExactIsChainUptoRow : OpenClaim := { program := "ytmfpaagjllaljaa", sum := "287cd3b90d48c706038a486689d102a10c1998e970754c1130c905559cea66ce", func := "loop.example/residuatedtables/laws.FnExactIsChain", spec := "fnExactIsChain", apart := false, narrowed := true }
def FnExactIsChainUptoSaid : Prop := fnExactIsChainUptoRow.holds Try.pinned (OpenSpec.upto fnExactIsChainSpec)

/-- 'laws.FnExactJoinOf', WHERE WHAT IT READS IS OF BULK AT MOST 1048576: true; the input reads as it did. -/
def fnExactJoinOfUptoRow : OpenClaim := { program := "ytmfpaagjllaljaa", sum := "287cd3b90d48c706038a486689d102a10c1998e970754c1130c905559cea66ce", func := "loop.example/residuatedtables/laws.FnExactJoinOf", spec := "fnExactJoinOf", unfollowed := true, recurses := true, apart := false, narrowed := true }
def FnExactJoinOfUptoSaid : Prop := fnExactJoinOfUptoRow.holds Try.pinned (OpenSpec.upto fnExactJoinOfSpec)

/-- 'laws.FnExactMeetOf', WHERE WHAT IT READS IS OF BULK AT MOST 1048576: true; the input reads as it did. -/
def fnExactMeetOfUptoRow : OpenClaim := { program := "ytmfpaagjllaljaa", sum := "287cd3b90d48c706038a486689d102a10c1998e970754c1130c905559cea66ce", func := "loop.example/residuatedtables/laws.FnExactMeetOf", spec := "fnExactMeetOf", unfollowed := true, recurses := true, apart := false, narrowed := true }
def FnExactMeetOfUptoSaid : Prop := fnExactMeetOfUptoRow.holds Try.pinned (OpenSpec.upto fnExactMeetOfSpec)

/-- 'laws.FnExactIsDistributive', WHERE WHAT IT READS IS OF BULK AT MOST 1048576: true; the input reads as it did. -/
def fnExactIsDistributiveUptoRow : OpenClaim := { program := "ytmfpaagjllaljaa", sum := "287cd3b90d48c706038a486689d102a10c1998e970754c1130c905559cea66ce", func := "loop.example/residuatedtables/laws.FnExactIsDistributive", spec := "fnExactIsDistributive", apart := false, narrowed := true }
def FnExactIsDistributiveUptoSaid : Prop := fnExactIsDistributiveUptoRow.holds Try.pinned (OpenSpec.upto fnExactIsDistributiveSpec)

/-- 'laws.FnExactTurnedLattice', WHERE WHAT IT READS IS OF BULK AT MOST 1048576: true; the input reads as it did. -/
def fnExactTurnedLatticeUptoRow : OpenClaim := { program := "ytmfpaagjllaljaa", sum := "287cd3b90d48c706038a486689d102a10c1998e970754c1130c905559cea66ce", func := "loop.example/residuatedtables/laws.FnExactTurnedLattice", spec := "fnExactTurnedLattice", apart := false, narrowed := true }
def FnExactTurnedLatticeUptoSaid : Prop := fnExactTurnedLatticeUptoRow.holds Try.pinned (OpenSpec.upto fnExactTurnedLatticeSpec)

/-- 'laws.FnExactCrossLattices', WHERE WHAT IT READS IS OF BULK AT MOST 1048576: true; the input reads as it did. -/
def fnExactCrossLatticesUptoRow : OpenClaim := { program := "ytmfpaagjllaljaa", sum := "287cd3b90d48c706038a486689d102a10c1998e970754c1130c905559cea66ce", func := "loop.example/residuatedtables/laws.FnExactCrossLattices", spec := "fnExactCrossLattices", apart := false, narrowed := true }
def FnExactCrossLatticesUptoSaid : Prop := fnExactCrossLatticesUptoRow.holds Try.pinned (OpenSpec.upto fnExactCrossLatticesSpec)

/-- 'laws.FnExactComplementsOf', WHERE WHAT IT READS IS OF BULK AT MOST 1048576: true; the input reads as it did. -/
def fnExactComplementsOfUptoRow : OpenClaim := { program := "ytmfpaagjllaljaa", sum := "287cd3b90d48c706038a486689d102a10c1998e970754c1130c905559cea66ce", func := "loop.example/residuatedtables/laws.FnExactComplementsOf", spec := "fnExactComplementsOf", unfollowed := true, recurses := true, apart := false, narrowed := true }
def FnExactComplementsOfUptoSaid : Prop := fnExactComplementsOfUptoRow.holds Try.pinned (OpenSpec.upto fnExactComplementsOfSpec)

/-- 'laws.FnExactCoversOf', WHERE WHAT IT READS IS OF BULK AT MOST 1048576: true; the input reads as it did. -/
def fnExactCoversOfUptoRow : OpenClaim := { program := "ytmfpaagjllaljaa", sum := "287cd3b90d48c706038a486689d102a10c1998e970754c1130c905559cea66ce", func := "loop.example/residuatedtables/laws.FnExactCoversOf", spec := "fnExactCoversOf", unfollowed := true, recurses := true, apart := false, narrowed := true }
def FnExactCoversOfUptoSaid : Prop := fnExactCoversOfUptoRow.holds Try.pinned (OpenSpec.upto fnExactCoversOfSpec)

/-- 'laws.FnExactAllLattices', WHERE WHAT IT READS IS OF BULK AT MOST 1048576: true; the input reads as it did. -/
def fnExactAllLatticesUptoRow : OpenClaim := { program := "ytmfpaagjllaljaa", sum := "287cd3b90d48c706038a486689d102a10c1998e970754c1130c905559cea66ce", func := "loop.example/residuatedtables/laws.FnExactAllLattices", spec := "fnExactAllLattices", unfollowed := true, recurses := true, apart := false, narrowed := true }
def FnExactAllLatticesUptoSaid : Prop := fnExactAllLatticesUptoRow.holds Try.pinned (OpenSpec.upto fnExactAllLatticesSpec)

/-- 'laws.FnValidLattice', WHERE WHAT IT READS IS OF BULK AT MOST 1048576: true; the input reads as it did. -/
def fnValidLatticeUptoRow : OpenClaim := { program := "ytmfpaagjllaljaa", sum := "287cd3b90d48c706038a486689d102a10c1998e970754c1130c905559cea66ce", func := "loop.example/residuatedtables/laws.FnValidLattice", spec := "fnValidLattice", unfollowed := true, recurses := true, apart := false, narrowed := true }
def FnValidLatticeUptoSaid : Prop := fnValidLatticeUptoRow.holds Try.pinned (OpenSpec.upto fnValidLatticeSpec)

/-- 'laws.FnAllLattices', WHERE WHAT IT READS IS OF BULK AT MOST 1048576: true; the input reads as it did. -/
def fnAllLatticesUptoRow : OpenClaim := { program := "ytmfpaagjllaljaa", sum := "287cd3b90d48c706038a486689d102a10c1998e970754c1130c905559cea66ce", func := "loop.example/residuatedtables/laws.FnAllLattices", spec := "fnAllLattices", unfollowed := true, recurses := true, apart := false, narrowed := true }
def FnAllLatticesUptoSaid : Prop := fnAllLatticesUptoRow.holds Try.pinned (OpenSpec.upto fnAllLatticesSpec)

/-- 'laws.FnIsBelow', WHERE WHAT IT READS IS OF BULK AT MOST 1048576: true; the input reads as it did. -/
def fnIsBelowUptoRow : OpenClaim := { program := "ytmfpaagjllaljaa", sum := "287cd3b90d48c706038a486689d102a10c1998e970754c1130c905559cea66ce", func := "loop.example/residuatedtables/laws.FnIsBelow", spec := "fnIsBelow", unfollowed := true, recurses := true, apart := false, narrowed := true }
def FnIsBelowUptoSaid : Prop := fnIsBelowUptoRow.holds Try.pinned (OpenSpec.upto fnIsBelowSpec)

/-- 'laws.FnMeetOf', WHERE WHAT IT READS IS OF BULK AT MOST 1048576: true; the input reads as it did. -/
def fnMeetOfUptoRow : OpenClaim := { program := "ytmfpaagjllaljaa", sum := "287cd3b90d48c706038a486689d102a10c1998e970754c1130c905559cea66ce", func := "loop.example/residuatedtables/laws.FnMeetOf", spec := "fnMeetOf", unfollowed := true, recurses := true, apart := false, narrowed := true }
def FnMeetOfUptoSaid : Prop := fnMeetOfUptoRow.holds Try.pinned (OpenSpec.upto fnMeetOfSpec)

/-- 'laws.FnTurnedLattice', WHERE WHAT IT READS IS OF BULK AT MOST 1048576: true; the input reads as it did. -/
def fnTurnedLatticeUptoRow : OpenClaim := { program := "ytmfpaagjllaljaa", sum := "287cd3b90d48c706038a486689d102a10c1998e970754c1130c905559cea66ce", func := "loop.example/residuatedtables/laws.FnTurnedLattice", spec := "fnTurnedLattice", unfollowed := true, recurses := true, apart := false, narrowed := true }
def FnTurnedLatticeUptoSaid : Prop := fnTurnedLatticeUptoRow.holds Try.pinned (OpenSpec.upto fnTurnedLatticeSpec)

/-- 'laws.FnCrossLattices', WHERE WHAT IT READS IS OF BULK AT MOST 1048576: true; the input reads as it did. -/
def fnCrossLatticesUptoRow : OpenClaim := { program := "ytmfpaagjllaljaa", sum := "287cd3b90d48c706038a486689d102a10c1998e970754c1130c905559cea66ce", func := "loop.example/residuatedtables/laws.FnCrossLattices", spec := "fnCrossLattices", recurses := true, apart := false, narrowed := true }
def FnCrossLatticesUptoSaid : Prop := fnCrossLatticesUptoRow.holds Try.pinned (OpenSpec.upto fnCrossLatticesSpec)

/-- 'laws.FnJoinOf', WHERE WHAT IT READS IS OF BULK AT MOST 1048576: true; the input reads as it did. -/
def fnJoinOfUptoRow : OpenClaim := { program := "ytmfpaagjllaljaa", sum := "287cd3b90d48c706038a486689d102a10c1998e970754c1130c905559cea66ce", func := "loop.example/residuatedtables/laws.FnJoinOf", spec := "fnJoinOf", unfollowed := true, recurses := true, apart := false, narrowed := true }
def FnJoinOfUptoSaid : Prop := fnJoinOfUptoRow.holds Try.pinned (OpenSpec.upto fnJoinOfSpec)

/-- 'laws.FnIsChain', WHERE WHAT IT READS IS OF BULK AT MOST 1048576: true; the input reads as it did. -/
def fnIsChainUptoRow : OpenClaim := { program := "ytmfpaagjllaljaa", sum := "287cd3b90d48c706038a486689d102a10c1998e970754c1130c905559cea66ce", func := "loop.example/residuatedtables/laws.FnIsChain", spec := "fnIsChain", unfollowed := true, recurses := true, apart := false, narrowed := true }
def FnIsChainUptoSaid : Prop := fnIsChainUptoRow.holds Try.pinned (OpenSpec.upto fnIsChainSpec)

/-- 'laws.FnComplementsOf', WHERE WHAT IT READS IS OF BULK AT MOST 1048576: true; the input reads as it did. -/
def fnComplementsOfUptoRow : OpenClaim := { program := "ytmfpaagjllaljaa", sum := "287cd3b90d48c706038a486689d102a10c1998e970754c1130c905559cea66ce", func := "loop.example/residuatedtables/laws.FnComplementsOf", spec := "fnComplementsOf", unfollowed := true, recurses := true, apart := false, narrowed := true }
def FnComplementsOfUptoSaid : Prop := fnComplementsOfUptoRow.holds Try.pinned (OpenSpec.upto fnComplementsOfSpec)

/-- 'laws.FnCoversOf', WHERE WHAT IT READS IS OF BULK AT MOST 1048576: true; the input reads as it did. -/
def fnCoversOfUptoRow : OpenClaim := { program := "ytmfpaagjllaljaa", sum := "287cd3b90d48c706038a486689d102a10c1998e970754c1130c905559cea66ce", func := "loop.example/residuatedtables/laws.FnCoversOf", spec := "fnCoversOf", unfollowed := true, recurses := true, apart := false, narrowed := true }
def FnCoversOfUptoSaid : Prop := fnCoversOfUptoRow.holds Try.pinned (OpenSpec.upto fnCoversOfSpec)

/-- 'laws.FnIsDistributive', WHERE WHAT IT READS IS OF BULK AT MOST 1048576: true; the input reads as it did. -/
def fnIsDistributiveUptoRow : OpenClaim := { program := "ytmfpaagjllaljaa", sum := "287cd3b90d48c706038a486689d102a10c1998e970754c1130c905559cea66ce", func := "loop.example/residuatedtables/laws.FnIsDistributive", spec := "fnIsDistributive", unfollowed := true, recurses := true, apart := false, narrowed := true }
def FnIsDistributiveUptoSaid : Prop := fnIsDistributiveUptoRow.holds Try.pinned (OpenSpec.upto fnIsDistributiveSpec)

end Rows
end Go.Proofs.Ytmfpaagjllaljaa
