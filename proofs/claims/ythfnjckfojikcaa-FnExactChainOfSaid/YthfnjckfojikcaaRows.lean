/-
  No cell of these rows narrows 'for every input' (looked for: loops, veiled, ifaces, maps, wideKeys, modest, calm, conditions, laid).
  DERIVED. THE GIVEN ROWS OF THIS SEAT. 7 by the template 'for every input the law returns true; each argument reads behind the call as it read before'; 0 by the template 'total and deterministic' (their statements: YthfnjckfojikcaaTotals.lean).
  GIVEN WITH THE SEED: the statements are not yours to turn. If you find one false, say at which input.
  Laid BY PROGRAM, IN A SANDBOX (cutbox-rows.mjs): the forced cells as the released guide's own fill.sh prints them over the translation 704ed5e35142670f… (all of the seat's roots in one cut). By AI agents, Wed Nov 11 2026. No macro, syntax, notation, axiom, sorry.
-/
import Derived.Test.YthfnjckfojikcaaChecked
import GoSem.Claim
import GoSem.ClaimJoined
import GoSem.ClaimMapViews
import Derived.JoinedTies
import Derived.KernelRfl
namespace Go.Proofs.Ythfnjckfojikcaa
/- THE CELL 'sum', in the pinned program and in every row, IS THE sha256 OF THE DUMP (.gsa) THAT YthfnjckfojikcaaProg.lean LOADS. Nothing in Lean hashes anything: it is a label: what it is worth is what the hold of that sum in a sandbox is worth. -/
noncomputable def Try.pinned : Pinned := { name := "ythfnjckfojikcaa", sum := "704ed5e35142670fc5e86975db8d8ca90e85cf8683a6eefc0cb24c6ac5a9bfd2", checked := Try.checked }
namespace Rows
def none {H : Type} : Left H := { results := [], args := [] }

/-- 'laws.FnExactConstants': WHATEVER THE INPUT: true; the input reads as it did. -/
def fnExactConstantsSpec : ChangeSpec := { name := "fnExactConstants", fn := fun _ => fun
  | [] => { results := [.lit (.bool true)], args := [] }
  | _ => none }
def fnExactConstantsRow : OpenClaim := { program := "ythfnjckfojikcaa", sum := "704ed5e35142670fc5e86975db8d8ca90e85cf8683a6eefc0cb24c6ac5a9bfd2", func := "loop.example/residuatedtables/laws.FnExactConstants", spec := "fnExactConstants", apart := false }
def FnExactConstantsSaid : Prop := fnExactConstantsRow.holds Try.pinned (OpenSpec.ofChange fnExactConstantsSpec)

/-- ITS FALSE NEIGHBOUR: 'it returns false'. Refute it at one input. -/
def fnExactConstantsWrong : ChangeSpec := { name := "fnExactConstants", fn := fun _ => fun
  | [] => { results := [.lit (.bool false)], args := [] }
  | _ => none }
def FnExactConstantsWrongFalsely : Prop := fnExactConstantsRow.holds Try.pinned (OpenSpec.ofChange fnExactConstantsWrong)

/-- 'laws.FnExactLawOf': WHATEVER THE INPUT: true; the input reads as it did. -/
def fnExactLawOfSpec : ChangeSpec := { name := "fnExactLawOf", fn := fun _ => fun
  | [d] => { results := [.lit (.bool true)], args := [d] }
  | _ => none }
def fnExactLawOfRow : OpenClaim := { program := "ythfnjckfojikcaa", sum := "704ed5e35142670fc5e86975db8d8ca90e85cf8683a6eefc0cb24c6ac5a9bfd2", func := "loop.example/residuatedtables/laws.FnExactLawOf", spec := "fnExactLawOf", apart := false }
def FnExactLawOfSaid : Prop := fnExactLawOfRow.holds Try.pinned (OpenSpec.ofChange fnExactLawOfSpec)

/-- ITS FALSE NEIGHBOUR: 'it returns false'. Refute it at one input. -/
def fnExactLawOfWrong : ChangeSpec := { name := "fnExactLawOf", fn := fun _ => fun
  | [d] => { results := [.lit (.bool false)], args := [d] }
  | _ => none }
def FnExactLawOfWrongFalsely : Prop := fnExactLawOfRow.holds Try.pinned (OpenSpec.ofChange fnExactLawOfWrong)

/-- 'laws.FnExactValidTerm': WHATEVER THE INPUT: true; the input reads as it did. -/
def fnExactValidTermSpec : ChangeSpec := { name := "fnExactValidTerm", fn := fun _ => fun
  | [d] => { results := [.lit (.bool true)], args := [d] }
  | _ => none }
def fnExactValidTermRow : OpenClaim := { program := "ythfnjckfojikcaa", sum := "704ed5e35142670fc5e86975db8d8ca90e85cf8683a6eefc0cb24c6ac5a9bfd2", func := "loop.example/residuatedtables/laws.FnExactValidTerm", spec := "fnExactValidTerm", recurses := true, apart := false }
def FnExactValidTermSaid : Prop := fnExactValidTermRow.holds Try.pinned (OpenSpec.ofChange fnExactValidTermSpec)

/-- ITS FALSE NEIGHBOUR: 'it returns false'. Refute it at one input. -/
def fnExactValidTermWrong : ChangeSpec := { name := "fnExactValidTerm", fn := fun _ => fun
  | [d] => { results := [.lit (.bool false)], args := [d] }
  | _ => none }
def FnExactValidTermWrongFalsely : Prop := fnExactValidTermRow.holds Try.pinned (OpenSpec.ofChange fnExactValidTermWrong)

/-- 'laws.FnExactChainOf': WHATEVER THE INPUT: true; the input reads as it did. -/
def fnExactChainOfSpec : ChangeSpec := { name := "fnExactChainOf", fn := fun _ => fun
  | [d] => { results := [.lit (.bool true)], args := [d] }
  | _ => none }
def fnExactChainOfRow : OpenClaim := { program := "ythfnjckfojikcaa", sum := "704ed5e35142670fc5e86975db8d8ca90e85cf8683a6eefc0cb24c6ac5a9bfd2", func := "loop.example/residuatedtables/laws.FnExactChainOf", spec := "fnExactChainOf", apart := false }
def FnExactChainOfSaid : Prop := fnExactChainOfRow.holds Try.pinned (OpenSpec.ofChange fnExactChainOfSpec)

/-- ITS FALSE NEIGHBOUR: 'it returns false'. Refute it at one input. -/
def fnExactChainOfWrong : ChangeSpec := { name := "fnExactChainOf", fn := fun _ => fun
  | [d] => { results := [.lit (.bool false)], args := [d] }
  | _ => none }
def FnExactChainOfWrongFalsely : Prop := fnExactChainOfRow.holds Try.pinned (OpenSpec.ofChange fnExactChainOfWrong)

/-- 'laws.FnExactTermText': WHATEVER THE INPUT: true; the input reads as it did. -/
def fnExactTermTextSpec : ChangeSpec := { name := "fnExactTermText", fn := fun _ => fun
  | [d] => { results := [.lit (.bool true)], args := [d] }
  | _ => none }
def fnExactTermTextRow : OpenClaim := { program := "ythfnjckfojikcaa", sum := "704ed5e35142670fc5e86975db8d8ca90e85cf8683a6eefc0cb24c6ac5a9bfd2", func := "loop.example/residuatedtables/laws.FnExactTermText", spec := "fnExactTermText", recurses := true, apart := false }
def FnExactTermTextSaid : Prop := fnExactTermTextRow.holds Try.pinned (OpenSpec.ofChange fnExactTermTextSpec)

/-- ITS FALSE NEIGHBOUR: 'it returns false'. Refute it at one input. -/
def fnExactTermTextWrong : ChangeSpec := { name := "fnExactTermText", fn := fun _ => fun
  | [d] => { results := [.lit (.bool false)], args := [d] }
  | _ => none }
def FnExactTermTextWrongFalsely : Prop := fnExactTermTextRow.holds Try.pinned (OpenSpec.ofChange fnExactTermTextWrong)

/-- 'laws.FnValidTerm': WHATEVER THE INPUT: true; the input reads as it did. -/
def fnValidTermSpec : ChangeSpec := { name := "fnValidTerm", fn := fun _ => fun
  | [d] => { results := [.lit (.bool true)], args := [d] }
  | _ => none }
def fnValidTermRow : OpenClaim := { program := "ythfnjckfojikcaa", sum := "704ed5e35142670fc5e86975db8d8ca90e85cf8683a6eefc0cb24c6ac5a9bfd2", func := "loop.example/residuatedtables/laws.FnValidTerm", spec := "fnValidTerm", recurses := true, apart := false }
def FnValidTermSaid : Prop := fnValidTermRow.holds Try.pinned (OpenSpec.ofChange fnValidTermSpec)

/-- ITS FALSE NEIGHBOUR: 'it returns false'. Refute it at one input. -/
def fnValidTermWrong : ChangeSpec := { name := "fnValidTerm", fn := fun _ => fun
  | [d] => { results := [.lit (.bool false)], args := [d] }
  | _ => none }
def FnValidTermWrongFalsely : Prop := fnValidTermRow.holds Try.pinned (OpenSpec.ofChange fnValidTermWrong)

/-- 'laws.FnExactSumChain': WHATEVER THE INPUT: true; the input reads as it did. -/
def fnExactSumChainSpec : ChangeSpec := { name := "fnExactSumChain", fn := fun _ => fun
  | [d] => { results := [.lit (.bool true)], args := [d] }
  | _ => none }
def fnExactSumChainRow : OpenClaim := { program := "ythfnjckfojikcaa", sum := "704ed5e35142670fc5e86975db8d8ca90e85cf8683a6eefc0cb24c6ac5a9bfd2", func := "loop.example/residuatedtables/laws.FnExactSumChain", spec := "fnExactSumChain", unfollowed := true, recurses := true, apart := false }
def FnExactSumChainSaid : Prop := fnExactSumChainRow.holds Try.pinned (OpenSpec.ofChange fnExactSumChainSpec)

/-- ITS FALSE NEIGHBOUR: 'it returns false'. Refute it at one input. -/
def fnExactSumChainWrong : ChangeSpec := { name := "fnExactSumChain", fn := fun _ => fun
  | [d] => { results := [.lit (.bool false)], args := [d] }
  | _ => none }
def FnExactSumChainWrongFalsely : Prop := fnExactSumChainRow.holds Try.pinned (OpenSpec.ofChange fnExactSumChainWrong)

/- THE SECOND FORM. 'bulk': how many values and letters a reading holds, each counted each time it is reached (what is shared counts as often as it is met; a slice's spare places count too). A statement '..UptoSaid' is the law's where the arguments, and the package variables that the reading takes, are together of bulk at most 1048576: NARROWER than '..Said'. Prove '..Said' where nothing that the law and all that it calls make is longer than what came in: it says more and counts as full. Else prove '..UptoSaid'. A law counts once. -/
mutual
def uptoBulk {H : Type} : DataW H → Nat
  | .lit (.string bytes) => bytes.length + 1
  | .lit _ => 1
  | .nil => 1
  | .ptr d => uptoBulk d + 1
  | .slice elems spare => uptoBulkAll elems + uptoBulkAll spare + 1
  | .agg parts => uptoBulkAll parts + 1
  | .iface _ d => uptoBulk d + 1
  | .map entries => uptoBulkEntries entries + 1
  | .held _ => 1
def uptoBulkAll {H : Type} : List (DataW H) → Nat
  | [] => 0
  | d :: r => uptoBulk d + uptoBulkAll r
def uptoBulkEntries {H : Type} : List (Lit × DataW H) → Nat
  | [] => 0
  | x :: r => uptoBulkEntry x + uptoBulkEntries r
def uptoBulkEntry {H : Type} : Lit × DataW H → Nat
  | (.string bytes, d) => bytes.length + uptoBulk d + 1
  | (_, d) => uptoBulk d + 1
 end
def uptoSmall : (H : Type) → List (DataW H) → Bool := fun _ ds => decide (uptoBulkAll ds ≤ 1048576)
def OpenSpec.upto (s : _root_.Go.ChangeSpec) : _root_.Go.OpenSpec := { _root_.Go.OpenSpec.ofChange s with cond := some uptoSmall }

/-- 'laws.FnExactConstants', WHERE WHAT IT READS IS OF BULK AT MOST 1048576: true; the input reads as it did. -/
def fnExactConstantsUptoRow : OpenClaim := { program := "ythfnjckfojikcaa", sum := "704ed5e35142670fc5e86975db8d8ca90e85cf8683a6eefc0cb24c6ac5a9bfd2", func := "loop.example/residuatedtables/laws.FnExactConstants", spec := "fnExactConstants", apart := false, narrowed := true }
def FnExactConstantsUptoSaid : Prop := fnExactConstantsUptoRow.holds Try.pinned (OpenSpec.upto fnExactConstantsSpec)

/-- 'laws.FnExactLawOf', WHERE WHAT IT READS IS OF BULK AT MOST 1048576: true; the input reads as it did. -/
def fnExactLawOfUptoRow : OpenClaim := { program := "ythfnjckfojikcaa", sum := "704ed5e35142670fc5e86975db8d8ca90e85cf8683a6eefc0cb24c6ac5a9bfd2", func := "loop.example/residuatedtables/laws.FnExactLawOf", spec := "fnExactLawOf", apart := false, narrowed := true }
def FnExactLawOfUptoSaid : Prop := fnExactLawOfUptoRow.holds Try.pinned (OpenSpec.upto fnExactLawOfSpec)

/-- 'laws.FnExactValidTerm', WHERE WHAT IT READS IS OF BULK AT MOST 1048576: true; the input reads as it did. -/
def fnExactValidTermUptoRow : OpenClaim := { program := "ythfnjckfojikcaa", sum := "704ed5e35142670fc5e86975db8d8ca90e85cf8683a6eefc0cb24c6ac5a9bfd2", func := "loop.example/residuatedtables/laws.FnExactValidTerm", spec := "fnExactValidTerm", recurses := true, apart := false, narrowed := true }
def FnExactValidTermUptoSaid : Prop := fnExactValidTermUptoRow.holds Try.pinned (OpenSpec.upto fnExactValidTermSpec)

/-- 'laws.FnExactChainOf', WHERE WHAT IT READS IS OF BULK AT MOST 1048576: true; the input reads as it did. -/
def fnExactChainOfUptoRow : OpenClaim := { program := "ythfnjckfojikcaa", sum := "704ed5e35142670fc5e86975db8d8ca90e85cf8683a6eefc0cb24c6ac5a9bfd2", func := "loop.example/residuatedtables/laws.FnExactChainOf", spec := "fnExactChainOf", apart := false, narrowed := true }
def FnExactChainOfUptoSaid : Prop := fnExactChainOfUptoRow.holds Try.pinned (OpenSpec.upto fnExactChainOfSpec)

/-- 'laws.FnExactTermText', WHERE WHAT IT READS IS OF BULK AT MOST 1048576: true; the input reads as it did. -/
def fnExactTermTextUptoRow : OpenClaim := { program := "ythfnjckfojikcaa", sum := "704ed5e35142670fc5e86975db8d8ca90e85cf8683a6eefc0cb24c6ac5a9bfd2", func := "loop.example/residuatedtables/laws.FnExactTermText", spec := "fnExactTermText", recurses := true, apart := false, narrowed := true }
def FnExactTermTextUptoSaid : Prop := fnExactTermTextUptoRow.holds Try.pinned (OpenSpec.upto fnExactTermTextSpec)

/-- 'laws.FnValidTerm', WHERE WHAT IT READS IS OF BULK AT MOST 1048576: true; the input reads as it did. -/
def fnValidTermUptoRow : OpenClaim := { program := "ythfnjckfojikcaa", sum := "704ed5e35142670fc5e86975db8d8ca90e85cf8683a6eefc0cb24c6ac5a9bfd2", func := "loop.example/residuatedtables/laws.FnValidTerm", spec := "fnValidTerm", recurses := true, apart := false, narrowed := true }
def FnValidTermUptoSaid : Prop := fnValidTermUptoRow.holds Try.pinned (OpenSpec.upto fnValidTermSpec)

/-- 'laws.FnExactSumChain', WHERE WHAT IT READS IS OF BULK AT MOST 1048576: true; the input reads as it did. -/
def fnExactSumChainUptoRow : OpenClaim := { program := "ythfnjckfojikcaa", sum := "704ed5e35142670fc5e86975db8d8ca90e85cf8683a6eefc0cb24c6ac5a9bfd2", func := "loop.example/residuatedtables/laws.FnExactSumChain", spec := "fnExactSumChain", unfollowed := true, recurses := true, apart := false, narrowed := true }
def FnExactSumChainUptoSaid : Prop := fnExactSumChainUptoRow.holds Try.pinned (OpenSpec.upto fnExactSumChainSpec)

end Rows
end Go.Proofs.Ythfnjckfojikcaa
