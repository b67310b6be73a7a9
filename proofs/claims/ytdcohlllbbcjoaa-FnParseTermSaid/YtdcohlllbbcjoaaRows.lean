/-
  No cell of these rows narrows 'for every input' (looked for: loops, veiled, ifaces, maps, wideKeys, modest, calm, conditions, laid).
  DERIVED. THE GIVEN ROWS OF THIS SEAT. 5 by the template 'for every input the law returns true; each argument reads behind the call as it read before'; 0 by the template 'total and deterministic' (their statements: YtdcohlllbbcjoaaTotals.lean).
  GIVEN WITH THE SEED: the statements are not yours to turn. If you find one false, say at which input.
  Laid BY PROGRAM, IN A SANDBOX (cutbox-rows.mjs): the forced cells as the released guide's own fill.sh prints them over the translation f8e9d1ddebc59c5a… (all of the seat's roots in one cut). By AI agents, Wed Nov 11 2026. No macro, syntax, notation, axiom, sorry.
-/
import Derived.Test.YtdcohlllbbcjoaaChecked
import GoSem.Claim
import GoSem.ClaimJoined
import GoSem.ClaimMapViews
import Derived.JoinedTies
import Derived.KernelRfl
namespace Go.Proofs.Ytdcohlllbbcjoaa
/- THE CELL 'sum', in the pinned program and in every row, IS THE sha256 OF THE DUMP (.gsa) THAT YtdcohlllbbcjoaaProg.lean LOADS. Nothing in Lean hashes anything: it is a label: what it is worth is what the hold of that sum in a sandbox is worth. -/
noncomputable def Try.pinned : Pinned := { name := "ytdcohlllbbcjoaa", sum := "f8e9d1ddebc59c5a9a5179680f3072e74ae40db164532d28bac090fa7252642d", checked := Try.checked }
namespace Rows
def none {H : Type} : Left H := { results := [], args := [] }

/-- 'laws.FnExactTermText': WHATEVER THE INPUT: true; the input reads as it did. -/
def fnExactTermTextSpec : ChangeSpec := { name := "fnExactTermText", fn := fun _ => fun
  | [d] => { results := [.lit (.bool true)], args := [d] }
  | _ => none }
def fnExactTermTextRow : OpenClaim := { program := "ytdcohlllbbcjoaa", sum := "f8e9d1ddebc59c5a9a5179680f3072e74ae40db164532d28bac090fa7252642d", func := "loop.example/residuatedtables/laws.FnExactTermText", spec := "fnExactTermText", recurses := true, apart := false }
def FnExactTermTextSaid : Prop := fnExactTermTextRow.holds Try.pinned (OpenSpec.ofChange fnExactTermTextSpec)

/-- ITS FALSE NEIGHBOUR: 'it returns false'. Refute it at one input. -/
def fnExactTermTextWrong : ChangeSpec := { name := "fnExactTermText", fn := fun _ => fun
  | [d] => { results := [.lit (.bool false)], args := [d] }
  | _ => none }
def FnExactTermTextWrongFalsely : Prop := fnExactTermTextRow.holds Try.pinned (OpenSpec.ofChange fnExactTermTextWrong)

/-- 'laws.FnValidTerm': WHATEVER THE INPUT: true; the input reads as it did. -/
def fnValidTermSpec : ChangeSpec := { name := "fnValidTerm", fn := fun _ => fun
  | [d] => { results := [.lit (.bool true)], args := [d] }
  | _ => none }
def fnValidTermRow : OpenClaim := { program := "ytdcohlllbbcjoaa", sum := "f8e9d1ddebc59c5a9a5179680f3072e74ae40db164532d28bac090fa7252642d", func := "loop.example/residuatedtables/laws.FnValidTerm", spec := "fnValidTerm", recurses := true, apart := false }
def FnValidTermSaid : Prop := fnValidTermRow.holds Try.pinned (OpenSpec.ofChange fnValidTermSpec)

/-- ITS FALSE NEIGHBOUR: 'it returns false'. Refute it at one input. -/
def fnValidTermWrong : ChangeSpec := { name := "fnValidTerm", fn := fun _ => fun
  | [d] => { results := [.lit (.bool false)], args := [d] }
  | _ => none }
def FnValidTermWrongFalsely : Prop := fnValidTermRow.holds Try.pinned (OpenSpec.ofChange fnValidTermWrong)

/-- 'laws.FnExactParseTerm': WHATEVER THE INPUT: true; the input reads as it did. -/
def fnExactParseTermSpec : ChangeSpec := { name := "fnExactParseTerm", fn := fun _ => fun
  | [d] => { results := [.lit (.bool true)], args := [d] }
  | _ => none }
def fnExactParseTermRow : OpenClaim := { program := "ytdcohlllbbcjoaa", sum := "f8e9d1ddebc59c5a9a5179680f3072e74ae40db164532d28bac090fa7252642d", func := "loop.example/residuatedtables/laws.FnExactParseTerm", spec := "fnExactParseTerm", recurses := true, apart := false }
def FnExactParseTermSaid : Prop := fnExactParseTermRow.holds Try.pinned (OpenSpec.ofChange fnExactParseTermSpec)

/-- ITS FALSE NEIGHBOUR: 'it returns false'. Refute it at one input. -/
def fnExactParseTermWrong : ChangeSpec := { name := "fnExactParseTerm", fn := fun _ => fun
  | [d] => { results := [.lit (.bool false)], args := [d] }
  | _ => none }
def FnExactParseTermWrongFalsely : Prop := fnExactParseTermRow.holds Try.pinned (OpenSpec.ofChange fnExactParseTermWrong)

/-- 'laws.FnTermText': WHATEVER THE INPUT: true; the input reads as it did. -/
def fnTermTextSpec : ChangeSpec := { name := "fnTermText", fn := fun _ => fun
  | [d] => { results := [.lit (.bool true)], args := [d] }
  | _ => none }
def fnTermTextRow : OpenClaim := { program := "ytdcohlllbbcjoaa", sum := "f8e9d1ddebc59c5a9a5179680f3072e74ae40db164532d28bac090fa7252642d", func := "loop.example/residuatedtables/laws.FnTermText", spec := "fnTermText", recurses := true, apart := false }
def FnTermTextSaid : Prop := fnTermTextRow.holds Try.pinned (OpenSpec.ofChange fnTermTextSpec)

/-- ITS FALSE NEIGHBOUR: 'it returns false'. Refute it at one input. -/
def fnTermTextWrong : ChangeSpec := { name := "fnTermText", fn := fun _ => fun
  | [d] => { results := [.lit (.bool false)], args := [d] }
  | _ => none }
def FnTermTextWrongFalsely : Prop := fnTermTextRow.holds Try.pinned (OpenSpec.ofChange fnTermTextWrong)

/-- 'laws.FnParseTerm': WHATEVER THE INPUT: true; the input reads as it did. -/
def fnParseTermSpec : ChangeSpec := { name := "fnParseTerm", fn := fun _ => fun
  | [d] => { results := [.lit (.bool true)], args := [d] }
  | _ => none }
def fnParseTermRow : OpenClaim := { program := "ytdcohlllbbcjoaa", sum := "f8e9d1ddebc59c5a9a5179680f3072e74ae40db164532d28bac090fa7252642d", func := "loop.example/residuatedtables/laws.FnParseTerm", spec := "fnParseTerm", recurses := true, apart := false }
def FnParseTermSaid : Prop := fnParseTermRow.holds Try.pinned (OpenSpec.ofChange fnParseTermSpec)

/-- ITS FALSE NEIGHBOUR: 'it returns false'. Refute it at one input. -/
def fnParseTermWrong : ChangeSpec := { name := "fnParseTerm", fn := fun _ => fun
  | [d] => { results := [.lit (.bool false)], args := [d] }
  | _ => none }
def FnParseTermWrongFalsely : Prop := fnParseTermRow.holds Try.pinned (OpenSpec.ofChange fnParseTermWrong)

/- THE SECOND FORM. 'bulk': how many values and letters a reading holds, each counted each time it is reached (what is shared counts as often as it is met; a slice's spare places count too). A statement '..UptoSaid' is the law's where the arguments, and the package variables that the reading takes, are together of bulk at most 1048576: NARROWER than '..Said'. Prove '..Said' where nothing that the law and all that it calls make is longer than what came in: it says more and counts as full. Else prove '..UptoSaid'. A law counts once. -/
mutual
def uptoBulk {H : Type} : DataW H → Nat
  | .lit (.string bytes) => bytes.length + 1
  | .lit _ => 1
  | .nil => 1
  | .ptr d => uptoBulk d + 1
  | .slice elems spare => uptoBulkAll elems + uptoBulkAll spare + 1
  | .agg parts => uptoBulkAll parts + 1
  | .iface _ d => uptoBulk d + 1
  | .map entries => uptoBulkEntries entries + 1
  | .held _ => 1
def uptoBulkAll {H : Type} : List (DataW H) → Nat
  | [] => 0
  | d :: r => uptoBulk d + uptoBulkAll r
def uptoBulkEntries {H : Type} : List (Lit × DataW H) → Nat
  | [] => 0
  | x :: r => uptoBulkEntry x + uptoBulkEntries r
def uptoBulkEntry {H : Type} : Lit × DataW H → Nat
  | (.string bytes, d) => bytes.length + uptoBulk d + 1
  | (_, d) => uptoBulk d + 1
 end
def uptoSmall : (H : Type) → List (DataW H) → Bool := fun _ ds => decide (uptoBulkAll ds ≤ 1048576)
def OpenSpec.upto (s : _root_.Go.ChangeSpec) : _root_.Go.OpenSpec := { _root_.Go.OpenSpec.ofChange s with cond := some uptoSmall }

/-- 'laws.FnExactTermText', WHERE WHAT IT READS IS OF BULK AT MOST 1048576: true; the input reads as it did. -/
def fnExactTermTextUptoRow : OpenClaim := { program := "ytdcohlllbbcjoaa", sum := "f8e9d1ddebc59c5a9a5179680f3072e74ae40db164532d28bac090fa7252642d", func := "loop.example/residuatedtables/laws.FnExactTermText", spec := "fnExactTermText", recurses := true, apart := false, narrowed := true }
def FnExactTermTextUptoSaid : Prop := fnExactTermTextUptoRow.holds Try.pinned (OpenSpec.upto fnExactTermTextSpec)

/-- 'laws.FnValidTerm', WHERE WHAT IT READS IS OF BULK AT MOST 1048576: true; the input reads as it did. -/
def fnValidTermUptoRow : OpenClaim := { program := "ytdcohlllbbcjoaa", sum := "f8e9d1ddebc59c5a9a5179680f3072e74ae40db164532d28bac090fa7252642d", func := "loop.example/residuatedtables/laws.FnValidTerm", spec := "fnValidTerm", recurses := true, apart := false, narrowed := true }
def FnValidTermUptoSaid : Prop := fnValidTermUptoRow.holds Try.pinned (OpenSpec.upto fnValidTermSpec)

/-- 'laws.FnExactParseTerm', WHERE WHAT IT READS IS OF BULK AT MOST 1048576: true; the input reads as it did. -/
def fnExactParseTermUptoRow : OpenClaim := { program := "ytdcohlllbbcjoaa", sum := "f8e9d1ddebc59c5a9a5179680f3072e74ae40db164532d28bac090fa7252642d", func := "loop.example/residuatedtables/laws.FnExactParseTerm", spec := "fnExactParseTerm", recurses := true, apart := false, narrowed := true }
def FnExactParseTermUptoSaid : Prop := fnExactParseTermUptoRow.holds Try.pinned (OpenSpec.upto fnExactParseTermSpec)

/-- 'laws.FnTermText', WHERE WHAT IT READS IS OF BULK AT MOST 1048576: true; the input reads as it did. -/
def fnTermTextUptoRow : OpenClaim := { program := "ytdcohlllbbcjoaa", sum := "f8e9d1ddebc59c5a9a5179680f3072e74ae40db164532d28bac090fa7252642d", func := "loop.example/residuatedtables/laws.FnTermText", spec := "fnTermText", recurses := true, apart := false, narrowed := true }
def FnTermTextUptoSaid : Prop := fnTermTextUptoRow.holds Try.pinned (OpenSpec.upto fnTermTextSpec)

/-- 'laws.FnParseTerm', WHERE WHAT IT READS IS OF BULK AT MOST 1048576: true; the input reads as it did. -/
def fnParseTermUptoRow : OpenClaim := { program := "ytdcohlllbbcjoaa", sum := "f8e9d1ddebc59c5a9a5179680f3072e74ae40db164532d28bac090fa7252642d", func := "loop.example/residuatedtables/laws.FnParseTerm", spec := "fnParseTerm", recurses := true, apart := false, narrowed := true }
def FnParseTermUptoSaid : Prop := fnParseTermUptoRow.holds Try.pinned (OpenSpec.upto fnParseTermSpec)

end Rows
end Go.Proofs.Ytdcohlllbbcjoaa
