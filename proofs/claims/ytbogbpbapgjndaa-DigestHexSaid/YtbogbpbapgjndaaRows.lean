/-
  No cell of these rows narrows 'for every input' (looked for: loops, veiled, ifaces, maps, wideKeys, modest, calm, conditions, laid).
  DERIVED. THE GIVEN ROWS OF THIS SEAT. 7 by the template 'for every input the law returns true; each argument reads behind the call as it read before'; 0 by the template 'total and deterministic' (their statements: YtbogbpbapgjndaaTotals.lean).
  GIVEN WITH THE SEED: the statements are not yours to turn. If you find one false, say at which input.
  Laid BY PROGRAM, IN A SANDBOX (cutbox-rows.mjs): the forced cells as the released guide's own fill.sh prints them over the translation d6db66d3ccb8336e… (all of the seat's roots in one cut). By AI agents, Wed Nov 11 2026. No macro, syntax, notation, axiom, sorry.
-/
import Derived.Test.YtbogbpbapgjndaaChecked
import GoSem.Claim
import GoSem.ClaimJoined
import GoSem.ClaimMapViews
import Derived.JoinedTies
import Derived.KernelRfl
namespace Go.Proofs.Ytbogbpbapgjndaa
/- THE CELL 'sum', in the pinned program and in every row, IS THE sha256 OF THE DUMP (.gsa) THAT YtbogbpbapgjndaaProg.lean LOADS. Nothing in Lean hashes anything: it is a label: what it is worth is what the hold of that sum in a sandbox is worth. -/
noncomputable def Try.pinned : Pinned := { name := "ytbogbpbapgjndaa", sum := "d6db66d3ccb8336ea3bf6023ef385452399f7bfa1be53666ccfa6648c2197372", checked := Try.checked }
namespace Rows
def none {H : Type} : Left H := { results := [], args := [] }

/-- 'mapsheetslaw03.DigestValues': WHATEVER THE INPUT: true; the input reads as it did. -/
def digestValuesSpec : ChangeSpec := { name := "digestValues", fn := fun _ => fun
  | [d] => { results := [.lit (.bool true)], args := [d] }
  | _ => none }
def digestValuesRow : OpenClaim := { program := "ytbogbpbapgjndaa", sum := "d6db66d3ccb8336ea3bf6023ef385452399f7bfa1be53666ccfa6648c2197372", func := "mapsheets/mapsheetslaw03.DigestValues", spec := "digestValues", apart := false }
def DigestValuesSaid : Prop := digestValuesRow.holds Try.pinned (OpenSpec.ofChange digestValuesSpec)

/-- ITS FALSE NEIGHBOUR: 'it returns false'. Refute it at one input. -/
def digestValuesWrong : ChangeSpec := { name := "digestValues", fn := fun _ => fun
  | [d] => { results := [.lit (.bool false)], args := [d] }
  | _ => none }
def DigestValuesWrongFalsely : Prop := digestValuesRow.holds Try.pinned (OpenSpec.ofChange digestValuesWrong)

/-- 'mapsheetslaw03.DigestHex': WHATEVER THE INPUT: true; the input reads as it did. -/
def digestHexSpec : ChangeSpec := { name := "digestHex", fn := fun _ => fun
  | [d] => { results := [.lit (.bool true)], args := [d] }
  | _ => none }
def digestHexRow : OpenClaim := { program := "ytbogbpbapgjndaa", sum := "d6db66d3ccb8336ea3bf6023ef385452399f7bfa1be53666ccfa6648c2197372", func := "mapsheets/mapsheetslaw03.DigestHex", spec := "digestHex", apart := false }
def DigestHexSaid : Prop := digestHexRow.holds Try.pinned (OpenSpec.ofChange digestHexSpec)

/-- ITS FALSE NEIGHBOUR: 'it returns false'. Refute it at one input. -/
def digestHexWrong : ChangeSpec := { name := "digestHex", fn := fun _ => fun
  | [d] => { results := [.lit (.bool false)], args := [d] }
  | _ => none }
def DigestHexWrongFalsely : Prop := digestHexRow.holds Try.pinned (OpenSpec.ofChange digestHexWrong)

/-- 'mapsheetslaw03.DigestSeals': WHATEVER THE INPUT: true; the input reads as it did. -/
def digestSealsSpec : ChangeSpec := { name := "digestSeals", fn := fun _ => fun
  | [d] => { results := [.lit (.bool true)], args := [d] }
  | _ => none }
def digestSealsRow : OpenClaim := { program := "ytbogbpbapgjndaa", sum := "d6db66d3ccb8336ea3bf6023ef385452399f7bfa1be53666ccfa6648c2197372", func := "mapsheets/mapsheetslaw03.DigestSeals", spec := "digestSeals", apart := false }
def DigestSealsSaid : Prop := digestSealsRow.holds Try.pinned (OpenSpec.ofChange digestSealsSpec)

/-- ITS FALSE NEIGHBOUR: 'it returns false'. Refute it at one input. -/
def digestSealsWrong : ChangeSpec := { name := "digestSeals", fn := fun _ => fun
  | [d] => { results := [.lit (.bool false)], args := [d] }
  | _ => none }
def DigestSealsWrongFalsely : Prop := digestSealsRow.holds Try.pinned (OpenSpec.ofChange digestSealsWrong)

/-- 'mapsheetslaw03.DigestOpens': WHATEVER THE INPUT: true; the input reads as it did. -/
def digestOpensSpec : ChangeSpec := { name := "digestOpens", fn := fun _ => fun
  | [d] => { results := [.lit (.bool true)], args := [d] }
  | _ => none }
def digestOpensRow : OpenClaim := { program := "ytbogbpbapgjndaa", sum := "d6db66d3ccb8336ea3bf6023ef385452399f7bfa1be53666ccfa6648c2197372", func := "mapsheets/mapsheetslaw03.DigestOpens", spec := "digestOpens", apart := false }
def DigestOpensSaid : Prop := digestOpensRow.holds Try.pinned (OpenSpec.ofChange digestOpensSpec)

/-- ITS FALSE NEIGHBOUR: 'it returns false'. Refute it at one input. -/
def digestOpensWrong : ChangeSpec := { name := "digestOpens", fn := fun _ => fun
  | [d] => { results := [.lit (.bool false)], args := [d] }
  | _ => none }
def DigestOpensWrongFalsely : Prop := digestOpensRow.holds Try.pinned (OpenSpec.ofChange digestOpensWrong)

/-- 'mapsheetslaw03.DigestLinear': WHATEVER THE INPUT: true; the input reads as it did. -/
def digestLinearSpec : ChangeSpec := { name := "digestLinear", fn := fun _ => fun
  | [d1, d2, d3] => { results := [.lit (.bool true)], args := [d1, d2, d3] }
  | _ => none }
def digestLinearRow : OpenClaim := { program := "ytbogbpbapgjndaa", sum := "d6db66d3ccb8336ea3bf6023ef385452399f7bfa1be53666ccfa6648c2197372", func := "mapsheets/mapsheetslaw03.DigestLinear", spec := "digestLinear", apart := false }
def DigestLinearSaid : Prop := digestLinearRow.holds Try.pinned (OpenSpec.ofChange digestLinearSpec)

/-- ITS FALSE NEIGHBOUR: 'it returns false'. Refute it at one input. -/
def digestLinearWrong : ChangeSpec := { name := "digestLinear", fn := fun _ => fun
  | [d1, d2, d3] => { results := [.lit (.bool false)], args := [d1, d2, d3] }
  | _ => none }
def DigestLinearWrongFalsely : Prop := digestLinearRow.holds Try.pinned (OpenSpec.ofChange digestLinearWrong)

/-- 'mapsheetslaw03.DigestDetects': WHATEVER THE INPUT: true; the input reads as it did. -/
def digestDetectsSpec : ChangeSpec := { name := "digestDetects", fn := fun _ => fun
  | [d1, d2, d3] => { results := [.lit (.bool true)], args := [d1, d2, d3] }
  | _ => none }
def digestDetectsRow : OpenClaim := { program := "ytbogbpbapgjndaa", sum := "d6db66d3ccb8336ea3bf6023ef385452399f7bfa1be53666ccfa6648c2197372", func := "mapsheets/mapsheetslaw03.DigestDetects", spec := "digestDetects", apart := false }
def DigestDetectsSaid : Prop := digestDetectsRow.holds Try.pinned (OpenSpec.ofChange digestDetectsSpec)

/-- ITS FALSE NEIGHBOUR: 'it returns false'. Refute it at one input. -/
def digestDetectsWrong : ChangeSpec := { name := "digestDetects", fn := fun _ => fun
  | [d1, d2, d3] => { results := [.lit (.bool false)], args := [d1, d2, d3] }
  | _ => none }
def DigestDetectsWrongFalsely : Prop := digestDetectsRow.holds Try.pinned (OpenSpec.ofChange digestDetectsWrong)

/-- 'mapsheetslaw03.DigestMixes': WHATEVER THE INPUT: true; the input reads as it did. -/
def digestMixesSpec : ChangeSpec := { name := "digestMixes", fn := fun _ => fun
  | [d1, d2, d3] => { results := [.lit (.bool true)], args := [d1, d2, d3] }
  | _ => none }
def digestMixesRow : OpenClaim := { program := "ytbogbpbapgjndaa", sum := "d6db66d3ccb8336ea3bf6023ef385452399f7bfa1be53666ccfa6648c2197372", func := "mapsheets/mapsheetslaw03.DigestMixes", spec := "digestMixes", apart := false }
def DigestMixesSaid : Prop := digestMixesRow.holds Try.pinned (OpenSpec.ofChange digestMixesSpec)

/-- ITS FALSE NEIGHBOUR: 'it returns false'. Refute it at one input. -/
def digestMixesWrong : ChangeSpec := { name := "digestMixes", fn := fun _ => fun
  | [d1, d2, d3] => { results := [.lit (.bool false)], args := [d1, d2, d3] }
  | _ => none }
def DigestMixesWrongFalsely : Prop := digestMixesRow.holds Try.pinned (OpenSpec.ofChange digestMixesWrong)

/- THE SECOND FORM. 'bulk': how many values and letters a reading holds, each counted each time it is reached (what is shared counts as often as it is met; a slice's spare places count too). A statement '..UptoSaid' is the law's where the arguments, and the package variables that the reading takes, are together of bulk at most 1048576: NARROWER than '..Said'. Prove '..Said' where nothing that the law and all that it calls make is longer than what came in: it says more and counts as full. Else prove '..UptoSaid'. A law counts once. -/
mutual
def uptoBulk {H : Type} : DataW H → Nat
  | .lit (.string bytes) => bytes.length + 1
  | .lit _ => 1
  | .nil => 1
  | .ptr d => uptoBulk d + 1
  | .slice elems spare => uptoBulkAll elems + uptoBulkAll spare + 1
  | .agg parts => uptoBulkAll parts + 1
  | .iface _ d => uptoBulk d + 1
  | .map entries => uptoBulkEntries entries + 1
  | .held _ => 1
def uptoBulkAll {H : Type} : List (DataW H) → Nat
  | [] => 0
  | d :: r => uptoBulk d + uptoBulkAll r
def uptoBulkEntries {H : Type} : List (Lit × DataW H) → Nat
  | [] => 0
  | x :: r => uptoBulkEntry x + uptoBulkEntries r
def uptoBulkEntry {H : Type} : Lit × DataW H → Nat
  | (.string bytes, d) => bytes.length + uptoBulk d + 1
  | (_, d) => uptoBulk d + 1
 end
def uptoSmall : (H : Type) → List (DataW H) → Bool := fun _ ds => decide (uptoBulkAll ds ≤ 1048576)
def OpenSpec.upto (s : _root_.Go.ChangeSpec) : _root_.Go.OpenSpec := { _root_.Go.OpenSpec.ofChange s with cond := some uptoSmall }

/-- 'mapsheetslaw03.DigestValues', WHERE WHAT IT READS IS OF BULK AT MOST 1048576: true; the input reads as it did. -/
def digestValuesUptoRow : OpenClaim := { program := "ytbogbpbapgjndaa", sum := "d6db66d3ccb8336ea3bf6023ef385452399f7bfa1be53666ccfa6648c2197372", func := "mapsheets/mapsheetslaw03.DigestValues", spec := "digestValues", apart := false, narrowed := true }
def DigestValuesUptoSaid : Prop := digestValuesUptoRow.holds Try.pinned (OpenSpec.upto digestValuesSpec)

/-- 'mapsheetslaw03.DigestHex', WHERE WHAT IT READS IS OF BULK AT MOST 1048576: true; the input reads as it did. -/
def digestHexUptoRow : OpenClaim := { program := "ytbogbpbapgjndaa", sum := "d6db66d3ccb8336ea3bf6023ef385452399f7bfa1be53666ccfa6648c2197372", func := "mapsheets/mapsheetslaw03.DigestHex", spec := "digestHex", apart := false, narrowed := true }
def DigestHexUptoSaid : Prop := digestHexUptoRow.holds Try.pinned (OpenSpec.upto digestHexSpec)

/-- 'mapsheetslaw03.DigestSeals', WHERE WHAT IT READS IS OF BULK AT MOST 1048576: true; the input reads as it did. -/
def digestSealsUptoRow : OpenClaim := { program := "ytbogbpbapgjndaa", sum := "d6db66d3ccb8336ea3bf6023ef385452399f7bfa1be53666ccfa6648c2197372", func := "mapsheets/mapsheetslaw03.DigestSeals", spec := "digestSeals", apart := false, narrowed := true }
def DigestSealsUptoSaid : Prop := digestSealsUptoRow.holds Try.pinned (OpenSpec.upto digestSealsSpec)

/-- 'mapsheetslaw03.DigestOpens', WHERE WHAT IT READS IS OF BULK AT MOST 1048576: true; the input reads as it did. -/
def digestOpensUptoRow : OpenClaim := { program := "ytbogbpbapgjndaa", sum := "d6db66d3ccb8336ea3bf6023ef385452399f7bfa1be53666ccfa6648c2197372", func := "mapsheets/mapsheetslaw03.DigestOpens", spec := "digestOpens", apart := false, narrowed := true }
def DigestOpensUptoSaid : Prop := digestOpensUptoRow.holds Try.pinned (OpenSpec.upto digestOpensSpec)

/-- 'mapsheetslaw03.DigestLinear', WHERE WHAT IT READS IS OF BULK AT MOST 1048576: true; the input reads as it did. -/
def digestLinearUptoRow : OpenClaim := { program := "ytbogbpbapgjndaa", sum := "d6db66d3ccb8336ea3bf6023ef385452399f7bfa1be53666ccfa6648c2197372", func := "mapsheets/mapsheetslaw03.DigestLinear", spec := "digestLinear", apart := false, narrowed := true }
def DigestLinearUptoSaid : Prop := digestLinearUptoRow.holds Try.pinned (OpenSpec.upto digestLinearSpec)

/-- 'mapsheetslaw03.DigestDetects', WHERE WHAT IT READS IS OF BULK AT MOST 1048576: true; the input reads as it did. -/
def digestDetectsUptoRow : OpenClaim := { program := "ytbogbpbapgjndaa", sum := "d6db66d3ccb8336ea3bf6023ef385452399f7bfa1be53666ccfa6648c2197372", func := "mapsheets/mapsheetslaw03.DigestDetects", spec := "digestDetects", apart := false, narrowed := true }
def DigestDetectsUptoSaid : Prop := digestDetectsUptoRow.holds Try.pinned (OpenSpec.upto digestDetectsSpec)

/-- 'mapsheetslaw03.DigestMixes', WHERE WHAT IT READS IS OF BULK AT MOST 1048576: true; the input reads as it did. -/
def digestMixesUptoRow : OpenClaim := { program := "ytbogbpbapgjndaa", sum := "d6db66d3ccb8336ea3bf6023ef385452399f7bfa1be53666ccfa6648c2197372", func := "mapsheets/mapsheetslaw03.DigestMixes", spec := "digestMixes", apart := false, narrowed := true }
def DigestMixesUptoSaid : Prop := digestMixesUptoRow.holds Try.pinned (OpenSpec.upto digestMixesSpec)

end Rows
end Go.Proofs.Ytbogbpbapgjndaa
