/-
  No cell of these rows narrows 'for every input' (looked for: loops, veiled, ifaces, maps, wideKeys, modest, calm, conditions, laid).
  DERIVED. THE GIVEN ROWS OF THIS SEAT. 8 by the template 'for every input the law returns true; each argument reads behind the call as it read before'; 0 by the template 'total and deterministic' (their statements: YtkmgmiofmegjmaaTotals.lean).
  GIVEN WITH THE SEED: the statements are not yours to turn. If you find one false, say at which input.
  Laid BY PROGRAM, IN A SANDBOX (cutbox-rows.mjs): the forced cells as the released guide's own fill.sh prints them over the translation 1a87edca848e4a65… (all of the seat's roots in one cut). By AI agents, Wed Nov 11 2026. No macro, syntax, notation, axiom, sorry.
-/
import Derived.Test.YtkmgmiofmegjmaaChecked
import GoSem.Claim
import GoSem.ClaimJoined
import GoSem.ClaimMapViews
import Derived.JoinedTies
import Derived.KernelRfl
namespace Go.Proofs.Ytkmgmiofmegjmaa
/- THE CELL 'sum', in the pinned program and in every row, IS THE sha256 OF THE DUMP (.gsa) THAT YtkmgmiofmegjmaaProg.lean LOADS. Nothing in Lean hashes anything: it is a label: what it is worth is what the hold of that sum in a sandbox is worth. -/
noncomputable def Try.pinned : Pinned := { name := "ytkmgmiofmegjmaa", sum := "1a87edca848e4a6558272e1ffc6fa0a27cce8a12719d3d73346c2917807eb74b", checked := Try.checked }
namespace Rows
def none {H : Type} : Left H := { results := [], args := [] }

/-- 'mapsheetslaw02.WireInts': WHATEVER THE INPUT: true; the input reads as it did. -/
def wireIntsSpec : ChangeSpec := { name := "wireInts", fn := fun _ => fun
  | [d1, d2] => { results := [.lit (.bool true)], args := [d1, d2] }
  | _ => none }
def wireIntsRow : OpenClaim := { program := "ytkmgmiofmegjmaa", sum := "1a87edca848e4a6558272e1ffc6fa0a27cce8a12719d3d73346c2917807eb74b", func := "mapsheets/mapsheetslaw02.WireInts", spec := "wireInts", apart := false }
def WireIntsSaid : Prop := wireIntsRow.holds Try.pinned (OpenSpec.ofChange wireIntsSpec)

/-- ITS FALSE NEIGHBOUR: 'it returns false'. Refute it at one input. -/
def wireIntsWrong : ChangeSpec := { name := "wireInts", fn := fun _ => fun
  | [d1, d2] => { results := [.lit (.bool false)], args := [d1, d2] }
  | _ => none }
def WireIntsWrongFalsely : Prop := wireIntsRow.holds Try.pinned (OpenSpec.ofChange wireIntsWrong)

/-- 'mapsheetslaw02.WireTexts': WHATEVER THE INPUT: true; the input reads as it did. -/
def wireTextsSpec : ChangeSpec := { name := "wireTexts", fn := fun _ => fun
  | [d1, d2, d3] => { results := [.lit (.bool true)], args := [d1, d2, d3] }
  | _ => none }
def wireTextsRow : OpenClaim := { program := "ytkmgmiofmegjmaa", sum := "1a87edca848e4a6558272e1ffc6fa0a27cce8a12719d3d73346c2917807eb74b", func := "mapsheets/mapsheetslaw02.WireTexts", spec := "wireTexts", apart := false }
def WireTextsSaid : Prop := wireTextsRow.holds Try.pinned (OpenSpec.ofChange wireTextsSpec)

/-- ITS FALSE NEIGHBOUR: 'it returns false'. Refute it at one input. -/
def wireTextsWrong : ChangeSpec := { name := "wireTexts", fn := fun _ => fun
  | [d1, d2, d3] => { results := [.lit (.bool false)], args := [d1, d2, d3] }
  | _ => none }
def WireTextsWrongFalsely : Prop := wireTextsRow.holds Try.pinned (OpenSpec.ofChange wireTextsWrong)

/-- 'mapsheetslaw02.WireLists': WHATEVER THE INPUT: true; the input reads as it did. -/
def wireListsSpec : ChangeSpec := { name := "wireLists", fn := fun _ => fun
  | [d1, d2, d3] => { results := [.lit (.bool true)], args := [d1, d2, d3] }
  | _ => none }
def wireListsRow : OpenClaim := { program := "ytkmgmiofmegjmaa", sum := "1a87edca848e4a6558272e1ffc6fa0a27cce8a12719d3d73346c2917807eb74b", func := "mapsheets/mapsheetslaw02.WireLists", spec := "wireLists", apart := false }
def WireListsSaid : Prop := wireListsRow.holds Try.pinned (OpenSpec.ofChange wireListsSpec)

/-- ITS FALSE NEIGHBOUR: 'it returns false'. Refute it at one input. -/
def wireListsWrong : ChangeSpec := { name := "wireLists", fn := fun _ => fun
  | [d1, d2, d3] => { results := [.lit (.bool false)], args := [d1, d2, d3] }
  | _ => none }
def WireListsWrongFalsely : Prop := wireListsRow.holds Try.pinned (OpenSpec.ofChange wireListsWrong)

/-- 'mapsheetslaw02.WireSequence': WHATEVER THE INPUT: true; the input reads as it did. -/
def wireSequenceSpec : ChangeSpec := { name := "wireSequence", fn := fun _ => fun
  | [d1, d2] => { results := [.lit (.bool true)], args := [d1, d2] }
  | _ => none }
def wireSequenceRow : OpenClaim := { program := "ytkmgmiofmegjmaa", sum := "1a87edca848e4a6558272e1ffc6fa0a27cce8a12719d3d73346c2917807eb74b", func := "mapsheets/mapsheetslaw02.WireSequence", spec := "wireSequence", apart := false }
def WireSequenceSaid : Prop := wireSequenceRow.holds Try.pinned (OpenSpec.ofChange wireSequenceSpec)

/-- ITS FALSE NEIGHBOUR: 'it returns false'. Refute it at one input. -/
def wireSequenceWrong : ChangeSpec := { name := "wireSequence", fn := fun _ => fun
  | [d1, d2] => { results := [.lit (.bool false)], args := [d1, d2] }
  | _ => none }
def WireSequenceWrongFalsely : Prop := wireSequenceRow.holds Try.pinned (OpenSpec.ofChange wireSequenceWrong)

/-- 'mapsheetslaw02.WireUnique': WHATEVER THE INPUT: true; the input reads as it did. -/
def wireUniqueSpec : ChangeSpec := { name := "wireUnique", fn := fun _ => fun
  | [d1, d2] => { results := [.lit (.bool true)], args := [d1, d2] }
  | _ => none }
def wireUniqueRow : OpenClaim := { program := "ytkmgmiofmegjmaa", sum := "1a87edca848e4a6558272e1ffc6fa0a27cce8a12719d3d73346c2917807eb74b", func := "mapsheets/mapsheetslaw02.WireUnique", spec := "wireUnique", apart := false }
def WireUniqueSaid : Prop := wireUniqueRow.holds Try.pinned (OpenSpec.ofChange wireUniqueSpec)

/-- ITS FALSE NEIGHBOUR: 'it returns false'. Refute it at one input. -/
def wireUniqueWrong : ChangeSpec := { name := "wireUnique", fn := fun _ => fun
  | [d1, d2] => { results := [.lit (.bool false)], args := [d1, d2] }
  | _ => none }
def WireUniqueWrongFalsely : Prop := wireUniqueRow.holds Try.pinned (OpenSpec.ofChange wireUniqueWrong)

/-- 'mapsheetslaw02.WireCut': WHATEVER THE INPUT: true; the input reads as it did. -/
def wireCutSpec : ChangeSpec := { name := "wireCut", fn := fun _ => fun
  | [d1, d2, d3, d4] => { results := [.lit (.bool true)], args := [d1, d2, d3, d4] }
  | _ => none }
def wireCutRow : OpenClaim := { program := "ytkmgmiofmegjmaa", sum := "1a87edca848e4a6558272e1ffc6fa0a27cce8a12719d3d73346c2917807eb74b", func := "mapsheets/mapsheetslaw02.WireCut", spec := "wireCut", apart := false }
def WireCutSaid : Prop := wireCutRow.holds Try.pinned (OpenSpec.ofChange wireCutSpec)

/-- ITS FALSE NEIGHBOUR: 'it returns false'. Refute it at one input. -/
def wireCutWrong : ChangeSpec := { name := "wireCut", fn := fun _ => fun
  | [d1, d2, d3, d4] => { results := [.lit (.bool false)], args := [d1, d2, d3, d4] }
  | _ => none }
def WireCutWrongFalsely : Prop := wireCutRow.holds Try.pinned (OpenSpec.ofChange wireCutWrong)

/-- 'mapsheetslaw02.WireSizes': WHATEVER THE INPUT: true; the input reads as it did. -/
def wireSizesSpec : ChangeSpec := { name := "wireSizes", fn := fun _ => fun
  | [d] => { results := [.lit (.bool true)], args := [d] }
  | _ => none }
def wireSizesRow : OpenClaim := { program := "ytkmgmiofmegjmaa", sum := "1a87edca848e4a6558272e1ffc6fa0a27cce8a12719d3d73346c2917807eb74b", func := "mapsheets/mapsheetslaw02.WireSizes", spec := "wireSizes", apart := false }
def WireSizesSaid : Prop := wireSizesRow.holds Try.pinned (OpenSpec.ofChange wireSizesSpec)

/-- ITS FALSE NEIGHBOUR: 'it returns false'. Refute it at one input. -/
def wireSizesWrong : ChangeSpec := { name := "wireSizes", fn := fun _ => fun
  | [d] => { results := [.lit (.bool false)], args := [d] }
  | _ => none }
def WireSizesWrongFalsely : Prop := wireSizesRow.holds Try.pinned (OpenSpec.ofChange wireSizesWrong)

/-- 'mapsheetslaw02.WireKeeps': WHATEVER THE INPUT: true; the input reads as it did. -/
def wireKeepsSpec : ChangeSpec := { name := "wireKeeps", fn := fun _ => fun
  | [d1, d2, d3, d4, d5] => { results := [.lit (.bool true)], args := [d1, d2, d3, d4, d5] }
  | _ => none }
def wireKeepsRow : OpenClaim := { program := "ytkmgmiofmegjmaa", sum := "1a87edca848e4a6558272e1ffc6fa0a27cce8a12719d3d73346c2917807eb74b", func := "mapsheets/mapsheetslaw02.WireKeeps", spec := "wireKeeps", apart := false }
def WireKeepsSaid : Prop := wireKeepsRow.holds Try.pinned (OpenSpec.ofChange wireKeepsSpec)

/-- ITS FALSE NEIGHBOUR: 'it returns false'. Refute it at one input. -/
def wireKeepsWrong : ChangeSpec := { name := "wireKeeps", fn := fun _ => fun
  | [d1, d2, d3, d4, d5] => { results := [.lit (.bool false)], args := [d1, d2, d3, d4, d5] }
  | _ => none }
def WireKeepsWrongFalsely : Prop := wireKeepsRow.holds Try.pinned (OpenSpec.ofChange wireKeepsWrong)

/- THE SECOND FORM. 'bulk': how many values and letters a reading holds, each counted each time it is reached (what is shared counts as often as it is met; a slice's spare places count too). A statement '..UptoSaid' is the law's where the arguments, and the package variables that the reading takes, are together of bulk at most 1048576: NARROWER than '..Said'. Prove '..Said' where nothing that the law and all that it calls make is longer than what came in: it says more and counts as full. Else prove '..UptoSaid'. A law counts once. -/
mutual
def uptoBulk {H : Type} : DataW H → Nat
  | .lit (.string bytes) => bytes.length + 1
  | .lit _ => 1
  | .nil => 1
  | .ptr d => uptoBulk d + 1
  | .slice elems spare => uptoBulkAll elems + uptoBulkAll spare + 1
  | .agg parts => uptoBulkAll parts + 1
  | .iface _ d => uptoBulk d + 1
  | .map entries => uptoBulkEntries entries + 1
  | .held _ => 1
def uptoBulkAll {H : Type} : List (DataW H) → Nat
  | [] => 0
  | d :: r => uptoBulk d + uptoBulkAll r
def uptoBulkEntries {H : Type} : List (Lit × DataW H) → Nat
  | [] => 0
  | x :: r => uptoBulkEntry x + uptoBulkEntries r
def uptoBulkEntry {H : Type} : Lit × DataW H → Nat
  | (.string bytes, d) => bytes.length + uptoBulk d + 1
  | (_, d) => uptoBulk d + 1
 end
def uptoSmall : (H : Type) → List (DataW H) → Bool := fun _ ds => decide (uptoBulkAll ds ≤ 1048576)
def OpenSpec.upto (s : _root_.Go.ChangeSpec) : _root_.Go.OpenSpec := { _root_.Go.OpenSpec.ofChange s with cond := some uptoSmall }

/-- 'mapsheetslaw02.WireInts', WHERE WHAT IT READS IS OF BULK AT MOST 1048576: true; the input reads as it did. -/
def wireIntsUptoRow : OpenClaim := { program := "ytkmgmiofmegjmaa", sum := "1a87edca848e4a6558272e1ffc6fa0a27cce8a12719d3d73346c2917807eb74b", func := "mapsheets/mapsheetslaw02.WireInts", spec := "wireInts", apart := false, narrowed := true }
def WireIntsUptoSaid : Prop := wireIntsUptoRow.holds Try.pinned (OpenSpec.upto wireIntsSpec)

/-- 'mapsheetslaw02.WireTexts', WHERE WHAT IT READS IS OF BULK AT MOST 1048576: true; the input reads as it did. -/
def wireTextsUptoRow : OpenClaim := { program := "ytkmgmiofmegjmaa", sum := "1a87edca848e4a6558272e1ffc6fa0a27cce8a12719d3d73346c2917807eb74b", func := "mapsheets/mapsheetslaw02.WireTexts", spec := "wireTexts", apart := false, narrowed := true }
def WireTextsUptoSaid : Prop := wireTextsUptoRow.holds Try.pinned (OpenSpec.upto wireTextsSpec)

/-- 'mapsheetslaw02.WireLists', WHERE WHAT IT READS IS OF BULK AT MOST 1048576: true; the input reads as it did. -/
def wireListsUptoRow : OpenClaim := { program := "ytkmgmiofmegjmaa", sum := "1a87edca848e4a6558272e1ffc6fa0a27cce8a12719d3d73346c2917807eb74b", func := "mapsheets/mapsheetslaw02.WireLists", spec := "wireLists", apart := false, narrowed := true }
def WireListsUptoSaid : Prop := wireListsUptoRow.holds Try.pinned (OpenSpec.upto wireListsSpec)

/-- 'mapsheetslaw02.WireSequence', WHERE WHAT IT READS IS OF BULK AT MOST 1048576: true; the input reads as it did. -/
def wireSequenceUptoRow : OpenClaim := { program := "ytkmgmiofmegjmaa", sum := "1a87edca848e4a6558272e1ffc6fa0a27cce8a12719d3d73346c2917807eb74b", func := "mapsheets/mapsheetslaw02.WireSequence", spec := "wireSequence", apart := false, narrowed := true }
def WireSequenceUptoSaid : Prop := wireSequenceUptoRow.holds Try.pinned (OpenSpec.upto wireSequenceSpec)

/-- 'mapsheetslaw02.WireUnique', WHERE WHAT IT READS IS OF BULK AT MOST 1048576: true; the input reads as it did. -/
def wireUniqueUptoRow : OpenClaim := { program := "ytkmgmiofmegjmaa", sum := "1a87edca848e4a6558272e1ffc6fa0a27cce8a12719d3d73346c2917807eb74b", func := "mapsheets/mapsheetslaw02.WireUnique", spec := "wireUnique", apart := false, narrowed := true }
def WireUniqueUptoSaid : Prop := wireUniqueUptoRow.holds Try.pinned (OpenSpec.upto wireUniqueSpec)

/-- 'mapsheetslaw02.WireCut', WHERE WHAT IT READS IS OF BULK AT MOST 1048576: true; the input reads as it did. -/
def wireCutUptoRow : OpenClaim := { program := "ytkmgmiofmegjmaa", sum := "1a87edca848e4a6558272e1ffc6fa0a27cce8a12719d3d73346c2917807eb74b", func := "mapsheets/mapsheetslaw02.WireCut", spec := "wireCut", apart := false, narrowed := true }
def WireCutUptoSaid : Prop := wireCutUptoRow.holds Try.pinned (OpenSpec.upto wireCutSpec)

/-- 'mapsheetslaw02.WireSizes', WHERE WHAT IT READS IS OF BULK AT MOST 1048576: true; the input reads as it did. -/
def wireSizesUptoRow : OpenClaim := { program := "ytkmgmiofmegjmaa", sum := "1a87edca848e4a6558272e1ffc6fa0a27cce8a12719d3d73346c2917807eb74b", func := "mapsheets/mapsheetslaw02.WireSizes", spec := "wireSizes", apart := false, narrowed := true }
def WireSizesUptoSaid : Prop := wireSizesUptoRow.holds Try.pinned (OpenSpec.upto wireSizesSpec)

/-- 'mapsheetslaw02.WireKeeps', WHERE WHAT IT READS IS OF BULK AT MOST 1048576: true; the input reads as it did. -/
def wireKeepsUptoRow : OpenClaim := { program := "ytkmgmiofmegjmaa", sum := "1a87edca848e4a6558272e1ffc6fa0a27cce8a12719d3d73346c2917807eb74b", func := "mapsheets/mapsheetslaw02.WireKeeps", spec := "wireKeeps", apart := false, narrowed := true }
def WireKeepsUptoSaid : Prop := wireKeepsUptoRow.holds Try.pinned (OpenSpec.upto wireKeepsSpec)

end Rows
end Go.Proofs.Ytkmgmiofmegjmaa
