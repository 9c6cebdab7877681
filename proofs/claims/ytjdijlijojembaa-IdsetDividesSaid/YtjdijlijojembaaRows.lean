/-
  No cell of these rows narrows 'for every input' (looked for: loops, veiled, ifaces, maps, wideKeys, modest, calm, conditions, laid).
  DERIVED. THE GIVEN ROWS OF THIS SEAT. 6 by the template 'for every input the law returns true; each argument reads behind the call as it read before'; 0 by the template 'total and deterministic' (their statements: YtjdijlijojembaaTotals.lean).
  GIVEN WITH THE SEED: the statements are not yours to turn. If you find one false, say at which input.
  Laid BY PROGRAM, IN A SANDBOX (cutbox-rows.mjs): the forced cells as the released guide's own fill.sh prints them over the translation 78cd1cd3129f6737… (all of the seat's roots in one cut). By AI agents, Wed Nov 11 2026. No macro, syntax, notation, axiom, sorry.
-/
import Derived.Test.YtjdijlijojembaaChecked
import GoSem.Claim
import GoSem.ClaimJoined
import GoSem.ClaimMapViews
import Derived.JoinedTies
import Derived.KernelRfl
namespace Go.Proofs.Ytjdijlijojembaa
/- THE CELL 'sum', in the pinned program and in every row, IS THE sha256 OF THE DUMP (.gsa) THAT YtjdijlijojembaaProg.lean LOADS. Nothing in Lean hashes anything: it is a label: what it is worth is what the hold of that sum in a sandbox is worth. -/
noncomputable def Try.pinned : Pinned := { name := "ytjdijlijojembaa", sum := "78cd1cd3129f67371eb1d931c5efaeab0cda56492abb7eaf942988380c89e673", checked := Try.checked }
namespace Rows
def none {H : Type} : Left H := { results := [], args := [] }

/-- 'mapsheetslaw04.IdsetValid': WHATEVER THE INPUT: true; the input reads as it did. -/
def idsetValidSpec : ChangeSpec := { name := "idsetValid", fn := fun _ => fun
  | [d1, d2] => { results := [.lit (.bool true)], args := [d1, d2] }
  | _ => none }
def idsetValidRow : OpenClaim := { program := "ytjdijlijojembaa", sum := "78cd1cd3129f67371eb1d931c5efaeab0cda56492abb7eaf942988380c89e673", func := "mapsheets/mapsheetslaw04.IdsetValid", spec := "idsetValid", unfollowed := true, recurses := true, apart := false }
def IdsetValidSaid : Prop := idsetValidRow.holds Try.pinned (OpenSpec.ofChange idsetValidSpec)

/-- ITS FALSE NEIGHBOUR: 'it returns false'. Refute it at one input. -/
def idsetValidWrong : ChangeSpec := { name := "idsetValid", fn := fun _ => fun
  | [d1, d2] => { results := [.lit (.bool false)], args := [d1, d2] }
  | _ => none }
def IdsetValidWrongFalsely : Prop := idsetValidRow.holds Try.pinned (OpenSpec.ofChange idsetValidWrong)

/-- 'mapsheetslaw04.IdsetNormal': WHATEVER THE INPUT: true; the input reads as it did. -/
def idsetNormalSpec : ChangeSpec := { name := "idsetNormal", fn := fun _ => fun
  | [d] => { results := [.lit (.bool true)], args := [d] }
  | _ => none }
def idsetNormalRow : OpenClaim := { program := "ytjdijlijojembaa", sum := "78cd1cd3129f67371eb1d931c5efaeab0cda56492abb7eaf942988380c89e673", func := "mapsheets/mapsheetslaw04.IdsetNormal", spec := "idsetNormal", unfollowed := true, recurses := true, apart := false }
def IdsetNormalSaid : Prop := idsetNormalRow.holds Try.pinned (OpenSpec.ofChange idsetNormalSpec)

/-- ITS FALSE NEIGHBOUR: 'it returns false'. Refute it at one input. -/
def idsetNormalWrong : ChangeSpec := { name := "idsetNormal", fn := fun _ => fun
  | [d] => { results := [.lit (.bool false)], args := [d] }
  | _ => none }
def IdsetNormalWrongFalsely : Prop := idsetNormalRow.holds Try.pinned (OpenSpec.ofChange idsetNormalWrong)

/-- 'mapsheetslaw04.IdsetCombines': WHATEVER THE INPUT: true; the input reads as it did. -/
def idsetCombinesSpec : ChangeSpec := { name := "idsetCombines", fn := fun _ => fun
  | [d1, d2] => { results := [.lit (.bool true)], args := [d1, d2] }
  | _ => none }
def idsetCombinesRow : OpenClaim := { program := "ytjdijlijojembaa", sum := "78cd1cd3129f67371eb1d931c5efaeab0cda56492abb7eaf942988380c89e673", func := "mapsheets/mapsheetslaw04.IdsetCombines", spec := "idsetCombines", unfollowed := true, recurses := true, apart := false }
def IdsetCombinesSaid : Prop := idsetCombinesRow.holds Try.pinned (OpenSpec.ofChange idsetCombinesSpec)

/-- ITS FALSE NEIGHBOUR: 'it returns false'. Refute it at one input. -/
def idsetCombinesWrong : ChangeSpec := { name := "idsetCombines", fn := fun _ => fun
  | [d1, d2] => { results := [.lit (.bool false)], args := [d1, d2] }
  | _ => none }
def IdsetCombinesWrongFalsely : Prop := idsetCombinesRow.holds Try.pinned (OpenSpec.ofChange idsetCombinesWrong)

/-- 'mapsheetslaw04.IdsetMembers': WHATEVER THE INPUT: true; the input reads as it did. -/
def idsetMembersSpec : ChangeSpec := { name := "idsetMembers", fn := fun _ => fun
  | [d1, d2, d3] => { results := [.lit (.bool true)], args := [d1, d2, d3] }
  | _ => none }
def idsetMembersRow : OpenClaim := { program := "ytjdijlijojembaa", sum := "78cd1cd3129f67371eb1d931c5efaeab0cda56492abb7eaf942988380c89e673", func := "mapsheets/mapsheetslaw04.IdsetMembers", spec := "idsetMembers", unfollowed := true, recurses := true, apart := false }
def IdsetMembersSaid : Prop := idsetMembersRow.holds Try.pinned (OpenSpec.ofChange idsetMembersSpec)

/-- ITS FALSE NEIGHBOUR: 'it returns false'. Refute it at one input. -/
def idsetMembersWrong : ChangeSpec := { name := "idsetMembers", fn := fun _ => fun
  | [d1, d2, d3] => { results := [.lit (.bool false)], args := [d1, d2, d3] }
  | _ => none }
def IdsetMembersWrongFalsely : Prop := idsetMembersRow.holds Try.pinned (OpenSpec.ofChange idsetMembersWrong)

/-- 'mapsheetslaw04.IdsetAlgebra': WHATEVER THE INPUT: true; the input reads as it did. -/
def idsetAlgebraSpec : ChangeSpec := { name := "idsetAlgebra", fn := fun _ => fun
  | [d1, d2, d3] => { results := [.lit (.bool true)], args := [d1, d2, d3] }
  | _ => none }
def idsetAlgebraRow : OpenClaim := { program := "ytjdijlijojembaa", sum := "78cd1cd3129f67371eb1d931c5efaeab0cda56492abb7eaf942988380c89e673", func := "mapsheets/mapsheetslaw04.IdsetAlgebra", spec := "idsetAlgebra", unfollowed := true, recurses := true, apart := false }
def IdsetAlgebraSaid : Prop := idsetAlgebraRow.holds Try.pinned (OpenSpec.ofChange idsetAlgebraSpec)

/-- ITS FALSE NEIGHBOUR: 'it returns false'. Refute it at one input. -/
def idsetAlgebraWrong : ChangeSpec := { name := "idsetAlgebra", fn := fun _ => fun
  | [d1, d2, d3] => { results := [.lit (.bool false)], args := [d1, d2, d3] }
  | _ => none }
def IdsetAlgebraWrongFalsely : Prop := idsetAlgebraRow.holds Try.pinned (OpenSpec.ofChange idsetAlgebraWrong)

/-- 'mapsheetslaw04.IdsetDivides': WHATEVER THE INPUT: true; the input reads as it did. -/
def idsetDividesSpec : ChangeSpec := { name := "idsetDivides", fn := fun _ => fun
  | [d1, d2] => { results := [.lit (.bool true)], args := [d1, d2] }
  | _ => none }
def idsetDividesRow : OpenClaim := { program := "ytjdijlijojembaa", sum := "78cd1cd3129f67371eb1d931c5efaeab0cda56492abb7eaf942988380c89e673", func := "mapsheets/mapsheetslaw04.IdsetDivides", spec := "idsetDivides", unfollowed := true, recurses := true, apart := false }
def IdsetDividesSaid : Prop := idsetDividesRow.holds Try.pinned (OpenSpec.ofChange idsetDividesSpec)

/-- ITS FALSE NEIGHBOUR: 'it returns false'. Refute it at one input. -/
def idsetDividesWrong : ChangeSpec := { name := "idsetDivides", fn := fun _ => fun
  | [d1, d2] => { results := [.lit (.bool false)], args := [d1, d2] }
  | _ => none }
def IdsetDividesWrongFalsely : Prop := idsetDividesRow.holds Try.pinned (OpenSpec.ofChange idsetDividesWrong)

/- THE SECOND FORM. 'bulk': how many values and letters a reading holds, each counted each time it is reached (what is shared counts as often as it is met; a slice's spare places count too). A statement '..UptoSaid' is the law's where the arguments, and the package variables that the reading takes, are together of bulk at most 1048576: NARROWER than '..Said'. Prove '..Said' where nothing that the law and all that it calls make is longer than what came in: it says more and counts as full. Else prove '..UptoSaid'. A law counts once. -/
mutual
def uptoBulk {H : Type} : DataW H → Nat
  | .lit (.string bytes) => bytes.length + 1
  | .lit _ => 1
  | .nil => 1
  | .ptr d => uptoBulk d + 1
  | .slice elems spare => uptoBulkAll elems + uptoBulkAll spare + 1
  | .agg parts => uptoBulkAll parts + 1
  | .iface _ d => uptoBulk d + 1
  | .map entries => uptoBulkEntries entries + 1
  | .held _ => 1
def uptoBulkAll {H : Type} : List (DataW H) → Nat
  | [] => 0
  | d :: r => uptoBulk d + uptoBulkAll r
def uptoBulkEntries {H : Type} : List (Lit × DataW H) → Nat
  | [] => 0
  | x :: r => uptoBulkEntry x + uptoBulkEntries r
def uptoBulkEntry {H : Type} : Lit × DataW H → Nat
  | (.string bytes, d) => bytes.length + uptoBulk d + 1
  | (_, d) => uptoBulk d + 1
 end
def uptoSmall : (H : Type) → List (DataW H) → Bool := fun _ ds => decide (uptoBulkAll ds ≤ 1048576)
def OpenSpec.upto (s : _root_.Go.ChangeSpec) : _root_.Go.OpenSpec := { _root_.Go.OpenSpec.ofChange s with cond := some uptoSmall }

/-- 'mapsheetslaw04.IdsetValid', WHERE WHAT IT READS IS OF BULK AT MOST 1048576: true; the input reads as it did. -/
def idsetValidUptoRow : OpenClaim := { program := "ytjdijlijojembaa", sum := "78cd1cd3129f67371eb1d931c5efaeab0cda56492abb7eaf942988380c89e673", func := "mapsheets/mapsheetslaw04.IdsetValid", spec := "idsetValid", unfollowed := true, recurses := true, apart := false, narrowed := true }
def IdsetValidUptoSaid : Prop := idsetValidUptoRow.holds Try.pinned (OpenSpec.upto idsetValidSpec)

/-- 'mapsheetslaw04.IdsetNormal', WHERE WHAT IT READS IS OF BULK AT MOST 1048576: true; the input reads as it did. -/
def idsetNormalUptoRow : OpenClaim := { program := "ytjdijlijojembaa", sum := "78cd1cd3129f67371eb1d931c5efaeab0cda56492abb7eaf942988380c89e673", func := "mapsheets/mapsheetslaw04.IdsetNormal", spec := "idsetNormal", unfollowed := true, recurses := true, apart := false, narrowed := true }
def IdsetNormalUptoSaid : Prop := idsetNormalUptoRow.holds Try.pinned (OpenSpec.upto idsetNormalSpec)

/-- 'mapsheetslaw04.IdsetCombines', WHERE WHAT IT READS IS OF BULK AT MOST 1048576: true; the input reads as it did. -/
def idsetCombinesUptoRow : OpenClaim := { program := "ytjdijlijojembaa", sum := "78cd1cd3129f67371eb1d931c5efaeab0cda56492abb7eaf942988380c89e673", func := "mapsheets/mapsheetslaw04.IdsetCombines", spec := "idsetCombines", unfollowed := true, recurses := true, apart := false, narrowed := true }
def IdsetCombinesUptoSaid : Prop := idsetCombinesUptoRow.holds Try.pinned (OpenSpec.upto idsetCombinesSpec)

/-- 'mapsheetslaw04.IdsetMembers', WHERE WHAT IT READS IS OF BULK AT MOST 1048576: true; the input reads as it did. -/
def idsetMembersUptoRow : OpenClaim := { program := "ytjdijlijojembaa", sum := "78cd1cd3129f67371eb1d931c5efaeab0cda56492abb7eaf942988380c89e673", func := "mapsheets/mapsheetslaw04.IdsetMembers", spec := "idsetMembers", unfollowed := true, recurses := true, apart := false, narrowed := true }
def IdsetMembersUptoSaid : Prop := idsetMembersUptoRow.holds Try.pinned (OpenSpec.upto idsetMembersSpec)

/-- 'mapsheetslaw04.IdsetAlgebra', WHERE WHAT IT READS IS OF BULK AT MOST 1048576: true; the input reads as it did. -/
def idsetAlgebraUptoRow : OpenClaim := { program := "ytjdijlijojembaa", sum := "78cd1cd3129f67371eb1d931c5efaeab0cda56492abb7eaf942988380c89e673", func := "mapsheets/mapsheetslaw04.IdsetAlgebra", spec := "idsetAlgebra", unfollowed := true, recurses := true, apart := false, narrowed := true }
def IdsetAlgebraUptoSaid : Prop := idsetAlgebraUptoRow.holds Try.pinned (OpenSpec.upto idsetAlgebraSpec)

/-- 'mapsheetslaw04.IdsetDivides', WHERE WHAT IT READS IS OF BULK AT MOST 1048576: true; the input reads as it did. -/
def idsetDividesUptoRow : OpenClaim := { program := "ytjdijlijojembaa", sum := "78cd1cd3129f67371eb1d931c5efaeab0cda56492abb7eaf942988380c89e673", func := "mapsheets/mapsheetslaw04.IdsetDivides", spec := "idsetDivides", unfollowed := true, recurses := true, apart := false, narrowed := true }
def IdsetDividesUptoSaid : Prop := idsetDividesUptoRow.holds Try.pinned (OpenSpec.upto idsetDividesSpec)

end Rows
end Go.Proofs.Ytjdijlijojembaa
