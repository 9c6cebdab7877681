-- The words that this seat's texts use, out of what the kit's print program wrote (wip/prune.py).
import Derived.Test.YtjicigagejihhaaWWords
import Derived.Laws.StructEq
/-! ### 53. '==' of structs as_ one Bool -/
namespace Go.Proofs.YtjicigagejihhaaW.PrintWords
open Go.RowKit
section
variable {P : Program} {d : Nat} {xs ys : Array Value} {f : Field} {fs : List Field} {a b : Value} {r s : Bool} {w : World}
end
end Go.Proofs.YtjicigagejihhaaW.PrintWords
