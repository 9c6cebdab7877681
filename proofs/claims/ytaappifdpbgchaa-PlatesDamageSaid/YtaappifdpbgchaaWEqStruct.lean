/- Words of the kit's print, written by its tool and cut by wip/prune.py to what this seat uses. -/
import Derived.Test.YtaappifdpbgchaaWWords
import Derived.Laws.StructEq
namespace Go.Proofs.YtaappifdpbgchaaW.PrintWords
open Go.RowKit
section
variable {P : Program} {d : Nat} {xs ys : Array Value} {f : Field} {fs : List Field} {a b : Value} {r s : Bool} {w : World}
end
end Go.Proofs.YtaappifdpbgchaaW.PrintWords
