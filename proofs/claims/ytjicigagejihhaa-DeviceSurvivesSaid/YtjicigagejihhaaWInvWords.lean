-- The words that this seat's texts use, out of what the kit's print program wrote (wip/prune.py).
import Derived.Test.YtjicigagejihhaaWInv
import Derived.Test.YtjicigagejihhaaWFootNe
namespace Go.Proofs.YtjicigagejihhaaW.PrintWords
open Go.RowKit
end Go.Proofs.YtjicigagejihhaaW.PrintWords
namespace Go.Proofs.YtjicigagejihhaaW.PrintLast
section
variable {ops : Array Oper} {a : Act} {o og : Oper} {g : Nat} {t : Tmp} {u : Bool}
end
end Go.Proofs.YtjicigagejihhaaW.PrintLast
