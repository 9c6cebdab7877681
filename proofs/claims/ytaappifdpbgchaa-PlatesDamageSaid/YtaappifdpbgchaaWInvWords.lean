/- Words of the kit's print, written by its tool and cut by wip/prune.py to what this seat uses. -/
import Derived.Test.YtaappifdpbgchaaWInv
import Derived.Test.YtaappifdpbgchaaWFootNe
namespace Go.Proofs.YtaappifdpbgchaaW.PrintWords
open Go.RowKit
end Go.Proofs.YtaappifdpbgchaaW.PrintWords
namespace Go.Proofs.YtaappifdpbgchaaW.PrintLast
section
variable {ops : Array Oper} {a : Act} {o og : Oper} {g : Nat} {t : Tmp} {u : Bool}
end
end Go.Proofs.YtaappifdpbgchaaW.PrintLast
