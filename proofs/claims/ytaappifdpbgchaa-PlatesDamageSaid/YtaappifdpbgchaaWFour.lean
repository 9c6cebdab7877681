/- Words of the kit's print, written by its tool and cut by wip/prune.py to what this seat uses. -/
import Derived.Test.YtaappifdpbgchaaWTab
namespace Go.Proofs.YtaappifdpbgchaaW.PrintLast
section
variable {P : Program} {ops : Array Oper} {Q : Exit → Act → World → Prop} {md : Region.Mode} {S : World → Prop} {ds : List Nat} {T : Bool × List (List Nat × List Nat)}
end
end Go.Proofs.YtaappifdpbgchaaW.PrintLast
