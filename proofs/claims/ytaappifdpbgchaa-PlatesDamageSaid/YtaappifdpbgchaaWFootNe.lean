/- Words of the kit's print, written by its tool and cut by wip/prune.py to what this seat uses. -/
import Derived.Test.YtaappifdpbgchaaWN
namespace Go.Proofs.YtaappifdpbgchaaW.PrintWords
open Go.RowKit
namespace Kd
section
variable {α : Type} {d : Kd α} {W : World} {g n : Nat} {S ok : Nat → Prop} {A : Option Addr} {ad : Addr} {xs : List α}
end
end Kd
end Go.Proofs.YtaappifdpbgchaaW.PrintWords
