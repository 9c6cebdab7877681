-- The words that this seat's texts use, out of what the kit's print program wrote (wip/prune.py).
import Derived.Test.YtjicigagejihhaaWTab
/-! ### 56. Four, five, six operations that may come up next, in any order -/
namespace Go.Proofs.YtjicigagejihhaaW.PrintLast
section
variable {P : Program} {ops : Array Oper} {Q : Exit → Act → World → Prop} {md : Region.Mode} {S : World → Prop} {ds : List Nat} {T : Bool × List (List Nat × List Nat)}
end
end Go.Proofs.YtjicigagejihhaaW.PrintLast
