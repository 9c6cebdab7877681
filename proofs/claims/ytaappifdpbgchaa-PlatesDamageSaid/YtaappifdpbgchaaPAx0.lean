-- Written by wip/pp.py of this repository, on the kit's print program. Not trusted: Lean checks it.
import Derived.Test.YtaappifdpbgchaaProg
import Derived.Below
import Derived.Deep.Draws
import Derived.Deep.AppendLies
import Derived.Maps.AppendAt
import Derived.OwnWalk
import Derived.Laws.BytesArg
import Derived.Laws.MakeOwn
import Derived.Laws.OwnMore
import Derived.Deep.OwnRows
import Derived.Tactics
import Derived.Lib.ConvBytes
import Derived.Laws.Slices
import Derived.WalkKit
import Derived.KernelRfl
import Derived.RowKit3
import Derived.Deep.LoopGhost
import Derived.Deep.QuietTactic
import Derived.BigQuiet
import Derived.WideLaws
import Derived.Deep.DeepCutAuto
import Derived.Deep.CutBlock
import Derived.Deep.RegionHeld3
import Derived.Laws.Rows
import Derived.Lib.AppendStr
import Derived.ArgAppend
import Derived.Laws.IdiomCopy
import Derived.OrdersHeld
import Derived.Laws.BitsLemmas
import Derived.RowKit
import Derived.Lib.SliceRun
import Derived.Laws.Cover3
import Derived.Stop.BytesEq
import Derived.Lib.SlBytesConst
import Derived.Deep.RegionLaw
import Derived.Test.YtaappifdpbgchaaWWords
import Derived.Test.YtaappifdpbgchaaWLast
import Derived.Test.YtaappifdpbgchaaWTab
import Derived.Test.YtaappifdpbgchaaWFour
import Derived.Test.YtaappifdpbgchaaWQPut
import Derived.Test.YtaappifdpbgchaaWApart
import Derived.Test.YtaappifdpbgchaaWArr
import Derived.Test.YtaappifdpbgchaaWZeros
import Derived.Test.YtaappifdpbgchaaWFoot
import Derived.Test.YtaappifdpbgchaaWKept
import Derived.Test.YtaappifdpbgchaaWShare
import Derived.Test.YtaappifdpbgchaaWN
import Derived.Test.YtaappifdpbgchaaWFootNe
import Derived.Test.YtaappifdpbgchaaWAt
import Derived.Test.YtaappifdpbgchaaWEqStruct
import Derived.Test.YtaappifdpbgchaaWRepsOne
import Derived.Test.YtaappifdpbgchaaWInv
import Derived.Test.YtaappifdpbgchaaWInvWords
import Derived.Test.YtaappifdpbgchaaWGuard
import Derived.Test.YtaappifdpbgchaaWNEv
import Derived.Test.YtaappifdpbgchaaWMore
import Derived.Test.YtaappifdpbgchaaWSized
namespace Go.Proofs.Ytaappifdpbgchaa.PA
open Go.RowKit Go.Proofs.YtaappifdpbgchaaW.PrintWords Go.Proofs.YtaappifdpbgchaaW.PrintLast Go.Proofs.YtaappifdpbgchaaW.PrintMore
attribute [local go_sem] max2_int min2_int max_two min_two max_three min_three max_four min_four   -- for this text's walks alone
set_option linter.unusedVariables false
set_option linter.unusedSimpArgs false



def errW : Option Int → Value
  | none => .nilIface
  | some c => .iface 0 (.int .i64 c)
theorem errW_none : errW none = .nilIface := rfl
theorem errW_some (c : Int) : errW (some c) = .iface 0 (.int .i64 c) := rfl

theorem info3 : (Try.prog.info? 3).map (fun i => (i.zero, i.size, i.bytes)) = some (some (.int .i64 0), 1, 8) := by kernel_rfl
theorem info5 : (Try.prog.info? 5).map (fun i => (i.zero, i.size, i.bytes)) = some (some (.int .u8 0), 1, 1) := by kernel_rfl
-- the values' own types

end Go.Proofs.Ytaappifdpbgchaa.PA
