/- The functions that the law reaches as plain Lean functions, and of each a proof that its call computes it. Conditions: those that each theorem names. -/
import Derived.Test.YtohniomkenkdmaaProg
import Derived.Below
import Derived.Deep.Draws
import Derived.Deep.AppendLies
import Derived.Maps.AppendAt
import Derived.OwnWalk
import Derived.Laws.BytesArg
import Derived.Laws.MakeOwn
import Derived.Laws.OwnMore
import Derived.Deep.OwnRows
import Derived.Tactics
import Derived.Lib.ConvBytes
import Derived.Laws.Slices
import Derived.WalkKit
import Derived.KernelRfl
import Derived.RowKit3
import Derived.Deep.LoopGhost
import Derived.Deep.QuietTactic
import Derived.BigQuiet
import Derived.WideLaws
import Derived.Deep.DeepCutAuto
import Derived.Deep.CutBlock
import Derived.Deep.RegionHeld3
import Derived.Laws.Rows
import Derived.Lib.AppendStr
import Derived.ArgAppend
import Derived.Laws.IdiomCopy
import Derived.OrdersHeld
import Derived.Laws.BitsLemmas
import Derived.RowKit
import Derived.Test.YtohniomkenkdmaaWX
import Derived.Test.YtohniomkenkdmaaWWords
import Derived.Test.YtohniomkenkdmaaWLast
import Derived.Test.YtohniomkenkdmaaWTab
import Derived.Test.YtohniomkenkdmaaWFour
import Derived.Test.YtohniomkenkdmaaWQPut
import Derived.Test.YtohniomkenkdmaaWApart
import Derived.Test.YtohniomkenkdmaaWArr
import Derived.Test.YtohniomkenkdmaaWZeros
import Derived.Test.YtohniomkenkdmaaWFoot
import Derived.Test.YtohniomkenkdmaaWKept
import Derived.Test.YtohniomkenkdmaaWShare
import Derived.Test.YtohniomkenkdmaaWN
import Derived.Test.YtohniomkenkdmaaWFootNe
import Derived.Test.YtohniomkenkdmaaWAt
import Derived.Test.YtohniomkenkdmaaWEqStruct
import Derived.Test.YtohniomkenkdmaaWRepsOne
import Derived.Test.YtohniomkenkdmaaWInv
import Derived.Test.YtohniomkenkdmaaWInvWords
import Derived.Test.YtohniomkenkdmaaWGuard
import Derived.Test.YtohniomkenkdmaaWNEv
import Derived.Test.YtohniomkenkdmaaWMore
namespace Go.Proofs.Ytohniomkenkdmaa.XFnExactReceiveReply
open Go.RowKit Go.Proofs.YtohniomkenkdmaaW.PrintWords Go.Proofs.YtohniomkenkdmaaW.PrintLast Go.Proofs.YtohniomkenkdmaaW.PrintMore
attribute [local go_sem] max2_int min2_int max_two min_two max_three min_three max_four min_four   -- for this text's walks alone
set_option linter.unusedVariables false
set_option linter.unusedSimpArgs false



def errW : Option Int → Value
  | none => .nilIface
  | some c => .iface 0 (.int .i64 c)
theorem errW_none : errW none = .nilIface := rfl
theorem errW_some (c : Int) : errW (some c) = .iface 0 (.int .i64 c) := rfl

theorem info3 : (Try.prog.info? 3).map (fun i => (i.zero, i.size, i.bytes)) = some (some (.int .i64 0), 1, 8) := by kernel_rfl
-- the values' own types

end Go.Proofs.Ytohniomkenkdmaa.XFnExactReceiveReply
