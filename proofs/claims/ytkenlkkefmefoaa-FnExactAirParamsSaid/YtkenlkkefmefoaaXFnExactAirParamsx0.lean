/- The functions that the law reaches as plain Lean functions, and of each a proof that its call computes it. Conditions: those that each theorem names. -/
import Derived.Test.YtkenlkkefmefoaaProg
import Derived.Below
import Derived.Deep.Draws
import Derived.Deep.AppendLies
import Derived.Maps.AppendAt
import Derived.OwnWalk
import Derived.Laws.BytesArg
import Derived.Laws.MakeOwn
import Derived.Laws.OwnMore
import Derived.Deep.OwnRows
import Derived.Tactics
import Derived.Lib.ConvBytes
import Derived.Laws.Slices
import Derived.WalkKit
import Derived.KernelRfl
import Derived.RowKit3
import Derived.Deep.LoopGhost
import Derived.Deep.QuietTactic
import Derived.BigQuiet
import Derived.WideLaws
import Derived.Deep.DeepCutAuto
import Derived.Deep.CutBlock
import Derived.Deep.RegionHeld3
import Derived.Laws.Rows
import Derived.Lib.AppendStr
import Derived.ArgAppend
import Derived.Laws.IdiomCopy
import Derived.OrdersHeld
import Derived.Laws.BitsLemmas
import Derived.RowKit
import Derived.Test.YtkenlkkefmefoaaWX
import Derived.Test.YtkenlkkefmefoaaWWords
import Derived.Test.YtkenlkkefmefoaaWLast
import Derived.Test.YtkenlkkefmefoaaWTab
import Derived.Test.YtkenlkkefmefoaaWFour
import Derived.Test.YtkenlkkefmefoaaWQPut
import Derived.Test.YtkenlkkefmefoaaWApart
import Derived.Test.YtkenlkkefmefoaaWArr
import Derived.Test.YtkenlkkefmefoaaWZeros
import Derived.Test.YtkenlkkefmefoaaWFoot
import Derived.Test.YtkenlkkefmefoaaWKept
import Derived.Test.YtkenlkkefmefoaaWShare
import Derived.Test.YtkenlkkefmefoaaWN
import Derived.Test.YtkenlkkefmefoaaWFootNe
import Derived.Test.YtkenlkkefmefoaaWAt
import Derived.Test.YtkenlkkefmefoaaWEqStruct
import Derived.Test.YtkenlkkefmefoaaWRepsOne
import Derived.Test.YtkenlkkefmefoaaWInv
import Derived.Test.YtkenlkkefmefoaaWInvWords
import Derived.Test.YtkenlkkefmefoaaWGuard
import Derived.Test.YtkenlkkefmefoaaWNEv
import Derived.Test.YtkenlkkefmefoaaWMore
namespace Go.Proofs.Ytkenlkkefmefoaa.XFnExactAirParams
open Go.RowKit Go.Proofs.YtkenlkkefmefoaaW.PrintWords Go.Proofs.YtkenlkkefmefoaaW.PrintLast Go.Proofs.YtkenlkkefmefoaaW.PrintMore
attribute [local go_sem] max2_int min2_int max_two min_two max_three min_three max_four min_four   -- for this text's walks alone
set_option linter.unusedVariables false
set_option linter.unusedSimpArgs false



def errW : Option Int → Value
  | none => .nilIface
  | some c => .iface 0 (.int .i64 c)
theorem errW_none : errW none = .nilIface := rfl
theorem errW_some (c : Int) : errW (some c) = .iface 0 (.int .i64 c) := rfl

-- the values' own types

end Go.Proofs.Ytkenlkkefmefoaa.XFnExactAirParams
