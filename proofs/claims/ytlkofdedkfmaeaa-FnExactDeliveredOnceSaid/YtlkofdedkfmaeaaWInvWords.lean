/- Words for the walks of this seat: what is left of the print's words, by program (wslim.py). Conditions: as each theorem says. -/
import Derived.Test.YtlkofdedkfmaeaaWInv
import Derived.Test.YtlkofdedkfmaeaaWFootNe
namespace Go.Proofs.YtlkofdedkfmaeaaW.PrintWords
open Go.RowKit
end Go.Proofs.YtlkofdedkfmaeaaW.PrintWords
namespace Go.Proofs.YtlkofdedkfmaeaaW.PrintLast
section
variable {ops : Array Oper} {a : Act} {o og : Oper} {g : Nat} {t : Tmp} {u : Bool}
end
end Go.Proofs.YtlkofdedkfmaeaaW.PrintLast
