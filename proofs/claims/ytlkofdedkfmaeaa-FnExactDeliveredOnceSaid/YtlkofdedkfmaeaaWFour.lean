/- Words for the walks of this seat: what is left of the print's words, by program (wslim.py). Conditions: as each theorem says. -/
import Derived.Test.YtlkofdedkfmaeaaWTab
/-! ### 56. Four, five, six operations that may come up next, in any order -/
namespace Go.Proofs.YtlkofdedkfmaeaaW.PrintLast
section
variable {P : Program} {ops : Array Oper} {Q : Exit → Act → World → Prop} {md : Region.Mode} {S : World → Prop} {ds : List Nat} {T : Bool × List (List Nat × List Nat)}
end
end Go.Proofs.YtlkofdedkfmaeaaW.PrintLast
