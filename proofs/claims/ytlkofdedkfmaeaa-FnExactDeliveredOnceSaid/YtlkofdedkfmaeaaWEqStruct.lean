/- Words for the walks of this seat: what is left of the print's words, by program (wslim.py). Conditions: as each theorem says. -/
import Derived.Test.YtlkofdedkfmaeaaWWords
import Derived.Laws.StructEq
/-! ### 53. '==' of structs as_ one Bool -/
namespace Go.Proofs.YtlkofdedkfmaeaaW.PrintWords
open Go.RowKit
section
variable {P : Program} {d : Nat} {xs ys : Array Value} {f : Field} {fs : List Field} {a b : Value} {r s : Bool} {w : World}
end
end Go.Proofs.YtlkofdedkfmaeaaW.PrintWords
