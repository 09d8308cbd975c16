/- Words for the walks of this seat: what is left of the print's words, by program (wslim.py). Conditions: as each theorem says. -/
import Derived.Test.YtlkofdedkfmaeaaWN
/-! ### 52. A row that stays read whatever happens to a block (a set of blocks) doesn't lie there -/
namespace Go.Proofs.YtlkofdedkfmaeaaW.PrintWords
open Go.RowKit
namespace Kd
section
variable {α : Type} {d : Kd α} {W : World} {g n : Nat} {S ok : Nat → Prop} {A : Option Addr} {ad : Addr} {xs : List α}
end
end Kd
end Go.Proofs.YtlkofdedkfmaeaaW.PrintWords
