/- Short names for words of the print, where a file would else be too long. Conditions: none. -/
import Derived.Test.YtlkofdedkfmaeaaWWords
import Derived.Test.YtlkofdedkfmaeaaWLast
import Derived.Test.YtlkofdedkfmaeaaWMore
namespace Go.Proofs.Ytlkofdedkfmaeaa.X
open Go Go.RowKit Go.Proofs.YtlkofdedkfmaeaaW.PrintWords Go.Proofs.YtlkofdedkfmaeaaW.PrintLast Go.Proofs.YtlkofdedkfmaeaaW.PrintMore
abbrev Am_ := @Aside0.mk
abbrev bN_ := @pw_below_drewN
abbrev bD_ := @below_drew1
abbrev bA_ := @below_alloc
abbrev bS_ := @below_set
abbrev kN_ := @blk_drewN
abbrev kA_ := @blk_alloc
abbrev kB_ := @blk_below
abbrev bT_ := @below_step
abbrev kD_ := @blk_drew
abbrev bZ_ := @below_size
abbrev kC_ := @blk_cell
abbrev kF_ := @blk_frozen
abbrev rF_ := @Kd.R_far
abbrev rN_ := @Kd.R_drewN
abbrev rD_ := @Kd.R_drew
abbrev rA_ := @Kd.R_alloc
end Go.Proofs.Ytlkofdedkfmaeaa.X
