/- The row of FnExactLinkMetric, opened: what its arguments' types read as, and the pure statement that is left. Conditions: none. -/
import Derived.Test.YtkenlkkefmefoaaPFnExactLinkMetricx2
import Derived.Test.YtkenlkkefmefoaaWO
namespace Go.Proofs.Ytkenlkkefmefoaa.OFnExactLinkMetric
open Go Go.RowKit Go.Proofs.Ytkenlkkefmefoaa.PFnExactLinkMetric Go.Proofs.YtkenlkkefmefoaaW.PrintWords Go.Proofs.YtkenlkkefmefoaaW.PrintLast Go.Proofs.Ytkenlkkefmefoaa.Open
theorem open3 : Opens Try.prog 3 (Kd.int .i64) I64 := Opens.i64 Try.underlying3 (by kernel_rfl)
theorem flat61 : Opens Try.prog 61 (Kd.pair (Kd.int .i64) (Kd.pair (Kd.int .i64) (Kd.pair (Kd.int .i64) (Kd.int .i64)))) (fun x => I64 x.1 ∧ (fun x => I64 x.1 ∧ (fun x => I64 x.1 ∧ I64 x.2) x.2) x.2) := Opens.struct Try.underlying61 (by kernel_rfl) (Fields.cons rfl rfl open3 (Fields.cons rfl rfl open3 (Fields.cons rfl rfl open3 (Fields.one rfl rfl open3))))
/-- The pure statement. -/
def Pure : Prop := ∀ (a0_0 : Int) (a0_1 : Int) (a0_2 : Int) (a0_3 : Int), I64 a0_0 → I64 a0_1 → I64 a0_2 → I64 a0_3 → ∃ k, laws_FnExactLinkMetric.f k a0_0 a0_1 a0_2 a0_3 = some true
end Go.Proofs.Ytkenlkkefmefoaa.OFnExactLinkMetric
