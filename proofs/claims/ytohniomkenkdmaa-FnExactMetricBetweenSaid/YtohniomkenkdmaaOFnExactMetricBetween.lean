/- The row of FnExactMetricBetween, opened: what its arguments' types read as, and the pure statement that is left. Conditions: none. -/
import Derived.Test.YtohniomkenkdmaaXFnExactMetricBetweenx4
import Derived.Test.YtohniomkenkdmaaWO
namespace Go.Proofs.Ytohniomkenkdmaa.OFnExactMetricBetween
open Go Go.RowKit Go.Proofs.Ytohniomkenkdmaa.XFnExactMetricBetween Go.Proofs.YtohniomkenkdmaaW.PrintWords Go.Proofs.YtohniomkenkdmaaW.PrintLast Go.Proofs.Ytohniomkenkdmaa.Open
theorem open3 : Opens Try.prog 3 (Kd.int .i64) I64 := Opens.i64 Try.underlying3 (by kernel_rfl)
def WF167 (x : S167) : Prop := I64 x.f0 ∧ I64 x.f1 ∧ I64 x.f2 ∧ I64 x.f3
theorem raw167 : Opens Try.prog 167 (Kd.pair (Kd.int .i64) (Kd.pair (Kd.int .i64) (Kd.pair (Kd.int .i64) (Kd.int .i64)))) (fun x => I64 x.1 ∧ (fun x => I64 x.1 ∧ (fun x => I64 x.1 ∧ I64 x.2) x.2) x.2) := Opens.struct Try.underlying167 (by kernel_rfl) (Fields.cons rfl rfl open3 (Fields.cons rfl rfl open3 (Fields.cons rfl rfl open3 (Fields.one rfl rfl open3))))
theorem open167 : Opens Try.prog 167 k167 WF167 := Opens.iso raw167 (fun x : S167 => (x.f0, x.f1, x.f2, x.f3)) (fun p => ⟨p.1, p.2.1, p.2.2.1, p.2.2.2⟩) (fun _ => rfl)
def WS75 (xs : List (S167)) : Prop := xs.length ≤ maxLen ∧ ∀ x ∈ xs, WF167 x
theorem open75 : Opens Try.prog 75 (Kd.slice 167 k167) WS75 := Opens.slice Try.underlying75 (by kernel_rfl) open167
theorem flat77 : Opens Try.prog 77 (Kd.pair (Kd.int .i64) (Kd.slice 167 k167)) (fun x => I64 x.1 ∧ WS75 x.2) := Opens.struct Try.underlying77 (by kernel_rfl) (Fields.cons rfl rfl open3 (Fields.one rfl rfl open75))
/-- The pure statement. -/
def Pure : Prop := ∀ (a0_0 : Int) (l0_1 : List (S167)) (a1 : Int) (a2 : Int), I64 a0_0 → WS75 l0_1 → I64 a1 → I64 a2 → ∃ k, laws_FnExactMetricBetween.f k a0_0 l0_1 a1 a2 = some true
end Go.Proofs.Ytohniomkenkdmaa.OFnExactMetricBetween
