/- The row of FnExactPathEntryFor, opened: what its arguments' types read as, and the pure statement that is left. Conditions: none. -/
import Derived.Test.YtohniomkenkdmaaXFnExactPathEntryForx3
import Derived.Test.YtohniomkenkdmaaWO
namespace Go.Proofs.Ytohniomkenkdmaa.OFnExactPathEntryFor
open Go Go.RowKit Go.Proofs.Ytohniomkenkdmaa.XFnExactPathEntryFor Go.Proofs.YtohniomkenkdmaaW.PrintWords Go.Proofs.YtohniomkenkdmaaW.PrintLast Go.Proofs.Ytohniomkenkdmaa.Open
theorem open3 : Opens Try.prog 3 (Kd.int .i64) I64 := Opens.i64 Try.underlying3 (by kernel_rfl)
def WF158 (x : S158) : Prop := I64 x.f0 ∧ I64 x.f1 ∧ I64 x.f2 ∧ I64 x.f3 ∧ I64 x.f4
theorem raw158 : Opens Try.prog 158 (Kd.pair (Kd.int .i64) (Kd.pair (Kd.int .i64) (Kd.pair (Kd.int .i64) (Kd.pair (Kd.int .i64) (Kd.int .i64))))) (fun x => I64 x.1 ∧ (fun x => I64 x.1 ∧ (fun x => I64 x.1 ∧ (fun x => I64 x.1 ∧ I64 x.2) x.2) x.2) x.2) := Opens.struct Try.underlying158 (by kernel_rfl) (Fields.cons rfl rfl open3 (Fields.cons rfl rfl open3 (Fields.cons rfl rfl open3 (Fields.cons rfl rfl open3 (Fields.one rfl rfl open3)))))
theorem open158 : Opens Try.prog 158 k158 WF158 := Opens.iso raw158 (fun x : S158 => (x.f0, x.f1, x.f2, x.f3, x.f4)) (fun p => ⟨p.1, p.2.1, p.2.2.1, p.2.2.2.1, p.2.2.2.2⟩) (fun _ => rfl)
def WS22 (xs : List (S158)) : Prop := xs.length ≤ maxLen ∧ ∀ x ∈ xs, WF158 x
theorem open22 : Opens Try.prog 22 (Kd.slice 158 k158) WS22 := Opens.slice Try.underlying22 (by kernel_rfl) open158
theorem flat24 : Opens Try.prog 24 (Kd.slice 158 k158) WS22 := Opens.struct Try.underlying24 (by kernel_rfl) (Fields.one rfl rfl open22)
/-- The pure statement. -/
def Pure : Prop := ∀ (l0_0 : List (S158)) (a1 : Int), WS22 l0_0 → I64 a1 → ∃ k, laws_FnExactPathEntryFor.f k l0_0 a1 = some true
end Go.Proofs.Ytohniomkenkdmaa.OFnExactPathEntryFor
