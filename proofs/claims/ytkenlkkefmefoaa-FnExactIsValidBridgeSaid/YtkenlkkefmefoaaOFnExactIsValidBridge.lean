/- The row of FnExactIsValidBridge, opened: what its arguments' types read as, and the pure statement that is left. Conditions: none. -/
import Derived.Test.YtkenlkkefmefoaaXFnExactIsValidBridgex4
import Derived.Test.YtkenlkkefmefoaaWO
namespace Go.Proofs.Ytkenlkkefmefoaa.OFnExactIsValidBridge
open Go Go.RowKit Go.Proofs.Ytkenlkkefmefoaa.XFnExactIsValidBridge Go.Proofs.YtkenlkkefmefoaaW.PrintWords Go.Proofs.YtkenlkkefmefoaaW.PrintLast Go.Proofs.Ytkenlkkefmefoaa.Open
theorem open3 : Opens Try.prog 3 (Kd.int .i64) I64 := Opens.i64 Try.underlying3 (by kernel_rfl)
def WF123 (x : S123) : Prop := I64 x.f0 ∧ I64 x.f1 ∧ I64 x.f2
theorem raw123 : Opens Try.prog 123 (Kd.pair (Kd.int .i64) (Kd.pair (Kd.int .i64) (Kd.int .i64))) (fun x => I64 x.1 ∧ (fun x => I64 x.1 ∧ I64 x.2) x.2) := Opens.struct Try.underlying123 (by kernel_rfl) (Fields.cons rfl rfl open3 (Fields.cons rfl rfl open3 (Fields.one rfl rfl open3)))
theorem open123 : Opens Try.prog 123 k123 WF123 := Opens.iso raw123 (fun x : S123 => (x.f0, x.f1, x.f2)) (fun p => ⟨p.1, p.2.1, p.2.2⟩) (fun _ => rfl)
def WS71 (xs : List (S123)) : Prop := xs.length ≤ maxLen ∧ ∀ x ∈ xs, WF123 x
theorem open71 : Opens Try.prog 71 (Kd.slice 123 k123) WS71 := Opens.slice Try.underlying71 (by kernel_rfl) open123
theorem flat73 : Opens Try.prog 73 (Kd.pair (Kd.int .i64) (Kd.slice 123 k123)) (fun x => I64 x.1 ∧ WS71 x.2) := Opens.struct Try.underlying73 (by kernel_rfl) (Fields.cons rfl rfl open3 (Fields.one rfl rfl open71))
/-- The pure statement. -/
def Pure : Prop := ∀ (a0_0 : Int) (l0_1 : List (S123)), I64 a0_0 → WS71 l0_1 → ∃ k, laws_FnExactIsValidBridge.f k a0_0 l0_1 = some true
end Go.Proofs.Ytkenlkkefmefoaa.OFnExactIsValidBridge
