/- The row of FnExactIsValidTable, opened: what its arguments' types read as, and the pure statement that is left. Conditions: none. -/
import Derived.Test.YtkenlkkefmefoaaPFnExactIsValidTablex3
import Derived.Test.YtkenlkkefmefoaaWO
namespace Go.Proofs.Ytkenlkkefmefoaa.OFnExactIsValidTable
open Go Go.RowKit Go.Proofs.Ytkenlkkefmefoaa.PFnExactIsValidTable Go.Proofs.YtkenlkkefmefoaaW.PrintWords Go.Proofs.YtkenlkkefmefoaaW.PrintLast Go.Proofs.Ytkenlkkefmefoaa.Open
theorem open3 : Opens Try.prog 3 (Kd.int .i64) I64 := Opens.i64 Try.underlying3 (by kernel_rfl)
def WF126 (x : S126) : Prop := I64 x.f0 ∧ I64 x.f1 ∧ I64 x.f2 ∧ I64 x.f3 ∧ I64 x.f4
theorem raw126 : Opens Try.prog 126 (Kd.pair (Kd.int .i64) (Kd.pair (Kd.int .i64) (Kd.pair (Kd.int .i64) (Kd.pair (Kd.int .i64) (Kd.int .i64))))) (fun x => I64 x.1 ∧ (fun x => I64 x.1 ∧ (fun x => I64 x.1 ∧ (fun x => I64 x.1 ∧ I64 x.2) x.2) x.2) x.2) := Opens.struct Try.underlying126 (by kernel_rfl) (Fields.cons rfl rfl open3 (Fields.cons rfl rfl open3 (Fields.cons rfl rfl open3 (Fields.cons rfl rfl open3 (Fields.one rfl rfl open3)))))
theorem open126 : Opens Try.prog 126 k126 WF126 := Opens.iso raw126 (fun x : S126 => (x.f0, x.f1, x.f2, x.f3, x.f4)) (fun p => ⟨p.1, p.2.1, p.2.2.1, p.2.2.2.1, p.2.2.2.2⟩) (fun _ => rfl)
theorem open82 : Opens Try.prog 82 (Kd.slice 126 k126) (fun xs => xs.length ≤ maxLen ∧ ∀ x ∈ xs, WF126 x) := Opens.slice Try.underlying82 (by kernel_rfl) open126
theorem flat84 : Opens Try.prog 84 (Kd.slice 126 k126) (fun xs => xs.length ≤ maxLen ∧ ∀ x ∈ xs, WF126 x) := Opens.struct Try.underlying84 (by kernel_rfl) (Fields.one rfl rfl open82)
/-- The pure statement. -/
def Pure : Prop := ∀ (l0_0 : List (S126)), (l0_0.length ≤ maxLen ∧ ∀ x ∈ l0_0, WF126 x) → ∃ k, laws_FnExactIsValidTable.f k l0_0 = some true
end Go.Proofs.Ytkenlkkefmefoaa.OFnExactIsValidTable
