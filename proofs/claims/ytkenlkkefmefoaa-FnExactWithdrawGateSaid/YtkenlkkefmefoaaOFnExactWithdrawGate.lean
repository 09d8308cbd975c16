/- The row of FnExactWithdrawGate, opened: what its arguments' types read as, and the pure statement that is left. Conditions: none. -/
import Derived.Test.YtkenlkkefmefoaaPFnExactWithdrawGatex2
import Derived.Test.YtkenlkkefmefoaaWO
namespace Go.Proofs.Ytkenlkkefmefoaa.OFnExactWithdrawGate
open Go Go.RowKit Go.Proofs.Ytkenlkkefmefoaa.PFnExactWithdrawGate Go.Proofs.YtkenlkkefmefoaaW.PrintWords Go.Proofs.YtkenlkkefmefoaaW.PrintLast Go.Proofs.Ytkenlkkefmefoaa.Open
theorem open3 : Opens Try.prog 3 (Kd.int .i64) I64 := Opens.i64 Try.underlying3 (by kernel_rfl)
def WF54 (x : S54) : Prop := I64 x.f0 ∧ I64 x.f1
theorem raw54 : Opens Try.prog 54 (Kd.pair (Kd.int .i64) (Kd.int .i64)) (fun x => I64 x.1 ∧ I64 x.2) := Opens.struct Try.underlying54 (by kernel_rfl) (Fields.cons rfl rfl open3 (Fields.one rfl rfl open3))
theorem open54 : Opens Try.prog 54 k54 WF54 := Opens.iso raw54 (fun x : S54 => (x.f0, x.f1)) (fun p => ⟨p.1, p.2⟩) (fun _ => rfl)
theorem open22 : Opens Try.prog 22 (Kd.slice 54 k54) (fun xs => xs.length ≤ maxLen ∧ ∀ x ∈ xs, WF54 x) := Opens.slice Try.underlying22 (by kernel_rfl) open54
/-- The pure statement. -/
def Pure : Prop := ∀ (l0 : List (S54)) (a1 : Int), (l0.length ≤ maxLen ∧ ∀ x ∈ l0, WF54 x) → I64 a1 → ∃ k, laws_FnExactWithdrawGate.f k l0 a1 = some true
end Go.Proofs.Ytkenlkkefmefoaa.OFnExactWithdrawGate
