/- The row of FnExactExpireEntries, opened: what its arguments' types read as, and the pure statement that is left. Conditions: none. -/
import Derived.Test.YtohniomkenkdmaaXFnExactExpireEntriesx3
import Derived.Test.YtohniomkenkdmaaWO
namespace Go.Proofs.Ytohniomkenkdmaa.OFnExactExpireEntries
open Go Go.RowKit Go.Proofs.Ytohniomkenkdmaa.XFnExactExpireEntries Go.Proofs.YtohniomkenkdmaaW.PrintWords Go.Proofs.YtohniomkenkdmaaW.PrintLast Go.Proofs.Ytohniomkenkdmaa.Open
theorem open3 : Opens Try.prog 3 (Kd.int .i64) I64 := Opens.i64 Try.underlying3 (by kernel_rfl)
def WF164 (x : S164) : Prop := I64 x.f0 ∧ I64 x.f1 ∧ I64 x.f2
theorem raw164 : Opens Try.prog 164 (Kd.pair (Kd.int .i64) (Kd.pair (Kd.int .i64) (Kd.int .i64))) (fun x => I64 x.1 ∧ (fun x => I64 x.1 ∧ I64 x.2) x.2) := Opens.struct Try.underlying164 (by kernel_rfl) (Fields.cons rfl rfl open3 (Fields.cons rfl rfl open3 (Fields.one rfl rfl open3)))
theorem open164 : Opens Try.prog 164 k164 WF164 := Opens.iso raw164 (fun x : S164 => (x.f0, x.f1, x.f2)) (fun p => ⟨p.1, p.2.1, p.2.2⟩) (fun _ => rfl)
def WS63 (xs : List (S164)) : Prop := xs.length ≤ maxLen ∧ ∀ x ∈ xs, WF164 x
theorem open63 : Opens Try.prog 63 (Kd.slice 164 k164) WS63 := Opens.slice Try.underlying63 (by kernel_rfl) open164
theorem flat65 : Opens Try.prog 65 (Kd.pair (Kd.int .i64) (Kd.slice 164 k164)) (fun x => I64 x.1 ∧ WS63 x.2) := Opens.struct Try.underlying65 (by kernel_rfl) (Fields.cons rfl rfl open3 (Fields.one rfl rfl open63))
/-- The pure statement. -/
def Pure : Prop := ∀ (a0_0 : Int) (l0_1 : List (S164)) (a1 : Int), I64 a0_0 → WS63 l0_1 → I64 a1 → ∃ k, laws_FnExactExpireEntries.f k a0_0 l0_1 a1 = some true
end Go.Proofs.Ytohniomkenkdmaa.OFnExactExpireEntries
