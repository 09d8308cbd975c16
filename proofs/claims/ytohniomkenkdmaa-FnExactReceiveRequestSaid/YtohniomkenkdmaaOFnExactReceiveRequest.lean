/- The row of FnExactReceiveRequest, opened: what its arguments' types read as, and the pure statement that is left. Conditions: none. -/
import Derived.Test.YtohniomkenkdmaaXFnExactReceiveRequestx6
import Derived.Test.YtohniomkenkdmaaWO
namespace Go.Proofs.Ytohniomkenkdmaa.OFnExactReceiveRequest
open Go Go.RowKit Go.Proofs.Ytohniomkenkdmaa.XFnExactReceiveRequest Go.Proofs.YtohniomkenkdmaaW.PrintWords Go.Proofs.YtohniomkenkdmaaW.PrintLast Go.Proofs.Ytohniomkenkdmaa.Open
theorem open3 : Opens Try.prog 3 (Kd.int .i64) I64 := Opens.i64 Try.underlying3 (by kernel_rfl)
def WF150 (x : S150) : Prop := I64 x.f0 ∧ I64 x.f1 ∧ I64 x.f2
theorem raw150 : Opens Try.prog 150 (Kd.pair (Kd.int .i64) (Kd.pair (Kd.int .i64) (Kd.int .i64))) (fun x => I64 x.1 ∧ (fun x => I64 x.1 ∧ I64 x.2) x.2) := Opens.struct Try.underlying150 (by kernel_rfl) (Fields.cons rfl rfl open3 (Fields.cons rfl rfl open3 (Fields.one rfl rfl open3)))
theorem open150 : Opens Try.prog 150 k150 WF150 := Opens.iso raw150 (fun x : S150 => (x.f0, x.f1, x.f2)) (fun p => ⟨p.1, p.2.1, p.2.2⟩) (fun _ => rfl)
def WS97 (xs : List (S150)) : Prop := xs.length ≤ maxLen ∧ ∀ x ∈ xs, WF150 x
theorem open97 : Opens Try.prog 97 (Kd.slice 150 k150) WS97 := Opens.slice Try.underlying97 (by kernel_rfl) open150
theorem flat38 : Opens Try.prog 38 (Kd.pair (Kd.int .i64) (Kd.pair (Kd.int .i64) (Kd.pair (Kd.int .i64) (Kd.pair (Kd.int .i64) (Kd.int .i64))))) (fun x => I64 x.1 ∧ (fun x => I64 x.1 ∧ (fun x => I64 x.1 ∧ (fun x => I64 x.1 ∧ I64 x.2) x.2) x.2) x.2) := Opens.struct Try.underlying38 (by kernel_rfl) (Fields.cons rfl rfl open3 (Fields.cons rfl rfl open3 (Fields.cons rfl rfl open3 (Fields.cons rfl rfl open3 (Fields.one rfl rfl open3)))))
/-- The pure statement. -/
def Pure : Prop := ∀ (l0 : List (S150)) (a1 : Int) (a2_0 : Int) (a2_1 : Int) (a2_2 : Int) (a2_3 : Int) (a2_4 : Int) (a3 : Int), WS97 l0 → I64 a1 → I64 a2_0 → I64 a2_1 → I64 a2_2 → I64 a2_3 → I64 a2_4 → I64 a3 → ∃ k, laws_FnExactReceiveRequest.f k l0 a1 a2_0 a2_1 a2_2 a2_3 a2_4 a3 = some true
end Go.Proofs.Ytohniomkenkdmaa.OFnExactReceiveRequest
