/- The row of FnExactEqualMeshFrames, opened: what its arguments' types read as, and the pure statement that is left. Conditions: none. -/
import Derived.Test.YtkenlkkefmefoaaXFnExactEqualMeshFramesx2
import Derived.Test.YtkenlkkefmefoaaWO
namespace Go.Proofs.Ytkenlkkefmefoaa.OFnExactEqualMeshFrames
open Go Go.RowKit Go.Proofs.Ytkenlkkefmefoaa.XFnExactEqualMeshFrames Go.Proofs.YtkenlkkefmefoaaW.PrintWords Go.Proofs.YtkenlkkefmefoaaW.PrintLast Go.Proofs.Ytkenlkkefmefoaa.Open
theorem open3 : Opens Try.prog 3 (Kd.int .i64) I64 := Opens.i64 Try.underlying3 (by kernel_rfl)
theorem open5 : Opens Try.prog 5 (Kd.int .u8) U8 := Opens.u8 Try.underlying5 (by kernel_rfl)
def WS39 (xs : List Int) : Prop := xs.length ≤ maxLen ∧ ∀ x ∈ xs, U8 x
theorem open39 : Opens Try.prog 39 (Kd.slice 5 (Kd.int .u8)) WS39 := Opens.slice Try.underlying39 (by kernel_rfl) open5
theorem flat41 : Opens Try.prog 41 (Kd.pair (Kd.int .i64) (Kd.pair (Kd.int .i64) (Kd.pair (Kd.int .i64) (Kd.pair (Kd.int .i64) (Kd.slice 5 (Kd.int .u8)))))) (fun x => I64 x.1 ∧ (fun x => I64 x.1 ∧ (fun x => I64 x.1 ∧ (fun x => I64 x.1 ∧ WS39 x.2) x.2) x.2) x.2) := Opens.struct Try.underlying41 (by kernel_rfl) (Fields.cons rfl rfl open3 (Fields.cons rfl rfl open3 (Fields.cons rfl rfl open3 (Fields.cons rfl rfl open3 (Fields.one rfl rfl open39)))))
/-- The pure statement. -/
def Pure : Prop := ∀ (a0_0 : Int) (a0_1 : Int) (a0_2 : Int) (a0_3 : Int) (l0_4 : List Int) (a1_0 : Int) (a1_1 : Int) (a1_2 : Int) (a1_3 : Int) (l1_4 : List Int), I64 a0_0 → I64 a0_1 → I64 a0_2 → I64 a0_3 → WS39 l0_4 → I64 a1_0 → I64 a1_1 → I64 a1_2 → I64 a1_3 → WS39 l1_4 → ∃ k, laws_FnExactEqualMeshFrames.f k a0_0 a0_1 a0_2 a0_3 l0_4 a1_0 a1_1 a1_2 a1_3 l1_4 = some true
end Go.Proofs.Ytkenlkkefmefoaa.OFnExactEqualMeshFrames
