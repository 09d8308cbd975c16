/- The row of FnExactDeliveredOnce, opened: what its arguments' types read as, and the pure statement that is left. Conditions: none. -/
import Derived.Test.YtlkofdedkfmaeaaXFnExactDeliveredOncex11
import Derived.Test.YtlkofdedkfmaeaaWO
namespace Go.Proofs.Ytlkofdedkfmaeaa.OFnExactDeliveredOnce
open Go Go.RowKit Go.Proofs.Ytlkofdedkfmaeaa.XFnExactDeliveredOnce Go.Proofs.YtlkofdedkfmaeaaW.PrintWords Go.Proofs.YtlkofdedkfmaeaaW.PrintLast Go.Proofs.Ytlkofdedkfmaeaa.Open
theorem open3 : Opens Try.prog 3 (Kd.int .i64) I64 := Opens.i64 Try.underlying3 (by kernel_rfl)
def WS22 (xs : List Int) : Prop := xs.length ≤ maxLen ∧ ∀ x ∈ xs, I64 x
theorem open22 : Opens Try.prog 22 (Kd.slice 3 (Kd.int .i64)) WS22 := Opens.slice Try.underlying22 (by kernel_rfl) open3
def FL24 (x : (List Int × Int × Int)) : Prop := (fun x => WS22 x.1 ∧ (fun x => I64 x.1 ∧ I64 x.2) x.2) x
theorem flat24 : Opens Try.prog 24 (Kd.pair (Kd.slice 3 (Kd.int .i64)) (Kd.pair (Kd.int .i64) (Kd.int .i64))) FL24 := Opens.struct Try.underlying24 (by kernel_rfl) (Fields.cons rfl rfl open22 (Fields.cons rfl rfl open3 (Fields.one rfl rfl open3)))
theorem open5 : Opens Try.prog 5 (Kd.int .u8) U8 := Opens.u8 Try.underlying5 (by kernel_rfl)
def WS86 (xs : List Int) : Prop := xs.length ≤ maxLen ∧ ∀ x ∈ xs, U8 x
theorem open86 : Opens Try.prog 86 (Kd.slice 5 (Kd.int .u8)) WS86 := Opens.slice Try.underlying86 (by kernel_rfl) open5
def WF200 (x : S200) : Prop := I64 x.f0 ∧ I64 x.f1 ∧ I64 x.f2 ∧ WS86 x.f3
theorem raw200 : Opens Try.prog 200 (Kd.pair (Kd.int .i64) (Kd.pair (Kd.int .i64) (Kd.pair (Kd.int .i64) (Kd.slice 5 (Kd.int .u8))))) (fun x => I64 x.1 ∧ (fun x => I64 x.1 ∧ (fun x => I64 x.1 ∧ WS86 x.2) x.2) x.2) := Opens.struct Try.underlying200 (by kernel_rfl) (Fields.cons rfl rfl open3 (Fields.cons rfl rfl open3 (Fields.cons rfl rfl open3 (Fields.one rfl rfl open86))))
theorem open200 : Opens Try.prog 200 k200 WF200 := Opens.iso raw200 (fun x : S200 => (x.f0, x.f1, x.f2, x.f3)) (fun p => ⟨p.1, p.2.1, p.2.2.1, p.2.2.2⟩) (fun _ => rfl)
def WS125 (xs : List (S200)) : Prop := xs.length ≤ maxLen ∧ ∀ x ∈ xs, WF200 x
theorem open125 : Opens Try.prog 125 (Kd.slice 200 k200) WS125 := Opens.slice Try.underlying125 (by kernel_rfl) open200
def WF127 (x : S127) : Prop := WS125 x.f0 ∧ I64 x.f1
theorem raw127 : Opens Try.prog 127 (Kd.pair (Kd.slice 200 k200) (Kd.int .i64)) (fun x => WS125 x.1 ∧ I64 x.2) := Opens.struct Try.underlying127 (by kernel_rfl) (Fields.cons rfl rfl open125 (Fields.one rfl rfl open3))
theorem open127 : Opens Try.prog 127 k127 WF127 := Opens.iso raw127 (fun x : S127 => (x.f0, x.f1)) (fun p => ⟨p.1, p.2⟩) (fun _ => rfl)
theorem open4 : Opens Try.prog 4 Kd.bool WBool := Opens.bool Try.underlying4 (by kernel_rfl)
def WF128 (x : S128) : Prop := I64 x.f0 ∧ I64 x.f1 ∧ I64 x.f2 ∧ WS86 x.f3 ∧ WBool x.f4
theorem raw128 : Opens Try.prog 128 (Kd.pair (Kd.int .i64) (Kd.pair (Kd.int .i64) (Kd.pair (Kd.int .i64) (Kd.pair (Kd.slice 5 (Kd.int .u8)) Kd.bool)))) (fun x => I64 x.1 ∧ (fun x => I64 x.1 ∧ (fun x => I64 x.1 ∧ (fun x => WS86 x.1 ∧ WBool x.2) x.2) x.2) x.2) := Opens.struct Try.underlying128 (by kernel_rfl) (Fields.cons rfl rfl open3 (Fields.cons rfl rfl open3 (Fields.cons rfl rfl open3 (Fields.cons rfl rfl open86 (Fields.one rfl rfl open4)))))
theorem open128 : Opens Try.prog 128 k128 WF128 := Opens.iso raw128 (fun x : S128 => (x.f0, x.f1, x.f2, x.f3, x.f4)) (fun p => ⟨p.1, p.2.1, p.2.2.1, p.2.2.2.1, p.2.2.2.2⟩) (fun _ => rfl)
def WF129 (x : S129) : Prop := I64 x.f0 ∧ I64 x.f1 ∧ I64 x.f2 ∧ I64 x.f3
theorem raw129 : Opens Try.prog 129 (Kd.pair (Kd.int .i64) (Kd.pair (Kd.int .i64) (Kd.pair (Kd.int .i64) (Kd.int .i64)))) (fun x => I64 x.1 ∧ (fun x => I64 x.1 ∧ (fun x => I64 x.1 ∧ I64 x.2) x.2) x.2) := Opens.struct Try.underlying129 (by kernel_rfl) (Fields.cons rfl rfl open3 (Fields.cons rfl rfl open3 (Fields.cons rfl rfl open3 (Fields.one rfl rfl open3))))
theorem open129 : Opens Try.prog 129 k129 WF129 := Opens.iso raw129 (fun x : S129 => (x.f0, x.f1, x.f2, x.f3)) (fun p => ⟨p.1, p.2.1, p.2.2.1, p.2.2.2⟩) (fun _ => rfl)
def WF131 (x : S131) : Prop := WF129 x.f0 ∧ I64 x.f1 ∧ I64 x.f2 ∧ I64 x.f3 ∧ I64 x.f4 ∧ I64 x.f5
theorem raw131 : Opens Try.prog 131 (Kd.pair k129 (Kd.pair (Kd.int .i64) (Kd.pair (Kd.int .i64) (Kd.pair (Kd.int .i64) (Kd.pair (Kd.int .i64) (Kd.int .i64)))))) (fun x => WF129 x.1 ∧ (fun x => I64 x.1 ∧ (fun x => I64 x.1 ∧ (fun x => I64 x.1 ∧ (fun x => I64 x.1 ∧ I64 x.2) x.2) x.2) x.2) x.2) := Opens.struct Try.underlying131 (by kernel_rfl) (Fields.cons rfl rfl open129 (Fields.cons rfl rfl open3 (Fields.cons rfl rfl open3 (Fields.cons rfl rfl open3 (Fields.cons rfl rfl open3 (Fields.one rfl rfl open3))))))
theorem open131 : Opens Try.prog 131 k131 WF131 := Opens.iso raw131 (fun x : S131 => (x.f0, x.f1, x.f2, x.f3, x.f4, x.f5)) (fun p => ⟨p.1, p.2.1, p.2.2.1, p.2.2.2.1, p.2.2.2.2.1, p.2.2.2.2.2⟩) (fun _ => rfl)
def WS132 (xs : List (S128)) : Prop := xs.length ≤ maxLen ∧ ∀ x ∈ xs, WF128 x
theorem open132 : Opens Try.prog 132 (Kd.slice 128 k128) WS132 := Opens.slice Try.underlying132 (by kernel_rfl) open128
def WF187 (x : S187) : Prop := I64 x.f0 ∧ I64 x.f1 ∧ I64 x.f2 ∧ I64 x.f3
theorem raw187 : Opens Try.prog 187 (Kd.pair (Kd.int .i64) (Kd.pair (Kd.int .i64) (Kd.pair (Kd.int .i64) (Kd.int .i64)))) (fun x => I64 x.1 ∧ (fun x => I64 x.1 ∧ (fun x => I64 x.1 ∧ I64 x.2) x.2) x.2) := Opens.struct Try.underlying187 (by kernel_rfl) (Fields.cons rfl rfl open3 (Fields.cons rfl rfl open3 (Fields.cons rfl rfl open3 (Fields.one rfl rfl open3))))
theorem open187 : Opens Try.prog 187 k187 WF187 := Opens.iso raw187 (fun x : S187 => (x.f0, x.f1, x.f2, x.f3)) (fun p => ⟨p.1, p.2.1, p.2.2.1, p.2.2.2⟩) (fun _ => rfl)
def WS133 (xs : List (S187)) : Prop := xs.length ≤ maxLen ∧ ∀ x ∈ xs, WF187 x
theorem open133 : Opens Try.prog 133 (Kd.slice 187 k187) WS133 := Opens.slice Try.underlying133 (by kernel_rfl) open187
def WF182 (x : S182) : Prop := I64 x.f0 ∧ I64 x.f1 ∧ I64 x.f2 ∧ WS86 x.f3
theorem raw182 : Opens Try.prog 182 (Kd.pair (Kd.int .i64) (Kd.pair (Kd.int .i64) (Kd.pair (Kd.int .i64) (Kd.slice 5 (Kd.int .u8))))) (fun x => I64 x.1 ∧ (fun x => I64 x.1 ∧ (fun x => I64 x.1 ∧ WS86 x.2) x.2) x.2) := Opens.struct Try.underlying182 (by kernel_rfl) (Fields.cons rfl rfl open3 (Fields.cons rfl rfl open3 (Fields.cons rfl rfl open3 (Fields.one rfl rfl open86))))
theorem open182 : Opens Try.prog 182 k182 WF182 := Opens.iso raw182 (fun x : S182 => (x.f0, x.f1, x.f2, x.f3)) (fun p => ⟨p.1, p.2.1, p.2.2.1, p.2.2.2⟩) (fun _ => rfl)
def WS134 (xs : List (S182)) : Prop := xs.length ≤ maxLen ∧ ∀ x ∈ xs, WF182 x
theorem open134 : Opens Try.prog 134 (Kd.slice 182 k182) WS134 := Opens.slice Try.underlying134 (by kernel_rfl) open182
def WF136 (x : S136) : Prop := WF127 x.f0 ∧ WBool x.f1 ∧ WF128 x.f2 ∧ WF131 x.f3 ∧ WS132 x.f4 ∧ I64 x.f5 ∧ I64 x.f6 ∧ WS133 x.f7 ∧ WS134 x.f8
theorem raw136 : Opens Try.prog 136 (Kd.pair k127 (Kd.pair Kd.bool (Kd.pair k128 (Kd.pair k131 (Kd.pair (Kd.slice 128 k128) (Kd.pair (Kd.int .i64) (Kd.pair (Kd.int .i64) (Kd.pair (Kd.slice 187 k187) (Kd.slice 182 k182))))))))) (fun x => WF127 x.1 ∧ (fun x => WBool x.1 ∧ (fun x => WF128 x.1 ∧ (fun x => WF131 x.1 ∧ (fun x => WS132 x.1 ∧ (fun x => I64 x.1 ∧ (fun x => I64 x.1 ∧ (fun x => WS133 x.1 ∧ WS134 x.2) x.2) x.2) x.2) x.2) x.2) x.2) x.2) := Opens.struct Try.underlying136 (by kernel_rfl) (Fields.cons rfl rfl open127 (Fields.cons rfl rfl open4 (Fields.cons rfl rfl open128 (Fields.cons rfl rfl open131 (Fields.cons rfl rfl open132 (Fields.cons rfl rfl open3 (Fields.cons rfl rfl open3 (Fields.cons rfl rfl open133 (Fields.one rfl rfl open134)))))))))
theorem open136 : Opens Try.prog 136 k136 WF136 := Opens.iso raw136 (fun x : S136 => (x.f0, x.f1, x.f2, x.f3, x.f4, x.f5, x.f6, x.f7, x.f8)) (fun p => ⟨p.1, p.2.1, p.2.2.1, p.2.2.2.1, p.2.2.2.2.1, p.2.2.2.2.2.1, p.2.2.2.2.2.2.1, p.2.2.2.2.2.2.2.1, p.2.2.2.2.2.2.2.2⟩) (fun _ => rfl)
def WS25 (xs : List (S136)) : Prop := xs.length ≤ maxLen ∧ ∀ x ∈ xs, WF136 x
theorem open25 : Opens Try.prog 25 (Kd.slice 136 k136) WS25 := Opens.slice Try.underlying25 (by kernel_rfl) open136
theorem flat27 : Opens Try.prog 27 (Kd.pair (Kd.pair (Kd.slice 3 (Kd.int .i64)) (Kd.pair (Kd.int .i64) (Kd.int .i64))) (Kd.pair (Kd.slice 136 k136) (Kd.pair (Kd.int .i64) (Kd.pair (Kd.int .i64) (Kd.int .i64))))) (fun x => FL24 x.1 ∧ (fun x => WS25 x.1 ∧ (fun x => I64 x.1 ∧ (fun x => I64 x.1 ∧ I64 x.2) x.2) x.2) x.2) := Opens.struct Try.underlying27 (by kernel_rfl) (Fields.cons rfl rfl flat24 (Fields.cons rfl rfl open25 (Fields.cons rfl rfl open3 (Fields.cons rfl rfl open3 (Fields.one rfl rfl open3)))))
/-- The pure statement. -/
def Pure : Prop := ∀ (l0_0 : List Int) (a0_1 : Int) (a0_2 : Int) (l0_3 : List (S136)) (a0_4 : Int) (a0_5 : Int) (a0_6 : Int), WS22 l0_0 → I64 a0_1 → I64 a0_2 → WS25 l0_3 → I64 a0_4 → I64 a0_5 → I64 a0_6 → ∃ k, laws_FnExactDeliveredOnce.f k l0_0 a0_1 a0_2 l0_3 a0_4 a0_5 a0_6 = some true
end Go.Proofs.Ytlkofdedkfmaeaa.OFnExactDeliveredOnce
