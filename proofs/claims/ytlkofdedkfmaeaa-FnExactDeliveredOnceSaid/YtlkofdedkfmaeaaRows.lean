/-
  No cell of these rows narrows 'for every input' (looked for: loops, veiled, ifaces, maps, wideKeys, modest, calm, conditions, laid).
  DERIVED. THE GIVEN ROWS OF THIS SEAT. 12 by the template 'for every input the law returns true; each argument reads behind the call as it read before'; 0 by the template 'total and deterministic' (their statements: YtlkofdedkfmaeaaTotals.lean).
  GIVEN WITH THE SEED: the statements are not yours to turn. If you find one false, say at which input.
  Laid BY PROGRAM, IN A SANDBOX (cutbox-rows.mjs): the forced cells as the released guide's own fill.sh prints them over the translation d49a3cdc53c56463… (all of the seat's roots in one cut). By AI agents, Wed Nov 11 2026. No macro, syntax, notation, axiom, sorry.
-/
import Derived.Test.YtlkofdedkfmaeaaChecked
import GoSem.Claim
import GoSem.ClaimJoined
import GoSem.ClaimMapViews
import Derived.JoinedTies
import Derived.KernelRfl
namespace Go.Proofs.Ytlkofdedkfmaeaa
/- THE CELL 'sum', in the pinned program and in every row, IS THE sha256 OF THE DUMP (.gsa) THAT YtlkofdedkfmaeaaProg.lean LOADS. Nothing in Lean hashes anything: it is a label: what it is worth is what the hold of that sum in a sandbox is worth. -/
noncomputable def Try.pinned : Pinned := { name := "ytlkofdedkfmaeaa", sum := "d49a3cdc53c564636442f90ad19c9f067ca5c1a033d03ccde43f04bf7d815b86", checked := Try.checked }
namespace Rows
def none {H : Type} : Left H := { results := [], args := [] }

/-- 'laws.FnExactUnfinishedFrames': WHATEVER THE INPUT: true; the input reads as it did. -/
def fnExactUnfinishedFramesSpec : ChangeSpec := { name := "fnExactUnfinishedFrames", fn := fun _ => fun
  | [d] => { results := [.lit (.bool true)], args := [d] }
  | _ => none }
def fnExactUnfinishedFramesRow : OpenClaim := { program := "ytlkofdedkfmaeaa", sum := "d49a3cdc53c564636442f90ad19c9f067ca5c1a033d03ccde43f04bf7d815b86", func := "loop.example/g00511/laws.FnExactUnfinishedFrames", spec := "fnExactUnfinishedFrames", apart := false }
def FnExactUnfinishedFramesSaid : Prop := fnExactUnfinishedFramesRow.holds Try.pinned (OpenSpec.ofChange fnExactUnfinishedFramesSpec)

/-- ITS FALSE NEIGHBOUR: 'it returns false'. Refute it at one input. -/
def fnExactUnfinishedFramesWrong : ChangeSpec := { name := "fnExactUnfinishedFrames", fn := fun _ => fun
  | [d] => { results := [.lit (.bool false)], args := [d] }
  | _ => none }
def FnExactUnfinishedFramesWrongFalsely : Prop := fnExactUnfinishedFramesRow.holds Try.pinned (OpenSpec.ofChange fnExactUnfinishedFramesWrong)

/-- 'laws.FnExactDeliveredOnce': WHATEVER THE INPUT: true; the input reads as it did. -/
def fnExactDeliveredOnceSpec : ChangeSpec := { name := "fnExactDeliveredOnce", fn := fun _ => fun
  | [d] => { results := [.lit (.bool true)], args := [d] }
  | _ => none }
def fnExactDeliveredOnceRow : OpenClaim := { program := "ytlkofdedkfmaeaa", sum := "d49a3cdc53c564636442f90ad19c9f067ca5c1a033d03ccde43f04bf7d815b86", func := "loop.example/g00511/laws.FnExactDeliveredOnce", spec := "fnExactDeliveredOnce", apart := false }
def FnExactDeliveredOnceSaid : Prop := fnExactDeliveredOnceRow.holds Try.pinned (OpenSpec.ofChange fnExactDeliveredOnceSpec)

/-- ITS FALSE NEIGHBOUR: 'it returns false'. Refute it at one input. -/
def fnExactDeliveredOnceWrong : ChangeSpec := { name := "fnExactDeliveredOnce", fn := fun _ => fun
  | [d] => { results := [.lit (.bool false)], args := [d] }
  | _ => none }
def FnExactDeliveredOnceWrongFalsely : Prop := fnExactDeliveredOnceRow.holds Try.pinned (OpenSpec.ofChange fnExactDeliveredOnceWrong)

/-- 'laws.FnExactIsIdleAir': WHATEVER THE INPUT: true; the input reads as it did. -/
def fnExactIsIdleAirSpec : ChangeSpec := { name := "fnExactIsIdleAir", fn := fun _ => fun
  | [d] => { results := [.lit (.bool true)], args := [d] }
  | _ => none }
def fnExactIsIdleAirRow : OpenClaim := { program := "ytlkofdedkfmaeaa", sum := "d49a3cdc53c564636442f90ad19c9f067ca5c1a033d03ccde43f04bf7d815b86", func := "loop.example/g00511/laws.FnExactIsIdleAir", spec := "fnExactIsIdleAir", apart := false }
def FnExactIsIdleAirSaid : Prop := fnExactIsIdleAirRow.holds Try.pinned (OpenSpec.ofChange fnExactIsIdleAirSpec)

/-- ITS FALSE NEIGHBOUR: 'it returns false'. Refute it at one input. -/
def fnExactIsIdleAirWrong : ChangeSpec := { name := "fnExactIsIdleAir", fn := fun _ => fun
  | [d] => { results := [.lit (.bool false)], args := [d] }
  | _ => none }
def FnExactIsIdleAirWrongFalsely : Prop := fnExactIsIdleAirRow.holds Try.pinned (OpenSpec.ofChange fnExactIsIdleAirWrong)

/-- 'laws.FnExactCountDelivered': WHATEVER THE INPUT: true; the input reads as it did. -/
def fnExactCountDeliveredSpec : ChangeSpec := { name := "fnExactCountDelivered", fn := fun _ => fun
  | [d1, d2, d3] => { results := [.lit (.bool true)], args := [d1, d2, d3] }
  | _ => none }
def fnExactCountDeliveredRow : OpenClaim := { program := "ytlkofdedkfmaeaa", sum := "d49a3cdc53c564636442f90ad19c9f067ca5c1a033d03ccde43f04bf7d815b86", func := "loop.example/g00511/laws.FnExactCountDelivered", spec := "fnExactCountDelivered", apart := false }
def FnExactCountDeliveredSaid : Prop := fnExactCountDeliveredRow.holds Try.pinned (OpenSpec.ofChange fnExactCountDeliveredSpec)

/-- ITS FALSE NEIGHBOUR: 'it returns false'. Refute it at one input. -/
def fnExactCountDeliveredWrong : ChangeSpec := { name := "fnExactCountDelivered", fn := fun _ => fun
  | [d1, d2, d3] => { results := [.lit (.bool false)], args := [d1, d2, d3] }
  | _ => none }
def FnExactCountDeliveredWrongFalsely : Prop := fnExactCountDeliveredRow.holds Try.pinned (OpenSpec.ofChange fnExactCountDeliveredWrong)

/-- 'laws.FnExactSlotBound': WHATEVER THE INPUT: true; the input reads as it did. -/
def fnExactSlotBoundSpec : ChangeSpec := { name := "fnExactSlotBound", fn := fun _ => fun
  | [d] => { results := [.lit (.bool true)], args := [d] }
  | _ => none }
def fnExactSlotBoundRow : OpenClaim := { program := "ytlkofdedkfmaeaa", sum := "d49a3cdc53c564636442f90ad19c9f067ca5c1a033d03ccde43f04bf7d815b86", func := "loop.example/g00511/laws.FnExactSlotBound", spec := "fnExactSlotBound", apart := false }
def FnExactSlotBoundSaid : Prop := fnExactSlotBoundRow.holds Try.pinned (OpenSpec.ofChange fnExactSlotBoundSpec)

/-- ITS FALSE NEIGHBOUR: 'it returns false'. Refute it at one input. -/
def fnExactSlotBoundWrong : ChangeSpec := { name := "fnExactSlotBound", fn := fun _ => fun
  | [d] => { results := [.lit (.bool false)], args := [d] }
  | _ => none }
def FnExactSlotBoundWrongFalsely : Prop := fnExactSlotBoundRow.holds Try.pinned (OpenSpec.ofChange fnExactSlotBoundWrong)

/-- 'laws.FnExactDeliveredInOrder': WHATEVER THE INPUT: true; the input reads as it did. -/
def fnExactDeliveredInOrderSpec : ChangeSpec := { name := "fnExactDeliveredInOrder", fn := fun _ => fun
  | [d1, d2, d3, d4] => { results := [.lit (.bool true)], args := [d1, d2, d3, d4] }
  | _ => none }
def fnExactDeliveredInOrderRow : OpenClaim := { program := "ytlkofdedkfmaeaa", sum := "d49a3cdc53c564636442f90ad19c9f067ca5c1a033d03ccde43f04bf7d815b86", func := "loop.example/g00511/laws.FnExactDeliveredInOrder", spec := "fnExactDeliveredInOrder", apart := false }
def FnExactDeliveredInOrderSaid : Prop := fnExactDeliveredInOrderRow.holds Try.pinned (OpenSpec.ofChange fnExactDeliveredInOrderSpec)

/-- ITS FALSE NEIGHBOUR: 'it returns false'. Refute it at one input. -/
def fnExactDeliveredInOrderWrong : ChangeSpec := { name := "fnExactDeliveredInOrder", fn := fun _ => fun
  | [d1, d2, d3, d4] => { results := [.lit (.bool false)], args := [d1, d2, d3, d4] }
  | _ => none }
def FnExactDeliveredInOrderWrongFalsely : Prop := fnExactDeliveredInOrderRow.holds Try.pinned (OpenSpec.ofChange fnExactDeliveredInOrderWrong)

/-- 'laws.FnExactEqualAirs': WHATEVER THE INPUT: true; the input reads as it did. -/
def fnExactEqualAirsSpec : ChangeSpec := { name := "fnExactEqualAirs", fn := fun _ => fun
  | [d1, d2] => { results := [.lit (.bool true)], args := [d1, d2] }
  | _ => none }
def fnExactEqualAirsRow : OpenClaim := { program := "ytlkofdedkfmaeaa", sum := "d49a3cdc53c564636442f90ad19c9f067ca5c1a033d03ccde43f04bf7d815b86", func := "loop.example/g00511/laws.FnExactEqualAirs", spec := "fnExactEqualAirs", apart := false }
def FnExactEqualAirsSaid : Prop := fnExactEqualAirsRow.holds Try.pinned (OpenSpec.ofChange fnExactEqualAirsSpec)

/-- ITS FALSE NEIGHBOUR: 'it returns false'. Refute it at one input. -/
def fnExactEqualAirsWrong : ChangeSpec := { name := "fnExactEqualAirs", fn := fun _ => fun
  | [d1, d2] => { results := [.lit (.bool false)], args := [d1, d2] }
  | _ => none }
def FnExactEqualAirsWrongFalsely : Prop := fnExactEqualAirsRow.holds Try.pinned (OpenSpec.ofChange fnExactEqualAirsWrong)

/-- 'laws.FnExactAirCounters': WHATEVER THE INPUT: true; the input reads as it did. -/
def fnExactAirCountersSpec : ChangeSpec := { name := "fnExactAirCounters", fn := fun _ => fun
  | [d] => { results := [.lit (.bool true)], args := [d] }
  | _ => none }
def fnExactAirCountersRow : OpenClaim := { program := "ytlkofdedkfmaeaa", sum := "d49a3cdc53c564636442f90ad19c9f067ca5c1a033d03ccde43f04bf7d815b86", func := "loop.example/g00511/laws.FnExactAirCounters", spec := "fnExactAirCounters", apart := false }
def FnExactAirCountersSaid : Prop := fnExactAirCountersRow.holds Try.pinned (OpenSpec.ofChange fnExactAirCountersSpec)

/-- ITS FALSE NEIGHBOUR: 'it returns false'. Refute it at one input. -/
def fnExactAirCountersWrong : ChangeSpec := { name := "fnExactAirCounters", fn := fun _ => fun
  | [d] => { results := [.lit (.bool false)], args := [d] }
  | _ => none }
def FnExactAirCountersWrongFalsely : Prop := fnExactAirCountersRow.holds Try.pinned (OpenSpec.ofChange fnExactAirCountersWrong)

/-- 'laws.FnExactAuditAir': WHATEVER THE INPUT: true; the input reads as it did. -/
def fnExactAuditAirSpec : ChangeSpec := { name := "fnExactAuditAir", fn := fun _ => fun
  | [d] => { results := [.lit (.bool true)], args := [d] }
  | _ => none }
def fnExactAuditAirRow : OpenClaim := { program := "ytlkofdedkfmaeaa", sum := "d49a3cdc53c564636442f90ad19c9f067ca5c1a033d03ccde43f04bf7d815b86", func := "loop.example/g00511/laws.FnExactAuditAir", spec := "fnExactAuditAir", apart := false }
def FnExactAuditAirSaid : Prop := fnExactAuditAirRow.holds Try.pinned (OpenSpec.ofChange fnExactAuditAirSpec)

/-- ITS FALSE NEIGHBOUR: 'it returns false'. Refute it at one input. -/
def fnExactAuditAirWrong : ChangeSpec := { name := "fnExactAuditAir", fn := fun _ => fun
  | [d] => { results := [.lit (.bool false)], args := [d] }
  | _ => none }
def FnExactAuditAirWrongFalsely : Prop := fnExactAuditAirRow.holds Try.pinned (OpenSpec.ofChange fnExactAuditAirWrong)

/-- 'laws.FnExactNewAir': WHATEVER THE INPUT: true; the input reads as it did. -/
def fnExactNewAirSpec : ChangeSpec := { name := "fnExactNewAir", fn := fun _ => fun
  | [d1, d2] => { results := [.lit (.bool true)], args := [d1, d2] }
  | _ => none }
def fnExactNewAirRow : OpenClaim := { program := "ytlkofdedkfmaeaa", sum := "d49a3cdc53c564636442f90ad19c9f067ca5c1a033d03ccde43f04bf7d815b86", func := "loop.example/g00511/laws.FnExactNewAir", spec := "fnExactNewAir", apart := false }
def FnExactNewAirSaid : Prop := fnExactNewAirRow.holds Try.pinned (OpenSpec.ofChange fnExactNewAirSpec)

/-- ITS FALSE NEIGHBOUR: 'it returns false'. Refute it at one input. -/
def fnExactNewAirWrong : ChangeSpec := { name := "fnExactNewAir", fn := fun _ => fun
  | [d1, d2] => { results := [.lit (.bool false)], args := [d1, d2] }
  | _ => none }
def FnExactNewAirWrongFalsely : Prop := fnExactNewAirRow.holds Try.pinned (OpenSpec.ofChange fnExactNewAirWrong)

/-- 'laws.FnExactMakeNodes': WHATEVER THE INPUT: true; the input reads as it did. -/
def fnExactMakeNodesSpec : ChangeSpec := { name := "fnExactMakeNodes", fn := fun _ => fun
  | [d] => { results := [.lit (.bool true)], args := [d] }
  | _ => none }
def fnExactMakeNodesRow : OpenClaim := { program := "ytlkofdedkfmaeaa", sum := "d49a3cdc53c564636442f90ad19c9f067ca5c1a033d03ccde43f04bf7d815b86", func := "loop.example/g00511/laws.FnExactMakeNodes", spec := "fnExactMakeNodes", apart := false }
def FnExactMakeNodesSaid : Prop := fnExactMakeNodesRow.holds Try.pinned (OpenSpec.ofChange fnExactMakeNodesSpec)

/-- ITS FALSE NEIGHBOUR: 'it returns false'. Refute it at one input. -/
def fnExactMakeNodesWrong : ChangeSpec := { name := "fnExactMakeNodes", fn := fun _ => fun
  | [d] => { results := [.lit (.bool false)], args := [d] }
  | _ => none }
def FnExactMakeNodesWrongFalsely : Prop := fnExactMakeNodesRow.holds Try.pinned (OpenSpec.ofChange fnExactMakeNodesWrong)

/-- 'laws.FnExactHearRequest': WHATEVER THE INPUT: true; the input reads as it did. -/
def fnExactHearRequestSpec : ChangeSpec := { name := "fnExactHearRequest", fn := fun _ => fun
  | [d1, d2, d3, d4] => { results := [.lit (.bool true)], args := [d1, d2, d3, d4] }
  | _ => none }
def fnExactHearRequestRow : OpenClaim := { program := "ytlkofdedkfmaeaa", sum := "d49a3cdc53c564636442f90ad19c9f067ca5c1a033d03ccde43f04bf7d815b86", func := "loop.example/g00511/laws.FnExactHearRequest", spec := "fnExactHearRequest", apart := false }
def FnExactHearRequestSaid : Prop := fnExactHearRequestRow.holds Try.pinned (OpenSpec.ofChange fnExactHearRequestSpec)

/-- ITS FALSE NEIGHBOUR: 'it returns false'. Refute it at one input. -/
def fnExactHearRequestWrong : ChangeSpec := { name := "fnExactHearRequest", fn := fun _ => fun
  | [d1, d2, d3, d4] => { results := [.lit (.bool false)], args := [d1, d2, d3, d4] }
  | _ => none }
def FnExactHearRequestWrongFalsely : Prop := fnExactHearRequestRow.holds Try.pinned (OpenSpec.ofChange fnExactHearRequestWrong)

/- THE SECOND FORM. 'bulk': how many values and letters a reading holds, each counted each time it is reached (what is shared counts as often as it is met; a slice's spare places count too). A statement '..UptoSaid' is the law's where the arguments, and the package variables that the reading takes, are together of bulk at most 1048576: NARROWER than '..Said'. Prove '..Said' where nothing that the law and all that it calls make is longer than what came in: it says more and counts as full. Else prove '..UptoSaid'. A law counts once. -/
mutual
def uptoBulk {H : Type} : DataW H → Nat
  | .lit (.string bytes) => bytes.length + 1
  | .lit _ => 1
  | .nil => 1
  | .ptr d => uptoBulk d + 1
  | .slice elems spare => uptoBulkAll elems + uptoBulkAll spare + 1
  | .agg parts => uptoBulkAll parts + 1
  | .iface _ d => uptoBulk d + 1
  | .map entries => uptoBulkEntries entries + 1
  | .held _ => 1
def uptoBulkAll {H : Type} : List (DataW H) → Nat
  | [] => 0
  | d :: r => uptoBulk d + uptoBulkAll r
def uptoBulkEntries {H : Type} : List (Lit × DataW H) → Nat
  | [] => 0
  | x :: r => uptoBulkEntry x + uptoBulkEntries r
def uptoBulkEntry {H : Type} : Lit × DataW H → Nat
  | (.string bytes, d) => bytes.length + uptoBulk d + 1
  | (_, d) => uptoBulk d + 1
 end
def uptoSmall : (H : Type) → List (DataW H) → Bool := fun _ ds => decide (uptoBulkAll ds ≤ 1048576)
def OpenSpec.upto (s : _root_.Go.ChangeSpec) : _root_.Go.OpenSpec := { _root_.Go.OpenSpec.ofChange s with cond := some uptoSmall }

/-- 'laws.FnExactUnfinishedFrames', WHERE WHAT IT READS IS OF BULK AT MOST 1048576: true; the input reads as it did. -/
def fnExactUnfinishedFramesUptoRow : OpenClaim := { program := "ytlkofdedkfmaeaa", sum := "d49a3cdc53c564636442f90ad19c9f067ca5c1a033d03ccde43f04bf7d815b86", func := "loop.example/g00511/laws.FnExactUnfinishedFrames", spec := "fnExactUnfinishedFrames", apart := false, narrowed := true }
def FnExactUnfinishedFramesUptoSaid : Prop := fnExactUnfinishedFramesUptoRow.holds Try.pinned (OpenSpec.upto fnExactUnfinishedFramesSpec)

/-- 'laws.FnExactDeliveredOnce', WHERE WHAT IT READS IS OF BULK AT MOST 1048576: true; the input reads as it did. -/
def fnExactDeliveredOnceUptoRow : OpenClaim := { program := "ytlkofdedkfmaeaa", sum := "d49a3cdc53c564636442f90ad19c9f067ca5c1a033d03ccde43f04bf7d815b86", func := "loop.example/g00511/laws.FnExactDeliveredOnce", spec := "fnExactDeliveredOnce", apart := false, narrowed := true }
def FnExactDeliveredOnceUptoSaid : Prop := fnExactDeliveredOnceUptoRow.holds Try.pinned (OpenSpec.upto fnExactDeliveredOnceSpec)

/-- 'laws.FnExactIsIdleAir', WHERE WHAT IT READS IS OF BULK AT MOST 1048576: true; the input reads as it did. -/
def fnExactIsIdleAirUptoRow : OpenClaim := { program := "ytlkofdedkfmaeaa", sum := "d49a3cdc53c564636442f90ad19c9f067ca5c1a033d03ccde43f04bf7d815b86", func := "loop.example/g00511/laws.FnExactIsIdleAir", spec := "fnExactIsIdleAir", apart := false, narrowed := true }
def FnExactIsIdleAirUptoSaid : Prop := fnExactIsIdleAirUptoRow.holds Try.pinned (OpenSpec.upto fnExactIsIdleAirSpec)

/-- 'laws.FnExactCountDelivered', WHERE WHAT IT READS IS OF BULK AT MOST 1048576: true; the input reads as it did. -/
def fnExactCountDeliveredUptoRow : OpenClaim := { program := "ytlkofdedkfmaeaa", sum := "d49a3cdc53c564636442f90ad19c9f067ca5c1a033d03ccde43f04bf7d815b86", func := "loop.example/g00511/laws.FnExactCountDelivered", spec := "fnExactCountDelivered", apart := false, narrowed := true }
def FnExactCountDeliveredUptoSaid : Prop := fnExactCountDeliveredUptoRow.holds Try.pinned (OpenSpec.upto fnExactCountDeliveredSpec)

/-- 'laws.FnExactSlotBound', WHERE WHAT IT READS IS OF BULK AT MOST 1048576: true; the input reads as it did. -/
def fnExactSlotBoundUptoRow : OpenClaim := { program := "ytlkofdedkfmaeaa", sum := "d49a3cdc53c564636442f90ad19c9f067ca5c1a033d03ccde43f04bf7d815b86", func := "loop.example/g00511/laws.FnExactSlotBound", spec := "fnExactSlotBound", apart := false, narrowed := true }
def FnExactSlotBoundUptoSaid : Prop := fnExactSlotBoundUptoRow.holds Try.pinned (OpenSpec.upto fnExactSlotBoundSpec)

/-- 'laws.FnExactDeliveredInOrder', WHERE WHAT IT READS IS OF BULK AT MOST 1048576: true; the input reads as it did. -/
def fnExactDeliveredInOrderUptoRow : OpenClaim := { program := "ytlkofdedkfmaeaa", sum := "d49a3cdc53c564636442f90ad19c9f067ca5c1a033d03ccde43f04bf7d815b86", func := "loop.example/g00511/laws.FnExactDeliveredInOrder", spec := "fnExactDeliveredInOrder", apart := false, narrowed := true }
def FnExactDeliveredInOrderUptoSaid : Prop := fnExactDeliveredInOrderUptoRow.holds Try.pinned (OpenSpec.upto fnExactDeliveredInOrderSpec)

/-- 'laws.FnExactEqualAirs', WHERE WHAT IT READS IS OF BULK AT MOST 1048576: true; the input reads as it did. -/
def fnExactEqualAirsUptoRow : OpenClaim := { program := "ytlkofdedkfmaeaa", sum := "d49a3cdc53c564636442f90ad19c9f067ca5c1a033d03ccde43f04bf7d815b86", func := "loop.example/g00511/laws.FnExactEqualAirs", spec := "fnExactEqualAirs", apart := false, narrowed := true }
def FnExactEqualAirsUptoSaid : Prop := fnExactEqualAirsUptoRow.holds Try.pinned (OpenSpec.upto fnExactEqualAirsSpec)

/-- 'laws.FnExactAirCounters', WHERE WHAT IT READS IS OF BULK AT MOST 1048576: true; the input reads as it did. -/
def fnExactAirCountersUptoRow : OpenClaim := { program := "ytlkofdedkfmaeaa", sum := "d49a3cdc53c564636442f90ad19c9f067ca5c1a033d03ccde43f04bf7d815b86", func := "loop.example/g00511/laws.FnExactAirCounters", spec := "fnExactAirCounters", apart := false, narrowed := true }
def FnExactAirCountersUptoSaid : Prop := fnExactAirCountersUptoRow.holds Try.pinned (OpenSpec.upto fnExactAirCountersSpec)

/-- 'laws.FnExactAuditAir', WHERE WHAT IT READS IS OF BULK AT MOST 1048576: true; the input reads as it did. -/
def fnExactAuditAirUptoRow : OpenClaim := { program := "ytlkofdedkfmaeaa", sum := "d49a3cdc53c564636442f90ad19c9f067ca5c1a033d03ccde43f04bf7d815b86", func := "loop.example/g00511/laws.FnExactAuditAir", spec := "fnExactAuditAir", apart := false, narrowed := true }
def FnExactAuditAirUptoSaid : Prop := fnExactAuditAirUptoRow.holds Try.pinned (OpenSpec.upto fnExactAuditAirSpec)

/-- 'laws.FnExactNewAir', WHERE WHAT IT READS IS OF BULK AT MOST 1048576: true; the input reads as it did. -/
def fnExactNewAirUptoRow : OpenClaim := { program := "ytlkofdedkfmaeaa", sum := "d49a3cdc53c564636442f90ad19c9f067ca5c1a033d03ccde43f04bf7d815b86", func := "loop.example/g00511/laws.FnExactNewAir", spec := "fnExactNewAir", apart := false, narrowed := true }
def FnExactNewAirUptoSaid : Prop := fnExactNewAirUptoRow.holds Try.pinned (OpenSpec.upto fnExactNewAirSpec)

/-- 'laws.FnExactMakeNodes', WHERE WHAT IT READS IS OF BULK AT MOST 1048576: true; the input reads as it did. -/
def fnExactMakeNodesUptoRow : OpenClaim := { program := "ytlkofdedkfmaeaa", sum := "d49a3cdc53c564636442f90ad19c9f067ca5c1a033d03ccde43f04bf7d815b86", func := "loop.example/g00511/laws.FnExactMakeNodes", spec := "fnExactMakeNodes", apart := false, narrowed := true }
def FnExactMakeNodesUptoSaid : Prop := fnExactMakeNodesUptoRow.holds Try.pinned (OpenSpec.upto fnExactMakeNodesSpec)

/-- 'laws.FnExactHearRequest', WHERE WHAT IT READS IS OF BULK AT MOST 1048576: true; the input reads as it did. -/
def fnExactHearRequestUptoRow : OpenClaim := { program := "ytlkofdedkfmaeaa", sum := "d49a3cdc53c564636442f90ad19c9f067ca5c1a033d03ccde43f04bf7d815b86", func := "loop.example/g00511/laws.FnExactHearRequest", spec := "fnExactHearRequest", apart := false, narrowed := true }
def FnExactHearRequestUptoSaid : Prop := fnExactHearRequestUptoRow.holds Try.pinned (OpenSpec.upto fnExactHearRequestSpec)

end Rows
end Go.Proofs.Ytlkofdedkfmaeaa
