/-
  No cell of these rows narrows 'for every input' (looked for: loops, veiled, ifaces, maps, wideKeys, modest, calm, conditions, laid).
  DERIVED. THE GIVEN ROWS OF THIS SEAT. 12 by the template 'for every input the law returns true; each argument reads behind the call as it read before'; 0 by the template 'total and deterministic' (their statements: YtohniomkenkdmaaTotals.lean).
  GIVEN WITH THE SEED: the statements are not yours to turn. If you find one false, say at which input.
  Laid BY PROGRAM, IN A SANDBOX (cutbox-rows.mjs): the forced cells as the released guide's own fill.sh prints them over the translation 884fdde4200672f7… (all of the seat's roots in one cut). By AI agents, Wed Nov 11 2026. No macro, syntax, notation, axiom, sorry.
-/
import Derived.Test.YtohniomkenkdmaaChecked
import GoSem.Claim
import GoSem.ClaimJoined
import GoSem.ClaimMapViews
import Derived.JoinedTies
import Derived.KernelRfl
namespace Go.Proofs.Ytohniomkenkdmaa
/- THE CELL 'sum', in the pinned program and in every row, IS THE sha256 OF THE DUMP (.gsa) THAT YtohniomkenkdmaaProg.lean LOADS. Nothing in Lean hashes anything: it is a label: what it is worth is what the hold of that sum in a sandbox is worth. -/
noncomputable def Try.pinned : Pinned := { name := "ytohniomkenkdmaa", sum := "884fdde4200672f7097f6c5e950c65bb383dab4ee30d550021974c49e42a0355", checked := Try.checked }
namespace Rows
def none {H : Type} : Left H := { results := [], args := [] }

/-- 'laws.FnExactPathEntryFor': WHATEVER THE INPUT: true; the input reads as it did. -/
def fnExactPathEntryForSpec : ChangeSpec := { name := "fnExactPathEntryFor", fn := fun _ => fun
  | [d1, d2] => { results := [.lit (.bool true)], args := [d1, d2] }
  | _ => none }
def fnExactPathEntryForRow : OpenClaim := { program := "ytohniomkenkdmaa", sum := "884fdde4200672f7097f6c5e950c65bb383dab4ee30d550021974c49e42a0355", func := "loop.example/g00511/laws.FnExactPathEntryFor", spec := "fnExactPathEntryFor", apart := false }
def FnExactPathEntryForSaid : Prop := fnExactPathEntryForRow.holds Try.pinned (OpenSpec.ofChange fnExactPathEntryForSpec)

/-- ITS FALSE NEIGHBOUR: 'it returns false'. Refute it at one input. -/
def fnExactPathEntryForWrong : ChangeSpec := { name := "fnExactPathEntryFor", fn := fun _ => fun
  | [d1, d2] => { results := [.lit (.bool false)], args := [d1, d2] }
  | _ => none }
def FnExactPathEntryForWrongFalsely : Prop := fnExactPathEntryForRow.holds Try.pinned (OpenSpec.ofChange fnExactPathEntryForWrong)

/-- 'laws.FnExactReceiveReply': WHATEVER THE INPUT: true; the input reads as it did. -/
def fnExactReceiveReplySpec : ChangeSpec := { name := "fnExactReceiveReply", fn := fun _ => fun
  | [d1, d2, d3] => { results := [.lit (.bool true)], args := [d1, d2, d3] }
  | _ => none }
def fnExactReceiveReplyRow : OpenClaim := { program := "ytohniomkenkdmaa", sum := "884fdde4200672f7097f6c5e950c65bb383dab4ee30d550021974c49e42a0355", func := "loop.example/g00511/laws.FnExactReceiveReply", spec := "fnExactReceiveReply", apart := false }
def FnExactReceiveReplySaid : Prop := fnExactReceiveReplyRow.holds Try.pinned (OpenSpec.ofChange fnExactReceiveReplySpec)

/-- ITS FALSE NEIGHBOUR: 'it returns false'. Refute it at one input. -/
def fnExactReceiveReplyWrong : ChangeSpec := { name := "fnExactReceiveReply", fn := fun _ => fun
  | [d1, d2, d3] => { results := [.lit (.bool false)], args := [d1, d2, d3] }
  | _ => none }
def FnExactReceiveReplyWrongFalsely : Prop := fnExactReceiveReplyRow.holds Try.pinned (OpenSpec.ofChange fnExactReceiveReplyWrong)

/-- 'laws.FnTransitions': WHATEVER THE INPUT: true; the input reads as it did. -/
def fnTransitionsSpec : ChangeSpec := { name := "fnTransitions", fn := fun _ => fun
  | [d] => { results := [.lit (.bool true)], args := [d] }
  | _ => none }
def fnTransitionsRow : OpenClaim := { program := "ytohniomkenkdmaa", sum := "884fdde4200672f7097f6c5e950c65bb383dab4ee30d550021974c49e42a0355", func := "loop.example/g00511/laws.FnTransitions", spec := "fnTransitions", apart := false }
def FnTransitionsSaid : Prop := fnTransitionsRow.holds Try.pinned (OpenSpec.ofChange fnTransitionsSpec)

/-- ITS FALSE NEIGHBOUR: 'it returns false'. Refute it at one input. -/
def fnTransitionsWrong : ChangeSpec := { name := "fnTransitions", fn := fun _ => fun
  | [d] => { results := [.lit (.bool false)], args := [d] }
  | _ => none }
def FnTransitionsWrongFalsely : Prop := fnTransitionsRow.holds Try.pinned (OpenSpec.ofChange fnTransitionsWrong)

/-- 'laws.FnExactExpireEntries': WHATEVER THE INPUT: true; the input reads as it did. -/
def fnExactExpireEntriesSpec : ChangeSpec := { name := "fnExactExpireEntries", fn := fun _ => fun
  | [d1, d2] => { results := [.lit (.bool true)], args := [d1, d2] }
  | _ => none }
def fnExactExpireEntriesRow : OpenClaim := { program := "ytohniomkenkdmaa", sum := "884fdde4200672f7097f6c5e950c65bb383dab4ee30d550021974c49e42a0355", func := "loop.example/g00511/laws.FnExactExpireEntries", spec := "fnExactExpireEntries", apart := false }
def FnExactExpireEntriesSaid : Prop := fnExactExpireEntriesRow.holds Try.pinned (OpenSpec.ofChange fnExactExpireEntriesSpec)

/-- ITS FALSE NEIGHBOUR: 'it returns false'. Refute it at one input. -/
def fnExactExpireEntriesWrong : ChangeSpec := { name := "fnExactExpireEntries", fn := fun _ => fun
  | [d1, d2] => { results := [.lit (.bool false)], args := [d1, d2] }
  | _ => none }
def FnExactExpireEntriesWrongFalsely : Prop := fnExactExpireEntriesRow.holds Try.pinned (OpenSpec.ofChange fnExactExpireEntriesWrong)

/-- 'laws.FnExactWithoutNode': WHATEVER THE INPUT: true; the input reads as it did. -/
def fnExactWithoutNodeSpec : ChangeSpec := { name := "fnExactWithoutNode", fn := fun _ => fun
  | [d1, d2] => { results := [.lit (.bool true)], args := [d1, d2] }
  | _ => none }
def fnExactWithoutNodeRow : OpenClaim := { program := "ytohniomkenkdmaa", sum := "884fdde4200672f7097f6c5e950c65bb383dab4ee30d550021974c49e42a0355", func := "loop.example/g00511/laws.FnExactWithoutNode", spec := "fnExactWithoutNode", apart := false }
def FnExactWithoutNodeSaid : Prop := fnExactWithoutNodeRow.holds Try.pinned (OpenSpec.ofChange fnExactWithoutNodeSpec)

/-- ITS FALSE NEIGHBOUR: 'it returns false'. Refute it at one input. -/
def fnExactWithoutNodeWrong : ChangeSpec := { name := "fnExactWithoutNode", fn := fun _ => fun
  | [d1, d2] => { results := [.lit (.bool false)], args := [d1, d2] }
  | _ => none }
def FnExactWithoutNodeWrongFalsely : Prop := fnExactWithoutNodeRow.holds Try.pinned (OpenSpec.ofChange fnExactWithoutNodeWrong)

/-- 'laws.FnExactDropNextHop': WHATEVER THE INPUT: true; the input reads as it did. -/
def fnExactDropNextHopSpec : ChangeSpec := { name := "fnExactDropNextHop", fn := fun _ => fun
  | [d1, d2] => { results := [.lit (.bool true)], args := [d1, d2] }
  | _ => none }
def fnExactDropNextHopRow : OpenClaim := { program := "ytohniomkenkdmaa", sum := "884fdde4200672f7097f6c5e950c65bb383dab4ee30d550021974c49e42a0355", func := "loop.example/g00511/laws.FnExactDropNextHop", spec := "fnExactDropNextHop", apart := false }
def FnExactDropNextHopSaid : Prop := fnExactDropNextHopRow.holds Try.pinned (OpenSpec.ofChange fnExactDropNextHopSpec)

/-- ITS FALSE NEIGHBOUR: 'it returns false'. Refute it at one input. -/
def fnExactDropNextHopWrong : ChangeSpec := { name := "fnExactDropNextHop", fn := fun _ => fun
  | [d1, d2] => { results := [.lit (.bool false)], args := [d1, d2] }
  | _ => none }
def FnExactDropNextHopWrongFalsely : Prop := fnExactDropNextHopRow.holds Try.pinned (OpenSpec.ofChange fnExactDropNextHopWrong)

/-- 'laws.FnExactDistributeKeys': WHATEVER THE INPUT: true; the input reads as it did. -/
def fnExactDistributeKeysSpec : ChangeSpec := { name := "fnExactDistributeKeys", fn := fun _ => fun
  | [d1, d2, d3] => { results := [.lit (.bool true)], args := [d1, d2, d3] }
  | _ => none }
def fnExactDistributeKeysRow : OpenClaim := { program := "ytohniomkenkdmaa", sum := "884fdde4200672f7097f6c5e950c65bb383dab4ee30d550021974c49e42a0355", func := "loop.example/g00511/laws.FnExactDistributeKeys", spec := "fnExactDistributeKeys", apart := false }
def FnExactDistributeKeysSaid : Prop := fnExactDistributeKeysRow.holds Try.pinned (OpenSpec.ofChange fnExactDistributeKeysSpec)

/-- ITS FALSE NEIGHBOUR: 'it returns false'. Refute it at one input. -/
def fnExactDistributeKeysWrong : ChangeSpec := { name := "fnExactDistributeKeys", fn := fun _ => fun
  | [d1, d2, d3] => { results := [.lit (.bool false)], args := [d1, d2, d3] }
  | _ => none }
def FnExactDistributeKeysWrongFalsely : Prop := fnExactDistributeKeysRow.holds Try.pinned (OpenSpec.ofChange fnExactDistributeKeysWrong)

/-- 'laws.FnExactMetricBetween': WHATEVER THE INPUT: true; the input reads as it did. -/
def fnExactMetricBetweenSpec : ChangeSpec := { name := "fnExactMetricBetween", fn := fun _ => fun
  | [d1, d2, d3] => { results := [.lit (.bool true)], args := [d1, d2, d3] }
  | _ => none }
def fnExactMetricBetweenRow : OpenClaim := { program := "ytohniomkenkdmaa", sum := "884fdde4200672f7097f6c5e950c65bb383dab4ee30d550021974c49e42a0355", func := "loop.example/g00511/laws.FnExactMetricBetween", spec := "fnExactMetricBetween", apart := false }
def FnExactMetricBetweenSaid : Prop := fnExactMetricBetweenRow.holds Try.pinned (OpenSpec.ofChange fnExactMetricBetweenSpec)

/-- ITS FALSE NEIGHBOUR: 'it returns false'. Refute it at one input. -/
def fnExactMetricBetweenWrong : ChangeSpec := { name := "fnExactMetricBetween", fn := fun _ => fun
  | [d1, d2, d3] => { results := [.lit (.bool false)], args := [d1, d2, d3] }
  | _ => none }
def FnExactMetricBetweenWrongFalsely : Prop := fnExactMetricBetweenRow.holds Try.pinned (OpenSpec.ofChange fnExactMetricBetweenWrong)

/-- 'laws.FnExactReceiveRequest': WHATEVER THE INPUT: true; the input reads as it did. -/
def fnExactReceiveRequestSpec : ChangeSpec := { name := "fnExactReceiveRequest", fn := fun _ => fun
  | [d1, d2, d3, d4] => { results := [.lit (.bool true)], args := [d1, d2, d3, d4] }
  | _ => none }
def fnExactReceiveRequestRow : OpenClaim := { program := "ytohniomkenkdmaa", sum := "884fdde4200672f7097f6c5e950c65bb383dab4ee30d550021974c49e42a0355", func := "loop.example/g00511/laws.FnExactReceiveRequest", spec := "fnExactReceiveRequest", apart := false }
def FnExactReceiveRequestSaid : Prop := fnExactReceiveRequestRow.holds Try.pinned (OpenSpec.ofChange fnExactReceiveRequestSpec)

/-- ITS FALSE NEIGHBOUR: 'it returns false'. Refute it at one input. -/
def fnExactReceiveRequestWrong : ChangeSpec := { name := "fnExactReceiveRequest", fn := fun _ => fun
  | [d1, d2, d3, d4] => { results := [.lit (.bool false)], args := [d1, d2, d3, d4] }
  | _ => none }
def FnExactReceiveRequestWrongFalsely : Prop := fnExactReceiveRequestRow.holds Try.pinned (OpenSpec.ofChange fnExactReceiveRequestWrong)

/-- 'laws.FnExactLearnStation': WHATEVER THE INPUT: true; the input reads as it did. -/
def fnExactLearnStationSpec : ChangeSpec := { name := "fnExactLearnStation", fn := fun _ => fun
  | [d1, d2, d3, d4] => { results := [.lit (.bool true)], args := [d1, d2, d3, d4] }
  | _ => none }
def fnExactLearnStationRow : OpenClaim := { program := "ytohniomkenkdmaa", sum := "884fdde4200672f7097f6c5e950c65bb383dab4ee30d550021974c49e42a0355", func := "loop.example/g00511/laws.FnExactLearnStation", spec := "fnExactLearnStation", apart := false }
def FnExactLearnStationSaid : Prop := fnExactLearnStationRow.holds Try.pinned (OpenSpec.ofChange fnExactLearnStationSpec)

/-- ITS FALSE NEIGHBOUR: 'it returns false'. Refute it at one input. -/
def fnExactLearnStationWrong : ChangeSpec := { name := "fnExactLearnStation", fn := fun _ => fun
  | [d1, d2, d3, d4] => { results := [.lit (.bool false)], args := [d1, d2, d3, d4] }
  | _ => none }
def FnExactLearnStationWrongFalsely : Prop := fnExactLearnStationRow.holds Try.pinned (OpenSpec.ofChange fnExactLearnStationWrong)

/-- 'laws.FnPathUpdates': WHATEVER THE INPUT: true; the input reads as it did. -/
def fnPathUpdatesSpec : ChangeSpec := { name := "fnPathUpdates", fn := fun _ => fun
  | [d] => { results := [.lit (.bool true)], args := [d] }
  | _ => none }
def fnPathUpdatesRow : OpenClaim := { program := "ytohniomkenkdmaa", sum := "884fdde4200672f7097f6c5e950c65bb383dab4ee30d550021974c49e42a0355", func := "loop.example/g00511/laws.FnPathUpdates", spec := "fnPathUpdates", apart := false }
def FnPathUpdatesSaid : Prop := fnPathUpdatesRow.holds Try.pinned (OpenSpec.ofChange fnPathUpdatesSpec)

/-- ITS FALSE NEIGHBOUR: 'it returns false'. Refute it at one input. -/
def fnPathUpdatesWrong : ChangeSpec := { name := "fnPathUpdates", fn := fun _ => fun
  | [d] => { results := [.lit (.bool false)], args := [d] }
  | _ => none }
def FnPathUpdatesWrongFalsely : Prop := fnPathUpdatesRow.holds Try.pinned (OpenSpec.ofChange fnPathUpdatesWrong)

/-- 'laws.FnBridge': WHATEVER THE INPUT: true; the input reads as it did. -/
def fnBridgeSpec : ChangeSpec := { name := "fnBridge", fn := fun _ => fun
  | [d] => { results := [.lit (.bool true)], args := [d] }
  | _ => none }
def fnBridgeRow : OpenClaim := { program := "ytohniomkenkdmaa", sum := "884fdde4200672f7097f6c5e950c65bb383dab4ee30d550021974c49e42a0355", func := "loop.example/g00511/laws.FnBridge", spec := "fnBridge", apart := false }
def FnBridgeSaid : Prop := fnBridgeRow.holds Try.pinned (OpenSpec.ofChange fnBridgeSpec)

/-- ITS FALSE NEIGHBOUR: 'it returns false'. Refute it at one input. -/
def fnBridgeWrong : ChangeSpec := { name := "fnBridge", fn := fun _ => fun
  | [d] => { results := [.lit (.bool false)], args := [d] }
  | _ => none }
def FnBridgeWrongFalsely : Prop := fnBridgeRow.holds Try.pinned (OpenSpec.ofChange fnBridgeWrong)

/- THE SECOND FORM. 'bulk': how many values and letters a reading holds, each counted each time it is reached (what is shared counts as often as it is met; a slice's spare places count too). A statement '..UptoSaid' is the law's where the arguments, and the package variables that the reading takes, are together of bulk at most 1048576: NARROWER than '..Said'. Prove '..Said' where nothing that the law and all that it calls make is longer than what came in: it says more and counts as full. Else prove '..UptoSaid'. A law counts once. -/
mutual
def uptoBulk {H : Type} : DataW H → Nat
  | .lit (.string bytes) => bytes.length + 1
  | .lit _ => 1
  | .nil => 1
  | .ptr d => uptoBulk d + 1
  | .slice elems spare => uptoBulkAll elems + uptoBulkAll spare + 1
  | .agg parts => uptoBulkAll parts + 1
  | .iface _ d => uptoBulk d + 1
  | .map entries => uptoBulkEntries entries + 1
  | .held _ => 1
def uptoBulkAll {H : Type} : List (DataW H) → Nat
  | [] => 0
  | d :: r => uptoBulk d + uptoBulkAll r
def uptoBulkEntries {H : Type} : List (Lit × DataW H) → Nat
  | [] => 0
  | x :: r => uptoBulkEntry x + uptoBulkEntries r
def uptoBulkEntry {H : Type} : Lit × DataW H → Nat
  | (.string bytes, d) => bytes.length + uptoBulk d + 1
  | (_, d) => uptoBulk d + 1
 end
def uptoSmall : (H : Type) → List (DataW H) → Bool := fun _ ds => decide (uptoBulkAll ds ≤ 1048576)
def OpenSpec.upto (s : _root_.Go.ChangeSpec) : _root_.Go.OpenSpec := { _root_.Go.OpenSpec.ofChange s with cond := some uptoSmall }

/-- 'laws.FnExactPathEntryFor', WHERE WHAT IT READS IS OF BULK AT MOST 1048576: true; the input reads as it did. -/
def fnExactPathEntryForUptoRow : OpenClaim := { program := "ytohniomkenkdmaa", sum := "884fdde4200672f7097f6c5e950c65bb383dab4ee30d550021974c49e42a0355", func := "loop.example/g00511/laws.FnExactPathEntryFor", spec := "fnExactPathEntryFor", apart := false, narrowed := true }
def FnExactPathEntryForUptoSaid : Prop := fnExactPathEntryForUptoRow.holds Try.pinned (OpenSpec.upto fnExactPathEntryForSpec)

/-- 'laws.FnExactReceiveReply', WHERE WHAT IT READS IS OF BULK AT MOST 1048576: true; the input reads as it did. -/
def fnExactReceiveReplyUptoRow : OpenClaim := { program := "ytohniomkenkdmaa", sum := "884fdde4200672f7097f6c5e950c65bb383dab4ee30d550021974c49e42a0355", func := "loop.example/g00511/laws.FnExactReceiveReply", spec := "fnExactReceiveReply", apart := false, narrowed := true }
def FnExactReceiveReplyUptoSaid : Prop := fnExactReceiveReplyUptoRow.holds Try.pinned (OpenSpec.upto fnExactReceiveReplySpec)

/-- 'laws.FnTransitions', WHERE WHAT IT READS IS OF BULK AT MOST 1048576: true; the input reads as it did. -/
def fnTransitionsUptoRow : OpenClaim := { program := "ytohniomkenkdmaa", sum := "884fdde4200672f7097f6c5e950c65bb383dab4ee30d550021974c49e42a0355", func := "loop.example/g00511/laws.FnTransitions", spec := "fnTransitions", apart := false, narrowed := true }
def FnTransitionsUptoSaid : Prop := fnTransitionsUptoRow.holds Try.pinned (OpenSpec.upto fnTransitionsSpec)

/-- 'laws.FnExactExpireEntries', WHERE WHAT IT READS IS OF BULK AT MOST 1048576: true; the input reads as it did. -/
def fnExactExpireEntriesUptoRow : OpenClaim := { program := "ytohniomkenkdmaa", sum := "884fdde4200672f7097f6c5e950c65bb383dab4ee30d550021974c49e42a0355", func := "loop.example/g00511/laws.FnExactExpireEntries", spec := "fnExactExpireEntries", apart := false, narrowed := true }
def FnExactExpireEntriesUptoSaid : Prop := fnExactExpireEntriesUptoRow.holds Try.pinned (OpenSpec.upto fnExactExpireEntriesSpec)

/-- 'laws.FnExactWithoutNode', WHERE WHAT IT READS IS OF BULK AT MOST 1048576: true; the input reads as it did. -/
def fnExactWithoutNodeUptoRow : OpenClaim := { program := "ytohniomkenkdmaa", sum := "884fdde4200672f7097f6c5e950c65bb383dab4ee30d550021974c49e42a0355", func := "loop.example/g00511/laws.FnExactWithoutNode", spec := "fnExactWithoutNode", apart := false, narrowed := true }
def FnExactWithoutNodeUptoSaid : Prop := fnExactWithoutNodeUptoRow.holds Try.pinned (OpenSpec.upto fnExactWithoutNodeSpec)

/-- 'laws.FnExactDropNextHop', WHERE WHAT IT READS IS OF BULK AT MOST 1048576: true; the input reads as it did. -/
def fnExactDropNextHopUptoRow : OpenClaim := { program := "ytohniomkenkdmaa", sum := "884fdde4200672f7097f6c5e950c65bb383dab4ee30d550021974c49e42a0355", func := "loop.example/g00511/laws.FnExactDropNextHop", spec := "fnExactDropNextHop", apart := false, narrowed := true }
def FnExactDropNextHopUptoSaid : Prop := fnExactDropNextHopUptoRow.holds Try.pinned (OpenSpec.upto fnExactDropNextHopSpec)

/-- 'laws.FnExactDistributeKeys', WHERE WHAT IT READS IS OF BULK AT MOST 1048576: true; the input reads as it did. -/
def fnExactDistributeKeysUptoRow : OpenClaim := { program := "ytohniomkenkdmaa", sum := "884fdde4200672f7097f6c5e950c65bb383dab4ee30d550021974c49e42a0355", func := "loop.example/g00511/laws.FnExactDistributeKeys", spec := "fnExactDistributeKeys", apart := false, narrowed := true }
def FnExactDistributeKeysUptoSaid : Prop := fnExactDistributeKeysUptoRow.holds Try.pinned (OpenSpec.upto fnExactDistributeKeysSpec)

/-- 'laws.FnExactMetricBetween', WHERE WHAT IT READS IS OF BULK AT MOST 1048576: true; the input reads as it did. -/
def fnExactMetricBetweenUptoRow : OpenClaim := { program := "ytohniomkenkdmaa", sum := "884fdde4200672f7097f6c5e950c65bb383dab4ee30d550021974c49e42a0355", func := "loop.example/g00511/laws.FnExactMetricBetween", spec := "fnExactMetricBetween", apart := false, narrowed := true }
def FnExactMetricBetweenUptoSaid : Prop := fnExactMetricBetweenUptoRow.holds Try.pinned (OpenSpec.upto fnExactMetricBetweenSpec)

/-- 'laws.FnExactReceiveRequest', WHERE WHAT IT READS IS OF BULK AT MOST 1048576: true; the input reads as it did. -/
def fnExactReceiveRequestUptoRow : OpenClaim := { program := "ytohniomkenkdmaa", sum := "884fdde4200672f7097f6c5e950c65bb383dab4ee30d550021974c49e42a0355", func := "loop.example/g00511/laws.FnExactReceiveRequest", spec := "fnExactReceiveRequest", apart := false, narrowed := true }
def FnExactReceiveRequestUptoSaid : Prop := fnExactReceiveRequestUptoRow.holds Try.pinned (OpenSpec.upto fnExactReceiveRequestSpec)

/-- 'laws.FnExactLearnStation', WHERE WHAT IT READS IS OF BULK AT MOST 1048576: true; the input reads as it did. -/
def fnExactLearnStationUptoRow : OpenClaim := { program := "ytohniomkenkdmaa", sum := "884fdde4200672f7097f6c5e950c65bb383dab4ee30d550021974c49e42a0355", func := "loop.example/g00511/laws.FnExactLearnStation", spec := "fnExactLearnStation", apart := false, narrowed := true }
def FnExactLearnStationUptoSaid : Prop := fnExactLearnStationUptoRow.holds Try.pinned (OpenSpec.upto fnExactLearnStationSpec)

/-- 'laws.FnPathUpdates', WHERE WHAT IT READS IS OF BULK AT MOST 1048576: true; the input reads as it did. -/
def fnPathUpdatesUptoRow : OpenClaim := { program := "ytohniomkenkdmaa", sum := "884fdde4200672f7097f6c5e950c65bb383dab4ee30d550021974c49e42a0355", func := "loop.example/g00511/laws.FnPathUpdates", spec := "fnPathUpdates", apart := false, narrowed := true }
def FnPathUpdatesUptoSaid : Prop := fnPathUpdatesUptoRow.holds Try.pinned (OpenSpec.upto fnPathUpdatesSpec)

/-- 'laws.FnBridge', WHERE WHAT IT READS IS OF BULK AT MOST 1048576: true; the input reads as it did. -/
def fnBridgeUptoRow : OpenClaim := { program := "ytohniomkenkdmaa", sum := "884fdde4200672f7097f6c5e950c65bb383dab4ee30d550021974c49e42a0355", func := "loop.example/g00511/laws.FnBridge", spec := "fnBridge", apart := false, narrowed := true }
def FnBridgeUptoSaid : Prop := fnBridgeUptoRow.holds Try.pinned (OpenSpec.upto fnBridgeSpec)

end Rows
end Go.Proofs.Ytohniomkenkdmaa
