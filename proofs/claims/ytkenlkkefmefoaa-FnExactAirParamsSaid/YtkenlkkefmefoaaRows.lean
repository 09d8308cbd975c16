/-
  No cell of these rows narrows 'for every input' (looked for: loops, veiled, ifaces, maps, wideKeys, modest, calm, conditions, laid).
  DERIVED. THE GIVEN ROWS OF THIS SEAT. 12 by the template 'for every input the law returns true; each argument reads behind the call as it read before'; 0 by the template 'total and deterministic' (their statements: YtkenlkkefmefoaaTotals.lean).
  GIVEN WITH THE SEED: the statements are not yours to turn. If you find one false, say at which input.
  Laid BY PROGRAM, IN A SANDBOX (cutbox-rows.mjs): the forced cells as the released guide's own fill.sh prints them over the translation 5a479a3ad8408426… (all of the seat's roots in one cut). By AI agents, Wed Nov 11 2026. No macro, syntax, notation, axiom, sorry.
-/
import Derived.Test.YtkenlkkefmefoaaChecked
import GoSem.Claim
import GoSem.ClaimJoined
import GoSem.ClaimMapViews
import Derived.JoinedTies
import Derived.KernelRfl
namespace Go.Proofs.Ytkenlkkefmefoaa
/- THE CELL 'sum', in the pinned program and in every row, IS THE sha256 OF THE DUMP (.gsa) THAT YtkenlkkefmefoaaProg.lean LOADS. Nothing in Lean hashes anything: it is a label: what it is worth is what the hold of that sum in a sandbox is worth. -/
noncomputable def Try.pinned : Pinned := { name := "ytkenlkkefmefoaa", sum := "5a479a3ad8408426029f9611d2901dd8f5c62da84fb814a08dac04b32c4b0ede", checked := Try.checked }
namespace Rows
def none {H : Type} : Left H := { results := [], args := [] }

/-- 'laws.FnExactGateFor': WHATEVER THE INPUT: true; the input reads as it did. -/
def fnExactGateForSpec : ChangeSpec := { name := "fnExactGateFor", fn := fun _ => fun
  | [d1, d2] => { results := [.lit (.bool true)], args := [d1, d2] }
  | _ => none }
def fnExactGateForRow : OpenClaim := { program := "ytkenlkkefmefoaa", sum := "5a479a3ad8408426029f9611d2901dd8f5c62da84fb814a08dac04b32c4b0ede", func := "loop.example/g00511/laws.FnExactGateFor", spec := "fnExactGateFor", apart := false }
def FnExactGateForSaid : Prop := fnExactGateForRow.holds Try.pinned (OpenSpec.ofChange fnExactGateForSpec)

/-- ITS FALSE NEIGHBOUR: 'it returns false'. Refute it at one input. -/
def fnExactGateForWrong : ChangeSpec := { name := "fnExactGateFor", fn := fun _ => fun
  | [d1, d2] => { results := [.lit (.bool false)], args := [d1, d2] }
  | _ => none }
def FnExactGateForWrongFalsely : Prop := fnExactGateForRow.holds Try.pinned (OpenSpec.ofChange fnExactGateForWrong)

/-- 'laws.FnExactAirParams': WHATEVER THE INPUT: true; the input reads as it did. -/
def fnExactAirParamsSpec : ChangeSpec := { name := "fnExactAirParams", fn := fun _ => fun
  | [d] => { results := [.lit (.bool true)], args := [d] }
  | _ => none }
def fnExactAirParamsRow : OpenClaim := { program := "ytkenlkkefmefoaa", sum := "5a479a3ad8408426029f9611d2901dd8f5c62da84fb814a08dac04b32c4b0ede", func := "loop.example/g00511/laws.FnExactAirParams", spec := "fnExactAirParams", apart := false }
def FnExactAirParamsSaid : Prop := fnExactAirParamsRow.holds Try.pinned (OpenSpec.ofChange fnExactAirParamsSpec)

/-- ITS FALSE NEIGHBOUR: 'it returns false'. Refute it at one input. -/
def fnExactAirParamsWrong : ChangeSpec := { name := "fnExactAirParams", fn := fun _ => fun
  | [d] => { results := [.lit (.bool false)], args := [d] }
  | _ => none }
def FnExactAirParamsWrongFalsely : Prop := fnExactAirParamsRow.holds Try.pinned (OpenSpec.ofChange fnExactAirParamsWrong)

/-- 'laws.FnExactKeyFor': WHATEVER THE INPUT: true; the input reads as it did. -/
def fnExactKeyForSpec : ChangeSpec := { name := "fnExactKeyFor", fn := fun _ => fun
  | [d1, d2, d3] => { results := [.lit (.bool true)], args := [d1, d2, d3] }
  | _ => none }
def fnExactKeyForRow : OpenClaim := { program := "ytkenlkkefmefoaa", sum := "5a479a3ad8408426029f9611d2901dd8f5c62da84fb814a08dac04b32c4b0ede", func := "loop.example/g00511/laws.FnExactKeyFor", spec := "fnExactKeyFor", apart := false }
def FnExactKeyForSaid : Prop := fnExactKeyForRow.holds Try.pinned (OpenSpec.ofChange fnExactKeyForSpec)

/-- ITS FALSE NEIGHBOUR: 'it returns false'. Refute it at one input. -/
def fnExactKeyForWrong : ChangeSpec := { name := "fnExactKeyFor", fn := fun _ => fun
  | [d1, d2, d3] => { results := [.lit (.bool false)], args := [d1, d2, d3] }
  | _ => none }
def FnExactKeyForWrongFalsely : Prop := fnExactKeyForRow.holds Try.pinned (OpenSpec.ofChange fnExactKeyForWrong)

/-- 'laws.FnExactEqualMeshFrames': WHATEVER THE INPUT: true; the input reads as it did. -/
def fnExactEqualMeshFramesSpec : ChangeSpec := { name := "fnExactEqualMeshFrames", fn := fun _ => fun
  | [d1, d2] => { results := [.lit (.bool true)], args := [d1, d2] }
  | _ => none }
def fnExactEqualMeshFramesRow : OpenClaim := { program := "ytkenlkkefmefoaa", sum := "5a479a3ad8408426029f9611d2901dd8f5c62da84fb814a08dac04b32c4b0ede", func := "loop.example/g00511/laws.FnExactEqualMeshFrames", spec := "fnExactEqualMeshFrames", apart := false }
def FnExactEqualMeshFramesSaid : Prop := fnExactEqualMeshFramesRow.holds Try.pinned (OpenSpec.ofChange fnExactEqualMeshFramesSpec)

/-- ITS FALSE NEIGHBOUR: 'it returns false'. Refute it at one input. -/
def fnExactEqualMeshFramesWrong : ChangeSpec := { name := "fnExactEqualMeshFrames", fn := fun _ => fun
  | [d1, d2] => { results := [.lit (.bool false)], args := [d1, d2] }
  | _ => none }
def FnExactEqualMeshFramesWrongFalsely : Prop := fnExactEqualMeshFramesRow.holds Try.pinned (OpenSpec.ofChange fnExactEqualMeshFramesWrong)

/-- 'laws.FnProxies': WHATEVER THE INPUT: true; the input reads as it did. -/
def fnProxiesSpec : ChangeSpec := { name := "fnProxies", fn := fun _ => fun
  | [d] => { results := [.lit (.bool true)], args := [d] }
  | _ => none }
def fnProxiesRow : OpenClaim := { program := "ytkenlkkefmefoaa", sum := "5a479a3ad8408426029f9611d2901dd8f5c62da84fb814a08dac04b32c4b0ede", func := "loop.example/g00511/laws.FnProxies", spec := "fnProxies", apart := false }
def FnProxiesSaid : Prop := fnProxiesRow.holds Try.pinned (OpenSpec.ofChange fnProxiesSpec)

/-- ITS FALSE NEIGHBOUR: 'it returns false'. Refute it at one input. -/
def fnProxiesWrong : ChangeSpec := { name := "fnProxies", fn := fun _ => fun
  | [d] => { results := [.lit (.bool false)], args := [d] }
  | _ => none }
def FnProxiesWrongFalsely : Prop := fnProxiesRow.holds Try.pinned (OpenSpec.ofChange fnProxiesWrong)

/-- 'laws.FnExactAnnounceProxy': WHATEVER THE INPUT: true; the input reads as it did. -/
def fnExactAnnounceProxySpec : ChangeSpec := { name := "fnExactAnnounceProxy", fn := fun _ => fun
  | [d1, d2] => { results := [.lit (.bool true)], args := [d1, d2] }
  | _ => none }
def fnExactAnnounceProxyRow : OpenClaim := { program := "ytkenlkkefmefoaa", sum := "5a479a3ad8408426029f9611d2901dd8f5c62da84fb814a08dac04b32c4b0ede", func := "loop.example/g00511/laws.FnExactAnnounceProxy", spec := "fnExactAnnounceProxy", apart := false }
def FnExactAnnounceProxySaid : Prop := fnExactAnnounceProxyRow.holds Try.pinned (OpenSpec.ofChange fnExactAnnounceProxySpec)

/-- ITS FALSE NEIGHBOUR: 'it returns false'. Refute it at one input. -/
def fnExactAnnounceProxyWrong : ChangeSpec := { name := "fnExactAnnounceProxy", fn := fun _ => fun
  | [d1, d2] => { results := [.lit (.bool false)], args := [d1, d2] }
  | _ => none }
def FnExactAnnounceProxyWrongFalsely : Prop := fnExactAnnounceProxyRow.holds Try.pinned (OpenSpec.ofChange fnExactAnnounceProxyWrong)

/-- 'laws.FnExactWithdrawGate': WHATEVER THE INPUT: true; the input reads as it did. -/
def fnExactWithdrawGateSpec : ChangeSpec := { name := "fnExactWithdrawGate", fn := fun _ => fun
  | [d1, d2] => { results := [.lit (.bool true)], args := [d1, d2] }
  | _ => none }
def fnExactWithdrawGateRow : OpenClaim := { program := "ytkenlkkefmefoaa", sum := "5a479a3ad8408426029f9611d2901dd8f5c62da84fb814a08dac04b32c4b0ede", func := "loop.example/g00511/laws.FnExactWithdrawGate", spec := "fnExactWithdrawGate", apart := false }
def FnExactWithdrawGateSaid : Prop := fnExactWithdrawGateRow.holds Try.pinned (OpenSpec.ofChange fnExactWithdrawGateSpec)

/-- ITS FALSE NEIGHBOUR: 'it returns false'. Refute it at one input. -/
def fnExactWithdrawGateWrong : ChangeSpec := { name := "fnExactWithdrawGate", fn := fun _ => fun
  | [d1, d2] => { results := [.lit (.bool false)], args := [d1, d2] }
  | _ => none }
def FnExactWithdrawGateWrongFalsely : Prop := fnExactWithdrawGateRow.holds Try.pinned (OpenSpec.ofChange fnExactWithdrawGateWrong)

/-- 'laws.FnTransitionKeys': WHATEVER THE INPUT: true; the input reads as it did. -/
def fnTransitionKeysSpec : ChangeSpec := { name := "fnTransitionKeys", fn := fun _ => fun
  | [d] => { results := [.lit (.bool true)], args := [d] }
  | _ => none }
def fnTransitionKeysRow : OpenClaim := { program := "ytkenlkkefmefoaa", sum := "5a479a3ad8408426029f9611d2901dd8f5c62da84fb814a08dac04b32c4b0ede", func := "loop.example/g00511/laws.FnTransitionKeys", spec := "fnTransitionKeys", apart := false }
def FnTransitionKeysSaid : Prop := fnTransitionKeysRow.holds Try.pinned (OpenSpec.ofChange fnTransitionKeysSpec)

/-- ITS FALSE NEIGHBOUR: 'it returns false'. Refute it at one input. -/
def fnTransitionKeysWrong : ChangeSpec := { name := "fnTransitionKeys", fn := fun _ => fun
  | [d] => { results := [.lit (.bool false)], args := [d] }
  | _ => none }
def FnTransitionKeysWrongFalsely : Prop := fnTransitionKeysRow.holds Try.pinned (OpenSpec.ofChange fnTransitionKeysWrong)

/-- 'laws.FnExactLinkMetric': WHATEVER THE INPUT: true; the input reads as it did. -/
def fnExactLinkMetricSpec : ChangeSpec := { name := "fnExactLinkMetric", fn := fun _ => fun
  | [d] => { results := [.lit (.bool true)], args := [d] }
  | _ => none }
def fnExactLinkMetricRow : OpenClaim := { program := "ytkenlkkefmefoaa", sum := "5a479a3ad8408426029f9611d2901dd8f5c62da84fb814a08dac04b32c4b0ede", func := "loop.example/g00511/laws.FnExactLinkMetric", spec := "fnExactLinkMetric", apart := false }
def FnExactLinkMetricSaid : Prop := fnExactLinkMetricRow.holds Try.pinned (OpenSpec.ofChange fnExactLinkMetricSpec)

/-- ITS FALSE NEIGHBOUR: 'it returns false'. Refute it at one input. -/
def fnExactLinkMetricWrong : ChangeSpec := { name := "fnExactLinkMetric", fn := fun _ => fun
  | [d] => { results := [.lit (.bool false)], args := [d] }
  | _ => none }
def FnExactLinkMetricWrongFalsely : Prop := fnExactLinkMetricRow.holds Try.pinned (OpenSpec.ofChange fnExactLinkMetricWrong)

/-- 'laws.FnExactSendRequest': WHATEVER THE INPUT: true; the input reads as it did. -/
def fnExactSendRequestSpec : ChangeSpec := { name := "fnExactSendRequest", fn := fun _ => fun
  | [d1, d2, d3, d4, d5] => { results := [.lit (.bool true)], args := [d1, d2, d3, d4, d5] }
  | _ => none }
def fnExactSendRequestRow : OpenClaim := { program := "ytkenlkkefmefoaa", sum := "5a479a3ad8408426029f9611d2901dd8f5c62da84fb814a08dac04b32c4b0ede", func := "loop.example/g00511/laws.FnExactSendRequest", spec := "fnExactSendRequest", apart := false }
def FnExactSendRequestSaid : Prop := fnExactSendRequestRow.holds Try.pinned (OpenSpec.ofChange fnExactSendRequestSpec)

/-- ITS FALSE NEIGHBOUR: 'it returns false'. Refute it at one input. -/
def fnExactSendRequestWrong : ChangeSpec := { name := "fnExactSendRequest", fn := fun _ => fun
  | [d1, d2, d3, d4, d5] => { results := [.lit (.bool false)], args := [d1, d2, d3, d4, d5] }
  | _ => none }
def FnExactSendRequestWrongFalsely : Prop := fnExactSendRequestRow.holds Try.pinned (OpenSpec.ofChange fnExactSendRequestWrong)

/-- 'laws.FnExactIsValidBridge': WHATEVER THE INPUT: true; the input reads as it did. -/
def fnExactIsValidBridgeSpec : ChangeSpec := { name := "fnExactIsValidBridge", fn := fun _ => fun
  | [d] => { results := [.lit (.bool true)], args := [d] }
  | _ => none }
def fnExactIsValidBridgeRow : OpenClaim := { program := "ytkenlkkefmefoaa", sum := "5a479a3ad8408426029f9611d2901dd8f5c62da84fb814a08dac04b32c4b0ede", func := "loop.example/g00511/laws.FnExactIsValidBridge", spec := "fnExactIsValidBridge", apart := false }
def FnExactIsValidBridgeSaid : Prop := fnExactIsValidBridgeRow.holds Try.pinned (OpenSpec.ofChange fnExactIsValidBridgeSpec)

/-- ITS FALSE NEIGHBOUR: 'it returns false'. Refute it at one input. -/
def fnExactIsValidBridgeWrong : ChangeSpec := { name := "fnExactIsValidBridge", fn := fun _ => fun
  | [d] => { results := [.lit (.bool false)], args := [d] }
  | _ => none }
def FnExactIsValidBridgeWrongFalsely : Prop := fnExactIsValidBridgeRow.holds Try.pinned (OpenSpec.ofChange fnExactIsValidBridgeWrong)

/-- 'laws.FnExactIsValidTable': WHATEVER THE INPUT: true; the input reads as it did. -/
def fnExactIsValidTableSpec : ChangeSpec := { name := "fnExactIsValidTable", fn := fun _ => fun
  | [d] => { results := [.lit (.bool true)], args := [d] }
  | _ => none }
def fnExactIsValidTableRow : OpenClaim := { program := "ytkenlkkefmefoaa", sum := "5a479a3ad8408426029f9611d2901dd8f5c62da84fb814a08dac04b32c4b0ede", func := "loop.example/g00511/laws.FnExactIsValidTable", spec := "fnExactIsValidTable", apart := false }
def FnExactIsValidTableSaid : Prop := fnExactIsValidTableRow.holds Try.pinned (OpenSpec.ofChange fnExactIsValidTableSpec)

/-- ITS FALSE NEIGHBOUR: 'it returns false'. Refute it at one input. -/
def fnExactIsValidTableWrong : ChangeSpec := { name := "fnExactIsValidTable", fn := fun _ => fun
  | [d] => { results := [.lit (.bool false)], args := [d] }
  | _ => none }
def FnExactIsValidTableWrongFalsely : Prop := fnExactIsValidTableRow.holds Try.pinned (OpenSpec.ofChange fnExactIsValidTableWrong)

/- THE SECOND FORM. 'bulk': how many values and letters a reading holds, each counted each time it is reached (what is shared counts as often as it is met; a slice's spare places count too). A statement '..UptoSaid' is the law's where the arguments, and the package variables that the reading takes, are together of bulk at most 1048576: NARROWER than '..Said'. Prove '..Said' where nothing that the law and all that it calls make is longer than what came in: it says more and counts as full. Else prove '..UptoSaid'. A law counts once. -/
mutual
def uptoBulk {H : Type} : DataW H → Nat
  | .lit (.string bytes) => bytes.length + 1
  | .lit _ => 1
  | .nil => 1
  | .ptr d => uptoBulk d + 1
  | .slice elems spare => uptoBulkAll elems + uptoBulkAll spare + 1
  | .agg parts => uptoBulkAll parts + 1
  | .iface _ d => uptoBulk d + 1
  | .map entries => uptoBulkEntries entries + 1
  | .held _ => 1
def uptoBulkAll {H : Type} : List (DataW H) → Nat
  | [] => 0
  | d :: r => uptoBulk d + uptoBulkAll r
def uptoBulkEntries {H : Type} : List (Lit × DataW H) → Nat
  | [] => 0
  | x :: r => uptoBulkEntry x + uptoBulkEntries r
def uptoBulkEntry {H : Type} : Lit × DataW H → Nat
  | (.string bytes, d) => bytes.length + uptoBulk d + 1
  | (_, d) => uptoBulk d + 1
 end
def uptoSmall : (H : Type) → List (DataW H) → Bool := fun _ ds => decide (uptoBulkAll ds ≤ 1048576)
def OpenSpec.upto (s : _root_.Go.ChangeSpec) : _root_.Go.OpenSpec := { _root_.Go.OpenSpec.ofChange s with cond := some uptoSmall }

/-- 'laws.FnExactGateFor', WHERE WHAT IT READS IS OF BULK AT MOST 1048576: true; the input reads as it did. -/
def fnExactGateForUptoRow : OpenClaim := { program := "ytkenlkkefmefoaa", sum := "5a479a3ad8408426029f9611d2901dd8f5c62da84fb814a08dac04b32c4b0ede", func := "loop.example/g00511/laws.FnExactGateFor", spec := "fnExactGateFor", apart := false, narrowed := true }
def FnExactGateForUptoSaid : Prop := fnExactGateForUptoRow.holds Try.pinned (OpenSpec.upto fnExactGateForSpec)

/-- 'laws.FnExactAirParams', WHERE WHAT IT READS IS OF BULK AT MOST 1048576: true; the input reads as it did. -/
def fnExactAirParamsUptoRow : OpenClaim := { program := "ytkenlkkefmefoaa", sum := "5a479a3ad8408426029f9611d2901dd8f5c62da84fb814a08dac04b32c4b0ede", func := "loop.example/g00511/laws.FnExactAirParams", spec := "fnExactAirParams", apart := false, narrowed := true }
def FnExactAirParamsUptoSaid : Prop := fnExactAirParamsUptoRow.holds Try.pinned (OpenSpec.upto fnExactAirParamsSpec)

/-- 'laws.FnExactKeyFor', WHERE WHAT IT READS IS OF BULK AT MOST 1048576: true; the input reads as it did. -/
def fnExactKeyForUptoRow : OpenClaim := { program := "ytkenlkkefmefoaa", sum := "5a479a3ad8408426029f9611d2901dd8f5c62da84fb814a08dac04b32c4b0ede", func := "loop.example/g00511/laws.FnExactKeyFor", spec := "fnExactKeyFor", apart := false, narrowed := true }
def FnExactKeyForUptoSaid : Prop := fnExactKeyForUptoRow.holds Try.pinned (OpenSpec.upto fnExactKeyForSpec)

/-- 'laws.FnExactEqualMeshFrames', WHERE WHAT IT READS IS OF BULK AT MOST 1048576: true; the input reads as it did. -/
def fnExactEqualMeshFramesUptoRow : OpenClaim := { program := "ytkenlkkefmefoaa", sum := "5a479a3ad8408426029f9611d2901dd8f5c62da84fb814a08dac04b32c4b0ede", func := "loop.example/g00511/laws.FnExactEqualMeshFrames", spec := "fnExactEqualMeshFrames", apart := false, narrowed := true }
def FnExactEqualMeshFramesUptoSaid : Prop := fnExactEqualMeshFramesUptoRow.holds Try.pinned (OpenSpec.upto fnExactEqualMeshFramesSpec)

/-- 'laws.FnProxies', WHERE WHAT IT READS IS OF BULK AT MOST 1048576: true; the input reads as it did. -/
def fnProxiesUptoRow : OpenClaim := { program := "ytkenlkkefmefoaa", sum := "5a479a3ad8408426029f9611d2901dd8f5c62da84fb814a08dac04b32c4b0ede", func := "loop.example/g00511/laws.FnProxies", spec := "fnProxies", apart := false, narrowed := true }
def FnProxiesUptoSaid : Prop := fnProxiesUptoRow.holds Try.pinned (OpenSpec.upto fnProxiesSpec)

/-- 'laws.FnExactAnnounceProxy', WHERE WHAT IT READS IS OF BULK AT MOST 1048576: true; the input reads as it did. -/
def fnExactAnnounceProxyUptoRow : OpenClaim := { program := "ytkenlkkefmefoaa", sum := "5a479a3ad8408426029f9611d2901dd8f5c62da84fb814a08dac04b32c4b0ede", func := "loop.example/g00511/laws.FnExactAnnounceProxy", spec := "fnExactAnnounceProxy", apart := false, narrowed := true }
def FnExactAnnounceProxyUptoSaid : Prop := fnExactAnnounceProxyUptoRow.holds Try.pinned (OpenSpec.upto fnExactAnnounceProxySpec)

/-- 'laws.FnExactWithdrawGate', WHERE WHAT IT READS IS OF BULK AT MOST 1048576: true; the input reads as it did. -/
def fnExactWithdrawGateUptoRow : OpenClaim := { program := "ytkenlkkefmefoaa", sum := "5a479a3ad8408426029f9611d2901dd8f5c62da84fb814a08dac04b32c4b0ede", func := "loop.example/g00511/laws.FnExactWithdrawGate", spec := "fnExactWithdrawGate", apart := false, narrowed := true }
def FnExactWithdrawGateUptoSaid : Prop := fnExactWithdrawGateUptoRow.holds Try.pinned (OpenSpec.upto fnExactWithdrawGateSpec)

/-- 'laws.FnTransitionKeys', WHERE WHAT IT READS IS OF BULK AT MOST 1048576: true; the input reads as it did. -/
def fnTransitionKeysUptoRow : OpenClaim := { program := "ytkenlkkefmefoaa", sum := "5a479a3ad8408426029f9611d2901dd8f5c62da84fb814a08dac04b32c4b0ede", func := "loop.example/g00511/laws.FnTransitionKeys", spec := "fnTransitionKeys", apart := false, narrowed := true }
def FnTransitionKeysUptoSaid : Prop := fnTransitionKeysUptoRow.holds Try.pinned (OpenSpec.upto fnTransitionKeysSpec)

/-- 'laws.FnExactLinkMetric', WHERE WHAT IT READS IS OF BULK AT MOST 1048576: true; the input reads as it did. -/
def fnExactLinkMetricUptoRow : OpenClaim := { program := "ytkenlkkefmefoaa", sum := "5a479a3ad8408426029f9611d2901dd8f5c62da84fb814a08dac04b32c4b0ede", func := "loop.example/g00511/laws.FnExactLinkMetric", spec := "fnExactLinkMetric", apart := false, narrowed := true }
def FnExactLinkMetricUptoSaid : Prop := fnExactLinkMetricUptoRow.holds Try.pinned (OpenSpec.upto fnExactLinkMetricSpec)

/-- 'laws.FnExactSendRequest', WHERE WHAT IT READS IS OF BULK AT MOST 1048576: true; the input reads as it did. -/
def fnExactSendRequestUptoRow : OpenClaim := { program := "ytkenlkkefmefoaa", sum := "5a479a3ad8408426029f9611d2901dd8f5c62da84fb814a08dac04b32c4b0ede", func := "loop.example/g00511/laws.FnExactSendRequest", spec := "fnExactSendRequest", apart := false, narrowed := true }
def FnExactSendRequestUptoSaid : Prop := fnExactSendRequestUptoRow.holds Try.pinned (OpenSpec.upto fnExactSendRequestSpec)

/-- 'laws.FnExactIsValidBridge', WHERE WHAT IT READS IS OF BULK AT MOST 1048576: true; the input reads as it did. -/
def fnExactIsValidBridgeUptoRow : OpenClaim := { program := "ytkenlkkefmefoaa", sum := "5a479a3ad8408426029f9611d2901dd8f5c62da84fb814a08dac04b32c4b0ede", func := "loop.example/g00511/laws.FnExactIsValidBridge", spec := "fnExactIsValidBridge", apart := false, narrowed := true }
def FnExactIsValidBridgeUptoSaid : Prop := fnExactIsValidBridgeUptoRow.holds Try.pinned (OpenSpec.upto fnExactIsValidBridgeSpec)

/-- 'laws.FnExactIsValidTable', WHERE WHAT IT READS IS OF BULK AT MOST 1048576: true; the input reads as it did. -/
def fnExactIsValidTableUptoRow : OpenClaim := { program := "ytkenlkkefmefoaa", sum := "5a479a3ad8408426029f9611d2901dd8f5c62da84fb814a08dac04b32c4b0ede", func := "loop.example/g00511/laws.FnExactIsValidTable", spec := "fnExactIsValidTable", apart := false, narrowed := true }
def FnExactIsValidTableUptoSaid : Prop := fnExactIsValidTableUptoRow.holds Try.pinned (OpenSpec.upto fnExactIsValidTableSpec)

end Rows
end Go.Proofs.Ytkenlkkefmefoaa
