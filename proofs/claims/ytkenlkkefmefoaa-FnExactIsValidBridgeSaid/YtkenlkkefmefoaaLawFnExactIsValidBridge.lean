/- FnExactIsValidBridge: for every input the program's law returns true, and its arguments read afterwards as before. Conditions: none. -/
import Derived.Test.YtkenlkkefmefoaaRows
import Derived.Test.YtkenlkkefmefoaaOFnExactIsValidBridge
import Derived.Test.YtkenlkkefmefoaaPureFnExactIsValidBridge
import Derived.WalkKit
import Derived.ProofKit
import Derived.OpenShut
import Derived.ShutString
import Derived.ChangeOld
import Derived.Below
import Derived.SizedLaws
namespace Go.Proofs.Ytkenlkkefmefoaa.fnExactIsValidBridge
open Go.ChangeShapes Go.WideShapes Go.ChangeAt Go.RowKit Go.Proofs.Ytkenlkkefmefoaa.Open Go.Proofs.Ytkenlkkefmefoaa.OFnExactIsValidBridge
set_option linter.unusedVariables false
set_option linter.unusedSimpArgs false
theorem own : ownKnob Try.prog.godebug = none := by kernel_rfl
theorem laidOut : laidOutB Try.prog = true := by kernel_rfl
set_option maxRecDepth 100000 in
theorem lifted (os : Os) (started : os.Started) (H : Type) (enc : TypeId × Value → H) :
    ReturnsInHanded {} Try.checked os 13 .any (Rows.fnExactIsValidBridgeSpec.pre6 enc Try.prog Try.f13 Rows.fnExactIsValidBridgeRow.domain false) (Rows.fnExactIsValidBridgeSpec.post enc Try.prog Try.f13 false true false false) := by
  refine returnsInHanded_of_change_sized (C := Try.checked) own started (by kernel_rfl) Try.func13
    (ChangeSpec.witness6 (enc := enc) (C := Try.checked) false ⟨#[], #[.agg #[.int .i64 0, .slice none 0 0]], []⟩ 8 (by kernel_rfl) (by kernel_rfl) (by kernel_rfl) (by kernel_rfl)) ?_
  intro W base args ds gs before hval0 hW hcnd hsz0 _
  have hval : ∀ (j : Nat) t v, Try.f13.params[j]? = some t → args[j]? = some v → Value.okWide Try.prog W .any base t v := hval0
  have hW' := hW
  obtain ⟨p, q, hA0, hV, rfl, hfz, hnd⟩ := hW
  have hA : DataW.TrodAll enc Try.prog W 0 (fun _ => true) true Try.f13.params.toList args.toList ds p := hA0
  rw [Try.params13] at hA hval
  obtain ⟨v0, vs0, d0, ds0, p0, q0, hargs, rfl, rfl, h0, r0⟩ := trodAll_cons hA
  obtain ⟨rfl, rfl, rfl⟩ := trodAll_nil r0
  obtain rfl : args = #[v0] := by cases args; simp_all
  obtain ⟨rfl, rfl⟩ := trodVars_none hV
  have k0 := h0
  have lt0 : ∀ x ∈ p0, x.block < W.heap.size := by obtain ⟨m, hm⟩ := k0; exact DataW.trod_lt m _ _ _ hm
  obtain ⟨x0, K0, F0⟩ := Opens.val flat73 h0
  obtain ⟨ca0, rfl, _⟩ := okWide_struct Try.underlying73 (hval 0 73 v0 rfl rfl)
  obtain ⟨cl0, ec0⟩ : ∃ cl, cl = (Value.agg ca0).cells.toList := ⟨_, rfl⟩
  rw [← ec0] at K0
  obtain ⟨u0_1, z0_1, rfl, K0_1, R0_1⟩ := K_pair K0
  obtain rfl := K_int K0_1
  obtain ⟨A0_2, c0_2, rfl, hl0_2, hC0_2⟩ := K_slice R0_1
  have ev0 := val_agg ec0.symm
  try simp only [List.cons_append, List.nil_append, List.append_assoc] at ev0
  have HP := Pure.FnExactIsValidBridge (x0.1) (x0.2) F0.1 F0.2
  obtain ⟨k, HK⟩ := HP
  have HC := Go.Proofs.Ytkenlkkefmefoaa.XFnExactIsValidBridge.laws_FnExactIsValidBridge.calls (k := k) (a0_0 := x0.1) (l0_1 := x0.2) (r := true) (w := W) (hr0_1 := hC0_2) (hc0_1 := hl0_2) (h := HK)
  obtain rfl : ca0 = _ := Value.agg.inj ev0
  refine HC.mono fun e W' ⟨he, bel⟩ => ?_
  subst he
  exact ⟨_, rfl, _, _, _, [], _, [], hW', trodAll_mk1 (shut_bool Try.underlying4 _), (trodAll_cons_mk (Below.trod laidOut (by kernel_rfl) (of_decide_eq_true (by kernel_rfl)) k0 bel lt0) trodAll_mk0), rfl, bel.frame _, fun h => by cases h⟩
theorem over : Rows.fnExactIsValidBridgeRow.holds Try.pinned (OpenSpec.ofChange Rows.fnExactIsValidBridgeSpec) :=
  OpenClaim.holds_of_wide 13 Try.f13 rfl rfl rfl rfl rfl rfl rfl ⟨rfl, rfl, rfl, rfl, rfl⟩ rfl rfl rfl rfl rfl (by kernel_rfl) Try.func13 (by kernel_rfl)
    (of_decide_eq_true (by kernel_rfl)) (by unfold Func.isWrapper; first | (rw [if_pos (by decide +kernel)]; kernel_rfl) | (rw [if_neg (by decide +kernel)]; exact ⟨rfl, rfl⟩))
    (fun os started H enc _ => lifted os started H enc)
theorem proved : Rows.FnExactIsValidBridgeSaid := over
end Go.Proofs.Ytkenlkkefmefoaa.fnExactIsValidBridge
namespace Go.Proofs.Ytkenlkkefmefoaa
theorem fnExactIsValidBridge_holds : Rows.FnExactIsValidBridgeSaid := fnExactIsValidBridge.proved
#print axioms fnExactIsValidBridge_holds
end Go.Proofs.Ytkenlkkefmefoaa
