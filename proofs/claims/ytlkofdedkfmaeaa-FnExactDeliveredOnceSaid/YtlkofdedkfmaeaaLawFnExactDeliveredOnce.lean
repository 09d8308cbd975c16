/- FnExactDeliveredOnce: for every input the program's law returns true, and its arguments read afterwards as before. Conditions: none. -/
import Derived.Test.YtlkofdedkfmaeaaRows
import Derived.Test.YtlkofdedkfmaeaaOFnExactDeliveredOnce
import Derived.Test.YtlkofdedkfmaeaaPureFnExactDeliveredOnce
import Derived.WalkKit
import Derived.ProofKit
import Derived.OpenShut
import Derived.ShutString
import Derived.ChangeOld
import Derived.Below
import Derived.SizedLaws
namespace Go.Proofs.Ytlkofdedkfmaeaa.fnExactDeliveredOnce
open Go.ChangeShapes Go.WideShapes Go.ChangeAt Go.RowKit Go.Proofs.Ytlkofdedkfmaeaa.Open Go.Proofs.Ytlkofdedkfmaeaa.OFnExactDeliveredOnce
set_option linter.unusedVariables false
set_option linter.unusedSimpArgs false
theorem own : ownKnob Try.prog.godebug = none := by kernel_rfl
theorem laidOut : laidOutB Try.prog = true := by kernel_rfl
set_option maxRecDepth 100000 in
theorem lifted (os : Os) (started : os.Started) (H : Type) (enc : TypeId × Value → H) :
    ReturnsInHanded {} Try.checked os 4 .any (Rows.fnExactDeliveredOnceSpec.pre6 enc Try.prog Try.f4 Rows.fnExactDeliveredOnceRow.domain false) (Rows.fnExactDeliveredOnceSpec.post enc Try.prog Try.f4 false true false false) := by
  refine returnsInHanded_of_change_sized (C := Try.checked) own started (by kernel_rfl) Try.func4
    (ChangeSpec.witness6 (enc := enc) (C := Try.checked) false ⟨#[], #[.agg #[.slice none 0 0, .int .i64 0, .int .i64 0, .slice none 0 0, .int .i64 0, .int .i64 0, .int .i64 0]], []⟩ 8 (by kernel_rfl) (by kernel_rfl) (by kernel_rfl) (by kernel_rfl)) ?_
  intro W base args ds gs before hval0 hW hcnd hsz0 _
  have hval : ∀ (j : Nat) t v, Try.f4.params[j]? = some t → args[j]? = some v → Value.okWide Try.prog W .any base t v := hval0
  have hW' := hW
  obtain ⟨p, q, hA0, hV, rfl, hfz, hnd⟩ := hW
  have hA : DataW.TrodAll enc Try.prog W 0 (fun _ => true) true Try.f4.params.toList args.toList ds p := hA0
  rw [Try.params4] at hA hval
  obtain ⟨v0, vs0, d0, ds0, p0, q0, hargs, rfl, rfl, h0, r0⟩ := trodAll_cons hA
  obtain ⟨rfl, rfl, rfl⟩ := trodAll_nil r0
  obtain rfl : args = #[v0] := by cases args; simp_all
  obtain ⟨rfl, rfl⟩ := trodVars_none hV
  have k0 := h0
  have lt0 : ∀ x ∈ p0, x.block < W.heap.size := by obtain ⟨m, hm⟩ := k0; exact DataW.trod_lt m _ _ _ hm
  obtain ⟨x0, K0, F0⟩ := Opens.val flat27 h0
  obtain ⟨ca0, rfl, _⟩ := okWide_struct Try.underlying27 (hval 0 27 v0 rfl rfl)
  obtain ⟨cl0, ec0⟩ : ∃ cl, cl = (Value.agg ca0).cells.toList := ⟨_, rfl⟩
  rw [← ec0] at K0
  obtain ⟨u0_1, z0_1, rfl, K0_1, R0_1⟩ := K_pair K0
  obtain ⟨u0_2, z0_2, rfl, K0_2, R0_2⟩ := K_pair K0_1
  obtain ⟨A0_3, c0_3, rfl, hl0_3, hC0_3⟩ := K_slice K0_2
  obtain ⟨u0_4, z0_4, rfl, K0_4, R0_4⟩ := K_pair R0_2
  obtain rfl := K_int K0_4
  obtain rfl := K_int R0_4
  obtain ⟨u0_5, z0_5, rfl, K0_5, R0_5⟩ := K_pair R0_1
  obtain ⟨A0_6, c0_6, rfl, hl0_6, hC0_6⟩ := K_slice K0_5
  obtain ⟨u0_7, z0_7, rfl, K0_7, R0_7⟩ := K_pair R0_5
  obtain rfl := K_int K0_7
  obtain ⟨u0_8, z0_8, rfl, K0_8, R0_8⟩ := K_pair R0_7
  obtain rfl := K_int K0_8
  obtain rfl := K_int R0_8
  have ev0 := val_agg ec0.symm
  try simp only [List.cons_append, List.nil_append, List.append_assoc] at ev0
  have HP := Pure.FnExactDeliveredOnce (x0.1.1) (x0.1.2.1) (x0.1.2.2) (x0.2.1) (x0.2.2.1) (x0.2.2.2.1) (x0.2.2.2.2) F0.1.1 F0.1.2.1 F0.1.2.2 F0.2.1 F0.2.2.1 F0.2.2.2.1 F0.2.2.2.2
  obtain ⟨k, HK⟩ := HP
  have HC := Go.Proofs.Ytlkofdedkfmaeaa.XFnExactDeliveredOnce.laws_FnExactDeliveredOnce.calls (k := k) (l0_0 := x0.1.1) (a0_1 := x0.1.2.1) (a0_2 := x0.1.2.2) (l0_3 := x0.2.1) (a0_4 := x0.2.2.1) (a0_5 := x0.2.2.2.1) (a0_6 := x0.2.2.2.2) (r := true) (w := W) (hr0_0 := hC0_3) (hc0_0 := hl0_3) (hr0_3 := hC0_6) (hc0_3 := hl0_6) (h := HK)
  obtain rfl : ca0 = _ := Value.agg.inj ev0
  refine HC.mono fun e W' ⟨he, bel⟩ => ?_
  subst he
  exact ⟨_, rfl, _, _, _, [], _, [], hW', trodAll_mk1 (shut_bool Try.underlying4 _), (trodAll_cons_mk (Below.trod laidOut (by kernel_rfl) (of_decide_eq_true (by kernel_rfl)) k0 bel lt0) trodAll_mk0), rfl, bel.frame _, fun h => by cases h⟩
theorem named : Try.pinned.checked.prog.funcNamed Rows.fnExactDeliveredOnceRow.func = some 4 := by kernel_rfl
theorem joined : joinedFacts Try.pinned.checked.prog 4 Try.f4 Rows.fnExactDeliveredOnceSpec Rows.fnExactDeliveredOnceRow = true := by kernel_rfl
theorem over : Rows.fnExactDeliveredOnceRow.holds Try.pinned (OpenSpec.ofChange Rows.fnExactDeliveredOnceSpec) :=
  OpenClaim.holds_of_wide 4 Try.f4 rfl rfl rfl rfl rfl rfl rfl ⟨rfl, rfl, rfl, rfl, rfl⟩ rfl rfl rfl rfl rfl named Try.func4 joined
    (of_decide_eq_true (by kernel_rfl)) (by unfold Func.isWrapper; first | (rw [if_pos (by decide +kernel)]; kernel_rfl) | (rw [if_neg (by decide +kernel)]; exact ⟨rfl, rfl⟩))
    (fun os started H enc _ => lifted os started H enc)
theorem proved : Rows.FnExactDeliveredOnceSaid := over
end Go.Proofs.Ytlkofdedkfmaeaa.fnExactDeliveredOnce
namespace Go.Proofs.Ytlkofdedkfmaeaa
theorem fnExactDeliveredOnce_holds : Rows.FnExactDeliveredOnceSaid := fnExactDeliveredOnce.proved
#print axioms fnExactDeliveredOnce_holds
end Go.Proofs.Ytlkofdedkfmaeaa
