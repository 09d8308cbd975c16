/- FnExactDeliveredInOrder: for every input the program's law returns true, and its arguments read afterwards as before. Conditions: none. -/
import Derived.Test.YtlkofdedkfmaeaaRows
import Derived.Test.YtlkofdedkfmaeaaOFnExactDeliveredInOrder
import Derived.Test.YtlkofdedkfmaeaaPureFnExactDeliveredInOrder
import Derived.WalkKit
import Derived.ProofKit
import Derived.OpenShut
import Derived.ShutString
import Derived.ChangeOld
import Derived.Below
import Derived.SizedLaws
namespace Go.Proofs.Ytlkofdedkfmaeaa.fnExactDeliveredInOrder
open Go.ChangeShapes Go.WideShapes Go.ChangeAt Go.RowKit Go.Proofs.Ytlkofdedkfmaeaa.Open Go.Proofs.Ytlkofdedkfmaeaa.OFnExactDeliveredInOrder
set_option linter.unusedVariables false
set_option linter.unusedSimpArgs false
theorem own : ownKnob Try.prog.godebug = none := by kernel_rfl
theorem laidOut : laidOutB Try.prog = true := by kernel_rfl
set_option maxRecDepth 100000 in
theorem lifted (os : Os) (started : os.Started) (H : Type) (enc : TypeId × Value → H) :
    ReturnsInHanded {} Try.checked os 8 .any (Rows.fnExactDeliveredInOrderSpec.pre6 enc Try.prog Try.f8 Rows.fnExactDeliveredInOrderRow.domain false) (Rows.fnExactDeliveredInOrderSpec.post enc Try.prog Try.f8 false true false false) := by
  refine returnsInHanded_of_change_sized (C := Try.checked) own started (by kernel_rfl) Try.func8
    (ChangeSpec.witness6 (enc := enc) (C := Try.checked) false ⟨#[], #[.agg #[.slice none 0 0, .int .i64 0, .int .i64 0, .slice none 0 0, .int .i64 0, .int .i64 0, .int .i64 0], .int .i64 0, .int .i64 0, .int .i64 0], []⟩ 8 (by kernel_rfl) (by kernel_rfl) (by kernel_rfl) (by kernel_rfl)) ?_
  intro W base args ds gs before hval0 hW hcnd hsz0 _
  have hval : ∀ (j : Nat) t v, Try.f8.params[j]? = some t → args[j]? = some v → Value.okWide Try.prog W .any base t v := hval0
  have hW' := hW
  obtain ⟨p, q, hA0, hV, rfl, hfz, hnd⟩ := hW
  have hA : DataW.TrodAll enc Try.prog W 0 (fun _ => true) true Try.f8.params.toList args.toList ds p := hA0
  rw [Try.params8] at hA hval
  obtain ⟨v0, vs0, d0, ds0, p0, q0, hargs, rfl, rfl, h0, r0⟩ := trodAll_cons hA
  obtain ⟨v1, vs1, d1, ds1, p1, q1, rfl, rfl, rfl, h1, r1⟩ := trodAll_cons r0
  obtain ⟨v2, vs2, d2, ds2, p2, q2, rfl, rfl, rfl, h2, r2⟩ := trodAll_cons r1
  obtain ⟨v3, vs3, d3, ds3, p3, q3, rfl, rfl, rfl, h3, r3⟩ := trodAll_cons r2
  obtain ⟨rfl, rfl, rfl⟩ := trodAll_nil r3
  obtain rfl : args = #[v0, v1, v2, v3] := by cases args; simp_all
  obtain ⟨rfl, rfl⟩ := trodVars_none hV
  have k0 := h0
  have lt0 : ∀ x ∈ p0, x.block < W.heap.size := by obtain ⟨m, hm⟩ := k0; exact DataW.trod_lt m _ _ _ hm
  have k1 := h1
  have lt1 : ∀ x ∈ p1, x.block < W.heap.size := by obtain ⟨m, hm⟩ := k1; exact DataW.trod_lt m _ _ _ hm
  have k2 := h2
  have lt2 : ∀ x ∈ p2, x.block < W.heap.size := by obtain ⟨m, hm⟩ := k2; exact DataW.trod_lt m _ _ _ hm
  have k3 := h3
  have lt3 : ∀ x ∈ p3, x.block < W.heap.size := by obtain ⟨m, hm⟩ := k3; exact DataW.trod_lt m _ _ _ hm
  obtain ⟨x0, K0, F0⟩ := Opens.val flat27 h0
  obtain ⟨ca0, rfl, _⟩ := okWide_struct Try.underlying27 (hval 0 27 v0 rfl rfl)
  obtain ⟨cl0, ec0⟩ : ∃ cl, cl = (Value.agg ca0).cells.toList := ⟨_, rfl⟩
  rw [← ec0] at K0
  obtain ⟨u0_1, z0_1, rfl, K0_1, R0_1⟩ := K_pair K0
  obtain ⟨u0_2, z0_2, rfl, K0_2, R0_2⟩ := K_pair K0_1
  obtain ⟨A0_3, c0_3, rfl, hl0_3, hC0_3⟩ := K_slice K0_2
  obtain ⟨u0_4, z0_4, rfl, K0_4, R0_4⟩ := K_pair R0_2
  obtain rfl := K_int K0_4
  obtain rfl := K_int R0_4
  obtain ⟨u0_5, z0_5, rfl, K0_5, R0_5⟩ := K_pair R0_1
  obtain ⟨A0_6, c0_6, rfl, hl0_6, hC0_6⟩ := K_slice K0_5
  obtain ⟨u0_7, z0_7, rfl, K0_7, R0_7⟩ := K_pair R0_5
  obtain rfl := K_int K0_7
  obtain ⟨u0_8, z0_8, rfl, K0_8, R0_8⟩ := K_pair R0_7
  obtain rfl := K_int K0_8
  obtain rfl := K_int R0_8
  have ev0 := val_agg ec0.symm
  try simp only [List.cons_append, List.nil_append, List.append_assoc] at ev0
  obtain ⟨x1, K1, F1⟩ := Opens.val open3 h1
  obtain ⟨b1, rfl, _⟩ := open_int Try.underlying3 (hval 1 3 v1 rfl rfl) h1
  obtain rfl : b1 = x1 := by have := K_int K1; simpa [Value.cells] using this
  obtain ⟨x2, K2, F2⟩ := Opens.val open3 h2
  obtain ⟨b2, rfl, _⟩ := open_int Try.underlying3 (hval 2 3 v2 rfl rfl) h2
  obtain rfl : b2 = x2 := by have := K_int K2; simpa [Value.cells] using this
  obtain ⟨x3, K3, F3⟩ := Opens.val open3 h3
  obtain ⟨b3, rfl, _⟩ := open_int Try.underlying3 (hval 3 3 v3 rfl rfl) h3
  obtain rfl : b3 = x3 := by have := K_int K3; simpa [Value.cells] using this
  have HP := Pure.FnExactDeliveredInOrder (x0.1.1) (x0.1.2.1) (x0.1.2.2) (x0.2.1) (x0.2.2.1) (x0.2.2.2.1) (x0.2.2.2.2) b1 b2 b3 F0.1.1 F0.1.2.1 F0.1.2.2 F0.2.1 F0.2.2.1 F0.2.2.2.1 F0.2.2.2.2 F1 F2 F3
  obtain ⟨k, HK⟩ := HP
  have HC := Go.Proofs.Ytlkofdedkfmaeaa.XFnExactDeliveredInOrder.laws_FnExactDeliveredInOrder.calls (k := k) (l0_0 := x0.1.1) (a0_1 := x0.1.2.1) (a0_2 := x0.1.2.2) (l0_3 := x0.2.1) (a0_4 := x0.2.2.1) (a0_5 := x0.2.2.2.1) (a0_6 := x0.2.2.2.2) (a1 := b1) (a2 := b2) (a3 := b3) (r := true) (w := W) (hr0_0 := hC0_3) (hc0_0 := hl0_3) (hr0_3 := hC0_6) (hc0_3 := hl0_6) (h := HK)
  obtain rfl : ca0 = _ := Value.agg.inj ev0
  refine HC.mono fun e W' ⟨he, bel⟩ => ?_
  subst he
  exact ⟨_, rfl, _, _, _, [], _, [], hW', trodAll_mk1 (shut_bool Try.underlying4 _), (trodAll_cons_mk (Below.trod laidOut (by kernel_rfl) (of_decide_eq_true (by kernel_rfl)) k0 bel lt0) (trodAll_cons_mk (Below.trod laidOut (by kernel_rfl) (of_decide_eq_true (by kernel_rfl)) k1 bel lt1) (trodAll_cons_mk (Below.trod laidOut (by kernel_rfl) (of_decide_eq_true (by kernel_rfl)) k2 bel lt2) (trodAll_cons_mk (Below.trod laidOut (by kernel_rfl) (of_decide_eq_true (by kernel_rfl)) k3 bel lt3) trodAll_mk0)))), rfl, bel.frame _, fun h => by cases h⟩
theorem named : Try.pinned.checked.prog.funcNamed Rows.fnExactDeliveredInOrderRow.func = some 8 := by kernel_rfl
theorem joined : joinedFacts Try.pinned.checked.prog 8 Try.f8 Rows.fnExactDeliveredInOrderSpec Rows.fnExactDeliveredInOrderRow = true := by kernel_rfl
theorem over : Rows.fnExactDeliveredInOrderRow.holds Try.pinned (OpenSpec.ofChange Rows.fnExactDeliveredInOrderSpec) :=
  OpenClaim.holds_of_wide 8 Try.f8 rfl rfl rfl rfl rfl rfl rfl ⟨rfl, rfl, rfl, rfl, rfl⟩ rfl rfl rfl rfl rfl named Try.func8 joined
    (of_decide_eq_true (by kernel_rfl)) (by unfold Func.isWrapper; first | (rw [if_pos (by decide +kernel)]; kernel_rfl) | (rw [if_neg (by decide +kernel)]; exact ⟨rfl, rfl⟩))
    (fun os started H enc _ => lifted os started H enc)
theorem proved : Rows.FnExactDeliveredInOrderSaid := over
end Go.Proofs.Ytlkofdedkfmaeaa.fnExactDeliveredInOrder
namespace Go.Proofs.Ytlkofdedkfmaeaa
theorem fnExactDeliveredInOrder_holds : Rows.FnExactDeliveredInOrderSaid := fnExactDeliveredInOrder.proved
#print axioms fnExactDeliveredInOrder_holds
end Go.Proofs.Ytlkofdedkfmaeaa
