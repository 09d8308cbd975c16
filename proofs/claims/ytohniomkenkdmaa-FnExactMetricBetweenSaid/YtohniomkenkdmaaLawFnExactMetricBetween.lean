/- FnExactMetricBetween: for every input the program's law returns true, and its arguments read afterwards as before. Conditions: none. -/
import Derived.Test.YtohniomkenkdmaaRows
import Derived.Test.YtohniomkenkdmaaOFnExactMetricBetween
import Derived.Test.YtohniomkenkdmaaPureFnExactMetricBetween
import Derived.WalkKit
import Derived.ProofKit
import Derived.OpenShut
import Derived.ShutString
import Derived.ChangeOld
import Derived.Below
import Derived.SizedLaws
namespace Go.Proofs.Ytohniomkenkdmaa.fnExactMetricBetween
open Go.ChangeShapes Go.WideShapes Go.ChangeAt Go.RowKit Go.Proofs.Ytohniomkenkdmaa.Open Go.Proofs.Ytohniomkenkdmaa.OFnExactMetricBetween
set_option linter.unusedVariables false
set_option linter.unusedSimpArgs false
theorem own : ownKnob Try.prog.godebug = none := by kernel_rfl
theorem laidOut : laidOutB Try.prog = true := by kernel_rfl
set_option maxRecDepth 100000 in
theorem lifted (os : Os) (started : os.Started) (H : Type) (enc : TypeId × Value → H) :
    ReturnsInHanded {} Try.checked os 10 .any (Rows.fnExactMetricBetweenSpec.pre6 enc Try.prog Try.f10 Rows.fnExactMetricBetweenRow.domain false) (Rows.fnExactMetricBetweenSpec.post enc Try.prog Try.f10 false true false false) := by
  refine returnsInHanded_of_change_sized (C := Try.checked) own started (by kernel_rfl) Try.func10
    (ChangeSpec.witness6 (enc := enc) (C := Try.checked) false ⟨#[], #[.agg #[.int .i64 0, .slice none 0 0], .int .i64 0, .int .i64 0], []⟩ 8 (by kernel_rfl) (by kernel_rfl) (by kernel_rfl) (by kernel_rfl)) ?_
  intro W base args ds gs before hval0 hW hcnd hsz0 _
  have hval : ∀ (j : Nat) t v, Try.f10.params[j]? = some t → args[j]? = some v → Value.okWide Try.prog W .any base t v := hval0
  have hW' := hW
  obtain ⟨p, q, hA0, hV, rfl, hfz, hnd⟩ := hW
  have hA : DataW.TrodAll enc Try.prog W 0 (fun _ => true) true Try.f10.params.toList args.toList ds p := hA0
  rw [Try.params10] at hA hval
  obtain ⟨v0, vs0, d0, ds0, p0, q0, hargs, rfl, rfl, h0, r0⟩ := trodAll_cons hA
  obtain ⟨v1, vs1, d1, ds1, p1, q1, rfl, rfl, rfl, h1, r1⟩ := trodAll_cons r0
  obtain ⟨v2, vs2, d2, ds2, p2, q2, rfl, rfl, rfl, h2, r2⟩ := trodAll_cons r1
  obtain ⟨rfl, rfl, rfl⟩ := trodAll_nil r2
  obtain rfl : args = #[v0, v1, v2] := by cases args; simp_all
  obtain ⟨rfl, rfl⟩ := trodVars_none hV
  have k0 := h0
  have lt0 : ∀ x ∈ p0, x.block < W.heap.size := by obtain ⟨m, hm⟩ := k0; exact DataW.trod_lt m _ _ _ hm
  have k1 := h1
  have lt1 : ∀ x ∈ p1, x.block < W.heap.size := by obtain ⟨m, hm⟩ := k1; exact DataW.trod_lt m _ _ _ hm
  have k2 := h2
  have lt2 : ∀ x ∈ p2, x.block < W.heap.size := by obtain ⟨m, hm⟩ := k2; exact DataW.trod_lt m _ _ _ hm
  obtain ⟨x0, K0, F0⟩ := Opens.val flat77 h0
  obtain ⟨ca0, rfl, _⟩ := okWide_struct Try.underlying77 (hval 0 77 v0 rfl rfl)
  obtain ⟨cl0, ec0⟩ : ∃ cl, cl = (Value.agg ca0).cells.toList := ⟨_, rfl⟩
  rw [← ec0] at K0
  obtain ⟨u0_1, z0_1, rfl, K0_1, R0_1⟩ := K_pair K0
  obtain rfl := K_int K0_1
  obtain ⟨A0_2, c0_2, rfl, hl0_2, hC0_2⟩ := K_slice R0_1
  have ev0 := val_agg ec0.symm
  try simp only [List.cons_append, List.nil_append, List.append_assoc] at ev0
  obtain ⟨x1, K1, F1⟩ := Opens.val open3 h1
  obtain ⟨b1, rfl, _⟩ := open_int Try.underlying3 (hval 1 3 v1 rfl rfl) h1
  obtain rfl : b1 = x1 := by have := K_int K1; simpa [Value.cells] using this
  obtain ⟨x2, K2, F2⟩ := Opens.val open3 h2
  obtain ⟨b2, rfl, _⟩ := open_int Try.underlying3 (hval 2 3 v2 rfl rfl) h2
  obtain rfl : b2 = x2 := by have := K_int K2; simpa [Value.cells] using this
  have HP := Pure.FnExactMetricBetween (x0.1) (x0.2) b1 b2 F0.1 F0.2 F1 F2
  obtain ⟨k, HK⟩ := HP
  have HC := Go.Proofs.Ytohniomkenkdmaa.XFnExactMetricBetween.laws_FnExactMetricBetween.calls (k := k) (a0_0 := x0.1) (l0_1 := x0.2) (a1 := b1) (a2 := b2) (r := true) (w := W) (hr0_1 := hC0_2) (hc0_1 := hl0_2) (h := HK)
  obtain rfl : ca0 = _ := Value.agg.inj ev0
  refine HC.mono fun e W' ⟨he, bel⟩ => ?_
  subst he
  exact ⟨_, rfl, _, _, _, [], _, [], hW', trodAll_mk1 (shut_bool Try.underlying4 _), (trodAll_cons_mk (Below.trod laidOut (by kernel_rfl) (of_decide_eq_true (by kernel_rfl)) k0 bel lt0) (trodAll_cons_mk (Below.trod laidOut (by kernel_rfl) (of_decide_eq_true (by kernel_rfl)) k1 bel lt1) (trodAll_cons_mk (Below.trod laidOut (by kernel_rfl) (of_decide_eq_true (by kernel_rfl)) k2 bel lt2) trodAll_mk0))), rfl, bel.frame _, fun h => by cases h⟩
theorem over : Rows.fnExactMetricBetweenRow.holds Try.pinned (OpenSpec.ofChange Rows.fnExactMetricBetweenSpec) :=
  OpenClaim.holds_of_wide 10 Try.f10 rfl rfl rfl rfl rfl rfl rfl ⟨rfl, rfl, rfl, rfl, rfl⟩ rfl rfl rfl rfl rfl (by kernel_rfl) Try.func10 (by kernel_rfl)
    (of_decide_eq_true (by kernel_rfl)) (by unfold Func.isWrapper; first | (rw [if_pos (by decide +kernel)]; kernel_rfl) | (rw [if_neg (by decide +kernel)]; exact ⟨rfl, rfl⟩))
    (fun os started H enc _ => lifted os started H enc)
theorem proved : Rows.FnExactMetricBetweenSaid := over
end Go.Proofs.Ytohniomkenkdmaa.fnExactMetricBetween
namespace Go.Proofs.Ytohniomkenkdmaa
theorem fnExactMetricBetween_holds : Rows.FnExactMetricBetweenSaid := fnExactMetricBetween.proved
#print axioms fnExactMetricBetween_holds
end Go.Proofs.Ytohniomkenkdmaa
