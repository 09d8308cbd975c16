/- FnExactPathEntryFor: for every input the program's law returns true, and its arguments read afterwards as before. Conditions: none. -/
import Derived.Test.YtohniomkenkdmaaRows
import Derived.Test.YtohniomkenkdmaaOFnExactPathEntryFor
import Derived.Test.YtohniomkenkdmaaPureFnExactPathEntryFor
import Derived.WalkKit
import Derived.ProofKit
import Derived.OpenShut
import Derived.ShutString
import Derived.ChangeOld
import Derived.Below
import Derived.SizedLaws
namespace Go.Proofs.Ytohniomkenkdmaa.fnExactPathEntryFor
open Go.ChangeShapes Go.WideShapes Go.ChangeAt Go.RowKit Go.Proofs.Ytohniomkenkdmaa.Open Go.Proofs.Ytohniomkenkdmaa.OFnExactPathEntryFor
set_option linter.unusedVariables false
set_option linter.unusedSimpArgs false
theorem own : ownKnob Try.prog.godebug = none := by kernel_rfl
theorem laidOut : laidOutB Try.prog = true := by kernel_rfl
set_option maxRecDepth 100000 in
theorem lifted (os : Os) (started : os.Started) (H : Type) (enc : TypeId × Value → H) :
    ReturnsInHanded {} Try.checked os 3 .any (Rows.fnExactPathEntryForSpec.pre6 enc Try.prog Try.f3 Rows.fnExactPathEntryForRow.domain false) (Rows.fnExactPathEntryForSpec.post enc Try.prog Try.f3 false true false false) := by
  refine returnsInHanded_of_change_sized (C := Try.checked) own started (by kernel_rfl) Try.func3
    (ChangeSpec.witness6 (enc := enc) (C := Try.checked) false ⟨#[], #[.agg #[.slice none 0 0], .int .i64 0], []⟩ 8 (by kernel_rfl) (by kernel_rfl) (by kernel_rfl) (by kernel_rfl)) ?_
  intro W base args ds gs before hval0 hW hcnd hsz0 _
  have hval : ∀ (j : Nat) t v, Try.f3.params[j]? = some t → args[j]? = some v → Value.okWide Try.prog W .any base t v := hval0
  have hW' := hW
  obtain ⟨p, q, hA0, hV, rfl, hfz, hnd⟩ := hW
  have hA : DataW.TrodAll enc Try.prog W 0 (fun _ => true) true Try.f3.params.toList args.toList ds p := hA0
  rw [Try.params3] at hA hval
  obtain ⟨v0, vs0, d0, ds0, p0, q0, hargs, rfl, rfl, h0, r0⟩ := trodAll_cons hA
  obtain ⟨v1, vs1, d1, ds1, p1, q1, rfl, rfl, rfl, h1, r1⟩ := trodAll_cons r0
  obtain ⟨rfl, rfl, rfl⟩ := trodAll_nil r1
  obtain rfl : args = #[v0, v1] := by cases args; simp_all
  obtain ⟨rfl, rfl⟩ := trodVars_none hV
  have k0 := h0
  have lt0 : ∀ x ∈ p0, x.block < W.heap.size := by obtain ⟨m, hm⟩ := k0; exact DataW.trod_lt m _ _ _ hm
  have k1 := h1
  have lt1 : ∀ x ∈ p1, x.block < W.heap.size := by obtain ⟨m, hm⟩ := k1; exact DataW.trod_lt m _ _ _ hm
  obtain ⟨x0, K0, F0⟩ := Opens.val flat24 h0
  obtain ⟨ca0, rfl, _⟩ := okWide_struct Try.underlying24 (hval 0 24 v0 rfl rfl)
  obtain ⟨cl0, ec0⟩ : ∃ cl, cl = (Value.agg ca0).cells.toList := ⟨_, rfl⟩
  rw [← ec0] at K0
  obtain ⟨A0_1, c0_1, rfl, hl0_1, hC0_1⟩ := K_slice K0
  have ev0 := val_agg ec0.symm
  try simp only [List.cons_append, List.nil_append, List.append_assoc] at ev0
  obtain ⟨x1, K1, F1⟩ := Opens.val open3 h1
  obtain ⟨b1, rfl, _⟩ := open_int Try.underlying3 (hval 1 3 v1 rfl rfl) h1
  obtain rfl : b1 = x1 := by have := K_int K1; simpa [Value.cells] using this
  have HP := Pure.FnExactPathEntryFor x0 b1 F0 F1
  obtain ⟨k, HK⟩ := HP
  have HC := Go.Proofs.Ytohniomkenkdmaa.XFnExactPathEntryFor.laws_FnExactPathEntryFor.calls (k := k) (l0_0 := x0) (a1 := b1) (r := true) (w := W) (hr0_0 := hC0_1) (hc0_0 := hl0_1) (h := HK)
  obtain rfl : ca0 = _ := Value.agg.inj ev0
  refine HC.mono fun e W' ⟨he, bel⟩ => ?_
  subst he
  exact ⟨_, rfl, _, _, _, [], _, [], hW', trodAll_mk1 (shut_bool Try.underlying4 _), (trodAll_cons_mk (Below.trod laidOut (by kernel_rfl) (of_decide_eq_true (by kernel_rfl)) k0 bel lt0) (trodAll_cons_mk (Below.trod laidOut (by kernel_rfl) (of_decide_eq_true (by kernel_rfl)) k1 bel lt1) trodAll_mk0)), rfl, bel.frame _, fun h => by cases h⟩
theorem over : Rows.fnExactPathEntryForRow.holds Try.pinned (OpenSpec.ofChange Rows.fnExactPathEntryForSpec) :=
  OpenClaim.holds_of_wide 3 Try.f3 rfl rfl rfl rfl rfl rfl rfl ⟨rfl, rfl, rfl, rfl, rfl⟩ rfl rfl rfl rfl rfl (by kernel_rfl) Try.func3 (by kernel_rfl)
    (of_decide_eq_true (by kernel_rfl)) (by unfold Func.isWrapper; first | (rw [if_pos (by decide +kernel)]; kernel_rfl) | (rw [if_neg (by decide +kernel)]; exact ⟨rfl, rfl⟩))
    (fun os started H enc _ => lifted os started H enc)
theorem proved : Rows.FnExactPathEntryForSaid := over
end Go.Proofs.Ytohniomkenkdmaa.fnExactPathEntryFor
namespace Go.Proofs.Ytohniomkenkdmaa
theorem fnExactPathEntryFor_holds : Rows.FnExactPathEntryForSaid := fnExactPathEntryFor.proved
#print axioms fnExactPathEntryFor_holds
end Go.Proofs.Ytohniomkenkdmaa
