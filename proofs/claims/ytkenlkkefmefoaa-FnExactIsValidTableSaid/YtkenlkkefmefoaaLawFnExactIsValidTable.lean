/- FnExactIsValidTable: for every input the program's law returns true, and its arguments read afterwards as before. Conditions: none. -/
import Derived.Test.YtkenlkkefmefoaaRows
import Derived.Test.YtkenlkkefmefoaaOFnExactIsValidTable
import Derived.Test.YtkenlkkefmefoaaPureFnExactIsValidTable
import Derived.WalkKit
import Derived.ProofKit
import Derived.OpenShut
import Derived.ShutString
import Derived.ChangeOld
import Derived.Below
import Derived.SizedLaws
namespace Go.Proofs.Ytkenlkkefmefoaa.fnExactIsValidTable
open Go.ChangeShapes Go.WideShapes Go.ChangeAt Go.RowKit Go.Proofs.Ytkenlkkefmefoaa.Open Go.Proofs.Ytkenlkkefmefoaa.OFnExactIsValidTable
set_option linter.unusedVariables false
set_option linter.unusedSimpArgs false
theorem own : ownKnob Try.prog.godebug = none := by kernel_rfl
theorem laidOut : laidOutB Try.prog = true := by kernel_rfl
set_option maxRecDepth 100000 in
theorem lifted (os : Os) (started : os.Started) (H : Type) (enc : TypeId × Value → H) :
    ReturnsInHanded {} Try.checked os 14 .any (Rows.fnExactIsValidTableSpec.pre6 enc Try.prog Try.f14 Rows.fnExactIsValidTableRow.domain false) (Rows.fnExactIsValidTableSpec.post enc Try.prog Try.f14 false true false false) := by
  refine returnsInHanded_of_change_sized (C := Try.checked) own started (by kernel_rfl) Try.func14
    (ChangeSpec.witness6 (enc := enc) (C := Try.checked) false ⟨#[], #[.agg #[.slice none 0 0]], []⟩ 8 (by kernel_rfl) (by kernel_rfl) (by kernel_rfl) (by kernel_rfl)) ?_
  intro W base args ds gs before hval0 hW hcnd hsz0 _
  have hval : ∀ (j : Nat) t v, Try.f14.params[j]? = some t → args[j]? = some v → Value.okWide Try.prog W .any base t v := hval0
  have hW' := hW
  obtain ⟨p, q, hA0, hV, rfl, hfz, hnd⟩ := hW
  have hA : DataW.TrodAll enc Try.prog W 0 (fun _ => true) true Try.f14.params.toList args.toList ds p := hA0
  rw [Try.params14] at hA hval
  obtain ⟨v0, vs0, d0, ds0, p0, q0, hargs, rfl, rfl, h0, r0⟩ := trodAll_cons hA
  obtain ⟨rfl, rfl, rfl⟩ := trodAll_nil r0
  obtain rfl : args = #[v0] := by cases args; simp_all
  obtain ⟨rfl, rfl⟩ := trodVars_none hV
  have k0 := h0
  have lt0 : ∀ x ∈ p0, x.block < W.heap.size := by obtain ⟨m, hm⟩ := k0; exact DataW.trod_lt m _ _ _ hm
  obtain ⟨x0, K0, F0⟩ := Opens.val flat84 h0
  obtain ⟨ca0, rfl, _⟩ := okWide_struct Try.underlying84 (hval 0 84 v0 rfl rfl)
  obtain ⟨cl0, ec0⟩ : ∃ cl, cl = (Value.agg ca0).cells.toList := ⟨_, rfl⟩
  rw [← ec0] at K0
  obtain ⟨A0_1, c0_1, rfl, hl0_1, hC0_1⟩ := K_slice K0
  have ev0 := val_agg ec0.symm
  try simp only [List.cons_append, List.nil_append, List.append_assoc] at ev0
  have HP := Pure.FnExactIsValidTable x0 F0
  obtain ⟨k, HK⟩ := HP
  have HC := Go.Proofs.Ytkenlkkefmefoaa.PFnExactIsValidTable.laws_FnExactIsValidTable.calls (k := k) (l0_0 := x0) (r := true) (w := W) (hr0_0 := hC0_1) (hc0_0 := hl0_1) (h := HK)
  obtain rfl : ca0 = _ := Value.agg.inj ev0
  refine HC.mono fun e W' ⟨he, bel⟩ => ?_
  subst he
  exact ⟨_, rfl, _, _, _, [], _, [], hW', trodAll_mk1 (shut_bool Try.underlying4 _), (trodAll_cons_mk (Below.trod laidOut (by kernel_rfl) (of_decide_eq_true (by kernel_rfl)) k0 bel lt0) trodAll_mk0), rfl, bel.frame _, fun h => by cases h⟩
theorem over : Rows.fnExactIsValidTableRow.holds Try.pinned (OpenSpec.ofChange Rows.fnExactIsValidTableSpec) :=
  OpenClaim.holds_of_wide 14 Try.f14 rfl rfl rfl rfl rfl rfl rfl ⟨rfl, rfl, rfl, rfl, rfl⟩ rfl rfl rfl rfl rfl (by kernel_rfl) Try.func14 (by kernel_rfl)
    (of_decide_eq_true (by kernel_rfl)) (by unfold Func.isWrapper; first | (rw [if_pos (by decide +kernel)]; kernel_rfl) | (rw [if_neg (by decide +kernel)]; exact ⟨rfl, rfl⟩))
    (fun os started H enc _ => lifted os started H enc)
theorem proved : Rows.FnExactIsValidTableSaid := over
end Go.Proofs.Ytkenlkkefmefoaa.fnExactIsValidTable
namespace Go.Proofs.Ytkenlkkefmefoaa
theorem fnExactIsValidTable_holds : Rows.FnExactIsValidTableSaid := fnExactIsValidTable.proved
#print axioms fnExactIsValidTable_holds
end Go.Proofs.Ytkenlkkefmefoaa
