/- FnExactEqualMeshFrames: for every input the program's law returns true, and its arguments read afterwards as before. Conditions: none. -/
import Derived.Test.YtkenlkkefmefoaaRows
import Derived.Test.YtkenlkkefmefoaaOFnExactEqualMeshFrames
import Derived.Test.YtkenlkkefmefoaaPureFnExactEqualMeshFrames
import Derived.WalkKit
import Derived.ProofKit
import Derived.OpenShut
import Derived.ShutString
import Derived.ChangeOld
import Derived.Below
import Derived.SizedLaws
namespace Go.Proofs.Ytkenlkkefmefoaa.fnExactEqualMeshFrames
open Go.ChangeShapes Go.WideShapes Go.ChangeAt Go.RowKit Go.Proofs.Ytkenlkkefmefoaa.Open Go.Proofs.Ytkenlkkefmefoaa.OFnExactEqualMeshFrames
set_option linter.unusedVariables false
set_option linter.unusedSimpArgs false
theorem own : ownKnob Try.prog.godebug = none := by kernel_rfl
theorem laidOut : laidOutB Try.prog = true := by kernel_rfl
set_option maxRecDepth 100000 in
theorem lifted (os : Os) (started : os.Started) (H : Type) (enc : TypeId × Value → H) :
    ReturnsInHanded {} Try.checked os 6 .any (Rows.fnExactEqualMeshFramesSpec.pre6 enc Try.prog Try.f6 Rows.fnExactEqualMeshFramesRow.domain false) (Rows.fnExactEqualMeshFramesSpec.post enc Try.prog Try.f6 false true false false) := by
  refine returnsInHanded_of_change_sized (C := Try.checked) own started (by kernel_rfl) Try.func6
    (ChangeSpec.witness6 (enc := enc) (C := Try.checked) false ⟨#[], #[.agg #[.int .i64 0, .int .i64 0, .int .i64 0, .int .i64 0, .slice none 0 0], .agg #[.int .i64 0, .int .i64 0, .int .i64 0, .int .i64 0, .slice none 0 0]], []⟩ 8 (by kernel_rfl) (by kernel_rfl) (by kernel_rfl) (by kernel_rfl)) ?_
  intro W base args ds gs before hval0 hW hcnd hsz0 _
  have hval : ∀ (j : Nat) t v, Try.f6.params[j]? = some t → args[j]? = some v → Value.okWide Try.prog W .any base t v := hval0
  have hW' := hW
  obtain ⟨p, q, hA0, hV, rfl, hfz, hnd⟩ := hW
  have hA : DataW.TrodAll enc Try.prog W 0 (fun _ => true) true Try.f6.params.toList args.toList ds p := hA0
  rw [Try.params6] at hA hval
  obtain ⟨v0, vs0, d0, ds0, p0, q0, hargs, rfl, rfl, h0, r0⟩ := trodAll_cons hA
  obtain ⟨v1, vs1, d1, ds1, p1, q1, rfl, rfl, rfl, h1, r1⟩ := trodAll_cons r0
  obtain ⟨rfl, rfl, rfl⟩ := trodAll_nil r1
  obtain rfl : args = #[v0, v1] := by cases args; simp_all
  obtain ⟨rfl, rfl⟩ := trodVars_none hV
  have k0 := h0
  have lt0 : ∀ x ∈ p0, x.block < W.heap.size := by obtain ⟨m, hm⟩ := k0; exact DataW.trod_lt m _ _ _ hm
  have k1 := h1
  have lt1 : ∀ x ∈ p1, x.block < W.heap.size := by obtain ⟨m, hm⟩ := k1; exact DataW.trod_lt m _ _ _ hm
  obtain ⟨x0, K0, F0⟩ := Opens.val flat41 h0
  obtain ⟨ca0, rfl, _⟩ := okWide_struct Try.underlying41 (hval 0 41 v0 rfl rfl)
  obtain ⟨cl0, ec0⟩ : ∃ cl, cl = (Value.agg ca0).cells.toList := ⟨_, rfl⟩
  rw [← ec0] at K0
  obtain ⟨u0_1, z0_1, rfl, K0_1, R0_1⟩ := K_pair K0
  obtain rfl := K_int K0_1
  obtain ⟨u0_2, z0_2, rfl, K0_2, R0_2⟩ := K_pair R0_1
  obtain rfl := K_int K0_2
  obtain ⟨u0_3, z0_3, rfl, K0_3, R0_3⟩ := K_pair R0_2
  obtain rfl := K_int K0_3
  obtain ⟨u0_4, z0_4, rfl, K0_4, R0_4⟩ := K_pair R0_3
  obtain rfl := K_int K0_4
  obtain ⟨A0_5, c0_5, rfl, hl0_5, hC0_5⟩ := K_slice R0_4
  have ev0 := val_agg ec0.symm
  try simp only [List.cons_append, List.nil_append, List.append_assoc] at ev0
  obtain ⟨x1, K1, F1⟩ := Opens.val flat41 h1
  obtain ⟨ca1, rfl, _⟩ := okWide_struct Try.underlying41 (hval 1 41 v1 rfl rfl)
  obtain ⟨cl1, ec1⟩ : ∃ cl, cl = (Value.agg ca1).cells.toList := ⟨_, rfl⟩
  rw [← ec1] at K1
  obtain ⟨u1_1, z1_1, rfl, K1_1, R1_1⟩ := K_pair K1
  obtain rfl := K_int K1_1
  obtain ⟨u1_2, z1_2, rfl, K1_2, R1_2⟩ := K_pair R1_1
  obtain rfl := K_int K1_2
  obtain ⟨u1_3, z1_3, rfl, K1_3, R1_3⟩ := K_pair R1_2
  obtain rfl := K_int K1_3
  obtain ⟨u1_4, z1_4, rfl, K1_4, R1_4⟩ := K_pair R1_3
  obtain rfl := K_int K1_4
  obtain ⟨A1_5, c1_5, rfl, hl1_5, hC1_5⟩ := K_slice R1_4
  have ev1 := val_agg ec1.symm
  try simp only [List.cons_append, List.nil_append, List.append_assoc] at ev1
  have HP := Pure.FnExactEqualMeshFrames (x0.1) (x0.2.1) (x0.2.2.1) (x0.2.2.2.1) (x0.2.2.2.2) (x1.1) (x1.2.1) (x1.2.2.1) (x1.2.2.2.1) (x1.2.2.2.2) F0.1 F0.2.1 F0.2.2.1 F0.2.2.2.1 F0.2.2.2.2 F1.1 F1.2.1 F1.2.2.1 F1.2.2.2.1 F1.2.2.2.2
  obtain ⟨k, HK⟩ := HP
  have HC := Go.Proofs.Ytkenlkkefmefoaa.XFnExactEqualMeshFrames.laws_FnExactEqualMeshFrames.calls (k := k) (a0_0 := x0.1) (a0_1 := x0.2.1) (a0_2 := x0.2.2.1) (a0_3 := x0.2.2.2.1) (l0_4 := x0.2.2.2.2) (a1_0 := x1.1) (a1_1 := x1.2.1) (a1_2 := x1.2.2.1) (a1_3 := x1.2.2.2.1) (l1_4 := x1.2.2.2.2) (r := true) (w := W) (hr0_4 := hC0_5) (hc0_4 := hl0_5) (hr1_4 := hC1_5) (hc1_4 := hl1_5) (h := HK)
  obtain rfl : ca0 = _ := Value.agg.inj ev0
  obtain rfl : ca1 = _ := Value.agg.inj ev1
  refine HC.mono fun e W' ⟨he, bel⟩ => ?_
  subst he
  exact ⟨_, rfl, _, _, _, [], _, [], hW', trodAll_mk1 (shut_bool Try.underlying4 _), (trodAll_cons_mk (Below.trod laidOut (by kernel_rfl) (of_decide_eq_true (by kernel_rfl)) k0 bel lt0) (trodAll_cons_mk (Below.trod laidOut (by kernel_rfl) (of_decide_eq_true (by kernel_rfl)) k1 bel lt1) trodAll_mk0)), rfl, bel.frame _, fun h => by cases h⟩
theorem over : Rows.fnExactEqualMeshFramesRow.holds Try.pinned (OpenSpec.ofChange Rows.fnExactEqualMeshFramesSpec) :=
  OpenClaim.holds_of_wide 6 Try.f6 rfl rfl rfl rfl rfl rfl rfl ⟨rfl, rfl, rfl, rfl, rfl⟩ rfl rfl rfl rfl rfl (by kernel_rfl) Try.func6 (by kernel_rfl)
    (of_decide_eq_true (by kernel_rfl)) (by unfold Func.isWrapper; first | (rw [if_pos (by decide +kernel)]; kernel_rfl) | (rw [if_neg (by decide +kernel)]; exact ⟨rfl, rfl⟩))
    (fun os started H enc _ => lifted os started H enc)
theorem proved : Rows.FnExactEqualMeshFramesSaid := over
end Go.Proofs.Ytkenlkkefmefoaa.fnExactEqualMeshFrames
namespace Go.Proofs.Ytkenlkkefmefoaa
theorem fnExactEqualMeshFrames_holds : Rows.FnExactEqualMeshFramesSaid := fnExactEqualMeshFrames.proved
#print axioms fnExactEqualMeshFrames_holds
end Go.Proofs.Ytkenlkkefmefoaa
