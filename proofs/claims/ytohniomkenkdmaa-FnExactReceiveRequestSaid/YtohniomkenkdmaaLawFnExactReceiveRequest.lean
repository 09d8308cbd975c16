/- FnExactReceiveRequest: for every input the program's law returns true, and its arguments read afterwards as before. Conditions: none. -/
import Derived.Test.YtohniomkenkdmaaRows
import Derived.Test.YtohniomkenkdmaaOFnExactReceiveRequest
import Derived.Test.YtohniomkenkdmaaPureFnExactReceiveRequest
import Derived.WalkKit
import Derived.ProofKit
import Derived.OpenShut
import Derived.ShutString
import Derived.ChangeOld
import Derived.Below
import Derived.SizedLaws
namespace Go.Proofs.Ytohniomkenkdmaa.fnExactReceiveRequest
open Go.ChangeShapes Go.WideShapes Go.ChangeAt Go.RowKit Go.Proofs.Ytohniomkenkdmaa.Open Go.Proofs.Ytohniomkenkdmaa.OFnExactReceiveRequest
set_option linter.unusedVariables false
set_option linter.unusedSimpArgs false
theorem own : ownKnob Try.prog.godebug = none := by kernel_rfl
theorem laidOut : laidOutB Try.prog = true := by kernel_rfl
set_option maxRecDepth 100000 in
theorem lifted (os : Os) (started : os.Started) (H : Type) (enc : TypeId × Value → H) :
    ReturnsInHanded {} Try.checked os 11 .any (Rows.fnExactReceiveRequestSpec.pre6 enc Try.prog Try.f11 Rows.fnExactReceiveRequestRow.domain false) (Rows.fnExactReceiveRequestSpec.post enc Try.prog Try.f11 false true false false) := by
  refine returnsInHanded_of_change_sized (C := Try.checked) own started (by kernel_rfl) Try.func11
    (ChangeSpec.witness6 (enc := enc) (C := Try.checked) false ⟨#[], #[.slice none 0 0, .int .i64 0, .agg #[.int .i64 0, .int .i64 0, .int .i64 0, .int .i64 0, .int .i64 0], .int .i64 0], []⟩ 8 (by kernel_rfl) (by kernel_rfl) (by kernel_rfl) (by kernel_rfl)) ?_
  intro W base args ds gs before hval0 hW hcnd hsz0 _
  have hval : ∀ (j : Nat) t v, Try.f11.params[j]? = some t → args[j]? = some v → Value.okWide Try.prog W .any base t v := hval0
  have hW' := hW
  obtain ⟨p, q, hA0, hV, rfl, hfz, hnd⟩ := hW
  have hA : DataW.TrodAll enc Try.prog W 0 (fun _ => true) true Try.f11.params.toList args.toList ds p := hA0
  rw [Try.params11] at hA hval
  obtain ⟨v0, vs0, d0, ds0, p0, q0, hargs, rfl, rfl, h0, r0⟩ := trodAll_cons hA
  obtain ⟨v1, vs1, d1, ds1, p1, q1, rfl, rfl, rfl, h1, r1⟩ := trodAll_cons r0
  obtain ⟨v2, vs2, d2, ds2, p2, q2, rfl, rfl, rfl, h2, r2⟩ := trodAll_cons r1
  obtain ⟨v3, vs3, d3, ds3, p3, q3, rfl, rfl, rfl, h3, r3⟩ := trodAll_cons r2
  obtain ⟨rfl, rfl, rfl⟩ := trodAll_nil r3
  obtain rfl : args = #[v0, v1, v2, v3] := by cases args; simp_all
  obtain ⟨rfl, rfl⟩ := trodVars_none hV
  have k0 := h0
  have lt0 : ∀ x ∈ p0, x.block < W.heap.size := by obtain ⟨m, hm⟩ := k0; exact DataW.trod_lt m _ _ _ hm
  have k1 := h1
  have lt1 : ∀ x ∈ p1, x.block < W.heap.size := by obtain ⟨m, hm⟩ := k1; exact DataW.trod_lt m _ _ _ hm
  have k2 := h2
  have lt2 : ∀ x ∈ p2, x.block < W.heap.size := by obtain ⟨m, hm⟩ := k2; exact DataW.trod_lt m _ _ _ hm
  have k3 := h3
  have lt3 : ∀ x ∈ p3, x.block < W.heap.size := by obtain ⟨m, hm⟩ := k3; exact DataW.trod_lt m _ _ _ hm
  obtain ⟨x0, K0, F0⟩ := Opens.val open97 h0
  obtain ⟨aa0, len0, cap0, rfl⟩ := okWide_slice Try.underlying97 (hval 0 97 v0 rfl rfl)
  obtain ⟨A0, c0, e0, hl0, hC0⟩ := K_slice K0
  obtain ⟨rfl, rfl, rfl⟩ : aa0 = A0 ∧ len0 = x0.length ∧ cap0 = c0 := by simpa [Value.cells] using e0
  obtain ⟨x1, K1, F1⟩ := Opens.val open3 h1
  obtain ⟨b1, rfl, _⟩ := open_int Try.underlying3 (hval 1 3 v1 rfl rfl) h1
  obtain rfl : b1 = x1 := by have := K_int K1; simpa [Value.cells] using this
  obtain ⟨x2, K2, F2⟩ := Opens.val flat38 h2
  obtain ⟨ca2, rfl, _⟩ := okWide_struct Try.underlying38 (hval 2 38 v2 rfl rfl)
  obtain ⟨cl2, ec2⟩ : ∃ cl, cl = (Value.agg ca2).cells.toList := ⟨_, rfl⟩
  rw [← ec2] at K2
  obtain ⟨u2_1, z2_1, rfl, K2_1, R2_1⟩ := K_pair K2
  obtain rfl := K_int K2_1
  obtain ⟨u2_2, z2_2, rfl, K2_2, R2_2⟩ := K_pair R2_1
  obtain rfl := K_int K2_2
  obtain ⟨u2_3, z2_3, rfl, K2_3, R2_3⟩ := K_pair R2_2
  obtain rfl := K_int K2_3
  obtain ⟨u2_4, z2_4, rfl, K2_4, R2_4⟩ := K_pair R2_3
  obtain rfl := K_int K2_4
  obtain rfl := K_int R2_4
  have ev2 := val_agg ec2.symm
  try simp only [List.cons_append, List.nil_append, List.append_assoc] at ev2
  obtain ⟨x3, K3, F3⟩ := Opens.val open3 h3
  obtain ⟨b3, rfl, _⟩ := open_int Try.underlying3 (hval 3 3 v3 rfl rfl) h3
  obtain rfl : b3 = x3 := by have := K_int K3; simpa [Value.cells] using this
  have HP := Pure.FnExactReceiveRequest x0 b1 (x2.1) (x2.2.1) (x2.2.2.1) (x2.2.2.2.1) (x2.2.2.2.2) b3 F0 F1 F2.1 F2.2.1 F2.2.2.1 F2.2.2.2.1 F2.2.2.2.2 F3
  obtain ⟨k, HK⟩ := HP
  have HC := Go.Proofs.Ytohniomkenkdmaa.XFnExactReceiveRequest.laws_FnExactReceiveRequest.calls (k := k) (l0 := x0) (a1 := b1) (a2_0 := x2.1) (a2_1 := x2.2.1) (a2_2 := x2.2.2.1) (a2_3 := x2.2.2.2.1) (a2_4 := x2.2.2.2.2) (a3 := b3) (r := true) (w := W) (hr0 := hC0) (hc0 := hl0) (h := HK)
  obtain rfl : ca2 = _ := Value.agg.inj ev2
  refine HC.mono fun e W' ⟨he, bel⟩ => ?_
  subst he
  exact ⟨_, rfl, _, _, _, [], _, [], hW', trodAll_mk1 (shut_bool Try.underlying4 _), (trodAll_cons_mk (Below.trod laidOut (by kernel_rfl) (of_decide_eq_true (by kernel_rfl)) k0 bel lt0) (trodAll_cons_mk (Below.trod laidOut (by kernel_rfl) (of_decide_eq_true (by kernel_rfl)) k1 bel lt1) (trodAll_cons_mk (Below.trod laidOut (by kernel_rfl) (of_decide_eq_true (by kernel_rfl)) k2 bel lt2) (trodAll_cons_mk (Below.trod laidOut (by kernel_rfl) (of_decide_eq_true (by kernel_rfl)) k3 bel lt3) trodAll_mk0)))), rfl, bel.frame _, fun h => by cases h⟩
theorem over : Rows.fnExactReceiveRequestRow.holds Try.pinned (OpenSpec.ofChange Rows.fnExactReceiveRequestSpec) :=
  OpenClaim.holds_of_wide 11 Try.f11 rfl rfl rfl rfl rfl rfl rfl ⟨rfl, rfl, rfl, rfl, rfl⟩ rfl rfl rfl rfl rfl (by kernel_rfl) Try.func11 (by kernel_rfl)
    (of_decide_eq_true (by kernel_rfl)) (by unfold Func.isWrapper; first | (rw [if_pos (by decide +kernel)]; kernel_rfl) | (rw [if_neg (by decide +kernel)]; exact ⟨rfl, rfl⟩))
    (fun os started H enc _ => lifted os started H enc)
theorem proved : Rows.FnExactReceiveRequestSaid := over
end Go.Proofs.Ytohniomkenkdmaa.fnExactReceiveRequest
namespace Go.Proofs.Ytohniomkenkdmaa
theorem fnExactReceiveRequest_holds : Rows.FnExactReceiveRequestSaid := fnExactReceiveRequest.proved
#print axioms fnExactReceiveRequest_holds
end Go.Proofs.Ytohniomkenkdmaa
