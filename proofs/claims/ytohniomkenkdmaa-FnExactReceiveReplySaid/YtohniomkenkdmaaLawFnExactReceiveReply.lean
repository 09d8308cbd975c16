/- FnExactReceiveReply: for every input the program's law returns true, and its arguments read afterwards as before. Conditions: none. -/
import Derived.Test.YtohniomkenkdmaaRows
import Derived.Test.YtohniomkenkdmaaOFnExactReceiveReply
import Derived.Test.YtohniomkenkdmaaPureFnExactReceiveReply
import Derived.WalkKit
import Derived.ProofKit
import Derived.OpenShut
import Derived.ShutString
import Derived.ChangeOld
import Derived.Below
import Derived.SizedLaws
namespace Go.Proofs.Ytohniomkenkdmaa.fnExactReceiveReply
open Go.ChangeShapes Go.WideShapes Go.ChangeAt Go.RowKit Go.Proofs.Ytohniomkenkdmaa.Open Go.Proofs.Ytohniomkenkdmaa.OFnExactReceiveReply
set_option linter.unusedVariables false
set_option linter.unusedSimpArgs false
theorem own : ownKnob Try.prog.godebug = none := by kernel_rfl
theorem laidOut : laidOutB Try.prog = true := by kernel_rfl
set_option maxRecDepth 100000 in
theorem lifted (os : Os) (started : os.Started) (H : Type) (enc : TypeId × Value → H) :
    ReturnsInHanded {} Try.checked os 4 .any (Rows.fnExactReceiveReplySpec.pre6 enc Try.prog Try.f4 Rows.fnExactReceiveReplyRow.domain false) (Rows.fnExactReceiveReplySpec.post enc Try.prog Try.f4 false true false false) := by
  refine returnsInHanded_of_change_sized (C := Try.checked) own started (by kernel_rfl) Try.func4
    (ChangeSpec.witness6 (enc := enc) (C := Try.checked) false ⟨#[], #[.int .i64 0, .agg #[.int .i64 0, .int .i64 0, .int .i64 0, .int .i64 0, .int .i64 0], .agg #[.int .i64 0, .int .i64 0, .int .i64 0, .int .i64 0, .int .i64 0]], []⟩ 8 (by kernel_rfl) (by kernel_rfl) (by kernel_rfl) (by kernel_rfl)) ?_
  intro W base args ds gs before hval0 hW hcnd hsz0 _
  have hval : ∀ (j : Nat) t v, Try.f4.params[j]? = some t → args[j]? = some v → Value.okWide Try.prog W .any base t v := hval0
  have hW' := hW
  obtain ⟨p, q, hA0, hV, rfl, hfz, hnd⟩ := hW
  have hA : DataW.TrodAll enc Try.prog W 0 (fun _ => true) true Try.f4.params.toList args.toList ds p := hA0
  rw [Try.params4] at hA hval
  obtain ⟨v0, vs0, d0, ds0, p0, q0, hargs, rfl, rfl, h0, r0⟩ := trodAll_cons hA
  obtain ⟨v1, vs1, d1, ds1, p1, q1, rfl, rfl, rfl, h1, r1⟩ := trodAll_cons r0
  obtain ⟨v2, vs2, d2, ds2, p2, q2, rfl, rfl, rfl, h2, r2⟩ := trodAll_cons r1
  obtain ⟨rfl, rfl, rfl⟩ := trodAll_nil r2
  obtain rfl : args = #[v0, v1, v2] := by cases args; simp_all
  obtain ⟨rfl, rfl⟩ := trodVars_none hV
  have k0 := h0
  have lt0 : ∀ x ∈ p0, x.block < W.heap.size := by obtain ⟨m, hm⟩ := k0; exact DataW.trod_lt m _ _ _ hm
  have k1 := h1
  have lt1 : ∀ x ∈ p1, x.block < W.heap.size := by obtain ⟨m, hm⟩ := k1; exact DataW.trod_lt m _ _ _ hm
  have k2 := h2
  have lt2 : ∀ x ∈ p2, x.block < W.heap.size := by obtain ⟨m, hm⟩ := k2; exact DataW.trod_lt m _ _ _ hm
  obtain ⟨x0, K0, F0⟩ := Opens.val open3 h0
  obtain ⟨b0, rfl, _⟩ := open_int Try.underlying3 (hval 0 3 v0 rfl rfl) h0
  obtain rfl : b0 = x0 := by have := K_int K0; simpa [Value.cells] using this
  obtain ⟨x1, K1, F1⟩ := Opens.val flat38 h1
  obtain ⟨ca1, rfl, _⟩ := okWide_struct Try.underlying38 (hval 1 38 v1 rfl rfl)
  obtain ⟨cl1, ec1⟩ : ∃ cl, cl = (Value.agg ca1).cells.toList := ⟨_, rfl⟩
  rw [← ec1] at K1
  obtain ⟨u1_1, z1_1, rfl, K1_1, R1_1⟩ := K_pair K1
  obtain rfl := K_int K1_1
  obtain ⟨u1_2, z1_2, rfl, K1_2, R1_2⟩ := K_pair R1_1
  obtain rfl := K_int K1_2
  obtain ⟨u1_3, z1_3, rfl, K1_3, R1_3⟩ := K_pair R1_2
  obtain rfl := K_int K1_3
  obtain ⟨u1_4, z1_4, rfl, K1_4, R1_4⟩ := K_pair R1_3
  obtain rfl := K_int K1_4
  obtain rfl := K_int R1_4
  have ev1 := val_agg ec1.symm
  try simp only [List.cons_append, List.nil_append, List.append_assoc] at ev1
  obtain ⟨x2, K2, F2⟩ := Opens.val flat40 h2
  obtain ⟨ca2, rfl, _⟩ := okWide_struct Try.underlying40 (hval 2 40 v2 rfl rfl)
  obtain ⟨cl2, ec2⟩ : ∃ cl, cl = (Value.agg ca2).cells.toList := ⟨_, rfl⟩
  rw [← ec2] at K2
  obtain ⟨u2_1, z2_1, rfl, K2_1, R2_1⟩ := K_pair K2
  obtain rfl := K_int K2_1
  obtain ⟨u2_2, z2_2, rfl, K2_2, R2_2⟩ := K_pair R2_1
  obtain rfl := K_int K2_2
  obtain ⟨u2_3, z2_3, rfl, K2_3, R2_3⟩ := K_pair R2_2
  obtain rfl := K_int K2_3
  obtain ⟨u2_4, z2_4, rfl, K2_4, R2_4⟩ := K_pair R2_3
  obtain rfl := K_int K2_4
  obtain rfl := K_int R2_4
  have ev2 := val_agg ec2.symm
  try simp only [List.cons_append, List.nil_append, List.append_assoc] at ev2
  have HP := Pure.FnExactReceiveReply b0 (x1.1) (x1.2.1) (x1.2.2.1) (x1.2.2.2.1) (x1.2.2.2.2) (x2.1) (x2.2.1) (x2.2.2.1) (x2.2.2.2.1) (x2.2.2.2.2) F0 F1.1 F1.2.1 F1.2.2.1 F1.2.2.2.1 F1.2.2.2.2 F2.1 F2.2.1 F2.2.2.1 F2.2.2.2.1 F2.2.2.2.2
  obtain ⟨k, HK⟩ := HP
  have HC := Go.Proofs.Ytohniomkenkdmaa.XFnExactReceiveReply.laws_FnExactReceiveReply.calls (k := k) (a0 := b0) (a1_0 := x1.1) (a1_1 := x1.2.1) (a1_2 := x1.2.2.1) (a1_3 := x1.2.2.2.1) (a1_4 := x1.2.2.2.2) (a2_0 := x2.1) (a2_1 := x2.2.1) (a2_2 := x2.2.2.1) (a2_3 := x2.2.2.2.1) (a2_4 := x2.2.2.2.2) (r := true) (w := W) (h := HK)
  obtain rfl : ca1 = _ := Value.agg.inj ev1
  obtain rfl : ca2 = _ := Value.agg.inj ev2
  refine HC.mono fun e W' ⟨he, bel⟩ => ?_
  subst he
  exact ⟨_, rfl, _, _, _, [], _, [], hW', trodAll_mk1 (shut_bool Try.underlying4 _), (trodAll_cons_mk (Below.trod laidOut (by kernel_rfl) (of_decide_eq_true (by kernel_rfl)) k0 bel lt0) (trodAll_cons_mk (Below.trod laidOut (by kernel_rfl) (of_decide_eq_true (by kernel_rfl)) k1 bel lt1) (trodAll_cons_mk (Below.trod laidOut (by kernel_rfl) (of_decide_eq_true (by kernel_rfl)) k2 bel lt2) trodAll_mk0))), rfl, bel.frame _, fun h => by cases h⟩
theorem over : Rows.fnExactReceiveReplyRow.holds Try.pinned (OpenSpec.ofChange Rows.fnExactReceiveReplySpec) :=
  OpenClaim.holds_of_wide 4 Try.f4 rfl rfl rfl rfl rfl rfl rfl ⟨rfl, rfl, rfl, rfl, rfl⟩ rfl rfl rfl rfl rfl (by kernel_rfl) Try.func4 (by kernel_rfl)
    (of_decide_eq_true (by kernel_rfl)) (by unfold Func.isWrapper; first | (rw [if_pos (by decide +kernel)]; kernel_rfl) | (rw [if_neg (by decide +kernel)]; exact ⟨rfl, rfl⟩))
    (fun os started H enc _ => lifted os started H enc)
theorem proved : Rows.FnExactReceiveReplySaid := over
end Go.Proofs.Ytohniomkenkdmaa.fnExactReceiveReply
namespace Go.Proofs.Ytohniomkenkdmaa
theorem fnExactReceiveReply_holds : Rows.FnExactReceiveReplySaid := fnExactReceiveReply.proved
#print axioms fnExactReceiveReply_holds
end Go.Proofs.Ytohniomkenkdmaa
