/- The functions that the law reaches as plain Lean functions, and of each a proof that its call computes it. Conditions: those that each theorem names. -/
import Derived.Test.YtlkofdedkfmaeaaWS
import Derived.Test.YtlkofdedkfmaeaaXFnExactDeliveredOncex0
import Derived.Test.YtlkofdedkfmaeaaXFnExactDeliveredOncex2
import Derived.Test.YtlkofdedkfmaeaaXFnExactDeliveredOncex3
import Derived.Test.YtlkofdedkfmaeaaXFnExactDeliveredOncex8
import Derived.Test.YtlkofdedkfmaeaaXFnExactDeliveredOncex9
import Derived.Test.YtlkofdedkfmaeaaXFnExactDeliveredOncex10
namespace Go.Proofs.Ytlkofdedkfmaeaa.XFnExactDeliveredOnce
open Go.RowKit Go.Proofs.YtlkofdedkfmaeaaW.PrintWords Go.Proofs.YtlkofdedkfmaeaaW.PrintLast Go.Proofs.YtlkofdedkfmaeaaW.PrintMore Go.Proofs.Ytlkofdedkfmaeaa.X
attribute [local go_sem] max2_int min2_int max_two min_two max_three min_three max_four min_four   -- for this text's walks alone
set_option linter.unusedVariables false
set_option linter.unusedSimpArgs false

/-! ### laws_FnExactDeliveredOnce: function 4 -/
def laws_FnExactDeliveredOnce.f (k : Nat) (l0_0 : List Int) (a0_1 : Int) (a0_2 : Int) (l0_3 : List (S136)) (a0_4 : Int) (a0_5 : Int) (a0_6 : Int) : Option (Bool) := (laws_szAir.f k l0_0 a0_1 a0_2 l0_3 a0_4 a0_5 a0_6 1048576).bind fun t375 => (if t375 < 0 then (some true) else ((laws_toAir.f k l0_0 a0_1 a0_2 l0_3 a0_4 a0_5 a0_6).bind fun bt376 => ((spec_DeliveredOnce.f k bt376.1 bt376.2.1 bt376.2.2.1 bt376.2.2.2.1 bt376.2.2.2.2.1 bt376.2.2.2.2.2.1 bt376.2.2.2.2.2.2).bind fun t387 => ((laws_toAir.f k l0_0 a0_1 a0_2 l0_3 a0_4 a0_5 a0_6).bind fun bt388 => ((impl_DeliveredOnce.f k bt388.1 bt388.2.1 bt388.2.2.1 bt388.2.2.2.1 bt388.2.2.2.2.1 bt388.2.2.2.2.2.1 bt388.2.2.2.2.2.2).bind fun t400 => (if (t400 != t387) = true then (some false) else ((laws_toAir.f k l0_0 a0_1 a0_2 l0_3 a0_4 a0_5 a0_6).bind fun bt401 => ((laws_eqAir.f k bt388.1 bt388.2.1 bt388.2.2.1 bt388.2.2.2.1 bt388.2.2.2.2.1 bt388.2.2.2.2.2.1 bt388.2.2.2.2.2.2 bt401.1 bt401.2.1 bt401.2.2.1 bt401.2.2.2.1 bt401.2.2.2.2.1 bt401.2.2.2.2.2.1 bt401.2.2.2.2.2.2).bind fun t412 => (if t412 = true then (some true) else (some false))))))))))
theorem laws_FnExactDeliveredOnce.mono : ∀ a0 a1 a2 a3 a4 a5 a6 k, LeO (laws_FnExactDeliveredOnce.f k a0 a1 a2 a3 a4 a5 a6) (laws_FnExactDeliveredOnce.f (k + 1) a0 a1 a2 a3 a4 a5 a6) := by
 intro a0 a1 a2 a3 a4 a5 a6 k
 unfold laws_FnExactDeliveredOnce.f
 repeat' first
   | (with_reducible exact impl_DeliveredOnce.mono _ _ _ _ _ _ _ _)
   | (with_reducible exact laws_eqAir.mono _ _ _ _ _ _ _ _ _ _ _ _ _ _ _)
   | (with_reducible exact laws_szAir.mono _ _ _ _ _ _ _ _ _)
   | (with_reducible exact laws_toAir.mono _ _ _ _ _ _ _ _)
   | (with_reducible exact spec_DeliveredOnce.mono _ _ _ _ _ _ _ _)
   | (with_reducible exact LeO.refl _)
   | (with_reducible exact LeO.none _)
   | (with_reducible refine LeO.ite ?_ ?_)
   | (with_reducible refine LeO.bind ?_ (fun _ => ?_))
   | exact impl_DeliveredOnce.mono _ _ _ _ _ _ _ _
   | exact laws_eqAir.mono _ _ _ _ _ _ _ _ _ _ _ _ _ _ _
   | exact laws_szAir.mono _ _ _ _ _ _ _ _ _
   | exact laws_toAir.mono _ _ _ _ _ _ _ _
   | exact spec_DeliveredOnce.mono _ _ _ _ _ _ _ _
   | exact LeO.none _
   | refine LeO.ite ?_ ?_
   | refine LeO.bind ?_ (fun _ => ?_)
set_option maxHeartbeats 8000000 in
set_option maxRecDepth 100000 in
theorem laws_FnExactDeliveredOnce.calls (k : Nat) (A0_0 : Option Addr) (c0_0 : Nat) (l0_0 : List Int) (a0_1 : Int) (a0_2 : Int) (A0_3 : Option Addr) (c0_3 : Nat) (l0_3 : List (S136)) (a0_4 : Int) (a0_5 : Int) (a0_6 : Int) (r : Bool) (w : World) (hr0_0 : Kd.C (Kd.int .i64) w A0_0 l0_0.length l0_0) (hc0_0 : l0_0.length ≤ c0_0) (hr0_3 : Kd.C k136 w A0_3 l0_3.length l0_3) (hc0_3 : l0_3.length ≤ c0_3) (h : laws_FnExactDeliveredOnce.f k l0_0 a0_1 a0_2 l0_3 a0_4 a0_5 a0_6 = some r) (hT : r = true := by rfl) :
  Calls Try.prog 4 #[.agg #[.slice A0_0 l0_0.length c0_0, .int .i64 a0_1, .int .i64 a0_2, .slice A0_3 l0_3.length c0_3, .int .i64 a0_4, .int .i64 a0_5, .int .i64 a0_6]] w fun e w' => e = .returned (.bool r) ∧ Below w.heap.size w w' := by
 have hu27 := Try.underlying27
 have hu33 := Try.underlying33
 have HR0_0 := Am_ hr0_0
 have HC0_0 := Am_ hc0_0
 clear hr0_0 hc0_0
 have HR0_3 := Am_ hr0_3
 have HC0_3 := Am_ hc0_3
 clear hr0_3 hc0_3
 have HB := Am_ (Below.refl w.heap.size w)
 have H : ((laws_szAir.f k l0_0 a0_1 a0_2 l0_3 a0_4 a0_5 a0_6 1048576).bind fun t375 => (if t375 < 0 then (some true) else ((laws_toAir.f k l0_0 a0_1 a0_2 l0_3 a0_4 a0_5 a0_6).bind fun bt376 => ((spec_DeliveredOnce.f k bt376.1 bt376.2.1 bt376.2.2.1 bt376.2.2.2.1 bt376.2.2.2.2.1 bt376.2.2.2.2.2.1 bt376.2.2.2.2.2.2).bind fun t387 => ((laws_toAir.f k l0_0 a0_1 a0_2 l0_3 a0_4 a0_5 a0_6).bind fun bt388 => ((impl_DeliveredOnce.f k bt388.1 bt388.2.1 bt388.2.2.1 bt388.2.2.2.1 bt388.2.2.2.2.1 bt388.2.2.2.2.2.1 bt388.2.2.2.2.2.2).bind fun t400 => (if (t400 != t387) = true then (some false) else ((laws_toAir.f k l0_0 a0_1 a0_2 l0_3 a0_4 a0_5 a0_6).bind fun bt401 => ((laws_eqAir.f k bt388.1 bt388.2.1 bt388.2.2.1 bt388.2.2.2.1 bt388.2.2.2.2.1 bt388.2.2.2.2.2.1 bt388.2.2.2.2.2.2 bt401.1 bt401.2.1 bt401.2.2.1 bt401.2.2.2.1 bt401.2.2.2.2.1 bt401.2.2.2.2.2.1 bt401.2.2.2.2.2.2).bind fun t412 => (if t412 = true then (some true) else (some false))))))))))) = some r := h
 clear h
 replace H := Option.bind_eq_some_iff.mp H
 obtain ⟨t375, A20, H⟩ := H
 replace H : (if t375 < 0 then (some true) else ((laws_toAir.f k l0_0 a0_1 a0_2 l0_3 a0_4 a0_5 a0_6).bind fun bt376 => ((spec_DeliveredOnce.f k bt376.1 bt376.2.1 bt376.2.2.1 bt376.2.2.2.1 bt376.2.2.2.2.1 bt376.2.2.2.2.2.1 bt376.2.2.2.2.2.2).bind fun t387 => ((laws_toAir.f k l0_0 a0_1 a0_2 l0_3 a0_4 a0_5 a0_6).bind fun bt388 => ((impl_DeliveredOnce.f k bt388.1 bt388.2.1 bt388.2.2.1 bt388.2.2.2.1 bt388.2.2.2.2.1 bt388.2.2.2.2.2.1 bt388.2.2.2.2.2.2).bind fun t400 => (if (t400 != t387) = true then (some false) else ((laws_toAir.f k l0_0 a0_1 a0_2 l0_3 a0_4 a0_5 a0_6).bind fun bt401 => ((laws_eqAir.f k bt388.1 bt388.2.1 bt388.2.2.1 bt388.2.2.2.1 bt388.2.2.2.2.1 bt388.2.2.2.2.2.1 bt388.2.2.2.2.2.2 bt401.1 bt401.2.1 bt401.2.2.1 bt401.2.2.2.1 bt401.2.2.2.2.1 bt401.2.2.2.2.2.1 bt401.2.2.2.2.2.2).bind fun t412 => (if t412 = true then (some true) else (some false)))))))))) = some r := H
 have A2 := Am_ A20
 clear A20
 by_cases c3 : t375 < 0
 ·rw [if_pos c3] at H
  have c3b0 : decide (t375 < 0) = true := decide_eq_true c3
  clear c3
  obtain rfl := Option.some.inj H
  go_enter Try.func4, Try.ntmps4
  go_wp2_with (first | ((with_reducible refine gate_dst (N := 1) rfl ?_); refine box_event ?hg (N := 1) ?hd (cs := #[.slice A0_0 l0_0.length c0_0, .int .i64 a0_1, .int .i64 a0_2, .slice A0_3 l0_3.length c0_3, .int .i64 a0_4, .int .i64 a0_5, .int .i64 a0_6]) (t := 27) ?hr ?_; (case hd => rfl); (case hg => rfl); (case hr => first | (go_simp; done) | (go_simp; rfl)); intro gb374 hg w4 hbox hb; have n0_ := Am_ (bT_ (by repeat (first | (with_reducible first | exact HB.1 | apply bA_ | apply bN_ | apply bD_) | exact HB.1)) hb); have n1_ := Am_ (hbox); have n2_ := Am_ ((by rw [hg]; exact (bZ_ (by repeat (first | (with_reducible first | exact HB.1 | apply bA_ | apply bN_ | apply bD_) | exact HB.1))) : w.heap.size ≤ gb374)); have n3_ := Am_ ((by rw [hg]; exact (bZ_ (by repeat (first | (with_reducible first | exact HB.1 | apply bA_ | apply bN_ | apply bD_) | exact HB.1))) : w.heap.size ≤ gb374)); clear HB; have HB := n0_; have BK374 := n1_; have GW374 := n2_; have GE374 := n3_; clear n0_ n1_ n2_ n3_ hb hbox hg; have hcz5_0 : w4.cell? ⟨gb374, 0, none⟩ = some (.slice A0_0 l0_0.length c0_0) := kC_ BK374.1 0; have hcz5_1 : w4.cell? ⟨gb374, 1, none⟩ = some (.int .i64 a0_1) := kC_ BK374.1 1; have hcz5_2 : w4.cell? ⟨gb374, 2, none⟩ = some (.int .i64 a0_2) := kC_ BK374.1 2; have hcz5_3 : w4.cell? ⟨gb374, 3, none⟩ = some (.slice A0_3 l0_3.length c0_3) := kC_ BK374.1 3; have hcz5_4 : w4.cell? ⟨gb374, 4, none⟩ = some (.int .i64 a0_4) := kC_ BK374.1 4; have hcz5_5 : w4.cell? ⟨gb374, 5, none⟩ = some (.int .i64 a0_5) := kC_ BK374.1 5; have hcz5_6 : w4.cell? ⟨gb374, 6, none⟩ = some (.int .i64 a0_6) := kC_ BK374.1 6; have hfz5_0 := kF_ BK374.1 0; have hfz5_1 := kF_ BK374.1 1; have hfz5_2 := kF_ BK374.1 2; have hfz5_3 := kF_ BK374.1 3; have hfz5_4 := kF_ BK374.1 4; have hfz5_5 := kF_ BK374.1 5; have hfz5_6 := kF_ BK374.1 6) | ((with_reducible refine gate_callee (f := 15) rfl ?_); refine goesL_ (some 9) rfl rfl Try.func15 (by kernel_rfl) rfl #[.agg #[.slice A0_0 l0_0.length c0_0, .int .i64 a0_1, .int .i64 a0_2, .slice A0_3 l0_3.length c0_3, .int .i64 a0_4, .int .i64 a0_5, .int .i64 a0_6], .int .i64 1048576] rfl (by (try simp only [List.map_toArray, List.map_cons, List.map_nil]); first | done | rfl | (simp only [List.length_drop, List.length_take]; rfl)) ?_; (with_reducible refine (laws_szAir.calls k _ _ l0_0 a0_1 a0_2 _ _ l0_3 a0_4 a0_5 a0_6 1048576 t375 _ ?side1 ?side2 ?side3 ?side4 A2.1).mono ?_); (case side1 => repeat (first | exact (Kd.C_below HR0_0.1 HB.1) | (with_reducible refine Kd.C_alloc ?_ _) | (with_reducible refine Kd.C_drewN ?_ _) | (with_reducible refine Kd.C_drew ?_))); (case side2 => exact HC0_0.1); (case side3 => repeat (first | exact (Kd.C_below HR0_3.1 HB.1) | (with_reducible refine Kd.C_alloc ?_ _) | (with_reducible refine Kd.C_drewN ?_ _) | (with_reducible refine Kd.C_drew ?_))); (case side4 => exact HC0_3.1); rintro e w6 ⟨rfl, hb⟩; refine ⟨_, rfl, ?_⟩; have n0_ := Am_ (kB_ (g := gb374) (by (with_reducible repeat (first | refine kN_ ?_ _ | refine kD_ ?_ | refine kA_ ?_ _)); exact BK374.1) hb); have n1_ := Am_ (bT_ (by repeat (first | (with_reducible first | exact HB.1 | apply bA_ | apply bN_ | apply bD_ | refine bS_ ?_ GE374.1) | exact HB.1)) hb); clear BK374 HB; have BK374 := n0_; have HB := n1_; clear n0_ n1_; (try clear hb); (try clear hb2); (try clear hk); (try clear hi)))
  go_ret
  exact ⟨by first | rfl | (simp [errW_none, errW_some] <;> rfl) | (simp [*, errW_none, errW_some] <;> rfl), by repeat (first | (with_reducible first | exact HB.1 | apply bA_ | apply bN_ | apply bD_ | refine bS_ ?_ GE374.1) | exact HB.1)⟩
 ·rw [if_neg c3] at H
  have c3b0 : decide (t375 < 0) = false := decide_eq_false c3
  clear c3
  replace H := Option.bind_eq_some_iff.mp H
  obtain ⟨⟨t376, t379, t380, t381, t384, t385, t386⟩, A70, H⟩ := H
  replace H : ((spec_DeliveredOnce.f k t376 t379 t380 t381 t384 t385 t386).bind fun t387 => ((laws_toAir.f k l0_0 a0_1 a0_2 l0_3 a0_4 a0_5 a0_6).bind fun bt388 => ((impl_DeliveredOnce.f k bt388.1 bt388.2.1 bt388.2.2.1 bt388.2.2.2.1 bt388.2.2.2.2.1 bt388.2.2.2.2.2.1 bt388.2.2.2.2.2.2).bind fun t400 => (if (t400 != t387) = true then (some false) else ((laws_toAir.f k l0_0 a0_1 a0_2 l0_3 a0_4 a0_5 a0_6).bind fun bt401 => ((laws_eqAir.f k bt388.1 bt388.2.1 bt388.2.2.1 bt388.2.2.2.1 bt388.2.2.2.2.1 bt388.2.2.2.2.2.1 bt388.2.2.2.2.2.2 bt401.1 bt401.2.1 bt401.2.2.1 bt401.2.2.2.1 bt401.2.2.2.2.1 bt401.2.2.2.2.2.1 bt401.2.2.2.2.2.2).bind fun t412 => (if t412 = true then (some true) else (some false)))))))) = some r := H
  have A7 := Am_ A70
  clear A70
  replace H := Option.bind_eq_some_iff.mp H
  obtain ⟨t387, A80, H⟩ := H
  replace H : ((laws_toAir.f k l0_0 a0_1 a0_2 l0_3 a0_4 a0_5 a0_6).bind fun bt388 => ((impl_DeliveredOnce.f k bt388.1 bt388.2.1 bt388.2.2.1 bt388.2.2.2.1 bt388.2.2.2.2.1 bt388.2.2.2.2.2.1 bt388.2.2.2.2.2.2).bind fun t400 => (if (t400 != t387) = true then (some false) else ((laws_toAir.f k l0_0 a0_1 a0_2 l0_3 a0_4 a0_5 a0_6).bind fun bt401 => ((laws_eqAir.f k bt388.1 bt388.2.1 bt388.2.2.1 bt388.2.2.2.1 bt388.2.2.2.2.1 bt388.2.2.2.2.2.1 bt388.2.2.2.2.2.2 bt401.1 bt401.2.1 bt401.2.2.1 bt401.2.2.2.1 bt401.2.2.2.2.1 bt401.2.2.2.2.2.1 bt401.2.2.2.2.2.2).bind fun t412 => (if t412 = true then (some true) else (some false))))))) = some r := H
  have A8 := Am_ A80
  clear A80
  replace H := Option.bind_eq_some_iff.mp H
  obtain ⟨⟨t388, t391, t392, t393, t396, t397, t398⟩, A90, H⟩ := H
  replace H : ((impl_DeliveredOnce.f k t388 t391 t392 t393 t396 t397 t398).bind fun t400 => (if (t400 != t387) = true then (some false) else ((laws_toAir.f k l0_0 a0_1 a0_2 l0_3 a0_4 a0_5 a0_6).bind fun bt401 => ((laws_eqAir.f k t388 t391 t392 t393 t396 t397 t398 bt401.1 bt401.2.1 bt401.2.2.1 bt401.2.2.2.1 bt401.2.2.2.2.1 bt401.2.2.2.2.2.1 bt401.2.2.2.2.2.2).bind fun t412 => (if t412 = true then (some true) else (some false)))))) = some r := H
  have A9 := Am_ A90
  clear A90
  replace H := Option.bind_eq_some_iff.mp H
  obtain ⟨t400, A100, H⟩ := H
  replace H : (if (t400 != t387) = true then (some false) else ((laws_toAir.f k l0_0 a0_1 a0_2 l0_3 a0_4 a0_5 a0_6).bind fun bt401 => ((laws_eqAir.f k t388 t391 t392 t393 t396 t397 t398 bt401.1 bt401.2.1 bt401.2.2.1 bt401.2.2.2.1 bt401.2.2.2.2.1 bt401.2.2.2.2.2.1 bt401.2.2.2.2.2.2).bind fun t412 => (if t412 = true then (some true) else (some false))))) = some r := H
  have A10 := Am_ A100
  clear A100
  by_cases c11 : (t400 != t387) = true
  ·rw [if_pos c11] at H
   have c11b0 : (t400 != t387) = true := c11
   (try (have c11b1 : decide (t400 = t387) = false := by simpa using c11))
   (try (have c11b2 : (t400 == t387) = false := by simpa using c11))
   (try (have c11b3 : ¬ (t400 = t387) := by simpa using c11))
   clear c11
   obtain rfl := Option.some.inj H
   exact absurd hT (by decide)
  ·rw [if_neg c11] at H
   have c11b0 : (t400 != t387) = false := by simpa using c11
   (try (have c11b1 : decide (t400 = t387) = true := by simpa using c11))
   (try (have c11b2 : (t400 == t387) = true := by simpa using c11))
   clear c11
   replace H := Option.bind_eq_some_iff.mp H
   obtain ⟨⟨t401, t404, t405, t406, t409, t410, t411⟩, A280, H⟩ := H
   replace H : ((laws_eqAir.f k t388 t391 t392 t393 t396 t397 t398 t401 t404 t405 t406 t409 t410 t411).bind fun t412 => (if t412 = true then (some true) else (some false))) = some r := H
   have A28 := Am_ A280
   clear A280
   replace H := Option.bind_eq_some_iff.mp H
   obtain ⟨t412, A290, H⟩ := H
   replace H : (if t412 = true then (some true) else (some false)) = some r := H
   have A29 := Am_ A290
   clear A290
   by_cases c30 : t412 = true
   ·subst c30
    have H1 : (some true) = some r := by rw [if_pos rfl] at H; exact H
    clear H
    have H := H1
    clear H1
    obtain rfl := Option.some.inj H
    go_enter Try.func4, Try.ntmps4
    try go_wp2_with (first | ((with_reducible refine gate_dst (N := 1) rfl ?_); refine box_event ?hg (N := 1) ?hd (cs := #[.slice A0_0 l0_0.length c0_0, .int .i64 a0_1, .int .i64 a0_2, .slice A0_3 l0_3.length c0_3, .int .i64 a0_4, .int .i64 a0_5, .int .i64 a0_6]) (t := 27) ?hr ?_; (case hd => rfl); (case hg => rfl); (case hr => first | (go_simp; done) | (go_simp; rfl)); intro gb374 hg w31 hbox hb; have n0_ := Am_ (bT_ (by repeat (first | (with_reducible first | exact HB.1 | apply bA_ | apply bN_ | apply bD_) | exact HB.1)) hb); have n1_ := Am_ (hbox); have n2_ := Am_ ((by rw [hg]; exact (bZ_ (by repeat (first | (with_reducible first | exact HB.1 | apply bA_ | apply bN_ | apply bD_) | exact HB.1))) : w.heap.size ≤ gb374)); have n3_ := Am_ ((by rw [hg]; exact (bZ_ (by repeat (first | (with_reducible first | exact HB.1 | apply bA_ | apply bN_ | apply bD_) | exact HB.1))) : w.heap.size ≤ gb374)); clear HB; have HB := n0_; have BK374 := n1_; have GW374 := n2_; have GE374 := n3_; clear n0_ n1_ n2_ n3_ hb hbox hg; have hcz32_0 : w31.cell? ⟨gb374, 0, none⟩ = some (.slice A0_0 l0_0.length c0_0) := kC_ BK374.1 0; have hcz32_1 : w31.cell? ⟨gb374, 1, none⟩ = some (.int .i64 a0_1) := kC_ BK374.1 1; have hcz32_2 : w31.cell? ⟨gb374, 2, none⟩ = some (.int .i64 a0_2) := kC_ BK374.1 2; have hcz32_3 : w31.cell? ⟨gb374, 3, none⟩ = some (.slice A0_3 l0_3.length c0_3) := kC_ BK374.1 3; have hcz32_4 : w31.cell? ⟨gb374, 4, none⟩ = some (.int .i64 a0_4) := kC_ BK374.1 4; have hcz32_5 : w31.cell? ⟨gb374, 5, none⟩ = some (.int .i64 a0_5) := kC_ BK374.1 5; have hcz32_6 : w31.cell? ⟨gb374, 6, none⟩ = some (.int .i64 a0_6) := kC_ BK374.1 6; have hfz32_0 := kF_ BK374.1 0; have hfz32_1 := kF_ BK374.1 1; have hfz32_2 := kF_ BK374.1 2; have hfz32_3 := kF_ BK374.1 3; have hfz32_4 := kF_ BK374.1 4; have hfz32_5 := kF_ BK374.1 5; have hfz32_6 := kF_ BK374.1 6) | ((with_reducible refine gate_callee (f := 15) rfl ?_); refine goesL_ (some 9) rfl rfl Try.func15 (by kernel_rfl) rfl #[.agg #[.slice A0_0 l0_0.length c0_0, .int .i64 a0_1, .int .i64 a0_2, .slice A0_3 l0_3.length c0_3, .int .i64 a0_4, .int .i64 a0_5, .int .i64 a0_6], .int .i64 1048576] rfl (by (try simp only [List.map_toArray, List.map_cons, List.map_nil]); first | done | rfl | (simp only [List.length_drop, List.length_take]; rfl)) ?_; (with_reducible refine (laws_szAir.calls k _ _ l0_0 a0_1 a0_2 _ _ l0_3 a0_4 a0_5 a0_6 1048576 t375 _ ?side1 ?side2 ?side3 ?side4 A2.1).mono ?_); (case side1 => repeat (first | exact (Kd.C_below HR0_0.1 HB.1) | (with_reducible refine Kd.C_alloc ?_ _) | (with_reducible refine Kd.C_drewN ?_ _) | (with_reducible refine Kd.C_drew ?_))); (case side2 => exact HC0_0.1); (case side3 => repeat (first | exact (Kd.C_below HR0_3.1 HB.1) | (with_reducible refine Kd.C_alloc ?_ _) | (with_reducible refine Kd.C_drewN ?_ _) | (with_reducible refine Kd.C_drew ?_))); (case side4 => exact HC0_3.1); rintro e w33 ⟨rfl, hb⟩; refine ⟨_, rfl, ?_⟩; have n0_ := Am_ (kB_ (g := gb374) (by (with_reducible repeat (first | refine kN_ ?_ _ | refine kD_ ?_ | refine kA_ ?_ _)); exact BK374.1) hb); have n1_ := Am_ (bT_ (by repeat (first | (with_reducible first | exact HB.1 | apply bA_ | apply bN_ | apply bD_ | refine bS_ ?_ GE374.1) | exact HB.1)) hb); clear BK374 HB; have BK374 := n0_; have HB := n1_; clear n0_ n1_; (try clear hb); (try clear hb2); (try clear hk); (try clear hi); have hcz34_0 : w33.cell? ⟨gb374, 0, none⟩ = some (.slice A0_0 l0_0.length c0_0) := kC_ BK374.1 0; have hcz34_1 : w33.cell? ⟨gb374, 1, none⟩ = some (.int .i64 a0_1) := kC_ BK374.1 1; have hcz34_2 : w33.cell? ⟨gb374, 2, none⟩ = some (.int .i64 a0_2) := kC_ BK374.1 2; have hcz34_3 : w33.cell? ⟨gb374, 3, none⟩ = some (.slice A0_3 l0_3.length c0_3) := kC_ BK374.1 3; have hcz34_4 : w33.cell? ⟨gb374, 4, none⟩ = some (.int .i64 a0_4) := kC_ BK374.1 4; have hcz34_5 : w33.cell? ⟨gb374, 5, none⟩ = some (.int .i64 a0_5) := kC_ BK374.1 5; have hcz34_6 : w33.cell? ⟨gb374, 6, none⟩ = some (.int .i64 a0_6) := kC_ BK374.1 6; have hfz34_0 := kF_ BK374.1 0; have hfz34_1 := kF_ BK374.1 1; have hfz34_2 := kF_ BK374.1 2; have hfz34_3 := kF_ BK374.1 3; have hfz34_4 := kF_ BK374.1 4; have hfz34_5 := kF_ BK374.1 5; have hfz34_6 := kF_ BK374.1 6) | ((with_reducible refine gate_callee (f := 17) rfl ?_); refine goesL_ (some 13) rfl rfl Try.func17 (by kernel_rfl) rfl #[.agg #[.slice A0_0 l0_0.length c0_0, .int .i64 a0_1, .int .i64 a0_2, .slice A0_3 l0_3.length c0_3, .int .i64 a0_4, .int .i64 a0_5, .int .i64 a0_6]] rfl (by (try simp only [List.map_toArray, List.map_cons, List.map_nil]); first | done | rfl | (simp only [List.length_drop, List.length_take]; rfl)) ?_; (with_reducible refine (laws_toAir.calls k _ _ l0_0 a0_1 a0_2 _ _ l0_3 a0_4 a0_5 a0_6 t376 t379 t380 t381 t384 t385 t386 _ ?side1 ?side2 ?side3 ?side4 A7.1).mono ?_); (case side1 => repeat (first | exact (Kd.C_below HR0_0.1 HB.1) | (with_reducible refine Kd.C_alloc ?_ _) | (with_reducible refine Kd.C_drewN ?_ _) | (with_reducible refine Kd.C_drew ?_))); (case side2 => exact HC0_0.1); (case side3 => repeat (first | exact (Kd.C_below HR0_3.1 HB.1) | (with_reducible refine Kd.C_alloc ?_ _) | (with_reducible refine Kd.C_drewN ?_ _) | (with_reducible refine Kd.C_drew ?_))); (case side4 => exact HC0_3.1); rintro e w35 ⟨v377, v382, rfl, ho0, ho1, hb⟩; refine ⟨_, rfl, ?_⟩; have n0_ := Am_ (Kd.R_lower ho0 (bZ_ (by repeat (first | (with_reducible first | exact HB.1 | apply bA_ | apply bN_ | apply bD_ | refine bS_ ?_ GE374.1) | exact HB.1)))); have n1_ := Am_ (Kd.R_lower ho1 (bZ_ (by repeat (first | (with_reducible first | exact HB.1 | apply bA_ | apply bN_ | apply bD_ | refine bS_ ?_ GE374.1) | exact HB.1)))); have n2_ := Am_ (kB_ (g := gb374) (by (with_reducible repeat (first | refine kN_ ?_ _ | refine kD_ ?_ | refine kA_ ?_ _)); exact BK374.1) hb); have n3_ := Am_ (bT_ (by repeat (first | (with_reducible first | exact HB.1 | apply bA_ | apply bN_ | apply bD_ | refine bS_ ?_ GE374.1) | exact HB.1)) hb); clear BK374 HB; have HO378 := n0_; have HO383 := n1_; have BK374 := n2_; have HB := n3_; clear n0_ n1_ n2_ n3_; (try clear hb); (try clear hb2); (try clear hk); (try clear hi); (try clear ho0); (try clear ho1); obtain ⟨Ao36, co36, eo36⟩ := Kd.R_slice HO378.1; subst eo36; obtain ⟨Ao37, co37, eo37⟩ := Kd.R_slice HO383.1; subst eo37) | ((with_reducible refine gate_callee (f := 20) rfl ?_); refine goesL_ (some 14) rfl rfl Try.func20 (by kernel_rfl) rfl #[.agg #[.slice Ao36 t376.length co36, .int .i64 t379, .int .i64 t380, .slice Ao37 t381.length co37, .int .i64 t384, .int .i64 t385, .int .i64 t386]] rfl (by (try simp only [List.map_toArray, List.map_cons, List.map_nil]); first | done | rfl | (simp only [List.length_drop, List.length_take]; rfl)) ?_; (with_reducible refine (spec_DeliveredOnce.calls k _ _ t376 t379 t380 _ _ t381 t384 t385 t386 t387 _ ?side1 ?side2 ?side3 ?side4 A8.1).mono ?_); (case side1 => repeat (first | exact (Kd.R_reads' HO378.1).2.2 | (with_reducible refine Kd.C_alloc ?_ _) | (with_reducible refine Kd.C_drewN ?_ _) | (with_reducible refine Kd.C_drew ?_))); (case side2 => exact (Kd.R_reads' HO378.1).2.1); (case side3 => repeat (first | exact (Kd.R_reads' HO383.1).2.2 | (with_reducible refine Kd.C_alloc ?_ _) | (with_reducible refine Kd.C_drewN ?_ _) | (with_reducible refine Kd.C_drew ?_))); (case side4 => exact (Kd.R_reads' HO383.1).2.1); rintro e w38 ⟨rfl, hb⟩; refine ⟨_, rfl, ?_⟩; have n0_ := Am_ (Kd.R_below (by (with_reducible repeat (first | apply rA_ | apply rN_ | apply rD_)); exact HO378.1) hb); have n1_ := Am_ (Kd.R_below (by (with_reducible repeat (first | apply rA_ | apply rN_ | apply rD_)); exact HO383.1) hb); have n2_ := Am_ (kB_ (g := gb374) (by (with_reducible repeat (first | refine kN_ ?_ _ | refine kD_ ?_ | refine kA_ ?_ _)); exact BK374.1) hb); have n3_ := Am_ (bT_ (by repeat (first | (with_reducible first | exact HB.1 | apply bA_ | apply bN_ | apply bD_ | refine bS_ ?_ GE374.1) | exact HB.1)) hb); clear HO378 HO383 BK374 HB; have HO378 := n0_; have HO383 := n1_; have BK374 := n2_; have HB := n3_; clear n0_ n1_ n2_ n3_; (try clear hb); (try clear hb2); (try clear hk); (try clear hi); have hcz39_0 : w38.cell? ⟨gb374, 0, none⟩ = some (.slice A0_0 l0_0.length c0_0) := kC_ BK374.1 0; have hcz39_1 : w38.cell? ⟨gb374, 1, none⟩ = some (.int .i64 a0_1) := kC_ BK374.1 1; have hcz39_2 : w38.cell? ⟨gb374, 2, none⟩ = some (.int .i64 a0_2) := kC_ BK374.1 2; have hcz39_3 : w38.cell? ⟨gb374, 3, none⟩ = some (.slice A0_3 l0_3.length c0_3) := kC_ BK374.1 3; have hcz39_4 : w38.cell? ⟨gb374, 4, none⟩ = some (.int .i64 a0_4) := kC_ BK374.1 4; have hcz39_5 : w38.cell? ⟨gb374, 5, none⟩ = some (.int .i64 a0_5) := kC_ BK374.1 5; have hcz39_6 : w38.cell? ⟨gb374, 6, none⟩ = some (.int .i64 a0_6) := kC_ BK374.1 6; have hfz39_0 := kF_ BK374.1 0; have hfz39_1 := kF_ BK374.1 1; have hfz39_2 := kF_ BK374.1 2; have hfz39_3 := kF_ BK374.1 3; have hfz39_4 := kF_ BK374.1 4; have hfz39_5 := kF_ BK374.1 5; have hfz39_6 := kF_ BK374.1 6) | ((with_reducible refine gate_callee (f := 17) rfl ?_); refine goesL_ (some 16) rfl rfl Try.func17 (by kernel_rfl) rfl #[.agg #[.slice A0_0 l0_0.length c0_0, .int .i64 a0_1, .int .i64 a0_2, .slice A0_3 l0_3.length c0_3, .int .i64 a0_4, .int .i64 a0_5, .int .i64 a0_6]] rfl (by (try simp only [List.map_toArray, List.map_cons, List.map_nil]); first | done | rfl | (simp only [List.length_drop, List.length_take]; rfl)) ?_; (with_reducible refine (laws_toAir.calls k _ _ l0_0 a0_1 a0_2 _ _ l0_3 a0_4 a0_5 a0_6 t388 t391 t392 t393 t396 t397 t398 _ ?side1 ?side2 ?side3 ?side4 A9.1).mono ?_); (case side1 => repeat (first | exact (Kd.C_below HR0_0.1 HB.1) | (with_reducible refine Kd.C_alloc ?_ _) | (with_reducible refine Kd.C_drewN ?_ _) | (with_reducible refine Kd.C_drew ?_))); (case side2 => exact HC0_0.1); (case side3 => repeat (first | exact (Kd.C_below HR0_3.1 HB.1) | (with_reducible refine Kd.C_alloc ?_ _) | (with_reducible refine Kd.C_drewN ?_ _) | (with_reducible refine Kd.C_drew ?_))); (case side4 => exact HC0_3.1); rintro e w40 ⟨v389, v394, rfl, ho0, ho1, hb⟩; refine ⟨_, rfl, ?_⟩; have n0_ := Am_ (Kd.R_elder' (by (with_reducible repeat (first | apply rA_ | apply rN_ | apply rD_)); exact HO378.1) (Kd.R_base ho0) hb); have n1_ := Am_ (Kd.R_elder' (by (with_reducible repeat (first | apply rA_ | apply rN_ | apply rD_)); exact HO383.1) (Kd.R_base ho1) hb); have n2_ := Am_ (Kd.R_lower (Kd.R_new' ho0 (Kd.R_lt (by (with_reducible repeat (first | apply rA_ | apply rN_ | apply rD_)); exact HO378.1))) (bZ_ (by repeat (first | (with_reducible first | exact HB.1 | apply bA_ | apply bN_ | apply bD_ | refine bS_ ?_ GE374.1) | exact HB.1)))); have n3_ := Am_ (Kd.R_lower (Kd.R_new' ho1 (Kd.R_lt (by (with_reducible repeat (first | apply rA_ | apply rN_ | apply rD_)); exact HO383.1))) (bZ_ (by repeat (first | (with_reducible first | exact HB.1 | apply bA_ | apply bN_ | apply bD_ | refine bS_ ?_ GE374.1) | exact HB.1)))); have n4_ := Am_ (kB_ (g := gb374) (by (with_reducible repeat (first | refine kN_ ?_ _ | refine kD_ ?_ | refine kA_ ?_ _)); exact BK374.1) hb); have n5_ := Am_ (bT_ (by repeat (first | (with_reducible first | exact HB.1 | apply bA_ | apply bN_ | apply bD_ | refine bS_ ?_ GE374.1) | exact HB.1)) hb); clear HO378 HO383 BK374 HB; have HO378 := n0_; have HO383 := n1_; have HO390 := n2_; have HO395 := n3_; have BK374 := n4_; have HB := n5_; clear n0_ n1_ n2_ n3_ n4_ n5_; (try clear hb); (try clear hb2); (try clear hk); (try clear hi); (try clear ho0); (try clear ho1)) | ((with_reducible refine gate_dst (N := 5) rfl ?_); refine box_event ?hg (N := 5) ?hd (cs := #[.slice none 0 0, .int .i64 0, .int .i64 0, .slice none 0 0, .int .i64 0, .int .i64 0, .int .i64 0]) (t := 33) ?hr ?_; (case hd => rfl); (case hg => rfl); (case hr => first | (go_simp; done) | (go_simp; rfl)); intro gb399 hg w41 hbox hb; have n0_ := Am_ (Kd.R_below (by (with_reducible repeat (first | apply rA_ | apply rN_ | apply rD_)); exact HO378.1) hb); have n1_ := Am_ (Kd.R_below (by (with_reducible repeat (first | apply rA_ | apply rN_ | apply rD_)); exact HO383.1) hb); have n2_ := Am_ (Kd.R_below (by (with_reducible repeat (first | apply rA_ | apply rN_ | apply rD_)); exact HO390.1) hb); have n3_ := Am_ (Kd.R_below (by (with_reducible repeat (first | apply rA_ | apply rN_ | apply rD_)); exact HO395.1) hb); have n4_ := Am_ (kB_ (g := gb374) (by (with_reducible repeat (first | refine kN_ ?_ _ | refine kD_ ?_ | refine kA_ ?_ _)); exact BK374.1) hb); have n5_ := Am_ (bT_ (by repeat (first | (with_reducible first | exact HB.1 | apply bA_ | apply bN_ | apply bD_ | refine bS_ ?_ GE374.1) | exact HB.1)) hb); have n6_ := Am_ (hbox); have n7_ := Am_ ((by rw [hg]; exact (bZ_ (by repeat (first | (with_reducible first | exact HB.1 | apply bA_ | apply bN_ | apply bD_ | refine bS_ ?_ GE374.1) | exact HB.1))) : w.heap.size ≤ gb399)); have n8_ := Am_ ((by rw [hg]; exact (bZ_ (by repeat (first | (with_reducible first | exact HB.1 | apply bA_ | apply bN_ | apply bD_ | refine bS_ ?_ GE374.1) | exact HB.1))) : w.heap.size ≤ gb399)); have n9_ := Am_ ((by rw [hg]; exact Nat.ne_of_lt (blk_lt (g := gb374) (by (with_reducible repeat (first | refine kN_ ?_ _ | refine kD_ ?_ | refine kA_ ?_ _)); exact BK374.1)) : gb374 ≠ gb399)); have n10_ := Am_ ((by rw [hg]; exact Nat.ne_of_gt (blk_lt (g := gb374) (by (with_reducible repeat (first | refine kN_ ?_ _ | refine kD_ ?_ | refine kA_ ?_ _)); exact BK374.1)) : gb399 ≠ gb374)); clear HO378 HO383 HO390 HO395 BK374 HB; have HO378 := n0_; have HO383 := n1_; have HO390 := n2_; have HO395 := n3_; have BK374 := n4_; have HB := n5_; have BK399 := n6_; have GW399 := n7_; have GE399 := n8_; have NB374_399 := n9_; have NB399_374 := n10_; clear n0_ n1_ n2_ n3_ n4_ n5_ n6_ n7_ n8_ n9_ n10_ hb hbox hg; obtain ⟨Ao42, co42, eo42⟩ := Kd.R_slice HO390.1; subst eo42; have hnb43 := NB399_374.1; have hnc43 := NB374_399.1; have hcz44_0 : w41.cell? ⟨gb399, 0, none⟩ = some (.slice none 0 0) := kC_ BK399.1 0; have hcz44_1 : w41.cell? ⟨gb399, 1, none⟩ = some (.int .i64 0) := kC_ BK399.1 1; have hcz44_2 : w41.cell? ⟨gb399, 2, none⟩ = some (.int .i64 0) := kC_ BK399.1 2; have hcz44_3 : w41.cell? ⟨gb399, 3, none⟩ = some (.slice none 0 0) := kC_ BK399.1 3; have hcz44_4 : w41.cell? ⟨gb399, 4, none⟩ = some (.int .i64 0) := kC_ BK399.1 4; have hcz44_5 : w41.cell? ⟨gb399, 5, none⟩ = some (.int .i64 0) := kC_ BK399.1 5; have hcz44_6 : w41.cell? ⟨gb399, 6, none⟩ = some (.int .i64 0) := kC_ BK399.1 6; have hfz44_0 := kF_ BK399.1 0; have hfz44_1 := kF_ BK399.1 1; have hfz44_2 := kF_ BK399.1 2; have hfz44_3 := kF_ BK399.1 3; have hfz44_4 := kF_ BK399.1 4; have hfz44_5 := kF_ BK399.1 5; have hfz44_6 := kF_ BK399.1 6; obtain ⟨Ao45, co45, eo45⟩ := Kd.R_slice HO395.1; subst eo45) | ((with_reducible refine gate_callee (f := 21) rfl ?_); refine goesL_ (some 18) rfl rfl Try.func21 (by kernel_rfl) rfl #[.agg #[.slice Ao42 t388.length co42, .int .i64 t391, .int .i64 t392, .slice Ao45 t393.length co45, .int .i64 t396, .int .i64 t397, .int .i64 t398]] rfl (by (try simp only [List.map_toArray, List.map_cons, List.map_nil]); first | done | rfl | (simp only [List.length_drop, List.length_take]; rfl)) ?_; (with_reducible refine (impl_DeliveredOnce.calls k _ _ t388 t391 t392 _ _ t393 t396 t397 t398 t400 _ ?side1 ?side2 ?side3 ?side4 A10.1).mono ?_); (case side1 => refine (Kd.R_reads' (e := 3) (base := w.heap.size) (ok := fun k_ => (True ∧ some k_ ≠ (.slice Ao36 t376.length co36 : Value).ownBlock)) (n := t388.length) (c := co42) ?_).2.2; exact (by (with_reducible repeat (first | apply rA_ | apply rN_ | apply rD_)); exact (Kd.R_mono (rF_ (p := ⟨gb399, 6, none⟩) (rF_ (p := ⟨gb399, 5, none⟩) (rF_ (p := ⟨gb399, 4, none⟩) (rF_ (p := ⟨gb399, 3, none⟩) (rF_ (p := ⟨gb399, 2, none⟩) (rF_ (p := ⟨gb399, 1, none⟩) (rF_ (p := ⟨gb399, 0, none⟩) (Kd.R_types HO390.1 BK399.1 (by decide)) (fun _ hk => hk.2) (.slice Ao42 t388.length co42)) (fun _ hk => hk.2) (.int .i64 t391)) (fun _ hk => hk.2) (.int .i64 t392)) (fun _ hk => hk.2) (.slice Ao45 t393.length co45)) (fun _ hk => hk.2) (.int .i64 t396)) (fun _ hk => hk.2) (.int .i64 t397)) (fun _ hk => hk.2) (.int .i64 t398)) (fun _ h_ => h_.1)))); (case side2 => exact (Kd.R_reads' HO390.1).2.1); (case side3 => refine (Kd.R_reads' (e := 97) (base := w.heap.size) (ok := fun k_ => (True ∧ some k_ ≠ (.slice Ao37 t381.length co37 : Value).ownBlock)) (n := t393.length) (c := co45) ?_).2.2; exact (by (with_reducible repeat (first | apply rA_ | apply rN_ | apply rD_)); exact (Kd.R_mono (rF_ (p := ⟨gb399, 6, none⟩) (rF_ (p := ⟨gb399, 5, none⟩) (rF_ (p := ⟨gb399, 4, none⟩) (rF_ (p := ⟨gb399, 3, none⟩) (rF_ (p := ⟨gb399, 2, none⟩) (rF_ (p := ⟨gb399, 1, none⟩) (rF_ (p := ⟨gb399, 0, none⟩) (Kd.R_types HO395.1 BK399.1 (by decide)) (fun _ hk => hk.2) (.slice Ao42 t388.length co42)) (fun _ hk => hk.2) (.int .i64 t391)) (fun _ hk => hk.2) (.int .i64 t392)) (fun _ hk => hk.2) (.slice Ao45 t393.length co45)) (fun _ hk => hk.2) (.int .i64 t396)) (fun _ hk => hk.2) (.int .i64 t397)) (fun _ hk => hk.2) (.int .i64 t398)) (fun _ h_ => h_.1)))); (case side4 => exact (Kd.R_reads' HO395.1).2.1); rintro e w46 ⟨rfl, hb⟩; refine ⟨_, rfl, ?_⟩; have n0_ := Am_ (Kd.R_below (by (with_reducible repeat (first | apply rA_ | apply rN_ | apply rD_)); exact (Kd.R_mono (rF_ (p := ⟨gb399, 6, none⟩) (rF_ (p := ⟨gb399, 5, none⟩) (rF_ (p := ⟨gb399, 4, none⟩) (rF_ (p := ⟨gb399, 3, none⟩) (rF_ (p := ⟨gb399, 2, none⟩) (rF_ (p := ⟨gb399, 1, none⟩) (rF_ (p := ⟨gb399, 0, none⟩) (Kd.R_types HO378.1 BK399.1 (by decide)) (fun _ hk => hk.2) (.slice Ao42 t388.length co42)) (fun _ hk => hk.2) (.int .i64 t391)) (fun _ hk => hk.2) (.int .i64 t392)) (fun _ hk => hk.2) (.slice Ao45 t393.length co45)) (fun _ hk => hk.2) (.int .i64 t396)) (fun _ hk => hk.2) (.int .i64 t397)) (fun _ hk => hk.2) (.int .i64 t398)) (fun _ h_ => h_.1))) hb); have n1_ := Am_ (Kd.R_below (by (with_reducible repeat (first | apply rA_ | apply rN_ | apply rD_)); exact (Kd.R_mono (rF_ (p := ⟨gb399, 6, none⟩) (rF_ (p := ⟨gb399, 5, none⟩) (rF_ (p := ⟨gb399, 4, none⟩) (rF_ (p := ⟨gb399, 3, none⟩) (rF_ (p := ⟨gb399, 2, none⟩) (rF_ (p := ⟨gb399, 1, none⟩) (rF_ (p := ⟨gb399, 0, none⟩) (Kd.R_types HO383.1 BK399.1 (by decide)) (fun _ hk => hk.2) (.slice Ao42 t388.length co42)) (fun _ hk => hk.2) (.int .i64 t391)) (fun _ hk => hk.2) (.int .i64 t392)) (fun _ hk => hk.2) (.slice Ao45 t393.length co45)) (fun _ hk => hk.2) (.int .i64 t396)) (fun _ hk => hk.2) (.int .i64 t397)) (fun _ hk => hk.2) (.int .i64 t398)) (fun _ h_ => h_.1))) hb); have n2_ := Am_ (Kd.R_below (by (with_reducible repeat (first | apply rA_ | apply rN_ | apply rD_)); exact (Kd.R_mono (rF_ (p := ⟨gb399, 6, none⟩) (rF_ (p := ⟨gb399, 5, none⟩) (rF_ (p := ⟨gb399, 4, none⟩) (rF_ (p := ⟨gb399, 3, none⟩) (rF_ (p := ⟨gb399, 2, none⟩) (rF_ (p := ⟨gb399, 1, none⟩) (rF_ (p := ⟨gb399, 0, none⟩) (Kd.R_types HO390.1 BK399.1 (by decide)) (fun _ hk => hk.2) (.slice Ao42 t388.length co42)) (fun _ hk => hk.2) (.int .i64 t391)) (fun _ hk => hk.2) (.int .i64 t392)) (fun _ hk => hk.2) (.slice Ao45 t393.length co45)) (fun _ hk => hk.2) (.int .i64 t396)) (fun _ hk => hk.2) (.int .i64 t397)) (fun _ hk => hk.2) (.int .i64 t398)) (fun _ h_ => h_.1))) hb); have n3_ := Am_ (Kd.R_below (by (with_reducible repeat (first | apply rA_ | apply rN_ | apply rD_)); exact (Kd.R_mono (rF_ (p := ⟨gb399, 6, none⟩) (rF_ (p := ⟨gb399, 5, none⟩) (rF_ (p := ⟨gb399, 4, none⟩) (rF_ (p := ⟨gb399, 3, none⟩) (rF_ (p := ⟨gb399, 2, none⟩) (rF_ (p := ⟨gb399, 1, none⟩) (rF_ (p := ⟨gb399, 0, none⟩) (Kd.R_types HO395.1 BK399.1 (by decide)) (fun _ hk => hk.2) (.slice Ao42 t388.length co42)) (fun _ hk => hk.2) (.int .i64 t391)) (fun _ hk => hk.2) (.int .i64 t392)) (fun _ hk => hk.2) (.slice Ao45 t393.length co45)) (fun _ hk => hk.2) (.int .i64 t396)) (fun _ hk => hk.2) (.int .i64 t397)) (fun _ hk => hk.2) (.int .i64 t398)) (fun _ h_ => h_.1))) hb); have n4_ := Am_ (kB_ (g := gb374) (o := .cells #[.slice A0_0 l0_0.length c0_0, .int .i64 a0_1, .int .i64 a0_2, .slice A0_3 l0_3.length c0_3, .int .i64 a0_4, .int .i64 a0_5, .int .i64 a0_6] 27 (0, 0)) (by (with_reducible repeat (first | refine kN_ ?_ _ | refine kD_ ?_ | refine kA_ ?_ _)); refine blk_far ?_ NB374_399.1 _; (with_reducible repeat (first | refine kN_ ?_ _ | refine kD_ ?_ | refine kA_ ?_ _)); refine blk_far ?_ NB374_399.1 _; (with_reducible repeat (first | refine kN_ ?_ _ | refine kD_ ?_ | refine kA_ ?_ _)); refine blk_far ?_ NB374_399.1 _; (with_reducible repeat (first | refine kN_ ?_ _ | refine kD_ ?_ | refine kA_ ?_ _)); refine blk_far ?_ NB374_399.1 _; (with_reducible repeat (first | refine kN_ ?_ _ | refine kD_ ?_ | refine kA_ ?_ _)); refine blk_far ?_ NB374_399.1 _; (with_reducible repeat (first | refine kN_ ?_ _ | refine kD_ ?_ | refine kA_ ?_ _)); refine blk_far ?_ NB374_399.1 _; (with_reducible repeat (first | refine kN_ ?_ _ | refine kD_ ?_ | refine kA_ ?_ _)); refine blk_far ?_ NB374_399.1 _; (with_reducible repeat (first | refine kN_ ?_ _ | refine kD_ ?_ | refine kA_ ?_ _)); exact BK374.1) hb); have n5_ := Am_ (kB_ (g := gb399) (o := .cells #[.slice Ao42 t388.length co42, .int .i64 t391, .int .i64 t392, .slice Ao45 t393.length co45, .int .i64 t396, .int .i64 t397, .int .i64 t398] 33 (0, 0)) (by (with_reducible repeat (first | refine kN_ ?_ _ | refine kD_ ?_ | refine kA_ ?_ _)); refine blk_put (cs := #[.slice Ao42 t388.length co42, .int .i64 t391, .int .i64 t392, .slice Ao45 t393.length co45, .int .i64 t396, .int .i64 t397, .int .i64 0]) ?_ 6 _ rfl; (with_reducible repeat (first | refine kN_ ?_ _ | refine kD_ ?_ | refine kA_ ?_ _)); refine blk_put (cs := #[.slice Ao42 t388.length co42, .int .i64 t391, .int .i64 t392, .slice Ao45 t393.length co45, .int .i64 t396, .int .i64 0, .int .i64 0]) ?_ 5 _ rfl; (with_reducible repeat (first | refine kN_ ?_ _ | refine kD_ ?_ | refine kA_ ?_ _)); refine blk_put (cs := #[.slice Ao42 t388.length co42, .int .i64 t391, .int .i64 t392, .slice Ao45 t393.length co45, .int .i64 0, .int .i64 0, .int .i64 0]) ?_ 4 _ rfl; (with_reducible repeat (first | refine kN_ ?_ _ | refine kD_ ?_ | refine kA_ ?_ _)); refine blk_put (cs := #[.slice Ao42 t388.length co42, .int .i64 t391, .int .i64 t392, .slice none 0 0, .int .i64 0, .int .i64 0, .int .i64 0]) ?_ 3 _ rfl; (with_reducible repeat (first | refine kN_ ?_ _ | refine kD_ ?_ | refine kA_ ?_ _)); refine blk_put (cs := #[.slice Ao42 t388.length co42, .int .i64 t391, .int .i64 0, .slice none 0 0, .int .i64 0, .int .i64 0, .int .i64 0]) ?_ 2 _ rfl; (with_reducible repeat (first | refine kN_ ?_ _ | refine kD_ ?_ | refine kA_ ?_ _)); refine blk_put (cs := #[.slice Ao42 t388.length co42, .int .i64 0, .int .i64 0, .slice none 0 0, .int .i64 0, .int .i64 0, .int .i64 0]) ?_ 1 _ rfl; (with_reducible repeat (first | refine kN_ ?_ _ | refine kD_ ?_ | refine kA_ ?_ _)); refine blk_put (cs := #[.slice none 0 0, .int .i64 0, .int .i64 0, .slice none 0 0, .int .i64 0, .int .i64 0, .int .i64 0]) ?_ 0 _ rfl; (with_reducible repeat (first | refine kN_ ?_ _ | refine kD_ ?_ | refine kA_ ?_ _)); exact BK399.1) hb); have n6_ := Am_ (bT_ (by repeat (first | (with_reducible first | exact HB.1 | apply bA_ | apply bN_ | apply bD_ | refine bS_ ?_ GE374.1 | refine bS_ ?_ GE399.1) | exact HB.1)) hb); clear HO378 HO383 HO390 HO395 BK374 BK399 HB; have HO378 := n0_; have HO383 := n1_; have HO390 := n2_; have HO395 := n3_; have BK374 := n4_; have BK399 := n5_; have HB := n6_; clear n0_ n1_ n2_ n3_ n4_ n5_ n6_; (try clear hb); (try clear hb2); (try clear hk); (try clear hi)))
    have n0_ := Am_ (rD_ HO378.1)
    have n1_ := Am_ (rD_ HO383.1)
    have n2_ := Am_ (rD_ HO390.1)
    have n3_ := Am_ (rD_ HO395.1)
    have n4_ := Am_ (kD_ BK374.1)
    have n5_ := Am_ (kD_ BK399.1)
    have n6_ := Am_ (bD_ HB.1)
    clear HO378
    clear HO383
    clear HO390
    clear HO395
    clear BK374
    clear BK399
    clear HB
    have HO378 := n0_
    have HO383 := n1_
    have HO390 := n2_
    have HO395 := n3_
    have BK374 := n4_
    have BK399 := n5_
    have HB := n6_
    clear n0_ n1_ n2_ n3_ n4_ n5_ n6_
    refine start_ (n := 5) (S := fun w' => w'.cell? ⟨gb399, 0, none⟩ = some (.slice Ao42 t388.length co42) ∧ w'.cell? ⟨gb399, 1, none⟩ = some (.int .i64 t391) ∧ w'.cell? ⟨gb399, 2, none⟩ = some (.int .i64 t392) ∧ w'.cell? ⟨gb399, 3, none⟩ = some (.slice Ao45 t393.length co45) ∧ w'.cell? ⟨gb399, 4, none⟩ = some (.int .i64 t396) ∧ w'.cell? ⟨gb399, 5, none⟩ = some (.int .i64 t397) ∧ w'.cell? ⟨gb399, 6, none⟩ = some (.int .i64 t398) ∧ w'.cell? ⟨gb374, 0, none⟩ = some (.slice A0_0 l0_0.length c0_0) ∧ w'.cell? ⟨gb374, 1, none⟩ = some (.int .i64 a0_1) ∧ w'.cell? ⟨gb374, 2, none⟩ = some (.int .i64 a0_2) ∧ w'.cell? ⟨gb374, 3, none⟩ = some (.slice A0_3 l0_3.length c0_3) ∧ w'.cell? ⟨gb374, 4, none⟩ = some (.int .i64 a0_4) ∧ w'.cell? ⟨gb374, 5, none⟩ = some (.int .i64 a0_5) ∧ w'.cell? ⟨gb374, 6, none⟩ = some (.int .i64 a0_6)) (ds := []) #[false, false, false, false, false] (by kernel_rfl) rfl rfl ⟨kC_ BK399.1 0, kC_ BK399.1 1, kC_ BK399.1 2, kC_ BK399.1 3, kC_ BK399.1 4, kC_ BK399.1 5, kC_ BK399.1 6, kC_ BK374.1 0, kC_ BK374.1 1, kC_ BK374.1 2, kC_ BK374.1 3, kC_ BK374.1 4, kC_ BK374.1 5, kC_ BK374.1 6⟩ (fun hHeld => ?_)
    generalize w46.drew = w47 at HO378 HO383 HO390 HO395 BK374 BK399 HB hHeld ⊢
    refine take_ (i := 0) (N := some 22) (v := ?_) (a' := ?_) #[true, false, false, false, false] rfl rfl (by kernel_rfl) (fun _ _ _ h => h) (Or.inl ⟨by rfl, ?_⟩) hHeld ?_ ?_
    rotate_left
    ·rintro w' ⟨s0, s1, s2, s3, s4, s5, s6, s7, s8, s9, s10, s11, s12, s13⟩
     go_simp
     with_reducible rfl
    rotate_left
    ·simp only [Act.put, List.setIfInBounds_toArray, List.set_cons_zero, List.set_cons_succ, i64_w, i32_w]
     rfl
    refine take_ (i := 1) (N := some 23) (v := ?_) (a' := ?_) #[true, true, false, false, false] rfl rfl (by kernel_rfl) (fun _ _ _ h => h) (Or.inl ⟨by rfl, ?_⟩) hHeld ?_ ?_
    rotate_left
    ·rintro w' ⟨s0, s1, s2, s3, s4, s5, s6, s7, s8, s9, s10, s11, s12, s13⟩
     go_simp
     with_reducible rfl
    rotate_left
    ·simp only [Act.put, List.setIfInBounds_toArray, List.set_cons_zero, List.set_cons_succ, i64_w, i32_w]
     rfl
    refine one_ (i := 2) (N := some 24) #[true, true, true, false, false] rfl rfl (by kernel_rfl) (by decide) (fun K hK => ?_)
    refine goes_ Try.func17 (by kernel_rfl) rfl #[.agg #[.slice A0_0 l0_0.length c0_0, .int .i64 a0_1, .int .i64 a0_2, .slice A0_3 l0_3.length c0_3, .int .i64 a0_4, .int .i64 a0_5, .int .i64 a0_6]] (by rfl) rfl rfl (by (try simp only [List.map_toArray, List.map_cons, List.map_nil]); first | done | rfl | (simp only [List.length_drop, List.length_take]; rfl)) ?_
    with_reducible refine (laws_toAir.calls k _ _ l0_0 a0_1 a0_2 _ _ l0_3 a0_4 a0_5 a0_6 t401 t404 t405 t406 t409 t410 t411 _ ?side1 ?side2 ?side3 ?side4 A28.1).mono ?_
    (case side1 => repeat (first | exact (Kd.C_below HR0_0.1 HB.1) | (with_reducible refine Kd.C_alloc ?_ _) | (with_reducible refine Kd.C_drewN ?_ _) | (with_reducible refine Kd.C_drew ?_)))
    (case side2 => exact HC0_0.1)
    (case side3 => repeat (first | exact (Kd.C_below HR0_3.1 HB.1) | (with_reducible refine Kd.C_alloc ?_ _) | (with_reducible refine Kd.C_drewN ?_ _) | (with_reducible refine Kd.C_drew ?_)))
    (case side4 => exact HC0_3.1)
    rintro e w48 ⟨v402, v407, rfl, ho0, ho1, hb⟩
    refine ⟨_, rfl, ?_⟩
    have n0_ := Am_ (Kd.R_elder' (by (with_reducible repeat (first | apply rA_ | apply rN_ | apply rD_)); exact HO378.1) (Kd.R_base ho0) hb)
    have n1_ := Am_ (Kd.R_elder' (by (with_reducible repeat (first | apply rA_ | apply rN_ | apply rD_)); exact HO383.1) (Kd.R_base ho1) hb)
    have n2_ := Am_ (Kd.R_elder' (by (with_reducible repeat (first | apply rA_ | apply rN_ | apply rD_)); exact HO390.1) (Kd.R_base ho0) hb)
    have n3_ := Am_ (Kd.R_elder' (by (with_reducible repeat (first | apply rA_ | apply rN_ | apply rD_)); exact HO395.1) (Kd.R_base ho1) hb)
    have n4_ := Am_ (Kd.R_lower (Kd.R_new' (Kd.R_new' ho0 (Kd.R_lt (by (with_reducible repeat (first | apply rA_ | apply rN_ | apply rD_)); exact HO378.1))) (Kd.R_lt (by (with_reducible repeat (first | apply rA_ | apply rN_ | apply rD_)); exact HO390.1))) (bZ_ (by repeat (first | (with_reducible first | exact HB.1 | apply bA_ | apply bN_ | apply bD_ | refine bS_ ?_ GE374.1 | refine bS_ ?_ GE399.1) | exact HB.1))))
    have n5_ := Am_ (Kd.R_lower (Kd.R_new' (Kd.R_new' ho1 (Kd.R_lt (by (with_reducible repeat (first | apply rA_ | apply rN_ | apply rD_)); exact HO383.1))) (Kd.R_lt (by (with_reducible repeat (first | apply rA_ | apply rN_ | apply rD_)); exact HO395.1))) (bZ_ (by repeat (first | (with_reducible first | exact HB.1 | apply bA_ | apply bN_ | apply bD_ | refine bS_ ?_ GE374.1 | refine bS_ ?_ GE399.1) | exact HB.1))))
    have n6_ := Am_ (kB_ (g := gb374) (by (with_reducible repeat (first | refine kN_ ?_ _ | refine kD_ ?_ | refine kA_ ?_ _)); exact BK374.1) hb)
    have n7_ := Am_ (kB_ (g := gb399) (by (with_reducible repeat (first | refine kN_ ?_ _ | refine kD_ ?_ | refine kA_ ?_ _)); exact BK399.1) hb)
    have n8_ := Am_ (bT_ (by repeat (first | (with_reducible first | exact HB.1 | apply bA_ | apply bN_ | apply bD_ | refine bS_ ?_ GE374.1 | refine bS_ ?_ GE399.1) | exact HB.1)) hb)
    clear HO378
    clear HO383
    clear HO390
    clear HO395
    clear BK374
    clear BK399
    clear HB
    have HO378 := n0_
    have HO383 := n1_
    have HO390 := n2_
    have HO395 := n3_
    have HO403 := n4_
    have HO408 := n5_
    have BK374 := n6_
    have BK399 := n7_
    have HB := n8_
    clear n0_ n1_ n2_ n3_ n4_ n5_ n6_ n7_ n8_
    (try clear hb)
    (try clear hb2)
    (try clear hk)
    (try clear hi)
    (try clear ho0)
    (try clear ho1)
    obtain ⟨Ao49, co49, eo49⟩ := Kd.R_slice HO403.1
    (first | subst eo49 | (injection eo49 with f1_ f2_ f3_; have f4_ := f1_.symm; have f5_ := f3_.symm; clear f1_ f2_ f3_; subst f4_; subst f5_))
    obtain ⟨Ao50, co50, eo50⟩ := Kd.R_slice HO408.1
    (first | subst eo50 | (injection eo50 with f1_ f2_ f3_; have f4_ := f1_.symm; have f5_ := f3_.symm; clear f1_ f2_ f3_; subst f4_; subst f5_))
    refine hK.out _ _ ⟨kC_ BK399.1 0, kC_ BK399.1 1, kC_ BK399.1 2, kC_ BK399.1 3, kC_ BK399.1 4, kC_ BK399.1 5, kC_ BK399.1 6, kC_ BK374.1 0, kC_ BK374.1 1, kC_ BK374.1 2, kC_ BK374.1 3, kC_ BK374.1 4, kC_ BK374.1 5, kC_ BK374.1 6⟩ (fun hHeld => ?_)
    clear hK K
    refine norm_ (a' := ?_) ?_ ?_
    rotate_left
    ·show Act.put _ (some 24) _ = _
     simp only [Act.put, List.setIfInBounds_toArray, List.set_cons_zero, List.set_cons_succ, i64_w, i32_w]
     rfl
    refine one_ (i := 3) (N := some 25) #[true, true, true, true, false] rfl rfl (by kernel_rfl) (by decide) (fun K hK => ?_)
    refine goes_ Try.func19 (by kernel_rfl) rfl #[.agg #[.slice Ao42 t388.length co42, .int .i64 t391, .int .i64 t392, .slice Ao45 t393.length co45, .int .i64 t396, .int .i64 t397, .int .i64 t398], .agg #[.slice Ao49 t401.length co49, .int .i64 t404, .int .i64 t405, .slice Ao50 t406.length co50, .int .i64 t409, .int .i64 t410, .int .i64 t411]] (by rfl) rfl rfl (by (try simp only [List.map_toArray, List.map_cons, List.map_nil]); first | done | rfl | (simp only [List.length_drop, List.length_take]; rfl)) ?_
    with_reducible refine (laws_eqAir.calls k _ _ t388 t391 t392 _ _ t393 t396 t397 t398 _ _ t401 t404 t405 _ _ t406 t409 t410 t411 true _ ?side1 ?side2 ?side3 ?side4 ?side5 ?side6 ?side7 ?side8 A29.1).mono ?_
    (case side1 => repeat (first | exact (Kd.R_reads' HO390.1).2.2 | (with_reducible refine Kd.C_alloc ?_ _) | (with_reducible refine Kd.C_drewN ?_ _) | (with_reducible refine Kd.C_drew ?_)))
    (case side2 => exact (Kd.R_reads' HO390.1).2.1)
    (case side3 => repeat (first | exact (Kd.R_reads' HO395.1).2.2 | (with_reducible refine Kd.C_alloc ?_ _) | (with_reducible refine Kd.C_drewN ?_ _) | (with_reducible refine Kd.C_drew ?_)))
    (case side4 => exact (Kd.R_reads' HO395.1).2.1)
    (case side5 => repeat (first | exact (Kd.R_reads' HO403.1).2.2 | (with_reducible refine Kd.C_alloc ?_ _) | (with_reducible refine Kd.C_drewN ?_ _) | (with_reducible refine Kd.C_drew ?_)))
    (case side6 => exact (Kd.R_reads' HO403.1).2.1)
    (case side7 => repeat (first | exact (Kd.R_reads' HO408.1).2.2 | (with_reducible refine Kd.C_alloc ?_ _) | (with_reducible refine Kd.C_drewN ?_ _) | (with_reducible refine Kd.C_drew ?_)))
    (case side8 => exact (Kd.R_reads' HO408.1).2.1)
    rintro e w51 ⟨rfl, hb⟩
    refine ⟨_, rfl, ?_⟩
    have n0_ := Am_ (Kd.R_below (by (with_reducible repeat (first | apply rA_ | apply rN_ | apply rD_)); exact HO378.1) hb)
    have n1_ := Am_ (Kd.R_below (by (with_reducible repeat (first | apply rA_ | apply rN_ | apply rD_)); exact HO383.1) hb)
    have n2_ := Am_ (Kd.R_below (by (with_reducible repeat (first | apply rA_ | apply rN_ | apply rD_)); exact HO390.1) hb)
    have n3_ := Am_ (Kd.R_below (by (with_reducible repeat (first | apply rA_ | apply rN_ | apply rD_)); exact HO395.1) hb)
    have n4_ := Am_ (Kd.R_below (by (with_reducible repeat (first | apply rA_ | apply rN_ | apply rD_)); exact HO403.1) hb)
    have n5_ := Am_ (Kd.R_below (by (with_reducible repeat (first | apply rA_ | apply rN_ | apply rD_)); exact HO408.1) hb)
    have n6_ := Am_ (kB_ (g := gb374) (by (with_reducible repeat (first | refine kN_ ?_ _ | refine kD_ ?_ | refine kA_ ?_ _)); exact BK374.1) hb)
    have n7_ := Am_ (kB_ (g := gb399) (by (with_reducible repeat (first | refine kN_ ?_ _ | refine kD_ ?_ | refine kA_ ?_ _)); exact BK399.1) hb)
    have n8_ := Am_ (bT_ (by repeat (first | (with_reducible first | exact HB.1 | apply bA_ | apply bN_ | apply bD_ | refine bS_ ?_ GE374.1 | refine bS_ ?_ GE399.1) | exact HB.1)) hb)
    clear HO378
    clear HO383
    clear HO390
    clear HO395
    clear HO403
    clear HO408
    clear BK374
    clear BK399
    clear HB
    have HO378 := n0_
    have HO383 := n1_
    have HO390 := n2_
    have HO395 := n3_
    have HO403 := n4_
    have HO408 := n5_
    have BK374 := n6_
    have BK399 := n7_
    have HB := n8_
    clear n0_ n1_ n2_ n3_ n4_ n5_ n6_ n7_ n8_
    (try clear hb)
    (try clear hb2)
    (try clear hk)
    (try clear hi)
    refine hK.out _ _ ⟨kC_ BK399.1 0, kC_ BK399.1 1, kC_ BK399.1 2, kC_ BK399.1 3, kC_ BK399.1 4, kC_ BK399.1 5, kC_ BK399.1 6, kC_ BK374.1 0, kC_ BK374.1 1, kC_ BK374.1 2, kC_ BK374.1 3, kC_ BK374.1 4, kC_ BK374.1 5, kC_ BK374.1 6⟩ (fun hHeld => ?_)
    clear hK K
    refine norm_ (a' := ?_) ?_ ?_
    rotate_left
    ·show Act.put _ (some 25) _ = _
     simp only [Act.put, List.setIfInBounds_toArray, List.set_cons_zero, List.set_cons_succ, i64_w, i32_w]
     rfl
    refine pure_ (i := 4) (N := some 26) (v := ?_) (a' := ?_) #[true, true, true, true, true] rfl rfl (by kernel_rfl) (fun _ _ _ h => h) (Or.inl ⟨by rfl, ?_⟩) ?_ ?_
    rotate_left
    ·intro w'
     go_simp
     with_reducible rfl
    rotate_left
    ·simp only [Act.put, List.setIfInBounds_toArray, List.set_cons_zero, List.set_cons_succ, i64_w, i32_w]
     rfl
    refine done_ (by kernel_rfl) ?_
    try go_wp2
    go_ret
    exact ⟨by first | rfl | (simp [errW_none, errW_some] <;> rfl) | (simp [*, errW_none, errW_some] <;> rfl), by repeat (first | (with_reducible first | exact HB.1 | apply bA_ | apply bN_ | apply bD_ | refine bS_ ?_ GE374.1 | refine bS_ ?_ GE399.1) | exact HB.1)⟩
   ·replace c30 := Bool.eq_false_iff.mpr c30
    subst c30
    have H1 : (some false) = some r := by rw [if_neg (show ¬ (false = true) by decide)] at H; exact H
    clear H
    have H := H1
    clear H1
    obtain rfl := Option.some.inj H
    exact absurd hT (by decide)

end Go.Proofs.Ytlkofdedkfmaeaa.XFnExactDeliveredOnce
