/- The functions that the law reaches as plain Lean functions, and of each a proof that its call computes it. Conditions: those that each theorem names. -/
import Derived.Test.YtlkofdedkfmaeaaWS
import Derived.Test.YtlkofdedkfmaeaaXFnExactSlotBoundx0
import Derived.Test.YtlkofdedkfmaeaaXFnExactSlotBoundx2
import Derived.Test.YtlkofdedkfmaeaaXFnExactSlotBoundx3
import Derived.Test.YtlkofdedkfmaeaaXFnExactSlotBoundx8
import Derived.Test.YtlkofdedkfmaeaaXFnExactSlotBoundx9
namespace Go.Proofs.Ytlkofdedkfmaeaa.XFnExactSlotBound
open Go.RowKit Go.Proofs.YtlkofdedkfmaeaaW.PrintWords Go.Proofs.YtlkofdedkfmaeaaW.PrintLast Go.Proofs.YtlkofdedkfmaeaaW.PrintMore Go.Proofs.Ytlkofdedkfmaeaa.X
attribute [local go_sem] max2_int min2_int max_two min_two max_three min_three max_four min_four   -- for this text's walks alone
set_option linter.unusedVariables false
set_option linter.unusedSimpArgs false

/-! ### laws_FnExactSlotBound: function 7 -/
def laws_FnExactSlotBound.f (k : Nat) (l0_0 : List Int) (a0_1 : Int) (a0_2 : Int) (l0_3 : List (S136)) (a0_4 : Int) (a0_5 : Int) (a0_6 : Int) : Option (Bool) := (laws_szAir.f k l0_0 a0_1 a0_2 l0_3 a0_4 a0_5 a0_6 1048576).bind fun t369 => (if t369 < 0 then (some true) else ((laws_toAir.f k l0_0 a0_1 a0_2 l0_3 a0_4 a0_5 a0_6).bind fun bt370 => ((spec_SlotBound.f k bt370.1 bt370.2.1 bt370.2.2.1 bt370.2.2.2.1 bt370.2.2.2.2.1 bt370.2.2.2.2.2.1 bt370.2.2.2.2.2.2).bind fun t381 => ((laws_toAir.f k l0_0 a0_1 a0_2 l0_3 a0_4 a0_5 a0_6).bind fun bt382 => ((impl_SlotBound.f k bt382.1 bt382.2.1 bt382.2.2.1 bt382.2.2.2.1 bt382.2.2.2.2.1 bt382.2.2.2.2.2.1 bt382.2.2.2.2.2.2).bind fun t394 => (if t394 = t381 then ((laws_toAir.f k l0_0 a0_1 a0_2 l0_3 a0_4 a0_5 a0_6).bind fun bt395 => ((laws_eqAir.f k bt382.1 bt382.2.1 bt382.2.2.1 bt382.2.2.2.1 bt382.2.2.2.2.1 bt382.2.2.2.2.2.1 bt382.2.2.2.2.2.2 bt395.1 bt395.2.1 bt395.2.2.1 bt395.2.2.2.1 bt395.2.2.2.2.1 bt395.2.2.2.2.2.1 bt395.2.2.2.2.2.2).bind fun t406 => (if t406 = true then (some true) else (some false)))) else (some false)))))))
theorem laws_FnExactSlotBound.mono : ∀ a0 a1 a2 a3 a4 a5 a6 k, LeO (laws_FnExactSlotBound.f k a0 a1 a2 a3 a4 a5 a6) (laws_FnExactSlotBound.f (k + 1) a0 a1 a2 a3 a4 a5 a6) := by
 intro a0 a1 a2 a3 a4 a5 a6 k
 unfold laws_FnExactSlotBound.f
 repeat' first
   | (with_reducible exact impl_SlotBound.mono _ _ _ _ _ _ _ _)
   | (with_reducible exact laws_eqAir.mono _ _ _ _ _ _ _ _ _ _ _ _ _ _ _)
   | (with_reducible exact laws_szAir.mono _ _ _ _ _ _ _ _ _)
   | (with_reducible exact laws_toAir.mono _ _ _ _ _ _ _ _)
   | (with_reducible exact spec_SlotBound.mono _ _ _ _ _ _ _ _)
   | (with_reducible exact LeO.refl _)
   | (with_reducible exact LeO.none _)
   | (with_reducible refine LeO.ite ?_ ?_)
   | (with_reducible refine LeO.bind ?_ (fun _ => ?_))
   | exact impl_SlotBound.mono _ _ _ _ _ _ _ _
   | exact laws_eqAir.mono _ _ _ _ _ _ _ _ _ _ _ _ _ _ _
   | exact laws_szAir.mono _ _ _ _ _ _ _ _ _
   | exact laws_toAir.mono _ _ _ _ _ _ _ _
   | exact spec_SlotBound.mono _ _ _ _ _ _ _ _
   | exact LeO.none _
   | refine LeO.ite ?_ ?_
   | refine LeO.bind ?_ (fun _ => ?_)
set_option maxHeartbeats 8000000 in
set_option maxRecDepth 100000 in
theorem laws_FnExactSlotBound.calls (k : Nat) (A0_0 : Option Addr) (c0_0 : Nat) (l0_0 : List Int) (a0_1 : Int) (a0_2 : Int) (A0_3 : Option Addr) (c0_3 : Nat) (l0_3 : List (S136)) (a0_4 : Int) (a0_5 : Int) (a0_6 : Int) (r : Bool) (w : World) (hr0_0 : Kd.C (Kd.int .i64) w A0_0 l0_0.length l0_0) (hc0_0 : l0_0.length ≤ c0_0) (hr0_3 : Kd.C k136 w A0_3 l0_3.length l0_3) (hc0_3 : l0_3.length ≤ c0_3) (h : laws_FnExactSlotBound.f k l0_0 a0_1 a0_2 l0_3 a0_4 a0_5 a0_6 = some r) (hT : r = true := by rfl) :
  Calls Try.prog 7 #[.agg #[.slice A0_0 l0_0.length c0_0, .int .i64 a0_1, .int .i64 a0_2, .slice A0_3 l0_3.length c0_3, .int .i64 a0_4, .int .i64 a0_5, .int .i64 a0_6]] w fun e w' => e = .returned (.bool r) ∧ Below w.heap.size w w' := by
 have hu27 := Try.underlying27
 have hu33 := Try.underlying33
 have HR0_0 := Am_ hr0_0
 have HC0_0 := Am_ hc0_0
 clear hr0_0 hc0_0
 have HR0_3 := Am_ hr0_3
 have HC0_3 := Am_ hc0_3
 clear hr0_3 hc0_3
 have HB := Am_ (Below.refl w.heap.size w)
 have H : ((laws_szAir.f k l0_0 a0_1 a0_2 l0_3 a0_4 a0_5 a0_6 1048576).bind fun t369 => (if t369 < 0 then (some true) else ((laws_toAir.f k l0_0 a0_1 a0_2 l0_3 a0_4 a0_5 a0_6).bind fun bt370 => ((spec_SlotBound.f k bt370.1 bt370.2.1 bt370.2.2.1 bt370.2.2.2.1 bt370.2.2.2.2.1 bt370.2.2.2.2.2.1 bt370.2.2.2.2.2.2).bind fun t381 => ((laws_toAir.f k l0_0 a0_1 a0_2 l0_3 a0_4 a0_5 a0_6).bind fun bt382 => ((impl_SlotBound.f k bt382.1 bt382.2.1 bt382.2.2.1 bt382.2.2.2.1 bt382.2.2.2.2.1 bt382.2.2.2.2.2.1 bt382.2.2.2.2.2.2).bind fun t394 => (if t394 = t381 then ((laws_toAir.f k l0_0 a0_1 a0_2 l0_3 a0_4 a0_5 a0_6).bind fun bt395 => ((laws_eqAir.f k bt382.1 bt382.2.1 bt382.2.2.1 bt382.2.2.2.1 bt382.2.2.2.2.1 bt382.2.2.2.2.2.1 bt382.2.2.2.2.2.2 bt395.1 bt395.2.1 bt395.2.2.1 bt395.2.2.2.1 bt395.2.2.2.2.1 bt395.2.2.2.2.2.1 bt395.2.2.2.2.2.2).bind fun t406 => (if t406 = true then (some true) else (some false)))) else (some false)))))))) = some r := h
 clear h
 replace H := Option.bind_eq_some_iff.mp H
 obtain ⟨t369, A20, H⟩ := H
 replace H : (if t369 < 0 then (some true) else ((laws_toAir.f k l0_0 a0_1 a0_2 l0_3 a0_4 a0_5 a0_6).bind fun bt370 => ((spec_SlotBound.f k bt370.1 bt370.2.1 bt370.2.2.1 bt370.2.2.2.1 bt370.2.2.2.2.1 bt370.2.2.2.2.2.1 bt370.2.2.2.2.2.2).bind fun t381 => ((laws_toAir.f k l0_0 a0_1 a0_2 l0_3 a0_4 a0_5 a0_6).bind fun bt382 => ((impl_SlotBound.f k bt382.1 bt382.2.1 bt382.2.2.1 bt382.2.2.2.1 bt382.2.2.2.2.1 bt382.2.2.2.2.2.1 bt382.2.2.2.2.2.2).bind fun t394 => (if t394 = t381 then ((laws_toAir.f k l0_0 a0_1 a0_2 l0_3 a0_4 a0_5 a0_6).bind fun bt395 => ((laws_eqAir.f k bt382.1 bt382.2.1 bt382.2.2.1 bt382.2.2.2.1 bt382.2.2.2.2.1 bt382.2.2.2.2.2.1 bt382.2.2.2.2.2.2 bt395.1 bt395.2.1 bt395.2.2.1 bt395.2.2.2.1 bt395.2.2.2.2.1 bt395.2.2.2.2.2.1 bt395.2.2.2.2.2.2).bind fun t406 => (if t406 = true then (some true) else (some false)))) else (some false))))))) = some r := H
 have A2 := Am_ A20
 clear A20
 by_cases c3 : t369 < 0
 ·rw [if_pos c3] at H
  have c3b0 : decide (t369 < 0) = true := decide_eq_true c3
  clear c3
  obtain rfl := Option.some.inj H
  go_enter Try.func7, Try.ntmps7
  go_wp2_with (first | ((with_reducible refine gate_dst (N := 1) rfl ?_); refine box_event ?hg (N := 1) ?hd (cs := #[.slice A0_0 l0_0.length c0_0, .int .i64 a0_1, .int .i64 a0_2, .slice A0_3 l0_3.length c0_3, .int .i64 a0_4, .int .i64 a0_5, .int .i64 a0_6]) (t := 27) ?hr ?_; (case hd => rfl); (case hg => rfl); (case hr => first | (go_simp; done) | (go_simp; rfl)); intro gb368 hg w4 hbox hb; have n0_ := Am_ (bT_ (by repeat (first | (with_reducible first | exact HB.1 | apply bA_ | apply bN_ | apply bD_) | exact HB.1)) hb); have n1_ := Am_ (hbox); have n2_ := Am_ ((by rw [hg]; exact (bZ_ (by repeat (first | (with_reducible first | exact HB.1 | apply bA_ | apply bN_ | apply bD_) | exact HB.1))) : w.heap.size ≤ gb368)); have n3_ := Am_ ((by rw [hg]; exact (bZ_ (by repeat (first | (with_reducible first | exact HB.1 | apply bA_ | apply bN_ | apply bD_) | exact HB.1))) : w.heap.size ≤ gb368)); clear HB; have HB := n0_; have BK368 := n1_; have GW368 := n2_; have GE368 := n3_; clear n0_ n1_ n2_ n3_ hb hbox hg; have hcz5_0 : w4.cell? ⟨gb368, 0, none⟩ = some (.slice A0_0 l0_0.length c0_0) := kC_ BK368.1 0; have hcz5_1 : w4.cell? ⟨gb368, 1, none⟩ = some (.int .i64 a0_1) := kC_ BK368.1 1; have hcz5_2 : w4.cell? ⟨gb368, 2, none⟩ = some (.int .i64 a0_2) := kC_ BK368.1 2; have hcz5_3 : w4.cell? ⟨gb368, 3, none⟩ = some (.slice A0_3 l0_3.length c0_3) := kC_ BK368.1 3; have hcz5_4 : w4.cell? ⟨gb368, 4, none⟩ = some (.int .i64 a0_4) := kC_ BK368.1 4; have hcz5_5 : w4.cell? ⟨gb368, 5, none⟩ = some (.int .i64 a0_5) := kC_ BK368.1 5; have hcz5_6 : w4.cell? ⟨gb368, 6, none⟩ = some (.int .i64 a0_6) := kC_ BK368.1 6; have hfz5_0 := kF_ BK368.1 0; have hfz5_1 := kF_ BK368.1 1; have hfz5_2 := kF_ BK368.1 2; have hfz5_3 := kF_ BK368.1 3; have hfz5_4 := kF_ BK368.1 4; have hfz5_5 := kF_ BK368.1 5; have hfz5_6 := kF_ BK368.1 6) | ((with_reducible refine gate_callee (f := 15) rfl ?_); refine goesL_ (some 9) rfl rfl Try.func15 (by kernel_rfl) rfl #[.agg #[.slice A0_0 l0_0.length c0_0, .int .i64 a0_1, .int .i64 a0_2, .slice A0_3 l0_3.length c0_3, .int .i64 a0_4, .int .i64 a0_5, .int .i64 a0_6], .int .i64 1048576] rfl (by (try simp only [List.map_toArray, List.map_cons, List.map_nil]); first | done | rfl | (simp only [List.length_drop, List.length_take]; rfl)) ?_; (with_reducible refine (laws_szAir.calls k _ _ l0_0 a0_1 a0_2 _ _ l0_3 a0_4 a0_5 a0_6 1048576 t369 _ ?side1 ?side2 ?side3 ?side4 A2.1).mono ?_); (case side1 => repeat (first | exact (Kd.C_below HR0_0.1 HB.1) | (with_reducible refine Kd.C_alloc ?_ _) | (with_reducible refine Kd.C_drewN ?_ _) | (with_reducible refine Kd.C_drew ?_))); (case side2 => exact HC0_0.1); (case side3 => repeat (first | exact (Kd.C_below HR0_3.1 HB.1) | (with_reducible refine Kd.C_alloc ?_ _) | (with_reducible refine Kd.C_drewN ?_ _) | (with_reducible refine Kd.C_drew ?_))); (case side4 => exact HC0_3.1); rintro e w6 ⟨rfl, hb⟩; refine ⟨_, rfl, ?_⟩; have n0_ := Am_ (kB_ (g := gb368) (by (with_reducible repeat (first | refine kN_ ?_ _ | refine kD_ ?_ | refine kA_ ?_ _)); exact BK368.1) hb); have n1_ := Am_ (bT_ (by repeat (first | (with_reducible first | exact HB.1 | apply bA_ | apply bN_ | apply bD_ | refine bS_ ?_ GE368.1) | exact HB.1)) hb); clear BK368 HB; have BK368 := n0_; have HB := n1_; clear n0_ n1_; (try clear hb); (try clear hb2); (try clear hk); (try clear hi)))
  go_ret
  exact ⟨by first | rfl | (simp [errW_none, errW_some] <;> rfl) | (simp [*, errW_none, errW_some] <;> rfl), by repeat (first | (with_reducible first | exact HB.1 | apply bA_ | apply bN_ | apply bD_ | refine bS_ ?_ GE368.1) | exact HB.1)⟩
 ·rw [if_neg c3] at H
  have c3b0 : decide (t369 < 0) = false := decide_eq_false c3
  clear c3
  replace H := Option.bind_eq_some_iff.mp H
  obtain ⟨⟨t370, t373, t374, t375, t378, t379, t380⟩, A70, H⟩ := H
  replace H : ((spec_SlotBound.f k t370 t373 t374 t375 t378 t379 t380).bind fun t381 => ((laws_toAir.f k l0_0 a0_1 a0_2 l0_3 a0_4 a0_5 a0_6).bind fun bt382 => ((impl_SlotBound.f k bt382.1 bt382.2.1 bt382.2.2.1 bt382.2.2.2.1 bt382.2.2.2.2.1 bt382.2.2.2.2.2.1 bt382.2.2.2.2.2.2).bind fun t394 => (if t394 = t381 then ((laws_toAir.f k l0_0 a0_1 a0_2 l0_3 a0_4 a0_5 a0_6).bind fun bt395 => ((laws_eqAir.f k bt382.1 bt382.2.1 bt382.2.2.1 bt382.2.2.2.1 bt382.2.2.2.2.1 bt382.2.2.2.2.2.1 bt382.2.2.2.2.2.2 bt395.1 bt395.2.1 bt395.2.2.1 bt395.2.2.2.1 bt395.2.2.2.2.1 bt395.2.2.2.2.2.1 bt395.2.2.2.2.2.2).bind fun t406 => (if t406 = true then (some true) else (some false)))) else (some false))))) = some r := H
  have A7 := Am_ A70
  clear A70
  replace H := Option.bind_eq_some_iff.mp H
  obtain ⟨t381, A80, H⟩ := H
  replace H : ((laws_toAir.f k l0_0 a0_1 a0_2 l0_3 a0_4 a0_5 a0_6).bind fun bt382 => ((impl_SlotBound.f k bt382.1 bt382.2.1 bt382.2.2.1 bt382.2.2.2.1 bt382.2.2.2.2.1 bt382.2.2.2.2.2.1 bt382.2.2.2.2.2.2).bind fun t394 => (if t394 = t381 then ((laws_toAir.f k l0_0 a0_1 a0_2 l0_3 a0_4 a0_5 a0_6).bind fun bt395 => ((laws_eqAir.f k bt382.1 bt382.2.1 bt382.2.2.1 bt382.2.2.2.1 bt382.2.2.2.2.1 bt382.2.2.2.2.2.1 bt382.2.2.2.2.2.2 bt395.1 bt395.2.1 bt395.2.2.1 bt395.2.2.2.1 bt395.2.2.2.2.1 bt395.2.2.2.2.2.1 bt395.2.2.2.2.2.2).bind fun t406 => (if t406 = true then (some true) else (some false)))) else (some false)))) = some r := H
  have A8 := Am_ A80
  clear A80
  replace H := Option.bind_eq_some_iff.mp H
  obtain ⟨⟨t382, t385, t386, t387, t390, t391, t392⟩, A90, H⟩ := H
  replace H : ((impl_SlotBound.f k t382 t385 t386 t387 t390 t391 t392).bind fun t394 => (if t394 = t381 then ((laws_toAir.f k l0_0 a0_1 a0_2 l0_3 a0_4 a0_5 a0_6).bind fun bt395 => ((laws_eqAir.f k t382 t385 t386 t387 t390 t391 t392 bt395.1 bt395.2.1 bt395.2.2.1 bt395.2.2.2.1 bt395.2.2.2.2.1 bt395.2.2.2.2.2.1 bt395.2.2.2.2.2.2).bind fun t406 => (if t406 = true then (some true) else (some false)))) else (some false))) = some r := H
  have A9 := Am_ A90
  clear A90
  replace H := Option.bind_eq_some_iff.mp H
  obtain ⟨t394, A100, H⟩ := H
  replace H : (if t394 = t381 then ((laws_toAir.f k l0_0 a0_1 a0_2 l0_3 a0_4 a0_5 a0_6).bind fun bt395 => ((laws_eqAir.f k t382 t385 t386 t387 t390 t391 t392 bt395.1 bt395.2.1 bt395.2.2.1 bt395.2.2.2.1 bt395.2.2.2.2.1 bt395.2.2.2.2.2.1 bt395.2.2.2.2.2.2).bind fun t406 => (if t406 = true then (some true) else (some false)))) else (some false)) = some r := H
  have A10 := Am_ A100
  clear A100
  by_cases c11 : t394 = t381
  ·rw [if_pos c11] at H
   have c11b0 : (t394 == t381) = true := beq_iff_eq.mpr c11
   have c11b1 : (t394 != t381) = false := bne_eq_false_iff_eq.mpr c11
   clear c11
   replace H := Option.bind_eq_some_iff.mp H
   obtain ⟨⟨t395, t398, t399, t400, t403, t404, t405⟩, A120, H⟩ := H
   replace H : ((laws_eqAir.f k t382 t385 t386 t387 t390 t391 t392 t395 t398 t399 t400 t403 t404 t405).bind fun t406 => (if t406 = true then (some true) else (some false))) = some r := H
   have A12 := Am_ A120
   clear A120
   replace H := Option.bind_eq_some_iff.mp H
   obtain ⟨t406, A130, H⟩ := H
   replace H : (if t406 = true then (some true) else (some false)) = some r := H
   have A13 := Am_ A130
   clear A130
   by_cases c14 : t406 = true
   ·subst c14
    have H1 : (some true) = some r := by rw [if_pos rfl] at H; exact H
    clear H
    have H := H1
    clear H1
    obtain rfl := Option.some.inj H
    go_enter Try.func7, Try.ntmps7
    try go_wp2_with (first | ((with_reducible refine gate_dst (N := 1) rfl ?_); refine box_event ?hg (N := 1) ?hd (cs := #[.slice A0_0 l0_0.length c0_0, .int .i64 a0_1, .int .i64 a0_2, .slice A0_3 l0_3.length c0_3, .int .i64 a0_4, .int .i64 a0_5, .int .i64 a0_6]) (t := 27) ?hr ?_; (case hd => rfl); (case hg => rfl); (case hr => first | (go_simp; done) | (go_simp; rfl)); intro gb368 hg w15 hbox hb; have n0_ := Am_ (bT_ (by repeat (first | (with_reducible first | exact HB.1 | apply bA_ | apply bN_ | apply bD_) | exact HB.1)) hb); have n1_ := Am_ (hbox); have n2_ := Am_ ((by rw [hg]; exact (bZ_ (by repeat (first | (with_reducible first | exact HB.1 | apply bA_ | apply bN_ | apply bD_) | exact HB.1))) : w.heap.size ≤ gb368)); have n3_ := Am_ ((by rw [hg]; exact (bZ_ (by repeat (first | (with_reducible first | exact HB.1 | apply bA_ | apply bN_ | apply bD_) | exact HB.1))) : w.heap.size ≤ gb368)); clear HB; have HB := n0_; have BK368 := n1_; have GW368 := n2_; have GE368 := n3_; clear n0_ n1_ n2_ n3_ hb hbox hg; have hcz16_0 : w15.cell? ⟨gb368, 0, none⟩ = some (.slice A0_0 l0_0.length c0_0) := kC_ BK368.1 0; have hcz16_1 : w15.cell? ⟨gb368, 1, none⟩ = some (.int .i64 a0_1) := kC_ BK368.1 1; have hcz16_2 : w15.cell? ⟨gb368, 2, none⟩ = some (.int .i64 a0_2) := kC_ BK368.1 2; have hcz16_3 : w15.cell? ⟨gb368, 3, none⟩ = some (.slice A0_3 l0_3.length c0_3) := kC_ BK368.1 3; have hcz16_4 : w15.cell? ⟨gb368, 4, none⟩ = some (.int .i64 a0_4) := kC_ BK368.1 4; have hcz16_5 : w15.cell? ⟨gb368, 5, none⟩ = some (.int .i64 a0_5) := kC_ BK368.1 5; have hcz16_6 : w15.cell? ⟨gb368, 6, none⟩ = some (.int .i64 a0_6) := kC_ BK368.1 6; have hfz16_0 := kF_ BK368.1 0; have hfz16_1 := kF_ BK368.1 1; have hfz16_2 := kF_ BK368.1 2; have hfz16_3 := kF_ BK368.1 3; have hfz16_4 := kF_ BK368.1 4; have hfz16_5 := kF_ BK368.1 5; have hfz16_6 := kF_ BK368.1 6) | ((with_reducible refine gate_callee (f := 15) rfl ?_); refine goesL_ (some 9) rfl rfl Try.func15 (by kernel_rfl) rfl #[.agg #[.slice A0_0 l0_0.length c0_0, .int .i64 a0_1, .int .i64 a0_2, .slice A0_3 l0_3.length c0_3, .int .i64 a0_4, .int .i64 a0_5, .int .i64 a0_6], .int .i64 1048576] rfl (by (try simp only [List.map_toArray, List.map_cons, List.map_nil]); first | done | rfl | (simp only [List.length_drop, List.length_take]; rfl)) ?_; (with_reducible refine (laws_szAir.calls k _ _ l0_0 a0_1 a0_2 _ _ l0_3 a0_4 a0_5 a0_6 1048576 t369 _ ?side1 ?side2 ?side3 ?side4 A2.1).mono ?_); (case side1 => repeat (first | exact (Kd.C_below HR0_0.1 HB.1) | (with_reducible refine Kd.C_alloc ?_ _) | (with_reducible refine Kd.C_drewN ?_ _) | (with_reducible refine Kd.C_drew ?_))); (case side2 => exact HC0_0.1); (case side3 => repeat (first | exact (Kd.C_below HR0_3.1 HB.1) | (with_reducible refine Kd.C_alloc ?_ _) | (with_reducible refine Kd.C_drewN ?_ _) | (with_reducible refine Kd.C_drew ?_))); (case side4 => exact HC0_3.1); rintro e w17 ⟨rfl, hb⟩; refine ⟨_, rfl, ?_⟩; have n0_ := Am_ (kB_ (g := gb368) (by (with_reducible repeat (first | refine kN_ ?_ _ | refine kD_ ?_ | refine kA_ ?_ _)); exact BK368.1) hb); have n1_ := Am_ (bT_ (by repeat (first | (with_reducible first | exact HB.1 | apply bA_ | apply bN_ | apply bD_ | refine bS_ ?_ GE368.1) | exact HB.1)) hb); clear BK368 HB; have BK368 := n0_; have HB := n1_; clear n0_ n1_; (try clear hb); (try clear hb2); (try clear hk); (try clear hi); have hcz18_0 : w17.cell? ⟨gb368, 0, none⟩ = some (.slice A0_0 l0_0.length c0_0) := kC_ BK368.1 0; have hcz18_1 : w17.cell? ⟨gb368, 1, none⟩ = some (.int .i64 a0_1) := kC_ BK368.1 1; have hcz18_2 : w17.cell? ⟨gb368, 2, none⟩ = some (.int .i64 a0_2) := kC_ BK368.1 2; have hcz18_3 : w17.cell? ⟨gb368, 3, none⟩ = some (.slice A0_3 l0_3.length c0_3) := kC_ BK368.1 3; have hcz18_4 : w17.cell? ⟨gb368, 4, none⟩ = some (.int .i64 a0_4) := kC_ BK368.1 4; have hcz18_5 : w17.cell? ⟨gb368, 5, none⟩ = some (.int .i64 a0_5) := kC_ BK368.1 5; have hcz18_6 : w17.cell? ⟨gb368, 6, none⟩ = some (.int .i64 a0_6) := kC_ BK368.1 6; have hfz18_0 := kF_ BK368.1 0; have hfz18_1 := kF_ BK368.1 1; have hfz18_2 := kF_ BK368.1 2; have hfz18_3 := kF_ BK368.1 3; have hfz18_4 := kF_ BK368.1 4; have hfz18_5 := kF_ BK368.1 5; have hfz18_6 := kF_ BK368.1 6) | ((with_reducible refine gate_callee (f := 17) rfl ?_); refine goesL_ (some 13) rfl rfl Try.func17 (by kernel_rfl) rfl #[.agg #[.slice A0_0 l0_0.length c0_0, .int .i64 a0_1, .int .i64 a0_2, .slice A0_3 l0_3.length c0_3, .int .i64 a0_4, .int .i64 a0_5, .int .i64 a0_6]] rfl (by (try simp only [List.map_toArray, List.map_cons, List.map_nil]); first | done | rfl | (simp only [List.length_drop, List.length_take]; rfl)) ?_; (with_reducible refine (laws_toAir.calls k _ _ l0_0 a0_1 a0_2 _ _ l0_3 a0_4 a0_5 a0_6 t370 t373 t374 t375 t378 t379 t380 _ ?side1 ?side2 ?side3 ?side4 A7.1).mono ?_); (case side1 => repeat (first | exact (Kd.C_below HR0_0.1 HB.1) | (with_reducible refine Kd.C_alloc ?_ _) | (with_reducible refine Kd.C_drewN ?_ _) | (with_reducible refine Kd.C_drew ?_))); (case side2 => exact HC0_0.1); (case side3 => repeat (first | exact (Kd.C_below HR0_3.1 HB.1) | (with_reducible refine Kd.C_alloc ?_ _) | (with_reducible refine Kd.C_drewN ?_ _) | (with_reducible refine Kd.C_drew ?_))); (case side4 => exact HC0_3.1); rintro e w19 ⟨v371, v376, rfl, ho0, ho1, hb⟩; refine ⟨_, rfl, ?_⟩; have n0_ := Am_ (Kd.R_lower ho0 (bZ_ (by repeat (first | (with_reducible first | exact HB.1 | apply bA_ | apply bN_ | apply bD_ | refine bS_ ?_ GE368.1) | exact HB.1)))); have n1_ := Am_ (Kd.R_lower ho1 (bZ_ (by repeat (first | (with_reducible first | exact HB.1 | apply bA_ | apply bN_ | apply bD_ | refine bS_ ?_ GE368.1) | exact HB.1)))); have n2_ := Am_ (kB_ (g := gb368) (by (with_reducible repeat (first | refine kN_ ?_ _ | refine kD_ ?_ | refine kA_ ?_ _)); exact BK368.1) hb); have n3_ := Am_ (bT_ (by repeat (first | (with_reducible first | exact HB.1 | apply bA_ | apply bN_ | apply bD_ | refine bS_ ?_ GE368.1) | exact HB.1)) hb); clear BK368 HB; have HO372 := n0_; have HO377 := n1_; have BK368 := n2_; have HB := n3_; clear n0_ n1_ n2_ n3_; (try clear hb); (try clear hb2); (try clear hk); (try clear hi); (try clear ho0); (try clear ho1); obtain ⟨Ao20, co20, eo20⟩ := Kd.R_slice HO372.1; subst eo20; obtain ⟨Ao21, co21, eo21⟩ := Kd.R_slice HO377.1; subst eo21) | ((with_reducible refine gate_callee (f := 26) rfl ?_); refine goesL_ (some 14) rfl rfl Try.func26 (by kernel_rfl) rfl #[.agg #[.slice Ao20 t370.length co20, .int .i64 t373, .int .i64 t374, .slice Ao21 t375.length co21, .int .i64 t378, .int .i64 t379, .int .i64 t380]] rfl (by (try simp only [List.map_toArray, List.map_cons, List.map_nil]); first | done | rfl | (simp only [List.length_drop, List.length_take]; rfl)) ?_; (with_reducible refine (spec_SlotBound.calls k _ _ t370 t373 t374 _ _ t375 t378 t379 t380 t381 _ ?side1 ?side2 ?side3 ?side4 A8.1).mono ?_); (case side1 => repeat (first | exact (Kd.R_reads' HO372.1).2.2 | (with_reducible refine Kd.C_alloc ?_ _) | (with_reducible refine Kd.C_drewN ?_ _) | (with_reducible refine Kd.C_drew ?_))); (case side2 => exact (Kd.R_reads' HO372.1).2.1); (case side3 => repeat (first | exact (Kd.R_reads' HO377.1).2.2 | (with_reducible refine Kd.C_alloc ?_ _) | (with_reducible refine Kd.C_drewN ?_ _) | (with_reducible refine Kd.C_drew ?_))); (case side4 => exact (Kd.R_reads' HO377.1).2.1); rintro e w22 ⟨rfl, hb⟩; refine ⟨_, rfl, ?_⟩; have n0_ := Am_ (Kd.R_below (by (with_reducible repeat (first | apply rA_ | apply rN_ | apply rD_)); exact HO372.1) hb); have n1_ := Am_ (Kd.R_below (by (with_reducible repeat (first | apply rA_ | apply rN_ | apply rD_)); exact HO377.1) hb); have n2_ := Am_ (kB_ (g := gb368) (by (with_reducible repeat (first | refine kN_ ?_ _ | refine kD_ ?_ | refine kA_ ?_ _)); exact BK368.1) hb); have n3_ := Am_ (bT_ (by repeat (first | (with_reducible first | exact HB.1 | apply bA_ | apply bN_ | apply bD_ | refine bS_ ?_ GE368.1) | exact HB.1)) hb); clear HO372 HO377 BK368 HB; have HO372 := n0_; have HO377 := n1_; have BK368 := n2_; have HB := n3_; clear n0_ n1_ n2_ n3_; (try clear hb); (try clear hb2); (try clear hk); (try clear hi); have hcz23_0 : w22.cell? ⟨gb368, 0, none⟩ = some (.slice A0_0 l0_0.length c0_0) := kC_ BK368.1 0; have hcz23_1 : w22.cell? ⟨gb368, 1, none⟩ = some (.int .i64 a0_1) := kC_ BK368.1 1; have hcz23_2 : w22.cell? ⟨gb368, 2, none⟩ = some (.int .i64 a0_2) := kC_ BK368.1 2; have hcz23_3 : w22.cell? ⟨gb368, 3, none⟩ = some (.slice A0_3 l0_3.length c0_3) := kC_ BK368.1 3; have hcz23_4 : w22.cell? ⟨gb368, 4, none⟩ = some (.int .i64 a0_4) := kC_ BK368.1 4; have hcz23_5 : w22.cell? ⟨gb368, 5, none⟩ = some (.int .i64 a0_5) := kC_ BK368.1 5; have hcz23_6 : w22.cell? ⟨gb368, 6, none⟩ = some (.int .i64 a0_6) := kC_ BK368.1 6; have hfz23_0 := kF_ BK368.1 0; have hfz23_1 := kF_ BK368.1 1; have hfz23_2 := kF_ BK368.1 2; have hfz23_3 := kF_ BK368.1 3; have hfz23_4 := kF_ BK368.1 4; have hfz23_5 := kF_ BK368.1 5; have hfz23_6 := kF_ BK368.1 6) | ((with_reducible refine gate_callee (f := 17) rfl ?_); refine goesL_ (some 16) rfl rfl Try.func17 (by kernel_rfl) rfl #[.agg #[.slice A0_0 l0_0.length c0_0, .int .i64 a0_1, .int .i64 a0_2, .slice A0_3 l0_3.length c0_3, .int .i64 a0_4, .int .i64 a0_5, .int .i64 a0_6]] rfl (by (try simp only [List.map_toArray, List.map_cons, List.map_nil]); first | done | rfl | (simp only [List.length_drop, List.length_take]; rfl)) ?_; (with_reducible refine (laws_toAir.calls k _ _ l0_0 a0_1 a0_2 _ _ l0_3 a0_4 a0_5 a0_6 t382 t385 t386 t387 t390 t391 t392 _ ?side1 ?side2 ?side3 ?side4 A9.1).mono ?_); (case side1 => repeat (first | exact (Kd.C_below HR0_0.1 HB.1) | (with_reducible refine Kd.C_alloc ?_ _) | (with_reducible refine Kd.C_drewN ?_ _) | (with_reducible refine Kd.C_drew ?_))); (case side2 => exact HC0_0.1); (case side3 => repeat (first | exact (Kd.C_below HR0_3.1 HB.1) | (with_reducible refine Kd.C_alloc ?_ _) | (with_reducible refine Kd.C_drewN ?_ _) | (with_reducible refine Kd.C_drew ?_))); (case side4 => exact HC0_3.1); rintro e w24 ⟨v383, v388, rfl, ho0, ho1, hb⟩; refine ⟨_, rfl, ?_⟩; have n0_ := Am_ (Kd.R_elder' (by (with_reducible repeat (first | apply rA_ | apply rN_ | apply rD_)); exact HO372.1) (Kd.R_base ho0) hb); have n1_ := Am_ (Kd.R_elder' (by (with_reducible repeat (first | apply rA_ | apply rN_ | apply rD_)); exact HO377.1) (Kd.R_base ho1) hb); have n2_ := Am_ (Kd.R_lower (Kd.R_new' ho0 (Kd.R_lt (by (with_reducible repeat (first | apply rA_ | apply rN_ | apply rD_)); exact HO372.1))) (bZ_ (by repeat (first | (with_reducible first | exact HB.1 | apply bA_ | apply bN_ | apply bD_ | refine bS_ ?_ GE368.1) | exact HB.1)))); have n3_ := Am_ (Kd.R_lower (Kd.R_new' ho1 (Kd.R_lt (by (with_reducible repeat (first | apply rA_ | apply rN_ | apply rD_)); exact HO377.1))) (bZ_ (by repeat (first | (with_reducible first | exact HB.1 | apply bA_ | apply bN_ | apply bD_ | refine bS_ ?_ GE368.1) | exact HB.1)))); have n4_ := Am_ (kB_ (g := gb368) (by (with_reducible repeat (first | refine kN_ ?_ _ | refine kD_ ?_ | refine kA_ ?_ _)); exact BK368.1) hb); have n5_ := Am_ (bT_ (by repeat (first | (with_reducible first | exact HB.1 | apply bA_ | apply bN_ | apply bD_ | refine bS_ ?_ GE368.1) | exact HB.1)) hb); clear HO372 HO377 BK368 HB; have HO372 := n0_; have HO377 := n1_; have HO384 := n2_; have HO389 := n3_; have BK368 := n4_; have HB := n5_; clear n0_ n1_ n2_ n3_ n4_ n5_; (try clear hb); (try clear hb2); (try clear hk); (try clear hi); (try clear ho0); (try clear ho1)) | ((with_reducible refine gate_dst (N := 5) rfl ?_); refine box_event ?hg (N := 5) ?hd (cs := #[.slice none 0 0, .int .i64 0, .int .i64 0, .slice none 0 0, .int .i64 0, .int .i64 0, .int .i64 0]) (t := 33) ?hr ?_; (case hd => rfl); (case hg => rfl); (case hr => first | (go_simp; done) | (go_simp; rfl)); intro gb393 hg w25 hbox hb; have n0_ := Am_ (Kd.R_below (by (with_reducible repeat (first | apply rA_ | apply rN_ | apply rD_)); exact HO372.1) hb); have n1_ := Am_ (Kd.R_below (by (with_reducible repeat (first | apply rA_ | apply rN_ | apply rD_)); exact HO377.1) hb); have n2_ := Am_ (Kd.R_below (by (with_reducible repeat (first | apply rA_ | apply rN_ | apply rD_)); exact HO384.1) hb); have n3_ := Am_ (Kd.R_below (by (with_reducible repeat (first | apply rA_ | apply rN_ | apply rD_)); exact HO389.1) hb); have n4_ := Am_ (kB_ (g := gb368) (by (with_reducible repeat (first | refine kN_ ?_ _ | refine kD_ ?_ | refine kA_ ?_ _)); exact BK368.1) hb); have n5_ := Am_ (bT_ (by repeat (first | (with_reducible first | exact HB.1 | apply bA_ | apply bN_ | apply bD_ | refine bS_ ?_ GE368.1) | exact HB.1)) hb); have n6_ := Am_ (hbox); have n7_ := Am_ ((by rw [hg]; exact (bZ_ (by repeat (first | (with_reducible first | exact HB.1 | apply bA_ | apply bN_ | apply bD_ | refine bS_ ?_ GE368.1) | exact HB.1))) : w.heap.size ≤ gb393)); have n8_ := Am_ ((by rw [hg]; exact (bZ_ (by repeat (first | (with_reducible first | exact HB.1 | apply bA_ | apply bN_ | apply bD_ | refine bS_ ?_ GE368.1) | exact HB.1))) : w.heap.size ≤ gb393)); have n9_ := Am_ ((by rw [hg]; exact Nat.ne_of_lt (blk_lt (g := gb368) (by (with_reducible repeat (first | refine kN_ ?_ _ | refine kD_ ?_ | refine kA_ ?_ _)); exact BK368.1)) : gb368 ≠ gb393)); have n10_ := Am_ ((by rw [hg]; exact Nat.ne_of_gt (blk_lt (g := gb368) (by (with_reducible repeat (first | refine kN_ ?_ _ | refine kD_ ?_ | refine kA_ ?_ _)); exact BK368.1)) : gb393 ≠ gb368)); clear HO372 HO377 HO384 HO389 BK368 HB; have HO372 := n0_; have HO377 := n1_; have HO384 := n2_; have HO389 := n3_; have BK368 := n4_; have HB := n5_; have BK393 := n6_; have GW393 := n7_; have GE393 := n8_; have NB368_393 := n9_; have NB393_368 := n10_; clear n0_ n1_ n2_ n3_ n4_ n5_ n6_ n7_ n8_ n9_ n10_ hb hbox hg; obtain ⟨Ao26, co26, eo26⟩ := Kd.R_slice HO384.1; subst eo26; have hnb27 := NB393_368.1; have hnc27 := NB368_393.1; have hcz28_0 : w25.cell? ⟨gb393, 0, none⟩ = some (.slice none 0 0) := kC_ BK393.1 0; have hcz28_1 : w25.cell? ⟨gb393, 1, none⟩ = some (.int .i64 0) := kC_ BK393.1 1; have hcz28_2 : w25.cell? ⟨gb393, 2, none⟩ = some (.int .i64 0) := kC_ BK393.1 2; have hcz28_3 : w25.cell? ⟨gb393, 3, none⟩ = some (.slice none 0 0) := kC_ BK393.1 3; have hcz28_4 : w25.cell? ⟨gb393, 4, none⟩ = some (.int .i64 0) := kC_ BK393.1 4; have hcz28_5 : w25.cell? ⟨gb393, 5, none⟩ = some (.int .i64 0) := kC_ BK393.1 5; have hcz28_6 : w25.cell? ⟨gb393, 6, none⟩ = some (.int .i64 0) := kC_ BK393.1 6; have hfz28_0 := kF_ BK393.1 0; have hfz28_1 := kF_ BK393.1 1; have hfz28_2 := kF_ BK393.1 2; have hfz28_3 := kF_ BK393.1 3; have hfz28_4 := kF_ BK393.1 4; have hfz28_5 := kF_ BK393.1 5; have hfz28_6 := kF_ BK393.1 6; obtain ⟨Ao29, co29, eo29⟩ := Kd.R_slice HO389.1; subst eo29) | ((with_reducible refine gate_callee (f := 27) rfl ?_); refine goesL_ (some 18) rfl rfl Try.func27 (by kernel_rfl) rfl #[.agg #[.slice Ao26 t382.length co26, .int .i64 t385, .int .i64 t386, .slice Ao29 t387.length co29, .int .i64 t390, .int .i64 t391, .int .i64 t392]] rfl (by (try simp only [List.map_toArray, List.map_cons, List.map_nil]); first | done | rfl | (simp only [List.length_drop, List.length_take]; rfl)) ?_; (with_reducible refine (impl_SlotBound.calls k _ _ t382 t385 t386 _ _ t387 t390 t391 t392 t394 _ ?side1 ?side2 ?side3 ?side4 A10.1).mono ?_); (case side1 => refine (Kd.R_reads' (e := 3) (base := w.heap.size) (ok := fun k_ => (True ∧ some k_ ≠ (.slice Ao20 t370.length co20 : Value).ownBlock)) (n := t382.length) (c := co26) ?_).2.2; exact (by (with_reducible repeat (first | apply rA_ | apply rN_ | apply rD_)); exact (Kd.R_mono (rF_ (p := ⟨gb393, 6, none⟩) (rF_ (p := ⟨gb393, 5, none⟩) (rF_ (p := ⟨gb393, 4, none⟩) (rF_ (p := ⟨gb393, 3, none⟩) (rF_ (p := ⟨gb393, 2, none⟩) (rF_ (p := ⟨gb393, 1, none⟩) (rF_ (p := ⟨gb393, 0, none⟩) (Kd.R_types HO384.1 BK393.1 (by decide)) (fun _ hk => hk.2) (.slice Ao26 t382.length co26)) (fun _ hk => hk.2) (.int .i64 t385)) (fun _ hk => hk.2) (.int .i64 t386)) (fun _ hk => hk.2) (.slice Ao29 t387.length co29)) (fun _ hk => hk.2) (.int .i64 t390)) (fun _ hk => hk.2) (.int .i64 t391)) (fun _ hk => hk.2) (.int .i64 t392)) (fun _ h_ => h_.1)))); (case side2 => exact (Kd.R_reads' HO384.1).2.1); (case side3 => refine (Kd.R_reads' (e := 97) (base := w.heap.size) (ok := fun k_ => (True ∧ some k_ ≠ (.slice Ao21 t375.length co21 : Value).ownBlock)) (n := t387.length) (c := co29) ?_).2.2; exact (by (with_reducible repeat (first | apply rA_ | apply rN_ | apply rD_)); exact (Kd.R_mono (rF_ (p := ⟨gb393, 6, none⟩) (rF_ (p := ⟨gb393, 5, none⟩) (rF_ (p := ⟨gb393, 4, none⟩) (rF_ (p := ⟨gb393, 3, none⟩) (rF_ (p := ⟨gb393, 2, none⟩) (rF_ (p := ⟨gb393, 1, none⟩) (rF_ (p := ⟨gb393, 0, none⟩) (Kd.R_types HO389.1 BK393.1 (by decide)) (fun _ hk => hk.2) (.slice Ao26 t382.length co26)) (fun _ hk => hk.2) (.int .i64 t385)) (fun _ hk => hk.2) (.int .i64 t386)) (fun _ hk => hk.2) (.slice Ao29 t387.length co29)) (fun _ hk => hk.2) (.int .i64 t390)) (fun _ hk => hk.2) (.int .i64 t391)) (fun _ hk => hk.2) (.int .i64 t392)) (fun _ h_ => h_.1)))); (case side4 => exact (Kd.R_reads' HO389.1).2.1); rintro e w30 ⟨rfl, hb⟩; refine ⟨_, rfl, ?_⟩; have n0_ := Am_ (Kd.R_below (by (with_reducible repeat (first | apply rA_ | apply rN_ | apply rD_)); exact (Kd.R_mono (rF_ (p := ⟨gb393, 6, none⟩) (rF_ (p := ⟨gb393, 5, none⟩) (rF_ (p := ⟨gb393, 4, none⟩) (rF_ (p := ⟨gb393, 3, none⟩) (rF_ (p := ⟨gb393, 2, none⟩) (rF_ (p := ⟨gb393, 1, none⟩) (rF_ (p := ⟨gb393, 0, none⟩) (Kd.R_types HO372.1 BK393.1 (by decide)) (fun _ hk => hk.2) (.slice Ao26 t382.length co26)) (fun _ hk => hk.2) (.int .i64 t385)) (fun _ hk => hk.2) (.int .i64 t386)) (fun _ hk => hk.2) (.slice Ao29 t387.length co29)) (fun _ hk => hk.2) (.int .i64 t390)) (fun _ hk => hk.2) (.int .i64 t391)) (fun _ hk => hk.2) (.int .i64 t392)) (fun _ h_ => h_.1))) hb); have n1_ := Am_ (Kd.R_below (by (with_reducible repeat (first | apply rA_ | apply rN_ | apply rD_)); exact (Kd.R_mono (rF_ (p := ⟨gb393, 6, none⟩) (rF_ (p := ⟨gb393, 5, none⟩) (rF_ (p := ⟨gb393, 4, none⟩) (rF_ (p := ⟨gb393, 3, none⟩) (rF_ (p := ⟨gb393, 2, none⟩) (rF_ (p := ⟨gb393, 1, none⟩) (rF_ (p := ⟨gb393, 0, none⟩) (Kd.R_types HO377.1 BK393.1 (by decide)) (fun _ hk => hk.2) (.slice Ao26 t382.length co26)) (fun _ hk => hk.2) (.int .i64 t385)) (fun _ hk => hk.2) (.int .i64 t386)) (fun _ hk => hk.2) (.slice Ao29 t387.length co29)) (fun _ hk => hk.2) (.int .i64 t390)) (fun _ hk => hk.2) (.int .i64 t391)) (fun _ hk => hk.2) (.int .i64 t392)) (fun _ h_ => h_.1))) hb); have n2_ := Am_ (Kd.R_below (by (with_reducible repeat (first | apply rA_ | apply rN_ | apply rD_)); exact (Kd.R_mono (rF_ (p := ⟨gb393, 6, none⟩) (rF_ (p := ⟨gb393, 5, none⟩) (rF_ (p := ⟨gb393, 4, none⟩) (rF_ (p := ⟨gb393, 3, none⟩) (rF_ (p := ⟨gb393, 2, none⟩) (rF_ (p := ⟨gb393, 1, none⟩) (rF_ (p := ⟨gb393, 0, none⟩) (Kd.R_types HO384.1 BK393.1 (by decide)) (fun _ hk => hk.2) (.slice Ao26 t382.length co26)) (fun _ hk => hk.2) (.int .i64 t385)) (fun _ hk => hk.2) (.int .i64 t386)) (fun _ hk => hk.2) (.slice Ao29 t387.length co29)) (fun _ hk => hk.2) (.int .i64 t390)) (fun _ hk => hk.2) (.int .i64 t391)) (fun _ hk => hk.2) (.int .i64 t392)) (fun _ h_ => h_.1))) hb); have n3_ := Am_ (Kd.R_below (by (with_reducible repeat (first | apply rA_ | apply rN_ | apply rD_)); exact (Kd.R_mono (rF_ (p := ⟨gb393, 6, none⟩) (rF_ (p := ⟨gb393, 5, none⟩) (rF_ (p := ⟨gb393, 4, none⟩) (rF_ (p := ⟨gb393, 3, none⟩) (rF_ (p := ⟨gb393, 2, none⟩) (rF_ (p := ⟨gb393, 1, none⟩) (rF_ (p := ⟨gb393, 0, none⟩) (Kd.R_types HO389.1 BK393.1 (by decide)) (fun _ hk => hk.2) (.slice Ao26 t382.length co26)) (fun _ hk => hk.2) (.int .i64 t385)) (fun _ hk => hk.2) (.int .i64 t386)) (fun _ hk => hk.2) (.slice Ao29 t387.length co29)) (fun _ hk => hk.2) (.int .i64 t390)) (fun _ hk => hk.2) (.int .i64 t391)) (fun _ hk => hk.2) (.int .i64 t392)) (fun _ h_ => h_.1))) hb); have n4_ := Am_ (kB_ (g := gb368) (o := .cells #[.slice A0_0 l0_0.length c0_0, .int .i64 a0_1, .int .i64 a0_2, .slice A0_3 l0_3.length c0_3, .int .i64 a0_4, .int .i64 a0_5, .int .i64 a0_6] 27 (0, 0)) (by (with_reducible repeat (first | refine kN_ ?_ _ | refine kD_ ?_ | refine kA_ ?_ _)); refine blk_far ?_ NB368_393.1 _; (with_reducible repeat (first | refine kN_ ?_ _ | refine kD_ ?_ | refine kA_ ?_ _)); refine blk_far ?_ NB368_393.1 _; (with_reducible repeat (first | refine kN_ ?_ _ | refine kD_ ?_ | refine kA_ ?_ _)); refine blk_far ?_ NB368_393.1 _; (with_reducible repeat (first | refine kN_ ?_ _ | refine kD_ ?_ | refine kA_ ?_ _)); refine blk_far ?_ NB368_393.1 _; (with_reducible repeat (first | refine kN_ ?_ _ | refine kD_ ?_ | refine kA_ ?_ _)); refine blk_far ?_ NB368_393.1 _; (with_reducible repeat (first | refine kN_ ?_ _ | refine kD_ ?_ | refine kA_ ?_ _)); refine blk_far ?_ NB368_393.1 _; (with_reducible repeat (first | refine kN_ ?_ _ | refine kD_ ?_ | refine kA_ ?_ _)); refine blk_far ?_ NB368_393.1 _; (with_reducible repeat (first | refine kN_ ?_ _ | refine kD_ ?_ | refine kA_ ?_ _)); exact BK368.1) hb); have n5_ := Am_ (kB_ (g := gb393) (o := .cells #[.slice Ao26 t382.length co26, .int .i64 t385, .int .i64 t386, .slice Ao29 t387.length co29, .int .i64 t390, .int .i64 t391, .int .i64 t392] 33 (0, 0)) (by (with_reducible repeat (first | refine kN_ ?_ _ | refine kD_ ?_ | refine kA_ ?_ _)); refine blk_put (cs := #[.slice Ao26 t382.length co26, .int .i64 t385, .int .i64 t386, .slice Ao29 t387.length co29, .int .i64 t390, .int .i64 t391, .int .i64 0]) ?_ 6 _ rfl; (with_reducible repeat (first | refine kN_ ?_ _ | refine kD_ ?_ | refine kA_ ?_ _)); refine blk_put (cs := #[.slice Ao26 t382.length co26, .int .i64 t385, .int .i64 t386, .slice Ao29 t387.length co29, .int .i64 t390, .int .i64 0, .int .i64 0]) ?_ 5 _ rfl; (with_reducible repeat (first | refine kN_ ?_ _ | refine kD_ ?_ | refine kA_ ?_ _)); refine blk_put (cs := #[.slice Ao26 t382.length co26, .int .i64 t385, .int .i64 t386, .slice Ao29 t387.length co29, .int .i64 0, .int .i64 0, .int .i64 0]) ?_ 4 _ rfl; (with_reducible repeat (first | refine kN_ ?_ _ | refine kD_ ?_ | refine kA_ ?_ _)); refine blk_put (cs := #[.slice Ao26 t382.length co26, .int .i64 t385, .int .i64 t386, .slice none 0 0, .int .i64 0, .int .i64 0, .int .i64 0]) ?_ 3 _ rfl; (with_reducible repeat (first | refine kN_ ?_ _ | refine kD_ ?_ | refine kA_ ?_ _)); refine blk_put (cs := #[.slice Ao26 t382.length co26, .int .i64 t385, .int .i64 0, .slice none 0 0, .int .i64 0, .int .i64 0, .int .i64 0]) ?_ 2 _ rfl; (with_reducible repeat (first | refine kN_ ?_ _ | refine kD_ ?_ | refine kA_ ?_ _)); refine blk_put (cs := #[.slice Ao26 t382.length co26, .int .i64 0, .int .i64 0, .slice none 0 0, .int .i64 0, .int .i64 0, .int .i64 0]) ?_ 1 _ rfl; (with_reducible repeat (first | refine kN_ ?_ _ | refine kD_ ?_ | refine kA_ ?_ _)); refine blk_put (cs := #[.slice none 0 0, .int .i64 0, .int .i64 0, .slice none 0 0, .int .i64 0, .int .i64 0, .int .i64 0]) ?_ 0 _ rfl; (with_reducible repeat (first | refine kN_ ?_ _ | refine kD_ ?_ | refine kA_ ?_ _)); exact BK393.1) hb); have n6_ := Am_ (bT_ (by repeat (first | (with_reducible first | exact HB.1 | apply bA_ | apply bN_ | apply bD_ | refine bS_ ?_ GE368.1 | refine bS_ ?_ GE393.1) | exact HB.1)) hb); clear HO372 HO377 HO384 HO389 BK368 BK393 HB; have HO372 := n0_; have HO377 := n1_; have HO384 := n2_; have HO389 := n3_; have BK368 := n4_; have BK393 := n5_; have HB := n6_; clear n0_ n1_ n2_ n3_ n4_ n5_ n6_; (try clear hb); (try clear hb2); (try clear hk); (try clear hi)))
    have n0_ := Am_ (rD_ HO372.1)
    have n1_ := Am_ (rD_ HO377.1)
    have n2_ := Am_ (rD_ HO384.1)
    have n3_ := Am_ (rD_ HO389.1)
    have n4_ := Am_ (kD_ BK368.1)
    have n5_ := Am_ (kD_ BK393.1)
    have n6_ := Am_ (bD_ HB.1)
    clear HO372
    clear HO377
    clear HO384
    clear HO389
    clear BK368
    clear BK393
    clear HB
    have HO372 := n0_
    have HO377 := n1_
    have HO384 := n2_
    have HO389 := n3_
    have BK368 := n4_
    have BK393 := n5_
    have HB := n6_
    clear n0_ n1_ n2_ n3_ n4_ n5_ n6_
    refine start_ (n := 5) (S := fun w' => w'.cell? ⟨gb393, 0, none⟩ = some (.slice Ao26 t382.length co26) ∧ w'.cell? ⟨gb393, 1, none⟩ = some (.int .i64 t385) ∧ w'.cell? ⟨gb393, 2, none⟩ = some (.int .i64 t386) ∧ w'.cell? ⟨gb393, 3, none⟩ = some (.slice Ao29 t387.length co29) ∧ w'.cell? ⟨gb393, 4, none⟩ = some (.int .i64 t390) ∧ w'.cell? ⟨gb393, 5, none⟩ = some (.int .i64 t391) ∧ w'.cell? ⟨gb393, 6, none⟩ = some (.int .i64 t392) ∧ w'.cell? ⟨gb368, 0, none⟩ = some (.slice A0_0 l0_0.length c0_0) ∧ w'.cell? ⟨gb368, 1, none⟩ = some (.int .i64 a0_1) ∧ w'.cell? ⟨gb368, 2, none⟩ = some (.int .i64 a0_2) ∧ w'.cell? ⟨gb368, 3, none⟩ = some (.slice A0_3 l0_3.length c0_3) ∧ w'.cell? ⟨gb368, 4, none⟩ = some (.int .i64 a0_4) ∧ w'.cell? ⟨gb368, 5, none⟩ = some (.int .i64 a0_5) ∧ w'.cell? ⟨gb368, 6, none⟩ = some (.int .i64 a0_6)) (ds := []) #[false, false, false, false, false] (by kernel_rfl) rfl rfl ⟨kC_ BK393.1 0, kC_ BK393.1 1, kC_ BK393.1 2, kC_ BK393.1 3, kC_ BK393.1 4, kC_ BK393.1 5, kC_ BK393.1 6, kC_ BK368.1 0, kC_ BK368.1 1, kC_ BK368.1 2, kC_ BK368.1 3, kC_ BK368.1 4, kC_ BK368.1 5, kC_ BK368.1 6⟩ (fun hHeld => ?_)
    generalize w30.drew = w31 at HO372 HO377 HO384 HO389 BK368 BK393 HB hHeld ⊢
    refine take_ (i := 0) (N := some 22) (v := ?_) (a' := ?_) #[true, false, false, false, false] rfl rfl (by kernel_rfl) (fun _ _ _ h => h) (Or.inl ⟨by rfl, ?_⟩) hHeld ?_ ?_
    rotate_left
    ·rintro w' ⟨s0, s1, s2, s3, s4, s5, s6, s7, s8, s9, s10, s11, s12, s13⟩
     go_simp
     with_reducible rfl
    rotate_left
    ·simp only [Act.put, List.setIfInBounds_toArray, List.set_cons_zero, List.set_cons_succ, i64_w, i32_w]
     rfl
    refine take_ (i := 1) (N := some 23) (v := ?_) (a' := ?_) #[true, true, false, false, false] rfl rfl (by kernel_rfl) (fun _ _ _ h => h) (Or.inl ⟨by rfl, ?_⟩) hHeld ?_ ?_
    rotate_left
    ·rintro w' ⟨s0, s1, s2, s3, s4, s5, s6, s7, s8, s9, s10, s11, s12, s13⟩
     go_simp
     with_reducible rfl
    rotate_left
    ·simp only [Act.put, List.setIfInBounds_toArray, List.set_cons_zero, List.set_cons_succ, i64_w, i32_w]
     rfl
    refine one_ (i := 2) (N := some 24) #[true, true, true, false, false] rfl rfl (by kernel_rfl) (by decide) (fun K hK => ?_)
    refine goes_ Try.func17 (by kernel_rfl) rfl #[.agg #[.slice A0_0 l0_0.length c0_0, .int .i64 a0_1, .int .i64 a0_2, .slice A0_3 l0_3.length c0_3, .int .i64 a0_4, .int .i64 a0_5, .int .i64 a0_6]] (by rfl) rfl rfl (by (try simp only [List.map_toArray, List.map_cons, List.map_nil]); first | done | rfl | (simp only [List.length_drop, List.length_take]; rfl)) ?_
    with_reducible refine (laws_toAir.calls k _ _ l0_0 a0_1 a0_2 _ _ l0_3 a0_4 a0_5 a0_6 t395 t398 t399 t400 t403 t404 t405 _ ?side1 ?side2 ?side3 ?side4 A12.1).mono ?_
    (case side1 => repeat (first | exact (Kd.C_below HR0_0.1 HB.1) | (with_reducible refine Kd.C_alloc ?_ _) | (with_reducible refine Kd.C_drewN ?_ _) | (with_reducible refine Kd.C_drew ?_)))
    (case side2 => exact HC0_0.1)
    (case side3 => repeat (first | exact (Kd.C_below HR0_3.1 HB.1) | (with_reducible refine Kd.C_alloc ?_ _) | (with_reducible refine Kd.C_drewN ?_ _) | (with_reducible refine Kd.C_drew ?_)))
    (case side4 => exact HC0_3.1)
    rintro e w32 ⟨v396, v401, rfl, ho0, ho1, hb⟩
    refine ⟨_, rfl, ?_⟩
    have n0_ := Am_ (Kd.R_elder' (by (with_reducible repeat (first | apply rA_ | apply rN_ | apply rD_)); exact HO372.1) (Kd.R_base ho0) hb)
    have n1_ := Am_ (Kd.R_elder' (by (with_reducible repeat (first | apply rA_ | apply rN_ | apply rD_)); exact HO377.1) (Kd.R_base ho1) hb)
    have n2_ := Am_ (Kd.R_elder' (by (with_reducible repeat (first | apply rA_ | apply rN_ | apply rD_)); exact HO384.1) (Kd.R_base ho0) hb)
    have n3_ := Am_ (Kd.R_elder' (by (with_reducible repeat (first | apply rA_ | apply rN_ | apply rD_)); exact HO389.1) (Kd.R_base ho1) hb)
    have n4_ := Am_ (Kd.R_lower (Kd.R_new' (Kd.R_new' ho0 (Kd.R_lt (by (with_reducible repeat (first | apply rA_ | apply rN_ | apply rD_)); exact HO372.1))) (Kd.R_lt (by (with_reducible repeat (first | apply rA_ | apply rN_ | apply rD_)); exact HO384.1))) (bZ_ (by repeat (first | (with_reducible first | exact HB.1 | apply bA_ | apply bN_ | apply bD_ | refine bS_ ?_ GE368.1 | refine bS_ ?_ GE393.1) | exact HB.1))))
    have n5_ := Am_ (Kd.R_lower (Kd.R_new' (Kd.R_new' ho1 (Kd.R_lt (by (with_reducible repeat (first | apply rA_ | apply rN_ | apply rD_)); exact HO377.1))) (Kd.R_lt (by (with_reducible repeat (first | apply rA_ | apply rN_ | apply rD_)); exact HO389.1))) (bZ_ (by repeat (first | (with_reducible first | exact HB.1 | apply bA_ | apply bN_ | apply bD_ | refine bS_ ?_ GE368.1 | refine bS_ ?_ GE393.1) | exact HB.1))))
    have n6_ := Am_ (kB_ (g := gb368) (by (with_reducible repeat (first | refine kN_ ?_ _ | refine kD_ ?_ | refine kA_ ?_ _)); exact BK368.1) hb)
    have n7_ := Am_ (kB_ (g := gb393) (by (with_reducible repeat (first | refine kN_ ?_ _ | refine kD_ ?_ | refine kA_ ?_ _)); exact BK393.1) hb)
    have n8_ := Am_ (bT_ (by repeat (first | (with_reducible first | exact HB.1 | apply bA_ | apply bN_ | apply bD_ | refine bS_ ?_ GE368.1 | refine bS_ ?_ GE393.1) | exact HB.1)) hb)
    clear HO372
    clear HO377
    clear HO384
    clear HO389
    clear BK368
    clear BK393
    clear HB
    have HO372 := n0_
    have HO377 := n1_
    have HO384 := n2_
    have HO389 := n3_
    have HO397 := n4_
    have HO402 := n5_
    have BK368 := n6_
    have BK393 := n7_
    have HB := n8_
    clear n0_ n1_ n2_ n3_ n4_ n5_ n6_ n7_ n8_
    (try clear hb)
    (try clear hb2)
    (try clear hk)
    (try clear hi)
    (try clear ho0)
    (try clear ho1)
    obtain ⟨Ao33, co33, eo33⟩ := Kd.R_slice HO397.1
    (first | subst eo33 | (injection eo33 with f1_ f2_ f3_; have f4_ := f1_.symm; have f5_ := f3_.symm; clear f1_ f2_ f3_; subst f4_; subst f5_))
    obtain ⟨Ao34, co34, eo34⟩ := Kd.R_slice HO402.1
    (first | subst eo34 | (injection eo34 with f1_ f2_ f3_; have f4_ := f1_.symm; have f5_ := f3_.symm; clear f1_ f2_ f3_; subst f4_; subst f5_))
    refine hK.out _ _ ⟨kC_ BK393.1 0, kC_ BK393.1 1, kC_ BK393.1 2, kC_ BK393.1 3, kC_ BK393.1 4, kC_ BK393.1 5, kC_ BK393.1 6, kC_ BK368.1 0, kC_ BK368.1 1, kC_ BK368.1 2, kC_ BK368.1 3, kC_ BK368.1 4, kC_ BK368.1 5, kC_ BK368.1 6⟩ (fun hHeld => ?_)
    clear hK K
    refine norm_ (a' := ?_) ?_ ?_
    rotate_left
    ·show Act.put _ (some 24) _ = _
     simp only [Act.put, List.setIfInBounds_toArray, List.set_cons_zero, List.set_cons_succ, i64_w, i32_w]
     rfl
    refine one_ (i := 3) (N := some 25) #[true, true, true, true, false] rfl rfl (by kernel_rfl) (by decide) (fun K hK => ?_)
    refine goes_ Try.func19 (by kernel_rfl) rfl #[.agg #[.slice Ao26 t382.length co26, .int .i64 t385, .int .i64 t386, .slice Ao29 t387.length co29, .int .i64 t390, .int .i64 t391, .int .i64 t392], .agg #[.slice Ao33 t395.length co33, .int .i64 t398, .int .i64 t399, .slice Ao34 t400.length co34, .int .i64 t403, .int .i64 t404, .int .i64 t405]] (by rfl) rfl rfl (by (try simp only [List.map_toArray, List.map_cons, List.map_nil]); first | done | rfl | (simp only [List.length_drop, List.length_take]; rfl)) ?_
    with_reducible refine (laws_eqAir.calls k _ _ t382 t385 t386 _ _ t387 t390 t391 t392 _ _ t395 t398 t399 _ _ t400 t403 t404 t405 true _ ?side1 ?side2 ?side3 ?side4 ?side5 ?side6 ?side7 ?side8 A13.1).mono ?_
    (case side1 => repeat (first | exact (Kd.R_reads' HO384.1).2.2 | (with_reducible refine Kd.C_alloc ?_ _) | (with_reducible refine Kd.C_drewN ?_ _) | (with_reducible refine Kd.C_drew ?_)))
    (case side2 => exact (Kd.R_reads' HO384.1).2.1)
    (case side3 => repeat (first | exact (Kd.R_reads' HO389.1).2.2 | (with_reducible refine Kd.C_alloc ?_ _) | (with_reducible refine Kd.C_drewN ?_ _) | (with_reducible refine Kd.C_drew ?_)))
    (case side4 => exact (Kd.R_reads' HO389.1).2.1)
    (case side5 => repeat (first | exact (Kd.R_reads' HO397.1).2.2 | (with_reducible refine Kd.C_alloc ?_ _) | (with_reducible refine Kd.C_drewN ?_ _) | (with_reducible refine Kd.C_drew ?_)))
    (case side6 => exact (Kd.R_reads' HO397.1).2.1)
    (case side7 => repeat (first | exact (Kd.R_reads' HO402.1).2.2 | (with_reducible refine Kd.C_alloc ?_ _) | (with_reducible refine Kd.C_drewN ?_ _) | (with_reducible refine Kd.C_drew ?_)))
    (case side8 => exact (Kd.R_reads' HO402.1).2.1)
    rintro e w35 ⟨rfl, hb⟩
    refine ⟨_, rfl, ?_⟩
    have n0_ := Am_ (Kd.R_below (by (with_reducible repeat (first | apply rA_ | apply rN_ | apply rD_)); exact HO372.1) hb)
    have n1_ := Am_ (Kd.R_below (by (with_reducible repeat (first | apply rA_ | apply rN_ | apply rD_)); exact HO377.1) hb)
    have n2_ := Am_ (Kd.R_below (by (with_reducible repeat (first | apply rA_ | apply rN_ | apply rD_)); exact HO384.1) hb)
    have n3_ := Am_ (Kd.R_below (by (with_reducible repeat (first | apply rA_ | apply rN_ | apply rD_)); exact HO389.1) hb)
    have n4_ := Am_ (Kd.R_below (by (with_reducible repeat (first | apply rA_ | apply rN_ | apply rD_)); exact HO397.1) hb)
    have n5_ := Am_ (Kd.R_below (by (with_reducible repeat (first | apply rA_ | apply rN_ | apply rD_)); exact HO402.1) hb)
    have n6_ := Am_ (kB_ (g := gb368) (by (with_reducible repeat (first | refine kN_ ?_ _ | refine kD_ ?_ | refine kA_ ?_ _)); exact BK368.1) hb)
    have n7_ := Am_ (kB_ (g := gb393) (by (with_reducible repeat (first | refine kN_ ?_ _ | refine kD_ ?_ | refine kA_ ?_ _)); exact BK393.1) hb)
    have n8_ := Am_ (bT_ (by repeat (first | (with_reducible first | exact HB.1 | apply bA_ | apply bN_ | apply bD_ | refine bS_ ?_ GE368.1 | refine bS_ ?_ GE393.1) | exact HB.1)) hb)
    clear HO372
    clear HO377
    clear HO384
    clear HO389
    clear HO397
    clear HO402
    clear BK368
    clear BK393
    clear HB
    have HO372 := n0_
    have HO377 := n1_
    have HO384 := n2_
    have HO389 := n3_
    have HO397 := n4_
    have HO402 := n5_
    have BK368 := n6_
    have BK393 := n7_
    have HB := n8_
    clear n0_ n1_ n2_ n3_ n4_ n5_ n6_ n7_ n8_
    (try clear hb)
    (try clear hb2)
    (try clear hk)
    (try clear hi)
    refine hK.out _ _ ⟨kC_ BK393.1 0, kC_ BK393.1 1, kC_ BK393.1 2, kC_ BK393.1 3, kC_ BK393.1 4, kC_ BK393.1 5, kC_ BK393.1 6, kC_ BK368.1 0, kC_ BK368.1 1, kC_ BK368.1 2, kC_ BK368.1 3, kC_ BK368.1 4, kC_ BK368.1 5, kC_ BK368.1 6⟩ (fun hHeld => ?_)
    clear hK K
    refine norm_ (a' := ?_) ?_ ?_
    rotate_left
    ·show Act.put _ (some 25) _ = _
     simp only [Act.put, List.setIfInBounds_toArray, List.set_cons_zero, List.set_cons_succ, i64_w, i32_w]
     rfl
    refine pure_ (i := 4) (N := some 26) (v := ?_) (a' := ?_) #[true, true, true, true, true] rfl rfl (by kernel_rfl) (fun _ _ _ h => h) (Or.inl ⟨by rfl, ?_⟩) ?_ ?_
    rotate_left
    ·intro w'
     go_simp
     with_reducible rfl
    rotate_left
    ·simp only [Act.put, List.setIfInBounds_toArray, List.set_cons_zero, List.set_cons_succ, i64_w, i32_w]
     rfl
    refine done_ (by kernel_rfl) ?_
    try go_wp2
    go_ret
    exact ⟨by first | rfl | (simp [errW_none, errW_some] <;> rfl) | (simp [*, errW_none, errW_some] <;> rfl), by repeat (first | (with_reducible first | exact HB.1 | apply bA_ | apply bN_ | apply bD_ | refine bS_ ?_ GE368.1 | refine bS_ ?_ GE393.1) | exact HB.1)⟩
   ·replace c14 := Bool.eq_false_iff.mpr c14
    subst c14
    have H1 : (some false) = some r := by rw [if_neg (show ¬ (false = true) by decide)] at H; exact H
    clear H
    have H := H1
    clear H1
    obtain rfl := Option.some.inj H
    exact absurd hT (by decide)
  ·rw [if_neg c11] at H
   have c11b0 : (t394 == t381) = false := beq_eq_false_iff_ne.mpr c11
   have c11b1 : (t394 != t381) = true := bne_iff_ne.mpr c11
   obtain rfl := Option.some.inj H
   exact absurd hT (by decide)

end Go.Proofs.Ytlkofdedkfmaeaa.XFnExactSlotBound
