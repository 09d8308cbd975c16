/- The functions that the law reaches as plain Lean functions, and of each a proof that its call computes it. Conditions: those that each theorem names. -/
import Derived.Test.YtlkofdedkfmaeaaWS
import Derived.Test.YtlkofdedkfmaeaaXFnExactUnfinishedFramesx0
import Derived.Test.YtlkofdedkfmaeaaXFnExactUnfinishedFramesx2
import Derived.Test.YtlkofdedkfmaeaaXFnExactUnfinishedFramesx4
import Derived.Test.YtlkofdedkfmaeaaXFnExactUnfinishedFramesx9
namespace Go.Proofs.Ytlkofdedkfmaeaa.XFnExactUnfinishedFrames
open Go.RowKit Go.Proofs.YtlkofdedkfmaeaaW.PrintWords Go.Proofs.YtlkofdedkfmaeaaW.PrintLast Go.Proofs.YtlkofdedkfmaeaaW.PrintMore Go.Proofs.Ytlkofdedkfmaeaa.X
attribute [local go_sem] max2_int min2_int max_two min_two max_three min_three max_four min_four   -- for this text's walks alone
set_option linter.unusedVariables false
set_option linter.unusedSimpArgs false

/-! ### laws_FnExactUnfinishedFrames: function 3 -/
def laws_FnExactUnfinishedFrames.f (k : Nat) (l0_0 : List Int) (a0_1 : Int) (a0_2 : Int) (l0_3 : List (S136)) (a0_4 : Int) (a0_5 : Int) (a0_6 : Int) : Option (Bool) := (laws_szAir.f k l0_0 a0_1 a0_2 l0_3 a0_4 a0_5 a0_6 1048576).bind fun t365 => (if t365 < 0 then (some true) else ((laws_toAir.f k l0_0 a0_1 a0_2 l0_3 a0_4 a0_5 a0_6).bind fun bt366 => ((spec_UnfinishedFrames.f k bt366.1 bt366.2.1 bt366.2.2.1 bt366.2.2.2.1 bt366.2.2.2.2.1 bt366.2.2.2.2.2.1 bt366.2.2.2.2.2.2).bind fun t377 => ((laws_toAir.f k l0_0 a0_1 a0_2 l0_3 a0_4 a0_5 a0_6).bind fun bt378 => ((impl_UnfinishedFrames.f k bt378.1 bt378.2.1 bt378.2.2.1 bt378.2.2.2.1 bt378.2.2.2.2.1 bt378.2.2.2.2.2.1 bt378.2.2.2.2.2.2).bind fun t390 => (if t390 = t377 then ((laws_toAir.f k l0_0 a0_1 a0_2 l0_3 a0_4 a0_5 a0_6).bind fun bt391 => ((laws_eqAir.f k bt378.1 bt378.2.1 bt378.2.2.1 bt378.2.2.2.1 bt378.2.2.2.2.1 bt378.2.2.2.2.2.1 bt378.2.2.2.2.2.2 bt391.1 bt391.2.1 bt391.2.2.1 bt391.2.2.2.1 bt391.2.2.2.2.1 bt391.2.2.2.2.2.1 bt391.2.2.2.2.2.2).bind fun t402 => (if t402 = true then (some true) else (some false)))) else (some false)))))))
theorem laws_FnExactUnfinishedFrames.mono : ∀ a0 a1 a2 a3 a4 a5 a6 k, LeO (laws_FnExactUnfinishedFrames.f k a0 a1 a2 a3 a4 a5 a6) (laws_FnExactUnfinishedFrames.f (k + 1) a0 a1 a2 a3 a4 a5 a6) := by
 intro a0 a1 a2 a3 a4 a5 a6 k
 unfold laws_FnExactUnfinishedFrames.f
 repeat' first
   | (with_reducible exact impl_UnfinishedFrames.mono _ _ _ _ _ _ _ _)
   | (with_reducible exact laws_eqAir.mono _ _ _ _ _ _ _ _ _ _ _ _ _ _ _)
   | (with_reducible exact laws_szAir.mono _ _ _ _ _ _ _ _ _)
   | (with_reducible exact laws_toAir.mono _ _ _ _ _ _ _ _)
   | (with_reducible exact spec_UnfinishedFrames.mono _ _ _ _ _ _ _ _)
   | (with_reducible exact LeO.refl _)
   | (with_reducible exact LeO.none _)
   | (with_reducible refine LeO.ite ?_ ?_)
   | (with_reducible refine LeO.bind ?_ (fun _ => ?_))
   | exact impl_UnfinishedFrames.mono _ _ _ _ _ _ _ _
   | exact laws_eqAir.mono _ _ _ _ _ _ _ _ _ _ _ _ _ _ _
   | exact laws_szAir.mono _ _ _ _ _ _ _ _ _
   | exact laws_toAir.mono _ _ _ _ _ _ _ _
   | exact spec_UnfinishedFrames.mono _ _ _ _ _ _ _ _
   | exact LeO.none _
   | refine LeO.ite ?_ ?_
   | refine LeO.bind ?_ (fun _ => ?_)
set_option maxHeartbeats 8000000 in
set_option maxRecDepth 100000 in
theorem laws_FnExactUnfinishedFrames.calls (k : Nat) (A0_0 : Option Addr) (c0_0 : Nat) (l0_0 : List Int) (a0_1 : Int) (a0_2 : Int) (A0_3 : Option Addr) (c0_3 : Nat) (l0_3 : List (S136)) (a0_4 : Int) (a0_5 : Int) (a0_6 : Int) (r : Bool) (w : World) (hr0_0 : Kd.C (Kd.int .i64) w A0_0 l0_0.length l0_0) (hc0_0 : l0_0.length ≤ c0_0) (hr0_3 : Kd.C k136 w A0_3 l0_3.length l0_3) (hc0_3 : l0_3.length ≤ c0_3) (h : laws_FnExactUnfinishedFrames.f k l0_0 a0_1 a0_2 l0_3 a0_4 a0_5 a0_6 = some r) (hT : r = true := by rfl) :
  Calls Try.prog 3 #[.agg #[.slice A0_0 l0_0.length c0_0, .int .i64 a0_1, .int .i64 a0_2, .slice A0_3 l0_3.length c0_3, .int .i64 a0_4, .int .i64 a0_5, .int .i64 a0_6]] w fun e w' => e = .returned (.bool r) ∧ Below w.heap.size w w' := by
 have hu27 := Try.underlying27
 have hu33 := Try.underlying33
 have HR0_0 := Am_ hr0_0
 have HC0_0 := Am_ hc0_0
 clear hr0_0 hc0_0
 have HR0_3 := Am_ hr0_3
 have HC0_3 := Am_ hc0_3
 clear hr0_3 hc0_3
 have HB := Am_ (Below.refl w.heap.size w)
 have H : ((laws_szAir.f k l0_0 a0_1 a0_2 l0_3 a0_4 a0_5 a0_6 1048576).bind fun t365 => (if t365 < 0 then (some true) else ((laws_toAir.f k l0_0 a0_1 a0_2 l0_3 a0_4 a0_5 a0_6).bind fun bt366 => ((spec_UnfinishedFrames.f k bt366.1 bt366.2.1 bt366.2.2.1 bt366.2.2.2.1 bt366.2.2.2.2.1 bt366.2.2.2.2.2.1 bt366.2.2.2.2.2.2).bind fun t377 => ((laws_toAir.f k l0_0 a0_1 a0_2 l0_3 a0_4 a0_5 a0_6).bind fun bt378 => ((impl_UnfinishedFrames.f k bt378.1 bt378.2.1 bt378.2.2.1 bt378.2.2.2.1 bt378.2.2.2.2.1 bt378.2.2.2.2.2.1 bt378.2.2.2.2.2.2).bind fun t390 => (if t390 = t377 then ((laws_toAir.f k l0_0 a0_1 a0_2 l0_3 a0_4 a0_5 a0_6).bind fun bt391 => ((laws_eqAir.f k bt378.1 bt378.2.1 bt378.2.2.1 bt378.2.2.2.1 bt378.2.2.2.2.1 bt378.2.2.2.2.2.1 bt378.2.2.2.2.2.2 bt391.1 bt391.2.1 bt391.2.2.1 bt391.2.2.2.1 bt391.2.2.2.2.1 bt391.2.2.2.2.2.1 bt391.2.2.2.2.2.2).bind fun t402 => (if t402 = true then (some true) else (some false)))) else (some false)))))))) = some r := h
 clear h
 replace H := Option.bind_eq_some_iff.mp H
 obtain ⟨t365, A20, H⟩ := H
 replace H : (if t365 < 0 then (some true) else ((laws_toAir.f k l0_0 a0_1 a0_2 l0_3 a0_4 a0_5 a0_6).bind fun bt366 => ((spec_UnfinishedFrames.f k bt366.1 bt366.2.1 bt366.2.2.1 bt366.2.2.2.1 bt366.2.2.2.2.1 bt366.2.2.2.2.2.1 bt366.2.2.2.2.2.2).bind fun t377 => ((laws_toAir.f k l0_0 a0_1 a0_2 l0_3 a0_4 a0_5 a0_6).bind fun bt378 => ((impl_UnfinishedFrames.f k bt378.1 bt378.2.1 bt378.2.2.1 bt378.2.2.2.1 bt378.2.2.2.2.1 bt378.2.2.2.2.2.1 bt378.2.2.2.2.2.2).bind fun t390 => (if t390 = t377 then ((laws_toAir.f k l0_0 a0_1 a0_2 l0_3 a0_4 a0_5 a0_6).bind fun bt391 => ((laws_eqAir.f k bt378.1 bt378.2.1 bt378.2.2.1 bt378.2.2.2.1 bt378.2.2.2.2.1 bt378.2.2.2.2.2.1 bt378.2.2.2.2.2.2 bt391.1 bt391.2.1 bt391.2.2.1 bt391.2.2.2.1 bt391.2.2.2.2.1 bt391.2.2.2.2.2.1 bt391.2.2.2.2.2.2).bind fun t402 => (if t402 = true then (some true) else (some false)))) else (some false))))))) = some r := H
 have A2 := Am_ A20
 clear A20
 by_cases c3 : t365 < 0
 ·rw [if_pos c3] at H
  have c3b0 : decide (t365 < 0) = true := decide_eq_true c3
  clear c3
  obtain rfl := Option.some.inj H
  go_enter Try.func3, Try.ntmps3
  go_wp2_with (first | ((with_reducible refine gate_dst (N := 1) rfl ?_); refine box_event ?hg (N := 1) ?hd (cs := #[.slice A0_0 l0_0.length c0_0, .int .i64 a0_1, .int .i64 a0_2, .slice A0_3 l0_3.length c0_3, .int .i64 a0_4, .int .i64 a0_5, .int .i64 a0_6]) (t := 27) ?hr ?_; (case hd => rfl); (case hg => rfl); (case hr => first | (go_simp; done) | (go_simp; rfl)); intro gb364 hg w4 hbox hb; have n0_ := Am_ (bT_ (by repeat (first | (with_reducible first | exact HB.1 | apply bA_ | apply bN_ | apply bD_) | exact HB.1)) hb); have n1_ := Am_ (hbox); have n2_ := Am_ ((by rw [hg]; exact (bZ_ (by repeat (first | (with_reducible first | exact HB.1 | apply bA_ | apply bN_ | apply bD_) | exact HB.1))) : w.heap.size ≤ gb364)); have n3_ := Am_ ((by rw [hg]; exact (bZ_ (by repeat (first | (with_reducible first | exact HB.1 | apply bA_ | apply bN_ | apply bD_) | exact HB.1))) : w.heap.size ≤ gb364)); clear HB; have HB := n0_; have BK364 := n1_; have GW364 := n2_; have GE364 := n3_; clear n0_ n1_ n2_ n3_ hb hbox hg; have hcz5_0 : w4.cell? ⟨gb364, 0, none⟩ = some (.slice A0_0 l0_0.length c0_0) := kC_ BK364.1 0; have hcz5_1 : w4.cell? ⟨gb364, 1, none⟩ = some (.int .i64 a0_1) := kC_ BK364.1 1; have hcz5_2 : w4.cell? ⟨gb364, 2, none⟩ = some (.int .i64 a0_2) := kC_ BK364.1 2; have hcz5_3 : w4.cell? ⟨gb364, 3, none⟩ = some (.slice A0_3 l0_3.length c0_3) := kC_ BK364.1 3; have hcz5_4 : w4.cell? ⟨gb364, 4, none⟩ = some (.int .i64 a0_4) := kC_ BK364.1 4; have hcz5_5 : w4.cell? ⟨gb364, 5, none⟩ = some (.int .i64 a0_5) := kC_ BK364.1 5; have hcz5_6 : w4.cell? ⟨gb364, 6, none⟩ = some (.int .i64 a0_6) := kC_ BK364.1 6; have hfz5_0 := kF_ BK364.1 0; have hfz5_1 := kF_ BK364.1 1; have hfz5_2 := kF_ BK364.1 2; have hfz5_3 := kF_ BK364.1 3; have hfz5_4 := kF_ BK364.1 4; have hfz5_5 := kF_ BK364.1 5; have hfz5_6 := kF_ BK364.1 6) | ((with_reducible refine gate_callee (f := 15) rfl ?_); refine goesL_ (some 9) rfl rfl Try.func15 (by kernel_rfl) rfl #[.agg #[.slice A0_0 l0_0.length c0_0, .int .i64 a0_1, .int .i64 a0_2, .slice A0_3 l0_3.length c0_3, .int .i64 a0_4, .int .i64 a0_5, .int .i64 a0_6], .int .i64 1048576] rfl (by (try simp only [List.map_toArray, List.map_cons, List.map_nil]); first | done | rfl | (simp only [List.length_drop, List.length_take]; rfl)) ?_; (with_reducible refine (laws_szAir.calls k _ _ l0_0 a0_1 a0_2 _ _ l0_3 a0_4 a0_5 a0_6 1048576 t365 _ ?side1 ?side2 ?side3 ?side4 A2.1).mono ?_); (case side1 => repeat (first | exact (Kd.C_below HR0_0.1 HB.1) | (with_reducible refine Kd.C_alloc ?_ _) | (with_reducible refine Kd.C_drewN ?_ _) | (with_reducible refine Kd.C_drew ?_))); (case side2 => exact HC0_0.1); (case side3 => repeat (first | exact (Kd.C_below HR0_3.1 HB.1) | (with_reducible refine Kd.C_alloc ?_ _) | (with_reducible refine Kd.C_drewN ?_ _) | (with_reducible refine Kd.C_drew ?_))); (case side4 => exact HC0_3.1); rintro e w6 ⟨rfl, hb⟩; refine ⟨_, rfl, ?_⟩; have n0_ := Am_ (kB_ (g := gb364) (by (with_reducible repeat (first | refine kN_ ?_ _ | refine kD_ ?_ | refine kA_ ?_ _)); exact BK364.1) hb); have n1_ := Am_ (bT_ (by repeat (first | (with_reducible first | exact HB.1 | apply bA_ | apply bN_ | apply bD_ | refine bS_ ?_ GE364.1) | exact HB.1)) hb); clear BK364 HB; have BK364 := n0_; have HB := n1_; clear n0_ n1_; (try clear hb); (try clear hb2); (try clear hk); (try clear hi)))
  go_ret
  exact ⟨by first | rfl | (simp [errW_none, errW_some] <;> rfl) | (simp [*, errW_none, errW_some] <;> rfl), by repeat (first | (with_reducible first | exact HB.1 | apply bA_ | apply bN_ | apply bD_ | refine bS_ ?_ GE364.1) | exact HB.1)⟩
 ·rw [if_neg c3] at H
  have c3b0 : decide (t365 < 0) = false := decide_eq_false c3
  clear c3
  replace H := Option.bind_eq_some_iff.mp H
  obtain ⟨⟨t366, t369, t370, t371, t374, t375, t376⟩, A70, H⟩ := H
  replace H : ((spec_UnfinishedFrames.f k t366 t369 t370 t371 t374 t375 t376).bind fun t377 => ((laws_toAir.f k l0_0 a0_1 a0_2 l0_3 a0_4 a0_5 a0_6).bind fun bt378 => ((impl_UnfinishedFrames.f k bt378.1 bt378.2.1 bt378.2.2.1 bt378.2.2.2.1 bt378.2.2.2.2.1 bt378.2.2.2.2.2.1 bt378.2.2.2.2.2.2).bind fun t390 => (if t390 = t377 then ((laws_toAir.f k l0_0 a0_1 a0_2 l0_3 a0_4 a0_5 a0_6).bind fun bt391 => ((laws_eqAir.f k bt378.1 bt378.2.1 bt378.2.2.1 bt378.2.2.2.1 bt378.2.2.2.2.1 bt378.2.2.2.2.2.1 bt378.2.2.2.2.2.2 bt391.1 bt391.2.1 bt391.2.2.1 bt391.2.2.2.1 bt391.2.2.2.2.1 bt391.2.2.2.2.2.1 bt391.2.2.2.2.2.2).bind fun t402 => (if t402 = true then (some true) else (some false)))) else (some false))))) = some r := H
  have A7 := Am_ A70
  clear A70
  replace H := Option.bind_eq_some_iff.mp H
  obtain ⟨t377, A80, H⟩ := H
  replace H : ((laws_toAir.f k l0_0 a0_1 a0_2 l0_3 a0_4 a0_5 a0_6).bind fun bt378 => ((impl_UnfinishedFrames.f k bt378.1 bt378.2.1 bt378.2.2.1 bt378.2.2.2.1 bt378.2.2.2.2.1 bt378.2.2.2.2.2.1 bt378.2.2.2.2.2.2).bind fun t390 => (if t390 = t377 then ((laws_toAir.f k l0_0 a0_1 a0_2 l0_3 a0_4 a0_5 a0_6).bind fun bt391 => ((laws_eqAir.f k bt378.1 bt378.2.1 bt378.2.2.1 bt378.2.2.2.1 bt378.2.2.2.2.1 bt378.2.2.2.2.2.1 bt378.2.2.2.2.2.2 bt391.1 bt391.2.1 bt391.2.2.1 bt391.2.2.2.1 bt391.2.2.2.2.1 bt391.2.2.2.2.2.1 bt391.2.2.2.2.2.2).bind fun t402 => (if t402 = true then (some true) else (some false)))) else (some false)))) = some r := H
  have A8 := Am_ A80
  clear A80
  replace H := Option.bind_eq_some_iff.mp H
  obtain ⟨⟨t378, t381, t382, t383, t386, t387, t388⟩, A90, H⟩ := H
  replace H : ((impl_UnfinishedFrames.f k t378 t381 t382 t383 t386 t387 t388).bind fun t390 => (if t390 = t377 then ((laws_toAir.f k l0_0 a0_1 a0_2 l0_3 a0_4 a0_5 a0_6).bind fun bt391 => ((laws_eqAir.f k t378 t381 t382 t383 t386 t387 t388 bt391.1 bt391.2.1 bt391.2.2.1 bt391.2.2.2.1 bt391.2.2.2.2.1 bt391.2.2.2.2.2.1 bt391.2.2.2.2.2.2).bind fun t402 => (if t402 = true then (some true) else (some false)))) else (some false))) = some r := H
  have A9 := Am_ A90
  clear A90
  replace H := Option.bind_eq_some_iff.mp H
  obtain ⟨t390, A100, H⟩ := H
  replace H : (if t390 = t377 then ((laws_toAir.f k l0_0 a0_1 a0_2 l0_3 a0_4 a0_5 a0_6).bind fun bt391 => ((laws_eqAir.f k t378 t381 t382 t383 t386 t387 t388 bt391.1 bt391.2.1 bt391.2.2.1 bt391.2.2.2.1 bt391.2.2.2.2.1 bt391.2.2.2.2.2.1 bt391.2.2.2.2.2.2).bind fun t402 => (if t402 = true then (some true) else (some false)))) else (some false)) = some r := H
  have A10 := Am_ A100
  clear A100
  by_cases c11 : t390 = t377
  ·rw [if_pos c11] at H
   have c11b0 : (t390 == t377) = true := beq_iff_eq.mpr c11
   have c11b1 : (t390 != t377) = false := bne_eq_false_iff_eq.mpr c11
   clear c11
   replace H := Option.bind_eq_some_iff.mp H
   obtain ⟨⟨t391, t394, t395, t396, t399, t400, t401⟩, A120, H⟩ := H
   replace H : ((laws_eqAir.f k t378 t381 t382 t383 t386 t387 t388 t391 t394 t395 t396 t399 t400 t401).bind fun t402 => (if t402 = true then (some true) else (some false))) = some r := H
   have A12 := Am_ A120
   clear A120
   replace H := Option.bind_eq_some_iff.mp H
   obtain ⟨t402, A130, H⟩ := H
   replace H : (if t402 = true then (some true) else (some false)) = some r := H
   have A13 := Am_ A130
   clear A130
   by_cases c14 : t402 = true
   ·subst c14
    have H1 : (some true) = some r := by rw [if_pos rfl] at H; exact H
    clear H
    have H := H1
    clear H1
    obtain rfl := Option.some.inj H
    go_enter Try.func3, Try.ntmps3
    try go_wp2_with (first | ((with_reducible refine gate_dst (N := 1) rfl ?_); refine box_event ?hg (N := 1) ?hd (cs := #[.slice A0_0 l0_0.length c0_0, .int .i64 a0_1, .int .i64 a0_2, .slice A0_3 l0_3.length c0_3, .int .i64 a0_4, .int .i64 a0_5, .int .i64 a0_6]) (t := 27) ?hr ?_; (case hd => rfl); (case hg => rfl); (case hr => first | (go_simp; done) | (go_simp; rfl)); intro gb364 hg w15 hbox hb; have n0_ := Am_ (bT_ (by repeat (first | (with_reducible first | exact HB.1 | apply bA_ | apply bN_ | apply bD_) | exact HB.1)) hb); have n1_ := Am_ (hbox); have n2_ := Am_ ((by rw [hg]; exact (bZ_ (by repeat (first | (with_reducible first | exact HB.1 | apply bA_ | apply bN_ | apply bD_) | exact HB.1))) : w.heap.size ≤ gb364)); have n3_ := Am_ ((by rw [hg]; exact (bZ_ (by repeat (first | (with_reducible first | exact HB.1 | apply bA_ | apply bN_ | apply bD_) | exact HB.1))) : w.heap.size ≤ gb364)); clear HB; have HB := n0_; have BK364 := n1_; have GW364 := n2_; have GE364 := n3_; clear n0_ n1_ n2_ n3_ hb hbox hg; have hcz16_0 : w15.cell? ⟨gb364, 0, none⟩ = some (.slice A0_0 l0_0.length c0_0) := kC_ BK364.1 0; have hcz16_1 : w15.cell? ⟨gb364, 1, none⟩ = some (.int .i64 a0_1) := kC_ BK364.1 1; have hcz16_2 : w15.cell? ⟨gb364, 2, none⟩ = some (.int .i64 a0_2) := kC_ BK364.1 2; have hcz16_3 : w15.cell? ⟨gb364, 3, none⟩ = some (.slice A0_3 l0_3.length c0_3) := kC_ BK364.1 3; have hcz16_4 : w15.cell? ⟨gb364, 4, none⟩ = some (.int .i64 a0_4) := kC_ BK364.1 4; have hcz16_5 : w15.cell? ⟨gb364, 5, none⟩ = some (.int .i64 a0_5) := kC_ BK364.1 5; have hcz16_6 : w15.cell? ⟨gb364, 6, none⟩ = some (.int .i64 a0_6) := kC_ BK364.1 6; have hfz16_0 := kF_ BK364.1 0; have hfz16_1 := kF_ BK364.1 1; have hfz16_2 := kF_ BK364.1 2; have hfz16_3 := kF_ BK364.1 3; have hfz16_4 := kF_ BK364.1 4; have hfz16_5 := kF_ BK364.1 5; have hfz16_6 := kF_ BK364.1 6) | ((with_reducible refine gate_callee (f := 15) rfl ?_); refine goesL_ (some 9) rfl rfl Try.func15 (by kernel_rfl) rfl #[.agg #[.slice A0_0 l0_0.length c0_0, .int .i64 a0_1, .int .i64 a0_2, .slice A0_3 l0_3.length c0_3, .int .i64 a0_4, .int .i64 a0_5, .int .i64 a0_6], .int .i64 1048576] rfl (by (try simp only [List.map_toArray, List.map_cons, List.map_nil]); first | done | rfl | (simp only [List.length_drop, List.length_take]; rfl)) ?_; (with_reducible refine (laws_szAir.calls k _ _ l0_0 a0_1 a0_2 _ _ l0_3 a0_4 a0_5 a0_6 1048576 t365 _ ?side1 ?side2 ?side3 ?side4 A2.1).mono ?_); (case side1 => repeat (first | exact (Kd.C_below HR0_0.1 HB.1) | (with_reducible refine Kd.C_alloc ?_ _) | (with_reducible refine Kd.C_drewN ?_ _) | (with_reducible refine Kd.C_drew ?_))); (case side2 => exact HC0_0.1); (case side3 => repeat (first | exact (Kd.C_below HR0_3.1 HB.1) | (with_reducible refine Kd.C_alloc ?_ _) | (with_reducible refine Kd.C_drewN ?_ _) | (with_reducible refine Kd.C_drew ?_))); (case side4 => exact HC0_3.1); rintro e w17 ⟨rfl, hb⟩; refine ⟨_, rfl, ?_⟩; have n0_ := Am_ (kB_ (g := gb364) (by (with_reducible repeat (first | refine kN_ ?_ _ | refine kD_ ?_ | refine kA_ ?_ _)); exact BK364.1) hb); have n1_ := Am_ (bT_ (by repeat (first | (with_reducible first | exact HB.1 | apply bA_ | apply bN_ | apply bD_ | refine bS_ ?_ GE364.1) | exact HB.1)) hb); clear BK364 HB; have BK364 := n0_; have HB := n1_; clear n0_ n1_; (try clear hb); (try clear hb2); (try clear hk); (try clear hi); have hcz18_0 : w17.cell? ⟨gb364, 0, none⟩ = some (.slice A0_0 l0_0.length c0_0) := kC_ BK364.1 0; have hcz18_1 : w17.cell? ⟨gb364, 1, none⟩ = some (.int .i64 a0_1) := kC_ BK364.1 1; have hcz18_2 : w17.cell? ⟨gb364, 2, none⟩ = some (.int .i64 a0_2) := kC_ BK364.1 2; have hcz18_3 : w17.cell? ⟨gb364, 3, none⟩ = some (.slice A0_3 l0_3.length c0_3) := kC_ BK364.1 3; have hcz18_4 : w17.cell? ⟨gb364, 4, none⟩ = some (.int .i64 a0_4) := kC_ BK364.1 4; have hcz18_5 : w17.cell? ⟨gb364, 5, none⟩ = some (.int .i64 a0_5) := kC_ BK364.1 5; have hcz18_6 : w17.cell? ⟨gb364, 6, none⟩ = some (.int .i64 a0_6) := kC_ BK364.1 6; have hfz18_0 := kF_ BK364.1 0; have hfz18_1 := kF_ BK364.1 1; have hfz18_2 := kF_ BK364.1 2; have hfz18_3 := kF_ BK364.1 3; have hfz18_4 := kF_ BK364.1 4; have hfz18_5 := kF_ BK364.1 5; have hfz18_6 := kF_ BK364.1 6) | ((with_reducible refine gate_callee (f := 17) rfl ?_); refine goesL_ (some 13) rfl rfl Try.func17 (by kernel_rfl) rfl #[.agg #[.slice A0_0 l0_0.length c0_0, .int .i64 a0_1, .int .i64 a0_2, .slice A0_3 l0_3.length c0_3, .int .i64 a0_4, .int .i64 a0_5, .int .i64 a0_6]] rfl (by (try simp only [List.map_toArray, List.map_cons, List.map_nil]); first | done | rfl | (simp only [List.length_drop, List.length_take]; rfl)) ?_; (with_reducible refine (laws_toAir.calls k _ _ l0_0 a0_1 a0_2 _ _ l0_3 a0_4 a0_5 a0_6 t366 t369 t370 t371 t374 t375 t376 _ ?side1 ?side2 ?side3 ?side4 A7.1).mono ?_); (case side1 => repeat (first | exact (Kd.C_below HR0_0.1 HB.1) | (with_reducible refine Kd.C_alloc ?_ _) | (with_reducible refine Kd.C_drewN ?_ _) | (with_reducible refine Kd.C_drew ?_))); (case side2 => exact HC0_0.1); (case side3 => repeat (first | exact (Kd.C_below HR0_3.1 HB.1) | (with_reducible refine Kd.C_alloc ?_ _) | (with_reducible refine Kd.C_drewN ?_ _) | (with_reducible refine Kd.C_drew ?_))); (case side4 => exact HC0_3.1); rintro e w19 ⟨v367, v372, rfl, ho0, ho1, hb⟩; refine ⟨_, rfl, ?_⟩; have n0_ := Am_ (Kd.R_lower ho0 (bZ_ (by repeat (first | (with_reducible first | exact HB.1 | apply bA_ | apply bN_ | apply bD_ | refine bS_ ?_ GE364.1) | exact HB.1)))); have n1_ := Am_ (Kd.R_lower ho1 (bZ_ (by repeat (first | (with_reducible first | exact HB.1 | apply bA_ | apply bN_ | apply bD_ | refine bS_ ?_ GE364.1) | exact HB.1)))); have n2_ := Am_ (kB_ (g := gb364) (by (with_reducible repeat (first | refine kN_ ?_ _ | refine kD_ ?_ | refine kA_ ?_ _)); exact BK364.1) hb); have n3_ := Am_ (bT_ (by repeat (first | (with_reducible first | exact HB.1 | apply bA_ | apply bN_ | apply bD_ | refine bS_ ?_ GE364.1) | exact HB.1)) hb); clear BK364 HB; have HO368 := n0_; have HO373 := n1_; have BK364 := n2_; have HB := n3_; clear n0_ n1_ n2_ n3_; (try clear hb); (try clear hb2); (try clear hk); (try clear hi); (try clear ho0); (try clear ho1); obtain ⟨Ao20, co20, eo20⟩ := Kd.R_slice HO368.1; subst eo20; obtain ⟨Ao21, co21, eo21⟩ := Kd.R_slice HO373.1; subst eo21) | ((with_reducible refine gate_callee (f := 16) rfl ?_); refine goesL_ (some 14) rfl rfl Try.func16 (by kernel_rfl) rfl #[.agg #[.slice Ao20 t366.length co20, .int .i64 t369, .int .i64 t370, .slice Ao21 t371.length co21, .int .i64 t374, .int .i64 t375, .int .i64 t376]] rfl (by (try simp only [List.map_toArray, List.map_cons, List.map_nil]); first | done | rfl | (simp only [List.length_drop, List.length_take]; rfl)) ?_; (with_reducible refine (spec_UnfinishedFrames.calls k _ _ t366 t369 t370 _ _ t371 t374 t375 t376 t377 _ ?side1 ?side2 ?side3 ?side4 A8.1).mono ?_); (case side1 => repeat (first | exact (Kd.R_reads' HO368.1).2.2 | (with_reducible refine Kd.C_alloc ?_ _) | (with_reducible refine Kd.C_drewN ?_ _) | (with_reducible refine Kd.C_drew ?_))); (case side2 => exact (Kd.R_reads' HO368.1).2.1); (case side3 => repeat (first | exact (Kd.R_reads' HO373.1).2.2 | (with_reducible refine Kd.C_alloc ?_ _) | (with_reducible refine Kd.C_drewN ?_ _) | (with_reducible refine Kd.C_drew ?_))); (case side4 => exact (Kd.R_reads' HO373.1).2.1); rintro e w22 ⟨rfl, hb⟩; refine ⟨_, rfl, ?_⟩; have n0_ := Am_ (Kd.R_below (by (with_reducible repeat (first | apply rA_ | apply rN_ | apply rD_)); exact HO368.1) hb); have n1_ := Am_ (Kd.R_below (by (with_reducible repeat (first | apply rA_ | apply rN_ | apply rD_)); exact HO373.1) hb); have n2_ := Am_ (kB_ (g := gb364) (by (with_reducible repeat (first | refine kN_ ?_ _ | refine kD_ ?_ | refine kA_ ?_ _)); exact BK364.1) hb); have n3_ := Am_ (bT_ (by repeat (first | (with_reducible first | exact HB.1 | apply bA_ | apply bN_ | apply bD_ | refine bS_ ?_ GE364.1) | exact HB.1)) hb); clear HO368 HO373 BK364 HB; have HO368 := n0_; have HO373 := n1_; have BK364 := n2_; have HB := n3_; clear n0_ n1_ n2_ n3_; (try clear hb); (try clear hb2); (try clear hk); (try clear hi); have hcz23_0 : w22.cell? ⟨gb364, 0, none⟩ = some (.slice A0_0 l0_0.length c0_0) := kC_ BK364.1 0; have hcz23_1 : w22.cell? ⟨gb364, 1, none⟩ = some (.int .i64 a0_1) := kC_ BK364.1 1; have hcz23_2 : w22.cell? ⟨gb364, 2, none⟩ = some (.int .i64 a0_2) := kC_ BK364.1 2; have hcz23_3 : w22.cell? ⟨gb364, 3, none⟩ = some (.slice A0_3 l0_3.length c0_3) := kC_ BK364.1 3; have hcz23_4 : w22.cell? ⟨gb364, 4, none⟩ = some (.int .i64 a0_4) := kC_ BK364.1 4; have hcz23_5 : w22.cell? ⟨gb364, 5, none⟩ = some (.int .i64 a0_5) := kC_ BK364.1 5; have hcz23_6 : w22.cell? ⟨gb364, 6, none⟩ = some (.int .i64 a0_6) := kC_ BK364.1 6; have hfz23_0 := kF_ BK364.1 0; have hfz23_1 := kF_ BK364.1 1; have hfz23_2 := kF_ BK364.1 2; have hfz23_3 := kF_ BK364.1 3; have hfz23_4 := kF_ BK364.1 4; have hfz23_5 := kF_ BK364.1 5; have hfz23_6 := kF_ BK364.1 6) | ((with_reducible refine gate_callee (f := 17) rfl ?_); refine goesL_ (some 16) rfl rfl Try.func17 (by kernel_rfl) rfl #[.agg #[.slice A0_0 l0_0.length c0_0, .int .i64 a0_1, .int .i64 a0_2, .slice A0_3 l0_3.length c0_3, .int .i64 a0_4, .int .i64 a0_5, .int .i64 a0_6]] rfl (by (try simp only [List.map_toArray, List.map_cons, List.map_nil]); first | done | rfl | (simp only [List.length_drop, List.length_take]; rfl)) ?_; (with_reducible refine (laws_toAir.calls k _ _ l0_0 a0_1 a0_2 _ _ l0_3 a0_4 a0_5 a0_6 t378 t381 t382 t383 t386 t387 t388 _ ?side1 ?side2 ?side3 ?side4 A9.1).mono ?_); (case side1 => repeat (first | exact (Kd.C_below HR0_0.1 HB.1) | (with_reducible refine Kd.C_alloc ?_ _) | (with_reducible refine Kd.C_drewN ?_ _) | (with_reducible refine Kd.C_drew ?_))); (case side2 => exact HC0_0.1); (case side3 => repeat (first | exact (Kd.C_below HR0_3.1 HB.1) | (with_reducible refine Kd.C_alloc ?_ _) | (with_reducible refine Kd.C_drewN ?_ _) | (with_reducible refine Kd.C_drew ?_))); (case side4 => exact HC0_3.1); rintro e w24 ⟨v379, v384, rfl, ho0, ho1, hb⟩; refine ⟨_, rfl, ?_⟩; have n0_ := Am_ (Kd.R_elder' (by (with_reducible repeat (first | apply rA_ | apply rN_ | apply rD_)); exact HO368.1) (Kd.R_base ho0) hb); have n1_ := Am_ (Kd.R_elder' (by (with_reducible repeat (first | apply rA_ | apply rN_ | apply rD_)); exact HO373.1) (Kd.R_base ho1) hb); have n2_ := Am_ (Kd.R_lower (Kd.R_new' ho0 (Kd.R_lt (by (with_reducible repeat (first | apply rA_ | apply rN_ | apply rD_)); exact HO368.1))) (bZ_ (by repeat (first | (with_reducible first | exact HB.1 | apply bA_ | apply bN_ | apply bD_ | refine bS_ ?_ GE364.1) | exact HB.1)))); have n3_ := Am_ (Kd.R_lower (Kd.R_new' ho1 (Kd.R_lt (by (with_reducible repeat (first | apply rA_ | apply rN_ | apply rD_)); exact HO373.1))) (bZ_ (by repeat (first | (with_reducible first | exact HB.1 | apply bA_ | apply bN_ | apply bD_ | refine bS_ ?_ GE364.1) | exact HB.1)))); have n4_ := Am_ (kB_ (g := gb364) (by (with_reducible repeat (first | refine kN_ ?_ _ | refine kD_ ?_ | refine kA_ ?_ _)); exact BK364.1) hb); have n5_ := Am_ (bT_ (by repeat (first | (with_reducible first | exact HB.1 | apply bA_ | apply bN_ | apply bD_ | refine bS_ ?_ GE364.1) | exact HB.1)) hb); clear HO368 HO373 BK364 HB; have HO368 := n0_; have HO373 := n1_; have HO380 := n2_; have HO385 := n3_; have BK364 := n4_; have HB := n5_; clear n0_ n1_ n2_ n3_ n4_ n5_; (try clear hb); (try clear hb2); (try clear hk); (try clear hi); (try clear ho0); (try clear ho1)) | ((with_reducible refine gate_dst (N := 5) rfl ?_); refine box_event ?hg (N := 5) ?hd (cs := #[.slice none 0 0, .int .i64 0, .int .i64 0, .slice none 0 0, .int .i64 0, .int .i64 0, .int .i64 0]) (t := 33) ?hr ?_; (case hd => rfl); (case hg => rfl); (case hr => first | (go_simp; done) | (go_simp; rfl)); intro gb389 hg w25 hbox hb; have n0_ := Am_ (Kd.R_below (by (with_reducible repeat (first | apply rA_ | apply rN_ | apply rD_)); exact HO368.1) hb); have n1_ := Am_ (Kd.R_below (by (with_reducible repeat (first | apply rA_ | apply rN_ | apply rD_)); exact HO373.1) hb); have n2_ := Am_ (Kd.R_below (by (with_reducible repeat (first | apply rA_ | apply rN_ | apply rD_)); exact HO380.1) hb); have n3_ := Am_ (Kd.R_below (by (with_reducible repeat (first | apply rA_ | apply rN_ | apply rD_)); exact HO385.1) hb); have n4_ := Am_ (kB_ (g := gb364) (by (with_reducible repeat (first | refine kN_ ?_ _ | refine kD_ ?_ | refine kA_ ?_ _)); exact BK364.1) hb); have n5_ := Am_ (bT_ (by repeat (first | (with_reducible first | exact HB.1 | apply bA_ | apply bN_ | apply bD_ | refine bS_ ?_ GE364.1) | exact HB.1)) hb); have n6_ := Am_ (hbox); have n7_ := Am_ ((by rw [hg]; exact (bZ_ (by repeat (first | (with_reducible first | exact HB.1 | apply bA_ | apply bN_ | apply bD_ | refine bS_ ?_ GE364.1) | exact HB.1))) : w.heap.size ≤ gb389)); have n8_ := Am_ ((by rw [hg]; exact (bZ_ (by repeat (first | (with_reducible first | exact HB.1 | apply bA_ | apply bN_ | apply bD_ | refine bS_ ?_ GE364.1) | exact HB.1))) : w.heap.size ≤ gb389)); have n9_ := Am_ ((by rw [hg]; exact Nat.ne_of_lt (blk_lt (g := gb364) (by (with_reducible repeat (first | refine kN_ ?_ _ | refine kD_ ?_ | refine kA_ ?_ _)); exact BK364.1)) : gb364 ≠ gb389)); have n10_ := Am_ ((by rw [hg]; exact Nat.ne_of_gt (blk_lt (g := gb364) (by (with_reducible repeat (first | refine kN_ ?_ _ | refine kD_ ?_ | refine kA_ ?_ _)); exact BK364.1)) : gb389 ≠ gb364)); clear HO368 HO373 HO380 HO385 BK364 HB; have HO368 := n0_; have HO373 := n1_; have HO380 := n2_; have HO385 := n3_; have BK364 := n4_; have HB := n5_; have BK389 := n6_; have GW389 := n7_; have GE389 := n8_; have NB364_389 := n9_; have NB389_364 := n10_; clear n0_ n1_ n2_ n3_ n4_ n5_ n6_ n7_ n8_ n9_ n10_ hb hbox hg; obtain ⟨Ao26, co26, eo26⟩ := Kd.R_slice HO380.1; subst eo26; have hnb27 := NB389_364.1; have hnc27 := NB364_389.1; have hcz28_0 : w25.cell? ⟨gb389, 0, none⟩ = some (.slice none 0 0) := kC_ BK389.1 0; have hcz28_1 : w25.cell? ⟨gb389, 1, none⟩ = some (.int .i64 0) := kC_ BK389.1 1; have hcz28_2 : w25.cell? ⟨gb389, 2, none⟩ = some (.int .i64 0) := kC_ BK389.1 2; have hcz28_3 : w25.cell? ⟨gb389, 3, none⟩ = some (.slice none 0 0) := kC_ BK389.1 3; have hcz28_4 : w25.cell? ⟨gb389, 4, none⟩ = some (.int .i64 0) := kC_ BK389.1 4; have hcz28_5 : w25.cell? ⟨gb389, 5, none⟩ = some (.int .i64 0) := kC_ BK389.1 5; have hcz28_6 : w25.cell? ⟨gb389, 6, none⟩ = some (.int .i64 0) := kC_ BK389.1 6; have hfz28_0 := kF_ BK389.1 0; have hfz28_1 := kF_ BK389.1 1; have hfz28_2 := kF_ BK389.1 2; have hfz28_3 := kF_ BK389.1 3; have hfz28_4 := kF_ BK389.1 4; have hfz28_5 := kF_ BK389.1 5; have hfz28_6 := kF_ BK389.1 6; obtain ⟨Ao29, co29, eo29⟩ := Kd.R_slice HO385.1; subst eo29) | ((with_reducible refine gate_callee (f := 18) rfl ?_); refine goesL_ (some 18) rfl rfl Try.func18 (by kernel_rfl) rfl #[.agg #[.slice Ao26 t378.length co26, .int .i64 t381, .int .i64 t382, .slice Ao29 t383.length co29, .int .i64 t386, .int .i64 t387, .int .i64 t388]] rfl (by (try simp only [List.map_toArray, List.map_cons, List.map_nil]); first | done | rfl | (simp only [List.length_drop, List.length_take]; rfl)) ?_; (with_reducible refine (impl_UnfinishedFrames.calls k _ _ t378 t381 t382 _ _ t383 t386 t387 t388 t390 _ ?side1 ?side2 ?side3 ?side4 A10.1).mono ?_); (case side1 => refine (Kd.R_reads' (e := 3) (base := w.heap.size) (ok := fun k_ => (True ∧ some k_ ≠ (.slice Ao20 t366.length co20 : Value).ownBlock)) (n := t378.length) (c := co26) ?_).2.2; exact (by (with_reducible repeat (first | apply rA_ | apply rN_ | apply rD_)); exact (Kd.R_mono (rF_ (p := ⟨gb389, 6, none⟩) (rF_ (p := ⟨gb389, 5, none⟩) (rF_ (p := ⟨gb389, 4, none⟩) (rF_ (p := ⟨gb389, 3, none⟩) (rF_ (p := ⟨gb389, 2, none⟩) (rF_ (p := ⟨gb389, 1, none⟩) (rF_ (p := ⟨gb389, 0, none⟩) (Kd.R_types HO380.1 BK389.1 (by decide)) (fun _ hk => hk.2) (.slice Ao26 t378.length co26)) (fun _ hk => hk.2) (.int .i64 t381)) (fun _ hk => hk.2) (.int .i64 t382)) (fun _ hk => hk.2) (.slice Ao29 t383.length co29)) (fun _ hk => hk.2) (.int .i64 t386)) (fun _ hk => hk.2) (.int .i64 t387)) (fun _ hk => hk.2) (.int .i64 t388)) (fun _ h_ => h_.1)))); (case side2 => exact (Kd.R_reads' HO380.1).2.1); (case side3 => refine (Kd.R_reads' (e := 97) (base := w.heap.size) (ok := fun k_ => (True ∧ some k_ ≠ (.slice Ao21 t371.length co21 : Value).ownBlock)) (n := t383.length) (c := co29) ?_).2.2; exact (by (with_reducible repeat (first | apply rA_ | apply rN_ | apply rD_)); exact (Kd.R_mono (rF_ (p := ⟨gb389, 6, none⟩) (rF_ (p := ⟨gb389, 5, none⟩) (rF_ (p := ⟨gb389, 4, none⟩) (rF_ (p := ⟨gb389, 3, none⟩) (rF_ (p := ⟨gb389, 2, none⟩) (rF_ (p := ⟨gb389, 1, none⟩) (rF_ (p := ⟨gb389, 0, none⟩) (Kd.R_types HO385.1 BK389.1 (by decide)) (fun _ hk => hk.2) (.slice Ao26 t378.length co26)) (fun _ hk => hk.2) (.int .i64 t381)) (fun _ hk => hk.2) (.int .i64 t382)) (fun _ hk => hk.2) (.slice Ao29 t383.length co29)) (fun _ hk => hk.2) (.int .i64 t386)) (fun _ hk => hk.2) (.int .i64 t387)) (fun _ hk => hk.2) (.int .i64 t388)) (fun _ h_ => h_.1)))); (case side4 => exact (Kd.R_reads' HO385.1).2.1); rintro e w30 ⟨rfl, hb⟩; refine ⟨_, rfl, ?_⟩; have n0_ := Am_ (Kd.R_below (by (with_reducible repeat (first | apply rA_ | apply rN_ | apply rD_)); exact (Kd.R_mono (rF_ (p := ⟨gb389, 6, none⟩) (rF_ (p := ⟨gb389, 5, none⟩) (rF_ (p := ⟨gb389, 4, none⟩) (rF_ (p := ⟨gb389, 3, none⟩) (rF_ (p := ⟨gb389, 2, none⟩) (rF_ (p := ⟨gb389, 1, none⟩) (rF_ (p := ⟨gb389, 0, none⟩) (Kd.R_types HO368.1 BK389.1 (by decide)) (fun _ hk => hk.2) (.slice Ao26 t378.length co26)) (fun _ hk => hk.2) (.int .i64 t381)) (fun _ hk => hk.2) (.int .i64 t382)) (fun _ hk => hk.2) (.slice Ao29 t383.length co29)) (fun _ hk => hk.2) (.int .i64 t386)) (fun _ hk => hk.2) (.int .i64 t387)) (fun _ hk => hk.2) (.int .i64 t388)) (fun _ h_ => h_.1))) hb); have n1_ := Am_ (Kd.R_below (by (with_reducible repeat (first | apply rA_ | apply rN_ | apply rD_)); exact (Kd.R_mono (rF_ (p := ⟨gb389, 6, none⟩) (rF_ (p := ⟨gb389, 5, none⟩) (rF_ (p := ⟨gb389, 4, none⟩) (rF_ (p := ⟨gb389, 3, none⟩) (rF_ (p := ⟨gb389, 2, none⟩) (rF_ (p := ⟨gb389, 1, none⟩) (rF_ (p := ⟨gb389, 0, none⟩) (Kd.R_types HO373.1 BK389.1 (by decide)) (fun _ hk => hk.2) (.slice Ao26 t378.length co26)) (fun _ hk => hk.2) (.int .i64 t381)) (fun _ hk => hk.2) (.int .i64 t382)) (fun _ hk => hk.2) (.slice Ao29 t383.length co29)) (fun _ hk => hk.2) (.int .i64 t386)) (fun _ hk => hk.2) (.int .i64 t387)) (fun _ hk => hk.2) (.int .i64 t388)) (fun _ h_ => h_.1))) hb); have n2_ := Am_ (Kd.R_below (by (with_reducible repeat (first | apply rA_ | apply rN_ | apply rD_)); exact (Kd.R_mono (rF_ (p := ⟨gb389, 6, none⟩) (rF_ (p := ⟨gb389, 5, none⟩) (rF_ (p := ⟨gb389, 4, none⟩) (rF_ (p := ⟨gb389, 3, none⟩) (rF_ (p := ⟨gb389, 2, none⟩) (rF_ (p := ⟨gb389, 1, none⟩) (rF_ (p := ⟨gb389, 0, none⟩) (Kd.R_types HO380.1 BK389.1 (by decide)) (fun _ hk => hk.2) (.slice Ao26 t378.length co26)) (fun _ hk => hk.2) (.int .i64 t381)) (fun _ hk => hk.2) (.int .i64 t382)) (fun _ hk => hk.2) (.slice Ao29 t383.length co29)) (fun _ hk => hk.2) (.int .i64 t386)) (fun _ hk => hk.2) (.int .i64 t387)) (fun _ hk => hk.2) (.int .i64 t388)) (fun _ h_ => h_.1))) hb); have n3_ := Am_ (Kd.R_below (by (with_reducible repeat (first | apply rA_ | apply rN_ | apply rD_)); exact (Kd.R_mono (rF_ (p := ⟨gb389, 6, none⟩) (rF_ (p := ⟨gb389, 5, none⟩) (rF_ (p := ⟨gb389, 4, none⟩) (rF_ (p := ⟨gb389, 3, none⟩) (rF_ (p := ⟨gb389, 2, none⟩) (rF_ (p := ⟨gb389, 1, none⟩) (rF_ (p := ⟨gb389, 0, none⟩) (Kd.R_types HO385.1 BK389.1 (by decide)) (fun _ hk => hk.2) (.slice Ao26 t378.length co26)) (fun _ hk => hk.2) (.int .i64 t381)) (fun _ hk => hk.2) (.int .i64 t382)) (fun _ hk => hk.2) (.slice Ao29 t383.length co29)) (fun _ hk => hk.2) (.int .i64 t386)) (fun _ hk => hk.2) (.int .i64 t387)) (fun _ hk => hk.2) (.int .i64 t388)) (fun _ h_ => h_.1))) hb); have n4_ := Am_ (kB_ (g := gb364) (o := .cells #[.slice A0_0 l0_0.length c0_0, .int .i64 a0_1, .int .i64 a0_2, .slice A0_3 l0_3.length c0_3, .int .i64 a0_4, .int .i64 a0_5, .int .i64 a0_6] 27 (0, 0)) (by (with_reducible repeat (first | refine kN_ ?_ _ | refine kD_ ?_ | refine kA_ ?_ _)); refine blk_far ?_ NB364_389.1 _; (with_reducible repeat (first | refine kN_ ?_ _ | refine kD_ ?_ | refine kA_ ?_ _)); refine blk_far ?_ NB364_389.1 _; (with_reducible repeat (first | refine kN_ ?_ _ | refine kD_ ?_ | refine kA_ ?_ _)); refine blk_far ?_ NB364_389.1 _; (with_reducible repeat (first | refine kN_ ?_ _ | refine kD_ ?_ | refine kA_ ?_ _)); refine blk_far ?_ NB364_389.1 _; (with_reducible repeat (first | refine kN_ ?_ _ | refine kD_ ?_ | refine kA_ ?_ _)); refine blk_far ?_ NB364_389.1 _; (with_reducible repeat (first | refine kN_ ?_ _ | refine kD_ ?_ | refine kA_ ?_ _)); refine blk_far ?_ NB364_389.1 _; (with_reducible repeat (first | refine kN_ ?_ _ | refine kD_ ?_ | refine kA_ ?_ _)); refine blk_far ?_ NB364_389.1 _; (with_reducible repeat (first | refine kN_ ?_ _ | refine kD_ ?_ | refine kA_ ?_ _)); exact BK364.1) hb); have n5_ := Am_ (kB_ (g := gb389) (o := .cells #[.slice Ao26 t378.length co26, .int .i64 t381, .int .i64 t382, .slice Ao29 t383.length co29, .int .i64 t386, .int .i64 t387, .int .i64 t388] 33 (0, 0)) (by (with_reducible repeat (first | refine kN_ ?_ _ | refine kD_ ?_ | refine kA_ ?_ _)); refine blk_put (cs := #[.slice Ao26 t378.length co26, .int .i64 t381, .int .i64 t382, .slice Ao29 t383.length co29, .int .i64 t386, .int .i64 t387, .int .i64 0]) ?_ 6 _ rfl; (with_reducible repeat (first | refine kN_ ?_ _ | refine kD_ ?_ | refine kA_ ?_ _)); refine blk_put (cs := #[.slice Ao26 t378.length co26, .int .i64 t381, .int .i64 t382, .slice Ao29 t383.length co29, .int .i64 t386, .int .i64 0, .int .i64 0]) ?_ 5 _ rfl; (with_reducible repeat (first | refine kN_ ?_ _ | refine kD_ ?_ | refine kA_ ?_ _)); refine blk_put (cs := #[.slice Ao26 t378.length co26, .int .i64 t381, .int .i64 t382, .slice Ao29 t383.length co29, .int .i64 0, .int .i64 0, .int .i64 0]) ?_ 4 _ rfl; (with_reducible repeat (first | refine kN_ ?_ _ | refine kD_ ?_ | refine kA_ ?_ _)); refine blk_put (cs := #[.slice Ao26 t378.length co26, .int .i64 t381, .int .i64 t382, .slice none 0 0, .int .i64 0, .int .i64 0, .int .i64 0]) ?_ 3 _ rfl; (with_reducible repeat (first | refine kN_ ?_ _ | refine kD_ ?_ | refine kA_ ?_ _)); refine blk_put (cs := #[.slice Ao26 t378.length co26, .int .i64 t381, .int .i64 0, .slice none 0 0, .int .i64 0, .int .i64 0, .int .i64 0]) ?_ 2 _ rfl; (with_reducible repeat (first | refine kN_ ?_ _ | refine kD_ ?_ | refine kA_ ?_ _)); refine blk_put (cs := #[.slice Ao26 t378.length co26, .int .i64 0, .int .i64 0, .slice none 0 0, .int .i64 0, .int .i64 0, .int .i64 0]) ?_ 1 _ rfl; (with_reducible repeat (first | refine kN_ ?_ _ | refine kD_ ?_ | refine kA_ ?_ _)); refine blk_put (cs := #[.slice none 0 0, .int .i64 0, .int .i64 0, .slice none 0 0, .int .i64 0, .int .i64 0, .int .i64 0]) ?_ 0 _ rfl; (with_reducible repeat (first | refine kN_ ?_ _ | refine kD_ ?_ | refine kA_ ?_ _)); exact BK389.1) hb); have n6_ := Am_ (bT_ (by repeat (first | (with_reducible first | exact HB.1 | apply bA_ | apply bN_ | apply bD_ | refine bS_ ?_ GE364.1 | refine bS_ ?_ GE389.1) | exact HB.1)) hb); clear HO368 HO373 HO380 HO385 BK364 BK389 HB; have HO368 := n0_; have HO373 := n1_; have HO380 := n2_; have HO385 := n3_; have BK364 := n4_; have BK389 := n5_; have HB := n6_; clear n0_ n1_ n2_ n3_ n4_ n5_ n6_; (try clear hb); (try clear hb2); (try clear hk); (try clear hi)))
    have n0_ := Am_ (rD_ HO368.1)
    have n1_ := Am_ (rD_ HO373.1)
    have n2_ := Am_ (rD_ HO380.1)
    have n3_ := Am_ (rD_ HO385.1)
    have n4_ := Am_ (kD_ BK364.1)
    have n5_ := Am_ (kD_ BK389.1)
    have n6_ := Am_ (bD_ HB.1)
    clear HO368
    clear HO373
    clear HO380
    clear HO385
    clear BK364
    clear BK389
    clear HB
    have HO368 := n0_
    have HO373 := n1_
    have HO380 := n2_
    have HO385 := n3_
    have BK364 := n4_
    have BK389 := n5_
    have HB := n6_
    clear n0_ n1_ n2_ n3_ n4_ n5_ n6_
    refine start_ (n := 5) (S := fun w' => w'.cell? ⟨gb389, 0, none⟩ = some (.slice Ao26 t378.length co26) ∧ w'.cell? ⟨gb389, 1, none⟩ = some (.int .i64 t381) ∧ w'.cell? ⟨gb389, 2, none⟩ = some (.int .i64 t382) ∧ w'.cell? ⟨gb389, 3, none⟩ = some (.slice Ao29 t383.length co29) ∧ w'.cell? ⟨gb389, 4, none⟩ = some (.int .i64 t386) ∧ w'.cell? ⟨gb389, 5, none⟩ = some (.int .i64 t387) ∧ w'.cell? ⟨gb389, 6, none⟩ = some (.int .i64 t388) ∧ w'.cell? ⟨gb364, 0, none⟩ = some (.slice A0_0 l0_0.length c0_0) ∧ w'.cell? ⟨gb364, 1, none⟩ = some (.int .i64 a0_1) ∧ w'.cell? ⟨gb364, 2, none⟩ = some (.int .i64 a0_2) ∧ w'.cell? ⟨gb364, 3, none⟩ = some (.slice A0_3 l0_3.length c0_3) ∧ w'.cell? ⟨gb364, 4, none⟩ = some (.int .i64 a0_4) ∧ w'.cell? ⟨gb364, 5, none⟩ = some (.int .i64 a0_5) ∧ w'.cell? ⟨gb364, 6, none⟩ = some (.int .i64 a0_6)) (ds := []) #[false, false, false, false, false] (by kernel_rfl) rfl rfl ⟨kC_ BK389.1 0, kC_ BK389.1 1, kC_ BK389.1 2, kC_ BK389.1 3, kC_ BK389.1 4, kC_ BK389.1 5, kC_ BK389.1 6, kC_ BK364.1 0, kC_ BK364.1 1, kC_ BK364.1 2, kC_ BK364.1 3, kC_ BK364.1 4, kC_ BK364.1 5, kC_ BK364.1 6⟩ (fun hHeld => ?_)
    generalize w30.drew = w31 at HO368 HO373 HO380 HO385 BK364 BK389 HB hHeld ⊢
    refine take_ (i := 0) (N := some 22) (v := ?_) (a' := ?_) #[true, false, false, false, false] rfl rfl (by kernel_rfl) (fun _ _ _ h => h) (Or.inl ⟨by rfl, ?_⟩) hHeld ?_ ?_
    rotate_left
    ·rintro w' ⟨s0, s1, s2, s3, s4, s5, s6, s7, s8, s9, s10, s11, s12, s13⟩
     go_simp
     with_reducible rfl
    rotate_left
    ·simp only [Act.put, List.setIfInBounds_toArray, List.set_cons_zero, List.set_cons_succ, i64_w, i32_w]
     rfl
    refine take_ (i := 1) (N := some 23) (v := ?_) (a' := ?_) #[true, true, false, false, false] rfl rfl (by kernel_rfl) (fun _ _ _ h => h) (Or.inl ⟨by rfl, ?_⟩) hHeld ?_ ?_
    rotate_left
    ·rintro w' ⟨s0, s1, s2, s3, s4, s5, s6, s7, s8, s9, s10, s11, s12, s13⟩
     go_simp
     with_reducible rfl
    rotate_left
    ·simp only [Act.put, List.setIfInBounds_toArray, List.set_cons_zero, List.set_cons_succ, i64_w, i32_w]
     rfl
    refine one_ (i := 2) (N := some 24) #[true, true, true, false, false] rfl rfl (by kernel_rfl) (by decide) (fun K hK => ?_)
    refine goes_ Try.func17 (by kernel_rfl) rfl #[.agg #[.slice A0_0 l0_0.length c0_0, .int .i64 a0_1, .int .i64 a0_2, .slice A0_3 l0_3.length c0_3, .int .i64 a0_4, .int .i64 a0_5, .int .i64 a0_6]] (by rfl) rfl rfl (by (try simp only [List.map_toArray, List.map_cons, List.map_nil]); first | done | rfl | (simp only [List.length_drop, List.length_take]; rfl)) ?_
    with_reducible refine (laws_toAir.calls k _ _ l0_0 a0_1 a0_2 _ _ l0_3 a0_4 a0_5 a0_6 t391 t394 t395 t396 t399 t400 t401 _ ?side1 ?side2 ?side3 ?side4 A12.1).mono ?_
    (case side1 => repeat (first | exact (Kd.C_below HR0_0.1 HB.1) | (with_reducible refine Kd.C_alloc ?_ _) | (with_reducible refine Kd.C_drewN ?_ _) | (with_reducible refine Kd.C_drew ?_)))
    (case side2 => exact HC0_0.1)
    (case side3 => repeat (first | exact (Kd.C_below HR0_3.1 HB.1) | (with_reducible refine Kd.C_alloc ?_ _) | (with_reducible refine Kd.C_drewN ?_ _) | (with_reducible refine Kd.C_drew ?_)))
    (case side4 => exact HC0_3.1)
    rintro e w32 ⟨v392, v397, rfl, ho0, ho1, hb⟩
    refine ⟨_, rfl, ?_⟩
    have n0_ := Am_ (Kd.R_elder' (by (with_reducible repeat (first | apply rA_ | apply rN_ | apply rD_)); exact HO368.1) (Kd.R_base ho0) hb)
    have n1_ := Am_ (Kd.R_elder' (by (with_reducible repeat (first | apply rA_ | apply rN_ | apply rD_)); exact HO373.1) (Kd.R_base ho1) hb)
    have n2_ := Am_ (Kd.R_elder' (by (with_reducible repeat (first | apply rA_ | apply rN_ | apply rD_)); exact HO380.1) (Kd.R_base ho0) hb)
    have n3_ := Am_ (Kd.R_elder' (by (with_reducible repeat (first | apply rA_ | apply rN_ | apply rD_)); exact HO385.1) (Kd.R_base ho1) hb)
    have n4_ := Am_ (Kd.R_lower (Kd.R_new' (Kd.R_new' ho0 (Kd.R_lt (by (with_reducible repeat (first | apply rA_ | apply rN_ | apply rD_)); exact HO368.1))) (Kd.R_lt (by (with_reducible repeat (first | apply rA_ | apply rN_ | apply rD_)); exact HO380.1))) (bZ_ (by repeat (first | (with_reducible first | exact HB.1 | apply bA_ | apply bN_ | apply bD_ | refine bS_ ?_ GE364.1 | refine bS_ ?_ GE389.1) | exact HB.1))))
    have n5_ := Am_ (Kd.R_lower (Kd.R_new' (Kd.R_new' ho1 (Kd.R_lt (by (with_reducible repeat (first | apply rA_ | apply rN_ | apply rD_)); exact HO373.1))) (Kd.R_lt (by (with_reducible repeat (first | apply rA_ | apply rN_ | apply rD_)); exact HO385.1))) (bZ_ (by repeat (first | (with_reducible first | exact HB.1 | apply bA_ | apply bN_ | apply bD_ | refine bS_ ?_ GE364.1 | refine bS_ ?_ GE389.1) | exact HB.1))))
    have n6_ := Am_ (kB_ (g := gb364) (by (with_reducible repeat (first | refine kN_ ?_ _ | refine kD_ ?_ | refine kA_ ?_ _)); exact BK364.1) hb)
    have n7_ := Am_ (kB_ (g := gb389) (by (with_reducible repeat (first | refine kN_ ?_ _ | refine kD_ ?_ | refine kA_ ?_ _)); exact BK389.1) hb)
    have n8_ := Am_ (bT_ (by repeat (first | (with_reducible first | exact HB.1 | apply bA_ | apply bN_ | apply bD_ | refine bS_ ?_ GE364.1 | refine bS_ ?_ GE389.1) | exact HB.1)) hb)
    clear HO368
    clear HO373
    clear HO380
    clear HO385
    clear BK364
    clear BK389
    clear HB
    have HO368 := n0_
    have HO373 := n1_
    have HO380 := n2_
    have HO385 := n3_
    have HO393 := n4_
    have HO398 := n5_
    have BK364 := n6_
    have BK389 := n7_
    have HB := n8_
    clear n0_ n1_ n2_ n3_ n4_ n5_ n6_ n7_ n8_
    (try clear hb)
    (try clear hb2)
    (try clear hk)
    (try clear hi)
    (try clear ho0)
    (try clear ho1)
    obtain ⟨Ao33, co33, eo33⟩ := Kd.R_slice HO393.1
    (first | subst eo33 | (injection eo33 with f1_ f2_ f3_; have f4_ := f1_.symm; have f5_ := f3_.symm; clear f1_ f2_ f3_; subst f4_; subst f5_))
    obtain ⟨Ao34, co34, eo34⟩ := Kd.R_slice HO398.1
    (first | subst eo34 | (injection eo34 with f1_ f2_ f3_; have f4_ := f1_.symm; have f5_ := f3_.symm; clear f1_ f2_ f3_; subst f4_; subst f5_))
    refine hK.out _ _ ⟨kC_ BK389.1 0, kC_ BK389.1 1, kC_ BK389.1 2, kC_ BK389.1 3, kC_ BK389.1 4, kC_ BK389.1 5, kC_ BK389.1 6, kC_ BK364.1 0, kC_ BK364.1 1, kC_ BK364.1 2, kC_ BK364.1 3, kC_ BK364.1 4, kC_ BK364.1 5, kC_ BK364.1 6⟩ (fun hHeld => ?_)
    clear hK K
    refine norm_ (a' := ?_) ?_ ?_
    rotate_left
    ·show Act.put _ (some 24) _ = _
     simp only [Act.put, List.setIfInBounds_toArray, List.set_cons_zero, List.set_cons_succ, i64_w, i32_w]
     rfl
    refine one_ (i := 3) (N := some 25) #[true, true, true, true, false] rfl rfl (by kernel_rfl) (by decide) (fun K hK => ?_)
    refine goes_ Try.func19 (by kernel_rfl) rfl #[.agg #[.slice Ao26 t378.length co26, .int .i64 t381, .int .i64 t382, .slice Ao29 t383.length co29, .int .i64 t386, .int .i64 t387, .int .i64 t388], .agg #[.slice Ao33 t391.length co33, .int .i64 t394, .int .i64 t395, .slice Ao34 t396.length co34, .int .i64 t399, .int .i64 t400, .int .i64 t401]] (by rfl) rfl rfl (by (try simp only [List.map_toArray, List.map_cons, List.map_nil]); first | done | rfl | (simp only [List.length_drop, List.length_take]; rfl)) ?_
    with_reducible refine (laws_eqAir.calls k _ _ t378 t381 t382 _ _ t383 t386 t387 t388 _ _ t391 t394 t395 _ _ t396 t399 t400 t401 true _ ?side1 ?side2 ?side3 ?side4 ?side5 ?side6 ?side7 ?side8 A13.1).mono ?_
    (case side1 => repeat (first | exact (Kd.R_reads' HO380.1).2.2 | (with_reducible refine Kd.C_alloc ?_ _) | (with_reducible refine Kd.C_drewN ?_ _) | (with_reducible refine Kd.C_drew ?_)))
    (case side2 => exact (Kd.R_reads' HO380.1).2.1)
    (case side3 => repeat (first | exact (Kd.R_reads' HO385.1).2.2 | (with_reducible refine Kd.C_alloc ?_ _) | (with_reducible refine Kd.C_drewN ?_ _) | (with_reducible refine Kd.C_drew ?_)))
    (case side4 => exact (Kd.R_reads' HO385.1).2.1)
    (case side5 => repeat (first | exact (Kd.R_reads' HO393.1).2.2 | (with_reducible refine Kd.C_alloc ?_ _) | (with_reducible refine Kd.C_drewN ?_ _) | (with_reducible refine Kd.C_drew ?_)))
    (case side6 => exact (Kd.R_reads' HO393.1).2.1)
    (case side7 => repeat (first | exact (Kd.R_reads' HO398.1).2.2 | (with_reducible refine Kd.C_alloc ?_ _) | (with_reducible refine Kd.C_drewN ?_ _) | (with_reducible refine Kd.C_drew ?_)))
    (case side8 => exact (Kd.R_reads' HO398.1).2.1)
    rintro e w35 ⟨rfl, hb⟩
    refine ⟨_, rfl, ?_⟩
    have n0_ := Am_ (Kd.R_below (by (with_reducible repeat (first | apply rA_ | apply rN_ | apply rD_)); exact HO368.1) hb)
    have n1_ := Am_ (Kd.R_below (by (with_reducible repeat (first | apply rA_ | apply rN_ | apply rD_)); exact HO373.1) hb)
    have n2_ := Am_ (Kd.R_below (by (with_reducible repeat (first | apply rA_ | apply rN_ | apply rD_)); exact HO380.1) hb)
    have n3_ := Am_ (Kd.R_below (by (with_reducible repeat (first | apply rA_ | apply rN_ | apply rD_)); exact HO385.1) hb)
    have n4_ := Am_ (Kd.R_below (by (with_reducible repeat (first | apply rA_ | apply rN_ | apply rD_)); exact HO393.1) hb)
    have n5_ := Am_ (Kd.R_below (by (with_reducible repeat (first | apply rA_ | apply rN_ | apply rD_)); exact HO398.1) hb)
    have n6_ := Am_ (kB_ (g := gb364) (by (with_reducible repeat (first | refine kN_ ?_ _ | refine kD_ ?_ | refine kA_ ?_ _)); exact BK364.1) hb)
    have n7_ := Am_ (kB_ (g := gb389) (by (with_reducible repeat (first | refine kN_ ?_ _ | refine kD_ ?_ | refine kA_ ?_ _)); exact BK389.1) hb)
    have n8_ := Am_ (bT_ (by repeat (first | (with_reducible first | exact HB.1 | apply bA_ | apply bN_ | apply bD_ | refine bS_ ?_ GE364.1 | refine bS_ ?_ GE389.1) | exact HB.1)) hb)
    clear HO368
    clear HO373
    clear HO380
    clear HO385
    clear HO393
    clear HO398
    clear BK364
    clear BK389
    clear HB
    have HO368 := n0_
    have HO373 := n1_
    have HO380 := n2_
    have HO385 := n3_
    have HO393 := n4_
    have HO398 := n5_
    have BK364 := n6_
    have BK389 := n7_
    have HB := n8_
    clear n0_ n1_ n2_ n3_ n4_ n5_ n6_ n7_ n8_
    (try clear hb)
    (try clear hb2)
    (try clear hk)
    (try clear hi)
    refine hK.out _ _ ⟨kC_ BK389.1 0, kC_ BK389.1 1, kC_ BK389.1 2, kC_ BK389.1 3, kC_ BK389.1 4, kC_ BK389.1 5, kC_ BK389.1 6, kC_ BK364.1 0, kC_ BK364.1 1, kC_ BK364.1 2, kC_ BK364.1 3, kC_ BK364.1 4, kC_ BK364.1 5, kC_ BK364.1 6⟩ (fun hHeld => ?_)
    clear hK K
    refine norm_ (a' := ?_) ?_ ?_
    rotate_left
    ·show Act.put _ (some 25) _ = _
     simp only [Act.put, List.setIfInBounds_toArray, List.set_cons_zero, List.set_cons_succ, i64_w, i32_w]
     rfl
    refine pure_ (i := 4) (N := some 26) (v := ?_) (a' := ?_) #[true, true, true, true, true] rfl rfl (by kernel_rfl) (fun _ _ _ h => h) (Or.inl ⟨by rfl, ?_⟩) ?_ ?_
    rotate_left
    ·intro w'
     go_simp
     with_reducible rfl
    rotate_left
    ·simp only [Act.put, List.setIfInBounds_toArray, List.set_cons_zero, List.set_cons_succ, i64_w, i32_w]
     rfl
    refine done_ (by kernel_rfl) ?_
    try go_wp2
    go_ret
    exact ⟨by first | rfl | (simp [errW_none, errW_some] <;> rfl) | (simp [*, errW_none, errW_some] <;> rfl), by repeat (first | (with_reducible first | exact HB.1 | apply bA_ | apply bN_ | apply bD_ | refine bS_ ?_ GE364.1 | refine bS_ ?_ GE389.1) | exact HB.1)⟩
   ·replace c14 := Bool.eq_false_iff.mpr c14
    subst c14
    have H1 : (some false) = some r := by rw [if_neg (show ¬ (false = true) by decide)] at H; exact H
    clear H
    have H := H1
    clear H1
    obtain rfl := Option.some.inj H
    exact absurd hT (by decide)
  ·rw [if_neg c11] at H
   have c11b0 : (t390 == t377) = false := beq_eq_false_iff_ne.mpr c11
   have c11b1 : (t390 != t377) = true := bne_iff_ne.mpr c11
   obtain rfl := Option.some.inj H
   exact absurd hT (by decide)

end Go.Proofs.Ytlkofdedkfmaeaa.XFnExactUnfinishedFrames
