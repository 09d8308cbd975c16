/- The functions that the law reaches as plain Lean functions, and of each a proof that its call computes it. Conditions: those that each theorem names. -/
import Derived.Test.YtlkofdedkfmaeaaWS
import Derived.Test.YtlkofdedkfmaeaaXFnExactDeliveredInOrderx0
import Derived.Test.YtlkofdedkfmaeaaXFnExactDeliveredInOrderx2
import Derived.Test.YtlkofdedkfmaeaaXFnExactDeliveredInOrderx3
import Derived.Test.YtlkofdedkfmaeaaXFnExactDeliveredInOrderx8
import Derived.Test.YtlkofdedkfmaeaaXFnExactDeliveredInOrderx9
import Derived.Test.YtlkofdedkfmaeaaXFnExactDeliveredInOrderx10
namespace Go.Proofs.Ytlkofdedkfmaeaa.XFnExactDeliveredInOrder
open Go.RowKit Go.Proofs.YtlkofdedkfmaeaaW.PrintWords Go.Proofs.YtlkofdedkfmaeaaW.PrintLast Go.Proofs.YtlkofdedkfmaeaaW.PrintMore Go.Proofs.Ytlkofdedkfmaeaa.X
attribute [local go_sem] max2_int min2_int max_two min_two max_three min_three max_four min_four   -- for this text's walks alone
set_option linter.unusedVariables false
set_option linter.unusedSimpArgs false

/-! ### laws_FnExactDeliveredInOrder: function 8 -/
def laws_FnExactDeliveredInOrder.f (k : Nat) (l0_0 : List Int) (a0_1 : Int) (a0_2 : Int) (l0_3 : List (S136)) (a0_4 : Int) (a0_5 : Int) (a0_6 : Int) (a1 : Int) (a2 : Int) (a3 : Int) : Option (Bool) := (laws_szAir.f k l0_0 a0_1 a0_2 l0_3 a0_4 a0_5 a0_6 1048576).bind fun t371 => (if t371 < 0 then (some true) else ((laws_toAir.f k l0_0 a0_1 a0_2 l0_3 a0_4 a0_5 a0_6).bind fun bt372 => ((spec_DeliveredInOrder.f k bt372.1 bt372.2.1 bt372.2.2.1 bt372.2.2.2.1 bt372.2.2.2.2.1 bt372.2.2.2.2.2.1 bt372.2.2.2.2.2.2 a1 a2 a3).bind fun t383 => ((laws_toAir.f k l0_0 a0_1 a0_2 l0_3 a0_4 a0_5 a0_6).bind fun bt384 => ((impl_DeliveredInOrder.f k bt384.1 bt384.2.1 bt384.2.2.1 bt384.2.2.2.1 bt384.2.2.2.2.1 bt384.2.2.2.2.2.1 bt384.2.2.2.2.2.2 a1 a2 a3).bind fun t396 => (if (t396 != t383) = true then (some false) else ((laws_toAir.f k l0_0 a0_1 a0_2 l0_3 a0_4 a0_5 a0_6).bind fun bt397 => ((laws_eqAir.f k bt384.1 bt384.2.1 bt384.2.2.1 bt384.2.2.2.1 bt384.2.2.2.2.1 bt384.2.2.2.2.2.1 bt384.2.2.2.2.2.2 bt397.1 bt397.2.1 bt397.2.2.1 bt397.2.2.2.1 bt397.2.2.2.2.1 bt397.2.2.2.2.2.1 bt397.2.2.2.2.2.2).bind fun t408 => (if t408 = true then (some true) else (some false))))))))))
theorem laws_FnExactDeliveredInOrder.mono : ∀ a0 a1 a2 a3 a4 a5 a6 a7 a8 a9 k, LeO (laws_FnExactDeliveredInOrder.f k a0 a1 a2 a3 a4 a5 a6 a7 a8 a9) (laws_FnExactDeliveredInOrder.f (k + 1) a0 a1 a2 a3 a4 a5 a6 a7 a8 a9) := by
 intro a0 a1 a2 a3 a4 a5 a6 a7 a8 a9 k
 unfold laws_FnExactDeliveredInOrder.f
 repeat' first
   | (with_reducible exact impl_DeliveredInOrder.mono _ _ _ _ _ _ _ _ _ _ _)
   | (with_reducible exact laws_eqAir.mono _ _ _ _ _ _ _ _ _ _ _ _ _ _ _)
   | (with_reducible exact laws_szAir.mono _ _ _ _ _ _ _ _ _)
   | (with_reducible exact laws_toAir.mono _ _ _ _ _ _ _ _)
   | (with_reducible exact spec_DeliveredInOrder.mono _ _ _ _ _ _ _ _ _ _ _)
   | (with_reducible exact LeO.refl _)
   | (with_reducible exact LeO.none _)
   | (with_reducible refine LeO.ite ?_ ?_)
   | (with_reducible refine LeO.bind ?_ (fun _ => ?_))
   | exact impl_DeliveredInOrder.mono _ _ _ _ _ _ _ _ _ _ _
   | exact laws_eqAir.mono _ _ _ _ _ _ _ _ _ _ _ _ _ _ _
   | exact laws_szAir.mono _ _ _ _ _ _ _ _ _
   | exact laws_toAir.mono _ _ _ _ _ _ _ _
   | exact spec_DeliveredInOrder.mono _ _ _ _ _ _ _ _ _ _ _
   | exact LeO.none _
   | refine LeO.ite ?_ ?_
   | refine LeO.bind ?_ (fun _ => ?_)
set_option maxHeartbeats 8000000 in
set_option maxRecDepth 100000 in
theorem laws_FnExactDeliveredInOrder.calls (k : Nat) (A0_0 : Option Addr) (c0_0 : Nat) (l0_0 : List Int) (a0_1 : Int) (a0_2 : Int) (A0_3 : Option Addr) (c0_3 : Nat) (l0_3 : List (S136)) (a0_4 : Int) (a0_5 : Int) (a0_6 : Int) (a1 : Int) (a2 : Int) (a3 : Int) (r : Bool) (w : World) (hr0_0 : Kd.C (Kd.int .i64) w A0_0 l0_0.length l0_0) (hc0_0 : l0_0.length ≤ c0_0) (hr0_3 : Kd.C k136 w A0_3 l0_3.length l0_3) (hc0_3 : l0_3.length ≤ c0_3) (h : laws_FnExactDeliveredInOrder.f k l0_0 a0_1 a0_2 l0_3 a0_4 a0_5 a0_6 a1 a2 a3 = some r) (hT : r = true := by rfl) :
  Calls Try.prog 8 #[.agg #[.slice A0_0 l0_0.length c0_0, .int .i64 a0_1, .int .i64 a0_2, .slice A0_3 l0_3.length c0_3, .int .i64 a0_4, .int .i64 a0_5, .int .i64 a0_6], .int .i64 a1, .int .i64 a2, .int .i64 a3] w fun e w' => e = .returned (.bool r) ∧ Below w.heap.size w w' := by
 have hu27 := Try.underlying27
 have hu33 := Try.underlying33
 have HR0_0 := Am_ hr0_0
 have HC0_0 := Am_ hc0_0
 clear hr0_0 hc0_0
 have HR0_3 := Am_ hr0_3
 have HC0_3 := Am_ hc0_3
 clear hr0_3 hc0_3
 have HB := Am_ (Below.refl w.heap.size w)
 have H : ((laws_szAir.f k l0_0 a0_1 a0_2 l0_3 a0_4 a0_5 a0_6 1048576).bind fun t371 => (if t371 < 0 then (some true) else ((laws_toAir.f k l0_0 a0_1 a0_2 l0_3 a0_4 a0_5 a0_6).bind fun bt372 => ((spec_DeliveredInOrder.f k bt372.1 bt372.2.1 bt372.2.2.1 bt372.2.2.2.1 bt372.2.2.2.2.1 bt372.2.2.2.2.2.1 bt372.2.2.2.2.2.2 a1 a2 a3).bind fun t383 => ((laws_toAir.f k l0_0 a0_1 a0_2 l0_3 a0_4 a0_5 a0_6).bind fun bt384 => ((impl_DeliveredInOrder.f k bt384.1 bt384.2.1 bt384.2.2.1 bt384.2.2.2.1 bt384.2.2.2.2.1 bt384.2.2.2.2.2.1 bt384.2.2.2.2.2.2 a1 a2 a3).bind fun t396 => (if (t396 != t383) = true then (some false) else ((laws_toAir.f k l0_0 a0_1 a0_2 l0_3 a0_4 a0_5 a0_6).bind fun bt397 => ((laws_eqAir.f k bt384.1 bt384.2.1 bt384.2.2.1 bt384.2.2.2.1 bt384.2.2.2.2.1 bt384.2.2.2.2.2.1 bt384.2.2.2.2.2.2 bt397.1 bt397.2.1 bt397.2.2.1 bt397.2.2.2.1 bt397.2.2.2.2.1 bt397.2.2.2.2.2.1 bt397.2.2.2.2.2.2).bind fun t408 => (if t408 = true then (some true) else (some false))))))))))) = some r := h
 clear h
 replace H := Option.bind_eq_some_iff.mp H
 obtain ⟨t371, A50, H⟩ := H
 replace H : (if t371 < 0 then (some true) else ((laws_toAir.f k l0_0 a0_1 a0_2 l0_3 a0_4 a0_5 a0_6).bind fun bt372 => ((spec_DeliveredInOrder.f k bt372.1 bt372.2.1 bt372.2.2.1 bt372.2.2.2.1 bt372.2.2.2.2.1 bt372.2.2.2.2.2.1 bt372.2.2.2.2.2.2 a1 a2 a3).bind fun t383 => ((laws_toAir.f k l0_0 a0_1 a0_2 l0_3 a0_4 a0_5 a0_6).bind fun bt384 => ((impl_DeliveredInOrder.f k bt384.1 bt384.2.1 bt384.2.2.1 bt384.2.2.2.1 bt384.2.2.2.2.1 bt384.2.2.2.2.2.1 bt384.2.2.2.2.2.2 a1 a2 a3).bind fun t396 => (if (t396 != t383) = true then (some false) else ((laws_toAir.f k l0_0 a0_1 a0_2 l0_3 a0_4 a0_5 a0_6).bind fun bt397 => ((laws_eqAir.f k bt384.1 bt384.2.1 bt384.2.2.1 bt384.2.2.2.1 bt384.2.2.2.2.1 bt384.2.2.2.2.2.1 bt384.2.2.2.2.2.2 bt397.1 bt397.2.1 bt397.2.2.1 bt397.2.2.2.1 bt397.2.2.2.2.1 bt397.2.2.2.2.2.1 bt397.2.2.2.2.2.2).bind fun t408 => (if t408 = true then (some true) else (some false)))))))))) = some r := H
 have A5 := Am_ A50
 clear A50
 by_cases c6 : t371 < 0
 ·rw [if_pos c6] at H
  have c6b0 : decide (t371 < 0) = true := decide_eq_true c6
  clear c6
  obtain rfl := Option.some.inj H
  go_enter Try.func8, Try.ntmps8
  go_wp2_with (first | ((with_reducible refine gate_dst (N := 4) rfl ?_); refine box_event ?hg (N := 4) ?hd (cs := #[.slice A0_0 l0_0.length c0_0, .int .i64 a0_1, .int .i64 a0_2, .slice A0_3 l0_3.length c0_3, .int .i64 a0_4, .int .i64 a0_5, .int .i64 a0_6]) (t := 27) ?hr ?_; (case hd => rfl); (case hg => rfl); (case hr => first | (go_simp; done) | (go_simp; rfl)); intro gb370 hg w7 hbox hb; have n0_ := Am_ (bT_ (by repeat (first | (with_reducible first | exact HB.1 | apply bA_ | apply bN_ | apply bD_) | exact HB.1)) hb); have n1_ := Am_ (hbox); have n2_ := Am_ ((by rw [hg]; exact (bZ_ (by repeat (first | (with_reducible first | exact HB.1 | apply bA_ | apply bN_ | apply bD_) | exact HB.1))) : w.heap.size ≤ gb370)); have n3_ := Am_ ((by rw [hg]; exact (bZ_ (by repeat (first | (with_reducible first | exact HB.1 | apply bA_ | apply bN_ | apply bD_) | exact HB.1))) : w.heap.size ≤ gb370)); clear HB; have HB := n0_; have BK370 := n1_; have GW370 := n2_; have GE370 := n3_; clear n0_ n1_ n2_ n3_ hb hbox hg; have hcz8_0 : w7.cell? ⟨gb370, 0, none⟩ = some (.slice A0_0 l0_0.length c0_0) := kC_ BK370.1 0; have hcz8_1 : w7.cell? ⟨gb370, 1, none⟩ = some (.int .i64 a0_1) := kC_ BK370.1 1; have hcz8_2 : w7.cell? ⟨gb370, 2, none⟩ = some (.int .i64 a0_2) := kC_ BK370.1 2; have hcz8_3 : w7.cell? ⟨gb370, 3, none⟩ = some (.slice A0_3 l0_3.length c0_3) := kC_ BK370.1 3; have hcz8_4 : w7.cell? ⟨gb370, 4, none⟩ = some (.int .i64 a0_4) := kC_ BK370.1 4; have hcz8_5 : w7.cell? ⟨gb370, 5, none⟩ = some (.int .i64 a0_5) := kC_ BK370.1 5; have hcz8_6 : w7.cell? ⟨gb370, 6, none⟩ = some (.int .i64 a0_6) := kC_ BK370.1 6; have hfz8_0 := kF_ BK370.1 0; have hfz8_1 := kF_ BK370.1 1; have hfz8_2 := kF_ BK370.1 2; have hfz8_3 := kF_ BK370.1 3; have hfz8_4 := kF_ BK370.1 4; have hfz8_5 := kF_ BK370.1 5; have hfz8_6 := kF_ BK370.1 6) | ((with_reducible refine gate_callee (f := 15) rfl ?_); refine goesL_ (some 15) rfl rfl Try.func15 (by kernel_rfl) rfl #[.agg #[.slice A0_0 l0_0.length c0_0, .int .i64 a0_1, .int .i64 a0_2, .slice A0_3 l0_3.length c0_3, .int .i64 a0_4, .int .i64 a0_5, .int .i64 a0_6], .int .i64 1048576] rfl (by (try simp only [List.map_toArray, List.map_cons, List.map_nil]); first | done | rfl | (simp only [List.length_drop, List.length_take]; rfl)) ?_; (with_reducible refine (laws_szAir.calls k _ _ l0_0 a0_1 a0_2 _ _ l0_3 a0_4 a0_5 a0_6 1048576 t371 _ ?side1 ?side2 ?side3 ?side4 A5.1).mono ?_); (case side1 => repeat (first | exact (Kd.C_below HR0_0.1 HB.1) | (with_reducible refine Kd.C_alloc ?_ _) | (with_reducible refine Kd.C_drewN ?_ _) | (with_reducible refine Kd.C_drew ?_))); (case side2 => exact HC0_0.1); (case side3 => repeat (first | exact (Kd.C_below HR0_3.1 HB.1) | (with_reducible refine Kd.C_alloc ?_ _) | (with_reducible refine Kd.C_drewN ?_ _) | (with_reducible refine Kd.C_drew ?_))); (case side4 => exact HC0_3.1); rintro e w9 ⟨rfl, hb⟩; refine ⟨_, rfl, ?_⟩; have n0_ := Am_ (kB_ (g := gb370) (by (with_reducible repeat (first | refine kN_ ?_ _ | refine kD_ ?_ | refine kA_ ?_ _)); exact BK370.1) hb); have n1_ := Am_ (bT_ (by repeat (first | (with_reducible first | exact HB.1 | apply bA_ | apply bN_ | apply bD_ | refine bS_ ?_ GE370.1) | exact HB.1)) hb); clear BK370 HB; have BK370 := n0_; have HB := n1_; clear n0_ n1_; (try clear hb); (try clear hb2); (try clear hk); (try clear hi)))
  go_ret
  exact ⟨by first | rfl | (simp [errW_none, errW_some] <;> rfl) | (simp [*, errW_none, errW_some] <;> rfl), by repeat (first | (with_reducible first | exact HB.1 | apply bA_ | apply bN_ | apply bD_ | refine bS_ ?_ GE370.1) | exact HB.1)⟩
 ·rw [if_neg c6] at H
  have c6b0 : decide (t371 < 0) = false := decide_eq_false c6
  clear c6
  replace H := Option.bind_eq_some_iff.mp H
  obtain ⟨⟨t372, t375, t376, t377, t380, t381, t382⟩, A100, H⟩ := H
  replace H : ((spec_DeliveredInOrder.f k t372 t375 t376 t377 t380 t381 t382 a1 a2 a3).bind fun t383 => ((laws_toAir.f k l0_0 a0_1 a0_2 l0_3 a0_4 a0_5 a0_6).bind fun bt384 => ((impl_DeliveredInOrder.f k bt384.1 bt384.2.1 bt384.2.2.1 bt384.2.2.2.1 bt384.2.2.2.2.1 bt384.2.2.2.2.2.1 bt384.2.2.2.2.2.2 a1 a2 a3).bind fun t396 => (if (t396 != t383) = true then (some false) else ((laws_toAir.f k l0_0 a0_1 a0_2 l0_3 a0_4 a0_5 a0_6).bind fun bt397 => ((laws_eqAir.f k bt384.1 bt384.2.1 bt384.2.2.1 bt384.2.2.2.1 bt384.2.2.2.2.1 bt384.2.2.2.2.2.1 bt384.2.2.2.2.2.2 bt397.1 bt397.2.1 bt397.2.2.1 bt397.2.2.2.1 bt397.2.2.2.2.1 bt397.2.2.2.2.2.1 bt397.2.2.2.2.2.2).bind fun t408 => (if t408 = true then (some true) else (some false)))))))) = some r := H
  have A10 := Am_ A100
  clear A100
  replace H := Option.bind_eq_some_iff.mp H
  obtain ⟨t383, A110, H⟩ := H
  replace H : ((laws_toAir.f k l0_0 a0_1 a0_2 l0_3 a0_4 a0_5 a0_6).bind fun bt384 => ((impl_DeliveredInOrder.f k bt384.1 bt384.2.1 bt384.2.2.1 bt384.2.2.2.1 bt384.2.2.2.2.1 bt384.2.2.2.2.2.1 bt384.2.2.2.2.2.2 a1 a2 a3).bind fun t396 => (if (t396 != t383) = true then (some false) else ((laws_toAir.f k l0_0 a0_1 a0_2 l0_3 a0_4 a0_5 a0_6).bind fun bt397 => ((laws_eqAir.f k bt384.1 bt384.2.1 bt384.2.2.1 bt384.2.2.2.1 bt384.2.2.2.2.1 bt384.2.2.2.2.2.1 bt384.2.2.2.2.2.2 bt397.1 bt397.2.1 bt397.2.2.1 bt397.2.2.2.1 bt397.2.2.2.2.1 bt397.2.2.2.2.2.1 bt397.2.2.2.2.2.2).bind fun t408 => (if t408 = true then (some true) else (some false))))))) = some r := H
  have A11 := Am_ A110
  clear A110
  replace H := Option.bind_eq_some_iff.mp H
  obtain ⟨⟨t384, t387, t388, t389, t392, t393, t394⟩, A120, H⟩ := H
  replace H : ((impl_DeliveredInOrder.f k t384 t387 t388 t389 t392 t393 t394 a1 a2 a3).bind fun t396 => (if (t396 != t383) = true then (some false) else ((laws_toAir.f k l0_0 a0_1 a0_2 l0_3 a0_4 a0_5 a0_6).bind fun bt397 => ((laws_eqAir.f k t384 t387 t388 t389 t392 t393 t394 bt397.1 bt397.2.1 bt397.2.2.1 bt397.2.2.2.1 bt397.2.2.2.2.1 bt397.2.2.2.2.2.1 bt397.2.2.2.2.2.2).bind fun t408 => (if t408 = true then (some true) else (some false)))))) = some r := H
  have A12 := Am_ A120
  clear A120
  replace H := Option.bind_eq_some_iff.mp H
  obtain ⟨t396, A130, H⟩ := H
  replace H : (if (t396 != t383) = true then (some false) else ((laws_toAir.f k l0_0 a0_1 a0_2 l0_3 a0_4 a0_5 a0_6).bind fun bt397 => ((laws_eqAir.f k t384 t387 t388 t389 t392 t393 t394 bt397.1 bt397.2.1 bt397.2.2.1 bt397.2.2.2.1 bt397.2.2.2.2.1 bt397.2.2.2.2.2.1 bt397.2.2.2.2.2.2).bind fun t408 => (if t408 = true then (some true) else (some false))))) = some r := H
  have A13 := Am_ A130
  clear A130
  by_cases c14 : (t396 != t383) = true
  ·rw [if_pos c14] at H
   have c14b0 : (t396 != t383) = true := c14
   (try (have c14b1 : decide (t396 = t383) = false := by simpa using c14))
   (try (have c14b2 : (t396 == t383) = false := by simpa using c14))
   (try (have c14b3 : ¬ (t396 = t383) := by simpa using c14))
   clear c14
   obtain rfl := Option.some.inj H
   exact absurd hT (by decide)
  ·rw [if_neg c14] at H
   have c14b0 : (t396 != t383) = false := by simpa using c14
   (try (have c14b1 : decide (t396 = t383) = true := by simpa using c14))
   (try (have c14b2 : (t396 == t383) = true := by simpa using c14))
   clear c14
   replace H := Option.bind_eq_some_iff.mp H
   obtain ⟨⟨t397, t400, t401, t402, t405, t406, t407⟩, A310, H⟩ := H
   replace H : ((laws_eqAir.f k t384 t387 t388 t389 t392 t393 t394 t397 t400 t401 t402 t405 t406 t407).bind fun t408 => (if t408 = true then (some true) else (some false))) = some r := H
   have A31 := Am_ A310
   clear A310
   replace H := Option.bind_eq_some_iff.mp H
   obtain ⟨t408, A320, H⟩ := H
   replace H : (if t408 = true then (some true) else (some false)) = some r := H
   have A32 := Am_ A320
   clear A320
   by_cases c33 : t408 = true
   ·subst c33
    have H1 : (some true) = some r := by rw [if_pos rfl] at H; exact H
    clear H
    have H := H1
    clear H1
    obtain rfl := Option.some.inj H
    go_enter Try.func8, Try.ntmps8
    try go_wp2_with (first | ((with_reducible refine gate_dst (N := 4) rfl ?_); refine box_event ?hg (N := 4) ?hd (cs := #[.slice A0_0 l0_0.length c0_0, .int .i64 a0_1, .int .i64 a0_2, .slice A0_3 l0_3.length c0_3, .int .i64 a0_4, .int .i64 a0_5, .int .i64 a0_6]) (t := 27) ?hr ?_; (case hd => rfl); (case hg => rfl); (case hr => first | (go_simp; done) | (go_simp; rfl)); intro gb370 hg w34 hbox hb; have n0_ := Am_ (bT_ (by repeat (first | (with_reducible first | exact HB.1 | apply bA_ | apply bN_ | apply bD_) | exact HB.1)) hb); have n1_ := Am_ (hbox); have n2_ := Am_ ((by rw [hg]; exact (bZ_ (by repeat (first | (with_reducible first | exact HB.1 | apply bA_ | apply bN_ | apply bD_) | exact HB.1))) : w.heap.size ≤ gb370)); have n3_ := Am_ ((by rw [hg]; exact (bZ_ (by repeat (first | (with_reducible first | exact HB.1 | apply bA_ | apply bN_ | apply bD_) | exact HB.1))) : w.heap.size ≤ gb370)); clear HB; have HB := n0_; have BK370 := n1_; have GW370 := n2_; have GE370 := n3_; clear n0_ n1_ n2_ n3_ hb hbox hg; have hcz35_0 : w34.cell? ⟨gb370, 0, none⟩ = some (.slice A0_0 l0_0.length c0_0) := kC_ BK370.1 0; have hcz35_1 : w34.cell? ⟨gb370, 1, none⟩ = some (.int .i64 a0_1) := kC_ BK370.1 1; have hcz35_2 : w34.cell? ⟨gb370, 2, none⟩ = some (.int .i64 a0_2) := kC_ BK370.1 2; have hcz35_3 : w34.cell? ⟨gb370, 3, none⟩ = some (.slice A0_3 l0_3.length c0_3) := kC_ BK370.1 3; have hcz35_4 : w34.cell? ⟨gb370, 4, none⟩ = some (.int .i64 a0_4) := kC_ BK370.1 4; have hcz35_5 : w34.cell? ⟨gb370, 5, none⟩ = some (.int .i64 a0_5) := kC_ BK370.1 5; have hcz35_6 : w34.cell? ⟨gb370, 6, none⟩ = some (.int .i64 a0_6) := kC_ BK370.1 6; have hfz35_0 := kF_ BK370.1 0; have hfz35_1 := kF_ BK370.1 1; have hfz35_2 := kF_ BK370.1 2; have hfz35_3 := kF_ BK370.1 3; have hfz35_4 := kF_ BK370.1 4; have hfz35_5 := kF_ BK370.1 5; have hfz35_6 := kF_ BK370.1 6) | ((with_reducible refine gate_callee (f := 15) rfl ?_); refine goesL_ (some 15) rfl rfl Try.func15 (by kernel_rfl) rfl #[.agg #[.slice A0_0 l0_0.length c0_0, .int .i64 a0_1, .int .i64 a0_2, .slice A0_3 l0_3.length c0_3, .int .i64 a0_4, .int .i64 a0_5, .int .i64 a0_6], .int .i64 1048576] rfl (by (try simp only [List.map_toArray, List.map_cons, List.map_nil]); first | done | rfl | (simp only [List.length_drop, List.length_take]; rfl)) ?_; (with_reducible refine (laws_szAir.calls k _ _ l0_0 a0_1 a0_2 _ _ l0_3 a0_4 a0_5 a0_6 1048576 t371 _ ?side1 ?side2 ?side3 ?side4 A5.1).mono ?_); (case side1 => repeat (first | exact (Kd.C_below HR0_0.1 HB.1) | (with_reducible refine Kd.C_alloc ?_ _) | (with_reducible refine Kd.C_drewN ?_ _) | (with_reducible refine Kd.C_drew ?_))); (case side2 => exact HC0_0.1); (case side3 => repeat (first | exact (Kd.C_below HR0_3.1 HB.1) | (with_reducible refine Kd.C_alloc ?_ _) | (with_reducible refine Kd.C_drewN ?_ _) | (with_reducible refine Kd.C_drew ?_))); (case side4 => exact HC0_3.1); rintro e w36 ⟨rfl, hb⟩; refine ⟨_, rfl, ?_⟩; have n0_ := Am_ (kB_ (g := gb370) (by (with_reducible repeat (first | refine kN_ ?_ _ | refine kD_ ?_ | refine kA_ ?_ _)); exact BK370.1) hb); have n1_ := Am_ (bT_ (by repeat (first | (with_reducible first | exact HB.1 | apply bA_ | apply bN_ | apply bD_ | refine bS_ ?_ GE370.1) | exact HB.1)) hb); clear BK370 HB; have BK370 := n0_; have HB := n1_; clear n0_ n1_; (try clear hb); (try clear hb2); (try clear hk); (try clear hi); have hcz37_0 : w36.cell? ⟨gb370, 0, none⟩ = some (.slice A0_0 l0_0.length c0_0) := kC_ BK370.1 0; have hcz37_1 : w36.cell? ⟨gb370, 1, none⟩ = some (.int .i64 a0_1) := kC_ BK370.1 1; have hcz37_2 : w36.cell? ⟨gb370, 2, none⟩ = some (.int .i64 a0_2) := kC_ BK370.1 2; have hcz37_3 : w36.cell? ⟨gb370, 3, none⟩ = some (.slice A0_3 l0_3.length c0_3) := kC_ BK370.1 3; have hcz37_4 : w36.cell? ⟨gb370, 4, none⟩ = some (.int .i64 a0_4) := kC_ BK370.1 4; have hcz37_5 : w36.cell? ⟨gb370, 5, none⟩ = some (.int .i64 a0_5) := kC_ BK370.1 5; have hcz37_6 : w36.cell? ⟨gb370, 6, none⟩ = some (.int .i64 a0_6) := kC_ BK370.1 6; have hfz37_0 := kF_ BK370.1 0; have hfz37_1 := kF_ BK370.1 1; have hfz37_2 := kF_ BK370.1 2; have hfz37_3 := kF_ BK370.1 3; have hfz37_4 := kF_ BK370.1 4; have hfz37_5 := kF_ BK370.1 5; have hfz37_6 := kF_ BK370.1 6) | ((with_reducible refine gate_callee (f := 17) rfl ?_); refine goesL_ (some 19) rfl rfl Try.func17 (by kernel_rfl) rfl #[.agg #[.slice A0_0 l0_0.length c0_0, .int .i64 a0_1, .int .i64 a0_2, .slice A0_3 l0_3.length c0_3, .int .i64 a0_4, .int .i64 a0_5, .int .i64 a0_6]] rfl (by (try simp only [List.map_toArray, List.map_cons, List.map_nil]); first | done | rfl | (simp only [List.length_drop, List.length_take]; rfl)) ?_; (with_reducible refine (laws_toAir.calls k _ _ l0_0 a0_1 a0_2 _ _ l0_3 a0_4 a0_5 a0_6 t372 t375 t376 t377 t380 t381 t382 _ ?side1 ?side2 ?side3 ?side4 A10.1).mono ?_); (case side1 => repeat (first | exact (Kd.C_below HR0_0.1 HB.1) | (with_reducible refine Kd.C_alloc ?_ _) | (with_reducible refine Kd.C_drewN ?_ _) | (with_reducible refine Kd.C_drew ?_))); (case side2 => exact HC0_0.1); (case side3 => repeat (first | exact (Kd.C_below HR0_3.1 HB.1) | (with_reducible refine Kd.C_alloc ?_ _) | (with_reducible refine Kd.C_drewN ?_ _) | (with_reducible refine Kd.C_drew ?_))); (case side4 => exact HC0_3.1); rintro e w38 ⟨v373, v378, rfl, ho0, ho1, hb⟩; refine ⟨_, rfl, ?_⟩; have n0_ := Am_ (Kd.R_lower ho0 (bZ_ (by repeat (first | (with_reducible first | exact HB.1 | apply bA_ | apply bN_ | apply bD_ | refine bS_ ?_ GE370.1) | exact HB.1)))); have n1_ := Am_ (Kd.R_lower ho1 (bZ_ (by repeat (first | (with_reducible first | exact HB.1 | apply bA_ | apply bN_ | apply bD_ | refine bS_ ?_ GE370.1) | exact HB.1)))); have n2_ := Am_ (kB_ (g := gb370) (by (with_reducible repeat (first | refine kN_ ?_ _ | refine kD_ ?_ | refine kA_ ?_ _)); exact BK370.1) hb); have n3_ := Am_ (bT_ (by repeat (first | (with_reducible first | exact HB.1 | apply bA_ | apply bN_ | apply bD_ | refine bS_ ?_ GE370.1) | exact HB.1)) hb); clear BK370 HB; have HO374 := n0_; have HO379 := n1_; have BK370 := n2_; have HB := n3_; clear n0_ n1_ n2_ n3_; (try clear hb); (try clear hb2); (try clear hk); (try clear hi); (try clear ho0); (try clear ho1); obtain ⟨Ao39, co39, eo39⟩ := Kd.R_slice HO374.1; subst eo39; obtain ⟨Ao40, co40, eo40⟩ := Kd.R_slice HO379.1; subst eo40) | ((with_reducible refine gate_callee (f := 28) rfl ?_); refine goesL_ (some 23) rfl rfl Try.func28 (by kernel_rfl) rfl #[.agg #[.slice Ao39 t372.length co39, .int .i64 t375, .int .i64 t376, .slice Ao40 t377.length co40, .int .i64 t380, .int .i64 t381, .int .i64 t382], .int .i64 a1, .int .i64 a2, .int .i64 a3] rfl (by (try simp only [List.map_toArray, List.map_cons, List.map_nil]); first | done | rfl | (simp only [List.length_drop, List.length_take]; rfl)) ?_; (with_reducible refine (spec_DeliveredInOrder.calls k _ _ t372 t375 t376 _ _ t377 t380 t381 t382 a1 a2 a3 t383 _ ?side1 ?side2 ?side3 ?side4 A11.1).mono ?_); (case side1 => repeat (first | exact (Kd.R_reads' HO374.1).2.2 | (with_reducible refine Kd.C_alloc ?_ _) | (with_reducible refine Kd.C_drewN ?_ _) | (with_reducible refine Kd.C_drew ?_))); (case side2 => exact (Kd.R_reads' HO374.1).2.1); (case side3 => repeat (first | exact (Kd.R_reads' HO379.1).2.2 | (with_reducible refine Kd.C_alloc ?_ _) | (with_reducible refine Kd.C_drewN ?_ _) | (with_reducible refine Kd.C_drew ?_))); (case side4 => exact (Kd.R_reads' HO379.1).2.1); rintro e w41 ⟨rfl, hb⟩; refine ⟨_, rfl, ?_⟩; have n0_ := Am_ (Kd.R_below (by (with_reducible repeat (first | apply rA_ | apply rN_ | apply rD_)); exact HO374.1) hb); have n1_ := Am_ (Kd.R_below (by (with_reducible repeat (first | apply rA_ | apply rN_ | apply rD_)); exact HO379.1) hb); have n2_ := Am_ (kB_ (g := gb370) (by (with_reducible repeat (first | refine kN_ ?_ _ | refine kD_ ?_ | refine kA_ ?_ _)); exact BK370.1) hb); have n3_ := Am_ (bT_ (by repeat (first | (with_reducible first | exact HB.1 | apply bA_ | apply bN_ | apply bD_ | refine bS_ ?_ GE370.1) | exact HB.1)) hb); clear HO374 HO379 BK370 HB; have HO374 := n0_; have HO379 := n1_; have BK370 := n2_; have HB := n3_; clear n0_ n1_ n2_ n3_; (try clear hb); (try clear hb2); (try clear hk); (try clear hi); have hcz42_0 : w41.cell? ⟨gb370, 0, none⟩ = some (.slice A0_0 l0_0.length c0_0) := kC_ BK370.1 0; have hcz42_1 : w41.cell? ⟨gb370, 1, none⟩ = some (.int .i64 a0_1) := kC_ BK370.1 1; have hcz42_2 : w41.cell? ⟨gb370, 2, none⟩ = some (.int .i64 a0_2) := kC_ BK370.1 2; have hcz42_3 : w41.cell? ⟨gb370, 3, none⟩ = some (.slice A0_3 l0_3.length c0_3) := kC_ BK370.1 3; have hcz42_4 : w41.cell? ⟨gb370, 4, none⟩ = some (.int .i64 a0_4) := kC_ BK370.1 4; have hcz42_5 : w41.cell? ⟨gb370, 5, none⟩ = some (.int .i64 a0_5) := kC_ BK370.1 5; have hcz42_6 : w41.cell? ⟨gb370, 6, none⟩ = some (.int .i64 a0_6) := kC_ BK370.1 6; have hfz42_0 := kF_ BK370.1 0; have hfz42_1 := kF_ BK370.1 1; have hfz42_2 := kF_ BK370.1 2; have hfz42_3 := kF_ BK370.1 3; have hfz42_4 := kF_ BK370.1 4; have hfz42_5 := kF_ BK370.1 5; have hfz42_6 := kF_ BK370.1 6) | ((with_reducible refine gate_callee (f := 17) rfl ?_); refine goesL_ (some 25) rfl rfl Try.func17 (by kernel_rfl) rfl #[.agg #[.slice A0_0 l0_0.length c0_0, .int .i64 a0_1, .int .i64 a0_2, .slice A0_3 l0_3.length c0_3, .int .i64 a0_4, .int .i64 a0_5, .int .i64 a0_6]] rfl (by (try simp only [List.map_toArray, List.map_cons, List.map_nil]); first | done | rfl | (simp only [List.length_drop, List.length_take]; rfl)) ?_; (with_reducible refine (laws_toAir.calls k _ _ l0_0 a0_1 a0_2 _ _ l0_3 a0_4 a0_5 a0_6 t384 t387 t388 t389 t392 t393 t394 _ ?side1 ?side2 ?side3 ?side4 A12.1).mono ?_); (case side1 => repeat (first | exact (Kd.C_below HR0_0.1 HB.1) | (with_reducible refine Kd.C_alloc ?_ _) | (with_reducible refine Kd.C_drewN ?_ _) | (with_reducible refine Kd.C_drew ?_))); (case side2 => exact HC0_0.1); (case side3 => repeat (first | exact (Kd.C_below HR0_3.1 HB.1) | (with_reducible refine Kd.C_alloc ?_ _) | (with_reducible refine Kd.C_drewN ?_ _) | (with_reducible refine Kd.C_drew ?_))); (case side4 => exact HC0_3.1); rintro e w43 ⟨v385, v390, rfl, ho0, ho1, hb⟩; refine ⟨_, rfl, ?_⟩; have n0_ := Am_ (Kd.R_elder' (by (with_reducible repeat (first | apply rA_ | apply rN_ | apply rD_)); exact HO374.1) (Kd.R_base ho0) hb); have n1_ := Am_ (Kd.R_elder' (by (with_reducible repeat (first | apply rA_ | apply rN_ | apply rD_)); exact HO379.1) (Kd.R_base ho1) hb); have n2_ := Am_ (Kd.R_lower (Kd.R_new' ho0 (Kd.R_lt (by (with_reducible repeat (first | apply rA_ | apply rN_ | apply rD_)); exact HO374.1))) (bZ_ (by repeat (first | (with_reducible first | exact HB.1 | apply bA_ | apply bN_ | apply bD_ | refine bS_ ?_ GE370.1) | exact HB.1)))); have n3_ := Am_ (Kd.R_lower (Kd.R_new' ho1 (Kd.R_lt (by (with_reducible repeat (first | apply rA_ | apply rN_ | apply rD_)); exact HO379.1))) (bZ_ (by repeat (first | (with_reducible first | exact HB.1 | apply bA_ | apply bN_ | apply bD_ | refine bS_ ?_ GE370.1) | exact HB.1)))); have n4_ := Am_ (kB_ (g := gb370) (by (with_reducible repeat (first | refine kN_ ?_ _ | refine kD_ ?_ | refine kA_ ?_ _)); exact BK370.1) hb); have n5_ := Am_ (bT_ (by repeat (first | (with_reducible first | exact HB.1 | apply bA_ | apply bN_ | apply bD_ | refine bS_ ?_ GE370.1) | exact HB.1)) hb); clear HO374 HO379 BK370 HB; have HO374 := n0_; have HO379 := n1_; have HO386 := n2_; have HO391 := n3_; have BK370 := n4_; have HB := n5_; clear n0_ n1_ n2_ n3_ n4_ n5_; (try clear hb); (try clear hb2); (try clear hk); (try clear hi); (try clear ho0); (try clear ho1)) | ((with_reducible refine gate_dst (N := 11) rfl ?_); refine box_event ?hg (N := 11) ?hd (cs := #[.slice none 0 0, .int .i64 0, .int .i64 0, .slice none 0 0, .int .i64 0, .int .i64 0, .int .i64 0]) (t := 33) ?hr ?_; (case hd => rfl); (case hg => rfl); (case hr => first | (go_simp; done) | (go_simp; rfl)); intro gb395 hg w44 hbox hb; have n0_ := Am_ (Kd.R_below (by (with_reducible repeat (first | apply rA_ | apply rN_ | apply rD_)); exact HO374.1) hb); have n1_ := Am_ (Kd.R_below (by (with_reducible repeat (first | apply rA_ | apply rN_ | apply rD_)); exact HO379.1) hb); have n2_ := Am_ (Kd.R_below (by (with_reducible repeat (first | apply rA_ | apply rN_ | apply rD_)); exact HO386.1) hb); have n3_ := Am_ (Kd.R_below (by (with_reducible repeat (first | apply rA_ | apply rN_ | apply rD_)); exact HO391.1) hb); have n4_ := Am_ (kB_ (g := gb370) (by (with_reducible repeat (first | refine kN_ ?_ _ | refine kD_ ?_ | refine kA_ ?_ _)); exact BK370.1) hb); have n5_ := Am_ (bT_ (by repeat (first | (with_reducible first | exact HB.1 | apply bA_ | apply bN_ | apply bD_ | refine bS_ ?_ GE370.1) | exact HB.1)) hb); have n6_ := Am_ (hbox); have n7_ := Am_ ((by rw [hg]; exact (bZ_ (by repeat (first | (with_reducible first | exact HB.1 | apply bA_ | apply bN_ | apply bD_ | refine bS_ ?_ GE370.1) | exact HB.1))) : w.heap.size ≤ gb395)); have n8_ := Am_ ((by rw [hg]; exact (bZ_ (by repeat (first | (with_reducible first | exact HB.1 | apply bA_ | apply bN_ | apply bD_ | refine bS_ ?_ GE370.1) | exact HB.1))) : w.heap.size ≤ gb395)); have n9_ := Am_ ((by rw [hg]; exact Nat.ne_of_lt (blk_lt (g := gb370) (by (with_reducible repeat (first | refine kN_ ?_ _ | refine kD_ ?_ | refine kA_ ?_ _)); exact BK370.1)) : gb370 ≠ gb395)); have n10_ := Am_ ((by rw [hg]; exact Nat.ne_of_gt (blk_lt (g := gb370) (by (with_reducible repeat (first | refine kN_ ?_ _ | refine kD_ ?_ | refine kA_ ?_ _)); exact BK370.1)) : gb395 ≠ gb370)); clear HO374 HO379 HO386 HO391 BK370 HB; have HO374 := n0_; have HO379 := n1_; have HO386 := n2_; have HO391 := n3_; have BK370 := n4_; have HB := n5_; have BK395 := n6_; have GW395 := n7_; have GE395 := n8_; have NB370_395 := n9_; have NB395_370 := n10_; clear n0_ n1_ n2_ n3_ n4_ n5_ n6_ n7_ n8_ n9_ n10_ hb hbox hg; obtain ⟨Ao45, co45, eo45⟩ := Kd.R_slice HO386.1; subst eo45; have hnb46 := NB395_370.1; have hnc46 := NB370_395.1; have hcz47_0 : w44.cell? ⟨gb395, 0, none⟩ = some (.slice none 0 0) := kC_ BK395.1 0; have hcz47_1 : w44.cell? ⟨gb395, 1, none⟩ = some (.int .i64 0) := kC_ BK395.1 1; have hcz47_2 : w44.cell? ⟨gb395, 2, none⟩ = some (.int .i64 0) := kC_ BK395.1 2; have hcz47_3 : w44.cell? ⟨gb395, 3, none⟩ = some (.slice none 0 0) := kC_ BK395.1 3; have hcz47_4 : w44.cell? ⟨gb395, 4, none⟩ = some (.int .i64 0) := kC_ BK395.1 4; have hcz47_5 : w44.cell? ⟨gb395, 5, none⟩ = some (.int .i64 0) := kC_ BK395.1 5; have hcz47_6 : w44.cell? ⟨gb395, 6, none⟩ = some (.int .i64 0) := kC_ BK395.1 6; have hfz47_0 := kF_ BK395.1 0; have hfz47_1 := kF_ BK395.1 1; have hfz47_2 := kF_ BK395.1 2; have hfz47_3 := kF_ BK395.1 3; have hfz47_4 := kF_ BK395.1 4; have hfz47_5 := kF_ BK395.1 5; have hfz47_6 := kF_ BK395.1 6; obtain ⟨Ao48, co48, eo48⟩ := Kd.R_slice HO391.1; subst eo48) | ((with_reducible refine gate_callee (f := 29) rfl ?_); refine goesL_ (some 30) rfl rfl Try.func29 (by kernel_rfl) rfl #[.agg #[.slice Ao45 t384.length co45, .int .i64 t387, .int .i64 t388, .slice Ao48 t389.length co48, .int .i64 t392, .int .i64 t393, .int .i64 t394], .int .i64 a1, .int .i64 a2, .int .i64 a3] rfl (by (try simp only [List.map_toArray, List.map_cons, List.map_nil]); first | done | rfl | (simp only [List.length_drop, List.length_take]; rfl)) ?_; (with_reducible refine (impl_DeliveredInOrder.calls k _ _ t384 t387 t388 _ _ t389 t392 t393 t394 a1 a2 a3 t396 _ ?side1 ?side2 ?side3 ?side4 A13.1).mono ?_); (case side1 => refine (Kd.R_reads' (e := 3) (base := w.heap.size) (ok := fun k_ => (True ∧ some k_ ≠ (.slice Ao39 t372.length co39 : Value).ownBlock)) (n := t384.length) (c := co45) ?_).2.2; exact (by (with_reducible repeat (first | apply rA_ | apply rN_ | apply rD_)); exact (Kd.R_mono (rF_ (p := ⟨gb395, 6, none⟩) (rF_ (p := ⟨gb395, 5, none⟩) (rF_ (p := ⟨gb395, 4, none⟩) (rF_ (p := ⟨gb395, 3, none⟩) (rF_ (p := ⟨gb395, 2, none⟩) (rF_ (p := ⟨gb395, 1, none⟩) (rF_ (p := ⟨gb395, 0, none⟩) (Kd.R_types HO386.1 BK395.1 (by decide)) (fun _ hk => hk.2) (.slice Ao45 t384.length co45)) (fun _ hk => hk.2) (.int .i64 t387)) (fun _ hk => hk.2) (.int .i64 t388)) (fun _ hk => hk.2) (.slice Ao48 t389.length co48)) (fun _ hk => hk.2) (.int .i64 t392)) (fun _ hk => hk.2) (.int .i64 t393)) (fun _ hk => hk.2) (.int .i64 t394)) (fun _ h_ => h_.1)))); (case side2 => exact (Kd.R_reads' HO386.1).2.1); (case side3 => refine (Kd.R_reads' (e := 97) (base := w.heap.size) (ok := fun k_ => (True ∧ some k_ ≠ (.slice Ao40 t377.length co40 : Value).ownBlock)) (n := t389.length) (c := co48) ?_).2.2; exact (by (with_reducible repeat (first | apply rA_ | apply rN_ | apply rD_)); exact (Kd.R_mono (rF_ (p := ⟨gb395, 6, none⟩) (rF_ (p := ⟨gb395, 5, none⟩) (rF_ (p := ⟨gb395, 4, none⟩) (rF_ (p := ⟨gb395, 3, none⟩) (rF_ (p := ⟨gb395, 2, none⟩) (rF_ (p := ⟨gb395, 1, none⟩) (rF_ (p := ⟨gb395, 0, none⟩) (Kd.R_types HO391.1 BK395.1 (by decide)) (fun _ hk => hk.2) (.slice Ao45 t384.length co45)) (fun _ hk => hk.2) (.int .i64 t387)) (fun _ hk => hk.2) (.int .i64 t388)) (fun _ hk => hk.2) (.slice Ao48 t389.length co48)) (fun _ hk => hk.2) (.int .i64 t392)) (fun _ hk => hk.2) (.int .i64 t393)) (fun _ hk => hk.2) (.int .i64 t394)) (fun _ h_ => h_.1)))); (case side4 => exact (Kd.R_reads' HO391.1).2.1); rintro e w49 ⟨rfl, hb⟩; refine ⟨_, rfl, ?_⟩; have n0_ := Am_ (Kd.R_below (by (with_reducible repeat (first | apply rA_ | apply rN_ | apply rD_)); exact (Kd.R_mono (rF_ (p := ⟨gb395, 6, none⟩) (rF_ (p := ⟨gb395, 5, none⟩) (rF_ (p := ⟨gb395, 4, none⟩) (rF_ (p := ⟨gb395, 3, none⟩) (rF_ (p := ⟨gb395, 2, none⟩) (rF_ (p := ⟨gb395, 1, none⟩) (rF_ (p := ⟨gb395, 0, none⟩) (Kd.R_types HO374.1 BK395.1 (by decide)) (fun _ hk => hk.2) (.slice Ao45 t384.length co45)) (fun _ hk => hk.2) (.int .i64 t387)) (fun _ hk => hk.2) (.int .i64 t388)) (fun _ hk => hk.2) (.slice Ao48 t389.length co48)) (fun _ hk => hk.2) (.int .i64 t392)) (fun _ hk => hk.2) (.int .i64 t393)) (fun _ hk => hk.2) (.int .i64 t394)) (fun _ h_ => h_.1))) hb); have n1_ := Am_ (Kd.R_below (by (with_reducible repeat (first | apply rA_ | apply rN_ | apply rD_)); exact (Kd.R_mono (rF_ (p := ⟨gb395, 6, none⟩) (rF_ (p := ⟨gb395, 5, none⟩) (rF_ (p := ⟨gb395, 4, none⟩) (rF_ (p := ⟨gb395, 3, none⟩) (rF_ (p := ⟨gb395, 2, none⟩) (rF_ (p := ⟨gb395, 1, none⟩) (rF_ (p := ⟨gb395, 0, none⟩) (Kd.R_types HO379.1 BK395.1 (by decide)) (fun _ hk => hk.2) (.slice Ao45 t384.length co45)) (fun _ hk => hk.2) (.int .i64 t387)) (fun _ hk => hk.2) (.int .i64 t388)) (fun _ hk => hk.2) (.slice Ao48 t389.length co48)) (fun _ hk => hk.2) (.int .i64 t392)) (fun _ hk => hk.2) (.int .i64 t393)) (fun _ hk => hk.2) (.int .i64 t394)) (fun _ h_ => h_.1))) hb); have n2_ := Am_ (Kd.R_below (by (with_reducible repeat (first | apply rA_ | apply rN_ | apply rD_)); exact (Kd.R_mono (rF_ (p := ⟨gb395, 6, none⟩) (rF_ (p := ⟨gb395, 5, none⟩) (rF_ (p := ⟨gb395, 4, none⟩) (rF_ (p := ⟨gb395, 3, none⟩) (rF_ (p := ⟨gb395, 2, none⟩) (rF_ (p := ⟨gb395, 1, none⟩) (rF_ (p := ⟨gb395, 0, none⟩) (Kd.R_types HO386.1 BK395.1 (by decide)) (fun _ hk => hk.2) (.slice Ao45 t384.length co45)) (fun _ hk => hk.2) (.int .i64 t387)) (fun _ hk => hk.2) (.int .i64 t388)) (fun _ hk => hk.2) (.slice Ao48 t389.length co48)) (fun _ hk => hk.2) (.int .i64 t392)) (fun _ hk => hk.2) (.int .i64 t393)) (fun _ hk => hk.2) (.int .i64 t394)) (fun _ h_ => h_.1))) hb); have n3_ := Am_ (Kd.R_below (by (with_reducible repeat (first | apply rA_ | apply rN_ | apply rD_)); exact (Kd.R_mono (rF_ (p := ⟨gb395, 6, none⟩) (rF_ (p := ⟨gb395, 5, none⟩) (rF_ (p := ⟨gb395, 4, none⟩) (rF_ (p := ⟨gb395, 3, none⟩) (rF_ (p := ⟨gb395, 2, none⟩) (rF_ (p := ⟨gb395, 1, none⟩) (rF_ (p := ⟨gb395, 0, none⟩) (Kd.R_types HO391.1 BK395.1 (by decide)) (fun _ hk => hk.2) (.slice Ao45 t384.length co45)) (fun _ hk => hk.2) (.int .i64 t387)) (fun _ hk => hk.2) (.int .i64 t388)) (fun _ hk => hk.2) (.slice Ao48 t389.length co48)) (fun _ hk => hk.2) (.int .i64 t392)) (fun _ hk => hk.2) (.int .i64 t393)) (fun _ hk => hk.2) (.int .i64 t394)) (fun _ h_ => h_.1))) hb); have n4_ := Am_ (kB_ (g := gb370) (o := .cells #[.slice A0_0 l0_0.length c0_0, .int .i64 a0_1, .int .i64 a0_2, .slice A0_3 l0_3.length c0_3, .int .i64 a0_4, .int .i64 a0_5, .int .i64 a0_6] 27 (0, 0)) (by (with_reducible repeat (first | refine kN_ ?_ _ | refine kD_ ?_ | refine kA_ ?_ _)); refine blk_far ?_ NB370_395.1 _; (with_reducible repeat (first | refine kN_ ?_ _ | refine kD_ ?_ | refine kA_ ?_ _)); refine blk_far ?_ NB370_395.1 _; (with_reducible repeat (first | refine kN_ ?_ _ | refine kD_ ?_ | refine kA_ ?_ _)); refine blk_far ?_ NB370_395.1 _; (with_reducible repeat (first | refine kN_ ?_ _ | refine kD_ ?_ | refine kA_ ?_ _)); refine blk_far ?_ NB370_395.1 _; (with_reducible repeat (first | refine kN_ ?_ _ | refine kD_ ?_ | refine kA_ ?_ _)); refine blk_far ?_ NB370_395.1 _; (with_reducible repeat (first | refine kN_ ?_ _ | refine kD_ ?_ | refine kA_ ?_ _)); refine blk_far ?_ NB370_395.1 _; (with_reducible repeat (first | refine kN_ ?_ _ | refine kD_ ?_ | refine kA_ ?_ _)); refine blk_far ?_ NB370_395.1 _; (with_reducible repeat (first | refine kN_ ?_ _ | refine kD_ ?_ | refine kA_ ?_ _)); exact BK370.1) hb); have n5_ := Am_ (kB_ (g := gb395) (o := .cells #[.slice Ao45 t384.length co45, .int .i64 t387, .int .i64 t388, .slice Ao48 t389.length co48, .int .i64 t392, .int .i64 t393, .int .i64 t394] 33 (0, 0)) (by (with_reducible repeat (first | refine kN_ ?_ _ | refine kD_ ?_ | refine kA_ ?_ _)); refine blk_put (cs := #[.slice Ao45 t384.length co45, .int .i64 t387, .int .i64 t388, .slice Ao48 t389.length co48, .int .i64 t392, .int .i64 t393, .int .i64 0]) ?_ 6 _ rfl; (with_reducible repeat (first | refine kN_ ?_ _ | refine kD_ ?_ | refine kA_ ?_ _)); refine blk_put (cs := #[.slice Ao45 t384.length co45, .int .i64 t387, .int .i64 t388, .slice Ao48 t389.length co48, .int .i64 t392, .int .i64 0, .int .i64 0]) ?_ 5 _ rfl; (with_reducible repeat (first | refine kN_ ?_ _ | refine kD_ ?_ | refine kA_ ?_ _)); refine blk_put (cs := #[.slice Ao45 t384.length co45, .int .i64 t387, .int .i64 t388, .slice Ao48 t389.length co48, .int .i64 0, .int .i64 0, .int .i64 0]) ?_ 4 _ rfl; (with_reducible repeat (first | refine kN_ ?_ _ | refine kD_ ?_ | refine kA_ ?_ _)); refine blk_put (cs := #[.slice Ao45 t384.length co45, .int .i64 t387, .int .i64 t388, .slice none 0 0, .int .i64 0, .int .i64 0, .int .i64 0]) ?_ 3 _ rfl; (with_reducible repeat (first | refine kN_ ?_ _ | refine kD_ ?_ | refine kA_ ?_ _)); refine blk_put (cs := #[.slice Ao45 t384.length co45, .int .i64 t387, .int .i64 0, .slice none 0 0, .int .i64 0, .int .i64 0, .int .i64 0]) ?_ 2 _ rfl; (with_reducible repeat (first | refine kN_ ?_ _ | refine kD_ ?_ | refine kA_ ?_ _)); refine blk_put (cs := #[.slice Ao45 t384.length co45, .int .i64 0, .int .i64 0, .slice none 0 0, .int .i64 0, .int .i64 0, .int .i64 0]) ?_ 1 _ rfl; (with_reducible repeat (first | refine kN_ ?_ _ | refine kD_ ?_ | refine kA_ ?_ _)); refine blk_put (cs := #[.slice none 0 0, .int .i64 0, .int .i64 0, .slice none 0 0, .int .i64 0, .int .i64 0, .int .i64 0]) ?_ 0 _ rfl; (with_reducible repeat (first | refine kN_ ?_ _ | refine kD_ ?_ | refine kA_ ?_ _)); exact BK395.1) hb); have n6_ := Am_ (bT_ (by repeat (first | (with_reducible first | exact HB.1 | apply bA_ | apply bN_ | apply bD_ | refine bS_ ?_ GE370.1 | refine bS_ ?_ GE395.1) | exact HB.1)) hb); clear HO374 HO379 HO386 HO391 BK370 BK395 HB; have HO374 := n0_; have HO379 := n1_; have HO386 := n2_; have HO391 := n3_; have BK370 := n4_; have BK395 := n5_; have HB := n6_; clear n0_ n1_ n2_ n3_ n4_ n5_ n6_; (try clear hb); (try clear hb2); (try clear hk); (try clear hi)))
    have n0_ := Am_ (rD_ HO374.1)
    have n1_ := Am_ (rD_ HO379.1)
    have n2_ := Am_ (rD_ HO386.1)
    have n3_ := Am_ (rD_ HO391.1)
    have n4_ := Am_ (kD_ BK370.1)
    have n5_ := Am_ (kD_ BK395.1)
    have n6_ := Am_ (bD_ HB.1)
    clear HO374
    clear HO379
    clear HO386
    clear HO391
    clear BK370
    clear BK395
    clear HB
    have HO374 := n0_
    have HO379 := n1_
    have HO386 := n2_
    have HO391 := n3_
    have BK370 := n4_
    have BK395 := n5_
    have HB := n6_
    clear n0_ n1_ n2_ n3_ n4_ n5_ n6_
    refine start_ (n := 5) (S := fun w' => w'.cell? ⟨gb395, 0, none⟩ = some (.slice Ao45 t384.length co45) ∧ w'.cell? ⟨gb395, 1, none⟩ = some (.int .i64 t387) ∧ w'.cell? ⟨gb395, 2, none⟩ = some (.int .i64 t388) ∧ w'.cell? ⟨gb395, 3, none⟩ = some (.slice Ao48 t389.length co48) ∧ w'.cell? ⟨gb395, 4, none⟩ = some (.int .i64 t392) ∧ w'.cell? ⟨gb395, 5, none⟩ = some (.int .i64 t393) ∧ w'.cell? ⟨gb395, 6, none⟩ = some (.int .i64 t394) ∧ w'.cell? ⟨gb370, 0, none⟩ = some (.slice A0_0 l0_0.length c0_0) ∧ w'.cell? ⟨gb370, 1, none⟩ = some (.int .i64 a0_1) ∧ w'.cell? ⟨gb370, 2, none⟩ = some (.int .i64 a0_2) ∧ w'.cell? ⟨gb370, 3, none⟩ = some (.slice A0_3 l0_3.length c0_3) ∧ w'.cell? ⟨gb370, 4, none⟩ = some (.int .i64 a0_4) ∧ w'.cell? ⟨gb370, 5, none⟩ = some (.int .i64 a0_5) ∧ w'.cell? ⟨gb370, 6, none⟩ = some (.int .i64 a0_6)) (ds := []) #[false, false, false, false, false] (by kernel_rfl) rfl rfl ⟨kC_ BK395.1 0, kC_ BK395.1 1, kC_ BK395.1 2, kC_ BK395.1 3, kC_ BK395.1 4, kC_ BK395.1 5, kC_ BK395.1 6, kC_ BK370.1 0, kC_ BK370.1 1, kC_ BK370.1 2, kC_ BK370.1 3, kC_ BK370.1 4, kC_ BK370.1 5, kC_ BK370.1 6⟩ (fun hHeld => ?_)
    generalize w49.drew = w50 at HO374 HO379 HO386 HO391 BK370 BK395 HB hHeld ⊢
    refine take_ (i := 0) (N := some 34) (v := ?_) (a' := ?_) #[true, false, false, false, false] rfl rfl (by kernel_rfl) (fun _ _ _ h => h) (Or.inl ⟨by rfl, ?_⟩) hHeld ?_ ?_
    rotate_left
    ·rintro w' ⟨s0, s1, s2, s3, s4, s5, s6, s7, s8, s9, s10, s11, s12, s13⟩
     go_simp
     with_reducible rfl
    rotate_left
    ·simp only [Act.put, List.setIfInBounds_toArray, List.set_cons_zero, List.set_cons_succ, i64_w, i32_w]
     rfl
    refine take_ (i := 1) (N := some 35) (v := ?_) (a' := ?_) #[true, true, false, false, false] rfl rfl (by kernel_rfl) (fun _ _ _ h => h) (Or.inl ⟨by rfl, ?_⟩) hHeld ?_ ?_
    rotate_left
    ·rintro w' ⟨s0, s1, s2, s3, s4, s5, s6, s7, s8, s9, s10, s11, s12, s13⟩
     go_simp
     with_reducible rfl
    rotate_left
    ·simp only [Act.put, List.setIfInBounds_toArray, List.set_cons_zero, List.set_cons_succ, i64_w, i32_w]
     rfl
    refine one_ (i := 2) (N := some 36) #[true, true, true, false, false] rfl rfl (by kernel_rfl) (by decide) (fun K hK => ?_)
    refine goes_ Try.func17 (by kernel_rfl) rfl #[.agg #[.slice A0_0 l0_0.length c0_0, .int .i64 a0_1, .int .i64 a0_2, .slice A0_3 l0_3.length c0_3, .int .i64 a0_4, .int .i64 a0_5, .int .i64 a0_6]] (by rfl) rfl rfl (by (try simp only [List.map_toArray, List.map_cons, List.map_nil]); first | done | rfl | (simp only [List.length_drop, List.length_take]; rfl)) ?_
    with_reducible refine (laws_toAir.calls k _ _ l0_0 a0_1 a0_2 _ _ l0_3 a0_4 a0_5 a0_6 t397 t400 t401 t402 t405 t406 t407 _ ?side1 ?side2 ?side3 ?side4 A31.1).mono ?_
    (case side1 => repeat (first | exact (Kd.C_below HR0_0.1 HB.1) | (with_reducible refine Kd.C_alloc ?_ _) | (with_reducible refine Kd.C_drewN ?_ _) | (with_reducible refine Kd.C_drew ?_)))
    (case side2 => exact HC0_0.1)
    (case side3 => repeat (first | exact (Kd.C_below HR0_3.1 HB.1) | (with_reducible refine Kd.C_alloc ?_ _) | (with_reducible refine Kd.C_drewN ?_ _) | (with_reducible refine Kd.C_drew ?_)))
    (case side4 => exact HC0_3.1)
    rintro e w51 ⟨v398, v403, rfl, ho0, ho1, hb⟩
    refine ⟨_, rfl, ?_⟩
    have n0_ := Am_ (Kd.R_elder' (by (with_reducible repeat (first | apply rA_ | apply rN_ | apply rD_)); exact HO374.1) (Kd.R_base ho0) hb)
    have n1_ := Am_ (Kd.R_elder' (by (with_reducible repeat (first | apply rA_ | apply rN_ | apply rD_)); exact HO379.1) (Kd.R_base ho1) hb)
    have n2_ := Am_ (Kd.R_elder' (by (with_reducible repeat (first | apply rA_ | apply rN_ | apply rD_)); exact HO386.1) (Kd.R_base ho0) hb)
    have n3_ := Am_ (Kd.R_elder' (by (with_reducible repeat (first | apply rA_ | apply rN_ | apply rD_)); exact HO391.1) (Kd.R_base ho1) hb)
    have n4_ := Am_ (Kd.R_lower (Kd.R_new' (Kd.R_new' ho0 (Kd.R_lt (by (with_reducible repeat (first | apply rA_ | apply rN_ | apply rD_)); exact HO374.1))) (Kd.R_lt (by (with_reducible repeat (first | apply rA_ | apply rN_ | apply rD_)); exact HO386.1))) (bZ_ (by repeat (first | (with_reducible first | exact HB.1 | apply bA_ | apply bN_ | apply bD_ | refine bS_ ?_ GE370.1 | refine bS_ ?_ GE395.1) | exact HB.1))))
    have n5_ := Am_ (Kd.R_lower (Kd.R_new' (Kd.R_new' ho1 (Kd.R_lt (by (with_reducible repeat (first | apply rA_ | apply rN_ | apply rD_)); exact HO379.1))) (Kd.R_lt (by (with_reducible repeat (first | apply rA_ | apply rN_ | apply rD_)); exact HO391.1))) (bZ_ (by repeat (first | (with_reducible first | exact HB.1 | apply bA_ | apply bN_ | apply bD_ | refine bS_ ?_ GE370.1 | refine bS_ ?_ GE395.1) | exact HB.1))))
    have n6_ := Am_ (kB_ (g := gb370) (by (with_reducible repeat (first | refine kN_ ?_ _ | refine kD_ ?_ | refine kA_ ?_ _)); exact BK370.1) hb)
    have n7_ := Am_ (kB_ (g := gb395) (by (with_reducible repeat (first | refine kN_ ?_ _ | refine kD_ ?_ | refine kA_ ?_ _)); exact BK395.1) hb)
    have n8_ := Am_ (bT_ (by repeat (first | (with_reducible first | exact HB.1 | apply bA_ | apply bN_ | apply bD_ | refine bS_ ?_ GE370.1 | refine bS_ ?_ GE395.1) | exact HB.1)) hb)
    clear HO374
    clear HO379
    clear HO386
    clear HO391
    clear BK370
    clear BK395
    clear HB
    have HO374 := n0_
    have HO379 := n1_
    have HO386 := n2_
    have HO391 := n3_
    have HO399 := n4_
    have HO404 := n5_
    have BK370 := n6_
    have BK395 := n7_
    have HB := n8_
    clear n0_ n1_ n2_ n3_ n4_ n5_ n6_ n7_ n8_
    (try clear hb)
    (try clear hb2)
    (try clear hk)
    (try clear hi)
    (try clear ho0)
    (try clear ho1)
    obtain ⟨Ao52, co52, eo52⟩ := Kd.R_slice HO399.1
    (first | subst eo52 | (injection eo52 with f1_ f2_ f3_; have f4_ := f1_.symm; have f5_ := f3_.symm; clear f1_ f2_ f3_; subst f4_; subst f5_))
    obtain ⟨Ao53, co53, eo53⟩ := Kd.R_slice HO404.1
    (first | subst eo53 | (injection eo53 with f1_ f2_ f3_; have f4_ := f1_.symm; have f5_ := f3_.symm; clear f1_ f2_ f3_; subst f4_; subst f5_))
    refine hK.out _ _ ⟨kC_ BK395.1 0, kC_ BK395.1 1, kC_ BK395.1 2, kC_ BK395.1 3, kC_ BK395.1 4, kC_ BK395.1 5, kC_ BK395.1 6, kC_ BK370.1 0, kC_ BK370.1 1, kC_ BK370.1 2, kC_ BK370.1 3, kC_ BK370.1 4, kC_ BK370.1 5, kC_ BK370.1 6⟩ (fun hHeld => ?_)
    clear hK K
    refine norm_ (a' := ?_) ?_ ?_
    rotate_left
    ·show Act.put _ (some 36) _ = _
     simp only [Act.put, List.setIfInBounds_toArray, List.set_cons_zero, List.set_cons_succ, i64_w, i32_w]
     rfl
    refine one_ (i := 3) (N := some 37) #[true, true, true, true, false] rfl rfl (by kernel_rfl) (by decide) (fun K hK => ?_)
    refine goes_ Try.func19 (by kernel_rfl) rfl #[.agg #[.slice Ao45 t384.length co45, .int .i64 t387, .int .i64 t388, .slice Ao48 t389.length co48, .int .i64 t392, .int .i64 t393, .int .i64 t394], .agg #[.slice Ao52 t397.length co52, .int .i64 t400, .int .i64 t401, .slice Ao53 t402.length co53, .int .i64 t405, .int .i64 t406, .int .i64 t407]] (by rfl) rfl rfl (by (try simp only [List.map_toArray, List.map_cons, List.map_nil]); first | done | rfl | (simp only [List.length_drop, List.length_take]; rfl)) ?_
    with_reducible refine (laws_eqAir.calls k _ _ t384 t387 t388 _ _ t389 t392 t393 t394 _ _ t397 t400 t401 _ _ t402 t405 t406 t407 true _ ?side1 ?side2 ?side3 ?side4 ?side5 ?side6 ?side7 ?side8 A32.1).mono ?_
    (case side1 => repeat (first | exact (Kd.R_reads' HO386.1).2.2 | (with_reducible refine Kd.C_alloc ?_ _) | (with_reducible refine Kd.C_drewN ?_ _) | (with_reducible refine Kd.C_drew ?_)))
    (case side2 => exact (Kd.R_reads' HO386.1).2.1)
    (case side3 => repeat (first | exact (Kd.R_reads' HO391.1).2.2 | (with_reducible refine Kd.C_alloc ?_ _) | (with_reducible refine Kd.C_drewN ?_ _) | (with_reducible refine Kd.C_drew ?_)))
    (case side4 => exact (Kd.R_reads' HO391.1).2.1)
    (case side5 => repeat (first | exact (Kd.R_reads' HO399.1).2.2 | (with_reducible refine Kd.C_alloc ?_ _) | (with_reducible refine Kd.C_drewN ?_ _) | (with_reducible refine Kd.C_drew ?_)))
    (case side6 => exact (Kd.R_reads' HO399.1).2.1)
    (case side7 => repeat (first | exact (Kd.R_reads' HO404.1).2.2 | (with_reducible refine Kd.C_alloc ?_ _) | (with_reducible refine Kd.C_drewN ?_ _) | (with_reducible refine Kd.C_drew ?_)))
    (case side8 => exact (Kd.R_reads' HO404.1).2.1)
    rintro e w54 ⟨rfl, hb⟩
    refine ⟨_, rfl, ?_⟩
    have n0_ := Am_ (Kd.R_below (by (with_reducible repeat (first | apply rA_ | apply rN_ | apply rD_)); exact HO374.1) hb)
    have n1_ := Am_ (Kd.R_below (by (with_reducible repeat (first | apply rA_ | apply rN_ | apply rD_)); exact HO379.1) hb)
    have n2_ := Am_ (Kd.R_below (by (with_reducible repeat (first | apply rA_ | apply rN_ | apply rD_)); exact HO386.1) hb)
    have n3_ := Am_ (Kd.R_below (by (with_reducible repeat (first | apply rA_ | apply rN_ | apply rD_)); exact HO391.1) hb)
    have n4_ := Am_ (Kd.R_below (by (with_reducible repeat (first | apply rA_ | apply rN_ | apply rD_)); exact HO399.1) hb)
    have n5_ := Am_ (Kd.R_below (by (with_reducible repeat (first | apply rA_ | apply rN_ | apply rD_)); exact HO404.1) hb)
    have n6_ := Am_ (kB_ (g := gb370) (by (with_reducible repeat (first | refine kN_ ?_ _ | refine kD_ ?_ | refine kA_ ?_ _)); exact BK370.1) hb)
    have n7_ := Am_ (kB_ (g := gb395) (by (with_reducible repeat (first | refine kN_ ?_ _ | refine kD_ ?_ | refine kA_ ?_ _)); exact BK395.1) hb)
    have n8_ := Am_ (bT_ (by repeat (first | (with_reducible first | exact HB.1 | apply bA_ | apply bN_ | apply bD_ | refine bS_ ?_ GE370.1 | refine bS_ ?_ GE395.1) | exact HB.1)) hb)
    clear HO374
    clear HO379
    clear HO386
    clear HO391
    clear HO399
    clear HO404
    clear BK370
    clear BK395
    clear HB
    have HO374 := n0_
    have HO379 := n1_
    have HO386 := n2_
    have HO391 := n3_
    have HO399 := n4_
    have HO404 := n5_
    have BK370 := n6_
    have BK395 := n7_
    have HB := n8_
    clear n0_ n1_ n2_ n3_ n4_ n5_ n6_ n7_ n8_
    (try clear hb)
    (try clear hb2)
    (try clear hk)
    (try clear hi)
    refine hK.out _ _ ⟨kC_ BK395.1 0, kC_ BK395.1 1, kC_ BK395.1 2, kC_ BK395.1 3, kC_ BK395.1 4, kC_ BK395.1 5, kC_ BK395.1 6, kC_ BK370.1 0, kC_ BK370.1 1, kC_ BK370.1 2, kC_ BK370.1 3, kC_ BK370.1 4, kC_ BK370.1 5, kC_ BK370.1 6⟩ (fun hHeld => ?_)
    clear hK K
    refine norm_ (a' := ?_) ?_ ?_
    rotate_left
    ·show Act.put _ (some 37) _ = _
     simp only [Act.put, List.setIfInBounds_toArray, List.set_cons_zero, List.set_cons_succ, i64_w, i32_w]
     rfl
    refine pure_ (i := 4) (N := some 38) (v := ?_) (a' := ?_) #[true, true, true, true, true] rfl rfl (by kernel_rfl) (fun _ _ _ h => h) (Or.inl ⟨by rfl, ?_⟩) ?_ ?_
    rotate_left
    ·intro w'
     go_simp
     with_reducible rfl
    rotate_left
    ·simp only [Act.put, List.setIfInBounds_toArray, List.set_cons_zero, List.set_cons_succ, i64_w, i32_w]
     rfl
    refine done_ (by kernel_rfl) ?_
    try go_wp2
    go_ret
    exact ⟨by first | rfl | (simp [errW_none, errW_some] <;> rfl) | (simp [*, errW_none, errW_some] <;> rfl), by repeat (first | (with_reducible first | exact HB.1 | apply bA_ | apply bN_ | apply bD_ | refine bS_ ?_ GE370.1 | refine bS_ ?_ GE395.1) | exact HB.1)⟩
   ·replace c33 := Bool.eq_false_iff.mpr c33
    subst c33
    have H1 : (some false) = some r := by rw [if_neg (show ¬ (false = true) by decide)] at H; exact H
    clear H
    have H := H1
    clear H1
    obtain rfl := Option.some.inj H
    exact absurd hT (by decide)

end Go.Proofs.Ytlkofdedkfmaeaa.XFnExactDeliveredInOrder
