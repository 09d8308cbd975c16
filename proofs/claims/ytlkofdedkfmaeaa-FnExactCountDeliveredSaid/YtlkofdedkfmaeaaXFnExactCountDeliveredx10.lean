/- The functions that the law reaches as plain Lean functions, and of each a proof that its call computes it. Conditions: those that each theorem names. -/
import Derived.Test.YtlkofdedkfmaeaaWS
import Derived.Test.YtlkofdedkfmaeaaXFnExactCountDeliveredx0
import Derived.Test.YtlkofdedkfmaeaaXFnExactCountDeliveredx2
import Derived.Test.YtlkofdedkfmaeaaXFnExactCountDeliveredx3
import Derived.Test.YtlkofdedkfmaeaaXFnExactCountDeliveredx8
import Derived.Test.YtlkofdedkfmaeaaXFnExactCountDeliveredx9
namespace Go.Proofs.Ytlkofdedkfmaeaa.XFnExactCountDelivered
open Go.RowKit Go.Proofs.YtlkofdedkfmaeaaW.PrintWords Go.Proofs.YtlkofdedkfmaeaaW.PrintLast Go.Proofs.YtlkofdedkfmaeaaW.PrintMore Go.Proofs.Ytlkofdedkfmaeaa.X
attribute [local go_sem] max2_int min2_int max_two min_two max_three min_three max_four min_four   -- for this text's walks alone
set_option linter.unusedVariables false
set_option linter.unusedSimpArgs false

/-! ### laws_FnExactCountDelivered: function 6 -/
def laws_FnExactCountDelivered.f (k : Nat) (l0_0 : List Int) (a0_1 : Int) (a0_2 : Int) (l0_3 : List (S136)) (a0_4 : Int) (a0_5 : Int) (a0_6 : Int) (a1 : Int) (a2 : Int) : Option (Bool) := (laws_szAir.f k l0_0 a0_1 a0_2 l0_3 a0_4 a0_5 a0_6 1048576).bind fun t368 => (if t368 < 0 then (some true) else ((laws_toAir.f k l0_0 a0_1 a0_2 l0_3 a0_4 a0_5 a0_6).bind fun bt369 => ((spec_CountDelivered.f k bt369.1 bt369.2.1 bt369.2.2.1 bt369.2.2.2.1 bt369.2.2.2.2.1 bt369.2.2.2.2.2.1 bt369.2.2.2.2.2.2 a1 a2).bind fun t380 => ((laws_toAir.f k l0_0 a0_1 a0_2 l0_3 a0_4 a0_5 a0_6).bind fun bt381 => ((impl_CountDelivered.f k bt381.1 bt381.2.1 bt381.2.2.1 bt381.2.2.2.1 bt381.2.2.2.2.1 bt381.2.2.2.2.2.1 bt381.2.2.2.2.2.2 a1 a2).bind fun t393 => (if t393 = t380 then ((laws_toAir.f k l0_0 a0_1 a0_2 l0_3 a0_4 a0_5 a0_6).bind fun bt394 => ((laws_eqAir.f k bt381.1 bt381.2.1 bt381.2.2.1 bt381.2.2.2.1 bt381.2.2.2.2.1 bt381.2.2.2.2.2.1 bt381.2.2.2.2.2.2 bt394.1 bt394.2.1 bt394.2.2.1 bt394.2.2.2.1 bt394.2.2.2.2.1 bt394.2.2.2.2.2.1 bt394.2.2.2.2.2.2).bind fun t405 => (if t405 = true then (some true) else (some false)))) else (some false)))))))
theorem laws_FnExactCountDelivered.mono : ∀ a0 a1 a2 a3 a4 a5 a6 a7 a8 k, LeO (laws_FnExactCountDelivered.f k a0 a1 a2 a3 a4 a5 a6 a7 a8) (laws_FnExactCountDelivered.f (k + 1) a0 a1 a2 a3 a4 a5 a6 a7 a8) := by
 intro a0 a1 a2 a3 a4 a5 a6 a7 a8 k
 unfold laws_FnExactCountDelivered.f
 repeat' first
   | (with_reducible exact impl_CountDelivered.mono _ _ _ _ _ _ _ _ _ _)
   | (with_reducible exact laws_eqAir.mono _ _ _ _ _ _ _ _ _ _ _ _ _ _ _)
   | (with_reducible exact laws_szAir.mono _ _ _ _ _ _ _ _ _)
   | (with_reducible exact laws_toAir.mono _ _ _ _ _ _ _ _)
   | (with_reducible exact spec_CountDelivered.mono _ _ _ _ _ _ _ _ _ _)
   | (with_reducible exact LeO.refl _)
   | (with_reducible exact LeO.none _)
   | (with_reducible refine LeO.ite ?_ ?_)
   | (with_reducible refine LeO.bind ?_ (fun _ => ?_))
   | exact impl_CountDelivered.mono _ _ _ _ _ _ _ _ _ _
   | exact laws_eqAir.mono _ _ _ _ _ _ _ _ _ _ _ _ _ _ _
   | exact laws_szAir.mono _ _ _ _ _ _ _ _ _
   | exact laws_toAir.mono _ _ _ _ _ _ _ _
   | exact spec_CountDelivered.mono _ _ _ _ _ _ _ _ _ _
   | exact LeO.none _
   | refine LeO.ite ?_ ?_
   | refine LeO.bind ?_ (fun _ => ?_)
set_option maxHeartbeats 8000000 in
set_option maxRecDepth 100000 in
theorem laws_FnExactCountDelivered.calls (k : Nat) (A0_0 : Option Addr) (c0_0 : Nat) (l0_0 : List Int) (a0_1 : Int) (a0_2 : Int) (A0_3 : Option Addr) (c0_3 : Nat) (l0_3 : List (S136)) (a0_4 : Int) (a0_5 : Int) (a0_6 : Int) (a1 : Int) (a2 : Int) (r : Bool) (w : World) (hr0_0 : Kd.C (Kd.int .i64) w A0_0 l0_0.length l0_0) (hc0_0 : l0_0.length ≤ c0_0) (hr0_3 : Kd.C k136 w A0_3 l0_3.length l0_3) (hc0_3 : l0_3.length ≤ c0_3) (h : laws_FnExactCountDelivered.f k l0_0 a0_1 a0_2 l0_3 a0_4 a0_5 a0_6 a1 a2 = some r) (hT : r = true := by rfl) :
  Calls Try.prog 6 #[.agg #[.slice A0_0 l0_0.length c0_0, .int .i64 a0_1, .int .i64 a0_2, .slice A0_3 l0_3.length c0_3, .int .i64 a0_4, .int .i64 a0_5, .int .i64 a0_6], .int .i64 a1, .int .i64 a2] w fun e w' => e = .returned (.bool r) ∧ Below w.heap.size w w' := by
 have hu27 := Try.underlying27
 have hu33 := Try.underlying33
 have HR0_0 := Am_ hr0_0
 have HC0_0 := Am_ hc0_0
 clear hr0_0 hc0_0
 have HR0_3 := Am_ hr0_3
 have HC0_3 := Am_ hc0_3
 clear hr0_3 hc0_3
 have HB := Am_ (Below.refl w.heap.size w)
 have H : ((laws_szAir.f k l0_0 a0_1 a0_2 l0_3 a0_4 a0_5 a0_6 1048576).bind fun t368 => (if t368 < 0 then (some true) else ((laws_toAir.f k l0_0 a0_1 a0_2 l0_3 a0_4 a0_5 a0_6).bind fun bt369 => ((spec_CountDelivered.f k bt369.1 bt369.2.1 bt369.2.2.1 bt369.2.2.2.1 bt369.2.2.2.2.1 bt369.2.2.2.2.2.1 bt369.2.2.2.2.2.2 a1 a2).bind fun t380 => ((laws_toAir.f k l0_0 a0_1 a0_2 l0_3 a0_4 a0_5 a0_6).bind fun bt381 => ((impl_CountDelivered.f k bt381.1 bt381.2.1 bt381.2.2.1 bt381.2.2.2.1 bt381.2.2.2.2.1 bt381.2.2.2.2.2.1 bt381.2.2.2.2.2.2 a1 a2).bind fun t393 => (if t393 = t380 then ((laws_toAir.f k l0_0 a0_1 a0_2 l0_3 a0_4 a0_5 a0_6).bind fun bt394 => ((laws_eqAir.f k bt381.1 bt381.2.1 bt381.2.2.1 bt381.2.2.2.1 bt381.2.2.2.2.1 bt381.2.2.2.2.2.1 bt381.2.2.2.2.2.2 bt394.1 bt394.2.1 bt394.2.2.1 bt394.2.2.2.1 bt394.2.2.2.2.1 bt394.2.2.2.2.2.1 bt394.2.2.2.2.2.2).bind fun t405 => (if t405 = true then (some true) else (some false)))) else (some false)))))))) = some r := h
 clear h
 replace H := Option.bind_eq_some_iff.mp H
 obtain ⟨t368, A40, H⟩ := H
 replace H : (if t368 < 0 then (some true) else ((laws_toAir.f k l0_0 a0_1 a0_2 l0_3 a0_4 a0_5 a0_6).bind fun bt369 => ((spec_CountDelivered.f k bt369.1 bt369.2.1 bt369.2.2.1 bt369.2.2.2.1 bt369.2.2.2.2.1 bt369.2.2.2.2.2.1 bt369.2.2.2.2.2.2 a1 a2).bind fun t380 => ((laws_toAir.f k l0_0 a0_1 a0_2 l0_3 a0_4 a0_5 a0_6).bind fun bt381 => ((impl_CountDelivered.f k bt381.1 bt381.2.1 bt381.2.2.1 bt381.2.2.2.1 bt381.2.2.2.2.1 bt381.2.2.2.2.2.1 bt381.2.2.2.2.2.2 a1 a2).bind fun t393 => (if t393 = t380 then ((laws_toAir.f k l0_0 a0_1 a0_2 l0_3 a0_4 a0_5 a0_6).bind fun bt394 => ((laws_eqAir.f k bt381.1 bt381.2.1 bt381.2.2.1 bt381.2.2.2.1 bt381.2.2.2.2.1 bt381.2.2.2.2.2.1 bt381.2.2.2.2.2.2 bt394.1 bt394.2.1 bt394.2.2.1 bt394.2.2.2.1 bt394.2.2.2.2.1 bt394.2.2.2.2.2.1 bt394.2.2.2.2.2.2).bind fun t405 => (if t405 = true then (some true) else (some false)))) else (some false))))))) = some r := H
 have A4 := Am_ A40
 clear A40
 by_cases c5 : t368 < 0
 ·rw [if_pos c5] at H
  have c5b0 : decide (t368 < 0) = true := decide_eq_true c5
  clear c5
  obtain rfl := Option.some.inj H
  go_enter Try.func6, Try.ntmps6
  go_wp2_with (first | ((with_reducible refine gate_dst (N := 3) rfl ?_); refine box_event ?hg (N := 3) ?hd (cs := #[.slice A0_0 l0_0.length c0_0, .int .i64 a0_1, .int .i64 a0_2, .slice A0_3 l0_3.length c0_3, .int .i64 a0_4, .int .i64 a0_5, .int .i64 a0_6]) (t := 27) ?hr ?_; (case hd => rfl); (case hg => rfl); (case hr => first | (go_simp; done) | (go_simp; rfl)); intro gb367 hg w6 hbox hb; have n0_ := Am_ (bT_ (by repeat (first | (with_reducible first | exact HB.1 | apply bA_ | apply bN_ | apply bD_) | exact HB.1)) hb); have n1_ := Am_ (hbox); have n2_ := Am_ ((by rw [hg]; exact (bZ_ (by repeat (first | (with_reducible first | exact HB.1 | apply bA_ | apply bN_ | apply bD_) | exact HB.1))) : w.heap.size ≤ gb367)); have n3_ := Am_ ((by rw [hg]; exact (bZ_ (by repeat (first | (with_reducible first | exact HB.1 | apply bA_ | apply bN_ | apply bD_) | exact HB.1))) : w.heap.size ≤ gb367)); clear HB; have HB := n0_; have BK367 := n1_; have GW367 := n2_; have GE367 := n3_; clear n0_ n1_ n2_ n3_ hb hbox hg; have hcz7_0 : w6.cell? ⟨gb367, 0, none⟩ = some (.slice A0_0 l0_0.length c0_0) := kC_ BK367.1 0; have hcz7_1 : w6.cell? ⟨gb367, 1, none⟩ = some (.int .i64 a0_1) := kC_ BK367.1 1; have hcz7_2 : w6.cell? ⟨gb367, 2, none⟩ = some (.int .i64 a0_2) := kC_ BK367.1 2; have hcz7_3 : w6.cell? ⟨gb367, 3, none⟩ = some (.slice A0_3 l0_3.length c0_3) := kC_ BK367.1 3; have hcz7_4 : w6.cell? ⟨gb367, 4, none⟩ = some (.int .i64 a0_4) := kC_ BK367.1 4; have hcz7_5 : w6.cell? ⟨gb367, 5, none⟩ = some (.int .i64 a0_5) := kC_ BK367.1 5; have hcz7_6 : w6.cell? ⟨gb367, 6, none⟩ = some (.int .i64 a0_6) := kC_ BK367.1 6; have hfz7_0 := kF_ BK367.1 0; have hfz7_1 := kF_ BK367.1 1; have hfz7_2 := kF_ BK367.1 2; have hfz7_3 := kF_ BK367.1 3; have hfz7_4 := kF_ BK367.1 4; have hfz7_5 := kF_ BK367.1 5; have hfz7_6 := kF_ BK367.1 6) | ((with_reducible refine gate_callee (f := 15) rfl ?_); refine goesL_ (some 13) rfl rfl Try.func15 (by kernel_rfl) rfl #[.agg #[.slice A0_0 l0_0.length c0_0, .int .i64 a0_1, .int .i64 a0_2, .slice A0_3 l0_3.length c0_3, .int .i64 a0_4, .int .i64 a0_5, .int .i64 a0_6], .int .i64 1048576] rfl (by (try simp only [List.map_toArray, List.map_cons, List.map_nil]); first | done | rfl | (simp only [List.length_drop, List.length_take]; rfl)) ?_; (with_reducible refine (laws_szAir.calls k _ _ l0_0 a0_1 a0_2 _ _ l0_3 a0_4 a0_5 a0_6 1048576 t368 _ ?side1 ?side2 ?side3 ?side4 A4.1).mono ?_); (case side1 => repeat (first | exact (Kd.C_below HR0_0.1 HB.1) | (with_reducible refine Kd.C_alloc ?_ _) | (with_reducible refine Kd.C_drewN ?_ _) | (with_reducible refine Kd.C_drew ?_))); (case side2 => exact HC0_0.1); (case side3 => repeat (first | exact (Kd.C_below HR0_3.1 HB.1) | (with_reducible refine Kd.C_alloc ?_ _) | (with_reducible refine Kd.C_drewN ?_ _) | (with_reducible refine Kd.C_drew ?_))); (case side4 => exact HC0_3.1); rintro e w8 ⟨rfl, hb⟩; refine ⟨_, rfl, ?_⟩; have n0_ := Am_ (kB_ (g := gb367) (by (with_reducible repeat (first | refine kN_ ?_ _ | refine kD_ ?_ | refine kA_ ?_ _)); exact BK367.1) hb); have n1_ := Am_ (bT_ (by repeat (first | (with_reducible first | exact HB.1 | apply bA_ | apply bN_ | apply bD_ | refine bS_ ?_ GE367.1) | exact HB.1)) hb); clear BK367 HB; have BK367 := n0_; have HB := n1_; clear n0_ n1_; (try clear hb); (try clear hb2); (try clear hk); (try clear hi)))
  go_ret
  exact ⟨by first | rfl | (simp [errW_none, errW_some] <;> rfl) | (simp [*, errW_none, errW_some] <;> rfl), by repeat (first | (with_reducible first | exact HB.1 | apply bA_ | apply bN_ | apply bD_ | refine bS_ ?_ GE367.1) | exact HB.1)⟩
 ·rw [if_neg c5] at H
  have c5b0 : decide (t368 < 0) = false := decide_eq_false c5
  clear c5
  replace H := Option.bind_eq_some_iff.mp H
  obtain ⟨⟨t369, t372, t373, t374, t377, t378, t379⟩, A90, H⟩ := H
  replace H : ((spec_CountDelivered.f k t369 t372 t373 t374 t377 t378 t379 a1 a2).bind fun t380 => ((laws_toAir.f k l0_0 a0_1 a0_2 l0_3 a0_4 a0_5 a0_6).bind fun bt381 => ((impl_CountDelivered.f k bt381.1 bt381.2.1 bt381.2.2.1 bt381.2.2.2.1 bt381.2.2.2.2.1 bt381.2.2.2.2.2.1 bt381.2.2.2.2.2.2 a1 a2).bind fun t393 => (if t393 = t380 then ((laws_toAir.f k l0_0 a0_1 a0_2 l0_3 a0_4 a0_5 a0_6).bind fun bt394 => ((laws_eqAir.f k bt381.1 bt381.2.1 bt381.2.2.1 bt381.2.2.2.1 bt381.2.2.2.2.1 bt381.2.2.2.2.2.1 bt381.2.2.2.2.2.2 bt394.1 bt394.2.1 bt394.2.2.1 bt394.2.2.2.1 bt394.2.2.2.2.1 bt394.2.2.2.2.2.1 bt394.2.2.2.2.2.2).bind fun t405 => (if t405 = true then (some true) else (some false)))) else (some false))))) = some r := H
  have A9 := Am_ A90
  clear A90
  replace H := Option.bind_eq_some_iff.mp H
  obtain ⟨t380, A100, H⟩ := H
  replace H : ((laws_toAir.f k l0_0 a0_1 a0_2 l0_3 a0_4 a0_5 a0_6).bind fun bt381 => ((impl_CountDelivered.f k bt381.1 bt381.2.1 bt381.2.2.1 bt381.2.2.2.1 bt381.2.2.2.2.1 bt381.2.2.2.2.2.1 bt381.2.2.2.2.2.2 a1 a2).bind fun t393 => (if t393 = t380 then ((laws_toAir.f k l0_0 a0_1 a0_2 l0_3 a0_4 a0_5 a0_6).bind fun bt394 => ((laws_eqAir.f k bt381.1 bt381.2.1 bt381.2.2.1 bt381.2.2.2.1 bt381.2.2.2.2.1 bt381.2.2.2.2.2.1 bt381.2.2.2.2.2.2 bt394.1 bt394.2.1 bt394.2.2.1 bt394.2.2.2.1 bt394.2.2.2.2.1 bt394.2.2.2.2.2.1 bt394.2.2.2.2.2.2).bind fun t405 => (if t405 = true then (some true) else (some false)))) else (some false)))) = some r := H
  have A10 := Am_ A100
  clear A100
  replace H := Option.bind_eq_some_iff.mp H
  obtain ⟨⟨t381, t384, t385, t386, t389, t390, t391⟩, A110, H⟩ := H
  replace H : ((impl_CountDelivered.f k t381 t384 t385 t386 t389 t390 t391 a1 a2).bind fun t393 => (if t393 = t380 then ((laws_toAir.f k l0_0 a0_1 a0_2 l0_3 a0_4 a0_5 a0_6).bind fun bt394 => ((laws_eqAir.f k t381 t384 t385 t386 t389 t390 t391 bt394.1 bt394.2.1 bt394.2.2.1 bt394.2.2.2.1 bt394.2.2.2.2.1 bt394.2.2.2.2.2.1 bt394.2.2.2.2.2.2).bind fun t405 => (if t405 = true then (some true) else (some false)))) else (some false))) = some r := H
  have A11 := Am_ A110
  clear A110
  replace H := Option.bind_eq_some_iff.mp H
  obtain ⟨t393, A120, H⟩ := H
  replace H : (if t393 = t380 then ((laws_toAir.f k l0_0 a0_1 a0_2 l0_3 a0_4 a0_5 a0_6).bind fun bt394 => ((laws_eqAir.f k t381 t384 t385 t386 t389 t390 t391 bt394.1 bt394.2.1 bt394.2.2.1 bt394.2.2.2.1 bt394.2.2.2.2.1 bt394.2.2.2.2.2.1 bt394.2.2.2.2.2.2).bind fun t405 => (if t405 = true then (some true) else (some false)))) else (some false)) = some r := H
  have A12 := Am_ A120
  clear A120
  by_cases c13 : t393 = t380
  ·rw [if_pos c13] at H
   have c13b0 : (t393 == t380) = true := beq_iff_eq.mpr c13
   have c13b1 : (t393 != t380) = false := bne_eq_false_iff_eq.mpr c13
   clear c13
   replace H := Option.bind_eq_some_iff.mp H
   obtain ⟨⟨t394, t397, t398, t399, t402, t403, t404⟩, A140, H⟩ := H
   replace H : ((laws_eqAir.f k t381 t384 t385 t386 t389 t390 t391 t394 t397 t398 t399 t402 t403 t404).bind fun t405 => (if t405 = true then (some true) else (some false))) = some r := H
   have A14 := Am_ A140
   clear A140
   replace H := Option.bind_eq_some_iff.mp H
   obtain ⟨t405, A150, H⟩ := H
   replace H : (if t405 = true then (some true) else (some false)) = some r := H
   have A15 := Am_ A150
   clear A150
   by_cases c16 : t405 = true
   ·subst c16
    have H1 : (some true) = some r := by rw [if_pos rfl] at H; exact H
    clear H
    have H := H1
    clear H1
    obtain rfl := Option.some.inj H
    go_enter Try.func6, Try.ntmps6
    try go_wp2_with (first | ((with_reducible refine gate_dst (N := 3) rfl ?_); refine box_event ?hg (N := 3) ?hd (cs := #[.slice A0_0 l0_0.length c0_0, .int .i64 a0_1, .int .i64 a0_2, .slice A0_3 l0_3.length c0_3, .int .i64 a0_4, .int .i64 a0_5, .int .i64 a0_6]) (t := 27) ?hr ?_; (case hd => rfl); (case hg => rfl); (case hr => first | (go_simp; done) | (go_simp; rfl)); intro gb367 hg w17 hbox hb; have n0_ := Am_ (bT_ (by repeat (first | (with_reducible first | exact HB.1 | apply bA_ | apply bN_ | apply bD_) | exact HB.1)) hb); have n1_ := Am_ (hbox); have n2_ := Am_ ((by rw [hg]; exact (bZ_ (by repeat (first | (with_reducible first | exact HB.1 | apply bA_ | apply bN_ | apply bD_) | exact HB.1))) : w.heap.size ≤ gb367)); have n3_ := Am_ ((by rw [hg]; exact (bZ_ (by repeat (first | (with_reducible first | exact HB.1 | apply bA_ | apply bN_ | apply bD_) | exact HB.1))) : w.heap.size ≤ gb367)); clear HB; have HB := n0_; have BK367 := n1_; have GW367 := n2_; have GE367 := n3_; clear n0_ n1_ n2_ n3_ hb hbox hg; have hcz18_0 : w17.cell? ⟨gb367, 0, none⟩ = some (.slice A0_0 l0_0.length c0_0) := kC_ BK367.1 0; have hcz18_1 : w17.cell? ⟨gb367, 1, none⟩ = some (.int .i64 a0_1) := kC_ BK367.1 1; have hcz18_2 : w17.cell? ⟨gb367, 2, none⟩ = some (.int .i64 a0_2) := kC_ BK367.1 2; have hcz18_3 : w17.cell? ⟨gb367, 3, none⟩ = some (.slice A0_3 l0_3.length c0_3) := kC_ BK367.1 3; have hcz18_4 : w17.cell? ⟨gb367, 4, none⟩ = some (.int .i64 a0_4) := kC_ BK367.1 4; have hcz18_5 : w17.cell? ⟨gb367, 5, none⟩ = some (.int .i64 a0_5) := kC_ BK367.1 5; have hcz18_6 : w17.cell? ⟨gb367, 6, none⟩ = some (.int .i64 a0_6) := kC_ BK367.1 6; have hfz18_0 := kF_ BK367.1 0; have hfz18_1 := kF_ BK367.1 1; have hfz18_2 := kF_ BK367.1 2; have hfz18_3 := kF_ BK367.1 3; have hfz18_4 := kF_ BK367.1 4; have hfz18_5 := kF_ BK367.1 5; have hfz18_6 := kF_ BK367.1 6) | ((with_reducible refine gate_callee (f := 15) rfl ?_); refine goesL_ (some 13) rfl rfl Try.func15 (by kernel_rfl) rfl #[.agg #[.slice A0_0 l0_0.length c0_0, .int .i64 a0_1, .int .i64 a0_2, .slice A0_3 l0_3.length c0_3, .int .i64 a0_4, .int .i64 a0_5, .int .i64 a0_6], .int .i64 1048576] rfl (by (try simp only [List.map_toArray, List.map_cons, List.map_nil]); first | done | rfl | (simp only [List.length_drop, List.length_take]; rfl)) ?_; (with_reducible refine (laws_szAir.calls k _ _ l0_0 a0_1 a0_2 _ _ l0_3 a0_4 a0_5 a0_6 1048576 t368 _ ?side1 ?side2 ?side3 ?side4 A4.1).mono ?_); (case side1 => repeat (first | exact (Kd.C_below HR0_0.1 HB.1) | (with_reducible refine Kd.C_alloc ?_ _) | (with_reducible refine Kd.C_drewN ?_ _) | (with_reducible refine Kd.C_drew ?_))); (case side2 => exact HC0_0.1); (case side3 => repeat (first | exact (Kd.C_below HR0_3.1 HB.1) | (with_reducible refine Kd.C_alloc ?_ _) | (with_reducible refine Kd.C_drewN ?_ _) | (with_reducible refine Kd.C_drew ?_))); (case side4 => exact HC0_3.1); rintro e w19 ⟨rfl, hb⟩; refine ⟨_, rfl, ?_⟩; have n0_ := Am_ (kB_ (g := gb367) (by (with_reducible repeat (first | refine kN_ ?_ _ | refine kD_ ?_ | refine kA_ ?_ _)); exact BK367.1) hb); have n1_ := Am_ (bT_ (by repeat (first | (with_reducible first | exact HB.1 | apply bA_ | apply bN_ | apply bD_ | refine bS_ ?_ GE367.1) | exact HB.1)) hb); clear BK367 HB; have BK367 := n0_; have HB := n1_; clear n0_ n1_; (try clear hb); (try clear hb2); (try clear hk); (try clear hi); have hcz20_0 : w19.cell? ⟨gb367, 0, none⟩ = some (.slice A0_0 l0_0.length c0_0) := kC_ BK367.1 0; have hcz20_1 : w19.cell? ⟨gb367, 1, none⟩ = some (.int .i64 a0_1) := kC_ BK367.1 1; have hcz20_2 : w19.cell? ⟨gb367, 2, none⟩ = some (.int .i64 a0_2) := kC_ BK367.1 2; have hcz20_3 : w19.cell? ⟨gb367, 3, none⟩ = some (.slice A0_3 l0_3.length c0_3) := kC_ BK367.1 3; have hcz20_4 : w19.cell? ⟨gb367, 4, none⟩ = some (.int .i64 a0_4) := kC_ BK367.1 4; have hcz20_5 : w19.cell? ⟨gb367, 5, none⟩ = some (.int .i64 a0_5) := kC_ BK367.1 5; have hcz20_6 : w19.cell? ⟨gb367, 6, none⟩ = some (.int .i64 a0_6) := kC_ BK367.1 6; have hfz20_0 := kF_ BK367.1 0; have hfz20_1 := kF_ BK367.1 1; have hfz20_2 := kF_ BK367.1 2; have hfz20_3 := kF_ BK367.1 3; have hfz20_4 := kF_ BK367.1 4; have hfz20_5 := kF_ BK367.1 5; have hfz20_6 := kF_ BK367.1 6) | ((with_reducible refine gate_callee (f := 17) rfl ?_); refine goesL_ (some 17) rfl rfl Try.func17 (by kernel_rfl) rfl #[.agg #[.slice A0_0 l0_0.length c0_0, .int .i64 a0_1, .int .i64 a0_2, .slice A0_3 l0_3.length c0_3, .int .i64 a0_4, .int .i64 a0_5, .int .i64 a0_6]] rfl (by (try simp only [List.map_toArray, List.map_cons, List.map_nil]); first | done | rfl | (simp only [List.length_drop, List.length_take]; rfl)) ?_; (with_reducible refine (laws_toAir.calls k _ _ l0_0 a0_1 a0_2 _ _ l0_3 a0_4 a0_5 a0_6 t369 t372 t373 t374 t377 t378 t379 _ ?side1 ?side2 ?side3 ?side4 A9.1).mono ?_); (case side1 => repeat (first | exact (Kd.C_below HR0_0.1 HB.1) | (with_reducible refine Kd.C_alloc ?_ _) | (with_reducible refine Kd.C_drewN ?_ _) | (with_reducible refine Kd.C_drew ?_))); (case side2 => exact HC0_0.1); (case side3 => repeat (first | exact (Kd.C_below HR0_3.1 HB.1) | (with_reducible refine Kd.C_alloc ?_ _) | (with_reducible refine Kd.C_drewN ?_ _) | (with_reducible refine Kd.C_drew ?_))); (case side4 => exact HC0_3.1); rintro e w21 ⟨v370, v375, rfl, ho0, ho1, hb⟩; refine ⟨_, rfl, ?_⟩; have n0_ := Am_ (Kd.R_lower ho0 (bZ_ (by repeat (first | (with_reducible first | exact HB.1 | apply bA_ | apply bN_ | apply bD_ | refine bS_ ?_ GE367.1) | exact HB.1)))); have n1_ := Am_ (Kd.R_lower ho1 (bZ_ (by repeat (first | (with_reducible first | exact HB.1 | apply bA_ | apply bN_ | apply bD_ | refine bS_ ?_ GE367.1) | exact HB.1)))); have n2_ := Am_ (kB_ (g := gb367) (by (with_reducible repeat (first | refine kN_ ?_ _ | refine kD_ ?_ | refine kA_ ?_ _)); exact BK367.1) hb); have n3_ := Am_ (bT_ (by repeat (first | (with_reducible first | exact HB.1 | apply bA_ | apply bN_ | apply bD_ | refine bS_ ?_ GE367.1) | exact HB.1)) hb); clear BK367 HB; have HO371 := n0_; have HO376 := n1_; have BK367 := n2_; have HB := n3_; clear n0_ n1_ n2_ n3_; (try clear hb); (try clear hb2); (try clear hk); (try clear hi); (try clear ho0); (try clear ho1); obtain ⟨Ao22, co22, eo22⟩ := Kd.R_slice HO371.1; subst eo22; obtain ⟨Ao23, co23, eo23⟩ := Kd.R_slice HO376.1; subst eo23) | ((with_reducible refine gate_callee (f := 24) rfl ?_); refine goesL_ (some 20) rfl rfl Try.func24 (by kernel_rfl) rfl #[.agg #[.slice Ao22 t369.length co22, .int .i64 t372, .int .i64 t373, .slice Ao23 t374.length co23, .int .i64 t377, .int .i64 t378, .int .i64 t379], .int .i64 a1, .int .i64 a2] rfl (by (try simp only [List.map_toArray, List.map_cons, List.map_nil]); first | done | rfl | (simp only [List.length_drop, List.length_take]; rfl)) ?_; (with_reducible refine (spec_CountDelivered.calls k _ _ t369 t372 t373 _ _ t374 t377 t378 t379 a1 a2 t380 _ ?side1 ?side2 ?side3 ?side4 A10.1).mono ?_); (case side1 => repeat (first | exact (Kd.R_reads' HO371.1).2.2 | (with_reducible refine Kd.C_alloc ?_ _) | (with_reducible refine Kd.C_drewN ?_ _) | (with_reducible refine Kd.C_drew ?_))); (case side2 => exact (Kd.R_reads' HO371.1).2.1); (case side3 => repeat (first | exact (Kd.R_reads' HO376.1).2.2 | (with_reducible refine Kd.C_alloc ?_ _) | (with_reducible refine Kd.C_drewN ?_ _) | (with_reducible refine Kd.C_drew ?_))); (case side4 => exact (Kd.R_reads' HO376.1).2.1); rintro e w24 ⟨rfl, hb⟩; refine ⟨_, rfl, ?_⟩; have n0_ := Am_ (Kd.R_below (by (with_reducible repeat (first | apply rA_ | apply rN_ | apply rD_)); exact HO371.1) hb); have n1_ := Am_ (Kd.R_below (by (with_reducible repeat (first | apply rA_ | apply rN_ | apply rD_)); exact HO376.1) hb); have n2_ := Am_ (kB_ (g := gb367) (by (with_reducible repeat (first | refine kN_ ?_ _ | refine kD_ ?_ | refine kA_ ?_ _)); exact BK367.1) hb); have n3_ := Am_ (bT_ (by repeat (first | (with_reducible first | exact HB.1 | apply bA_ | apply bN_ | apply bD_ | refine bS_ ?_ GE367.1) | exact HB.1)) hb); clear HO371 HO376 BK367 HB; have HO371 := n0_; have HO376 := n1_; have BK367 := n2_; have HB := n3_; clear n0_ n1_ n2_ n3_; (try clear hb); (try clear hb2); (try clear hk); (try clear hi); have hcz25_0 : w24.cell? ⟨gb367, 0, none⟩ = some (.slice A0_0 l0_0.length c0_0) := kC_ BK367.1 0; have hcz25_1 : w24.cell? ⟨gb367, 1, none⟩ = some (.int .i64 a0_1) := kC_ BK367.1 1; have hcz25_2 : w24.cell? ⟨gb367, 2, none⟩ = some (.int .i64 a0_2) := kC_ BK367.1 2; have hcz25_3 : w24.cell? ⟨gb367, 3, none⟩ = some (.slice A0_3 l0_3.length c0_3) := kC_ BK367.1 3; have hcz25_4 : w24.cell? ⟨gb367, 4, none⟩ = some (.int .i64 a0_4) := kC_ BK367.1 4; have hcz25_5 : w24.cell? ⟨gb367, 5, none⟩ = some (.int .i64 a0_5) := kC_ BK367.1 5; have hcz25_6 : w24.cell? ⟨gb367, 6, none⟩ = some (.int .i64 a0_6) := kC_ BK367.1 6; have hfz25_0 := kF_ BK367.1 0; have hfz25_1 := kF_ BK367.1 1; have hfz25_2 := kF_ BK367.1 2; have hfz25_3 := kF_ BK367.1 3; have hfz25_4 := kF_ BK367.1 4; have hfz25_5 := kF_ BK367.1 5; have hfz25_6 := kF_ BK367.1 6) | ((with_reducible refine gate_callee (f := 17) rfl ?_); refine goesL_ (some 22) rfl rfl Try.func17 (by kernel_rfl) rfl #[.agg #[.slice A0_0 l0_0.length c0_0, .int .i64 a0_1, .int .i64 a0_2, .slice A0_3 l0_3.length c0_3, .int .i64 a0_4, .int .i64 a0_5, .int .i64 a0_6]] rfl (by (try simp only [List.map_toArray, List.map_cons, List.map_nil]); first | done | rfl | (simp only [List.length_drop, List.length_take]; rfl)) ?_; (with_reducible refine (laws_toAir.calls k _ _ l0_0 a0_1 a0_2 _ _ l0_3 a0_4 a0_5 a0_6 t381 t384 t385 t386 t389 t390 t391 _ ?side1 ?side2 ?side3 ?side4 A11.1).mono ?_); (case side1 => repeat (first | exact (Kd.C_below HR0_0.1 HB.1) | (with_reducible refine Kd.C_alloc ?_ _) | (with_reducible refine Kd.C_drewN ?_ _) | (with_reducible refine Kd.C_drew ?_))); (case side2 => exact HC0_0.1); (case side3 => repeat (first | exact (Kd.C_below HR0_3.1 HB.1) | (with_reducible refine Kd.C_alloc ?_ _) | (with_reducible refine Kd.C_drewN ?_ _) | (with_reducible refine Kd.C_drew ?_))); (case side4 => exact HC0_3.1); rintro e w26 ⟨v382, v387, rfl, ho0, ho1, hb⟩; refine ⟨_, rfl, ?_⟩; have n0_ := Am_ (Kd.R_elder' (by (with_reducible repeat (first | apply rA_ | apply rN_ | apply rD_)); exact HO371.1) (Kd.R_base ho0) hb); have n1_ := Am_ (Kd.R_elder' (by (with_reducible repeat (first | apply rA_ | apply rN_ | apply rD_)); exact HO376.1) (Kd.R_base ho1) hb); have n2_ := Am_ (Kd.R_lower (Kd.R_new' ho0 (Kd.R_lt (by (with_reducible repeat (first | apply rA_ | apply rN_ | apply rD_)); exact HO371.1))) (bZ_ (by repeat (first | (with_reducible first | exact HB.1 | apply bA_ | apply bN_ | apply bD_ | refine bS_ ?_ GE367.1) | exact HB.1)))); have n3_ := Am_ (Kd.R_lower (Kd.R_new' ho1 (Kd.R_lt (by (with_reducible repeat (first | apply rA_ | apply rN_ | apply rD_)); exact HO376.1))) (bZ_ (by repeat (first | (with_reducible first | exact HB.1 | apply bA_ | apply bN_ | apply bD_ | refine bS_ ?_ GE367.1) | exact HB.1)))); have n4_ := Am_ (kB_ (g := gb367) (by (with_reducible repeat (first | refine kN_ ?_ _ | refine kD_ ?_ | refine kA_ ?_ _)); exact BK367.1) hb); have n5_ := Am_ (bT_ (by repeat (first | (with_reducible first | exact HB.1 | apply bA_ | apply bN_ | apply bD_ | refine bS_ ?_ GE367.1) | exact HB.1)) hb); clear HO371 HO376 BK367 HB; have HO371 := n0_; have HO376 := n1_; have HO383 := n2_; have HO388 := n3_; have BK367 := n4_; have HB := n5_; clear n0_ n1_ n2_ n3_ n4_ n5_; (try clear hb); (try clear hb2); (try clear hk); (try clear hi); (try clear ho0); (try clear ho1)) | ((with_reducible refine gate_dst (N := 9) rfl ?_); refine box_event ?hg (N := 9) ?hd (cs := #[.slice none 0 0, .int .i64 0, .int .i64 0, .slice none 0 0, .int .i64 0, .int .i64 0, .int .i64 0]) (t := 33) ?hr ?_; (case hd => rfl); (case hg => rfl); (case hr => first | (go_simp; done) | (go_simp; rfl)); intro gb392 hg w27 hbox hb; have n0_ := Am_ (Kd.R_below (by (with_reducible repeat (first | apply rA_ | apply rN_ | apply rD_)); exact HO371.1) hb); have n1_ := Am_ (Kd.R_below (by (with_reducible repeat (first | apply rA_ | apply rN_ | apply rD_)); exact HO376.1) hb); have n2_ := Am_ (Kd.R_below (by (with_reducible repeat (first | apply rA_ | apply rN_ | apply rD_)); exact HO383.1) hb); have n3_ := Am_ (Kd.R_below (by (with_reducible repeat (first | apply rA_ | apply rN_ | apply rD_)); exact HO388.1) hb); have n4_ := Am_ (kB_ (g := gb367) (by (with_reducible repeat (first | refine kN_ ?_ _ | refine kD_ ?_ | refine kA_ ?_ _)); exact BK367.1) hb); have n5_ := Am_ (bT_ (by repeat (first | (with_reducible first | exact HB.1 | apply bA_ | apply bN_ | apply bD_ | refine bS_ ?_ GE367.1) | exact HB.1)) hb); have n6_ := Am_ (hbox); have n7_ := Am_ ((by rw [hg]; exact (bZ_ (by repeat (first | (with_reducible first | exact HB.1 | apply bA_ | apply bN_ | apply bD_ | refine bS_ ?_ GE367.1) | exact HB.1))) : w.heap.size ≤ gb392)); have n8_ := Am_ ((by rw [hg]; exact (bZ_ (by repeat (first | (with_reducible first | exact HB.1 | apply bA_ | apply bN_ | apply bD_ | refine bS_ ?_ GE367.1) | exact HB.1))) : w.heap.size ≤ gb392)); have n9_ := Am_ ((by rw [hg]; exact Nat.ne_of_lt (blk_lt (g := gb367) (by (with_reducible repeat (first | refine kN_ ?_ _ | refine kD_ ?_ | refine kA_ ?_ _)); exact BK367.1)) : gb367 ≠ gb392)); have n10_ := Am_ ((by rw [hg]; exact Nat.ne_of_gt (blk_lt (g := gb367) (by (with_reducible repeat (first | refine kN_ ?_ _ | refine kD_ ?_ | refine kA_ ?_ _)); exact BK367.1)) : gb392 ≠ gb367)); clear HO371 HO376 HO383 HO388 BK367 HB; have HO371 := n0_; have HO376 := n1_; have HO383 := n2_; have HO388 := n3_; have BK367 := n4_; have HB := n5_; have BK392 := n6_; have GW392 := n7_; have GE392 := n8_; have NB367_392 := n9_; have NB392_367 := n10_; clear n0_ n1_ n2_ n3_ n4_ n5_ n6_ n7_ n8_ n9_ n10_ hb hbox hg; obtain ⟨Ao28, co28, eo28⟩ := Kd.R_slice HO383.1; subst eo28; have hnb29 := NB392_367.1; have hnc29 := NB367_392.1; have hcz30_0 : w27.cell? ⟨gb392, 0, none⟩ = some (.slice none 0 0) := kC_ BK392.1 0; have hcz30_1 : w27.cell? ⟨gb392, 1, none⟩ = some (.int .i64 0) := kC_ BK392.1 1; have hcz30_2 : w27.cell? ⟨gb392, 2, none⟩ = some (.int .i64 0) := kC_ BK392.1 2; have hcz30_3 : w27.cell? ⟨gb392, 3, none⟩ = some (.slice none 0 0) := kC_ BK392.1 3; have hcz30_4 : w27.cell? ⟨gb392, 4, none⟩ = some (.int .i64 0) := kC_ BK392.1 4; have hcz30_5 : w27.cell? ⟨gb392, 5, none⟩ = some (.int .i64 0) := kC_ BK392.1 5; have hcz30_6 : w27.cell? ⟨gb392, 6, none⟩ = some (.int .i64 0) := kC_ BK392.1 6; have hfz30_0 := kF_ BK392.1 0; have hfz30_1 := kF_ BK392.1 1; have hfz30_2 := kF_ BK392.1 2; have hfz30_3 := kF_ BK392.1 3; have hfz30_4 := kF_ BK392.1 4; have hfz30_5 := kF_ BK392.1 5; have hfz30_6 := kF_ BK392.1 6; obtain ⟨Ao31, co31, eo31⟩ := Kd.R_slice HO388.1; subst eo31) | ((with_reducible refine gate_callee (f := 25) rfl ?_); refine goesL_ (some 26) rfl rfl Try.func25 (by kernel_rfl) rfl #[.agg #[.slice Ao28 t381.length co28, .int .i64 t384, .int .i64 t385, .slice Ao31 t386.length co31, .int .i64 t389, .int .i64 t390, .int .i64 t391], .int .i64 a1, .int .i64 a2] rfl (by (try simp only [List.map_toArray, List.map_cons, List.map_nil]); first | done | rfl | (simp only [List.length_drop, List.length_take]; rfl)) ?_; (with_reducible refine (impl_CountDelivered.calls k _ _ t381 t384 t385 _ _ t386 t389 t390 t391 a1 a2 t393 _ ?side1 ?side2 ?side3 ?side4 A12.1).mono ?_); (case side1 => refine (Kd.R_reads' (e := 3) (base := w.heap.size) (ok := fun k_ => (True ∧ some k_ ≠ (.slice Ao22 t369.length co22 : Value).ownBlock)) (n := t381.length) (c := co28) ?_).2.2; exact (by (with_reducible repeat (first | apply rA_ | apply rN_ | apply rD_)); exact (Kd.R_mono (rF_ (p := ⟨gb392, 6, none⟩) (rF_ (p := ⟨gb392, 5, none⟩) (rF_ (p := ⟨gb392, 4, none⟩) (rF_ (p := ⟨gb392, 3, none⟩) (rF_ (p := ⟨gb392, 2, none⟩) (rF_ (p := ⟨gb392, 1, none⟩) (rF_ (p := ⟨gb392, 0, none⟩) (Kd.R_types HO383.1 BK392.1 (by decide)) (fun _ hk => hk.2) (.slice Ao28 t381.length co28)) (fun _ hk => hk.2) (.int .i64 t384)) (fun _ hk => hk.2) (.int .i64 t385)) (fun _ hk => hk.2) (.slice Ao31 t386.length co31)) (fun _ hk => hk.2) (.int .i64 t389)) (fun _ hk => hk.2) (.int .i64 t390)) (fun _ hk => hk.2) (.int .i64 t391)) (fun _ h_ => h_.1)))); (case side2 => exact (Kd.R_reads' HO383.1).2.1); (case side3 => refine (Kd.R_reads' (e := 97) (base := w.heap.size) (ok := fun k_ => (True ∧ some k_ ≠ (.slice Ao23 t374.length co23 : Value).ownBlock)) (n := t386.length) (c := co31) ?_).2.2; exact (by (with_reducible repeat (first | apply rA_ | apply rN_ | apply rD_)); exact (Kd.R_mono (rF_ (p := ⟨gb392, 6, none⟩) (rF_ (p := ⟨gb392, 5, none⟩) (rF_ (p := ⟨gb392, 4, none⟩) (rF_ (p := ⟨gb392, 3, none⟩) (rF_ (p := ⟨gb392, 2, none⟩) (rF_ (p := ⟨gb392, 1, none⟩) (rF_ (p := ⟨gb392, 0, none⟩) (Kd.R_types HO388.1 BK392.1 (by decide)) (fun _ hk => hk.2) (.slice Ao28 t381.length co28)) (fun _ hk => hk.2) (.int .i64 t384)) (fun _ hk => hk.2) (.int .i64 t385)) (fun _ hk => hk.2) (.slice Ao31 t386.length co31)) (fun _ hk => hk.2) (.int .i64 t389)) (fun _ hk => hk.2) (.int .i64 t390)) (fun _ hk => hk.2) (.int .i64 t391)) (fun _ h_ => h_.1)))); (case side4 => exact (Kd.R_reads' HO388.1).2.1); rintro e w32 ⟨rfl, hb⟩; refine ⟨_, rfl, ?_⟩; have n0_ := Am_ (Kd.R_below (by (with_reducible repeat (first | apply rA_ | apply rN_ | apply rD_)); exact (Kd.R_mono (rF_ (p := ⟨gb392, 6, none⟩) (rF_ (p := ⟨gb392, 5, none⟩) (rF_ (p := ⟨gb392, 4, none⟩) (rF_ (p := ⟨gb392, 3, none⟩) (rF_ (p := ⟨gb392, 2, none⟩) (rF_ (p := ⟨gb392, 1, none⟩) (rF_ (p := ⟨gb392, 0, none⟩) (Kd.R_types HO371.1 BK392.1 (by decide)) (fun _ hk => hk.2) (.slice Ao28 t381.length co28)) (fun _ hk => hk.2) (.int .i64 t384)) (fun _ hk => hk.2) (.int .i64 t385)) (fun _ hk => hk.2) (.slice Ao31 t386.length co31)) (fun _ hk => hk.2) (.int .i64 t389)) (fun _ hk => hk.2) (.int .i64 t390)) (fun _ hk => hk.2) (.int .i64 t391)) (fun _ h_ => h_.1))) hb); have n1_ := Am_ (Kd.R_below (by (with_reducible repeat (first | apply rA_ | apply rN_ | apply rD_)); exact (Kd.R_mono (rF_ (p := ⟨gb392, 6, none⟩) (rF_ (p := ⟨gb392, 5, none⟩) (rF_ (p := ⟨gb392, 4, none⟩) (rF_ (p := ⟨gb392, 3, none⟩) (rF_ (p := ⟨gb392, 2, none⟩) (rF_ (p := ⟨gb392, 1, none⟩) (rF_ (p := ⟨gb392, 0, none⟩) (Kd.R_types HO376.1 BK392.1 (by decide)) (fun _ hk => hk.2) (.slice Ao28 t381.length co28)) (fun _ hk => hk.2) (.int .i64 t384)) (fun _ hk => hk.2) (.int .i64 t385)) (fun _ hk => hk.2) (.slice Ao31 t386.length co31)) (fun _ hk => hk.2) (.int .i64 t389)) (fun _ hk => hk.2) (.int .i64 t390)) (fun _ hk => hk.2) (.int .i64 t391)) (fun _ h_ => h_.1))) hb); have n2_ := Am_ (Kd.R_below (by (with_reducible repeat (first | apply rA_ | apply rN_ | apply rD_)); exact (Kd.R_mono (rF_ (p := ⟨gb392, 6, none⟩) (rF_ (p := ⟨gb392, 5, none⟩) (rF_ (p := ⟨gb392, 4, none⟩) (rF_ (p := ⟨gb392, 3, none⟩) (rF_ (p := ⟨gb392, 2, none⟩) (rF_ (p := ⟨gb392, 1, none⟩) (rF_ (p := ⟨gb392, 0, none⟩) (Kd.R_types HO383.1 BK392.1 (by decide)) (fun _ hk => hk.2) (.slice Ao28 t381.length co28)) (fun _ hk => hk.2) (.int .i64 t384)) (fun _ hk => hk.2) (.int .i64 t385)) (fun _ hk => hk.2) (.slice Ao31 t386.length co31)) (fun _ hk => hk.2) (.int .i64 t389)) (fun _ hk => hk.2) (.int .i64 t390)) (fun _ hk => hk.2) (.int .i64 t391)) (fun _ h_ => h_.1))) hb); have n3_ := Am_ (Kd.R_below (by (with_reducible repeat (first | apply rA_ | apply rN_ | apply rD_)); exact (Kd.R_mono (rF_ (p := ⟨gb392, 6, none⟩) (rF_ (p := ⟨gb392, 5, none⟩) (rF_ (p := ⟨gb392, 4, none⟩) (rF_ (p := ⟨gb392, 3, none⟩) (rF_ (p := ⟨gb392, 2, none⟩) (rF_ (p := ⟨gb392, 1, none⟩) (rF_ (p := ⟨gb392, 0, none⟩) (Kd.R_types HO388.1 BK392.1 (by decide)) (fun _ hk => hk.2) (.slice Ao28 t381.length co28)) (fun _ hk => hk.2) (.int .i64 t384)) (fun _ hk => hk.2) (.int .i64 t385)) (fun _ hk => hk.2) (.slice Ao31 t386.length co31)) (fun _ hk => hk.2) (.int .i64 t389)) (fun _ hk => hk.2) (.int .i64 t390)) (fun _ hk => hk.2) (.int .i64 t391)) (fun _ h_ => h_.1))) hb); have n4_ := Am_ (kB_ (g := gb367) (o := .cells #[.slice A0_0 l0_0.length c0_0, .int .i64 a0_1, .int .i64 a0_2, .slice A0_3 l0_3.length c0_3, .int .i64 a0_4, .int .i64 a0_5, .int .i64 a0_6] 27 (0, 0)) (by (with_reducible repeat (first | refine kN_ ?_ _ | refine kD_ ?_ | refine kA_ ?_ _)); refine blk_far ?_ NB367_392.1 _; (with_reducible repeat (first | refine kN_ ?_ _ | refine kD_ ?_ | refine kA_ ?_ _)); refine blk_far ?_ NB367_392.1 _; (with_reducible repeat (first | refine kN_ ?_ _ | refine kD_ ?_ | refine kA_ ?_ _)); refine blk_far ?_ NB367_392.1 _; (with_reducible repeat (first | refine kN_ ?_ _ | refine kD_ ?_ | refine kA_ ?_ _)); refine blk_far ?_ NB367_392.1 _; (with_reducible repeat (first | refine kN_ ?_ _ | refine kD_ ?_ | refine kA_ ?_ _)); refine blk_far ?_ NB367_392.1 _; (with_reducible repeat (first | refine kN_ ?_ _ | refine kD_ ?_ | refine kA_ ?_ _)); refine blk_far ?_ NB367_392.1 _; (with_reducible repeat (first | refine kN_ ?_ _ | refine kD_ ?_ | refine kA_ ?_ _)); refine blk_far ?_ NB367_392.1 _; (with_reducible repeat (first | refine kN_ ?_ _ | refine kD_ ?_ | refine kA_ ?_ _)); exact BK367.1) hb); have n5_ := Am_ (kB_ (g := gb392) (o := .cells #[.slice Ao28 t381.length co28, .int .i64 t384, .int .i64 t385, .slice Ao31 t386.length co31, .int .i64 t389, .int .i64 t390, .int .i64 t391] 33 (0, 0)) (by (with_reducible repeat (first | refine kN_ ?_ _ | refine kD_ ?_ | refine kA_ ?_ _)); refine blk_put (cs := #[.slice Ao28 t381.length co28, .int .i64 t384, .int .i64 t385, .slice Ao31 t386.length co31, .int .i64 t389, .int .i64 t390, .int .i64 0]) ?_ 6 _ rfl; (with_reducible repeat (first | refine kN_ ?_ _ | refine kD_ ?_ | refine kA_ ?_ _)); refine blk_put (cs := #[.slice Ao28 t381.length co28, .int .i64 t384, .int .i64 t385, .slice Ao31 t386.length co31, .int .i64 t389, .int .i64 0, .int .i64 0]) ?_ 5 _ rfl; (with_reducible repeat (first | refine kN_ ?_ _ | refine kD_ ?_ | refine kA_ ?_ _)); refine blk_put (cs := #[.slice Ao28 t381.length co28, .int .i64 t384, .int .i64 t385, .slice Ao31 t386.length co31, .int .i64 0, .int .i64 0, .int .i64 0]) ?_ 4 _ rfl; (with_reducible repeat (first | refine kN_ ?_ _ | refine kD_ ?_ | refine kA_ ?_ _)); refine blk_put (cs := #[.slice Ao28 t381.length co28, .int .i64 t384, .int .i64 t385, .slice none 0 0, .int .i64 0, .int .i64 0, .int .i64 0]) ?_ 3 _ rfl; (with_reducible repeat (first | refine kN_ ?_ _ | refine kD_ ?_ | refine kA_ ?_ _)); refine blk_put (cs := #[.slice Ao28 t381.length co28, .int .i64 t384, .int .i64 0, .slice none 0 0, .int .i64 0, .int .i64 0, .int .i64 0]) ?_ 2 _ rfl; (with_reducible repeat (first | refine kN_ ?_ _ | refine kD_ ?_ | refine kA_ ?_ _)); refine blk_put (cs := #[.slice Ao28 t381.length co28, .int .i64 0, .int .i64 0, .slice none 0 0, .int .i64 0, .int .i64 0, .int .i64 0]) ?_ 1 _ rfl; (with_reducible repeat (first | refine kN_ ?_ _ | refine kD_ ?_ | refine kA_ ?_ _)); refine blk_put (cs := #[.slice none 0 0, .int .i64 0, .int .i64 0, .slice none 0 0, .int .i64 0, .int .i64 0, .int .i64 0]) ?_ 0 _ rfl; (with_reducible repeat (first | refine kN_ ?_ _ | refine kD_ ?_ | refine kA_ ?_ _)); exact BK392.1) hb); have n6_ := Am_ (bT_ (by repeat (first | (with_reducible first | exact HB.1 | apply bA_ | apply bN_ | apply bD_ | refine bS_ ?_ GE367.1 | refine bS_ ?_ GE392.1) | exact HB.1)) hb); clear HO371 HO376 HO383 HO388 BK367 BK392 HB; have HO371 := n0_; have HO376 := n1_; have HO383 := n2_; have HO388 := n3_; have BK367 := n4_; have BK392 := n5_; have HB := n6_; clear n0_ n1_ n2_ n3_ n4_ n5_ n6_; (try clear hb); (try clear hb2); (try clear hk); (try clear hi)))
    have n0_ := Am_ (rD_ HO371.1)
    have n1_ := Am_ (rD_ HO376.1)
    have n2_ := Am_ (rD_ HO383.1)
    have n3_ := Am_ (rD_ HO388.1)
    have n4_ := Am_ (kD_ BK367.1)
    have n5_ := Am_ (kD_ BK392.1)
    have n6_ := Am_ (bD_ HB.1)
    clear HO371
    clear HO376
    clear HO383
    clear HO388
    clear BK367
    clear BK392
    clear HB
    have HO371 := n0_
    have HO376 := n1_
    have HO383 := n2_
    have HO388 := n3_
    have BK367 := n4_
    have BK392 := n5_
    have HB := n6_
    clear n0_ n1_ n2_ n3_ n4_ n5_ n6_
    refine start_ (n := 5) (S := fun w' => w'.cell? ⟨gb392, 0, none⟩ = some (.slice Ao28 t381.length co28) ∧ w'.cell? ⟨gb392, 1, none⟩ = some (.int .i64 t384) ∧ w'.cell? ⟨gb392, 2, none⟩ = some (.int .i64 t385) ∧ w'.cell? ⟨gb392, 3, none⟩ = some (.slice Ao31 t386.length co31) ∧ w'.cell? ⟨gb392, 4, none⟩ = some (.int .i64 t389) ∧ w'.cell? ⟨gb392, 5, none⟩ = some (.int .i64 t390) ∧ w'.cell? ⟨gb392, 6, none⟩ = some (.int .i64 t391) ∧ w'.cell? ⟨gb367, 0, none⟩ = some (.slice A0_0 l0_0.length c0_0) ∧ w'.cell? ⟨gb367, 1, none⟩ = some (.int .i64 a0_1) ∧ w'.cell? ⟨gb367, 2, none⟩ = some (.int .i64 a0_2) ∧ w'.cell? ⟨gb367, 3, none⟩ = some (.slice A0_3 l0_3.length c0_3) ∧ w'.cell? ⟨gb367, 4, none⟩ = some (.int .i64 a0_4) ∧ w'.cell? ⟨gb367, 5, none⟩ = some (.int .i64 a0_5) ∧ w'.cell? ⟨gb367, 6, none⟩ = some (.int .i64 a0_6)) (ds := []) #[false, false, false, false, false] (by kernel_rfl) rfl rfl ⟨kC_ BK392.1 0, kC_ BK392.1 1, kC_ BK392.1 2, kC_ BK392.1 3, kC_ BK392.1 4, kC_ BK392.1 5, kC_ BK392.1 6, kC_ BK367.1 0, kC_ BK367.1 1, kC_ BK367.1 2, kC_ BK367.1 3, kC_ BK367.1 4, kC_ BK367.1 5, kC_ BK367.1 6⟩ (fun hHeld => ?_)
    generalize w32.drew = w33 at HO371 HO376 HO383 HO388 BK367 BK392 HB hHeld ⊢
    refine take_ (i := 0) (N := some 30) (v := ?_) (a' := ?_) #[true, false, false, false, false] rfl rfl (by kernel_rfl) (fun _ _ _ h => h) (Or.inl ⟨by rfl, ?_⟩) hHeld ?_ ?_
    rotate_left
    ·rintro w' ⟨s0, s1, s2, s3, s4, s5, s6, s7, s8, s9, s10, s11, s12, s13⟩
     go_simp
     with_reducible rfl
    rotate_left
    ·simp only [Act.put, List.setIfInBounds_toArray, List.set_cons_zero, List.set_cons_succ, i64_w, i32_w]
     rfl
    refine take_ (i := 1) (N := some 31) (v := ?_) (a' := ?_) #[true, true, false, false, false] rfl rfl (by kernel_rfl) (fun _ _ _ h => h) (Or.inl ⟨by rfl, ?_⟩) hHeld ?_ ?_
    rotate_left
    ·rintro w' ⟨s0, s1, s2, s3, s4, s5, s6, s7, s8, s9, s10, s11, s12, s13⟩
     go_simp
     with_reducible rfl
    rotate_left
    ·simp only [Act.put, List.setIfInBounds_toArray, List.set_cons_zero, List.set_cons_succ, i64_w, i32_w]
     rfl
    refine one_ (i := 2) (N := some 32) #[true, true, true, false, false] rfl rfl (by kernel_rfl) (by decide) (fun K hK => ?_)
    refine goes_ Try.func17 (by kernel_rfl) rfl #[.agg #[.slice A0_0 l0_0.length c0_0, .int .i64 a0_1, .int .i64 a0_2, .slice A0_3 l0_3.length c0_3, .int .i64 a0_4, .int .i64 a0_5, .int .i64 a0_6]] (by rfl) rfl rfl (by (try simp only [List.map_toArray, List.map_cons, List.map_nil]); first | done | rfl | (simp only [List.length_drop, List.length_take]; rfl)) ?_
    with_reducible refine (laws_toAir.calls k _ _ l0_0 a0_1 a0_2 _ _ l0_3 a0_4 a0_5 a0_6 t394 t397 t398 t399 t402 t403 t404 _ ?side1 ?side2 ?side3 ?side4 A14.1).mono ?_
    (case side1 => repeat (first | exact (Kd.C_below HR0_0.1 HB.1) | (with_reducible refine Kd.C_alloc ?_ _) | (with_reducible refine Kd.C_drewN ?_ _) | (with_reducible refine Kd.C_drew ?_)))
    (case side2 => exact HC0_0.1)
    (case side3 => repeat (first | exact (Kd.C_below HR0_3.1 HB.1) | (with_reducible refine Kd.C_alloc ?_ _) | (with_reducible refine Kd.C_drewN ?_ _) | (with_reducible refine Kd.C_drew ?_)))
    (case side4 => exact HC0_3.1)
    rintro e w34 ⟨v395, v400, rfl, ho0, ho1, hb⟩
    refine ⟨_, rfl, ?_⟩
    have n0_ := Am_ (Kd.R_elder' (by (with_reducible repeat (first | apply rA_ | apply rN_ | apply rD_)); exact HO371.1) (Kd.R_base ho0) hb)
    have n1_ := Am_ (Kd.R_elder' (by (with_reducible repeat (first | apply rA_ | apply rN_ | apply rD_)); exact HO376.1) (Kd.R_base ho1) hb)
    have n2_ := Am_ (Kd.R_elder' (by (with_reducible repeat (first | apply rA_ | apply rN_ | apply rD_)); exact HO383.1) (Kd.R_base ho0) hb)
    have n3_ := Am_ (Kd.R_elder' (by (with_reducible repeat (first | apply rA_ | apply rN_ | apply rD_)); exact HO388.1) (Kd.R_base ho1) hb)
    have n4_ := Am_ (Kd.R_lower (Kd.R_new' (Kd.R_new' ho0 (Kd.R_lt (by (with_reducible repeat (first | apply rA_ | apply rN_ | apply rD_)); exact HO371.1))) (Kd.R_lt (by (with_reducible repeat (first | apply rA_ | apply rN_ | apply rD_)); exact HO383.1))) (bZ_ (by repeat (first | (with_reducible first | exact HB.1 | apply bA_ | apply bN_ | apply bD_ | refine bS_ ?_ GE367.1 | refine bS_ ?_ GE392.1) | exact HB.1))))
    have n5_ := Am_ (Kd.R_lower (Kd.R_new' (Kd.R_new' ho1 (Kd.R_lt (by (with_reducible repeat (first | apply rA_ | apply rN_ | apply rD_)); exact HO376.1))) (Kd.R_lt (by (with_reducible repeat (first | apply rA_ | apply rN_ | apply rD_)); exact HO388.1))) (bZ_ (by repeat (first | (with_reducible first | exact HB.1 | apply bA_ | apply bN_ | apply bD_ | refine bS_ ?_ GE367.1 | refine bS_ ?_ GE392.1) | exact HB.1))))
    have n6_ := Am_ (kB_ (g := gb367) (by (with_reducible repeat (first | refine kN_ ?_ _ | refine kD_ ?_ | refine kA_ ?_ _)); exact BK367.1) hb)
    have n7_ := Am_ (kB_ (g := gb392) (by (with_reducible repeat (first | refine kN_ ?_ _ | refine kD_ ?_ | refine kA_ ?_ _)); exact BK392.1) hb)
    have n8_ := Am_ (bT_ (by repeat (first | (with_reducible first | exact HB.1 | apply bA_ | apply bN_ | apply bD_ | refine bS_ ?_ GE367.1 | refine bS_ ?_ GE392.1) | exact HB.1)) hb)
    clear HO371
    clear HO376
    clear HO383
    clear HO388
    clear BK367
    clear BK392
    clear HB
    have HO371 := n0_
    have HO376 := n1_
    have HO383 := n2_
    have HO388 := n3_
    have HO396 := n4_
    have HO401 := n5_
    have BK367 := n6_
    have BK392 := n7_
    have HB := n8_
    clear n0_ n1_ n2_ n3_ n4_ n5_ n6_ n7_ n8_
    (try clear hb)
    (try clear hb2)
    (try clear hk)
    (try clear hi)
    (try clear ho0)
    (try clear ho1)
    obtain ⟨Ao35, co35, eo35⟩ := Kd.R_slice HO396.1
    (first | subst eo35 | (injection eo35 with f1_ f2_ f3_; have f4_ := f1_.symm; have f5_ := f3_.symm; clear f1_ f2_ f3_; subst f4_; subst f5_))
    obtain ⟨Ao36, co36, eo36⟩ := Kd.R_slice HO401.1
    (first | subst eo36 | (injection eo36 with f1_ f2_ f3_; have f4_ := f1_.symm; have f5_ := f3_.symm; clear f1_ f2_ f3_; subst f4_; subst f5_))
    refine hK.out _ _ ⟨kC_ BK392.1 0, kC_ BK392.1 1, kC_ BK392.1 2, kC_ BK392.1 3, kC_ BK392.1 4, kC_ BK392.1 5, kC_ BK392.1 6, kC_ BK367.1 0, kC_ BK367.1 1, kC_ BK367.1 2, kC_ BK367.1 3, kC_ BK367.1 4, kC_ BK367.1 5, kC_ BK367.1 6⟩ (fun hHeld => ?_)
    clear hK K
    refine norm_ (a' := ?_) ?_ ?_
    rotate_left
    ·show Act.put _ (some 32) _ = _
     simp only [Act.put, List.setIfInBounds_toArray, List.set_cons_zero, List.set_cons_succ, i64_w, i32_w]
     rfl
    refine one_ (i := 3) (N := some 33) #[true, true, true, true, false] rfl rfl (by kernel_rfl) (by decide) (fun K hK => ?_)
    refine goes_ Try.func19 (by kernel_rfl) rfl #[.agg #[.slice Ao28 t381.length co28, .int .i64 t384, .int .i64 t385, .slice Ao31 t386.length co31, .int .i64 t389, .int .i64 t390, .int .i64 t391], .agg #[.slice Ao35 t394.length co35, .int .i64 t397, .int .i64 t398, .slice Ao36 t399.length co36, .int .i64 t402, .int .i64 t403, .int .i64 t404]] (by rfl) rfl rfl (by (try simp only [List.map_toArray, List.map_cons, List.map_nil]); first | done | rfl | (simp only [List.length_drop, List.length_take]; rfl)) ?_
    with_reducible refine (laws_eqAir.calls k _ _ t381 t384 t385 _ _ t386 t389 t390 t391 _ _ t394 t397 t398 _ _ t399 t402 t403 t404 true _ ?side1 ?side2 ?side3 ?side4 ?side5 ?side6 ?side7 ?side8 A15.1).mono ?_
    (case side1 => repeat (first | exact (Kd.R_reads' HO383.1).2.2 | (with_reducible refine Kd.C_alloc ?_ _) | (with_reducible refine Kd.C_drewN ?_ _) | (with_reducible refine Kd.C_drew ?_)))
    (case side2 => exact (Kd.R_reads' HO383.1).2.1)
    (case side3 => repeat (first | exact (Kd.R_reads' HO388.1).2.2 | (with_reducible refine Kd.C_alloc ?_ _) | (with_reducible refine Kd.C_drewN ?_ _) | (with_reducible refine Kd.C_drew ?_)))
    (case side4 => exact (Kd.R_reads' HO388.1).2.1)
    (case side5 => repeat (first | exact (Kd.R_reads' HO396.1).2.2 | (with_reducible refine Kd.C_alloc ?_ _) | (with_reducible refine Kd.C_drewN ?_ _) | (with_reducible refine Kd.C_drew ?_)))
    (case side6 => exact (Kd.R_reads' HO396.1).2.1)
    (case side7 => repeat (first | exact (Kd.R_reads' HO401.1).2.2 | (with_reducible refine Kd.C_alloc ?_ _) | (with_reducible refine Kd.C_drewN ?_ _) | (with_reducible refine Kd.C_drew ?_)))
    (case side8 => exact (Kd.R_reads' HO401.1).2.1)
    rintro e w37 ⟨rfl, hb⟩
    refine ⟨_, rfl, ?_⟩
    have n0_ := Am_ (Kd.R_below (by (with_reducible repeat (first | apply rA_ | apply rN_ | apply rD_)); exact HO371.1) hb)
    have n1_ := Am_ (Kd.R_below (by (with_reducible repeat (first | apply rA_ | apply rN_ | apply rD_)); exact HO376.1) hb)
    have n2_ := Am_ (Kd.R_below (by (with_reducible repeat (first | apply rA_ | apply rN_ | apply rD_)); exact HO383.1) hb)
    have n3_ := Am_ (Kd.R_below (by (with_reducible repeat (first | apply rA_ | apply rN_ | apply rD_)); exact HO388.1) hb)
    have n4_ := Am_ (Kd.R_below (by (with_reducible repeat (first | apply rA_ | apply rN_ | apply rD_)); exact HO396.1) hb)
    have n5_ := Am_ (Kd.R_below (by (with_reducible repeat (first | apply rA_ | apply rN_ | apply rD_)); exact HO401.1) hb)
    have n6_ := Am_ (kB_ (g := gb367) (by (with_reducible repeat (first | refine kN_ ?_ _ | refine kD_ ?_ | refine kA_ ?_ _)); exact BK367.1) hb)
    have n7_ := Am_ (kB_ (g := gb392) (by (with_reducible repeat (first | refine kN_ ?_ _ | refine kD_ ?_ | refine kA_ ?_ _)); exact BK392.1) hb)
    have n8_ := Am_ (bT_ (by repeat (first | (with_reducible first | exact HB.1 | apply bA_ | apply bN_ | apply bD_ | refine bS_ ?_ GE367.1 | refine bS_ ?_ GE392.1) | exact HB.1)) hb)
    clear HO371
    clear HO376
    clear HO383
    clear HO388
    clear HO396
    clear HO401
    clear BK367
    clear BK392
    clear HB
    have HO371 := n0_
    have HO376 := n1_
    have HO383 := n2_
    have HO388 := n3_
    have HO396 := n4_
    have HO401 := n5_
    have BK367 := n6_
    have BK392 := n7_
    have HB := n8_
    clear n0_ n1_ n2_ n3_ n4_ n5_ n6_ n7_ n8_
    (try clear hb)
    (try clear hb2)
    (try clear hk)
    (try clear hi)
    refine hK.out _ _ ⟨kC_ BK392.1 0, kC_ BK392.1 1, kC_ BK392.1 2, kC_ BK392.1 3, kC_ BK392.1 4, kC_ BK392.1 5, kC_ BK392.1 6, kC_ BK367.1 0, kC_ BK367.1 1, kC_ BK367.1 2, kC_ BK367.1 3, kC_ BK367.1 4, kC_ BK367.1 5, kC_ BK367.1 6⟩ (fun hHeld => ?_)
    clear hK K
    refine norm_ (a' := ?_) ?_ ?_
    rotate_left
    ·show Act.put _ (some 33) _ = _
     simp only [Act.put, List.setIfInBounds_toArray, List.set_cons_zero, List.set_cons_succ, i64_w, i32_w]
     rfl
    refine pure_ (i := 4) (N := some 34) (v := ?_) (a' := ?_) #[true, true, true, true, true] rfl rfl (by kernel_rfl) (fun _ _ _ h => h) (Or.inl ⟨by rfl, ?_⟩) ?_ ?_
    rotate_left
    ·intro w'
     go_simp
     with_reducible rfl
    rotate_left
    ·simp only [Act.put, List.setIfInBounds_toArray, List.set_cons_zero, List.set_cons_succ, i64_w, i32_w]
     rfl
    refine done_ (by kernel_rfl) ?_
    try go_wp2
    go_ret
    exact ⟨by first | rfl | (simp [errW_none, errW_some] <;> rfl) | (simp [*, errW_none, errW_some] <;> rfl), by repeat (first | (with_reducible first | exact HB.1 | apply bA_ | apply bN_ | apply bD_ | refine bS_ ?_ GE367.1 | refine bS_ ?_ GE392.1) | exact HB.1)⟩
   ·replace c16 := Bool.eq_false_iff.mpr c16
    subst c16
    have H1 : (some false) = some r := by rw [if_neg (show ¬ (false = true) by decide)] at H; exact H
    clear H
    have H := H1
    clear H1
    obtain rfl := Option.some.inj H
    exact absurd hT (by decide)
  ·rw [if_neg c13] at H
   have c13b0 : (t393 == t380) = false := beq_eq_false_iff_ne.mpr c13
   have c13b1 : (t393 != t380) = true := bne_iff_ne.mpr c13
   obtain rfl := Option.some.inj H
   exact absurd hT (by decide)

end Go.Proofs.Ytlkofdedkfmaeaa.XFnExactCountDelivered
