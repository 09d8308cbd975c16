/- The functions that the law reaches as plain Lean functions, and of each a proof that its call computes it. Conditions: those that each theorem names. -/
import Derived.Test.YtlkofdedkfmaeaaWS
import Derived.Test.YtlkofdedkfmaeaaXFnExactDeliveredInOrderx0
import Derived.Test.YtlkofdedkfmaeaaXFnExactDeliveredInOrderx9
namespace Go.Proofs.Ytlkofdedkfmaeaa.XFnExactDeliveredInOrder
open Go.RowKit Go.Proofs.YtlkofdedkfmaeaaW.PrintWords Go.Proofs.YtlkofdedkfmaeaaW.PrintLast Go.Proofs.YtlkofdedkfmaeaaW.PrintMore Go.Proofs.Ytlkofdedkfmaeaa.X
attribute [local go_sem] max2_int min2_int max_two min_two max_three min_three max_four min_four   -- for this text's walks alone
set_option linter.unusedVariables false
set_option linter.unusedSimpArgs false

/-! ### impl_DeliveredInOrder: function 29 -/
mutual
def impl_DeliveredInOrder.l0 : Nat → Int → Int → Bool → Int → List (S102) → Int → Int → Option (Bool)
 | 0, _, _, _, _, _, _, _ => none
 | k + 1, x1, x3, x9, x10, x22, x23, x24 => if x24 < x23 then (if 0 ≤ x24 then (if x24 < (x22.length : Int) then (if ((rd_T102 x22 x24).f0) = x1 then (impl_DeliveredInOrder.j1 k x1 x3 x9 x10 x22 x23 x24 (((rd_T102 x22 x24).f1) != x3) ((rd_T102 x22 x24).f0) ((rd_T102 x22 x24).f1) ((rd_T102 x22 x24).f2) ((rd_T102 x22 x24).f3)) else (impl_DeliveredInOrder.j1 k x1 x3 x9 x10 x22 x23 x24 true ((rd_T102 x22 x24).f0) ((rd_T102 x22 x24).f1) ((rd_T102 x22 x24).f2) ((rd_T102 x22 x24).f3))) else (none)) else (none)) else (some true)
def impl_DeliveredInOrder.j1 : Nat → Int → Int → Bool → Int → List (S102) → Int → Int → Bool → Int → Int → Int → List Int → Option (Bool)
 | 0, _, _, _, _, _, _, _, _, _, _, _, _ => none
 | k + 1, x1, x3, x9, x10, x22, x23, x24, x37, x370000, x370001, x370002, x370003 => if x37 = true then (impl_DeliveredInOrder.l0 k x1 x3 x9 x10 x22 x23 (wrap64 (x24 + 1))) else (if x9 = true then (if x370002 ≤ x10 then (some false) else (impl_DeliveredInOrder.l0 k x1 x3 true x370002 x22 x23 (wrap64 (x24 + 1)))) else (impl_DeliveredInOrder.l0 k x1 x3 true x370002 x22 x23 (wrap64 (x24 + 1))))
end
def impl_DeliveredInOrder.f (k : Nat) (l0_0 : List Int) (a0_1 : Int) (a0_2 : Int) (l0_3 : List (S97)) (a0_4 : Int) (a0_5 : Int) (a0_6 : Int) (a1 : Int) (a2 : Int) (a3 : Int) : Option (Bool) := (impl_isAirStation.f l0_0 a0_1 a0_2 l0_3 a0_4 a0_5 a0_6 a2).bind fun t366 => (if t366 = true then (if 0 ≤ a2 then (if a2 < (l0_3.length : Int) then (impl_DeliveredInOrder.l0 k a1 a3 false 0 ((rd_T97 l0_3 a2).f8) (((rd_T97 l0_3 a2).f8).length : Int) 0) else (none)) else (none)) else (some false))
theorem impl_DeliveredInOrder.mono_l : ∀ k, (∀ y0 y1 y2 y3 y4 y5 y6, LeO (impl_DeliveredInOrder.l0 k y0 y1 y2 y3 y4 y5 y6) (impl_DeliveredInOrder.l0 (k + 1) y0 y1 y2 y3 y4 y5 y6)) ∧ (∀ y0 y1 y2 y3 y4 y5 y6 y7 y8 y9 y10 y11, LeO (impl_DeliveredInOrder.j1 k y0 y1 y2 y3 y4 y5 y6 y7 y8 y9 y10 y11) (impl_DeliveredInOrder.j1 (k + 1) y0 y1 y2 y3 y4 y5 y6 y7 y8 y9 y10 y11))
 | 0 => ⟨fun _ _ _ _ _ _ _ r h => by simp [impl_DeliveredInOrder.l0] at h, fun _ _ _ _ _ _ _ _ _ _ _ _ r h => by simp [impl_DeliveredInOrder.j1] at h⟩
 | k + 1 => by
  obtain ⟨ih0, ih1⟩ := impl_DeliveredInOrder.mono_l k
  refine ⟨?_, ?_⟩
  ·intro y0 y1 y2 y3 y4 y5 y6
   unfold impl_DeliveredInOrder.l0
   repeat' first
   | (with_reducible exact ih0 _ _ _ _ _ _ _)
   | (with_reducible exact ih1 _ _ _ _ _ _ _ _ _ _ _ _)
   | (with_reducible exact LeO.refl _)
   | (with_reducible exact LeO.none _)
   | (with_reducible refine LeO.ite ?_ ?_)
   | (with_reducible refine LeO.bind ?_ (fun _ => ?_))
   | exact ih0 _ _ _ _ _ _ _
   | exact ih1 _ _ _ _ _ _ _ _ _ _ _ _
   | exact LeO.none _
   | refine LeO.ite ?_ ?_
   | refine LeO.bind ?_ (fun _ => ?_)
  ·intro y0 y1 y2 y3 y4 y5 y6 y7 y8 y9 y10 y11
   unfold impl_DeliveredInOrder.j1
   repeat' first
   | (with_reducible exact ih0 _ _ _ _ _ _ _)
   | (with_reducible exact ih1 _ _ _ _ _ _ _ _ _ _ _ _)
   | (with_reducible exact LeO.refl _)
   | (with_reducible exact LeO.none _)
   | (with_reducible refine LeO.ite ?_ ?_)
   | (with_reducible refine LeO.bind ?_ (fun _ => ?_))
   | exact ih0 _ _ _ _ _ _ _
   | exact ih1 _ _ _ _ _ _ _ _ _ _ _ _
   | exact LeO.none _
   | refine LeO.ite ?_ ?_
   | refine LeO.bind ?_ (fun _ => ?_)
theorem impl_DeliveredInOrder.mono : ∀ a0 a1 a2 a3 a4 a5 a6 a7 a8 a9 k, LeO (impl_DeliveredInOrder.f k a0 a1 a2 a3 a4 a5 a6 a7 a8 a9) (impl_DeliveredInOrder.f (k + 1) a0 a1 a2 a3 a4 a5 a6 a7 a8 a9) := by
 intro a0 a1 a2 a3 a4 a5 a6 a7 a8 a9 k
 obtain ⟨ih0, ih1⟩ := impl_DeliveredInOrder.mono_l k
 unfold impl_DeliveredInOrder.f
 repeat' first
   | (with_reducible exact ih0 _ _ _ _ _ _ _)
   | (with_reducible exact ih1 _ _ _ _ _ _ _ _ _ _ _ _)
   | (with_reducible exact LeO.refl _)
   | (with_reducible exact LeO.none _)
   | (with_reducible refine LeO.ite ?_ ?_)
   | (with_reducible refine LeO.bind ?_ (fun _ => ?_))
   | exact ih0 _ _ _ _ _ _ _
   | exact ih1 _ _ _ _ _ _ _ _ _ _ _ _
   | exact LeO.none _
   | refine LeO.ite ?_ ?_
   | refine LeO.bind ?_ (fun _ => ?_)
set_option maxHeartbeats 8000000 in
set_option maxRecDepth 100000 in
theorem impl_DeliveredInOrder.calls (k : Nat) (A0_0 : Option Addr) (c0_0 : Nat) (l0_0 : List Int) (a0_1 : Int) (a0_2 : Int) (A0_3 : Option Addr) (c0_3 : Nat) (l0_3 : List (S97)) (a0_4 : Int) (a0_5 : Int) (a0_6 : Int) (a1 : Int) (a2 : Int) (a3 : Int) (r : Bool) (w : World) (hr0_0 : Kd.C (Kd.int .i64) w A0_0 l0_0.length l0_0) (hc0_0 : l0_0.length ≤ c0_0) (hr0_3 : Kd.C k97 w A0_3 l0_3.length l0_3) (hc0_3 : l0_3.length ≤ c0_3) (h : impl_DeliveredInOrder.f k l0_0 a0_1 a0_2 l0_3 a0_4 a0_5 a0_6 a1 a2 a3 = some r) :
  Calls Try.prog 29 #[.agg #[.slice A0_0 l0_0.length c0_0, .int .i64 a0_1, .int .i64 a0_2, .slice A0_3 l0_3.length c0_3, .int .i64 a0_4, .int .i64 a0_5, .int .i64 a0_6], .int .i64 a1, .int .i64 a2, .int .i64 a3] w fun e w' => e = .returned (.bool r) ∧ Below w.heap.size w w' := by
 have hu33 := Try.underlying33
 have hu102 := Try.underlying102
 have HR0_0 := Am_ hr0_0
 have HC0_0 := Am_ hc0_0
 clear hr0_0 hc0_0
 have HR0_3 := Am_ hr0_3
 have HC0_3 := Am_ hc0_3
 clear hr0_3 hc0_3
 have HB := Am_ (Below.refl w.heap.size w)
 have H : ((impl_isAirStation.f l0_0 a0_1 a0_2 l0_3 a0_4 a0_5 a0_6 a2).bind fun t366 => (if t366 = true then (if 0 ≤ a2 then (if a2 < (l0_3.length : Int) then (impl_DeliveredInOrder.l0 k a1 a3 false 0 ((rd_T97 l0_3 a2).f8) (((rd_T97 l0_3 a2).f8).length : Int) 0) else (none)) else (none)) else (some false))) = some r := h
 clear h
 replace H := Option.bind_eq_some_iff.mp H
 obtain ⟨t366, A50, H⟩ := H
 replace H : (if t366 = true then (if 0 ≤ a2 then (if a2 < (l0_3.length : Int) then (impl_DeliveredInOrder.l0 k a1 a3 false 0 ((rd_T97 l0_3 a2).f8) (((rd_T97 l0_3 a2).f8).length : Int) 0) else (none)) else (none)) else (some false)) = some r := H
 have A5 := Am_ A50
 clear A50
 by_cases c6 : t366 = true
 ·subst c6
  have H1 : (if 0 ≤ a2 then (if a2 < (l0_3.length : Int) then (impl_DeliveredInOrder.l0 k a1 a3 false 0 ((rd_T97 l0_3 a2).f8) (((rd_T97 l0_3 a2).f8).length : Int) 0) else (none)) else (none)) = some r := by rw [if_pos rfl] at H; exact H
  clear H
  have H := H1
  clear H1
  by_cases c7 : 0 ≤ a2
  ·rw [if_pos c7] at H
   have c7b0 : decide (0 ≤ a2) = true := decide_eq_true c7
   clear c7
   by_cases c8 : a2 < (l0_3.length : Int)
   ·rw [if_pos c8] at H
    have c8b0 : decide (a2 < (l0_3.length : Int)) = true := decide_eq_true c8
    clear c8
    have H' := Am_ H
    clear H
    go_enter Try.func29, Try.ntmps29
    go_wp2_with (first | ((with_reducible refine gate_dst (N := 4) rfl ?_); refine box_event ?hg (N := 4) ?hd (cs := #[.slice A0_0 l0_0.length c0_0, .int .i64 a0_1, .int .i64 a0_2, .slice A0_3 l0_3.length c0_3, .int .i64 a0_4, .int .i64 a0_5, .int .i64 a0_6]) (t := 33) ?hr ?_; (case hd => rfl); (case hg => rfl); (case hr => first | (go_simp; done) | (go_simp; rfl)); intro gb365 hg w9 hbox hb; have n0_ := Am_ (bT_ (by repeat (first | (with_reducible first | exact HB.1 | apply bA_ | apply bN_ | apply bD_) | exact HB.1)) hb); have n1_ := Am_ (hbox); have n2_ := Am_ ((by rw [hg]; exact (bZ_ (by repeat (first | (with_reducible first | exact HB.1 | apply bA_ | apply bN_ | apply bD_) | exact HB.1))) : w.heap.size ≤ gb365)); have n3_ := Am_ ((by rw [hg]; exact (bZ_ (by repeat (first | (with_reducible first | exact HB.1 | apply bA_ | apply bN_ | apply bD_) | exact HB.1))) : w.heap.size ≤ gb365)); clear HB; have HB := n0_; have BK365 := n1_; have GW365 := n2_; have GE365 := n3_; clear n0_ n1_ n2_ n3_ hb hbox hg; have hcz10_0 : w9.cell? ⟨gb365, 0, none⟩ = some (.slice A0_0 l0_0.length c0_0) := kC_ BK365.1 0; have hcz10_1 : w9.cell? ⟨gb365, 1, none⟩ = some (.int .i64 a0_1) := kC_ BK365.1 1; have hcz10_2 : w9.cell? ⟨gb365, 2, none⟩ = some (.int .i64 a0_2) := kC_ BK365.1 2; have hcz10_3 : w9.cell? ⟨gb365, 3, none⟩ = some (.slice A0_3 l0_3.length c0_3) := kC_ BK365.1 3; have hcz10_4 : w9.cell? ⟨gb365, 4, none⟩ = some (.int .i64 a0_4) := kC_ BK365.1 4; have hcz10_5 : w9.cell? ⟨gb365, 5, none⟩ = some (.int .i64 a0_5) := kC_ BK365.1 5; have hcz10_6 : w9.cell? ⟨gb365, 6, none⟩ = some (.int .i64 a0_6) := kC_ BK365.1 6; have hfz10_0 := kF_ BK365.1 0; have hfz10_1 := kF_ BK365.1 1; have hfz10_2 := kF_ BK365.1 2; have hfz10_3 := kF_ BK365.1 3; have hfz10_4 := kF_ BK365.1 4; have hfz10_5 := kF_ BK365.1 5; have hfz10_6 := kF_ BK365.1 6) | ((with_reducible refine gate_callee (f := 70) rfl ?_); refine goesL_ (some 15) rfl rfl Try.func70 (by kernel_rfl) rfl #[.agg #[.slice A0_0 l0_0.length c0_0, .int .i64 a0_1, .int .i64 a0_2, .slice A0_3 l0_3.length c0_3, .int .i64 a0_4, .int .i64 a0_5, .int .i64 a0_6], .int .i64 a2] rfl (by (try simp only [List.map_toArray, List.map_cons, List.map_nil]); first | done | rfl | (simp only [List.length_drop, List.length_take]; rfl)) ?_; (with_reducible refine (impl_isAirStation.calls _ _ l0_0 a0_1 a0_2 _ _ l0_3 a0_4 a0_5 a0_6 a2 true _ ?side1 ?side2 ?side3 ?side4 A5.1).mono ?_); (case side1 => repeat (first | exact (Kd.C_below HR0_0.1 HB.1) | (with_reducible refine Kd.C_alloc ?_ _) | (with_reducible refine Kd.C_drewN ?_ _) | (with_reducible refine Kd.C_drew ?_))); (case side2 => exact HC0_0.1); (case side3 => repeat (first | exact (Kd.C_below HR0_3.1 HB.1) | (with_reducible refine Kd.C_alloc ?_ _) | (with_reducible refine Kd.C_drewN ?_ _) | (with_reducible refine Kd.C_drew ?_))); (case side4 => exact HC0_3.1); rintro e w11 ⟨rfl, hb⟩; refine ⟨_, rfl, ?_⟩; have n0_ := Am_ (kB_ (g := gb365) (by (with_reducible repeat (first | refine kN_ ?_ _ | refine kD_ ?_ | refine kA_ ?_ _)); exact BK365.1) hb); have n1_ := Am_ (bT_ (by repeat (first | (with_reducible first | exact HB.1 | apply bA_ | apply bN_ | apply bD_ | refine bS_ ?_ GE365.1) | exact HB.1)) hb); clear BK365 HB; have BK365 := n0_; have HB := n1_; clear n0_ n1_; (try clear hb); (try clear hb2); (try clear hk); (try clear hi); have hcz12_0 : w11.cell? ⟨gb365, 0, none⟩ = some (.slice A0_0 l0_0.length c0_0) := kC_ BK365.1 0; have hcz12_1 : w11.cell? ⟨gb365, 1, none⟩ = some (.int .i64 a0_1) := kC_ BK365.1 1; have hcz12_2 : w11.cell? ⟨gb365, 2, none⟩ = some (.int .i64 a0_2) := kC_ BK365.1 2; have hcz12_3 : w11.cell? ⟨gb365, 3, none⟩ = some (.slice A0_3 l0_3.length c0_3) := kC_ BK365.1 3; have hcz12_4 : w11.cell? ⟨gb365, 4, none⟩ = some (.int .i64 a0_4) := kC_ BK365.1 4; have hcz12_5 : w11.cell? ⟨gb365, 5, none⟩ = some (.int .i64 a0_5) := kC_ BK365.1 5; have hcz12_6 : w11.cell? ⟨gb365, 6, none⟩ = some (.int .i64 a0_6) := kC_ BK365.1 6; have hfz12_0 := kF_ BK365.1 0; have hfz12_1 := kF_ BK365.1 1; have hfz12_2 := kF_ BK365.1 2; have hfz12_3 := kF_ BK365.1 3; have hfz12_4 := kF_ BK365.1 4; have hfz12_5 := kF_ BK365.1 5; have hfz12_6 := kF_ BK365.1 6; have p367 : 0 ≤ (a2 : Int) := of_decide_eq_true (by first | (with_reducible assumption) | assumption); have q367 : a2 < (l0_3.length : Int) := of_decide_eq_true (by first | (with_reducible assumption) | assumption); obtain ⟨ad367, A367_0, c367_0, A367_6, c367_6, A367_17, c367_17, A367_20, c367_20, A367_21, c367_21, e367, hx367_0, hx367_1, hx367_2, hx367_3, hx367_4, hx367_5, hx367_6, hx367_7, hx367_8, hx367_9, hx367_10, hx367_11, hx367_12, hx367_13, hx367_14, hx367_15, hx367_16, hx367_17, hx367_18, hx367_19, hx367_20, hx367_21, hl367_0, hi367_0, hl367_6, hi367_6, hl367_17, hi367_17, hl367_20, hi367_20, hl367_21, hi367_21⟩ := at_T97 HR0_3.1 a2 p367 q367; cases e367; replace hx367_0 := (HB.1.cell (World.block_lt_of_cell? w _ hx367_0)).trans hx367_0; replace hx367_1 := (HB.1.cell (World.block_lt_of_cell? w _ hx367_1)).trans hx367_1; replace hx367_2 := (HB.1.cell (World.block_lt_of_cell? w _ hx367_2)).trans hx367_2; replace hx367_3 := (HB.1.cell (World.block_lt_of_cell? w _ hx367_3)).trans hx367_3; replace hx367_4 := (HB.1.cell (World.block_lt_of_cell? w _ hx367_4)).trans hx367_4; replace hx367_5 := (HB.1.cell (World.block_lt_of_cell? w _ hx367_5)).trans hx367_5; replace hx367_6 := (HB.1.cell (World.block_lt_of_cell? w _ hx367_6)).trans hx367_6; replace hx367_7 := (HB.1.cell (World.block_lt_of_cell? w _ hx367_7)).trans hx367_7; replace hx367_8 := (HB.1.cell (World.block_lt_of_cell? w _ hx367_8)).trans hx367_8; replace hx367_9 := (HB.1.cell (World.block_lt_of_cell? w _ hx367_9)).trans hx367_9; replace hx367_10 := (HB.1.cell (World.block_lt_of_cell? w _ hx367_10)).trans hx367_10; replace hx367_11 := (HB.1.cell (World.block_lt_of_cell? w _ hx367_11)).trans hx367_11; replace hx367_12 := (HB.1.cell (World.block_lt_of_cell? w _ hx367_12)).trans hx367_12; replace hx367_13 := (HB.1.cell (World.block_lt_of_cell? w _ hx367_13)).trans hx367_13; replace hx367_14 := (HB.1.cell (World.block_lt_of_cell? w _ hx367_14)).trans hx367_14; replace hx367_15 := (HB.1.cell (World.block_lt_of_cell? w _ hx367_15)).trans hx367_15; replace hx367_16 := (HB.1.cell (World.block_lt_of_cell? w _ hx367_16)).trans hx367_16; replace hx367_17 := (HB.1.cell (World.block_lt_of_cell? w _ hx367_17)).trans hx367_17; replace hx367_18 := (HB.1.cell (World.block_lt_of_cell? w _ hx367_18)).trans hx367_18; replace hx367_19 := (HB.1.cell (World.block_lt_of_cell? w _ hx367_19)).trans hx367_19; replace hx367_20 := (HB.1.cell (World.block_lt_of_cell? w _ hx367_20)).trans hx367_20; replace hx367_21 := (HB.1.cell (World.block_lt_of_cell? w _ hx367_21)).trans hx367_21; have HR367_0 := Am_ hi367_0; have HC367_0 := Am_ hl367_0; clear hi367_0 hl367_0; have HR367_6 := Am_ hi367_6; have HC367_6 := Am_ hl367_6; clear hi367_6 hl367_6; have HR367_17 := Am_ hi367_17; have HC367_17 := Am_ hl367_17; clear hi367_17 hl367_17; have HR367_20 := Am_ hi367_20; have HC367_20 := Am_ hl367_20; clear hi367_20 hl367_20; have HR367_21 := Am_ hi367_21; have HC367_21 := Am_ hl367_21; clear hi367_21 hl367_21; replace p367 := eq_true p367; replace q367 := eq_true q367))
    go_loopg [9, 10, 24] k (fun kq v9 v10 v24 w' => ∃ (x9_1 : Bool) (x10_1 : Int) (x24_1 : Int), v9 = .bool x9_1 ∧ v10 = .int .i64 x10_1 ∧ v24 = .int .i64 x24_1 ∧ Aside0 (impl_DeliveredInOrder.l0 kq a1 a3 x9_1 x10_1 ((rd_T97 l0_3 a2).f8) (((rd_T97 l0_3 a2).f8).length : Int) x24_1 = some r) ∧ Aside0 (kq ≤ k) ∧ Aside0 (w'.heap[gb365]? = some (.cells #[(.slice A0_0 l0_0.length c0_0), .int .i64 a0_1, .int .i64 a0_2, (.slice (some ad367) l0_3.length c0_3), .int .i64 a0_4, .int .i64 a0_5, .int .i64 a0_6] 33 (0, 0))) ∧ Aside0 (Below w.heap.size w w'))
    case atStart => exact ⟨(false), (0), (0), (by first | rfl | (simp; done) | (simp [*]; done)), (by first | rfl | (simp; done) | (simp [*]; done)), (by first | rfl | (simp; done) | (simp [*]; done)), H', ⟨Nat.le_refl _⟩, ⟨by (with_reducible repeat (first | refine kN_ ?_ _ | refine kD_ ?_ | refine kA_ ?_ _)); exact BK365.1⟩, ⟨by repeat (first | (with_reducible first | exact HB.1 | apply bA_ | apply bN_ | apply bD_ | refine bS_ ?_ GE365.1) | exact HB.1)⟩⟩
    case round =>
     clear H'
     try clear c2
     try clear p2
     try clear c3
     try clear p3
     try clear q3
     try clear hx3
     try clear c6
     try clear c7
     try clear c7b0
     try clear c8
     try clear c8b0
     try clear hcz10_0
     try clear hcz10_1
     try clear hcz10_2
     try clear hcz10_3
     try clear hcz10_4
     try clear hcz10_5
     try clear hcz10_6
     try clear hcz12_0
     try clear hcz12_1
     try clear hcz12_2
     try clear hcz12_3
     try clear hcz12_4
     try clear hcz12_5
     try clear hcz12_6
     try clear hfz10_0
     try clear hfz10_1
     try clear hfz10_2
     try clear hfz10_3
     try clear hfz10_4
     try clear hfz10_5
     try clear hfz10_6
     try clear hfz12_0
     try clear hfz12_1
     try clear hfz12_2
     try clear hfz12_3
     try clear hfz12_4
     try clear hfz12_5
     try clear hfz12_6
     try clear hx367_0
     try clear hx367_1
     try clear hx367_10
     try clear hx367_11
     try clear hx367_12
     try clear hx367_13
     try clear hx367_14
     try clear hx367_15
     try clear hx367_16
     try clear hx367_17
     try clear hx367_18
     try clear hx367_19
     try clear hx367_2
     try clear hx367_20
     try clear hx367_21
     try clear hx367_3
     try clear hx367_4
     try clear hx367_5
     try clear hx367_6
     try clear hx367_7
     try clear hx367_8
     try clear hx367_9
     try clear p367
     try clear q367
     obtain ⟨x9_1, x10_1, x24_1, rfl, rfl, rfl, HA, HK1, BK365, HB⟩ := hrel
     cases gk with
     | zero => exact absurd HA.1 (by simp [impl_DeliveredInOrder.l0])
     | succ k1 =>
      have H := HA.1
      clear HA
      simp only [impl_DeliveredInOrder.l0] at H
      by_cases c13 : x24_1 < (((rd_T97 l0_3 a2).f8).length : Int)
      ·rw [if_pos c13] at H
       have c13b0 : decide (x24_1 < (((rd_T97 l0_3 a2).f8).length : Int)) = true := decide_eq_true c13
       clear c13
       by_cases c14 : 0 ≤ x24_1
       ·rw [if_pos c14] at H
        have c14b0 : decide (0 ≤ x24_1) = true := decide_eq_true c14
        clear c14
        by_cases c15 : x24_1 < (((rd_T97 l0_3 a2).f8).length : Int)
        ·rw [if_pos c15] at H
         have c15b0 : decide (x24_1 < (((rd_T97 l0_3 a2).f8).length : Int)) = true := decide_eq_true c15
         clear c15
         have HC16 := Am_ H
         clear H
         have p368 : 0 ≤ (x24_1 : Int) := of_decide_eq_true (by first | (with_reducible assumption) | assumption)
         have q368 : x24_1 < (((rd_T97 l0_3 a2).f8).length : Int) := of_decide_eq_true (by first | (with_reducible assumption) | assumption)
         obtain ⟨ad368, A368_3, c368_3, e368, hx368_0, hx368_1, hx368_2, hx368_3, hl368_3, hi368_3⟩ := at_T102 HR367_21.1 x24_1 p368 q368
         cases e368
         replace hx368_0 := (HB.1.cell (World.block_lt_of_cell? w _ hx368_0)).trans hx368_0
         replace hx368_1 := (HB.1.cell (World.block_lt_of_cell? w _ hx368_1)).trans hx368_1
         replace hx368_2 := (HB.1.cell (World.block_lt_of_cell? w _ hx368_2)).trans hx368_2
         replace hx368_3 := (HB.1.cell (World.block_lt_of_cell? w _ hx368_3)).trans hx368_3
         have HR368_3 := Am_ hi368_3
         have HC368_3 := Am_ hl368_3
         clear hi368_3 hl368_3
         replace p368 := eq_true p368
         replace q368 := eq_true q368
         go_upto_region 8 with (first | ((with_reducible refine gate_dst (N := 12) rfl ?_); refine box_event ?hg (N := 12) ?hd (cs := #[.int .i64 0, .int .i64 0, .int .i64 0, .slice none 0 0]) (t := 102) ?hr ?_; (case hd => rfl); (case hg => rfl); (case hr => first | (go_simp; done) | (go_simp; rfl)); intro gb369 hg w17 hbox hb; have n0_ := Am_ (kB_ (g := gb365) (by (with_reducible repeat (first | refine kN_ ?_ _ | refine kD_ ?_ | refine kA_ ?_ _)); exact BK365.1) hb); have n1_ := Am_ (bT_ (by repeat (first | (with_reducible first | exact HB.1 | apply bA_ | apply bN_ | apply bD_ | refine bS_ ?_ GE365.1) | exact HB.1)) hb); have n2_ := Am_ (hbox); have n3_ := Am_ ((by rw [hg]; exact (bZ_ (by repeat (first | (with_reducible first | exact HB.1 | apply bA_ | apply bN_ | apply bD_ | refine bS_ ?_ GE365.1) | exact HB.1))) : w.heap.size ≤ gb369)); have n4_ := Am_ ((by rw [hg]; exact (bZ_ (by repeat (first | (with_reducible first | exact HB.1 | apply bA_ | apply bN_ | apply bD_ | refine bS_ ?_ GE365.1) | exact HB.1))) : w.heap.size ≤ gb369)); have n5_ := Am_ ((by rw [hg]; exact Nat.ne_of_lt (blk_lt (g := gb365) (by (with_reducible repeat (first | refine kN_ ?_ _ | refine kD_ ?_ | refine kA_ ?_ _)); exact BK365.1)) : gb365 ≠ gb369)); have n6_ := Am_ ((by rw [hg]; exact Nat.ne_of_gt (blk_lt (g := gb365) (by (with_reducible repeat (first | refine kN_ ?_ _ | refine kD_ ?_ | refine kA_ ?_ _)); exact BK365.1)) : gb369 ≠ gb365)); clear BK365 HB; have BK365 := n0_; have HB := n1_; have BK369 := n2_; have GW369 := n3_; have GE369 := n4_; have NB365_369 := n5_; have NB369_365 := n6_; clear n0_ n1_ n2_ n3_ n4_ n5_ n6_ hb hbox hg; have hnb18 := NB369_365.1; have hnc18 := NB365_369.1; have hcz19_0 : w17.cell? ⟨gb369, 0, none⟩ = some (.int .i64 0) := kC_ BK369.1 0; have hcz19_1 : w17.cell? ⟨gb369, 1, none⟩ = some (.int .i64 0) := kC_ BK369.1 1; have hcz19_2 : w17.cell? ⟨gb369, 2, none⟩ = some (.int .i64 0) := kC_ BK369.1 2; have hcz19_3 : w17.cell? ⟨gb369, 3, none⟩ = some (.slice none 0 0) := kC_ BK369.1 3; have hfz19_0 := kF_ BK369.1 0; have hfz19_1 := kF_ BK369.1 1; have hfz19_2 := kF_ BK369.1 2; have hfz19_3 := kF_ BK369.1 3))
         (try simp only [Act.put, List.setIfInBounds_toArray, List.set_cons_zero, List.set_cons_succ])
         go_cut [37] (fun v37 wc => ∃ (kq : Nat) (x37_15 : Bool), v37 = .bool x37_15 ∧ Aside0 (impl_DeliveredInOrder.j1 kq a1 a3 x9_1 x10_1 ((rd_T97 l0_3 a2).f8) (((rd_T97 l0_3 a2).f8).length : Int) x24_1 x37_15 ((rd_T102 ((rd_T97 l0_3 a2).f8) x24_1).f0) ((rd_T102 ((rd_T97 l0_3 a2).f8) x24_1).f1) ((rd_T102 ((rd_T97 l0_3 a2).f8) x24_1).f2) ((rd_T102 ((rd_T97 l0_3 a2).f8) x24_1).f3) = some r) ∧ Aside0 (kq ≤ k1) ∧ Aside0 (wc.heap[gb365]? = some (.cells #[(.slice A0_0 l0_0.length c0_0), .int .i64 a0_1, .int .i64 a0_2, (.slice (some ad367) l0_3.length c0_3), .int .i64 a0_4, .int .i64 a0_5, .int .i64 a0_6] 33 (0, 0))) ∧ Aside0 (wc.heap[gb369]? = some (.cells #[.int .i64 ((rd_T102 ((rd_T97 l0_3 a2).f8) x24_1).f0), .int .i64 ((rd_T102 ((rd_T97 l0_3 a2).f8) x24_1).f1), .int .i64 ((rd_T102 ((rd_T97 l0_3 a2).f8) x24_1).f2), (.slice A368_3 ((rd_T102 ((rd_T97 l0_3 a2).f8) x24_1).f3).length c368_3)] 102 (0, 0))) ∧ Aside0 (Below w.heap.size w wc))
         case first =>
          have H := HC16.1
          clear HC16
          by_cases c20 : ((rd_T102 ((rd_T97 l0_3 a2).f8) x24_1).f0) = a1
          ·rw [if_pos c20] at H
           have c20b0 : (((rd_T102 ((rd_T97 l0_3 a2).f8) x24_1).f0) == a1) = true := beq_iff_eq.mpr c20
           have c20b1 : (((rd_T102 ((rd_T97 l0_3 a2).f8) x24_1).f0) != a1) = false := bne_eq_false_iff_eq.mpr c20
           clear c20
           (first | rw [c20b0] | (simp only [i64_w, i32_w]; rw [c20b0]) | skip)
           have H' := Am_ H
           clear H
           have hnb21 := NB369_365.1
           have hnc21 := NB365_369.1
           have hcz22_0 : w17.cell? ⟨gb369, 0, none⟩ = some (.int .i64 0) := kC_ BK369.1 0
           have hcz22_1 : w17.cell? ⟨gb369, 1, none⟩ = some (.int .i64 0) := kC_ BK369.1 1
           have hcz22_2 : w17.cell? ⟨gb369, 2, none⟩ = some (.int .i64 0) := kC_ BK369.1 2
           have hcz22_3 : w17.cell? ⟨gb369, 3, none⟩ = some (.slice none 0 0) := kC_ BK369.1 3
           have hfz22_0 := kF_ BK369.1 0
           have hfz22_1 := kF_ BK369.1 1
           have hfz22_2 := kF_ BK369.1 2
           have hfz22_3 := kF_ BK369.1 3
           go_wp2
           go_meet
           case rel => exact ⟨_, ((((rd_T102 ((rd_T97 l0_3 a2).f8) x24_1).f1) != a3)), (by first | rfl | (simp; done) | (simp [*]; done)), H', ⟨by have := HK1.1; first | omega | exact Nat.le_refl _⟩, ⟨by (with_reducible repeat (first | refine kN_ ?_ _ | refine kD_ ?_ | refine kA_ ?_ _)); refine blk_far ?_ NB365_369.1 _; (with_reducible repeat (first | refine kN_ ?_ _ | refine kD_ ?_ | refine kA_ ?_ _)); refine blk_far ?_ NB365_369.1 _; (with_reducible repeat (first | refine kN_ ?_ _ | refine kD_ ?_ | refine kA_ ?_ _)); refine blk_far ?_ NB365_369.1 _; (with_reducible repeat (first | refine kN_ ?_ _ | refine kD_ ?_ | refine kA_ ?_ _)); refine blk_far ?_ NB365_369.1 _; (with_reducible repeat (first | refine kN_ ?_ _ | refine kD_ ?_ | refine kA_ ?_ _)); exact BK365.1⟩, ⟨by (with_reducible repeat (first | refine kN_ ?_ _ | refine kD_ ?_ | refine kA_ ?_ _)); refine blk_put (cs := #[.int .i64 ((rd_T102 ((rd_T97 l0_3 a2).f8) x24_1).f0), .int .i64 ((rd_T102 ((rd_T97 l0_3 a2).f8) x24_1).f1), .int .i64 ((rd_T102 ((rd_T97 l0_3 a2).f8) x24_1).f2), .slice none 0 0]) ?_ 3 _ rfl; (with_reducible repeat (first | refine kN_ ?_ _ | refine kD_ ?_ | refine kA_ ?_ _)); refine blk_put (cs := #[.int .i64 ((rd_T102 ((rd_T97 l0_3 a2).f8) x24_1).f0), .int .i64 ((rd_T102 ((rd_T97 l0_3 a2).f8) x24_1).f1), .int .i64 0, .slice none 0 0]) ?_ 2 _ rfl; (with_reducible repeat (first | refine kN_ ?_ _ | refine kD_ ?_ | refine kA_ ?_ _)); refine blk_put (cs := #[.int .i64 ((rd_T102 ((rd_T97 l0_3 a2).f8) x24_1).f0), .int .i64 0, .int .i64 0, .slice none 0 0]) ?_ 1 _ rfl; (with_reducible repeat (first | refine kN_ ?_ _ | refine kD_ ?_ | refine kA_ ?_ _)); refine blk_put (cs := #[.int .i64 0, .int .i64 0, .int .i64 0, .slice none 0 0]) ?_ 0 _ rfl; (with_reducible repeat (first | refine kN_ ?_ _ | refine kD_ ?_ | refine kA_ ?_ _)); exact BK369.1⟩, ⟨by repeat (first | (with_reducible first | exact HB.1 | apply bA_ | apply bN_ | apply bD_ | refine bS_ ?_ GE365.1 | refine bS_ ?_ GE369.1) | exact HB.1)⟩⟩
          ·rw [if_neg c20] at H
           have c20b0 : (((rd_T102 ((rd_T97 l0_3 a2).f8) x24_1).f0) == a1) = false := beq_eq_false_iff_ne.mpr c20
           have c20b1 : (((rd_T102 ((rd_T97 l0_3 a2).f8) x24_1).f0) != a1) = true := bne_iff_ne.mpr c20
           (first | rw [c20b0] | (simp only [i64_w, i32_w]; rw [c20b0]) | skip)
           have H' := Am_ H
           clear H
           have hnb23 := NB369_365.1
           have hnc23 := NB365_369.1
           have hcz24_0 : w17.cell? ⟨gb369, 0, none⟩ = some (.int .i64 0) := kC_ BK369.1 0
           have hcz24_1 : w17.cell? ⟨gb369, 1, none⟩ = some (.int .i64 0) := kC_ BK369.1 1
           have hcz24_2 : w17.cell? ⟨gb369, 2, none⟩ = some (.int .i64 0) := kC_ BK369.1 2
           have hcz24_3 : w17.cell? ⟨gb369, 3, none⟩ = some (.slice none 0 0) := kC_ BK369.1 3
           have hfz24_0 := kF_ BK369.1 0
           have hfz24_1 := kF_ BK369.1 1
           have hfz24_2 := kF_ BK369.1 2
           have hfz24_3 := kF_ BK369.1 3
           go_wp2
           go_meet
           case rel => exact ⟨_, (true), (by first | rfl | (simp; done) | (simp [*]; done)), H', ⟨by have := HK1.1; first | omega | exact Nat.le_refl _⟩, ⟨by (with_reducible repeat (first | refine kN_ ?_ _ | refine kD_ ?_ | refine kA_ ?_ _)); refine blk_far ?_ NB365_369.1 _; (with_reducible repeat (first | refine kN_ ?_ _ | refine kD_ ?_ | refine kA_ ?_ _)); refine blk_far ?_ NB365_369.1 _; (with_reducible repeat (first | refine kN_ ?_ _ | refine kD_ ?_ | refine kA_ ?_ _)); refine blk_far ?_ NB365_369.1 _; (with_reducible repeat (first | refine kN_ ?_ _ | refine kD_ ?_ | refine kA_ ?_ _)); refine blk_far ?_ NB365_369.1 _; (with_reducible repeat (first | refine kN_ ?_ _ | refine kD_ ?_ | refine kA_ ?_ _)); exact BK365.1⟩, ⟨by (with_reducible repeat (first | refine kN_ ?_ _ | refine kD_ ?_ | refine kA_ ?_ _)); refine blk_put (cs := #[.int .i64 ((rd_T102 ((rd_T97 l0_3 a2).f8) x24_1).f0), .int .i64 ((rd_T102 ((rd_T97 l0_3 a2).f8) x24_1).f1), .int .i64 ((rd_T102 ((rd_T97 l0_3 a2).f8) x24_1).f2), .slice none 0 0]) ?_ 3 _ rfl; (with_reducible repeat (first | refine kN_ ?_ _ | refine kD_ ?_ | refine kA_ ?_ _)); refine blk_put (cs := #[.int .i64 ((rd_T102 ((rd_T97 l0_3 a2).f8) x24_1).f0), .int .i64 ((rd_T102 ((rd_T97 l0_3 a2).f8) x24_1).f1), .int .i64 0, .slice none 0 0]) ?_ 2 _ rfl; (with_reducible repeat (first | refine kN_ ?_ _ | refine kD_ ?_ | refine kA_ ?_ _)); refine blk_put (cs := #[.int .i64 ((rd_T102 ((rd_T97 l0_3 a2).f8) x24_1).f0), .int .i64 0, .int .i64 0, .slice none 0 0]) ?_ 1 _ rfl; (with_reducible repeat (first | refine kN_ ?_ _ | refine kD_ ?_ | refine kA_ ?_ _)); refine blk_put (cs := #[.int .i64 0, .int .i64 0, .int .i64 0, .slice none 0 0]) ?_ 0 _ rfl; (with_reducible repeat (first | refine kN_ ?_ _ | refine kD_ ?_ | refine kA_ ?_ _)); exact BK369.1⟩, ⟨by repeat (first | (with_reducible first | exact HB.1 | apply bA_ | apply bN_ | apply bD_ | refine bS_ ?_ GE365.1 | refine bS_ ?_ GE369.1) | exact HB.1)⟩⟩
         case rest =>
          clear HC16
          try clear c1
          try clear c2
          try clear p2
          try clear c3
          try clear p3
          try clear q3
          try clear hx3
          try clear c6
          try clear c7
          try clear c7b0
          try clear c8
          try clear c8b0
          try clear c13
          try clear c13b0
          try clear c14
          try clear c14b0
          try clear c15
          try clear c15b0
          try clear c18
          try clear c20
          try clear c20b0
          try clear c20b1
          try clear c21
          try clear c23
          try clear hcz10_0
          try clear hcz10_1
          try clear hcz10_2
          try clear hcz10_3
          try clear hcz10_4
          try clear hcz10_5
          try clear hcz10_6
          try clear hcz12_0
          try clear hcz12_1
          try clear hcz12_2
          try clear hcz12_3
          try clear hcz12_4
          try clear hcz12_5
          try clear hcz12_6
          try clear hcz19_0
          try clear hcz19_1
          try clear hcz19_2
          try clear hcz19_3
          try clear hcz22_0
          try clear hcz22_1
          try clear hcz22_2
          try clear hcz22_3
          try clear hcz24_0
          try clear hcz24_1
          try clear hcz24_2
          try clear hcz24_3
          try clear hfz10_0
          try clear hfz10_1
          try clear hfz10_2
          try clear hfz10_3
          try clear hfz10_4
          try clear hfz10_5
          try clear hfz10_6
          try clear hfz12_0
          try clear hfz12_1
          try clear hfz12_2
          try clear hfz12_3
          try clear hfz12_4
          try clear hfz12_5
          try clear hfz12_6
          try clear hfz19_0
          try clear hfz19_1
          try clear hfz19_2
          try clear hfz19_3
          try clear hfz22_0
          try clear hfz22_1
          try clear hfz22_2
          try clear hfz22_3
          try clear hfz24_0
          try clear hfz24_1
          try clear hfz24_2
          try clear hfz24_3
          try clear hx367_0
          try clear hx367_1
          try clear hx367_10
          try clear hx367_11
          try clear hx367_12
          try clear hx367_13
          try clear hx367_14
          try clear hx367_15
          try clear hx367_16
          try clear hx367_17
          try clear hx367_18
          try clear hx367_19
          try clear hx367_2
          try clear hx367_20
          try clear hx367_21
          try clear hx367_3
          try clear hx367_4
          try clear hx367_5
          try clear hx367_6
          try clear hx367_7
          try clear hx367_8
          try clear hx367_9
          try clear hx368_0
          try clear hx368_1
          try clear hx368_2
          try clear hx368_3
          try clear p2
          try clear p3
          try clear p367
          try clear p368
          try clear q3
          try clear q367
          try clear q368
          obtain ⟨kq, x37_15, rfl, HA, HJ15, BK365, BK369, HB⟩ := hcut
          cases kq with
          | zero => exact absurd HA.1 (by simp [impl_DeliveredInOrder.j1])
          | succ kj15 =>
           have H := HA.1
           clear HA
           simp only [impl_DeliveredInOrder.j1] at H
           by_cases c25 : x37_15 = true
           ·subst c25
            have H1 : (impl_DeliveredInOrder.l0 kj15 a1 a3 x9_1 x10_1 ((rd_T97 l0_3 a2).f8) (((rd_T97 l0_3 a2).f8).length : Int) (wrap64 (x24_1 + 1))) = some r := by rw [if_pos rfl] at H; exact H
            clear H
            have H := H1
            clear H1
            have H' := Am_ H
            clear H
            go_wp2
            go_roundg kj15
            case measure => have := HK1.1; have := HJ15.out; omega
            case rel => exact ⟨(x9_1), (x10_1), (wrap64 (x24_1 + 1)), (by first | rfl | (simp; done) | (simp [*]; done)), (by first | rfl | (simp; done) | (simp [*]; done)), (by first | rfl | (simp; done) | (simp [*]; done)), H', ⟨by have := HK1.1; have := HJ15.out; omega⟩, ⟨by (with_reducible repeat (first | refine kN_ ?_ _ | refine kD_ ?_ | refine kA_ ?_ _)); exact BK365.1⟩, ⟨by repeat (first | (with_reducible first | exact HB.1 | apply bA_ | apply bN_ | apply bD_ | refine bS_ ?_ GE365.1 | refine bS_ ?_ GE369.1) | exact HB.1)⟩⟩
           ·replace c25 := Bool.eq_false_iff.mpr c25
            subst c25
            have H1 : (if x9_1 = true then (if ((rd_T102 ((rd_T97 l0_3 a2).f8) x24_1).f2) ≤ x10_1 then (some false) else (impl_DeliveredInOrder.l0 kj15 a1 a3 true ((rd_T102 ((rd_T97 l0_3 a2).f8) x24_1).f2) ((rd_T97 l0_3 a2).f8) (((rd_T97 l0_3 a2).f8).length : Int) (wrap64 (x24_1 + 1)))) else (impl_DeliveredInOrder.l0 kj15 a1 a3 true ((rd_T102 ((rd_T97 l0_3 a2).f8) x24_1).f2) ((rd_T97 l0_3 a2).f8) (((rd_T97 l0_3 a2).f8).length : Int) (wrap64 (x24_1 + 1)))) = some r := by rw [if_neg (show ¬ (false = true) by decide)] at H; exact H
            clear H
            have H := H1
            clear H1
            by_cases c26 : x9_1 = true
            ·subst c26
             have H1 : (if ((rd_T102 ((rd_T97 l0_3 a2).f8) x24_1).f2) ≤ x10_1 then (some false) else (impl_DeliveredInOrder.l0 kj15 a1 a3 true ((rd_T102 ((rd_T97 l0_3 a2).f8) x24_1).f2) ((rd_T97 l0_3 a2).f8) (((rd_T97 l0_3 a2).f8).length : Int) (wrap64 (x24_1 + 1)))) = some r := by rw [if_pos rfl] at H; exact H
             clear H
             have H := H1
             clear H1
             by_cases c27 : ((rd_T102 ((rd_T97 l0_3 a2).f8) x24_1).f2) ≤ x10_1
             ·rw [if_pos c27] at H
              have c27b0 : decide (((rd_T102 ((rd_T97 l0_3 a2).f8) x24_1).f2) ≤ x10_1) = true := decide_eq_true c27
              clear c27
              obtain rfl := Option.some.inj H
              have hnb28 := NB369_365.1
              have hnc28 := NB365_369.1
              have hcz29_0 : wc.cell? ⟨gb369, 0, none⟩ = some (.int .i64 ((rd_T102 ((rd_T97 l0_3 a2).f8) x24_1).f0)) := kC_ BK369.1 0
              have hcz29_1 : wc.cell? ⟨gb369, 1, none⟩ = some (.int .i64 ((rd_T102 ((rd_T97 l0_3 a2).f8) x24_1).f1)) := kC_ BK369.1 1
              have hcz29_2 : wc.cell? ⟨gb369, 2, none⟩ = some (.int .i64 ((rd_T102 ((rd_T97 l0_3 a2).f8) x24_1).f2)) := kC_ BK369.1 2
              have hcz29_3 : wc.cell? ⟨gb369, 3, none⟩ = some (.slice A368_3 ((rd_T102 ((rd_T97 l0_3 a2).f8) x24_1).f3).length c368_3) := kC_ BK369.1 3
              have hfz29_0 := kF_ BK369.1 0
              have hfz29_1 := kF_ BK369.1 1
              have hfz29_2 := kF_ BK369.1 2
              have hfz29_3 := kF_ BK369.1 3
              go_wp2
              go_ret
              exact ⟨by first | rfl | (simp [errW_none, errW_some] <;> rfl) | (simp [*, errW_none, errW_some] <;> rfl), by repeat (first | (with_reducible first | exact HB.1 | apply bA_ | apply bN_ | apply bD_ | refine bS_ ?_ GE365.1 | refine bS_ ?_ GE369.1) | exact HB.1)⟩
             ·rw [if_neg c27] at H
              have c27b0 : decide (((rd_T102 ((rd_T97 l0_3 a2).f8) x24_1).f2) ≤ x10_1) = false := decide_eq_false c27
              clear c27
              have H' := Am_ H
              clear H
              have hnb30 := NB369_365.1
              have hnc30 := NB365_369.1
              have hcz31_0 : wc.cell? ⟨gb369, 0, none⟩ = some (.int .i64 ((rd_T102 ((rd_T97 l0_3 a2).f8) x24_1).f0)) := kC_ BK369.1 0
              have hcz31_1 : wc.cell? ⟨gb369, 1, none⟩ = some (.int .i64 ((rd_T102 ((rd_T97 l0_3 a2).f8) x24_1).f1)) := kC_ BK369.1 1
              have hcz31_2 : wc.cell? ⟨gb369, 2, none⟩ = some (.int .i64 ((rd_T102 ((rd_T97 l0_3 a2).f8) x24_1).f2)) := kC_ BK369.1 2
              have hcz31_3 : wc.cell? ⟨gb369, 3, none⟩ = some (.slice A368_3 ((rd_T102 ((rd_T97 l0_3 a2).f8) x24_1).f3).length c368_3) := kC_ BK369.1 3
              have hfz31_0 := kF_ BK369.1 0
              have hfz31_1 := kF_ BK369.1 1
              have hfz31_2 := kF_ BK369.1 2
              have hfz31_3 := kF_ BK369.1 3
              go_wp2
              go_roundg kj15
              case measure => have := HK1.1; have := HJ15.out; omega
              case rel => exact ⟨(true), (((rd_T102 ((rd_T97 l0_3 a2).f8) x24_1).f2)), (wrap64 (x24_1 + 1)), (by first | rfl | (simp; done) | (simp [*]; done)), (by first | rfl | (simp; done) | (simp [*]; done)), (by first | rfl | (simp; done) | (simp [*]; done)), H', ⟨by have := HK1.1; have := HJ15.out; omega⟩, ⟨by (with_reducible repeat (first | refine kN_ ?_ _ | refine kD_ ?_ | refine kA_ ?_ _)); exact BK365.1⟩, ⟨by repeat (first | (with_reducible first | exact HB.1 | apply bA_ | apply bN_ | apply bD_ | refine bS_ ?_ GE365.1 | refine bS_ ?_ GE369.1) | exact HB.1)⟩⟩
            ·replace c26 := Bool.eq_false_iff.mpr c26
             subst c26
             have H1 : (impl_DeliveredInOrder.l0 kj15 a1 a3 true ((rd_T102 ((rd_T97 l0_3 a2).f8) x24_1).f2) ((rd_T97 l0_3 a2).f8) (((rd_T97 l0_3 a2).f8).length : Int) (wrap64 (x24_1 + 1))) = some r := by rw [if_neg (show ¬ (false = true) by decide)] at H; exact H
             clear H
             have H := H1
             clear H1
             have H' := Am_ H
             clear H
             have hnb32 := NB369_365.1
             have hnc32 := NB365_369.1
             have hcz33_0 : wc.cell? ⟨gb369, 0, none⟩ = some (.int .i64 ((rd_T102 ((rd_T97 l0_3 a2).f8) x24_1).f0)) := kC_ BK369.1 0
             have hcz33_1 : wc.cell? ⟨gb369, 1, none⟩ = some (.int .i64 ((rd_T102 ((rd_T97 l0_3 a2).f8) x24_1).f1)) := kC_ BK369.1 1
             have hcz33_2 : wc.cell? ⟨gb369, 2, none⟩ = some (.int .i64 ((rd_T102 ((rd_T97 l0_3 a2).f8) x24_1).f2)) := kC_ BK369.1 2
             have hcz33_3 : wc.cell? ⟨gb369, 3, none⟩ = some (.slice A368_3 ((rd_T102 ((rd_T97 l0_3 a2).f8) x24_1).f3).length c368_3) := kC_ BK369.1 3
             have hfz33_0 := kF_ BK369.1 0
             have hfz33_1 := kF_ BK369.1 1
             have hfz33_2 := kF_ BK369.1 2
             have hfz33_3 := kF_ BK369.1 3
             go_wp2
             go_roundg kj15
             case measure => have := HK1.1; have := HJ15.out; omega
             case rel => exact ⟨(true), (((rd_T102 ((rd_T97 l0_3 a2).f8) x24_1).f2)), (wrap64 (x24_1 + 1)), (by first | rfl | (simp; done) | (simp [*]; done)), (by first | rfl | (simp; done) | (simp [*]; done)), (by first | rfl | (simp; done) | (simp [*]; done)), H', ⟨by have := HK1.1; have := HJ15.out; omega⟩, ⟨by (with_reducible repeat (first | refine kN_ ?_ _ | refine kD_ ?_ | refine kA_ ?_ _)); exact BK365.1⟩, ⟨by repeat (first | (with_reducible first | exact HB.1 | apply bA_ | apply bN_ | apply bD_ | refine bS_ ?_ GE365.1 | refine bS_ ?_ GE369.1) | exact HB.1)⟩⟩
        ·rw [if_neg c15] at H
         exact absurd H (by simp)
       ·rw [if_neg c14] at H
        exact absurd H (by simp)
      ·rw [if_neg c13] at H
       have c13b0 : decide (x24_1 < (((rd_T97 l0_3 a2).f8).length : Int)) = false := decide_eq_false c13
       clear c13
       obtain rfl := Option.some.inj H
       go_wp2
       go_ret
       exact ⟨by first | rfl | (simp [errW_none, errW_some] <;> rfl) | (simp [*, errW_none, errW_some] <;> rfl), by repeat (first | (with_reducible first | exact HB.1 | apply bA_ | apply bN_ | apply bD_ | refine bS_ ?_ GE365.1) | exact HB.1)⟩
   ·rw [if_neg c8] at H
    exact absurd H (by simp)
  ·rw [if_neg c7] at H
   exact absurd H (by simp)
 ·replace c6 := Bool.eq_false_iff.mpr c6
  subst c6
  have H1 : (some false) = some r := by rw [if_neg (show ¬ (false = true) by decide)] at H; exact H
  clear H
  have H := H1
  clear H1
  obtain rfl := Option.some.inj H
  go_enter Try.func29, Try.ntmps29
  go_wp2_with (first | ((with_reducible refine gate_dst (N := 4) rfl ?_); refine box_event ?hg (N := 4) ?hd (cs := #[.slice A0_0 l0_0.length c0_0, .int .i64 a0_1, .int .i64 a0_2, .slice A0_3 l0_3.length c0_3, .int .i64 a0_4, .int .i64 a0_5, .int .i64 a0_6]) (t := 33) ?hr ?_; (case hd => rfl); (case hg => rfl); (case hr => first | (go_simp; done) | (go_simp; rfl)); intro gb365 hg w34 hbox hb; have n0_ := Am_ (bT_ (by repeat (first | (with_reducible first | exact HB.1 | apply bA_ | apply bN_ | apply bD_) | exact HB.1)) hb); have n1_ := Am_ (hbox); have n2_ := Am_ ((by rw [hg]; exact (bZ_ (by repeat (first | (with_reducible first | exact HB.1 | apply bA_ | apply bN_ | apply bD_) | exact HB.1))) : w.heap.size ≤ gb365)); have n3_ := Am_ ((by rw [hg]; exact (bZ_ (by repeat (first | (with_reducible first | exact HB.1 | apply bA_ | apply bN_ | apply bD_) | exact HB.1))) : w.heap.size ≤ gb365)); clear HB; have HB := n0_; have BK365 := n1_; have GW365 := n2_; have GE365 := n3_; clear n0_ n1_ n2_ n3_ hb hbox hg; have hcz35_0 : w34.cell? ⟨gb365, 0, none⟩ = some (.slice A0_0 l0_0.length c0_0) := kC_ BK365.1 0; have hcz35_1 : w34.cell? ⟨gb365, 1, none⟩ = some (.int .i64 a0_1) := kC_ BK365.1 1; have hcz35_2 : w34.cell? ⟨gb365, 2, none⟩ = some (.int .i64 a0_2) := kC_ BK365.1 2; have hcz35_3 : w34.cell? ⟨gb365, 3, none⟩ = some (.slice A0_3 l0_3.length c0_3) := kC_ BK365.1 3; have hcz35_4 : w34.cell? ⟨gb365, 4, none⟩ = some (.int .i64 a0_4) := kC_ BK365.1 4; have hcz35_5 : w34.cell? ⟨gb365, 5, none⟩ = some (.int .i64 a0_5) := kC_ BK365.1 5; have hcz35_6 : w34.cell? ⟨gb365, 6, none⟩ = some (.int .i64 a0_6) := kC_ BK365.1 6; have hfz35_0 := kF_ BK365.1 0; have hfz35_1 := kF_ BK365.1 1; have hfz35_2 := kF_ BK365.1 2; have hfz35_3 := kF_ BK365.1 3; have hfz35_4 := kF_ BK365.1 4; have hfz35_5 := kF_ BK365.1 5; have hfz35_6 := kF_ BK365.1 6) | ((with_reducible refine gate_callee (f := 70) rfl ?_); refine goesL_ (some 15) rfl rfl Try.func70 (by kernel_rfl) rfl #[.agg #[.slice A0_0 l0_0.length c0_0, .int .i64 a0_1, .int .i64 a0_2, .slice A0_3 l0_3.length c0_3, .int .i64 a0_4, .int .i64 a0_5, .int .i64 a0_6], .int .i64 a2] rfl (by (try simp only [List.map_toArray, List.map_cons, List.map_nil]); first | done | rfl | (simp only [List.length_drop, List.length_take]; rfl)) ?_; (with_reducible refine (impl_isAirStation.calls _ _ l0_0 a0_1 a0_2 _ _ l0_3 a0_4 a0_5 a0_6 a2 false _ ?side1 ?side2 ?side3 ?side4 A5.1).mono ?_); (case side1 => repeat (first | exact (Kd.C_below HR0_0.1 HB.1) | (with_reducible refine Kd.C_alloc ?_ _) | (with_reducible refine Kd.C_drewN ?_ _) | (with_reducible refine Kd.C_drew ?_))); (case side2 => exact HC0_0.1); (case side3 => repeat (first | exact (Kd.C_below HR0_3.1 HB.1) | (with_reducible refine Kd.C_alloc ?_ _) | (with_reducible refine Kd.C_drewN ?_ _) | (with_reducible refine Kd.C_drew ?_))); (case side4 => exact HC0_3.1); rintro e w36 ⟨rfl, hb⟩; refine ⟨_, rfl, ?_⟩; have n0_ := Am_ (kB_ (g := gb365) (by (with_reducible repeat (first | refine kN_ ?_ _ | refine kD_ ?_ | refine kA_ ?_ _)); exact BK365.1) hb); have n1_ := Am_ (bT_ (by repeat (first | (with_reducible first | exact HB.1 | apply bA_ | apply bN_ | apply bD_ | refine bS_ ?_ GE365.1) | exact HB.1)) hb); clear BK365 HB; have BK365 := n0_; have HB := n1_; clear n0_ n1_; (try clear hb); (try clear hb2); (try clear hk); (try clear hi)))
  go_ret
  exact ⟨by first | rfl | (simp [errW_none, errW_some] <;> rfl) | (simp [*, errW_none, errW_some] <;> rfl), by repeat (first | (with_reducible first | exact HB.1 | apply bA_ | apply bN_ | apply bD_ | refine bS_ ?_ GE365.1) | exact HB.1)⟩

end Go.Proofs.Ytlkofdedkfmaeaa.XFnExactDeliveredInOrder
