/- The functions that the law reaches as plain Lean functions, and of each a proof that its call computes it. Conditions: those that each theorem names. -/
import Derived.Test.YtlkofdedkfmaeaaWS
import Derived.Test.YtlkofdedkfmaeaaXFnExactDeliveredInOrderx0
import Derived.Test.YtlkofdedkfmaeaaXFnExactDeliveredInOrderx8
namespace Go.Proofs.Ytlkofdedkfmaeaa.XFnExactDeliveredInOrder
open Go.RowKit Go.Proofs.YtlkofdedkfmaeaaW.PrintWords Go.Proofs.YtlkofdedkfmaeaaW.PrintLast Go.Proofs.YtlkofdedkfmaeaaW.PrintMore Go.Proofs.Ytlkofdedkfmaeaa.X
attribute [local go_sem] max2_int min2_int max_two min_two max_three min_three max_four min_four   -- for this text's walks alone
set_option linter.unusedVariables false
set_option linter.unusedSimpArgs false

/-! ### spec_DeliveredInOrder: function 28 -/
mutual
def spec_DeliveredInOrder.l0 : Nat → Int → Int → Int → List (S102) → Int → Option (Bool)
 | 0, _, _, _, _, _ => none
 | k + 1, x1, x3, x9, x10, x11 => if x11 < (x10.length : Int) then (if 0 ≤ x11 then (if ((rd_T102 x10 x11).f0) = x1 then (spec_DeliveredInOrder.j1 k x1 x3 x9 x10 x11 (((rd_T102 x10 x11).f1) != x3)) else (spec_DeliveredInOrder.j1 k x1 x3 x9 x10 x11 true)) else (none)) else (some true)
def spec_DeliveredInOrder.j1 : Nat → Int → Int → Int → List (S102) → Int → Bool → Option (Bool)
 | 0, _, _, _, _, _, _ => none
 | k + 1, x1, x3, x9, x10, x11, x46 => if x46 = true then (spec_DeliveredInOrder.l0 k x1 x3 x9 x10 (wrap64 (x11 + 1))) else (if x9 ≥ 0 then (if 0 ≤ x9 then (if x9 < (x10.length : Int) then (if 0 ≤ x11 then (if x11 < (x10.length : Int) then (if ((rd_T102 x10 x9).f2) ≥ ((rd_T102 x10 x11).f2) then (some false) else (spec_DeliveredInOrder.l0 k x1 x3 x11 x10 (wrap64 (x11 + 1)))) else (none)) else (none)) else (none)) else (none)) else (spec_DeliveredInOrder.l0 k x1 x3 x11 x10 (wrap64 (x11 + 1))))
end
def spec_DeliveredInOrder.f (k : Nat) (l0_0 : List Int) (a0_1 : Int) (a0_2 : Int) (l0_3 : List (S97)) (a0_4 : Int) (a0_5 : Int) (a0_6 : Int) (a1 : Int) (a2 : Int) (a3 : Int) : Option (Bool) := (spec_l1In.f a2 0 (wrap64 ((l0_3.length : Int) - 1))).bind fun t358 => (if t358 = true then (if 0 ≤ a2 then (if a2 < (l0_3.length : Int) then (spec_DeliveredInOrder.l0 k a1 a3 (-1) ((rd_T97 l0_3 a2).f8) 0) else (none)) else (none)) else (some false))
theorem spec_DeliveredInOrder.mono_l : ∀ k, (∀ y0 y1 y2 y3 y4, LeO (spec_DeliveredInOrder.l0 k y0 y1 y2 y3 y4) (spec_DeliveredInOrder.l0 (k + 1) y0 y1 y2 y3 y4)) ∧ (∀ y0 y1 y2 y3 y4 y5, LeO (spec_DeliveredInOrder.j1 k y0 y1 y2 y3 y4 y5) (spec_DeliveredInOrder.j1 (k + 1) y0 y1 y2 y3 y4 y5))
 | 0 => ⟨fun _ _ _ _ _ r h => by simp [spec_DeliveredInOrder.l0] at h, fun _ _ _ _ _ _ r h => by simp [spec_DeliveredInOrder.j1] at h⟩
 | k + 1 => by
  obtain ⟨ih0, ih1⟩ := spec_DeliveredInOrder.mono_l k
  refine ⟨?_, ?_⟩
  ·intro y0 y1 y2 y3 y4
   unfold spec_DeliveredInOrder.l0
   repeat' first
   | (with_reducible exact ih0 _ _ _ _ _)
   | (with_reducible exact ih1 _ _ _ _ _ _)
   | (with_reducible exact LeO.refl _)
   | (with_reducible exact LeO.none _)
   | (with_reducible refine LeO.ite ?_ ?_)
   | (with_reducible refine LeO.bind ?_ (fun _ => ?_))
   | exact ih0 _ _ _ _ _
   | exact ih1 _ _ _ _ _ _
   | exact LeO.none _
   | refine LeO.ite ?_ ?_
   | refine LeO.bind ?_ (fun _ => ?_)
  ·intro y0 y1 y2 y3 y4 y5
   unfold spec_DeliveredInOrder.j1
   repeat' first
   | (with_reducible exact ih0 _ _ _ _ _)
   | (with_reducible exact ih1 _ _ _ _ _ _)
   | (with_reducible exact LeO.refl _)
   | (with_reducible exact LeO.none _)
   | (with_reducible refine LeO.ite ?_ ?_)
   | (with_reducible refine LeO.bind ?_ (fun _ => ?_))
   | exact ih0 _ _ _ _ _
   | exact ih1 _ _ _ _ _ _
   | exact LeO.none _
   | refine LeO.ite ?_ ?_
   | refine LeO.bind ?_ (fun _ => ?_)
theorem spec_DeliveredInOrder.mono : ∀ a0 a1 a2 a3 a4 a5 a6 a7 a8 a9 k, LeO (spec_DeliveredInOrder.f k a0 a1 a2 a3 a4 a5 a6 a7 a8 a9) (spec_DeliveredInOrder.f (k + 1) a0 a1 a2 a3 a4 a5 a6 a7 a8 a9) := by
 intro a0 a1 a2 a3 a4 a5 a6 a7 a8 a9 k
 obtain ⟨ih0, ih1⟩ := spec_DeliveredInOrder.mono_l k
 unfold spec_DeliveredInOrder.f
 repeat' first
   | (with_reducible exact ih0 _ _ _ _ _)
   | (with_reducible exact ih1 _ _ _ _ _ _)
   | (with_reducible exact LeO.refl _)
   | (with_reducible exact LeO.none _)
   | (with_reducible refine LeO.ite ?_ ?_)
   | (with_reducible refine LeO.bind ?_ (fun _ => ?_))
   | exact ih0 _ _ _ _ _
   | exact ih1 _ _ _ _ _ _
   | exact LeO.none _
   | refine LeO.ite ?_ ?_
   | refine LeO.bind ?_ (fun _ => ?_)
set_option maxHeartbeats 8000000 in
set_option maxRecDepth 100000 in
theorem spec_DeliveredInOrder.calls (k : Nat) (A0_0 : Option Addr) (c0_0 : Nat) (l0_0 : List Int) (a0_1 : Int) (a0_2 : Int) (A0_3 : Option Addr) (c0_3 : Nat) (l0_3 : List (S97)) (a0_4 : Int) (a0_5 : Int) (a0_6 : Int) (a1 : Int) (a2 : Int) (a3 : Int) (r : Bool) (w : World) (hr0_0 : Kd.C (Kd.int .i64) w A0_0 l0_0.length l0_0) (hc0_0 : l0_0.length ≤ c0_0) (hr0_3 : Kd.C k97 w A0_3 l0_3.length l0_3) (hc0_3 : l0_3.length ≤ c0_3) (h : spec_DeliveredInOrder.f k l0_0 a0_1 a0_2 l0_3 a0_4 a0_5 a0_6 a1 a2 a3 = some r) :
  Calls Try.prog 28 #[.agg #[.slice A0_0 l0_0.length c0_0, .int .i64 a0_1, .int .i64 a0_2, .slice A0_3 l0_3.length c0_3, .int .i64 a0_4, .int .i64 a0_5, .int .i64 a0_6], .int .i64 a1, .int .i64 a2, .int .i64 a3] w fun e w' => e = .returned (.bool r) ∧ Below w.heap.size w w' := by
 have hu33 := Try.underlying33
 have HR0_0 := Am_ hr0_0
 have HC0_0 := Am_ hc0_0
 clear hr0_0 hc0_0
 have HR0_3 := Am_ hr0_3
 have HC0_3 := Am_ hc0_3
 clear hr0_3 hc0_3
 have HB := Am_ (Below.refl w.heap.size w)
 have H : ((spec_l1In.f a2 0 (wrap64 ((l0_3.length : Int) - 1))).bind fun t358 => (if t358 = true then (if 0 ≤ a2 then (if a2 < (l0_3.length : Int) then (spec_DeliveredInOrder.l0 k a1 a3 (-1) ((rd_T97 l0_3 a2).f8) 0) else (none)) else (none)) else (some false))) = some r := h
 clear h
 replace H := Option.bind_eq_some_iff.mp H
 obtain ⟨t358, A50, H⟩ := H
 replace H : (if t358 = true then (if 0 ≤ a2 then (if a2 < (l0_3.length : Int) then (spec_DeliveredInOrder.l0 k a1 a3 (-1) ((rd_T97 l0_3 a2).f8) 0) else (none)) else (none)) else (some false)) = some r := H
 have A5 := Am_ A50
 clear A50
 by_cases c6 : t358 = true
 ·subst c6
  have H1 : (if 0 ≤ a2 then (if a2 < (l0_3.length : Int) then (spec_DeliveredInOrder.l0 k a1 a3 (-1) ((rd_T97 l0_3 a2).f8) 0) else (none)) else (none)) = some r := by rw [if_pos rfl] at H; exact H
  clear H
  have H := H1
  clear H1
  by_cases c7 : 0 ≤ a2
  ·rw [if_pos c7] at H
   have c7b0 : decide (0 ≤ a2) = true := decide_eq_true c7
   clear c7
   by_cases c8 : a2 < (l0_3.length : Int)
   ·rw [if_pos c8] at H
    have c8b0 : decide (a2 < (l0_3.length : Int)) = true := decide_eq_true c8
    clear c8
    have H' := Am_ H
    clear H
    go_enter Try.func28, Try.ntmps28
    go_wp2_with (first | ((with_reducible refine gate_dst (N := 4) rfl ?_); refine box_event ?hg (N := 4) ?hd (cs := #[.slice A0_0 l0_0.length c0_0, .int .i64 a0_1, .int .i64 a0_2, .slice A0_3 l0_3.length c0_3, .int .i64 a0_4, .int .i64 a0_5, .int .i64 a0_6]) (t := 33) ?hr ?_; (case hd => rfl); (case hg => rfl); (case hr => first | (go_simp; done) | (go_simp; rfl)); intro gb357 hg w9 hbox hb; have n0_ := Am_ (bT_ (by repeat (first | (with_reducible first | exact HB.1 | apply bA_ | apply bN_ | apply bD_) | exact HB.1)) hb); have n1_ := Am_ (hbox); have n2_ := Am_ ((by rw [hg]; exact (bZ_ (by repeat (first | (with_reducible first | exact HB.1 | apply bA_ | apply bN_ | apply bD_) | exact HB.1))) : w.heap.size ≤ gb357)); have n3_ := Am_ ((by rw [hg]; exact (bZ_ (by repeat (first | (with_reducible first | exact HB.1 | apply bA_ | apply bN_ | apply bD_) | exact HB.1))) : w.heap.size ≤ gb357)); clear HB; have HB := n0_; have BK357 := n1_; have GW357 := n2_; have GE357 := n3_; clear n0_ n1_ n2_ n3_ hb hbox hg; have hcz10_0 : w9.cell? ⟨gb357, 0, none⟩ = some (.slice A0_0 l0_0.length c0_0) := kC_ BK357.1 0; have hcz10_1 : w9.cell? ⟨gb357, 1, none⟩ = some (.int .i64 a0_1) := kC_ BK357.1 1; have hcz10_2 : w9.cell? ⟨gb357, 2, none⟩ = some (.int .i64 a0_2) := kC_ BK357.1 2; have hcz10_3 : w9.cell? ⟨gb357, 3, none⟩ = some (.slice A0_3 l0_3.length c0_3) := kC_ BK357.1 3; have hcz10_4 : w9.cell? ⟨gb357, 4, none⟩ = some (.int .i64 a0_4) := kC_ BK357.1 4; have hcz10_5 : w9.cell? ⟨gb357, 5, none⟩ = some (.int .i64 a0_5) := kC_ BK357.1 5; have hcz10_6 : w9.cell? ⟨gb357, 6, none⟩ = some (.int .i64 a0_6) := kC_ BK357.1 6; have hfz10_0 := kF_ BK357.1 0; have hfz10_1 := kF_ BK357.1 1; have hfz10_2 := kF_ BK357.1 2; have hfz10_3 := kF_ BK357.1 3; have hfz10_4 := kF_ BK357.1 4; have hfz10_5 := kF_ BK357.1 5; have hfz10_6 := kF_ BK357.1 6) | (go_at_call 69; (with_reducible refine (spec_l1In.calls a2 0 (wrap64 ((l0_3.length : Int) - 1)) true _ A5.1).mono ?_); rintro e w' ⟨rfl, ⟨nd, rfl⟩⟩; (try first | exact ⟨rfl, _, World.drewN_drewN _ _ _⟩ | exact ⟨rfl, _, Eq.trans (World.drewN_drewN _ _ _) (congrArg (World.drewN _) (Nat.add_assoc _ _ _))⟩); have p359 : 0 ≤ (a2 : Int) := of_decide_eq_true (by first | (with_reducible assumption) | assumption); have q359 : a2 < (l0_3.length : Int) := of_decide_eq_true (by first | (with_reducible assumption) | assumption); obtain ⟨ad359, A359_0, c359_0, A359_6, c359_6, A359_17, c359_17, A359_20, c359_20, A359_21, c359_21, e359, hx359_0, hx359_1, hx359_2, hx359_3, hx359_4, hx359_5, hx359_6, hx359_7, hx359_8, hx359_9, hx359_10, hx359_11, hx359_12, hx359_13, hx359_14, hx359_15, hx359_16, hx359_17, hx359_18, hx359_19, hx359_20, hx359_21, hl359_0, hi359_0, hl359_6, hi359_6, hl359_17, hi359_17, hl359_20, hi359_20, hl359_21, hi359_21⟩ := at_T97 HR0_3.1 a2 p359 q359; cases e359; replace hx359_0 := (HB.1.cell (World.block_lt_of_cell? w _ hx359_0)).trans hx359_0; replace hx359_1 := (HB.1.cell (World.block_lt_of_cell? w _ hx359_1)).trans hx359_1; replace hx359_2 := (HB.1.cell (World.block_lt_of_cell? w _ hx359_2)).trans hx359_2; replace hx359_3 := (HB.1.cell (World.block_lt_of_cell? w _ hx359_3)).trans hx359_3; replace hx359_4 := (HB.1.cell (World.block_lt_of_cell? w _ hx359_4)).trans hx359_4; replace hx359_5 := (HB.1.cell (World.block_lt_of_cell? w _ hx359_5)).trans hx359_5; replace hx359_6 := (HB.1.cell (World.block_lt_of_cell? w _ hx359_6)).trans hx359_6; replace hx359_7 := (HB.1.cell (World.block_lt_of_cell? w _ hx359_7)).trans hx359_7; replace hx359_8 := (HB.1.cell (World.block_lt_of_cell? w _ hx359_8)).trans hx359_8; replace hx359_9 := (HB.1.cell (World.block_lt_of_cell? w _ hx359_9)).trans hx359_9; replace hx359_10 := (HB.1.cell (World.block_lt_of_cell? w _ hx359_10)).trans hx359_10; replace hx359_11 := (HB.1.cell (World.block_lt_of_cell? w _ hx359_11)).trans hx359_11; replace hx359_12 := (HB.1.cell (World.block_lt_of_cell? w _ hx359_12)).trans hx359_12; replace hx359_13 := (HB.1.cell (World.block_lt_of_cell? w _ hx359_13)).trans hx359_13; replace hx359_14 := (HB.1.cell (World.block_lt_of_cell? w _ hx359_14)).trans hx359_14; replace hx359_15 := (HB.1.cell (World.block_lt_of_cell? w _ hx359_15)).trans hx359_15; replace hx359_16 := (HB.1.cell (World.block_lt_of_cell? w _ hx359_16)).trans hx359_16; replace hx359_17 := (HB.1.cell (World.block_lt_of_cell? w _ hx359_17)).trans hx359_17; replace hx359_18 := (HB.1.cell (World.block_lt_of_cell? w _ hx359_18)).trans hx359_18; replace hx359_19 := (HB.1.cell (World.block_lt_of_cell? w _ hx359_19)).trans hx359_19; replace hx359_20 := (HB.1.cell (World.block_lt_of_cell? w _ hx359_20)).trans hx359_20; replace hx359_21 := (HB.1.cell (World.block_lt_of_cell? w _ hx359_21)).trans hx359_21; have HR359_0 := Am_ hi359_0; have HC359_0 := Am_ hl359_0; clear hi359_0 hl359_0; have HR359_6 := Am_ hi359_6; have HC359_6 := Am_ hl359_6; clear hi359_6 hl359_6; have HR359_17 := Am_ hi359_17; have HC359_17 := Am_ hl359_17; clear hi359_17 hl359_17; have HR359_20 := Am_ hi359_20; have HC359_20 := Am_ hl359_20; clear hi359_20 hl359_20; have HR359_21 := Am_ hi359_21; have HC359_21 := Am_ hl359_21; clear hi359_21 hl359_21; replace p359 := eq_true p359; replace q359 := eq_true q359))
    repeat (go_quiet (first | ((with_reducible refine gate_dst (N := 4) rfl ?_); refine box_event ?hg (N := 4) ?hd (cs := #[.slice A0_0 l0_0.length c0_0, .int .i64 a0_1, .int .i64 a0_2, .slice A0_3 l0_3.length c0_3, .int .i64 a0_4, .int .i64 a0_5, .int .i64 a0_6]) (t := 33) ?hr ?_; (case hd => rfl); (case hg => rfl); (case hr => first | (go_simp; done) | (go_simp; rfl)); intro gb357 hg w9 hbox hb; have n0_ := Am_ (bT_ (by repeat (first | (with_reducible first | exact HB.1 | apply bA_ | apply bN_ | apply bD_) | exact HB.1)) hb); have n1_ := Am_ (hbox); have n2_ := Am_ ((by rw [hg]; exact (bZ_ (by repeat (first | (with_reducible first | exact HB.1 | apply bA_ | apply bN_ | apply bD_) | exact HB.1))) : w.heap.size ≤ gb357)); have n3_ := Am_ ((by rw [hg]; exact (bZ_ (by repeat (first | (with_reducible first | exact HB.1 | apply bA_ | apply bN_ | apply bD_) | exact HB.1))) : w.heap.size ≤ gb357)); clear HB; have HB := n0_; have BK357 := n1_; have GW357 := n2_; have GE357 := n3_; clear n0_ n1_ n2_ n3_ hb hbox hg; have hcz10_0 : w9.cell? ⟨gb357, 0, none⟩ = some (.slice A0_0 l0_0.length c0_0) := kC_ BK357.1 0; have hcz10_1 : w9.cell? ⟨gb357, 1, none⟩ = some (.int .i64 a0_1) := kC_ BK357.1 1; have hcz10_2 : w9.cell? ⟨gb357, 2, none⟩ = some (.int .i64 a0_2) := kC_ BK357.1 2; have hcz10_3 : w9.cell? ⟨gb357, 3, none⟩ = some (.slice A0_3 l0_3.length c0_3) := kC_ BK357.1 3; have hcz10_4 : w9.cell? ⟨gb357, 4, none⟩ = some (.int .i64 a0_4) := kC_ BK357.1 4; have hcz10_5 : w9.cell? ⟨gb357, 5, none⟩ = some (.int .i64 a0_5) := kC_ BK357.1 5; have hcz10_6 : w9.cell? ⟨gb357, 6, none⟩ = some (.int .i64 a0_6) := kC_ BK357.1 6; have hfz10_0 := kF_ BK357.1 0; have hfz10_1 := kF_ BK357.1 1; have hfz10_2 := kF_ BK357.1 2; have hfz10_3 := kF_ BK357.1 3; have hfz10_4 := kF_ BK357.1 4; have hfz10_5 := kF_ BK357.1 5; have hfz10_6 := kF_ BK357.1 6) | (go_at_call 69; (with_reducible refine (spec_l1In.calls a2 0 (wrap64 ((l0_3.length : Int) - 1)) true _ A5.1).mono ?_); rintro e w' ⟨rfl, ⟨nd, rfl⟩⟩; (try first | exact ⟨rfl, _, World.drewN_drewN _ _ _⟩ | exact ⟨rfl, _, Eq.trans (World.drewN_drewN _ _ _) (congrArg (World.drewN _) (Nat.add_assoc _ _ _))⟩); have p359 : 0 ≤ (a2 : Int) := of_decide_eq_true (by first | (with_reducible assumption) | assumption); have q359 : a2 < (l0_3.length : Int) := of_decide_eq_true (by first | (with_reducible assumption) | assumption); obtain ⟨ad359, A359_0, c359_0, A359_6, c359_6, A359_17, c359_17, A359_20, c359_20, A359_21, c359_21, e359, hx359_0, hx359_1, hx359_2, hx359_3, hx359_4, hx359_5, hx359_6, hx359_7, hx359_8, hx359_9, hx359_10, hx359_11, hx359_12, hx359_13, hx359_14, hx359_15, hx359_16, hx359_17, hx359_18, hx359_19, hx359_20, hx359_21, hl359_0, hi359_0, hl359_6, hi359_6, hl359_17, hi359_17, hl359_20, hi359_20, hl359_21, hi359_21⟩ := at_T97 HR0_3.1 a2 p359 q359; cases e359; replace hx359_0 := (HB.1.cell (World.block_lt_of_cell? w _ hx359_0)).trans hx359_0; replace hx359_1 := (HB.1.cell (World.block_lt_of_cell? w _ hx359_1)).trans hx359_1; replace hx359_2 := (HB.1.cell (World.block_lt_of_cell? w _ hx359_2)).trans hx359_2; replace hx359_3 := (HB.1.cell (World.block_lt_of_cell? w _ hx359_3)).trans hx359_3; replace hx359_4 := (HB.1.cell (World.block_lt_of_cell? w _ hx359_4)).trans hx359_4; replace hx359_5 := (HB.1.cell (World.block_lt_of_cell? w _ hx359_5)).trans hx359_5; replace hx359_6 := (HB.1.cell (World.block_lt_of_cell? w _ hx359_6)).trans hx359_6; replace hx359_7 := (HB.1.cell (World.block_lt_of_cell? w _ hx359_7)).trans hx359_7; replace hx359_8 := (HB.1.cell (World.block_lt_of_cell? w _ hx359_8)).trans hx359_8; replace hx359_9 := (HB.1.cell (World.block_lt_of_cell? w _ hx359_9)).trans hx359_9; replace hx359_10 := (HB.1.cell (World.block_lt_of_cell? w _ hx359_10)).trans hx359_10; replace hx359_11 := (HB.1.cell (World.block_lt_of_cell? w _ hx359_11)).trans hx359_11; replace hx359_12 := (HB.1.cell (World.block_lt_of_cell? w _ hx359_12)).trans hx359_12; replace hx359_13 := (HB.1.cell (World.block_lt_of_cell? w _ hx359_13)).trans hx359_13; replace hx359_14 := (HB.1.cell (World.block_lt_of_cell? w _ hx359_14)).trans hx359_14; replace hx359_15 := (HB.1.cell (World.block_lt_of_cell? w _ hx359_15)).trans hx359_15; replace hx359_16 := (HB.1.cell (World.block_lt_of_cell? w _ hx359_16)).trans hx359_16; replace hx359_17 := (HB.1.cell (World.block_lt_of_cell? w _ hx359_17)).trans hx359_17; replace hx359_18 := (HB.1.cell (World.block_lt_of_cell? w _ hx359_18)).trans hx359_18; replace hx359_19 := (HB.1.cell (World.block_lt_of_cell? w _ hx359_19)).trans hx359_19; replace hx359_20 := (HB.1.cell (World.block_lt_of_cell? w _ hx359_20)).trans hx359_20; replace hx359_21 := (HB.1.cell (World.block_lt_of_cell? w _ hx359_21)).trans hx359_21; have HR359_0 := Am_ hi359_0; have HC359_0 := Am_ hl359_0; clear hi359_0 hl359_0; have HR359_6 := Am_ hi359_6; have HC359_6 := Am_ hl359_6; clear hi359_6 hl359_6; have HR359_17 := Am_ hi359_17; have HC359_17 := Am_ hl359_17; clear hi359_17 hl359_17; have HR359_20 := Am_ hi359_20; have HC359_20 := Am_ hl359_20; clear hi359_20 hl359_20; have HR359_21 := Am_ hi359_21; have HC359_21 := Am_ hl359_21; clear hi359_21 hl359_21; replace p359 := eq_true p359; replace q359 := eq_true q359)); try go_wp2_with (first | ((with_reducible refine gate_dst (N := 4) rfl ?_); refine box_event ?hg (N := 4) ?hd (cs := #[.slice A0_0 l0_0.length c0_0, .int .i64 a0_1, .int .i64 a0_2, .slice A0_3 l0_3.length c0_3, .int .i64 a0_4, .int .i64 a0_5, .int .i64 a0_6]) (t := 33) ?hr ?_; (case hd => rfl); (case hg => rfl); (case hr => first | (go_simp; done) | (go_simp; rfl)); intro gb357 hg w9 hbox hb; have n0_ := Am_ (bT_ (by repeat (first | (with_reducible first | exact HB.1 | apply bA_ | apply bN_ | apply bD_) | exact HB.1)) hb); have n1_ := Am_ (hbox); have n2_ := Am_ ((by rw [hg]; exact (bZ_ (by repeat (first | (with_reducible first | exact HB.1 | apply bA_ | apply bN_ | apply bD_) | exact HB.1))) : w.heap.size ≤ gb357)); have n3_ := Am_ ((by rw [hg]; exact (bZ_ (by repeat (first | (with_reducible first | exact HB.1 | apply bA_ | apply bN_ | apply bD_) | exact HB.1))) : w.heap.size ≤ gb357)); clear HB; have HB := n0_; have BK357 := n1_; have GW357 := n2_; have GE357 := n3_; clear n0_ n1_ n2_ n3_ hb hbox hg; have hcz10_0 : w9.cell? ⟨gb357, 0, none⟩ = some (.slice A0_0 l0_0.length c0_0) := kC_ BK357.1 0; have hcz10_1 : w9.cell? ⟨gb357, 1, none⟩ = some (.int .i64 a0_1) := kC_ BK357.1 1; have hcz10_2 : w9.cell? ⟨gb357, 2, none⟩ = some (.int .i64 a0_2) := kC_ BK357.1 2; have hcz10_3 : w9.cell? ⟨gb357, 3, none⟩ = some (.slice A0_3 l0_3.length c0_3) := kC_ BK357.1 3; have hcz10_4 : w9.cell? ⟨gb357, 4, none⟩ = some (.int .i64 a0_4) := kC_ BK357.1 4; have hcz10_5 : w9.cell? ⟨gb357, 5, none⟩ = some (.int .i64 a0_5) := kC_ BK357.1 5; have hcz10_6 : w9.cell? ⟨gb357, 6, none⟩ = some (.int .i64 a0_6) := kC_ BK357.1 6; have hfz10_0 := kF_ BK357.1 0; have hfz10_1 := kF_ BK357.1 1; have hfz10_2 := kF_ BK357.1 2; have hfz10_3 := kF_ BK357.1 3; have hfz10_4 := kF_ BK357.1 4; have hfz10_5 := kF_ BK357.1 5; have hfz10_6 := kF_ BK357.1 6) | (go_at_call 69; (with_reducible refine (spec_l1In.calls a2 0 (wrap64 ((l0_3.length : Int) - 1)) true _ A5.1).mono ?_); rintro e w' ⟨rfl, ⟨nd, rfl⟩⟩; (try first | exact ⟨rfl, _, World.drewN_drewN _ _ _⟩ | exact ⟨rfl, _, Eq.trans (World.drewN_drewN _ _ _) (congrArg (World.drewN _) (Nat.add_assoc _ _ _))⟩); have p359 : 0 ≤ (a2 : Int) := of_decide_eq_true (by first | (with_reducible assumption) | assumption); have q359 : a2 < (l0_3.length : Int) := of_decide_eq_true (by first | (with_reducible assumption) | assumption); obtain ⟨ad359, A359_0, c359_0, A359_6, c359_6, A359_17, c359_17, A359_20, c359_20, A359_21, c359_21, e359, hx359_0, hx359_1, hx359_2, hx359_3, hx359_4, hx359_5, hx359_6, hx359_7, hx359_8, hx359_9, hx359_10, hx359_11, hx359_12, hx359_13, hx359_14, hx359_15, hx359_16, hx359_17, hx359_18, hx359_19, hx359_20, hx359_21, hl359_0, hi359_0, hl359_6, hi359_6, hl359_17, hi359_17, hl359_20, hi359_20, hl359_21, hi359_21⟩ := at_T97 HR0_3.1 a2 p359 q359; cases e359; replace hx359_0 := (HB.1.cell (World.block_lt_of_cell? w _ hx359_0)).trans hx359_0; replace hx359_1 := (HB.1.cell (World.block_lt_of_cell? w _ hx359_1)).trans hx359_1; replace hx359_2 := (HB.1.cell (World.block_lt_of_cell? w _ hx359_2)).trans hx359_2; replace hx359_3 := (HB.1.cell (World.block_lt_of_cell? w _ hx359_3)).trans hx359_3; replace hx359_4 := (HB.1.cell (World.block_lt_of_cell? w _ hx359_4)).trans hx359_4; replace hx359_5 := (HB.1.cell (World.block_lt_of_cell? w _ hx359_5)).trans hx359_5; replace hx359_6 := (HB.1.cell (World.block_lt_of_cell? w _ hx359_6)).trans hx359_6; replace hx359_7 := (HB.1.cell (World.block_lt_of_cell? w _ hx359_7)).trans hx359_7; replace hx359_8 := (HB.1.cell (World.block_lt_of_cell? w _ hx359_8)).trans hx359_8; replace hx359_9 := (HB.1.cell (World.block_lt_of_cell? w _ hx359_9)).trans hx359_9; replace hx359_10 := (HB.1.cell (World.block_lt_of_cell? w _ hx359_10)).trans hx359_10; replace hx359_11 := (HB.1.cell (World.block_lt_of_cell? w _ hx359_11)).trans hx359_11; replace hx359_12 := (HB.1.cell (World.block_lt_of_cell? w _ hx359_12)).trans hx359_12; replace hx359_13 := (HB.1.cell (World.block_lt_of_cell? w _ hx359_13)).trans hx359_13; replace hx359_14 := (HB.1.cell (World.block_lt_of_cell? w _ hx359_14)).trans hx359_14; replace hx359_15 := (HB.1.cell (World.block_lt_of_cell? w _ hx359_15)).trans hx359_15; replace hx359_16 := (HB.1.cell (World.block_lt_of_cell? w _ hx359_16)).trans hx359_16; replace hx359_17 := (HB.1.cell (World.block_lt_of_cell? w _ hx359_17)).trans hx359_17; replace hx359_18 := (HB.1.cell (World.block_lt_of_cell? w _ hx359_18)).trans hx359_18; replace hx359_19 := (HB.1.cell (World.block_lt_of_cell? w _ hx359_19)).trans hx359_19; replace hx359_20 := (HB.1.cell (World.block_lt_of_cell? w _ hx359_20)).trans hx359_20; replace hx359_21 := (HB.1.cell (World.block_lt_of_cell? w _ hx359_21)).trans hx359_21; have HR359_0 := Am_ hi359_0; have HC359_0 := Am_ hl359_0; clear hi359_0 hl359_0; have HR359_6 := Am_ hi359_6; have HC359_6 := Am_ hl359_6; clear hi359_6 hl359_6; have HR359_17 := Am_ hi359_17; have HC359_17 := Am_ hl359_17; clear hi359_17 hl359_17; have HR359_20 := Am_ hi359_20; have HC359_20 := Am_ hl359_20; clear hi359_20 hl359_20; have HR359_21 := Am_ hi359_21; have HC359_21 := Am_ hl359_21; clear hi359_21 hl359_21; replace p359 := eq_true p359; replace q359 := eq_true q359)))
    go_loopg [9, 11] k (fun kq v9 v11 w' => ∃ (x9_1 : Int) (x11_1 : Int), v9 = .int .i64 x9_1 ∧ v11 = .int .i64 x11_1 ∧ Aside0 (spec_DeliveredInOrder.l0 kq a1 a3 x9_1 ((rd_T97 l0_3 a2).f8) x11_1 = some r) ∧ Aside0 (kq ≤ k) ∧ Aside0 (w'.heap[gb357]? = some (.cells #[(.slice A0_0 l0_0.length c0_0), .int .i64 a0_1, .int .i64 a0_2, (.slice (some ad359) l0_3.length c0_3), .int .i64 a0_4, .int .i64 a0_5, .int .i64 a0_6] 33 (0, 0))) ∧ Aside0 (Below w.heap.size w w'))
    case atStart => exact ⟨((-1)), (0), (by first | rfl | (simp; done) | (simp [*]; done)), (by first | rfl | (simp; done) | (simp [*]; done)), H', ⟨Nat.le_refl _⟩, ⟨by (with_reducible repeat (first | refine kN_ ?_ _ | refine kD_ ?_ | refine kA_ ?_ _)); exact BK357.1⟩, ⟨by repeat (first | (with_reducible first | exact HB.1 | apply bA_ | apply bN_ | apply bD_ | refine bS_ ?_ GE357.1) | exact HB.1)⟩⟩
    case round =>
     clear H'
     try clear c2
     try clear p2
     try clear c3
     try clear p3
     try clear q3
     try clear hx3
     try clear c6
     try clear p6
     try clear c7
     try clear c7b0
     try clear c8
     try clear c8b0
     try clear hcz10_0
     try clear hcz10_1
     try clear hcz10_2
     try clear hcz10_3
     try clear hcz10_4
     try clear hcz10_5
     try clear hcz10_6
     try clear hfz10_0
     try clear hfz10_1
     try clear hfz10_2
     try clear hfz10_3
     try clear hfz10_4
     try clear hfz10_5
     try clear hfz10_6
     try clear hx359_0
     try clear hx359_1
     try clear hx359_10
     try clear hx359_11
     try clear hx359_12
     try clear hx359_13
     try clear hx359_14
     try clear hx359_15
     try clear hx359_16
     try clear hx359_17
     try clear hx359_18
     try clear hx359_19
     try clear hx359_2
     try clear hx359_20
     try clear hx359_21
     try clear hx359_3
     try clear hx359_4
     try clear hx359_5
     try clear hx359_6
     try clear hx359_7
     try clear hx359_8
     try clear hx359_9
     try clear p359
     try clear q359
     obtain ⟨x9_1, x11_1, rfl, rfl, HA, HK1, BK357, HB⟩ := hrel
     cases gk with
     | zero => exact absurd HA.1 (by simp [spec_DeliveredInOrder.l0])
     | succ k1 =>
      have H := HA.1
      clear HA
      simp only [spec_DeliveredInOrder.l0] at H
      by_cases c11 : x11_1 < (((rd_T97 l0_3 a2).f8).length : Int)
      ·rw [if_pos c11] at H
       have c11b0 : decide (x11_1 < (((rd_T97 l0_3 a2).f8).length : Int)) = true := decide_eq_true c11
       clear c11
       have HC12 := Am_ H
       clear H
       go_upto_region 8 with (fail)
       repeat (go_quiet (fail); go_upto_region 8 with (fail))
       go_cut [46] (fun v46 wc => ∃ (kq : Nat) (x46_11 : Bool), v46 = .bool x46_11 ∧ Aside0 (spec_DeliveredInOrder.j1 kq a1 a3 x9_1 ((rd_T97 l0_3 a2).f8) x11_1 x46_11 = some r) ∧ Aside0 (kq ≤ k1) ∧ Aside0 (wc.heap[gb357]? = some (.cells #[(.slice A0_0 l0_0.length c0_0), .int .i64 a0_1, .int .i64 a0_2, (.slice (some ad359) l0_3.length c0_3), .int .i64 a0_4, .int .i64 a0_5, .int .i64 a0_6] 33 (0, 0))) ∧ Aside0 (Below w.heap.size w wc))
       case first =>
        have H := HC12.1
        clear HC12
        by_cases c13 : 0 ≤ x11_1
        ·rw [if_pos c13] at H
         have c13b0 : decide (0 ≤ x11_1) = true := decide_eq_true c13
         clear c13
         (first | rw [c13b0] | (simp only [i64_w, i32_w]; rw [c13b0]) | skip)
         by_cases c14 : ((rd_T102 ((rd_T97 l0_3 a2).f8) x11_1).f0) = a1
         ·rw [if_pos c14] at H
          have c14b0 : (((rd_T102 ((rd_T97 l0_3 a2).f8) x11_1).f0) == a1) = true := beq_iff_eq.mpr c14
          have c14b1 : (((rd_T102 ((rd_T97 l0_3 a2).f8) x11_1).f0) != a1) = false := bne_eq_false_iff_eq.mpr c14
          clear c14
          have H' := Am_ H
          clear H
          have p360 : 0 ≤ (x11_1 : Int) := of_decide_eq_true (by first | (with_reducible assumption) | assumption)
          have q360 : x11_1 < (((rd_T97 l0_3 a2).f8).length : Int) := of_decide_eq_true (by first | (with_reducible assumption) | assumption)
          obtain ⟨ad360, A360_3, c360_3, e360, hx360_0, hx360_1, hx360_2, hx360_3, hl360_3, hi360_3⟩ := at_T102 HR359_21.1 x11_1 p360 q360
          cases e360
          replace hx360_0 := (HB.1.cell (World.block_lt_of_cell? w _ hx360_0)).trans hx360_0
          replace hx360_1 := (HB.1.cell (World.block_lt_of_cell? w _ hx360_1)).trans hx360_1
          replace hx360_2 := (HB.1.cell (World.block_lt_of_cell? w _ hx360_2)).trans hx360_2
          replace hx360_3 := (HB.1.cell (World.block_lt_of_cell? w _ hx360_3)).trans hx360_3
          have HR360_3 := Am_ hi360_3
          have HC360_3 := Am_ hl360_3
          clear hi360_3 hl360_3
          replace p360 := eq_true p360
          replace q360 := eq_true q360
          have p361 : 0 ≤ (x11_1 : Int) := of_decide_eq_true (by first | (with_reducible assumption) | assumption)
          have q361 : x11_1 < (((rd_T97 l0_3 a2).f8).length : Int) := of_decide_eq_true (by first | (with_reducible assumption) | assumption)
          obtain ⟨ad361, A361_3, c361_3, e361, hx361_0, hx361_1, hx361_2, hx361_3, hl361_3, hi361_3⟩ := at_T102 HR359_21.1 x11_1 p361 q361
          obtain rfl : ad360 = ad361 := (by injection e361)
          replace hx361_0 := (HB.1.cell (World.block_lt_of_cell? w _ hx361_0)).trans hx361_0
          replace hx361_1 := (HB.1.cell (World.block_lt_of_cell? w _ hx361_1)).trans hx361_1
          replace hx361_2 := (HB.1.cell (World.block_lt_of_cell? w _ hx361_2)).trans hx361_2
          replace hx361_3 := (HB.1.cell (World.block_lt_of_cell? w _ hx361_3)).trans hx361_3
          have HR361_3 := Am_ hi361_3
          have HC361_3 := Am_ hl361_3
          clear hi361_3 hl361_3
          replace p361 := eq_true p361
          replace q361 := eq_true q361
          have ea_ := Option.some.inj (hx360_3.symm.trans hx361_3)
          injection ea_ with ea_ en_ ec_
          subst ea_
          subst ec_
          clear en_
          go_wp2
          repeat (go_quiet (fail); try go_wp2)
          go_meet
          case rel => exact ⟨_, ((((rd_T102 ((rd_T97 l0_3 a2).f8) x11_1).f1) != a3)), (by first | rfl | (simp; done) | (simp [*]; done)), H', ⟨by have := HK1.1; first | omega | exact Nat.le_refl _⟩, ⟨by (with_reducible repeat (first | refine kN_ ?_ _ | refine kD_ ?_ | refine kA_ ?_ _)); exact BK357.1⟩, ⟨by repeat (first | (with_reducible first | exact HB.1 | apply bA_ | apply bN_ | apply bD_ | refine bS_ ?_ GE357.1) | exact HB.1)⟩⟩
         ·rw [if_neg c14] at H
          have c14b0 : (((rd_T102 ((rd_T97 l0_3 a2).f8) x11_1).f0) == a1) = false := beq_eq_false_iff_ne.mpr c14
          have c14b1 : (((rd_T102 ((rd_T97 l0_3 a2).f8) x11_1).f0) != a1) = true := bne_iff_ne.mpr c14
          have H' := Am_ H
          clear H
          have p360 : 0 ≤ (x11_1 : Int) := of_decide_eq_true (by first | (with_reducible assumption) | assumption)
          have q360 : x11_1 < (((rd_T97 l0_3 a2).f8).length : Int) := of_decide_eq_true (by first | (with_reducible assumption) | assumption)
          obtain ⟨ad360, A360_3, c360_3, e360, hx360_0, hx360_1, hx360_2, hx360_3, hl360_3, hi360_3⟩ := at_T102 HR359_21.1 x11_1 p360 q360
          cases e360
          replace hx360_0 := (HB.1.cell (World.block_lt_of_cell? w _ hx360_0)).trans hx360_0
          replace hx360_1 := (HB.1.cell (World.block_lt_of_cell? w _ hx360_1)).trans hx360_1
          replace hx360_2 := (HB.1.cell (World.block_lt_of_cell? w _ hx360_2)).trans hx360_2
          replace hx360_3 := (HB.1.cell (World.block_lt_of_cell? w _ hx360_3)).trans hx360_3
          have HR360_3 := Am_ hi360_3
          have HC360_3 := Am_ hl360_3
          clear hi360_3 hl360_3
          replace p360 := eq_true p360
          replace q360 := eq_true q360
          go_wp2
          repeat (go_quiet (fail); try go_wp2)
          go_meet
          case rel => exact ⟨_, (true), (by first | rfl | (simp; done) | (simp [*]; done)), H', ⟨by have := HK1.1; first | omega | exact Nat.le_refl _⟩, ⟨by (with_reducible repeat (first | refine kN_ ?_ _ | refine kD_ ?_ | refine kA_ ?_ _)); exact BK357.1⟩, ⟨by repeat (first | (with_reducible first | exact HB.1 | apply bA_ | apply bN_ | apply bD_ | refine bS_ ?_ GE357.1) | exact HB.1)⟩⟩
        ·rw [if_neg c13] at H
         exact absurd H (by simp)
       case rest =>
        clear HC12
        try clear c1
        try clear c2
        try clear p2
        try clear c3
        try clear p3
        try clear q3
        try clear hx3
        try clear c6
        try clear p6
        try clear c7
        try clear c7b0
        try clear c8
        try clear c8b0
        try clear c11
        try clear c11b0
        try clear c13
        try clear c13b0
        try clear c14
        try clear c14b0
        try clear c14b1
        try clear hcz10_0
        try clear hcz10_1
        try clear hcz10_2
        try clear hcz10_3
        try clear hcz10_4
        try clear hcz10_5
        try clear hcz10_6
        try clear hfz10_0
        try clear hfz10_1
        try clear hfz10_2
        try clear hfz10_3
        try clear hfz10_4
        try clear hfz10_5
        try clear hfz10_6
        try clear hx359_0
        try clear hx359_1
        try clear hx359_10
        try clear hx359_11
        try clear hx359_12
        try clear hx359_13
        try clear hx359_14
        try clear hx359_15
        try clear hx359_16
        try clear hx359_17
        try clear hx359_18
        try clear hx359_19
        try clear hx359_2
        try clear hx359_20
        try clear hx359_21
        try clear hx359_3
        try clear hx359_4
        try clear hx359_5
        try clear hx359_6
        try clear hx359_7
        try clear hx359_8
        try clear hx359_9
        try clear hx360_0
        try clear hx360_1
        try clear hx360_2
        try clear hx360_3
        try clear hx361_0
        try clear hx361_1
        try clear hx361_2
        try clear hx361_3
        try clear p2
        try clear p3
        try clear p359
        try clear p360
        try clear p361
        try clear p6
        try clear q3
        try clear q359
        try clear q360
        try clear q361
        obtain ⟨kq, x46_11, rfl, HA, HJ11, BK357, HB⟩ := hcut
        cases kq with
        | zero => exact absurd HA.1 (by simp [spec_DeliveredInOrder.j1])
        | succ kj11 =>
         have H := HA.1
         clear HA
         simp only [spec_DeliveredInOrder.j1] at H
         by_cases c15 : x46_11 = true
         ·subst c15
          have H1 : (spec_DeliveredInOrder.l0 kj11 a1 a3 x9_1 ((rd_T97 l0_3 a2).f8) (wrap64 (x11_1 + 1))) = some r := by rw [if_pos rfl] at H; exact H
          clear H
          have H := H1
          clear H1
          have H' := Am_ H
          clear H
          go_wp2
          repeat (go_quiet (fail); try go_wp2)
          go_roundg kj11
          case measure => have := HK1.1; have := HJ11.out; omega
          case rel => exact ⟨(x9_1), (wrap64 (x11_1 + 1)), (by first | rfl | (simp; done) | (simp [*]; done)), (by first | rfl | (simp; done) | (simp [*]; done)), H', ⟨by have := HK1.1; have := HJ11.out; omega⟩, ⟨by (with_reducible repeat (first | refine kN_ ?_ _ | refine kD_ ?_ | refine kA_ ?_ _)); exact BK357.1⟩, ⟨by repeat (first | (with_reducible first | exact HB.1 | apply bA_ | apply bN_ | apply bD_ | refine bS_ ?_ GE357.1) | exact HB.1)⟩⟩
         ·replace c15 := Bool.eq_false_iff.mpr c15
          subst c15
          have H1 : (if x9_1 ≥ 0 then (if 0 ≤ x9_1 then (if x9_1 < (((rd_T97 l0_3 a2).f8).length : Int) then (if 0 ≤ x11_1 then (if x11_1 < (((rd_T97 l0_3 a2).f8).length : Int) then (if ((rd_T102 ((rd_T97 l0_3 a2).f8) x9_1).f2) ≥ ((rd_T102 ((rd_T97 l0_3 a2).f8) x11_1).f2) then (some false) else (spec_DeliveredInOrder.l0 kj11 a1 a3 x11_1 ((rd_T97 l0_3 a2).f8) (wrap64 (x11_1 + 1)))) else (none)) else (none)) else (none)) else (none)) else (spec_DeliveredInOrder.l0 kj11 a1 a3 x11_1 ((rd_T97 l0_3 a2).f8) (wrap64 (x11_1 + 1)))) = some r := by rw [if_neg (show ¬ (false = true) by decide)] at H; exact H
          clear H
          have H := H1
          clear H1
          by_cases c16 : x9_1 ≥ 0
          ·rw [if_pos c16] at H
           have c16b0 : decide (0 ≤ x9_1) = true := decide_eq_true c16
           clear c16
           by_cases c17 : 0 ≤ x9_1
           ·rw [if_pos c17] at H
            have c17b0 : decide (0 ≤ x9_1) = true := decide_eq_true c17
            clear c17
            by_cases c18 : x9_1 < (((rd_T97 l0_3 a2).f8).length : Int)
            ·rw [if_pos c18] at H
             have c18b0 : decide (x9_1 < (((rd_T97 l0_3 a2).f8).length : Int)) = true := decide_eq_true c18
             clear c18
             by_cases c19 : 0 ≤ x11_1
             ·rw [if_pos c19] at H
              have c19b0 : decide (0 ≤ x11_1) = true := decide_eq_true c19
              clear c19
              by_cases c20 : x11_1 < (((rd_T97 l0_3 a2).f8).length : Int)
              ·rw [if_pos c20] at H
               have c20b0 : decide (x11_1 < (((rd_T97 l0_3 a2).f8).length : Int)) = true := decide_eq_true c20
               clear c20
               by_cases c21 : ((rd_T102 ((rd_T97 l0_3 a2).f8) x9_1).f2) ≥ ((rd_T102 ((rd_T97 l0_3 a2).f8) x11_1).f2)
               ·rw [if_pos c21] at H
                have c21b0 : decide (((rd_T102 ((rd_T97 l0_3 a2).f8) x11_1).f2) ≤ ((rd_T102 ((rd_T97 l0_3 a2).f8) x9_1).f2)) = true := decide_eq_true c21
                clear c21
                obtain rfl := Option.some.inj H
                have p362 : 0 ≤ (x9_1 : Int) := of_decide_eq_true (by first | (with_reducible assumption) | assumption)
                have q362 : x9_1 < (((rd_T97 l0_3 a2).f8).length : Int) := of_decide_eq_true (by first | (with_reducible assumption) | assumption)
                obtain ⟨ad362, A362_3, c362_3, e362, hx362_0, hx362_1, hx362_2, hx362_3, hl362_3, hi362_3⟩ := at_T102 HR359_21.1 x9_1 p362 q362
                cases e362
                replace hx362_0 := (HB.1.cell (World.block_lt_of_cell? w _ hx362_0)).trans hx362_0
                replace hx362_1 := (HB.1.cell (World.block_lt_of_cell? w _ hx362_1)).trans hx362_1
                replace hx362_2 := (HB.1.cell (World.block_lt_of_cell? w _ hx362_2)).trans hx362_2
                replace hx362_3 := (HB.1.cell (World.block_lt_of_cell? w _ hx362_3)).trans hx362_3
                have HR362_3 := Am_ hi362_3
                have HC362_3 := Am_ hl362_3
                clear hi362_3 hl362_3
                replace p362 := eq_true p362
                replace q362 := eq_true q362
                have p363 : 0 ≤ (x11_1 : Int) := of_decide_eq_true (by first | (with_reducible assumption) | assumption)
                have q363 : x11_1 < (((rd_T97 l0_3 a2).f8).length : Int) := of_decide_eq_true (by first | (with_reducible assumption) | assumption)
                obtain ⟨ad363, A363_3, c363_3, e363, hx363_0, hx363_1, hx363_2, hx363_3, hl363_3, hi363_3⟩ := at_T102 HR359_21.1 x11_1 p363 q363
                obtain rfl : ad362 = ad363 := (by injection e363)
                replace hx363_0 := (HB.1.cell (World.block_lt_of_cell? w _ hx363_0)).trans hx363_0
                replace hx363_1 := (HB.1.cell (World.block_lt_of_cell? w _ hx363_1)).trans hx363_1
                replace hx363_2 := (HB.1.cell (World.block_lt_of_cell? w _ hx363_2)).trans hx363_2
                replace hx363_3 := (HB.1.cell (World.block_lt_of_cell? w _ hx363_3)).trans hx363_3
                have HR363_3 := Am_ hi363_3
                have HC363_3 := Am_ hl363_3
                clear hi363_3 hl363_3
                replace p363 := eq_true p363
                replace q363 := eq_true q363
                go_wp2
                repeat (go_quiet (fail); try go_wp2)
                go_ret
                exact ⟨by first | rfl | (simp [errW_none, errW_some] <;> rfl) | (simp [*, errW_none, errW_some] <;> rfl), by repeat (first | (with_reducible first | exact HB.1 | apply bA_ | apply bN_ | apply bD_ | refine bS_ ?_ GE357.1) | exact HB.1)⟩
               ·rw [if_neg c21] at H
                have c21b0 : decide (((rd_T102 ((rd_T97 l0_3 a2).f8) x11_1).f2) ≤ ((rd_T102 ((rd_T97 l0_3 a2).f8) x9_1).f2)) = false := decide_eq_false c21
                clear c21
                have H' := Am_ H
                clear H
                have p362 : 0 ≤ (x9_1 : Int) := of_decide_eq_true (by first | (with_reducible assumption) | assumption)
                have q362 : x9_1 < (((rd_T97 l0_3 a2).f8).length : Int) := of_decide_eq_true (by first | (with_reducible assumption) | assumption)
                obtain ⟨ad362, A362_3, c362_3, e362, hx362_0, hx362_1, hx362_2, hx362_3, hl362_3, hi362_3⟩ := at_T102 HR359_21.1 x9_1 p362 q362
                cases e362
                replace hx362_0 := (HB.1.cell (World.block_lt_of_cell? w _ hx362_0)).trans hx362_0
                replace hx362_1 := (HB.1.cell (World.block_lt_of_cell? w _ hx362_1)).trans hx362_1
                replace hx362_2 := (HB.1.cell (World.block_lt_of_cell? w _ hx362_2)).trans hx362_2
                replace hx362_3 := (HB.1.cell (World.block_lt_of_cell? w _ hx362_3)).trans hx362_3
                have HR362_3 := Am_ hi362_3
                have HC362_3 := Am_ hl362_3
                clear hi362_3 hl362_3
                replace p362 := eq_true p362
                replace q362 := eq_true q362
                have p363 : 0 ≤ (x11_1 : Int) := of_decide_eq_true (by first | (with_reducible assumption) | assumption)
                have q363 : x11_1 < (((rd_T97 l0_3 a2).f8).length : Int) := of_decide_eq_true (by first | (with_reducible assumption) | assumption)
                obtain ⟨ad363, A363_3, c363_3, e363, hx363_0, hx363_1, hx363_2, hx363_3, hl363_3, hi363_3⟩ := at_T102 HR359_21.1 x11_1 p363 q363
                obtain rfl : ad362 = ad363 := (by injection e363)
                replace hx363_0 := (HB.1.cell (World.block_lt_of_cell? w _ hx363_0)).trans hx363_0
                replace hx363_1 := (HB.1.cell (World.block_lt_of_cell? w _ hx363_1)).trans hx363_1
                replace hx363_2 := (HB.1.cell (World.block_lt_of_cell? w _ hx363_2)).trans hx363_2
                replace hx363_3 := (HB.1.cell (World.block_lt_of_cell? w _ hx363_3)).trans hx363_3
                have HR363_3 := Am_ hi363_3
                have HC363_3 := Am_ hl363_3
                clear hi363_3 hl363_3
                replace p363 := eq_true p363
                replace q363 := eq_true q363
                go_wp2
                repeat (go_quiet (fail); try go_wp2)
                go_roundg kj11
                case measure => have := HK1.1; have := HJ11.out; omega
                case rel => exact ⟨(x11_1), (wrap64 (x11_1 + 1)), (by first | rfl | (simp; done) | (simp [*]; done)), (by first | rfl | (simp; done) | (simp [*]; done)), H', ⟨by have := HK1.1; have := HJ11.out; omega⟩, ⟨by (with_reducible repeat (first | refine kN_ ?_ _ | refine kD_ ?_ | refine kA_ ?_ _)); exact BK357.1⟩, ⟨by repeat (first | (with_reducible first | exact HB.1 | apply bA_ | apply bN_ | apply bD_ | refine bS_ ?_ GE357.1) | exact HB.1)⟩⟩
              ·rw [if_neg c20] at H
               exact absurd H (by simp)
             ·rw [if_neg c19] at H
              exact absurd H (by simp)
            ·rw [if_neg c18] at H
             exact absurd H (by simp)
           ·rw [if_neg c17] at H
            exact absurd H (by simp)
          ·rw [if_neg c16] at H
           have c16b0 : decide (0 ≤ x9_1) = false := decide_eq_false c16
           clear c16
           have H' := Am_ H
           clear H
           go_wp2
           repeat (go_quiet (fail); try go_wp2)
           go_roundg kj11
           case measure => have := HK1.1; have := HJ11.out; omega
           case rel => exact ⟨(x11_1), (wrap64 (x11_1 + 1)), (by first | rfl | (simp; done) | (simp [*]; done)), (by first | rfl | (simp; done) | (simp [*]; done)), H', ⟨by have := HK1.1; have := HJ11.out; omega⟩, ⟨by (with_reducible repeat (first | refine kN_ ?_ _ | refine kD_ ?_ | refine kA_ ?_ _)); exact BK357.1⟩, ⟨by repeat (first | (with_reducible first | exact HB.1 | apply bA_ | apply bN_ | apply bD_ | refine bS_ ?_ GE357.1) | exact HB.1)⟩⟩
      ·rw [if_neg c11] at H
       have c11b0 : decide (x11_1 < (((rd_T97 l0_3 a2).f8).length : Int)) = false := decide_eq_false c11
       clear c11
       obtain rfl := Option.some.inj H
       go_wp2
       repeat (go_quiet (fail); try go_wp2)
       go_ret
       exact ⟨by first | rfl | (simp [errW_none, errW_some] <;> rfl) | (simp [*, errW_none, errW_some] <;> rfl), by repeat (first | (with_reducible first | exact HB.1 | apply bA_ | apply bN_ | apply bD_ | refine bS_ ?_ GE357.1) | exact HB.1)⟩
   ·rw [if_neg c8] at H
    exact absurd H (by simp)
  ·rw [if_neg c7] at H
   exact absurd H (by simp)
 ·replace c6 := Bool.eq_false_iff.mpr c6
  subst c6
  have H1 : (some false) = some r := by rw [if_neg (show ¬ (false = true) by decide)] at H; exact H
  clear H
  have H := H1
  clear H1
  obtain rfl := Option.some.inj H
  go_enter Try.func28, Try.ntmps28
  go_wp2_with (first | ((with_reducible refine gate_dst (N := 4) rfl ?_); refine box_event ?hg (N := 4) ?hd (cs := #[.slice A0_0 l0_0.length c0_0, .int .i64 a0_1, .int .i64 a0_2, .slice A0_3 l0_3.length c0_3, .int .i64 a0_4, .int .i64 a0_5, .int .i64 a0_6]) (t := 33) ?hr ?_; (case hd => rfl); (case hg => rfl); (case hr => first | (go_simp; done) | (go_simp; rfl)); intro gb357 hg w22 hbox hb; have n0_ := Am_ (bT_ (by repeat (first | (with_reducible first | exact HB.1 | apply bA_ | apply bN_ | apply bD_) | exact HB.1)) hb); have n1_ := Am_ (hbox); have n2_ := Am_ ((by rw [hg]; exact (bZ_ (by repeat (first | (with_reducible first | exact HB.1 | apply bA_ | apply bN_ | apply bD_) | exact HB.1))) : w.heap.size ≤ gb357)); have n3_ := Am_ ((by rw [hg]; exact (bZ_ (by repeat (first | (with_reducible first | exact HB.1 | apply bA_ | apply bN_ | apply bD_) | exact HB.1))) : w.heap.size ≤ gb357)); clear HB; have HB := n0_; have BK357 := n1_; have GW357 := n2_; have GE357 := n3_; clear n0_ n1_ n2_ n3_ hb hbox hg; have hcz23_0 : w22.cell? ⟨gb357, 0, none⟩ = some (.slice A0_0 l0_0.length c0_0) := kC_ BK357.1 0; have hcz23_1 : w22.cell? ⟨gb357, 1, none⟩ = some (.int .i64 a0_1) := kC_ BK357.1 1; have hcz23_2 : w22.cell? ⟨gb357, 2, none⟩ = some (.int .i64 a0_2) := kC_ BK357.1 2; have hcz23_3 : w22.cell? ⟨gb357, 3, none⟩ = some (.slice A0_3 l0_3.length c0_3) := kC_ BK357.1 3; have hcz23_4 : w22.cell? ⟨gb357, 4, none⟩ = some (.int .i64 a0_4) := kC_ BK357.1 4; have hcz23_5 : w22.cell? ⟨gb357, 5, none⟩ = some (.int .i64 a0_5) := kC_ BK357.1 5; have hcz23_6 : w22.cell? ⟨gb357, 6, none⟩ = some (.int .i64 a0_6) := kC_ BK357.1 6; have hfz23_0 := kF_ BK357.1 0; have hfz23_1 := kF_ BK357.1 1; have hfz23_2 := kF_ BK357.1 2; have hfz23_3 := kF_ BK357.1 3; have hfz23_4 := kF_ BK357.1 4; have hfz23_5 := kF_ BK357.1 5; have hfz23_6 := kF_ BK357.1 6) | (go_at_call 69; (with_reducible refine (spec_l1In.calls a2 0 (wrap64 ((l0_3.length : Int) - 1)) false _ A5.1).mono ?_); rintro e w' ⟨rfl, ⟨nd, rfl⟩⟩; (try first | exact ⟨rfl, _, World.drewN_drewN _ _ _⟩ | exact ⟨rfl, _, Eq.trans (World.drewN_drewN _ _ _) (congrArg (World.drewN _) (Nat.add_assoc _ _ _))⟩)))
  repeat (go_quiet (first | ((with_reducible refine gate_dst (N := 4) rfl ?_); refine box_event ?hg (N := 4) ?hd (cs := #[.slice A0_0 l0_0.length c0_0, .int .i64 a0_1, .int .i64 a0_2, .slice A0_3 l0_3.length c0_3, .int .i64 a0_4, .int .i64 a0_5, .int .i64 a0_6]) (t := 33) ?hr ?_; (case hd => rfl); (case hg => rfl); (case hr => first | (go_simp; done) | (go_simp; rfl)); intro gb357 hg w22 hbox hb; have n0_ := Am_ (bT_ (by repeat (first | (with_reducible first | exact HB.1 | apply bA_ | apply bN_ | apply bD_) | exact HB.1)) hb); have n1_ := Am_ (hbox); have n2_ := Am_ ((by rw [hg]; exact (bZ_ (by repeat (first | (with_reducible first | exact HB.1 | apply bA_ | apply bN_ | apply bD_) | exact HB.1))) : w.heap.size ≤ gb357)); have n3_ := Am_ ((by rw [hg]; exact (bZ_ (by repeat (first | (with_reducible first | exact HB.1 | apply bA_ | apply bN_ | apply bD_) | exact HB.1))) : w.heap.size ≤ gb357)); clear HB; have HB := n0_; have BK357 := n1_; have GW357 := n2_; have GE357 := n3_; clear n0_ n1_ n2_ n3_ hb hbox hg; have hcz23_0 : w22.cell? ⟨gb357, 0, none⟩ = some (.slice A0_0 l0_0.length c0_0) := kC_ BK357.1 0; have hcz23_1 : w22.cell? ⟨gb357, 1, none⟩ = some (.int .i64 a0_1) := kC_ BK357.1 1; have hcz23_2 : w22.cell? ⟨gb357, 2, none⟩ = some (.int .i64 a0_2) := kC_ BK357.1 2; have hcz23_3 : w22.cell? ⟨gb357, 3, none⟩ = some (.slice A0_3 l0_3.length c0_3) := kC_ BK357.1 3; have hcz23_4 : w22.cell? ⟨gb357, 4, none⟩ = some (.int .i64 a0_4) := kC_ BK357.1 4; have hcz23_5 : w22.cell? ⟨gb357, 5, none⟩ = some (.int .i64 a0_5) := kC_ BK357.1 5; have hcz23_6 : w22.cell? ⟨gb357, 6, none⟩ = some (.int .i64 a0_6) := kC_ BK357.1 6; have hfz23_0 := kF_ BK357.1 0; have hfz23_1 := kF_ BK357.1 1; have hfz23_2 := kF_ BK357.1 2; have hfz23_3 := kF_ BK357.1 3; have hfz23_4 := kF_ BK357.1 4; have hfz23_5 := kF_ BK357.1 5; have hfz23_6 := kF_ BK357.1 6) | (go_at_call 69; (with_reducible refine (spec_l1In.calls a2 0 (wrap64 ((l0_3.length : Int) - 1)) false _ A5.1).mono ?_); rintro e w' ⟨rfl, ⟨nd, rfl⟩⟩; (try first | exact ⟨rfl, _, World.drewN_drewN _ _ _⟩ | exact ⟨rfl, _, Eq.trans (World.drewN_drewN _ _ _) (congrArg (World.drewN _) (Nat.add_assoc _ _ _))⟩))); try go_wp2_with (first | ((with_reducible refine gate_dst (N := 4) rfl ?_); refine box_event ?hg (N := 4) ?hd (cs := #[.slice A0_0 l0_0.length c0_0, .int .i64 a0_1, .int .i64 a0_2, .slice A0_3 l0_3.length c0_3, .int .i64 a0_4, .int .i64 a0_5, .int .i64 a0_6]) (t := 33) ?hr ?_; (case hd => rfl); (case hg => rfl); (case hr => first | (go_simp; done) | (go_simp; rfl)); intro gb357 hg w22 hbox hb; have n0_ := Am_ (bT_ (by repeat (first | (with_reducible first | exact HB.1 | apply bA_ | apply bN_ | apply bD_) | exact HB.1)) hb); have n1_ := Am_ (hbox); have n2_ := Am_ ((by rw [hg]; exact (bZ_ (by repeat (first | (with_reducible first | exact HB.1 | apply bA_ | apply bN_ | apply bD_) | exact HB.1))) : w.heap.size ≤ gb357)); have n3_ := Am_ ((by rw [hg]; exact (bZ_ (by repeat (first | (with_reducible first | exact HB.1 | apply bA_ | apply bN_ | apply bD_) | exact HB.1))) : w.heap.size ≤ gb357)); clear HB; have HB := n0_; have BK357 := n1_; have GW357 := n2_; have GE357 := n3_; clear n0_ n1_ n2_ n3_ hb hbox hg; have hcz23_0 : w22.cell? ⟨gb357, 0, none⟩ = some (.slice A0_0 l0_0.length c0_0) := kC_ BK357.1 0; have hcz23_1 : w22.cell? ⟨gb357, 1, none⟩ = some (.int .i64 a0_1) := kC_ BK357.1 1; have hcz23_2 : w22.cell? ⟨gb357, 2, none⟩ = some (.int .i64 a0_2) := kC_ BK357.1 2; have hcz23_3 : w22.cell? ⟨gb357, 3, none⟩ = some (.slice A0_3 l0_3.length c0_3) := kC_ BK357.1 3; have hcz23_4 : w22.cell? ⟨gb357, 4, none⟩ = some (.int .i64 a0_4) := kC_ BK357.1 4; have hcz23_5 : w22.cell? ⟨gb357, 5, none⟩ = some (.int .i64 a0_5) := kC_ BK357.1 5; have hcz23_6 : w22.cell? ⟨gb357, 6, none⟩ = some (.int .i64 a0_6) := kC_ BK357.1 6; have hfz23_0 := kF_ BK357.1 0; have hfz23_1 := kF_ BK357.1 1; have hfz23_2 := kF_ BK357.1 2; have hfz23_3 := kF_ BK357.1 3; have hfz23_4 := kF_ BK357.1 4; have hfz23_5 := kF_ BK357.1 5; have hfz23_6 := kF_ BK357.1 6) | (go_at_call 69; (with_reducible refine (spec_l1In.calls a2 0 (wrap64 ((l0_3.length : Int) - 1)) false _ A5.1).mono ?_); rintro e w' ⟨rfl, ⟨nd, rfl⟩⟩; (try first | exact ⟨rfl, _, World.drewN_drewN _ _ _⟩ | exact ⟨rfl, _, Eq.trans (World.drewN_drewN _ _ _) (congrArg (World.drewN _) (Nat.add_assoc _ _ _))⟩))))
  go_ret
  exact ⟨by first | rfl | (simp [errW_none, errW_some] <;> rfl) | (simp [*, errW_none, errW_some] <;> rfl), by repeat (first | (with_reducible first | exact HB.1 | apply bA_ | apply bN_ | apply bD_ | refine bS_ ?_ GE357.1) | exact HB.1)⟩

/-! ### impl_isAirStation: function 70 -/
def impl_isAirStation.f (l0_0 : List Int) (a0_1 : Int) (a0_2 : Int) (l0_3 : List (S97)) (a0_4 : Int) (a0_5 : Int) (a0_6 : Int) (a1 : Int) : Option (Bool) := if a1 ≥ 0 then (some (decide (a1 < (l0_3.length : Int)))) else (some false)
set_option maxHeartbeats 8000000 in
set_option maxRecDepth 100000 in
theorem impl_isAirStation.calls (A0_0 : Option Addr) (c0_0 : Nat) (l0_0 : List Int) (a0_1 : Int) (a0_2 : Int) (A0_3 : Option Addr) (c0_3 : Nat) (l0_3 : List (S97)) (a0_4 : Int) (a0_5 : Int) (a0_6 : Int) (a1 : Int) (r : Bool) (w : World) (hr0_0 : Kd.C (Kd.int .i64) w A0_0 l0_0.length l0_0) (hc0_0 : l0_0.length ≤ c0_0) (hr0_3 : Kd.C k97 w A0_3 l0_3.length l0_3) (hc0_3 : l0_3.length ≤ c0_3) (h : impl_isAirStation.f l0_0 a0_1 a0_2 l0_3 a0_4 a0_5 a0_6 a1 = some r) :
  Calls Try.prog 70 #[.agg #[.slice A0_0 l0_0.length c0_0, .int .i64 a0_1, .int .i64 a0_2, .slice A0_3 l0_3.length c0_3, .int .i64 a0_4, .int .i64 a0_5, .int .i64 a0_6], .int .i64 a1] w fun e w' => e = .returned (.bool r) ∧ Below w.heap.size w w' := by
 have hu33 := Try.underlying33
 have HR0_0 := Am_ hr0_0
 have HC0_0 := Am_ hc0_0
 clear hr0_0 hc0_0
 have HR0_3 := Am_ hr0_3
 have HC0_3 := Am_ hc0_3
 clear hr0_3 hc0_3
 have HB := Am_ (Below.refl w.heap.size w)
 have H : (if a1 ≥ 0 then (some (decide (a1 < (l0_3.length : Int)))) else (some false)) = some r := h
 clear h
 by_cases c3 : a1 ≥ 0
 ·rw [if_pos c3] at H
  have c3b0 : decide (0 ≤ a1) = true := decide_eq_true c3
  clear c3
  obtain rfl := Option.some.inj H
  go_enter Try.func70, Try.ntmps70
  go_wp2_with (first | ((with_reducible refine gate_dst (N := 2) rfl ?_); (try (refine gate_guard (by rfl) ?_; dsimp only)); refine box_event ?hg (N := 2) ?hd (cs := #[.slice A0_0 l0_0.length c0_0, .int .i64 a0_1, .int .i64 a0_2, .slice A0_3 l0_3.length c0_3, .int .i64 a0_4, .int .i64 a0_5, .int .i64 a0_6]) (t := 33) ?hr ?_; (case hd => rfl); (case hg => rfl); (case hr => first | (go_simp; done) | (go_simp; rfl)); intro gb364 hg w4 hbox hb; have n0_ := Am_ (bT_ (by repeat (first | (with_reducible first | exact HB.1 | apply bA_ | apply bN_ | apply bD_) | exact HB.1)) hb); have n1_ := Am_ (hbox); have n2_ := Am_ ((by rw [hg]; exact (bZ_ (by repeat (first | (with_reducible first | exact HB.1 | apply bA_ | apply bN_ | apply bD_) | exact HB.1))) : w.heap.size ≤ gb364)); have n3_ := Am_ ((by rw [hg]; exact (bZ_ (by repeat (first | (with_reducible first | exact HB.1 | apply bA_ | apply bN_ | apply bD_) | exact HB.1))) : w.heap.size ≤ gb364)); clear HB; have HB := n0_; have BK364 := n1_; have GW364 := n2_; have GE364 := n3_; clear n0_ n1_ n2_ n3_ hb hbox hg; have hcz5_0 : w4.cell? ⟨gb364, 0, none⟩ = some (.slice A0_0 l0_0.length c0_0) := kC_ BK364.1 0; have hcz5_1 : w4.cell? ⟨gb364, 1, none⟩ = some (.int .i64 a0_1) := kC_ BK364.1 1; have hcz5_2 : w4.cell? ⟨gb364, 2, none⟩ = some (.int .i64 a0_2) := kC_ BK364.1 2; have hcz5_3 : w4.cell? ⟨gb364, 3, none⟩ = some (.slice A0_3 l0_3.length c0_3) := kC_ BK364.1 3; have hcz5_4 : w4.cell? ⟨gb364, 4, none⟩ = some (.int .i64 a0_4) := kC_ BK364.1 4; have hcz5_5 : w4.cell? ⟨gb364, 5, none⟩ = some (.int .i64 a0_5) := kC_ BK364.1 5; have hcz5_6 : w4.cell? ⟨gb364, 6, none⟩ = some (.int .i64 a0_6) := kC_ BK364.1 6; have hfz5_0 := kF_ BK364.1 0; have hfz5_1 := kF_ BK364.1 1; have hfz5_2 := kF_ BK364.1 2; have hfz5_3 := kF_ BK364.1 3; have hfz5_4 := kF_ BK364.1 4; have hfz5_5 := kF_ BK364.1 5; have hfz5_6 := kF_ BK364.1 6))
  go_ret
  exact ⟨by first | rfl | (simp [errW_none, errW_some] <;> rfl) | (simp [*, errW_none, errW_some] <;> rfl), by repeat (first | (with_reducible first | exact HB.1 | apply bA_ | apply bN_ | apply bD_ | refine bS_ ?_ GE364.1) | exact HB.1)⟩
 ·rw [if_neg c3] at H
  have c3b0 : decide (0 ≤ a1) = false := decide_eq_false c3
  clear c3
  obtain rfl := Option.some.inj H
  go_enter Try.func70, Try.ntmps70
  go_wp2_with (first | ((with_reducible refine gate_dst (N := 2) rfl ?_); (try (refine gate_guard (by rfl) ?_; dsimp only)); refine box_event ?hg (N := 2) ?hd (cs := #[.slice A0_0 l0_0.length c0_0, .int .i64 a0_1, .int .i64 a0_2, .slice A0_3 l0_3.length c0_3, .int .i64 a0_4, .int .i64 a0_5, .int .i64 a0_6]) (t := 33) ?hr ?_; (case hd => rfl); (case hg => rfl); (case hr => first | (go_simp; done) | (go_simp; rfl)); intro gb364 hg w6 hbox hb; have n0_ := Am_ (bT_ (by repeat (first | (with_reducible first | exact HB.1 | apply bA_ | apply bN_ | apply bD_) | exact HB.1)) hb); have n1_ := Am_ (hbox); have n2_ := Am_ ((by rw [hg]; exact (bZ_ (by repeat (first | (with_reducible first | exact HB.1 | apply bA_ | apply bN_ | apply bD_) | exact HB.1))) : w.heap.size ≤ gb364)); have n3_ := Am_ ((by rw [hg]; exact (bZ_ (by repeat (first | (with_reducible first | exact HB.1 | apply bA_ | apply bN_ | apply bD_) | exact HB.1))) : w.heap.size ≤ gb364)); clear HB; have HB := n0_; have BK364 := n1_; have GW364 := n2_; have GE364 := n3_; clear n0_ n1_ n2_ n3_ hb hbox hg))
  go_ret
  exact ⟨by first | rfl | (simp [errW_none, errW_some] <;> rfl) | (simp [*, errW_none, errW_some] <;> rfl), by repeat (first | (with_reducible first | exact HB.1 | apply bA_ | apply bN_ | apply bD_ | refine bS_ ?_ GE364.1) | exact HB.1)⟩

end Go.Proofs.Ytlkofdedkfmaeaa.XFnExactDeliveredInOrder
