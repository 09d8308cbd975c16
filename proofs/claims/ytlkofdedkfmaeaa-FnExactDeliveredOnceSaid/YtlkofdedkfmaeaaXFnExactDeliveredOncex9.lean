/- The functions that the law reaches as plain Lean functions, and of each a proof that its call computes it. Conditions: those that each theorem names. -/
import Derived.Test.YtlkofdedkfmaeaaWS
import Derived.Test.YtlkofdedkfmaeaaXFnExactDeliveredOncex0
namespace Go.Proofs.Ytlkofdedkfmaeaa.XFnExactDeliveredOnce
open Go.RowKit Go.Proofs.YtlkofdedkfmaeaaW.PrintWords Go.Proofs.YtlkofdedkfmaeaaW.PrintLast Go.Proofs.YtlkofdedkfmaeaaW.PrintMore Go.Proofs.Ytlkofdedkfmaeaa.X
attribute [local go_sem] max2_int min2_int max_two min_two max_three min_three max_four min_four   -- for this text's walks alone
set_option linter.unusedVariables false
set_option linter.unusedSimpArgs false

/-! ### spec_DeliveredOnce: function 20 -/
mutual
def spec_DeliveredOnce.l0 : Nat → Int → List Int → Int → Int → List (S97) → Int → Int → Int → Option (Bool)
 | 0, _, _, _, _, _, _, _, _ => none
 | k + 1, x3, x358000, x358001, x358002, x358003, x358004, x358005, x358006 => if x3 < (x358003.length : Int) then (if 0 ≤ x3 then (spec_DeliveredOnce.l1 k x3 ((rd_T97 x358003 x3).f8) 0 x358000 x358001 x358002 x358003 x358004 x358005 x358006) else (none)) else (some true)
def spec_DeliveredOnce.l1 : Nat → Int → List (S102) → Int → List Int → Int → Int → List (S97) → Int → Int → Int → Option (Bool)
 | 0, _, _, _, _, _, _, _, _, _, _ => none
 | k + 1, x3, x4, x5, x358000, x358001, x358002, x358003, x358004, x358005, x358006 => if x5 < (x4.length : Int) then (spec_DeliveredOnce.l2 k x3 x4 x5 0 x358000 x358001 x358002 x358003 x358004 x358005 x358006) else (spec_DeliveredOnce.l0 k (wrap64 (x3 + 1)) x358000 x358001 x358002 x358003 x358004 x358005 x358006)
def spec_DeliveredOnce.l2 : Nat → Int → List (S102) → Int → Int → List Int → Int → Int → List (S97) → Int → Int → Int → Option (Bool)
 | 0, _, _, _, _, _, _, _, _, _, _, _ => none
 | k + 1, x3, x4, x5, x6, x358000, x358001, x358002, x358003, x358004, x358005, x358006 => if x6 < x5 then (if 0 ≤ x6 then (if x6 < (x4.length : Int) then (if 0 ≤ x5 then (if x5 < (x4.length : Int) then (if ((rd_T102 x4 x6).f0) = ((rd_T102 x4 x5).f0) then (if ((rd_T102 x4 x6).f2) = ((rd_T102 x4 x5).f2) then (some false) else (spec_DeliveredOnce.l2 k x3 x4 x5 (wrap64 (x6 + 1)) x358000 x358001 x358002 x358003 x358004 x358005 x358006)) else (spec_DeliveredOnce.l2 k x3 x4 x5 (wrap64 (x6 + 1)) x358000 x358001 x358002 x358003 x358004 x358005 x358006)) else (none)) else (none)) else (none)) else (none)) else (spec_DeliveredOnce.l1 k x3 x4 (wrap64 (x5 + 1)) x358000 x358001 x358002 x358003 x358004 x358005 x358006)
end
def spec_DeliveredOnce.f (k : Nat) (l0_0 : List Int) (a0_1 : Int) (a0_2 : Int) (l0_3 : List (S97)) (a0_4 : Int) (a0_5 : Int) (a0_6 : Int) : Option (Bool) := spec_DeliveredOnce.l0 k 0 l0_0 a0_1 a0_2 l0_3 a0_4 a0_5 a0_6
theorem spec_DeliveredOnce.mono_l : ∀ k, (∀ y0 y1 y2 y3 y4 y5 y6 y7, LeO (spec_DeliveredOnce.l0 k y0 y1 y2 y3 y4 y5 y6 y7) (spec_DeliveredOnce.l0 (k + 1) y0 y1 y2 y3 y4 y5 y6 y7)) ∧ (∀ y0 y1 y2 y3 y4 y5 y6 y7 y8 y9, LeO (spec_DeliveredOnce.l1 k y0 y1 y2 y3 y4 y5 y6 y7 y8 y9) (spec_DeliveredOnce.l1 (k + 1) y0 y1 y2 y3 y4 y5 y6 y7 y8 y9)) ∧ (∀ y0 y1 y2 y3 y4 y5 y6 y7 y8 y9 y10, LeO (spec_DeliveredOnce.l2 k y0 y1 y2 y3 y4 y5 y6 y7 y8 y9 y10) (spec_DeliveredOnce.l2 (k + 1) y0 y1 y2 y3 y4 y5 y6 y7 y8 y9 y10))
 | 0 => ⟨fun _ _ _ _ _ _ _ _ r h => by simp [spec_DeliveredOnce.l0] at h, fun _ _ _ _ _ _ _ _ _ _ r h => by simp [spec_DeliveredOnce.l1] at h, fun _ _ _ _ _ _ _ _ _ _ _ r h => by simp [spec_DeliveredOnce.l2] at h⟩
 | k + 1 => by
  obtain ⟨ih0, ih1, ih2⟩ := spec_DeliveredOnce.mono_l k
  refine ⟨?_, ?_, ?_⟩
  ·intro y0 y1 y2 y3 y4 y5 y6 y7
   unfold spec_DeliveredOnce.l0
   repeat' first
   | (with_reducible exact ih0 _ _ _ _ _ _ _ _)
   | (with_reducible exact ih1 _ _ _ _ _ _ _ _ _ _)
   | (with_reducible exact ih2 _ _ _ _ _ _ _ _ _ _ _)
   | (with_reducible exact LeO.refl _)
   | (with_reducible exact LeO.none _)
   | (with_reducible refine LeO.ite ?_ ?_)
   | (with_reducible refine LeO.bind ?_ (fun _ => ?_))
   | exact ih0 _ _ _ _ _ _ _ _
   | exact ih1 _ _ _ _ _ _ _ _ _ _
   | exact ih2 _ _ _ _ _ _ _ _ _ _ _
   | exact LeO.none _
   | refine LeO.ite ?_ ?_
   | refine LeO.bind ?_ (fun _ => ?_)
  ·intro y0 y1 y2 y3 y4 y5 y6 y7 y8 y9
   unfold spec_DeliveredOnce.l1
   repeat' first
   | (with_reducible exact ih0 _ _ _ _ _ _ _ _)
   | (with_reducible exact ih1 _ _ _ _ _ _ _ _ _ _)
   | (with_reducible exact ih2 _ _ _ _ _ _ _ _ _ _ _)
   | (with_reducible exact LeO.refl _)
   | (with_reducible exact LeO.none _)
   | (with_reducible refine LeO.ite ?_ ?_)
   | (with_reducible refine LeO.bind ?_ (fun _ => ?_))
   | exact ih0 _ _ _ _ _ _ _ _
   | exact ih1 _ _ _ _ _ _ _ _ _ _
   | exact ih2 _ _ _ _ _ _ _ _ _ _ _
   | exact LeO.none _
   | refine LeO.ite ?_ ?_
   | refine LeO.bind ?_ (fun _ => ?_)
  ·intro y0 y1 y2 y3 y4 y5 y6 y7 y8 y9 y10
   unfold spec_DeliveredOnce.l2
   repeat' first
   | (with_reducible exact ih0 _ _ _ _ _ _ _ _)
   | (with_reducible exact ih1 _ _ _ _ _ _ _ _ _ _)
   | (with_reducible exact ih2 _ _ _ _ _ _ _ _ _ _ _)
   | (with_reducible exact LeO.refl _)
   | (with_reducible exact LeO.none _)
   | (with_reducible refine LeO.ite ?_ ?_)
   | (with_reducible refine LeO.bind ?_ (fun _ => ?_))
   | exact ih0 _ _ _ _ _ _ _ _
   | exact ih1 _ _ _ _ _ _ _ _ _ _
   | exact ih2 _ _ _ _ _ _ _ _ _ _ _
   | exact LeO.none _
   | refine LeO.ite ?_ ?_
   | refine LeO.bind ?_ (fun _ => ?_)
theorem spec_DeliveredOnce.mono : ∀ a0 a1 a2 a3 a4 a5 a6 k, LeO (spec_DeliveredOnce.f k a0 a1 a2 a3 a4 a5 a6) (spec_DeliveredOnce.f (k + 1) a0 a1 a2 a3 a4 a5 a6) := by
 intro a0 a1 a2 a3 a4 a5 a6 k
 obtain ⟨ih0, ih1, ih2⟩ := spec_DeliveredOnce.mono_l k
 unfold spec_DeliveredOnce.f
 repeat' first
   | (with_reducible exact ih0 _ _ _ _ _ _ _ _)
   | (with_reducible exact ih1 _ _ _ _ _ _ _ _ _ _)
   | (with_reducible exact ih2 _ _ _ _ _ _ _ _ _ _ _)
   | (with_reducible exact LeO.refl _)
   | (with_reducible exact LeO.none _)
   | (with_reducible refine LeO.ite ?_ ?_)
   | (with_reducible refine LeO.bind ?_ (fun _ => ?_))
   | exact ih0 _ _ _ _ _ _ _ _
   | exact ih1 _ _ _ _ _ _ _ _ _ _
   | exact ih2 _ _ _ _ _ _ _ _ _ _ _
   | exact LeO.none _
   | refine LeO.ite ?_ ?_
   | refine LeO.bind ?_ (fun _ => ?_)
set_option maxHeartbeats 8000000 in
set_option maxRecDepth 100000 in
theorem spec_DeliveredOnce.calls (k : Nat) (A0_0 : Option Addr) (c0_0 : Nat) (l0_0 : List Int) (a0_1 : Int) (a0_2 : Int) (A0_3 : Option Addr) (c0_3 : Nat) (l0_3 : List (S97)) (a0_4 : Int) (a0_5 : Int) (a0_6 : Int) (r : Bool) (w : World) (hr0_0 : Kd.C (Kd.int .i64) w A0_0 l0_0.length l0_0) (hc0_0 : l0_0.length ≤ c0_0) (hr0_3 : Kd.C k97 w A0_3 l0_3.length l0_3) (hc0_3 : l0_3.length ≤ c0_3) (h : spec_DeliveredOnce.f k l0_0 a0_1 a0_2 l0_3 a0_4 a0_5 a0_6 = some r) :
  Calls Try.prog 20 #[.agg #[.slice A0_0 l0_0.length c0_0, .int .i64 a0_1, .int .i64 a0_2, .slice A0_3 l0_3.length c0_3, .int .i64 a0_4, .int .i64 a0_5, .int .i64 a0_6]] w fun e w' => e = .returned (.bool r) ∧ Below w.heap.size w w' := by
 have hu33 := Try.underlying33
 have HR0_0 := Am_ hr0_0
 have HC0_0 := Am_ hc0_0
 clear hr0_0 hc0_0
 have HR0_3 := Am_ hr0_3
 have HC0_3 := Am_ hc0_3
 clear hr0_3 hc0_3
 have HB := Am_ (Below.refl w.heap.size w)
 have H : (spec_DeliveredOnce.l0 k 0 l0_0 a0_1 a0_2 l0_3 a0_4 a0_5 a0_6) = some r := h
 clear h
 have H' := Am_ H
 clear H
 go_enter Try.func20, Try.ntmps20
 go_wp2_with (first | ((with_reducible refine gate_dst (N := 1) rfl ?_); refine box_event ?hg (N := 1) ?hd (cs := #[.slice A0_0 l0_0.length c0_0, .int .i64 a0_1, .int .i64 a0_2, .slice A0_3 l0_3.length c0_3, .int .i64 a0_4, .int .i64 a0_5, .int .i64 a0_6]) (t := 33) ?hr ?_; (case hd => rfl); (case hg => rfl); (case hr => first | (go_simp; done) | (go_simp; rfl)); intro gb357 hg w2 hbox hb; have n0_ := Am_ (bT_ (by repeat (first | (with_reducible first | exact HB.1 | apply bA_ | apply bN_ | apply bD_) | exact HB.1)) hb); have n1_ := Am_ (hbox); have n2_ := Am_ ((by rw [hg]; exact (bZ_ (by repeat (first | (with_reducible first | exact HB.1 | apply bA_ | apply bN_ | apply bD_) | exact HB.1))) : w.heap.size ≤ gb357)); have n3_ := Am_ ((by rw [hg]; exact (bZ_ (by repeat (first | (with_reducible first | exact HB.1 | apply bA_ | apply bN_ | apply bD_) | exact HB.1))) : w.heap.size ≤ gb357)); clear HB; have HB := n0_; have BK357 := n1_; have GW357 := n2_; have GE357 := n3_; clear n0_ n1_ n2_ n3_ hb hbox hg))
 repeat (go_quiet (first | ((with_reducible refine gate_dst (N := 1) rfl ?_); refine box_event ?hg (N := 1) ?hd (cs := #[.slice A0_0 l0_0.length c0_0, .int .i64 a0_1, .int .i64 a0_2, .slice A0_3 l0_3.length c0_3, .int .i64 a0_4, .int .i64 a0_5, .int .i64 a0_6]) (t := 33) ?hr ?_; (case hd => rfl); (case hg => rfl); (case hr => first | (go_simp; done) | (go_simp; rfl)); intro gb357 hg w2 hbox hb; have n0_ := Am_ (bT_ (by repeat (first | (with_reducible first | exact HB.1 | apply bA_ | apply bN_ | apply bD_) | exact HB.1)) hb); have n1_ := Am_ (hbox); have n2_ := Am_ ((by rw [hg]; exact (bZ_ (by repeat (first | (with_reducible first | exact HB.1 | apply bA_ | apply bN_ | apply bD_) | exact HB.1))) : w.heap.size ≤ gb357)); have n3_ := Am_ ((by rw [hg]; exact (bZ_ (by repeat (first | (with_reducible first | exact HB.1 | apply bA_ | apply bN_ | apply bD_) | exact HB.1))) : w.heap.size ≤ gb357)); clear HB; have HB := n0_; have BK357 := n1_; have GW357 := n2_; have GE357 := n3_; clear n0_ n1_ n2_ n3_ hb hbox hg)); try go_wp2_with (first | ((with_reducible refine gate_dst (N := 1) rfl ?_); refine box_event ?hg (N := 1) ?hd (cs := #[.slice A0_0 l0_0.length c0_0, .int .i64 a0_1, .int .i64 a0_2, .slice A0_3 l0_3.length c0_3, .int .i64 a0_4, .int .i64 a0_5, .int .i64 a0_6]) (t := 33) ?hr ?_; (case hd => rfl); (case hg => rfl); (case hr => first | (go_simp; done) | (go_simp; rfl)); intro gb357 hg w2 hbox hb; have n0_ := Am_ (bT_ (by repeat (first | (with_reducible first | exact HB.1 | apply bA_ | apply bN_ | apply bD_) | exact HB.1)) hb); have n1_ := Am_ (hbox); have n2_ := Am_ ((by rw [hg]; exact (bZ_ (by repeat (first | (with_reducible first | exact HB.1 | apply bA_ | apply bN_ | apply bD_) | exact HB.1))) : w.heap.size ≤ gb357)); have n3_ := Am_ ((by rw [hg]; exact (bZ_ (by repeat (first | (with_reducible first | exact HB.1 | apply bA_ | apply bN_ | apply bD_) | exact HB.1))) : w.heap.size ≤ gb357)); clear HB; have HB := n0_; have BK357 := n1_; have GW357 := n2_; have GE357 := n3_; clear n0_ n1_ n2_ n3_ hb hbox hg)))
 go_loopg [3] k (fun kq v3 w' => ∃ (x3_1 : Int), v3 = .int .i64 x3_1 ∧ Aside0 (spec_DeliveredOnce.l0 kq x3_1 l0_0 a0_1 a0_2 l0_3 a0_4 a0_5 a0_6 = some r) ∧ Aside0 (kq ≤ k) ∧ Aside0 (w'.heap[gb357]? = some (.cells #[(.slice A0_0 l0_0.length c0_0), .int .i64 a0_1, .int .i64 a0_2, (.slice A0_3 l0_3.length c0_3), .int .i64 a0_4, .int .i64 a0_5, .int .i64 a0_6] 33 (0, 0))) ∧ Aside0 (Below w.heap.size w w'))
 case atStart => exact ⟨(0), (by first | rfl | (simp; done) | (simp [*]; done)), H', ⟨Nat.le_refl _⟩, ⟨by (with_reducible repeat (first | refine kN_ ?_ _ | refine kD_ ?_ | refine kA_ ?_ _)); exact BK357.1⟩, ⟨by repeat (first | (with_reducible first | exact HB.1 | apply bA_ | apply bN_ | apply bD_ | refine bS_ ?_ GE357.1) | exact HB.1)⟩⟩
 case round =>
  clear H'
  try clear c2
  try clear p2
  obtain ⟨x3_1, rfl, HA, HK1, BK357, HB⟩ := hrel
  cases gk with
  | zero => exact absurd HA.1 (by simp [spec_DeliveredOnce.l0])
  | succ k1 =>
   have H := HA.1
   clear HA
   simp only [spec_DeliveredOnce.l0] at H
   by_cases c3 : x3_1 < (l0_3.length : Int)
   ·rw [if_pos c3] at H
    have c3b0 : decide (x3_1 < (l0_3.length : Int)) = true := decide_eq_true c3
    clear c3
    by_cases c4 : 0 ≤ x3_1
    ·rw [if_pos c4] at H
     have c4b0 : decide (0 ≤ x3_1) = true := decide_eq_true c4
     clear c4
     have H' := Am_ H
     clear H
     have hcz5_0 : wr.cell? ⟨gb357, 0, none⟩ = some (.slice A0_0 l0_0.length c0_0) := kC_ BK357.1 0
     have hcz5_1 : wr.cell? ⟨gb357, 1, none⟩ = some (.int .i64 a0_1) := kC_ BK357.1 1
     have hcz5_2 : wr.cell? ⟨gb357, 2, none⟩ = some (.int .i64 a0_2) := kC_ BK357.1 2
     have hcz5_3 : wr.cell? ⟨gb357, 3, none⟩ = some (.slice A0_3 l0_3.length c0_3) := kC_ BK357.1 3
     have hcz5_4 : wr.cell? ⟨gb357, 4, none⟩ = some (.int .i64 a0_4) := kC_ BK357.1 4
     have hcz5_5 : wr.cell? ⟨gb357, 5, none⟩ = some (.int .i64 a0_5) := kC_ BK357.1 5
     have hcz5_6 : wr.cell? ⟨gb357, 6, none⟩ = some (.int .i64 a0_6) := kC_ BK357.1 6
     have hfz5_0 := kF_ BK357.1 0
     have hfz5_1 := kF_ BK357.1 1
     have hfz5_2 := kF_ BK357.1 2
     have hfz5_3 := kF_ BK357.1 3
     have hfz5_4 := kF_ BK357.1 4
     have hfz5_5 := kF_ BK357.1 5
     have hfz5_6 := kF_ BK357.1 6
     have p358 : 0 ≤ (x3_1 : Int) := of_decide_eq_true (by first | (with_reducible assumption) | assumption)
     have q358 : x3_1 < (l0_3.length : Int) := of_decide_eq_true (by first | (with_reducible assumption) | assumption)
     obtain ⟨ad358, A358_0, c358_0, A358_6, c358_6, A358_17, c358_17, A358_20, c358_20, A358_21, c358_21, e358, hx358_0, hx358_1, hx358_2, hx358_3, hx358_4, hx358_5, hx358_6, hx358_7, hx358_8, hx358_9, hx358_10, hx358_11, hx358_12, hx358_13, hx358_14, hx358_15, hx358_16, hx358_17, hx358_18, hx358_19, hx358_20, hx358_21, hl358_0, hi358_0, hl358_6, hi358_6, hl358_17, hi358_17, hl358_20, hi358_20, hl358_21, hi358_21⟩ := at_T97 HR0_3.1 x3_1 p358 q358
     cases e358
     replace hx358_0 := (HB.1.cell (World.block_lt_of_cell? w _ hx358_0)).trans hx358_0
     replace hx358_1 := (HB.1.cell (World.block_lt_of_cell? w _ hx358_1)).trans hx358_1
     replace hx358_2 := (HB.1.cell (World.block_lt_of_cell? w _ hx358_2)).trans hx358_2
     replace hx358_3 := (HB.1.cell (World.block_lt_of_cell? w _ hx358_3)).trans hx358_3
     replace hx358_4 := (HB.1.cell (World.block_lt_of_cell? w _ hx358_4)).trans hx358_4
     replace hx358_5 := (HB.1.cell (World.block_lt_of_cell? w _ hx358_5)).trans hx358_5
     replace hx358_6 := (HB.1.cell (World.block_lt_of_cell? w _ hx358_6)).trans hx358_6
     replace hx358_7 := (HB.1.cell (World.block_lt_of_cell? w _ hx358_7)).trans hx358_7
     replace hx358_8 := (HB.1.cell (World.block_lt_of_cell? w _ hx358_8)).trans hx358_8
     replace hx358_9 := (HB.1.cell (World.block_lt_of_cell? w _ hx358_9)).trans hx358_9
     replace hx358_10 := (HB.1.cell (World.block_lt_of_cell? w _ hx358_10)).trans hx358_10
     replace hx358_11 := (HB.1.cell (World.block_lt_of_cell? w _ hx358_11)).trans hx358_11
     replace hx358_12 := (HB.1.cell (World.block_lt_of_cell? w _ hx358_12)).trans hx358_12
     replace hx358_13 := (HB.1.cell (World.block_lt_of_cell? w _ hx358_13)).trans hx358_13
     replace hx358_14 := (HB.1.cell (World.block_lt_of_cell? w _ hx358_14)).trans hx358_14
     replace hx358_15 := (HB.1.cell (World.block_lt_of_cell? w _ hx358_15)).trans hx358_15
     replace hx358_16 := (HB.1.cell (World.block_lt_of_cell? w _ hx358_16)).trans hx358_16
     replace hx358_17 := (HB.1.cell (World.block_lt_of_cell? w _ hx358_17)).trans hx358_17
     replace hx358_18 := (HB.1.cell (World.block_lt_of_cell? w _ hx358_18)).trans hx358_18
     replace hx358_19 := (HB.1.cell (World.block_lt_of_cell? w _ hx358_19)).trans hx358_19
     replace hx358_20 := (HB.1.cell (World.block_lt_of_cell? w _ hx358_20)).trans hx358_20
     replace hx358_21 := (HB.1.cell (World.block_lt_of_cell? w _ hx358_21)).trans hx358_21
     have HR358_0 := Am_ hi358_0
     have HC358_0 := Am_ hl358_0
     clear hi358_0 hl358_0
     have HR358_6 := Am_ hi358_6
     have HC358_6 := Am_ hl358_6
     clear hi358_6 hl358_6
     have HR358_17 := Am_ hi358_17
     have HC358_17 := Am_ hl358_17
     clear hi358_17 hl358_17
     have HR358_20 := Am_ hi358_20
     have HC358_20 := Am_ hl358_20
     clear hi358_20 hl358_20
     have HR358_21 := Am_ hi358_21
     have HC358_21 := Am_ hl358_21
     clear hi358_21 hl358_21
     replace p358 := eq_true p358
     replace q358 := eq_true q358
     go_wp2
     repeat (go_quiet (fail); try go_wp2)
     go_loopg [5] k1 (fun kq v5 w' => ∃ (x5_2 : Int), v5 = .int .i64 x5_2 ∧ Aside0 (spec_DeliveredOnce.l1 kq x3_1 ((rd_T97 l0_3 x3_1).f8) x5_2 l0_0 a0_1 a0_2 l0_3 a0_4 a0_5 a0_6 = some r) ∧ Aside0 (kq ≤ k1) ∧ Aside0 (w'.heap[gb357]? = some (.cells #[(.slice A0_0 l0_0.length c0_0), .int .i64 a0_1, .int .i64 a0_2, (.slice (some ad358) l0_3.length c0_3), .int .i64 a0_4, .int .i64 a0_5, .int .i64 a0_6] 33 (0, 0))) ∧ Aside0 (Below w.heap.size w w'))
     case atStart => exact ⟨(0), (by first | rfl | (simp; done) | (simp [*]; done)), H', ⟨Nat.le_refl _⟩, ⟨by (with_reducible repeat (first | refine kN_ ?_ _ | refine kD_ ?_ | refine kA_ ?_ _)); exact BK357.1⟩, ⟨by repeat (first | (with_reducible first | exact HB.1 | apply bA_ | apply bN_ | apply bD_ | refine bS_ ?_ GE357.1) | exact HB.1)⟩⟩
     case round =>
      clear H'
      try clear c2
      try clear p2
      try clear c3
      try clear c3b0
      try clear p3
      try clear q3
      try clear hx3
      try clear c4
      try clear c4b0
      try clear hcz5_0
      try clear hcz5_1
      try clear hcz5_2
      try clear hcz5_3
      try clear hcz5_4
      try clear hcz5_5
      try clear hcz5_6
      try clear hfz5_0
      try clear hfz5_1
      try clear hfz5_2
      try clear hfz5_3
      try clear hfz5_4
      try clear hfz5_5
      try clear hfz5_6
      try clear hx358_0
      try clear hx358_1
      try clear hx358_10
      try clear hx358_11
      try clear hx358_12
      try clear hx358_13
      try clear hx358_14
      try clear hx358_15
      try clear hx358_16
      try clear hx358_17
      try clear hx358_18
      try clear hx358_19
      try clear hx358_2
      try clear hx358_20
      try clear hx358_21
      try clear hx358_3
      try clear hx358_4
      try clear hx358_5
      try clear hx358_6
      try clear hx358_7
      try clear hx358_8
      try clear hx358_9
      try clear p2
      try clear p358
      try clear q358
      obtain ⟨x5_2, rfl, HA, HK2, BK357, HB⟩ := hrel
      cases gk with
      | zero => exact absurd HA.1 (by simp [spec_DeliveredOnce.l1])
      | succ k2 =>
       have H := HA.1
       clear HA
       simp only [spec_DeliveredOnce.l1] at H
       by_cases c6 : x5_2 < (((rd_T97 l0_3 x3_1).f8).length : Int)
       ·rw [if_pos c6] at H
        have c6b0 : decide (x5_2 < (((rd_T97 l0_3 x3_1).f8).length : Int)) = true := decide_eq_true c6
        clear c6
        have H' := Am_ H
        clear H
        go_wp2
        repeat (go_quiet (fail); try go_wp2)
        go_loopg [6] k2 (fun kq v6 w' => ∃ (x6_3 : Int), v6 = .int .i64 x6_3 ∧ Aside0 (spec_DeliveredOnce.l2 kq x3_1 ((rd_T97 l0_3 x3_1).f8) x5_2 x6_3 l0_0 a0_1 a0_2 l0_3 a0_4 a0_5 a0_6 = some r) ∧ Aside0 (kq ≤ k2) ∧ Aside0 (w'.heap[gb357]? = some (.cells #[(.slice A0_0 l0_0.length c0_0), .int .i64 a0_1, .int .i64 a0_2, (.slice (some ad358) l0_3.length c0_3), .int .i64 a0_4, .int .i64 a0_5, .int .i64 a0_6] 33 (0, 0))) ∧ Aside0 (Below w.heap.size w w'))
        case atStart => exact ⟨(0), (by first | rfl | (simp; done) | (simp [*]; done)), H', ⟨Nat.le_refl _⟩, ⟨by (with_reducible repeat (first | refine kN_ ?_ _ | refine kD_ ?_ | refine kA_ ?_ _)); exact BK357.1⟩, ⟨by repeat (first | (with_reducible first | exact HB.1 | apply bA_ | apply bN_ | apply bD_ | refine bS_ ?_ GE357.1) | exact HB.1)⟩⟩
        case round =>
         clear H'
         try clear c2
         try clear p2
         try clear c3
         try clear c3b0
         try clear p3
         try clear q3
         try clear hx3
         try clear c4
         try clear c4b0
         try clear c6
         try clear c6b0
         try clear hcz5_0
         try clear hcz5_1
         try clear hcz5_2
         try clear hcz5_3
         try clear hcz5_4
         try clear hcz5_5
         try clear hcz5_6
         try clear hfz5_0
         try clear hfz5_1
         try clear hfz5_2
         try clear hfz5_3
         try clear hfz5_4
         try clear hfz5_5
         try clear hfz5_6
         try clear hx358_0
         try clear hx358_1
         try clear hx358_10
         try clear hx358_11
         try clear hx358_12
         try clear hx358_13
         try clear hx358_14
         try clear hx358_15
         try clear hx358_16
         try clear hx358_17
         try clear hx358_18
         try clear hx358_19
         try clear hx358_2
         try clear hx358_20
         try clear hx358_21
         try clear hx358_3
         try clear hx358_4
         try clear hx358_5
         try clear hx358_6
         try clear hx358_7
         try clear hx358_8
         try clear hx358_9
         try clear p2
         try clear p3
         try clear p358
         try clear q3
         try clear q358
         obtain ⟨x6_3, rfl, HA, HK3, BK357, HB⟩ := hrel
         cases gk with
         | zero => exact absurd HA.1 (by simp [spec_DeliveredOnce.l2])
         | succ k3 =>
          have H := HA.1
          clear HA
          simp only [spec_DeliveredOnce.l2] at H
          by_cases c7 : x6_3 < x5_2
          ·rw [if_pos c7] at H
           have c7b0 : decide (x6_3 < x5_2) = true := decide_eq_true c7
           clear c7
           by_cases c8 : 0 ≤ x6_3
           ·rw [if_pos c8] at H
            have c8b0 : decide (0 ≤ x6_3) = true := decide_eq_true c8
            clear c8
            by_cases c9 : x6_3 < (((rd_T97 l0_3 x3_1).f8).length : Int)
            ·rw [if_pos c9] at H
             have c9b0 : decide (x6_3 < (((rd_T97 l0_3 x3_1).f8).length : Int)) = true := decide_eq_true c9
             clear c9
             by_cases c10 : 0 ≤ x5_2
             ·rw [if_pos c10] at H
              have c10b0 : decide (0 ≤ x5_2) = true := decide_eq_true c10
              clear c10
              by_cases c11 : x5_2 < (((rd_T97 l0_3 x3_1).f8).length : Int)
              ·rw [if_pos c11] at H
               have c11b0 : decide (x5_2 < (((rd_T97 l0_3 x3_1).f8).length : Int)) = true := decide_eq_true c11
               clear c11
               by_cases c12 : ((rd_T102 ((rd_T97 l0_3 x3_1).f8) x6_3).f0) = ((rd_T102 ((rd_T97 l0_3 x3_1).f8) x5_2).f0)
               ·rw [if_pos c12] at H
                have c12b0 : (((rd_T102 ((rd_T97 l0_3 x3_1).f8) x6_3).f0) == ((rd_T102 ((rd_T97 l0_3 x3_1).f8) x5_2).f0)) = true := beq_iff_eq.mpr c12
                have c12b1 : (((rd_T102 ((rd_T97 l0_3 x3_1).f8) x6_3).f0) != ((rd_T102 ((rd_T97 l0_3 x3_1).f8) x5_2).f0)) = false := bne_eq_false_iff_eq.mpr c12
                clear c12
                by_cases c13 : ((rd_T102 ((rd_T97 l0_3 x3_1).f8) x6_3).f2) = ((rd_T102 ((rd_T97 l0_3 x3_1).f8) x5_2).f2)
                ·rw [if_pos c13] at H
                 have c13b0 : (((rd_T102 ((rd_T97 l0_3 x3_1).f8) x6_3).f2) == ((rd_T102 ((rd_T97 l0_3 x3_1).f8) x5_2).f2)) = true := beq_iff_eq.mpr c13
                 have c13b1 : (((rd_T102 ((rd_T97 l0_3 x3_1).f8) x6_3).f2) != ((rd_T102 ((rd_T97 l0_3 x3_1).f8) x5_2).f2)) = false := bne_eq_false_iff_eq.mpr c13
                 clear c13
                 obtain rfl := Option.some.inj H
                 have p359 : 0 ≤ (x6_3 : Int) := of_decide_eq_true (by first | (with_reducible assumption) | assumption)
                 have q359 : x6_3 < (((rd_T97 l0_3 x3_1).f8).length : Int) := of_decide_eq_true (by first | (with_reducible assumption) | assumption)
                 obtain ⟨ad359, A359_3, c359_3, e359, hx359_0, hx359_1, hx359_2, hx359_3, hl359_3, hi359_3⟩ := at_T102 HR358_21.1 x6_3 p359 q359
                 cases e359
                 replace hx359_0 := (HB.1.cell (World.block_lt_of_cell? w _ hx359_0)).trans hx359_0
                 replace hx359_1 := (HB.1.cell (World.block_lt_of_cell? w _ hx359_1)).trans hx359_1
                 replace hx359_2 := (HB.1.cell (World.block_lt_of_cell? w _ hx359_2)).trans hx359_2
                 replace hx359_3 := (HB.1.cell (World.block_lt_of_cell? w _ hx359_3)).trans hx359_3
                 have HR359_3 := Am_ hi359_3
                 have HC359_3 := Am_ hl359_3
                 clear hi359_3 hl359_3
                 replace p359 := eq_true p359
                 replace q359 := eq_true q359
                 have p360 : 0 ≤ (x5_2 : Int) := of_decide_eq_true (by first | (with_reducible assumption) | assumption)
                 have q360 : x5_2 < (((rd_T97 l0_3 x3_1).f8).length : Int) := of_decide_eq_true (by first | (with_reducible assumption) | assumption)
                 obtain ⟨ad360, A360_3, c360_3, e360, hx360_0, hx360_1, hx360_2, hx360_3, hl360_3, hi360_3⟩ := at_T102 HR358_21.1 x5_2 p360 q360
                 obtain rfl : ad359 = ad360 := (by injection e360)
                 replace hx360_0 := (HB.1.cell (World.block_lt_of_cell? w _ hx360_0)).trans hx360_0
                 replace hx360_1 := (HB.1.cell (World.block_lt_of_cell? w _ hx360_1)).trans hx360_1
                 replace hx360_2 := (HB.1.cell (World.block_lt_of_cell? w _ hx360_2)).trans hx360_2
                 replace hx360_3 := (HB.1.cell (World.block_lt_of_cell? w _ hx360_3)).trans hx360_3
                 have HR360_3 := Am_ hi360_3
                 have HC360_3 := Am_ hl360_3
                 clear hi360_3 hl360_3
                 replace p360 := eq_true p360
                 replace q360 := eq_true q360
                 have p361 : 0 ≤ (x6_3 : Int) := of_decide_eq_true (by first | (with_reducible assumption) | assumption)
                 have q361 : x6_3 < (((rd_T97 l0_3 x3_1).f8).length : Int) := of_decide_eq_true (by first | (with_reducible assumption) | assumption)
                 obtain ⟨ad361, A361_3, c361_3, e361, hx361_0, hx361_1, hx361_2, hx361_3, hl361_3, hi361_3⟩ := at_T102 HR358_21.1 x6_3 p361 q361
                 obtain rfl : ad359 = ad361 := (by injection e361)
                 replace hx361_0 := (HB.1.cell (World.block_lt_of_cell? w _ hx361_0)).trans hx361_0
                 replace hx361_1 := (HB.1.cell (World.block_lt_of_cell? w _ hx361_1)).trans hx361_1
                 replace hx361_2 := (HB.1.cell (World.block_lt_of_cell? w _ hx361_2)).trans hx361_2
                 replace hx361_3 := (HB.1.cell (World.block_lt_of_cell? w _ hx361_3)).trans hx361_3
                 have HR361_3 := Am_ hi361_3
                 have HC361_3 := Am_ hl361_3
                 clear hi361_3 hl361_3
                 replace p361 := eq_true p361
                 replace q361 := eq_true q361
                 have ea_ := Option.some.inj (hx359_3.symm.trans hx361_3)
                 injection ea_ with ea_ en_ ec_
                 subst ea_
                 subst ec_
                 clear en_
                 have p362 : 0 ≤ (x5_2 : Int) := of_decide_eq_true (by first | (with_reducible assumption) | assumption)
                 have q362 : x5_2 < (((rd_T97 l0_3 x3_1).f8).length : Int) := of_decide_eq_true (by first | (with_reducible assumption) | assumption)
                 obtain ⟨ad362, A362_3, c362_3, e362, hx362_0, hx362_1, hx362_2, hx362_3, hl362_3, hi362_3⟩ := at_T102 HR358_21.1 x5_2 p362 q362
                 obtain rfl : ad359 = ad362 := (by injection e362)
                 replace hx362_0 := (HB.1.cell (World.block_lt_of_cell? w _ hx362_0)).trans hx362_0
                 replace hx362_1 := (HB.1.cell (World.block_lt_of_cell? w _ hx362_1)).trans hx362_1
                 replace hx362_2 := (HB.1.cell (World.block_lt_of_cell? w _ hx362_2)).trans hx362_2
                 replace hx362_3 := (HB.1.cell (World.block_lt_of_cell? w _ hx362_3)).trans hx362_3
                 have HR362_3 := Am_ hi362_3
                 have HC362_3 := Am_ hl362_3
                 clear hi362_3 hl362_3
                 replace p362 := eq_true p362
                 replace q362 := eq_true q362
                 have ea_ := Option.some.inj (hx360_3.symm.trans hx362_3)
                 injection ea_ with ea_ en_ ec_
                 subst ea_
                 subst ec_
                 clear en_
                 go_wp2
                 repeat (go_quiet (fail); try go_wp2)
                 go_ret
                 exact ⟨by first | rfl | (simp [errW_none, errW_some] <;> rfl) | (simp [*, errW_none, errW_some] <;> rfl), by repeat (first | (with_reducible first | exact HB.1 | apply bA_ | apply bN_ | apply bD_ | refine bS_ ?_ GE357.1) | exact HB.1)⟩
                ·rw [if_neg c13] at H
                 have c13b0 : (((rd_T102 ((rd_T97 l0_3 x3_1).f8) x6_3).f2) == ((rd_T102 ((rd_T97 l0_3 x3_1).f8) x5_2).f2)) = false := beq_eq_false_iff_ne.mpr c13
                 have c13b1 : (((rd_T102 ((rd_T97 l0_3 x3_1).f8) x6_3).f2) != ((rd_T102 ((rd_T97 l0_3 x3_1).f8) x5_2).f2)) = true := bne_iff_ne.mpr c13
                 have H' := Am_ H
                 clear H
                 have p359 : 0 ≤ (x6_3 : Int) := of_decide_eq_true (by first | (with_reducible assumption) | assumption)
                 have q359 : x6_3 < (((rd_T97 l0_3 x3_1).f8).length : Int) := of_decide_eq_true (by first | (with_reducible assumption) | assumption)
                 obtain ⟨ad359, A359_3, c359_3, e359, hx359_0, hx359_1, hx359_2, hx359_3, hl359_3, hi359_3⟩ := at_T102 HR358_21.1 x6_3 p359 q359
                 cases e359
                 replace hx359_0 := (HB.1.cell (World.block_lt_of_cell? w _ hx359_0)).trans hx359_0
                 replace hx359_1 := (HB.1.cell (World.block_lt_of_cell? w _ hx359_1)).trans hx359_1
                 replace hx359_2 := (HB.1.cell (World.block_lt_of_cell? w _ hx359_2)).trans hx359_2
                 replace hx359_3 := (HB.1.cell (World.block_lt_of_cell? w _ hx359_3)).trans hx359_3
                 have HR359_3 := Am_ hi359_3
                 have HC359_3 := Am_ hl359_3
                 clear hi359_3 hl359_3
                 replace p359 := eq_true p359
                 replace q359 := eq_true q359
                 have p360 : 0 ≤ (x5_2 : Int) := of_decide_eq_true (by first | (with_reducible assumption) | assumption)
                 have q360 : x5_2 < (((rd_T97 l0_3 x3_1).f8).length : Int) := of_decide_eq_true (by first | (with_reducible assumption) | assumption)
                 obtain ⟨ad360, A360_3, c360_3, e360, hx360_0, hx360_1, hx360_2, hx360_3, hl360_3, hi360_3⟩ := at_T102 HR358_21.1 x5_2 p360 q360
                 obtain rfl : ad359 = ad360 := (by injection e360)
                 replace hx360_0 := (HB.1.cell (World.block_lt_of_cell? w _ hx360_0)).trans hx360_0
                 replace hx360_1 := (HB.1.cell (World.block_lt_of_cell? w _ hx360_1)).trans hx360_1
                 replace hx360_2 := (HB.1.cell (World.block_lt_of_cell? w _ hx360_2)).trans hx360_2
                 replace hx360_3 := (HB.1.cell (World.block_lt_of_cell? w _ hx360_3)).trans hx360_3
                 have HR360_3 := Am_ hi360_3
                 have HC360_3 := Am_ hl360_3
                 clear hi360_3 hl360_3
                 replace p360 := eq_true p360
                 replace q360 := eq_true q360
                 have p361 : 0 ≤ (x6_3 : Int) := of_decide_eq_true (by first | (with_reducible assumption) | assumption)
                 have q361 : x6_3 < (((rd_T97 l0_3 x3_1).f8).length : Int) := of_decide_eq_true (by first | (with_reducible assumption) | assumption)
                 obtain ⟨ad361, A361_3, c361_3, e361, hx361_0, hx361_1, hx361_2, hx361_3, hl361_3, hi361_3⟩ := at_T102 HR358_21.1 x6_3 p361 q361
                 obtain rfl : ad359 = ad361 := (by injection e361)
                 replace hx361_0 := (HB.1.cell (World.block_lt_of_cell? w _ hx361_0)).trans hx361_0
                 replace hx361_1 := (HB.1.cell (World.block_lt_of_cell? w _ hx361_1)).trans hx361_1
                 replace hx361_2 := (HB.1.cell (World.block_lt_of_cell? w _ hx361_2)).trans hx361_2
                 replace hx361_3 := (HB.1.cell (World.block_lt_of_cell? w _ hx361_3)).trans hx361_3
                 have HR361_3 := Am_ hi361_3
                 have HC361_3 := Am_ hl361_3
                 clear hi361_3 hl361_3
                 replace p361 := eq_true p361
                 replace q361 := eq_true q361
                 have ea_ := Option.some.inj (hx359_3.symm.trans hx361_3)
                 injection ea_ with ea_ en_ ec_
                 subst ea_
                 subst ec_
                 clear en_
                 have p362 : 0 ≤ (x5_2 : Int) := of_decide_eq_true (by first | (with_reducible assumption) | assumption)
                 have q362 : x5_2 < (((rd_T97 l0_3 x3_1).f8).length : Int) := of_decide_eq_true (by first | (with_reducible assumption) | assumption)
                 obtain ⟨ad362, A362_3, c362_3, e362, hx362_0, hx362_1, hx362_2, hx362_3, hl362_3, hi362_3⟩ := at_T102 HR358_21.1 x5_2 p362 q362
                 obtain rfl : ad359 = ad362 := (by injection e362)
                 replace hx362_0 := (HB.1.cell (World.block_lt_of_cell? w _ hx362_0)).trans hx362_0
                 replace hx362_1 := (HB.1.cell (World.block_lt_of_cell? w _ hx362_1)).trans hx362_1
                 replace hx362_2 := (HB.1.cell (World.block_lt_of_cell? w _ hx362_2)).trans hx362_2
                 replace hx362_3 := (HB.1.cell (World.block_lt_of_cell? w _ hx362_3)).trans hx362_3
                 have HR362_3 := Am_ hi362_3
                 have HC362_3 := Am_ hl362_3
                 clear hi362_3 hl362_3
                 replace p362 := eq_true p362
                 replace q362 := eq_true q362
                 have ea_ := Option.some.inj (hx360_3.symm.trans hx362_3)
                 injection ea_ with ea_ en_ ec_
                 subst ea_
                 subst ec_
                 clear en_
                 go_wp2
                 repeat (go_quiet (fail); try go_wp2)
                 go_roundg k3
                 case measure => have := HK1.1; have := HK2.1; have := HK3.1; omega
                 case rel => exact ⟨(wrap64 (x6_3 + 1)), (by first | rfl | (simp; done) | (simp [*]; done)), H', ⟨by have := HK1.1; have := HK2.1; have := HK3.1; omega⟩, ⟨by (with_reducible repeat (first | refine kN_ ?_ _ | refine kD_ ?_ | refine kA_ ?_ _)); exact BK357.1⟩, ⟨by repeat (first | (with_reducible first | exact HB.1 | apply bA_ | apply bN_ | apply bD_ | refine bS_ ?_ GE357.1) | exact HB.1)⟩⟩
               ·rw [if_neg c12] at H
                have c12b0 : (((rd_T102 ((rd_T97 l0_3 x3_1).f8) x6_3).f0) == ((rd_T102 ((rd_T97 l0_3 x3_1).f8) x5_2).f0)) = false := beq_eq_false_iff_ne.mpr c12
                have c12b1 : (((rd_T102 ((rd_T97 l0_3 x3_1).f8) x6_3).f0) != ((rd_T102 ((rd_T97 l0_3 x3_1).f8) x5_2).f0)) = true := bne_iff_ne.mpr c12
                have H' := Am_ H
                clear H
                have p359 : 0 ≤ (x6_3 : Int) := of_decide_eq_true (by first | (with_reducible assumption) | assumption)
                have q359 : x6_3 < (((rd_T97 l0_3 x3_1).f8).length : Int) := of_decide_eq_true (by first | (with_reducible assumption) | assumption)
                obtain ⟨ad359, A359_3, c359_3, e359, hx359_0, hx359_1, hx359_2, hx359_3, hl359_3, hi359_3⟩ := at_T102 HR358_21.1 x6_3 p359 q359
                cases e359
                replace hx359_0 := (HB.1.cell (World.block_lt_of_cell? w _ hx359_0)).trans hx359_0
                replace hx359_1 := (HB.1.cell (World.block_lt_of_cell? w _ hx359_1)).trans hx359_1
                replace hx359_2 := (HB.1.cell (World.block_lt_of_cell? w _ hx359_2)).trans hx359_2
                replace hx359_3 := (HB.1.cell (World.block_lt_of_cell? w _ hx359_3)).trans hx359_3
                have HR359_3 := Am_ hi359_3
                have HC359_3 := Am_ hl359_3
                clear hi359_3 hl359_3
                replace p359 := eq_true p359
                replace q359 := eq_true q359
                have p360 : 0 ≤ (x5_2 : Int) := of_decide_eq_true (by first | (with_reducible assumption) | assumption)
                have q360 : x5_2 < (((rd_T97 l0_3 x3_1).f8).length : Int) := of_decide_eq_true (by first | (with_reducible assumption) | assumption)
                obtain ⟨ad360, A360_3, c360_3, e360, hx360_0, hx360_1, hx360_2, hx360_3, hl360_3, hi360_3⟩ := at_T102 HR358_21.1 x5_2 p360 q360
                obtain rfl : ad359 = ad360 := (by injection e360)
                replace hx360_0 := (HB.1.cell (World.block_lt_of_cell? w _ hx360_0)).trans hx360_0
                replace hx360_1 := (HB.1.cell (World.block_lt_of_cell? w _ hx360_1)).trans hx360_1
                replace hx360_2 := (HB.1.cell (World.block_lt_of_cell? w _ hx360_2)).trans hx360_2
                replace hx360_3 := (HB.1.cell (World.block_lt_of_cell? w _ hx360_3)).trans hx360_3
                have HR360_3 := Am_ hi360_3
                have HC360_3 := Am_ hl360_3
                clear hi360_3 hl360_3
                replace p360 := eq_true p360
                replace q360 := eq_true q360
                go_wp2
                repeat (go_quiet (fail); try go_wp2)
                go_roundg k3
                case measure => have := HK1.1; have := HK2.1; have := HK3.1; omega
                case rel => exact ⟨(wrap64 (x6_3 + 1)), (by first | rfl | (simp; done) | (simp [*]; done)), H', ⟨by have := HK1.1; have := HK2.1; have := HK3.1; omega⟩, ⟨by (with_reducible repeat (first | refine kN_ ?_ _ | refine kD_ ?_ | refine kA_ ?_ _)); exact BK357.1⟩, ⟨by repeat (first | (with_reducible first | exact HB.1 | apply bA_ | apply bN_ | apply bD_ | refine bS_ ?_ GE357.1) | exact HB.1)⟩⟩
              ·rw [if_neg c11] at H
               exact absurd H (by simp)
             ·rw [if_neg c10] at H
              exact absurd H (by simp)
            ·rw [if_neg c9] at H
             exact absurd H (by simp)
           ·rw [if_neg c8] at H
            exact absurd H (by simp)
          ·rw [if_neg c7] at H
           have c7b0 : decide (x6_3 < x5_2) = false := decide_eq_false c7
           clear c7
           have H' := Am_ H
           clear H
           go_wp2
           repeat (go_quiet (fail); try go_wp2)
           go_roundg k3
           case measure => have := HK1.1; have := HK2.1; have := HK3.1; omega
           case rel => exact ⟨(wrap64 (x5_2 + 1)), (by first | rfl | (simp; done) | (simp [*]; done)), H', ⟨by have := HK1.1; have := HK2.1; have := HK3.1; omega⟩, ⟨by (with_reducible repeat (first | refine kN_ ?_ _ | refine kD_ ?_ | refine kA_ ?_ _)); exact BK357.1⟩, ⟨by repeat (first | (with_reducible first | exact HB.1 | apply bA_ | apply bN_ | apply bD_ | refine bS_ ?_ GE357.1) | exact HB.1)⟩⟩
       ·rw [if_neg c6] at H
        have c6b0 : decide (x5_2 < (((rd_T97 l0_3 x3_1).f8).length : Int)) = false := decide_eq_false c6
        clear c6
        have H' := Am_ H
        clear H
        go_wp2
        repeat (go_quiet (fail); try go_wp2)
        go_roundg k2
        case measure => have := HK1.1; have := HK2.1; omega
        case rel => exact ⟨(wrap64 (x3_1 + 1)), (by first | rfl | (simp; done) | (simp [*]; done)), H', ⟨by have := HK1.1; have := HK2.1; omega⟩, ⟨by (with_reducible repeat (first | refine kN_ ?_ _ | refine kD_ ?_ | refine kA_ ?_ _)); exact BK357.1⟩, ⟨by repeat (first | (with_reducible first | exact HB.1 | apply bA_ | apply bN_ | apply bD_ | refine bS_ ?_ GE357.1) | exact HB.1)⟩⟩
    ·rw [if_neg c4] at H
     exact absurd H (by simp)
   ·rw [if_neg c3] at H
    have c3b0 : decide (x3_1 < (l0_3.length : Int)) = false := decide_eq_false c3
    clear c3
    obtain rfl := Option.some.inj H
    have hcz14_0 : wr.cell? ⟨gb357, 0, none⟩ = some (.slice A0_0 l0_0.length c0_0) := kC_ BK357.1 0
    have hcz14_1 : wr.cell? ⟨gb357, 1, none⟩ = some (.int .i64 a0_1) := kC_ BK357.1 1
    have hcz14_2 : wr.cell? ⟨gb357, 2, none⟩ = some (.int .i64 a0_2) := kC_ BK357.1 2
    have hcz14_3 : wr.cell? ⟨gb357, 3, none⟩ = some (.slice A0_3 l0_3.length c0_3) := kC_ BK357.1 3
    have hcz14_4 : wr.cell? ⟨gb357, 4, none⟩ = some (.int .i64 a0_4) := kC_ BK357.1 4
    have hcz14_5 : wr.cell? ⟨gb357, 5, none⟩ = some (.int .i64 a0_5) := kC_ BK357.1 5
    have hcz14_6 : wr.cell? ⟨gb357, 6, none⟩ = some (.int .i64 a0_6) := kC_ BK357.1 6
    have hfz14_0 := kF_ BK357.1 0
    have hfz14_1 := kF_ BK357.1 1
    have hfz14_2 := kF_ BK357.1 2
    have hfz14_3 := kF_ BK357.1 3
    have hfz14_4 := kF_ BK357.1 4
    have hfz14_5 := kF_ BK357.1 5
    have hfz14_6 := kF_ BK357.1 6
    go_wp2
    repeat (go_quiet (fail); try go_wp2)
    go_ret
    exact ⟨by first | rfl | (simp [errW_none, errW_some] <;> rfl) | (simp [*, errW_none, errW_some] <;> rfl), by repeat (first | (with_reducible first | exact HB.1 | apply bA_ | apply bN_ | apply bD_ | refine bS_ ?_ GE357.1) | exact HB.1)⟩

end Go.Proofs.Ytlkofdedkfmaeaa.XFnExactDeliveredOnce
