/- The functions that the law reaches as plain Lean functions, and of each a proof that its call computes it. Conditions: those that each theorem names. -/
import Derived.Test.YtlkofdedkfmaeaaWS
import Derived.Test.YtlkofdedkfmaeaaWB
import Derived.Test.YtlkofdedkfmaeaaXFnExactSlotBoundx0
namespace Go.Proofs.Ytlkofdedkfmaeaa.XFnExactSlotBound
open Go.RowKit Go.Proofs.YtlkofdedkfmaeaaW.PrintWords Go.Proofs.YtlkofdedkfmaeaaW.PrintLast Go.Proofs.YtlkofdedkfmaeaaW.PrintMore Go.Proofs.Ytlkofdedkfmaeaa.X
attribute [local go_sem] max2_int min2_int max_two min_two max_three min_three max_four min_four   -- for this text's walks alone
set_option linter.unusedVariables false
set_option linter.unusedSimpArgs false

/-! ### spec_UnfinishedFrames: function 16 -/
def spec_UnfinishedFrames.l0 : Nat → Int → Int → List Int → Int → Int → List (S97) → Int → Int → Int → Option (Int)
 | 0, _, _, _, _, _, _, _, _, _ => none
 | k + 1, x3, x4, x358000, x358001, x358002, x358003, x358004, x358005, x358006 => if x4 < (x358003.length : Int) then (if 0 ≤ x4 then (if (rd_T97 x358003 x4).f1 = true then (spec_UnfinishedFrames.l0 k (wrap64 ((wrap64 (x3 + (((rd_T97 x358003 x4).f0.f0).length : Int))) + 1)) (wrap64 (x4 + 1)) x358000 x358001 x358002 x358003 x358004 x358005 x358006) else (spec_UnfinishedFrames.l0 k (wrap64 (x3 + (((rd_T97 x358003 x4).f0.f0).length : Int))) (wrap64 (x4 + 1)) x358000 x358001 x358002 x358003 x358004 x358005 x358006)) else (none)) else (some x3)
def spec_UnfinishedFrames.f (k : Nat) (l0_0 : List Int) (a0_1 : Int) (a0_2 : Int) (l0_3 : List (S97)) (a0_4 : Int) (a0_5 : Int) (a0_6 : Int) : Option (Int) := spec_UnfinishedFrames.l0 k 0 0 l0_0 a0_1 a0_2 l0_3 a0_4 a0_5 a0_6
theorem spec_UnfinishedFrames.mono_l : ∀ k, (∀ y0 y1 y2 y3 y4 y5 y6 y7 y8, LeO (spec_UnfinishedFrames.l0 k y0 y1 y2 y3 y4 y5 y6 y7 y8) (spec_UnfinishedFrames.l0 (k + 1) y0 y1 y2 y3 y4 y5 y6 y7 y8))
 | 0 => fun _ _ _ _ _ _ _ _ _ r h => by simp [spec_UnfinishedFrames.l0] at h
 | k + 1 => by
  have ih0 := spec_UnfinishedFrames.mono_l k
  ·intro y0 y1 y2 y3 y4 y5 y6 y7 y8
   unfold spec_UnfinishedFrames.l0
   repeat' first
   | (with_reducible exact ih0 _ _ _ _ _ _ _ _ _)
   | (with_reducible exact LeO.refl _)
   | (with_reducible exact LeO.none _)
   | (with_reducible refine LeO.ite ?_ ?_)
   | (with_reducible refine LeO.bind ?_ (fun _ => ?_))
   | exact ih0 _ _ _ _ _ _ _ _ _
   | exact LeO.none _
   | refine LeO.ite ?_ ?_
   | refine LeO.bind ?_ (fun _ => ?_)
theorem spec_UnfinishedFrames.mono : ∀ a0 a1 a2 a3 a4 a5 a6 k, LeO (spec_UnfinishedFrames.f k a0 a1 a2 a3 a4 a5 a6) (spec_UnfinishedFrames.f (k + 1) a0 a1 a2 a3 a4 a5 a6) := by
 intro a0 a1 a2 a3 a4 a5 a6 k
 have ih0 := spec_UnfinishedFrames.mono_l k
 unfold spec_UnfinishedFrames.f
 repeat' first
   | (with_reducible exact ih0 _ _ _ _ _ _ _ _ _)
   | (with_reducible exact LeO.refl _)
   | (with_reducible exact LeO.none _)
   | (with_reducible refine LeO.ite ?_ ?_)
   | (with_reducible refine LeO.bind ?_ (fun _ => ?_))
   | exact ih0 _ _ _ _ _ _ _ _ _
   | exact LeO.none _
   | refine LeO.ite ?_ ?_
   | refine LeO.bind ?_ (fun _ => ?_)
set_option maxHeartbeats 8000000 in
set_option maxRecDepth 100000 in
theorem spec_UnfinishedFrames.calls (k : Nat) (A0_0 : Option Addr) (c0_0 : Nat) (l0_0 : List Int) (a0_1 : Int) (a0_2 : Int) (A0_3 : Option Addr) (c0_3 : Nat) (l0_3 : List (S97)) (a0_4 : Int) (a0_5 : Int) (a0_6 : Int) (r : Int) (w : World) (hr0_0 : Kd.C (Kd.int .i64) w A0_0 l0_0.length l0_0) (hc0_0 : l0_0.length ≤ c0_0) (hr0_3 : Kd.C k97 w A0_3 l0_3.length l0_3) (hc0_3 : l0_3.length ≤ c0_3) (h : spec_UnfinishedFrames.f k l0_0 a0_1 a0_2 l0_3 a0_4 a0_5 a0_6 = some r) :
  Calls Try.prog 16 #[.agg #[.slice A0_0 l0_0.length c0_0, .int .i64 a0_1, .int .i64 a0_2, .slice A0_3 l0_3.length c0_3, .int .i64 a0_4, .int .i64 a0_5, .int .i64 a0_6]] w fun e w' => e = .returned (.int .i64 r) ∧ Below w.heap.size w w' := by
 have hu33 := Try.underlying33
 have HR0_0 := Am_ hr0_0
 have HC0_0 := Am_ hc0_0
 clear hr0_0 hc0_0
 have HR0_3 := Am_ hr0_3
 have HC0_3 := Am_ hc0_3
 clear hr0_3 hc0_3
 have HB := Am_ (Below.refl w.heap.size w)
 have H : (spec_UnfinishedFrames.l0 k 0 0 l0_0 a0_1 a0_2 l0_3 a0_4 a0_5 a0_6) = some r := h
 clear h
 have H' := Am_ H
 clear H
 go_enter Try.func16, Try.ntmps16
 go_wp2_with (first | ((with_reducible refine gate_dst (N := 1) rfl ?_); refine box_event ?hg (N := 1) ?hd (cs := #[.slice A0_0 l0_0.length c0_0, .int .i64 a0_1, .int .i64 a0_2, .slice A0_3 l0_3.length c0_3, .int .i64 a0_4, .int .i64 a0_5, .int .i64 a0_6]) (t := 33) ?hr ?_; (case hd => rfl); (case hg => rfl); (case hr => first | (go_simp; done) | (go_simp; rfl)); intro gb357 hg w2 hbox hb; have n0_ := Am_ (bT_ (by repeat (first | (with_reducible first | exact HB.1 | apply bA_ | apply bN_ | apply bD_) | exact HB.1)) hb); have n1_ := Am_ (hbox); have n2_ := Am_ ((by rw [hg]; exact (bZ_ (by repeat (first | (with_reducible first | exact HB.1 | apply bA_ | apply bN_ | apply bD_) | exact HB.1))) : w.heap.size ≤ gb357)); have n3_ := Am_ ((by rw [hg]; exact (bZ_ (by repeat (first | (with_reducible first | exact HB.1 | apply bA_ | apply bN_ | apply bD_) | exact HB.1))) : w.heap.size ≤ gb357)); clear HB; have HB := n0_; have BK357 := n1_; have GW357 := n2_; have GE357 := n3_; clear n0_ n1_ n2_ n3_ hb hbox hg))
 go_loopg [3, 4] k (fun kq v3 v4 w' => ∃ (x3_1 : Int) (x4_1 : Int), v3 = .int .i64 x3_1 ∧ v4 = .int .i64 x4_1 ∧ Aside0 (spec_UnfinishedFrames.l0 kq x3_1 x4_1 l0_0 a0_1 a0_2 l0_3 a0_4 a0_5 a0_6 = some r) ∧ Aside0 (kq ≤ k) ∧ Aside0 (w'.heap[gb357]? = some (.cells #[(.slice A0_0 l0_0.length c0_0), .int .i64 a0_1, .int .i64 a0_2, (.slice A0_3 l0_3.length c0_3), .int .i64 a0_4, .int .i64 a0_5, .int .i64 a0_6] 33 (0, 0))) ∧ Aside0 (Below w.heap.size w w'))
 case atStart => exact ⟨(0), (0), (by first | rfl | (simp; done) | (simp [*]; done)), (by first | rfl | (simp; done) | (simp [*]; done)), H', ⟨Nat.le_refl _⟩, ⟨by (with_reducible repeat (first | refine kN_ ?_ _ | refine kD_ ?_ | refine kA_ ?_ _)); exact BK357.1⟩, ⟨by repeat (first | (with_reducible first | exact HB.1 | apply bA_ | apply bN_ | apply bD_ | refine bS_ ?_ GE357.1) | exact HB.1)⟩⟩
 case round =>
  clear H'
  try clear c1
  try clear p2
  obtain ⟨x3_1, x4_1, rfl, rfl, HA, HK1, BK357, HB⟩ := hrel
  cases gk with
  | zero => exact absurd HA.1 (by simp [spec_UnfinishedFrames.l0])
  | succ k1 =>
   have H := HA.1
   clear HA
   simp only [spec_UnfinishedFrames.l0] at H
   by_cases c3 : x4_1 < (l0_3.length : Int)
   ·rw [if_pos c3] at H
    have c3b0 : decide (x4_1 < (l0_3.length : Int)) = true := decide_eq_true c3
    clear c3
    by_cases c4 : 0 ≤ x4_1
    ·rw [if_pos c4] at H
     have c4b0 : decide (0 ≤ x4_1) = true := decide_eq_true c4
     clear c4
     obtain ⟨bq5, hbq5⟩ : ∃ b_ : Bool, b_ = ((rd_T97 l0_3 x4_1).f1) := ⟨_, rfl⟩
     replace H : (if bq5 = true then (spec_UnfinishedFrames.l0 k1 (wrap64 ((wrap64 (x3_1 + (((rd_T97 l0_3 x4_1).f0.f0).length : Int))) + 1)) (wrap64 (x4_1 + 1)) l0_0 a0_1 a0_2 l0_3 a0_4 a0_5 a0_6) else (spec_UnfinishedFrames.l0 k1 (wrap64 (x3_1 + (((rd_T97 l0_3 x4_1).f0.f0).length : Int))) (wrap64 (x4_1 + 1)) l0_0 a0_1 a0_2 l0_3 a0_4 a0_5 a0_6)) = some r := by rw [← hbq5] at H; exact H
     have Nbq5 := Am_ hbq5
     clear hbq5
     by_cases c6 : bq5 = true
     ·subst c6
      have H1 : (spec_UnfinishedFrames.l0 k1 (wrap64 ((wrap64 (x3_1 + (((rd_T97 l0_3 x4_1).f0.f0).length : Int))) + 1)) (wrap64 (x4_1 + 1)) l0_0 a0_1 a0_2 l0_3 a0_4 a0_5 a0_6) = some r := by rw [if_pos rfl] at H; exact H
      clear H
      have H := H1
      clear H1
      have H' := Am_ H
      clear H
      have hcz7_0 : wr.cell? ⟨gb357, 0, none⟩ = some (.slice A0_0 l0_0.length c0_0) := kC_ BK357.1 0
      have hcz7_1 : wr.cell? ⟨gb357, 1, none⟩ = some (.int .i64 a0_1) := kC_ BK357.1 1
      have hcz7_2 : wr.cell? ⟨gb357, 2, none⟩ = some (.int .i64 a0_2) := kC_ BK357.1 2
      have hcz7_3 : wr.cell? ⟨gb357, 3, none⟩ = some (.slice A0_3 l0_3.length c0_3) := kC_ BK357.1 3
      have hcz7_4 : wr.cell? ⟨gb357, 4, none⟩ = some (.int .i64 a0_4) := kC_ BK357.1 4
      have hcz7_5 : wr.cell? ⟨gb357, 5, none⟩ = some (.int .i64 a0_5) := kC_ BK357.1 5
      have hcz7_6 : wr.cell? ⟨gb357, 6, none⟩ = some (.int .i64 a0_6) := kC_ BK357.1 6
      have hfz7_0 := kF_ BK357.1 0
      have hfz7_1 := kF_ BK357.1 1
      have hfz7_2 := kF_ BK357.1 2
      have hfz7_3 := kF_ BK357.1 3
      have hfz7_4 := kF_ BK357.1 4
      have hfz7_5 := kF_ BK357.1 5
      have hfz7_6 := kF_ BK357.1 6
      have p358 : 0 ≤ (x4_1 : Int) := of_decide_eq_true (by first | (with_reducible assumption) | assumption)
      have q358 : x4_1 < (l0_3.length : Int) := of_decide_eq_true (by first | (with_reducible assumption) | assumption)
      obtain ⟨ad358, A358_0, c358_0, A358_6, c358_6, A358_17, c358_17, A358_20, c358_20, A358_21, c358_21, e358, hx358_0, hx358_1, hx358_2, hx358_3, hx358_4, hx358_5, hx358_6, hx358_7, hx358_8, hx358_9, hx358_10, hx358_11, hx358_12, hx358_13, hx358_14, hx358_15, hx358_16, hx358_17, hx358_18, hx358_19, hx358_20, hx358_21, hl358_0, hi358_0, hl358_6, hi358_6, hl358_17, hi358_17, hl358_20, hi358_20, hl358_21, hi358_21⟩ := at_T97 HR0_3.1 x4_1 p358 q358
      (try rw [← Nbq5.1] at hx358_2)
      (try rw [← Nbq5.1] at hx358_7)
      cases e358
      replace hx358_0 := (HB.1.cell (World.block_lt_of_cell? w _ hx358_0)).trans hx358_0
      replace hx358_1 := (HB.1.cell (World.block_lt_of_cell? w _ hx358_1)).trans hx358_1
      replace hx358_2 := (HB.1.cell (World.block_lt_of_cell? w _ hx358_2)).trans hx358_2
      replace hx358_3 := (HB.1.cell (World.block_lt_of_cell? w _ hx358_3)).trans hx358_3
      replace hx358_4 := (HB.1.cell (World.block_lt_of_cell? w _ hx358_4)).trans hx358_4
      replace hx358_5 := (HB.1.cell (World.block_lt_of_cell? w _ hx358_5)).trans hx358_5
      replace hx358_6 := (HB.1.cell (World.block_lt_of_cell? w _ hx358_6)).trans hx358_6
      replace hx358_7 := (HB.1.cell (World.block_lt_of_cell? w _ hx358_7)).trans hx358_7
      replace hx358_8 := (HB.1.cell (World.block_lt_of_cell? w _ hx358_8)).trans hx358_8
      replace hx358_9 := (HB.1.cell (World.block_lt_of_cell? w _ hx358_9)).trans hx358_9
      replace hx358_10 := (HB.1.cell (World.block_lt_of_cell? w _ hx358_10)).trans hx358_10
      replace hx358_11 := (HB.1.cell (World.block_lt_of_cell? w _ hx358_11)).trans hx358_11
      replace hx358_12 := (HB.1.cell (World.block_lt_of_cell? w _ hx358_12)).trans hx358_12
      replace hx358_13 := (HB.1.cell (World.block_lt_of_cell? w _ hx358_13)).trans hx358_13
      replace hx358_14 := (HB.1.cell (World.block_lt_of_cell? w _ hx358_14)).trans hx358_14
      replace hx358_15 := (HB.1.cell (World.block_lt_of_cell? w _ hx358_15)).trans hx358_15
      replace hx358_16 := (HB.1.cell (World.block_lt_of_cell? w _ hx358_16)).trans hx358_16
      replace hx358_17 := (HB.1.cell (World.block_lt_of_cell? w _ hx358_17)).trans hx358_17
      replace hx358_18 := (HB.1.cell (World.block_lt_of_cell? w _ hx358_18)).trans hx358_18
      replace hx358_19 := (HB.1.cell (World.block_lt_of_cell? w _ hx358_19)).trans hx358_19
      replace hx358_20 := (HB.1.cell (World.block_lt_of_cell? w _ hx358_20)).trans hx358_20
      replace hx358_21 := (HB.1.cell (World.block_lt_of_cell? w _ hx358_21)).trans hx358_21
      have HR358_0 := Am_ hi358_0
      have HC358_0 := Am_ hl358_0
      clear hi358_0 hl358_0
      have HR358_6 := Am_ hi358_6
      have HC358_6 := Am_ hl358_6
      clear hi358_6 hl358_6
      have HR358_17 := Am_ hi358_17
      have HC358_17 := Am_ hl358_17
      clear hi358_17 hl358_17
      have HR358_20 := Am_ hi358_20
      have HC358_20 := Am_ hl358_20
      clear hi358_20 hl358_20
      have HR358_21 := Am_ hi358_21
      have HC358_21 := Am_ hl358_21
      clear hi358_21 hl358_21
      replace p358 := eq_true p358
      replace q358 := eq_true q358
      have p359 : 0 ≤ (x4_1 : Int) := of_decide_eq_true (by first | (with_reducible assumption) | assumption)
      have q359 : x4_1 < (l0_3.length : Int) := of_decide_eq_true (by first | (with_reducible assumption) | assumption)
      obtain ⟨ad359, A359_0, c359_0, A359_6, c359_6, A359_17, c359_17, A359_20, c359_20, A359_21, c359_21, e359, hx359_0, hx359_1, hx359_2, hx359_3, hx359_4, hx359_5, hx359_6, hx359_7, hx359_8, hx359_9, hx359_10, hx359_11, hx359_12, hx359_13, hx359_14, hx359_15, hx359_16, hx359_17, hx359_18, hx359_19, hx359_20, hx359_21, hl359_0, hi359_0, hl359_6, hi359_6, hl359_17, hi359_17, hl359_20, hi359_20, hl359_21, hi359_21⟩ := at_T97 HR0_3.1 x4_1 p359 q359
      (try rw [← Nbq5.1] at hx359_2)
      (try rw [← Nbq5.1] at hx359_7)
      obtain rfl : ad358 = ad359 := (by injection e359)
      replace hx359_0 := (HB.1.cell (World.block_lt_of_cell? w _ hx359_0)).trans hx359_0
      replace hx359_1 := (HB.1.cell (World.block_lt_of_cell? w _ hx359_1)).trans hx359_1
      replace hx359_2 := (HB.1.cell (World.block_lt_of_cell? w _ hx359_2)).trans hx359_2
      replace hx359_3 := (HB.1.cell (World.block_lt_of_cell? w _ hx359_3)).trans hx359_3
      replace hx359_4 := (HB.1.cell (World.block_lt_of_cell? w _ hx359_4)).trans hx359_4
      replace hx359_5 := (HB.1.cell (World.block_lt_of_cell? w _ hx359_5)).trans hx359_5
      replace hx359_6 := (HB.1.cell (World.block_lt_of_cell? w _ hx359_6)).trans hx359_6
      replace hx359_7 := (HB.1.cell (World.block_lt_of_cell? w _ hx359_7)).trans hx359_7
      replace hx359_8 := (HB.1.cell (World.block_lt_of_cell? w _ hx359_8)).trans hx359_8
      replace hx359_9 := (HB.1.cell (World.block_lt_of_cell? w _ hx359_9)).trans hx359_9
      replace hx359_10 := (HB.1.cell (World.block_lt_of_cell? w _ hx359_10)).trans hx359_10
      replace hx359_11 := (HB.1.cell (World.block_lt_of_cell? w _ hx359_11)).trans hx359_11
      replace hx359_12 := (HB.1.cell (World.block_lt_of_cell? w _ hx359_12)).trans hx359_12
      replace hx359_13 := (HB.1.cell (World.block_lt_of_cell? w _ hx359_13)).trans hx359_13
      replace hx359_14 := (HB.1.cell (World.block_lt_of_cell? w _ hx359_14)).trans hx359_14
      replace hx359_15 := (HB.1.cell (World.block_lt_of_cell? w _ hx359_15)).trans hx359_15
      replace hx359_16 := (HB.1.cell (World.block_lt_of_cell? w _ hx359_16)).trans hx359_16
      replace hx359_17 := (HB.1.cell (World.block_lt_of_cell? w _ hx359_17)).trans hx359_17
      replace hx359_18 := (HB.1.cell (World.block_lt_of_cell? w _ hx359_18)).trans hx359_18
      replace hx359_19 := (HB.1.cell (World.block_lt_of_cell? w _ hx359_19)).trans hx359_19
      replace hx359_20 := (HB.1.cell (World.block_lt_of_cell? w _ hx359_20)).trans hx359_20
      replace hx359_21 := (HB.1.cell (World.block_lt_of_cell? w _ hx359_21)).trans hx359_21
      have HR359_0 := Am_ hi359_0
      have HC359_0 := Am_ hl359_0
      clear hi359_0 hl359_0
      have HR359_6 := Am_ hi359_6
      have HC359_6 := Am_ hl359_6
      clear hi359_6 hl359_6
      have HR359_17 := Am_ hi359_17
      have HC359_17 := Am_ hl359_17
      clear hi359_17 hl359_17
      have HR359_20 := Am_ hi359_20
      have HC359_20 := Am_ hl359_20
      clear hi359_20 hl359_20
      have HR359_21 := Am_ hi359_21
      have HC359_21 := Am_ hl359_21
      clear hi359_21 hl359_21
      replace p359 := eq_true p359
      replace q359 := eq_true q359
      have ea_ := Option.some.inj (hx358_0.symm.trans hx359_0)
      injection ea_ with ea_ en_ ec_
      subst ea_
      subst ec_
      clear en_
      have ea_ := Option.some.inj (hx358_6.symm.trans hx359_6)
      injection ea_ with ea_ en_ ec_
      subst ea_
      subst ec_
      clear en_
      have ea_ := Option.some.inj (hx358_17.symm.trans hx359_17)
      injection ea_ with ea_ en_ ec_
      subst ea_
      subst ec_
      clear en_
      have ea_ := Option.some.inj (hx358_20.symm.trans hx359_20)
      injection ea_ with ea_ en_ ec_
      subst ea_
      subst ec_
      clear en_
      have ea_ := Option.some.inj (hx358_21.symm.trans hx359_21)
      injection ea_ with ea_ en_ ec_
      subst ea_
      subst ec_
      clear en_
      go_wp2
      go_roundg k1
      case measure => have := HK1.1; omega
      case rel => exact ⟨(wrap64 ((wrap64 (x3_1 + (((rd_T97 l0_3 x4_1).f0.f0).length : Int))) + 1)), (wrap64 (x4_1 + 1)), (by first | rfl | (simp; done) | (simp [*]; done)), (by first | rfl | (simp; done) | (simp [*]; done)), H', ⟨by have := HK1.1; omega⟩, ⟨by (with_reducible repeat (first | refine kN_ ?_ _ | refine kD_ ?_ | refine kA_ ?_ _)); exact BK357.1⟩, ⟨by repeat (first | (with_reducible first | exact HB.1 | apply bA_ | apply bN_ | apply bD_ | refine bS_ ?_ GE357.1) | exact HB.1)⟩⟩
     ·replace c6 := Bool.eq_false_iff.mpr c6
      subst c6
      have H1 : (spec_UnfinishedFrames.l0 k1 (wrap64 (x3_1 + (((rd_T97 l0_3 x4_1).f0.f0).length : Int))) (wrap64 (x4_1 + 1)) l0_0 a0_1 a0_2 l0_3 a0_4 a0_5 a0_6) = some r := by rw [if_neg (show ¬ (false = true) by decide)] at H; exact H
      clear H
      have H := H1
      clear H1
      have H' := Am_ H
      clear H
      have hcz8_0 : wr.cell? ⟨gb357, 0, none⟩ = some (.slice A0_0 l0_0.length c0_0) := kC_ BK357.1 0
      have hcz8_1 : wr.cell? ⟨gb357, 1, none⟩ = some (.int .i64 a0_1) := kC_ BK357.1 1
      have hcz8_2 : wr.cell? ⟨gb357, 2, none⟩ = some (.int .i64 a0_2) := kC_ BK357.1 2
      have hcz8_3 : wr.cell? ⟨gb357, 3, none⟩ = some (.slice A0_3 l0_3.length c0_3) := kC_ BK357.1 3
      have hcz8_4 : wr.cell? ⟨gb357, 4, none⟩ = some (.int .i64 a0_4) := kC_ BK357.1 4
      have hcz8_5 : wr.cell? ⟨gb357, 5, none⟩ = some (.int .i64 a0_5) := kC_ BK357.1 5
      have hcz8_6 : wr.cell? ⟨gb357, 6, none⟩ = some (.int .i64 a0_6) := kC_ BK357.1 6
      have hfz8_0 := kF_ BK357.1 0
      have hfz8_1 := kF_ BK357.1 1
      have hfz8_2 := kF_ BK357.1 2
      have hfz8_3 := kF_ BK357.1 3
      have hfz8_4 := kF_ BK357.1 4
      have hfz8_5 := kF_ BK357.1 5
      have hfz8_6 := kF_ BK357.1 6
      have p358 : 0 ≤ (x4_1 : Int) := of_decide_eq_true (by first | (with_reducible assumption) | assumption)
      have q358 : x4_1 < (l0_3.length : Int) := of_decide_eq_true (by first | (with_reducible assumption) | assumption)
      obtain ⟨ad358, A358_0, c358_0, A358_6, c358_6, A358_17, c358_17, A358_20, c358_20, A358_21, c358_21, e358, hx358_0, hx358_1, hx358_2, hx358_3, hx358_4, hx358_5, hx358_6, hx358_7, hx358_8, hx358_9, hx358_10, hx358_11, hx358_12, hx358_13, hx358_14, hx358_15, hx358_16, hx358_17, hx358_18, hx358_19, hx358_20, hx358_21, hl358_0, hi358_0, hl358_6, hi358_6, hl358_17, hi358_17, hl358_20, hi358_20, hl358_21, hi358_21⟩ := at_T97 HR0_3.1 x4_1 p358 q358
      (try rw [← Nbq5.1] at hx358_2)
      (try rw [← Nbq5.1] at hx358_7)
      cases e358
      replace hx358_0 := (HB.1.cell (World.block_lt_of_cell? w _ hx358_0)).trans hx358_0
      replace hx358_1 := (HB.1.cell (World.block_lt_of_cell? w _ hx358_1)).trans hx358_1
      replace hx358_2 := (HB.1.cell (World.block_lt_of_cell? w _ hx358_2)).trans hx358_2
      replace hx358_3 := (HB.1.cell (World.block_lt_of_cell? w _ hx358_3)).trans hx358_3
      replace hx358_4 := (HB.1.cell (World.block_lt_of_cell? w _ hx358_4)).trans hx358_4
      replace hx358_5 := (HB.1.cell (World.block_lt_of_cell? w _ hx358_5)).trans hx358_5
      replace hx358_6 := (HB.1.cell (World.block_lt_of_cell? w _ hx358_6)).trans hx358_6
      replace hx358_7 := (HB.1.cell (World.block_lt_of_cell? w _ hx358_7)).trans hx358_7
      replace hx358_8 := (HB.1.cell (World.block_lt_of_cell? w _ hx358_8)).trans hx358_8
      replace hx358_9 := (HB.1.cell (World.block_lt_of_cell? w _ hx358_9)).trans hx358_9
      replace hx358_10 := (HB.1.cell (World.block_lt_of_cell? w _ hx358_10)).trans hx358_10
      replace hx358_11 := (HB.1.cell (World.block_lt_of_cell? w _ hx358_11)).trans hx358_11
      replace hx358_12 := (HB.1.cell (World.block_lt_of_cell? w _ hx358_12)).trans hx358_12
      replace hx358_13 := (HB.1.cell (World.block_lt_of_cell? w _ hx358_13)).trans hx358_13
      replace hx358_14 := (HB.1.cell (World.block_lt_of_cell? w _ hx358_14)).trans hx358_14
      replace hx358_15 := (HB.1.cell (World.block_lt_of_cell? w _ hx358_15)).trans hx358_15
      replace hx358_16 := (HB.1.cell (World.block_lt_of_cell? w _ hx358_16)).trans hx358_16
      replace hx358_17 := (HB.1.cell (World.block_lt_of_cell? w _ hx358_17)).trans hx358_17
      replace hx358_18 := (HB.1.cell (World.block_lt_of_cell? w _ hx358_18)).trans hx358_18
      replace hx358_19 := (HB.1.cell (World.block_lt_of_cell? w _ hx358_19)).trans hx358_19
      replace hx358_20 := (HB.1.cell (World.block_lt_of_cell? w _ hx358_20)).trans hx358_20
      replace hx358_21 := (HB.1.cell (World.block_lt_of_cell? w _ hx358_21)).trans hx358_21
      have HR358_0 := Am_ hi358_0
      have HC358_0 := Am_ hl358_0
      clear hi358_0 hl358_0
      have HR358_6 := Am_ hi358_6
      have HC358_6 := Am_ hl358_6
      clear hi358_6 hl358_6
      have HR358_17 := Am_ hi358_17
      have HC358_17 := Am_ hl358_17
      clear hi358_17 hl358_17
      have HR358_20 := Am_ hi358_20
      have HC358_20 := Am_ hl358_20
      clear hi358_20 hl358_20
      have HR358_21 := Am_ hi358_21
      have HC358_21 := Am_ hl358_21
      clear hi358_21 hl358_21
      replace p358 := eq_true p358
      replace q358 := eq_true q358
      have p359 : 0 ≤ (x4_1 : Int) := of_decide_eq_true (by first | (with_reducible assumption) | assumption)
      have q359 : x4_1 < (l0_3.length : Int) := of_decide_eq_true (by first | (with_reducible assumption) | assumption)
      obtain ⟨ad359, A359_0, c359_0, A359_6, c359_6, A359_17, c359_17, A359_20, c359_20, A359_21, c359_21, e359, hx359_0, hx359_1, hx359_2, hx359_3, hx359_4, hx359_5, hx359_6, hx359_7, hx359_8, hx359_9, hx359_10, hx359_11, hx359_12, hx359_13, hx359_14, hx359_15, hx359_16, hx359_17, hx359_18, hx359_19, hx359_20, hx359_21, hl359_0, hi359_0, hl359_6, hi359_6, hl359_17, hi359_17, hl359_20, hi359_20, hl359_21, hi359_21⟩ := at_T97 HR0_3.1 x4_1 p359 q359
      (try rw [← Nbq5.1] at hx359_2)
      (try rw [← Nbq5.1] at hx359_7)
      obtain rfl : ad358 = ad359 := (by injection e359)
      replace hx359_0 := (HB.1.cell (World.block_lt_of_cell? w _ hx359_0)).trans hx359_0
      replace hx359_1 := (HB.1.cell (World.block_lt_of_cell? w _ hx359_1)).trans hx359_1
      replace hx359_2 := (HB.1.cell (World.block_lt_of_cell? w _ hx359_2)).trans hx359_2
      replace hx359_3 := (HB.1.cell (World.block_lt_of_cell? w _ hx359_3)).trans hx359_3
      replace hx359_4 := (HB.1.cell (World.block_lt_of_cell? w _ hx359_4)).trans hx359_4
      replace hx359_5 := (HB.1.cell (World.block_lt_of_cell? w _ hx359_5)).trans hx359_5
      replace hx359_6 := (HB.1.cell (World.block_lt_of_cell? w _ hx359_6)).trans hx359_6
      replace hx359_7 := (HB.1.cell (World.block_lt_of_cell? w _ hx359_7)).trans hx359_7
      replace hx359_8 := (HB.1.cell (World.block_lt_of_cell? w _ hx359_8)).trans hx359_8
      replace hx359_9 := (HB.1.cell (World.block_lt_of_cell? w _ hx359_9)).trans hx359_9
      replace hx359_10 := (HB.1.cell (World.block_lt_of_cell? w _ hx359_10)).trans hx359_10
      replace hx359_11 := (HB.1.cell (World.block_lt_of_cell? w _ hx359_11)).trans hx359_11
      replace hx359_12 := (HB.1.cell (World.block_lt_of_cell? w _ hx359_12)).trans hx359_12
      replace hx359_13 := (HB.1.cell (World.block_lt_of_cell? w _ hx359_13)).trans hx359_13
      replace hx359_14 := (HB.1.cell (World.block_lt_of_cell? w _ hx359_14)).trans hx359_14
      replace hx359_15 := (HB.1.cell (World.block_lt_of_cell? w _ hx359_15)).trans hx359_15
      replace hx359_16 := (HB.1.cell (World.block_lt_of_cell? w _ hx359_16)).trans hx359_16
      replace hx359_17 := (HB.1.cell (World.block_lt_of_cell? w _ hx359_17)).trans hx359_17
      replace hx359_18 := (HB.1.cell (World.block_lt_of_cell? w _ hx359_18)).trans hx359_18
      replace hx359_19 := (HB.1.cell (World.block_lt_of_cell? w _ hx359_19)).trans hx359_19
      replace hx359_20 := (HB.1.cell (World.block_lt_of_cell? w _ hx359_20)).trans hx359_20
      replace hx359_21 := (HB.1.cell (World.block_lt_of_cell? w _ hx359_21)).trans hx359_21
      have HR359_0 := Am_ hi359_0
      have HC359_0 := Am_ hl359_0
      clear hi359_0 hl359_0
      have HR359_6 := Am_ hi359_6
      have HC359_6 := Am_ hl359_6
      clear hi359_6 hl359_6
      have HR359_17 := Am_ hi359_17
      have HC359_17 := Am_ hl359_17
      clear hi359_17 hl359_17
      have HR359_20 := Am_ hi359_20
      have HC359_20 := Am_ hl359_20
      clear hi359_20 hl359_20
      have HR359_21 := Am_ hi359_21
      have HC359_21 := Am_ hl359_21
      clear hi359_21 hl359_21
      replace p359 := eq_true p359
      replace q359 := eq_true q359
      have ea_ := Option.some.inj (hx358_0.symm.trans hx359_0)
      injection ea_ with ea_ en_ ec_
      subst ea_
      subst ec_
      clear en_
      have ea_ := Option.some.inj (hx358_6.symm.trans hx359_6)
      injection ea_ with ea_ en_ ec_
      subst ea_
      subst ec_
      clear en_
      have ea_ := Option.some.inj (hx358_17.symm.trans hx359_17)
      injection ea_ with ea_ en_ ec_
      subst ea_
      subst ec_
      clear en_
      have ea_ := Option.some.inj (hx358_20.symm.trans hx359_20)
      injection ea_ with ea_ en_ ec_
      subst ea_
      subst ec_
      clear en_
      have ea_ := Option.some.inj (hx358_21.symm.trans hx359_21)
      injection ea_ with ea_ en_ ec_
      subst ea_
      subst ec_
      clear en_
      go_wp2
      go_roundg k1
      case measure => have := HK1.1; omega
      case rel => exact ⟨(wrap64 (x3_1 + (((rd_T97 l0_3 x4_1).f0.f0).length : Int))), (wrap64 (x4_1 + 1)), (by first | rfl | (simp; done) | (simp [*]; done)), (by first | rfl | (simp; done) | (simp [*]; done)), H', ⟨by have := HK1.1; omega⟩, ⟨by (with_reducible repeat (first | refine kN_ ?_ _ | refine kD_ ?_ | refine kA_ ?_ _)); exact BK357.1⟩, ⟨by repeat (first | (with_reducible first | exact HB.1 | apply bA_ | apply bN_ | apply bD_ | refine bS_ ?_ GE357.1) | exact HB.1)⟩⟩
    ·rw [if_neg c4] at H
     exact absurd H (by simp)
   ·rw [if_neg c3] at H
    have c3b0 : decide (x4_1 < (l0_3.length : Int)) = false := decide_eq_false c3
    clear c3
    obtain rfl := Option.some.inj H
    have hcz9_0 : wr.cell? ⟨gb357, 0, none⟩ = some (.slice A0_0 l0_0.length c0_0) := kC_ BK357.1 0
    have hcz9_1 : wr.cell? ⟨gb357, 1, none⟩ = some (.int .i64 a0_1) := kC_ BK357.1 1
    have hcz9_2 : wr.cell? ⟨gb357, 2, none⟩ = some (.int .i64 a0_2) := kC_ BK357.1 2
    have hcz9_3 : wr.cell? ⟨gb357, 3, none⟩ = some (.slice A0_3 l0_3.length c0_3) := kC_ BK357.1 3
    have hcz9_4 : wr.cell? ⟨gb357, 4, none⟩ = some (.int .i64 a0_4) := kC_ BK357.1 4
    have hcz9_5 : wr.cell? ⟨gb357, 5, none⟩ = some (.int .i64 a0_5) := kC_ BK357.1 5
    have hcz9_6 : wr.cell? ⟨gb357, 6, none⟩ = some (.int .i64 a0_6) := kC_ BK357.1 6
    have hfz9_0 := kF_ BK357.1 0
    have hfz9_1 := kF_ BK357.1 1
    have hfz9_2 := kF_ BK357.1 2
    have hfz9_3 := kF_ BK357.1 3
    have hfz9_4 := kF_ BK357.1 4
    have hfz9_5 := kF_ BK357.1 5
    have hfz9_6 := kF_ BK357.1 6
    go_wp2
    go_ret
    exact ⟨by first | rfl | (simp [errW_none, errW_some] <;> rfl) | (simp [*, errW_none, errW_some] <;> rfl), by repeat (first | (with_reducible first | exact HB.1 | apply bA_ | apply bN_ | apply bD_ | refine bS_ ?_ GE357.1) | exact HB.1)⟩

/-! ### spec_SlotBound: function 26 -/
def spec_SlotBound.f (k : Nat) (l0_0 : List Int) (a0_1 : Int) (a0_2 : Int) (l0_3 : List (S97)) (a0_4 : Int) (a0_5 : Int) (a0_6 : Int) : Option (Int) := (spec_UnfinishedFrames.f k l0_0 a0_1 a0_2 l0_3 a0_4 a0_5 a0_6).bind fun t361 => (some (wrap64 ((wrap64 ((wrap64 (t361 * 8)) * 23)) + 1)))
theorem spec_SlotBound.mono : ∀ a0 a1 a2 a3 a4 a5 a6 k, LeO (spec_SlotBound.f k a0 a1 a2 a3 a4 a5 a6) (spec_SlotBound.f (k + 1) a0 a1 a2 a3 a4 a5 a6) := by
 intro a0 a1 a2 a3 a4 a5 a6 k
 unfold spec_SlotBound.f
 repeat' first
   | (with_reducible exact spec_UnfinishedFrames.mono _ _ _ _ _ _ _ _)
   | (with_reducible exact LeO.refl _)
   | (with_reducible exact LeO.none _)
   | (with_reducible refine LeO.ite ?_ ?_)
   | (with_reducible refine LeO.bind ?_ (fun _ => ?_))
   | exact spec_UnfinishedFrames.mono _ _ _ _ _ _ _ _
   | exact LeO.none _
   | refine LeO.ite ?_ ?_
   | refine LeO.bind ?_ (fun _ => ?_)
set_option maxHeartbeats 8000000 in
set_option maxRecDepth 100000 in
theorem spec_SlotBound.calls (k : Nat) (A0_0 : Option Addr) (c0_0 : Nat) (l0_0 : List Int) (a0_1 : Int) (a0_2 : Int) (A0_3 : Option Addr) (c0_3 : Nat) (l0_3 : List (S97)) (a0_4 : Int) (a0_5 : Int) (a0_6 : Int) (r : Int) (w : World) (hr0_0 : Kd.C (Kd.int .i64) w A0_0 l0_0.length l0_0) (hc0_0 : l0_0.length ≤ c0_0) (hr0_3 : Kd.C k97 w A0_3 l0_3.length l0_3) (hc0_3 : l0_3.length ≤ c0_3) (h : spec_SlotBound.f k l0_0 a0_1 a0_2 l0_3 a0_4 a0_5 a0_6 = some r) :
  Calls Try.prog 26 #[.agg #[.slice A0_0 l0_0.length c0_0, .int .i64 a0_1, .int .i64 a0_2, .slice A0_3 l0_3.length c0_3, .int .i64 a0_4, .int .i64 a0_5, .int .i64 a0_6]] w fun e w' => e = .returned (.int .i64 r) ∧ Below w.heap.size w w' := by
 have hu33 := Try.underlying33
 have HR0_0 := Am_ hr0_0
 have HC0_0 := Am_ hc0_0
 clear hr0_0 hc0_0
 have HR0_3 := Am_ hr0_3
 have HC0_3 := Am_ hc0_3
 clear hr0_3 hc0_3
 have HB := Am_ (Below.refl w.heap.size w)
 have H : ((spec_UnfinishedFrames.f k l0_0 a0_1 a0_2 l0_3 a0_4 a0_5 a0_6).bind fun t361 => (some (wrap64 ((wrap64 ((wrap64 (t361 * 8)) * 23)) + 1)))) = some r := h
 clear h
 replace H := Option.bind_eq_some_iff.mp H
 obtain ⟨t361, A20, H⟩ := H
 replace H : (some (wrap64 ((wrap64 ((wrap64 (t361 * 8)) * 23)) + 1))) = some r := H
 have A2 := Am_ A20
 clear A20
 obtain rfl := Option.some.inj H
 go_enter Try.func26, Try.ntmps26
 go_wp2_with (first | ((with_reducible refine gate_dst (N := 1) rfl ?_); refine box_event ?hg (N := 1) ?hd (cs := #[.slice A0_0 l0_0.length c0_0, .int .i64 a0_1, .int .i64 a0_2, .slice A0_3 l0_3.length c0_3, .int .i64 a0_4, .int .i64 a0_5, .int .i64 a0_6]) (t := 33) ?hr ?_; (case hd => rfl); (case hg => rfl); (case hr => first | (go_simp; done) | (go_simp; rfl)); intro gb360 hg w3 hbox hb; have n0_ := Am_ (bT_ (by repeat (first | (with_reducible first | exact HB.1 | apply bA_ | apply bN_ | apply bD_) | exact HB.1)) hb); have n1_ := Am_ (hbox); have n2_ := Am_ ((by rw [hg]; exact (bZ_ (by repeat (first | (with_reducible first | exact HB.1 | apply bA_ | apply bN_ | apply bD_) | exact HB.1))) : w.heap.size ≤ gb360)); have n3_ := Am_ ((by rw [hg]; exact (bZ_ (by repeat (first | (with_reducible first | exact HB.1 | apply bA_ | apply bN_ | apply bD_) | exact HB.1))) : w.heap.size ≤ gb360)); clear HB; have HB := n0_; have BK360 := n1_; have GW360 := n2_; have GE360 := n3_; clear n0_ n1_ n2_ n3_ hb hbox hg; have hcz4_0 : w3.cell? ⟨gb360, 0, none⟩ = some (.slice A0_0 l0_0.length c0_0) := kC_ BK360.1 0; have hcz4_1 : w3.cell? ⟨gb360, 1, none⟩ = some (.int .i64 a0_1) := kC_ BK360.1 1; have hcz4_2 : w3.cell? ⟨gb360, 2, none⟩ = some (.int .i64 a0_2) := kC_ BK360.1 2; have hcz4_3 : w3.cell? ⟨gb360, 3, none⟩ = some (.slice A0_3 l0_3.length c0_3) := kC_ BK360.1 3; have hcz4_4 : w3.cell? ⟨gb360, 4, none⟩ = some (.int .i64 a0_4) := kC_ BK360.1 4; have hcz4_5 : w3.cell? ⟨gb360, 5, none⟩ = some (.int .i64 a0_5) := kC_ BK360.1 5; have hcz4_6 : w3.cell? ⟨gb360, 6, none⟩ = some (.int .i64 a0_6) := kC_ BK360.1 6; have hfz4_0 := kF_ BK360.1 0; have hfz4_1 := kF_ BK360.1 1; have hfz4_2 := kF_ BK360.1 2; have hfz4_3 := kF_ BK360.1 3; have hfz4_4 := kF_ BK360.1 4; have hfz4_5 := kF_ BK360.1 5; have hfz4_6 := kF_ BK360.1 6) | ((with_reducible refine gate_callee (f := 16) rfl ?_); refine goesL_ (some 4) rfl rfl Try.func16 (by kernel_rfl) rfl #[.agg #[.slice A0_0 l0_0.length c0_0, .int .i64 a0_1, .int .i64 a0_2, .slice A0_3 l0_3.length c0_3, .int .i64 a0_4, .int .i64 a0_5, .int .i64 a0_6]] rfl (by (try simp only [List.map_toArray, List.map_cons, List.map_nil]); first | done | rfl | (simp only [List.length_drop, List.length_take]; rfl)) ?_; (with_reducible refine (spec_UnfinishedFrames.calls k _ _ l0_0 a0_1 a0_2 _ _ l0_3 a0_4 a0_5 a0_6 t361 _ ?side1 ?side2 ?side3 ?side4 A2.1).mono ?_); (case side1 => repeat (first | exact (Kd.C_below HR0_0.1 HB.1) | (with_reducible refine Kd.C_alloc ?_ _) | (with_reducible refine Kd.C_drewN ?_ _) | (with_reducible refine Kd.C_drew ?_))); (case side2 => exact HC0_0.1); (case side3 => repeat (first | exact (Kd.C_below HR0_3.1 HB.1) | (with_reducible refine Kd.C_alloc ?_ _) | (with_reducible refine Kd.C_drewN ?_ _) | (with_reducible refine Kd.C_drew ?_))); (case side4 => exact HC0_3.1); rintro e w5 ⟨rfl, hb⟩; refine ⟨_, rfl, ?_⟩; have n0_ := Am_ (kB_ (g := gb360) (by (with_reducible repeat (first | refine kN_ ?_ _ | refine kD_ ?_ | refine kA_ ?_ _)); exact BK360.1) hb); have n1_ := Am_ (bT_ (by repeat (first | (with_reducible first | exact HB.1 | apply bA_ | apply bN_ | apply bD_ | refine bS_ ?_ GE360.1) | exact HB.1)) hb); clear BK360 HB; have BK360 := n0_; have HB := n1_; clear n0_ n1_; (try clear hb); (try clear hb2); (try clear hk); (try clear hi)))
 go_ret
 exact ⟨by first | rfl | (simp [errW_none, errW_some] <;> rfl) | (simp [*, errW_none, errW_some] <;> rfl), by repeat (first | (with_reducible first | exact HB.1 | apply bA_ | apply bN_ | apply bD_ | refine bS_ ?_ GE360.1) | exact HB.1)⟩

/-! ### impl_boolToInt: function 67 -/
def impl_boolToInt.f (a0 : Bool) : Option (Int) := if a0 = true then (some 1) else (some 0)
set_option maxHeartbeats 8000000 in
set_option maxRecDepth 100000 in
theorem impl_boolToInt.calls (a0 : Bool) (r : Int) (w : World) (h : impl_boolToInt.f a0 = some r) :
  Calls Try.prog 67 #[.bool a0] w fun e w' => e = .returned (.int .i64 r) ∧ Drawn0 w w' := by
 have H : (if a0 = true then (some 1) else (some 0)) = some r := h
 clear h
 by_cases c2 : a0 = true
 ·subst c2
  have H1 : (some 1) = some r := by rw [if_pos rfl] at H; exact H
  clear H
  have H := H1
  clear H1
  obtain rfl := Option.some.inj H
  go_enter Try.func67, Try.ntmps67
  go_wp2
  go_ret
  exact ⟨by first | rfl | (simp; done) | (simp [*]; done), by repeat (first | exact Drawn0.refl _ | apply Drawn0.step)⟩
 ·replace c2 := Bool.eq_false_iff.mpr c2
  subst c2
  have H1 : (some 0) = some r := by rw [if_neg (show ¬ (false = true) by decide)] at H; exact H
  clear H
  have H := H1
  clear H1
  obtain rfl := Option.some.inj H
  go_enter Try.func67, Try.ntmps67
  go_wp2
  go_ret
  exact ⟨by first | rfl | (simp; done) | (simp [*]; done), by repeat (first | exact Drawn0.refl _ | apply Drawn0.step)⟩

/-! ### impl_UnfinishedFrames: function 18 -/
def impl_UnfinishedFrames.l0 : Nat → Int → List (S97) → Int → Int → Option (Int)
 | 0, _, _, _, _ => none
 | k + 1, x3, x7, x8, x9 => if x9 < x8 then (if 0 ≤ x9 then (if x9 < (x7.length : Int) then ((impl_boolToInt.f ((rd_T97 x7 x9).f1)).bind fun t365 => (impl_UnfinishedFrames.l0 k (wrap64 (x3 + (wrap64 ((((rd_T97 x7 x9).f0.f0).length : Int) + t365)))) x7 x8 (wrap64 (x9 + 1)))) else (none)) else (none)) else (some x3)
def impl_UnfinishedFrames.f (k : Nat) (l0_0 : List Int) (a0_1 : Int) (a0_2 : Int) (l0_3 : List (S97)) (a0_4 : Int) (a0_5 : Int) (a0_6 : Int) : Option (Int) := impl_UnfinishedFrames.l0 k 0 l0_3 (l0_3.length : Int) 0
theorem impl_UnfinishedFrames.mono_l : ∀ k, (∀ y0 y1 y2 y3, LeO (impl_UnfinishedFrames.l0 k y0 y1 y2 y3) (impl_UnfinishedFrames.l0 (k + 1) y0 y1 y2 y3))
 | 0 => fun _ _ _ _ r h => by simp [impl_UnfinishedFrames.l0] at h
 | k + 1 => by
  have ih0 := impl_UnfinishedFrames.mono_l k
  ·intro y0 y1 y2 y3
   unfold impl_UnfinishedFrames.l0
   repeat' first
   | (with_reducible exact ih0 _ _ _ _)
   | (with_reducible exact LeO.refl _)
   | (with_reducible exact LeO.none _)
   | (with_reducible refine LeO.ite ?_ ?_)
   | (with_reducible refine LeO.bind ?_ (fun _ => ?_))
   | exact ih0 _ _ _ _
   | exact LeO.none _
   | refine LeO.ite ?_ ?_
   | refine LeO.bind ?_ (fun _ => ?_)
theorem impl_UnfinishedFrames.mono : ∀ a0 a1 a2 a3 a4 a5 a6 k, LeO (impl_UnfinishedFrames.f k a0 a1 a2 a3 a4 a5 a6) (impl_UnfinishedFrames.f (k + 1) a0 a1 a2 a3 a4 a5 a6) := by
 intro a0 a1 a2 a3 a4 a5 a6 k
 have ih0 := impl_UnfinishedFrames.mono_l k
 unfold impl_UnfinishedFrames.f
 repeat' first
   | (with_reducible exact ih0 _ _ _ _)
   | (with_reducible exact LeO.refl _)
   | (with_reducible exact LeO.none _)
   | (with_reducible refine LeO.ite ?_ ?_)
   | (with_reducible refine LeO.bind ?_ (fun _ => ?_))
   | exact ih0 _ _ _ _
   | exact LeO.none _
   | refine LeO.ite ?_ ?_
   | refine LeO.bind ?_ (fun _ => ?_)
set_option maxHeartbeats 8000000 in
set_option maxRecDepth 100000 in
theorem impl_UnfinishedFrames.calls (k : Nat) (A0_0 : Option Addr) (c0_0 : Nat) (l0_0 : List Int) (a0_1 : Int) (a0_2 : Int) (A0_3 : Option Addr) (c0_3 : Nat) (l0_3 : List (S97)) (a0_4 : Int) (a0_5 : Int) (a0_6 : Int) (r : Int) (w : World) (hr0_0 : Kd.C (Kd.int .i64) w A0_0 l0_0.length l0_0) (hc0_0 : l0_0.length ≤ c0_0) (hr0_3 : Kd.C k97 w A0_3 l0_3.length l0_3) (hc0_3 : l0_3.length ≤ c0_3) (h : impl_UnfinishedFrames.f k l0_0 a0_1 a0_2 l0_3 a0_4 a0_5 a0_6 = some r) :
  Calls Try.prog 18 #[.agg #[.slice A0_0 l0_0.length c0_0, .int .i64 a0_1, .int .i64 a0_2, .slice A0_3 l0_3.length c0_3, .int .i64 a0_4, .int .i64 a0_5, .int .i64 a0_6]] w fun e w' => e = .returned (.int .i64 r) ∧ Below w.heap.size w w' := by
 have hu33 := Try.underlying33
 have hu97 := Try.underlying97
 have HR0_0 := Am_ hr0_0
 have HC0_0 := Am_ hc0_0
 clear hr0_0 hc0_0
 have HR0_3 := Am_ hr0_3
 have HC0_3 := Am_ hc0_3
 clear hr0_3 hc0_3
 have HB := Am_ (Below.refl w.heap.size w)
 have H : (impl_UnfinishedFrames.l0 k 0 l0_3 (l0_3.length : Int) 0) = some r := h
 clear h
 have H' := Am_ H
 clear H
 go_enter Try.func18, Try.ntmps18
 go_wp2_with (first | ((with_reducible refine gate_dst (N := 12) rfl ?_); refine Go.Proofs.Ytlkofdedkfmaeaa.X.loadL_event ?hg (N := 12) ?hd (t := 97) (p := .tmp 11) ?ho ?hp Try.underlying97 rfl ?hi (fun j u hj => (Below.cell (by repeat (first | (with_reducible first | exact HB.1 | apply bA_ | apply bN_ | apply bD_ | refine bS_ ?_ GE362.1 | refine bS_ ?_ GE364.1) | exact HB.1) : Below w.heap.size w _) (World.block_lt_of_cell? w _ (hx363 j u hj))).trans (hx363 j u hj)) ?_; (case hd => rfl); (case hg => rfl); (case ho => rfl); (case hi => kernel_rfl); (case hp => first | rfl | (go_simp; done) | (go_simp; rfl))) | ((with_reducible refine gate_ (.store 97 (.tmp 5) (.tmp 12)) rfl ?_); refine Go.Proofs.Ytlkofdedkfmaeaa.X.fillL_event ?hg (t := 97) (p := .tmp 5) (v := .tmp 12) ?ho ?hN (g := gb364) (cs := [.slice A363_0 (rd_T97 l0_3 x9_1).f0.f0.length c363_0, .int .i64 (rd_T97 l0_3 x9_1).f0.f1, .bool (rd_T97 l0_3 x9_1).f1, .int .i64 (rd_T97 l0_3 x9_1).f2.f0, .int .i64 (rd_T97 l0_3 x9_1).f2.f1, .int .i64 (rd_T97 l0_3 x9_1).f2.f2, .slice A363_6 (rd_T97 l0_3 x9_1).f2.f3.length c363_6, .bool (rd_T97 l0_3 x9_1).f2.f4, .int .i64 (rd_T97 l0_3 x9_1).f3.f0.f0, .int .i64 (rd_T97 l0_3 x9_1).f3.f0.f1, .int .i64 (rd_T97 l0_3 x9_1).f3.f0.f2, .int .i64 (rd_T97 l0_3 x9_1).f3.f0.f3, .int .i64 (rd_T97 l0_3 x9_1).f3.f1, .int .i64 (rd_T97 l0_3 x9_1).f3.f2, .int .i64 (rd_T97 l0_3 x9_1).f3.f3, .int .i64 (rd_T97 l0_3 x9_1).f3.f4, .int .i64 (rd_T97 l0_3 x9_1).f3.f5, .slice A363_17 (rd_T97 l0_3 x9_1).f4.length c363_17, .int .i64 (rd_T97 l0_3 x9_1).f5, .int .i64 (rd_T97 l0_3 x9_1).f6, .slice A363_20 (rd_T97 l0_3 x9_1).f7.length c363_20, .slice A363_21 (rd_T97 l0_3 x9_1).f8.length c363_21]) ?hp (u := .agg #[.slice A363_0 (rd_T97 l0_3 x9_1).f0.f0.length c363_0, .int .i64 (rd_T97 l0_3 x9_1).f0.f1, .bool (rd_T97 l0_3 x9_1).f1, .int .i64 (rd_T97 l0_3 x9_1).f2.f0, .int .i64 (rd_T97 l0_3 x9_1).f2.f1, .int .i64 (rd_T97 l0_3 x9_1).f2.f2, .slice A363_6 (rd_T97 l0_3 x9_1).f2.f3.length c363_6, .bool (rd_T97 l0_3 x9_1).f2.f4, .int .i64 (rd_T97 l0_3 x9_1).f3.f0.f0, .int .i64 (rd_T97 l0_3 x9_1).f3.f0.f1, .int .i64 (rd_T97 l0_3 x9_1).f3.f0.f2, .int .i64 (rd_T97 l0_3 x9_1).f3.f0.f3, .int .i64 (rd_T97 l0_3 x9_1).f3.f1, .int .i64 (rd_T97 l0_3 x9_1).f3.f2, .int .i64 (rd_T97 l0_3 x9_1).f3.f3, .int .i64 (rd_T97 l0_3 x9_1).f3.f4, .int .i64 (rd_T97 l0_3 x9_1).f3.f5, .slice A363_17 (rd_T97 l0_3 x9_1).f4.length c363_17, .int .i64 (rd_T97 l0_3 x9_1).f5, .int .i64 (rd_T97 l0_3 x9_1).f6, .slice A363_20 (rd_T97 l0_3 x9_1).f7.length c363_20, .slice A363_21 (rd_T97 l0_3 x9_1).f8.length c363_21]) ?hu ?huc BK364.1 ?hsz ?ht ?h1 ?_; (case hg => rfl); (case ho => rfl); (case hN => rfl); (case hp => first | rfl | (go_simp; done) | (go_simp; rfl)); (case hu => first | rfl | (go_simp; done) | (go_simp; rfl)); (case huc => rfl); (case hsz => rfl); (case ht => kernel_rfl); (case h1 => (intro q hq; simp only [List.mem_cons, List.not_mem_nil, or_false] at hq; rcases hq with rfl | rfl | rfl | rfl | rfl | rfl | rfl | rfl | rfl | rfl | rfl | rfl | rfl | rfl | rfl | rfl | rfl | rfl | rfl | rfl | rfl | rfl <;> rfl)); intro wf364 hf1 hf2 hf3; have n0_ := Am_ (Go.Proofs.Ytlkofdedkfmaeaa.X.far_blk BK362.1 NB362_364.1 hf2); have nB_ := Am_ (hf3 _ _ (by repeat (first | (with_reducible first | exact HB.1 | apply bA_ | apply bN_ | apply bD_ | refine bS_ ?_ GE362.1 | refine bS_ ?_ GE364.1) | exact HB.1) : Below w.heap.size w _) GE364.1); clear BK364 HB BK362; have BK362 := n0_; have HB := nB_; have BK364 := Am_ hf1; clear n0_ nB_ hf1 hf2 hf3; have hczf_0 : wf364.cell? ⟨gb364, 0, none⟩ = some (.slice A363_0 (rd_T97 l0_3 x9_1).f0.f0.length c363_0) := kC_ BK364.1 0; have hfzf_0 := kF_ BK364.1 0; have hczf_1 : wf364.cell? ⟨gb364, 1, none⟩ = some (.int .i64 (rd_T97 l0_3 x9_1).f0.f1) := kC_ BK364.1 1; have hfzf_1 := kF_ BK364.1 1; have hczf_2 : wf364.cell? ⟨gb364, 2, none⟩ = some (.bool (rd_T97 l0_3 x9_1).f1) := kC_ BK364.1 2; have hfzf_2 := kF_ BK364.1 2; have hczf_3 : wf364.cell? ⟨gb364, 3, none⟩ = some (.int .i64 (rd_T97 l0_3 x9_1).f2.f0) := kC_ BK364.1 3; have hfzf_3 := kF_ BK364.1 3; have hczf_4 : wf364.cell? ⟨gb364, 4, none⟩ = some (.int .i64 (rd_T97 l0_3 x9_1).f2.f1) := kC_ BK364.1 4; have hfzf_4 := kF_ BK364.1 4; have hczf_5 : wf364.cell? ⟨gb364, 5, none⟩ = some (.int .i64 (rd_T97 l0_3 x9_1).f2.f2) := kC_ BK364.1 5; have hfzf_5 := kF_ BK364.1 5; have hczf_6 : wf364.cell? ⟨gb364, 6, none⟩ = some (.slice A363_6 (rd_T97 l0_3 x9_1).f2.f3.length c363_6) := kC_ BK364.1 6; have hfzf_6 := kF_ BK364.1 6; have hczf_7 : wf364.cell? ⟨gb364, 7, none⟩ = some (.bool (rd_T97 l0_3 x9_1).f2.f4) := kC_ BK364.1 7; have hfzf_7 := kF_ BK364.1 7; have hczf_8 : wf364.cell? ⟨gb364, 8, none⟩ = some (.int .i64 (rd_T97 l0_3 x9_1).f3.f0.f0) := kC_ BK364.1 8; have hfzf_8 := kF_ BK364.1 8; have hczf_9 : wf364.cell? ⟨gb364, 9, none⟩ = some (.int .i64 (rd_T97 l0_3 x9_1).f3.f0.f1) := kC_ BK364.1 9; have hfzf_9 := kF_ BK364.1 9; have hczf_10 : wf364.cell? ⟨gb364, 10, none⟩ = some (.int .i64 (rd_T97 l0_3 x9_1).f3.f0.f2) := kC_ BK364.1 10; have hfzf_10 := kF_ BK364.1 10; have hczf_11 : wf364.cell? ⟨gb364, 11, none⟩ = some (.int .i64 (rd_T97 l0_3 x9_1).f3.f0.f3) := kC_ BK364.1 11; have hfzf_11 := kF_ BK364.1 11; have hczf_12 : wf364.cell? ⟨gb364, 12, none⟩ = some (.int .i64 (rd_T97 l0_3 x9_1).f3.f1) := kC_ BK364.1 12; have hfzf_12 := kF_ BK364.1 12; have hczf_13 : wf364.cell? ⟨gb364, 13, none⟩ = some (.int .i64 (rd_T97 l0_3 x9_1).f3.f2) := kC_ BK364.1 13; have hfzf_13 := kF_ BK364.1 13; have hczf_14 : wf364.cell? ⟨gb364, 14, none⟩ = some (.int .i64 (rd_T97 l0_3 x9_1).f3.f3) := kC_ BK364.1 14; have hfzf_14 := kF_ BK364.1 14; have hczf_15 : wf364.cell? ⟨gb364, 15, none⟩ = some (.int .i64 (rd_T97 l0_3 x9_1).f3.f4) := kC_ BK364.1 15; have hfzf_15 := kF_ BK364.1 15; have hczf_16 : wf364.cell? ⟨gb364, 16, none⟩ = some (.int .i64 (rd_T97 l0_3 x9_1).f3.f5) := kC_ BK364.1 16; have hfzf_16 := kF_ BK364.1 16; have hczf_17 : wf364.cell? ⟨gb364, 17, none⟩ = some (.slice A363_17 (rd_T97 l0_3 x9_1).f4.length c363_17) := kC_ BK364.1 17; have hfzf_17 := kF_ BK364.1 17; have hczf_18 : wf364.cell? ⟨gb364, 18, none⟩ = some (.int .i64 (rd_T97 l0_3 x9_1).f5) := kC_ BK364.1 18; have hfzf_18 := kF_ BK364.1 18; have hczf_19 : wf364.cell? ⟨gb364, 19, none⟩ = some (.int .i64 (rd_T97 l0_3 x9_1).f6) := kC_ BK364.1 19; have hfzf_19 := kF_ BK364.1 19; have hczf_20 : wf364.cell? ⟨gb364, 20, none⟩ = some (.slice A363_20 (rd_T97 l0_3 x9_1).f7.length c363_20) := kC_ BK364.1 20; have hfzf_20 := kF_ BK364.1 20; have hczf_21 : wf364.cell? ⟨gb364, 21, none⟩ = some (.slice A363_21 (rd_T97 l0_3 x9_1).f8.length c363_21) := kC_ BK364.1 21; have hfzf_21 := kF_ BK364.1 21) | ((with_reducible refine gate_dst (N := 1) rfl ?_); refine box_event ?hg (N := 1) ?hd (cs := #[.slice A0_0 l0_0.length c0_0, .int .i64 a0_1, .int .i64 a0_2, .slice A0_3 l0_3.length c0_3, .int .i64 a0_4, .int .i64 a0_5, .int .i64 a0_6]) (t := 33) ?hr ?_; (case hd => rfl); (case hg => rfl); (case hr => first | (go_simp; done) | (go_simp; rfl)); intro gb362 hg w2 hbox hb; have n0_ := Am_ (bT_ (by repeat (first | (with_reducible first | exact HB.1 | apply bA_ | apply bN_ | apply bD_) | exact HB.1)) hb); have n1_ := Am_ (hbox); have n2_ := Am_ ((by rw [hg]; exact (bZ_ (by repeat (first | (with_reducible first | exact HB.1 | apply bA_ | apply bN_ | apply bD_) | exact HB.1))) : w.heap.size ≤ gb362)); have n3_ := Am_ ((by rw [hg]; exact (bZ_ (by repeat (first | (with_reducible first | exact HB.1 | apply bA_ | apply bN_ | apply bD_) | exact HB.1))) : w.heap.size ≤ gb362)); clear HB; have HB := n0_; have BK362 := n1_; have GW362 := n2_; have GE362 := n3_; clear n0_ n1_ n2_ n3_ hb hbox hg; have hcz3_0 : w2.cell? ⟨gb362, 0, none⟩ = some (.slice A0_0 l0_0.length c0_0) := kC_ BK362.1 0; have hcz3_1 : w2.cell? ⟨gb362, 1, none⟩ = some (.int .i64 a0_1) := kC_ BK362.1 1; have hcz3_2 : w2.cell? ⟨gb362, 2, none⟩ = some (.int .i64 a0_2) := kC_ BK362.1 2; have hcz3_3 : w2.cell? ⟨gb362, 3, none⟩ = some (.slice A0_3 l0_3.length c0_3) := kC_ BK362.1 3; have hcz3_4 : w2.cell? ⟨gb362, 4, none⟩ = some (.int .i64 a0_4) := kC_ BK362.1 4; have hcz3_5 : w2.cell? ⟨gb362, 5, none⟩ = some (.int .i64 a0_5) := kC_ BK362.1 5; have hcz3_6 : w2.cell? ⟨gb362, 6, none⟩ = some (.int .i64 a0_6) := kC_ BK362.1 6; have hfz3_0 := kF_ BK362.1 0; have hfz3_1 := kF_ BK362.1 1; have hfz3_2 := kF_ BK362.1 2; have hfz3_3 := kF_ BK362.1 3; have hfz3_4 := kF_ BK362.1 4; have hfz3_5 := kF_ BK362.1 5; have hfz3_6 := kF_ BK362.1 6))
 repeat (go_quiet (first | ((with_reducible refine gate_dst (N := 12) rfl ?_); refine Go.Proofs.Ytlkofdedkfmaeaa.X.loadL_event ?hg (N := 12) ?hd (t := 97) (p := .tmp 11) ?ho ?hp Try.underlying97 rfl ?hi (fun j u hj => (Below.cell (by repeat (first | (with_reducible first | exact HB.1 | apply bA_ | apply bN_ | apply bD_ | refine bS_ ?_ GE362.1 | refine bS_ ?_ GE364.1) | exact HB.1) : Below w.heap.size w _) (World.block_lt_of_cell? w _ (hx363 j u hj))).trans (hx363 j u hj)) ?_; (case hd => rfl); (case hg => rfl); (case ho => rfl); (case hi => kernel_rfl); (case hp => first | rfl | (go_simp; done) | (go_simp; rfl))) | ((with_reducible refine gate_ (.store 97 (.tmp 5) (.tmp 12)) rfl ?_); refine Go.Proofs.Ytlkofdedkfmaeaa.X.fillL_event ?hg (t := 97) (p := .tmp 5) (v := .tmp 12) ?ho ?hN (g := gb364) (cs := [.slice A363_0 (rd_T97 l0_3 x9_1).f0.f0.length c363_0, .int .i64 (rd_T97 l0_3 x9_1).f0.f1, .bool (rd_T97 l0_3 x9_1).f1, .int .i64 (rd_T97 l0_3 x9_1).f2.f0, .int .i64 (rd_T97 l0_3 x9_1).f2.f1, .int .i64 (rd_T97 l0_3 x9_1).f2.f2, .slice A363_6 (rd_T97 l0_3 x9_1).f2.f3.length c363_6, .bool (rd_T97 l0_3 x9_1).f2.f4, .int .i64 (rd_T97 l0_3 x9_1).f3.f0.f0, .int .i64 (rd_T97 l0_3 x9_1).f3.f0.f1, .int .i64 (rd_T97 l0_3 x9_1).f3.f0.f2, .int .i64 (rd_T97 l0_3 x9_1).f3.f0.f3, .int .i64 (rd_T97 l0_3 x9_1).f3.f1, .int .i64 (rd_T97 l0_3 x9_1).f3.f2, .int .i64 (rd_T97 l0_3 x9_1).f3.f3, .int .i64 (rd_T97 l0_3 x9_1).f3.f4, .int .i64 (rd_T97 l0_3 x9_1).f3.f5, .slice A363_17 (rd_T97 l0_3 x9_1).f4.length c363_17, .int .i64 (rd_T97 l0_3 x9_1).f5, .int .i64 (rd_T97 l0_3 x9_1).f6, .slice A363_20 (rd_T97 l0_3 x9_1).f7.length c363_20, .slice A363_21 (rd_T97 l0_3 x9_1).f8.length c363_21]) ?hp (u := .agg #[.slice A363_0 (rd_T97 l0_3 x9_1).f0.f0.length c363_0, .int .i64 (rd_T97 l0_3 x9_1).f0.f1, .bool (rd_T97 l0_3 x9_1).f1, .int .i64 (rd_T97 l0_3 x9_1).f2.f0, .int .i64 (rd_T97 l0_3 x9_1).f2.f1, .int .i64 (rd_T97 l0_3 x9_1).f2.f2, .slice A363_6 (rd_T97 l0_3 x9_1).f2.f3.length c363_6, .bool (rd_T97 l0_3 x9_1).f2.f4, .int .i64 (rd_T97 l0_3 x9_1).f3.f0.f0, .int .i64 (rd_T97 l0_3 x9_1).f3.f0.f1, .int .i64 (rd_T97 l0_3 x9_1).f3.f0.f2, .int .i64 (rd_T97 l0_3 x9_1).f3.f0.f3, .int .i64 (rd_T97 l0_3 x9_1).f3.f1, .int .i64 (rd_T97 l0_3 x9_1).f3.f2, .int .i64 (rd_T97 l0_3 x9_1).f3.f3, .int .i64 (rd_T97 l0_3 x9_1).f3.f4, .int .i64 (rd_T97 l0_3 x9_1).f3.f5, .slice A363_17 (rd_T97 l0_3 x9_1).f4.length c363_17, .int .i64 (rd_T97 l0_3 x9_1).f5, .int .i64 (rd_T97 l0_3 x9_1).f6, .slice A363_20 (rd_T97 l0_3 x9_1).f7.length c363_20, .slice A363_21 (rd_T97 l0_3 x9_1).f8.length c363_21]) ?hu ?huc BK364.1 ?hsz ?ht ?h1 ?_; (case hg => rfl); (case ho => rfl); (case hN => rfl); (case hp => first | rfl | (go_simp; done) | (go_simp; rfl)); (case hu => first | rfl | (go_simp; done) | (go_simp; rfl)); (case huc => rfl); (case hsz => rfl); (case ht => kernel_rfl); (case h1 => (intro q hq; simp only [List.mem_cons, List.not_mem_nil, or_false] at hq; rcases hq with rfl | rfl | rfl | rfl | rfl | rfl | rfl | rfl | rfl | rfl | rfl | rfl | rfl | rfl | rfl | rfl | rfl | rfl | rfl | rfl | rfl | rfl <;> rfl)); intro wf364 hf1 hf2 hf3; have n0_ := Am_ (Go.Proofs.Ytlkofdedkfmaeaa.X.far_blk BK362.1 NB362_364.1 hf2); have nB_ := Am_ (hf3 _ _ (by repeat (first | (with_reducible first | exact HB.1 | apply bA_ | apply bN_ | apply bD_ | refine bS_ ?_ GE362.1 | refine bS_ ?_ GE364.1) | exact HB.1) : Below w.heap.size w _) GE364.1); clear BK364 HB BK362; have BK362 := n0_; have HB := nB_; have BK364 := Am_ hf1; clear n0_ nB_ hf1 hf2 hf3; have hczf_0 : wf364.cell? ⟨gb364, 0, none⟩ = some (.slice A363_0 (rd_T97 l0_3 x9_1).f0.f0.length c363_0) := kC_ BK364.1 0; have hfzf_0 := kF_ BK364.1 0; have hczf_1 : wf364.cell? ⟨gb364, 1, none⟩ = some (.int .i64 (rd_T97 l0_3 x9_1).f0.f1) := kC_ BK364.1 1; have hfzf_1 := kF_ BK364.1 1; have hczf_2 : wf364.cell? ⟨gb364, 2, none⟩ = some (.bool (rd_T97 l0_3 x9_1).f1) := kC_ BK364.1 2; have hfzf_2 := kF_ BK364.1 2; have hczf_3 : wf364.cell? ⟨gb364, 3, none⟩ = some (.int .i64 (rd_T97 l0_3 x9_1).f2.f0) := kC_ BK364.1 3; have hfzf_3 := kF_ BK364.1 3; have hczf_4 : wf364.cell? ⟨gb364, 4, none⟩ = some (.int .i64 (rd_T97 l0_3 x9_1).f2.f1) := kC_ BK364.1 4; have hfzf_4 := kF_ BK364.1 4; have hczf_5 : wf364.cell? ⟨gb364, 5, none⟩ = some (.int .i64 (rd_T97 l0_3 x9_1).f2.f2) := kC_ BK364.1 5; have hfzf_5 := kF_ BK364.1 5; have hczf_6 : wf364.cell? ⟨gb364, 6, none⟩ = some (.slice A363_6 (rd_T97 l0_3 x9_1).f2.f3.length c363_6) := kC_ BK364.1 6; have hfzf_6 := kF_ BK364.1 6; have hczf_7 : wf364.cell? ⟨gb364, 7, none⟩ = some (.bool (rd_T97 l0_3 x9_1).f2.f4) := kC_ BK364.1 7; have hfzf_7 := kF_ BK364.1 7; have hczf_8 : wf364.cell? ⟨gb364, 8, none⟩ = some (.int .i64 (rd_T97 l0_3 x9_1).f3.f0.f0) := kC_ BK364.1 8; have hfzf_8 := kF_ BK364.1 8; have hczf_9 : wf364.cell? ⟨gb364, 9, none⟩ = some (.int .i64 (rd_T97 l0_3 x9_1).f3.f0.f1) := kC_ BK364.1 9; have hfzf_9 := kF_ BK364.1 9; have hczf_10 : wf364.cell? ⟨gb364, 10, none⟩ = some (.int .i64 (rd_T97 l0_3 x9_1).f3.f0.f2) := kC_ BK364.1 10; have hfzf_10 := kF_ BK364.1 10; have hczf_11 : wf364.cell? ⟨gb364, 11, none⟩ = some (.int .i64 (rd_T97 l0_3 x9_1).f3.f0.f3) := kC_ BK364.1 11; have hfzf_11 := kF_ BK364.1 11; have hczf_12 : wf364.cell? ⟨gb364, 12, none⟩ = some (.int .i64 (rd_T97 l0_3 x9_1).f3.f1) := kC_ BK364.1 12; have hfzf_12 := kF_ BK364.1 12; have hczf_13 : wf364.cell? ⟨gb364, 13, none⟩ = some (.int .i64 (rd_T97 l0_3 x9_1).f3.f2) := kC_ BK364.1 13; have hfzf_13 := kF_ BK364.1 13; have hczf_14 : wf364.cell? ⟨gb364, 14, none⟩ = some (.int .i64 (rd_T97 l0_3 x9_1).f3.f3) := kC_ BK364.1 14; have hfzf_14 := kF_ BK364.1 14; have hczf_15 : wf364.cell? ⟨gb364, 15, none⟩ = some (.int .i64 (rd_T97 l0_3 x9_1).f3.f4) := kC_ BK364.1 15; have hfzf_15 := kF_ BK364.1 15; have hczf_16 : wf364.cell? ⟨gb364, 16, none⟩ = some (.int .i64 (rd_T97 l0_3 x9_1).f3.f5) := kC_ BK364.1 16; have hfzf_16 := kF_ BK364.1 16; have hczf_17 : wf364.cell? ⟨gb364, 17, none⟩ = some (.slice A363_17 (rd_T97 l0_3 x9_1).f4.length c363_17) := kC_ BK364.1 17; have hfzf_17 := kF_ BK364.1 17; have hczf_18 : wf364.cell? ⟨gb364, 18, none⟩ = some (.int .i64 (rd_T97 l0_3 x9_1).f5) := kC_ BK364.1 18; have hfzf_18 := kF_ BK364.1 18; have hczf_19 : wf364.cell? ⟨gb364, 19, none⟩ = some (.int .i64 (rd_T97 l0_3 x9_1).f6) := kC_ BK364.1 19; have hfzf_19 := kF_ BK364.1 19; have hczf_20 : wf364.cell? ⟨gb364, 20, none⟩ = some (.slice A363_20 (rd_T97 l0_3 x9_1).f7.length c363_20) := kC_ BK364.1 20; have hfzf_20 := kF_ BK364.1 20; have hczf_21 : wf364.cell? ⟨gb364, 21, none⟩ = some (.slice A363_21 (rd_T97 l0_3 x9_1).f8.length c363_21) := kC_ BK364.1 21; have hfzf_21 := kF_ BK364.1 21) | ((with_reducible refine gate_dst (N := 1) rfl ?_); refine box_event ?hg (N := 1) ?hd (cs := #[.slice A0_0 l0_0.length c0_0, .int .i64 a0_1, .int .i64 a0_2, .slice A0_3 l0_3.length c0_3, .int .i64 a0_4, .int .i64 a0_5, .int .i64 a0_6]) (t := 33) ?hr ?_; (case hd => rfl); (case hg => rfl); (case hr => first | (go_simp; done) | (go_simp; rfl)); intro gb362 hg w2 hbox hb; have n0_ := Am_ (bT_ (by repeat (first | (with_reducible first | exact HB.1 | apply bA_ | apply bN_ | apply bD_) | exact HB.1)) hb); have n1_ := Am_ (hbox); have n2_ := Am_ ((by rw [hg]; exact (bZ_ (by repeat (first | (with_reducible first | exact HB.1 | apply bA_ | apply bN_ | apply bD_) | exact HB.1))) : w.heap.size ≤ gb362)); have n3_ := Am_ ((by rw [hg]; exact (bZ_ (by repeat (first | (with_reducible first | exact HB.1 | apply bA_ | apply bN_ | apply bD_) | exact HB.1))) : w.heap.size ≤ gb362)); clear HB; have HB := n0_; have BK362 := n1_; have GW362 := n2_; have GE362 := n3_; clear n0_ n1_ n2_ n3_ hb hbox hg; have hcz3_0 : w2.cell? ⟨gb362, 0, none⟩ = some (.slice A0_0 l0_0.length c0_0) := kC_ BK362.1 0; have hcz3_1 : w2.cell? ⟨gb362, 1, none⟩ = some (.int .i64 a0_1) := kC_ BK362.1 1; have hcz3_2 : w2.cell? ⟨gb362, 2, none⟩ = some (.int .i64 a0_2) := kC_ BK362.1 2; have hcz3_3 : w2.cell? ⟨gb362, 3, none⟩ = some (.slice A0_3 l0_3.length c0_3) := kC_ BK362.1 3; have hcz3_4 : w2.cell? ⟨gb362, 4, none⟩ = some (.int .i64 a0_4) := kC_ BK362.1 4; have hcz3_5 : w2.cell? ⟨gb362, 5, none⟩ = some (.int .i64 a0_5) := kC_ BK362.1 5; have hcz3_6 : w2.cell? ⟨gb362, 6, none⟩ = some (.int .i64 a0_6) := kC_ BK362.1 6; have hfz3_0 := kF_ BK362.1 0; have hfz3_1 := kF_ BK362.1 1; have hfz3_2 := kF_ BK362.1 2; have hfz3_3 := kF_ BK362.1 3; have hfz3_4 := kF_ BK362.1 4; have hfz3_5 := kF_ BK362.1 5; have hfz3_6 := kF_ BK362.1 6)); try go_wp2_with (first | ((with_reducible refine gate_dst (N := 12) rfl ?_); refine Go.Proofs.Ytlkofdedkfmaeaa.X.loadL_event ?hg (N := 12) ?hd (t := 97) (p := .tmp 11) ?ho ?hp Try.underlying97 rfl ?hi (fun j u hj => (Below.cell (by repeat (first | (with_reducible first | exact HB.1 | apply bA_ | apply bN_ | apply bD_ | refine bS_ ?_ GE362.1 | refine bS_ ?_ GE364.1) | exact HB.1) : Below w.heap.size w _) (World.block_lt_of_cell? w _ (hx363 j u hj))).trans (hx363 j u hj)) ?_; (case hd => rfl); (case hg => rfl); (case ho => rfl); (case hi => kernel_rfl); (case hp => first | rfl | (go_simp; done) | (go_simp; rfl))) | ((with_reducible refine gate_ (.store 97 (.tmp 5) (.tmp 12)) rfl ?_); refine Go.Proofs.Ytlkofdedkfmaeaa.X.fillL_event ?hg (t := 97) (p := .tmp 5) (v := .tmp 12) ?ho ?hN (g := gb364) (cs := [.slice A363_0 (rd_T97 l0_3 x9_1).f0.f0.length c363_0, .int .i64 (rd_T97 l0_3 x9_1).f0.f1, .bool (rd_T97 l0_3 x9_1).f1, .int .i64 (rd_T97 l0_3 x9_1).f2.f0, .int .i64 (rd_T97 l0_3 x9_1).f2.f1, .int .i64 (rd_T97 l0_3 x9_1).f2.f2, .slice A363_6 (rd_T97 l0_3 x9_1).f2.f3.length c363_6, .bool (rd_T97 l0_3 x9_1).f2.f4, .int .i64 (rd_T97 l0_3 x9_1).f3.f0.f0, .int .i64 (rd_T97 l0_3 x9_1).f3.f0.f1, .int .i64 (rd_T97 l0_3 x9_1).f3.f0.f2, .int .i64 (rd_T97 l0_3 x9_1).f3.f0.f3, .int .i64 (rd_T97 l0_3 x9_1).f3.f1, .int .i64 (rd_T97 l0_3 x9_1).f3.f2, .int .i64 (rd_T97 l0_3 x9_1).f3.f3, .int .i64 (rd_T97 l0_3 x9_1).f3.f4, .int .i64 (rd_T97 l0_3 x9_1).f3.f5, .slice A363_17 (rd_T97 l0_3 x9_1).f4.length c363_17, .int .i64 (rd_T97 l0_3 x9_1).f5, .int .i64 (rd_T97 l0_3 x9_1).f6, .slice A363_20 (rd_T97 l0_3 x9_1).f7.length c363_20, .slice A363_21 (rd_T97 l0_3 x9_1).f8.length c363_21]) ?hp (u := .agg #[.slice A363_0 (rd_T97 l0_3 x9_1).f0.f0.length c363_0, .int .i64 (rd_T97 l0_3 x9_1).f0.f1, .bool (rd_T97 l0_3 x9_1).f1, .int .i64 (rd_T97 l0_3 x9_1).f2.f0, .int .i64 (rd_T97 l0_3 x9_1).f2.f1, .int .i64 (rd_T97 l0_3 x9_1).f2.f2, .slice A363_6 (rd_T97 l0_3 x9_1).f2.f3.length c363_6, .bool (rd_T97 l0_3 x9_1).f2.f4, .int .i64 (rd_T97 l0_3 x9_1).f3.f0.f0, .int .i64 (rd_T97 l0_3 x9_1).f3.f0.f1, .int .i64 (rd_T97 l0_3 x9_1).f3.f0.f2, .int .i64 (rd_T97 l0_3 x9_1).f3.f0.f3, .int .i64 (rd_T97 l0_3 x9_1).f3.f1, .int .i64 (rd_T97 l0_3 x9_1).f3.f2, .int .i64 (rd_T97 l0_3 x9_1).f3.f3, .int .i64 (rd_T97 l0_3 x9_1).f3.f4, .int .i64 (rd_T97 l0_3 x9_1).f3.f5, .slice A363_17 (rd_T97 l0_3 x9_1).f4.length c363_17, .int .i64 (rd_T97 l0_3 x9_1).f5, .int .i64 (rd_T97 l0_3 x9_1).f6, .slice A363_20 (rd_T97 l0_3 x9_1).f7.length c363_20, .slice A363_21 (rd_T97 l0_3 x9_1).f8.length c363_21]) ?hu ?huc BK364.1 ?hsz ?ht ?h1 ?_; (case hg => rfl); (case ho => rfl); (case hN => rfl); (case hp => first | rfl | (go_simp; done) | (go_simp; rfl)); (case hu => first | rfl | (go_simp; done) | (go_simp; rfl)); (case huc => rfl); (case hsz => rfl); (case ht => kernel_rfl); (case h1 => (intro q hq; simp only [List.mem_cons, List.not_mem_nil, or_false] at hq; rcases hq with rfl | rfl | rfl | rfl | rfl | rfl | rfl | rfl | rfl | rfl | rfl | rfl | rfl | rfl | rfl | rfl | rfl | rfl | rfl | rfl | rfl | rfl <;> rfl)); intro wf364 hf1 hf2 hf3; have n0_ := Am_ (Go.Proofs.Ytlkofdedkfmaeaa.X.far_blk BK362.1 NB362_364.1 hf2); have nB_ := Am_ (hf3 _ _ (by repeat (first | (with_reducible first | exact HB.1 | apply bA_ | apply bN_ | apply bD_ | refine bS_ ?_ GE362.1 | refine bS_ ?_ GE364.1) | exact HB.1) : Below w.heap.size w _) GE364.1); clear BK364 HB BK362; have BK362 := n0_; have HB := nB_; have BK364 := Am_ hf1; clear n0_ nB_ hf1 hf2 hf3; have hczf_0 : wf364.cell? ⟨gb364, 0, none⟩ = some (.slice A363_0 (rd_T97 l0_3 x9_1).f0.f0.length c363_0) := kC_ BK364.1 0; have hfzf_0 := kF_ BK364.1 0; have hczf_1 : wf364.cell? ⟨gb364, 1, none⟩ = some (.int .i64 (rd_T97 l0_3 x9_1).f0.f1) := kC_ BK364.1 1; have hfzf_1 := kF_ BK364.1 1; have hczf_2 : wf364.cell? ⟨gb364, 2, none⟩ = some (.bool (rd_T97 l0_3 x9_1).f1) := kC_ BK364.1 2; have hfzf_2 := kF_ BK364.1 2; have hczf_3 : wf364.cell? ⟨gb364, 3, none⟩ = some (.int .i64 (rd_T97 l0_3 x9_1).f2.f0) := kC_ BK364.1 3; have hfzf_3 := kF_ BK364.1 3; have hczf_4 : wf364.cell? ⟨gb364, 4, none⟩ = some (.int .i64 (rd_T97 l0_3 x9_1).f2.f1) := kC_ BK364.1 4; have hfzf_4 := kF_ BK364.1 4; have hczf_5 : wf364.cell? ⟨gb364, 5, none⟩ = some (.int .i64 (rd_T97 l0_3 x9_1).f2.f2) := kC_ BK364.1 5; have hfzf_5 := kF_ BK364.1 5; have hczf_6 : wf364.cell? ⟨gb364, 6, none⟩ = some (.slice A363_6 (rd_T97 l0_3 x9_1).f2.f3.length c363_6) := kC_ BK364.1 6; have hfzf_6 := kF_ BK364.1 6; have hczf_7 : wf364.cell? ⟨gb364, 7, none⟩ = some (.bool (rd_T97 l0_3 x9_1).f2.f4) := kC_ BK364.1 7; have hfzf_7 := kF_ BK364.1 7; have hczf_8 : wf364.cell? ⟨gb364, 8, none⟩ = some (.int .i64 (rd_T97 l0_3 x9_1).f3.f0.f0) := kC_ BK364.1 8; have hfzf_8 := kF_ BK364.1 8; have hczf_9 : wf364.cell? ⟨gb364, 9, none⟩ = some (.int .i64 (rd_T97 l0_3 x9_1).f3.f0.f1) := kC_ BK364.1 9; have hfzf_9 := kF_ BK364.1 9; have hczf_10 : wf364.cell? ⟨gb364, 10, none⟩ = some (.int .i64 (rd_T97 l0_3 x9_1).f3.f0.f2) := kC_ BK364.1 10; have hfzf_10 := kF_ BK364.1 10; have hczf_11 : wf364.cell? ⟨gb364, 11, none⟩ = some (.int .i64 (rd_T97 l0_3 x9_1).f3.f0.f3) := kC_ BK364.1 11; have hfzf_11 := kF_ BK364.1 11; have hczf_12 : wf364.cell? ⟨gb364, 12, none⟩ = some (.int .i64 (rd_T97 l0_3 x9_1).f3.f1) := kC_ BK364.1 12; have hfzf_12 := kF_ BK364.1 12; have hczf_13 : wf364.cell? ⟨gb364, 13, none⟩ = some (.int .i64 (rd_T97 l0_3 x9_1).f3.f2) := kC_ BK364.1 13; have hfzf_13 := kF_ BK364.1 13; have hczf_14 : wf364.cell? ⟨gb364, 14, none⟩ = some (.int .i64 (rd_T97 l0_3 x9_1).f3.f3) := kC_ BK364.1 14; have hfzf_14 := kF_ BK364.1 14; have hczf_15 : wf364.cell? ⟨gb364, 15, none⟩ = some (.int .i64 (rd_T97 l0_3 x9_1).f3.f4) := kC_ BK364.1 15; have hfzf_15 := kF_ BK364.1 15; have hczf_16 : wf364.cell? ⟨gb364, 16, none⟩ = some (.int .i64 (rd_T97 l0_3 x9_1).f3.f5) := kC_ BK364.1 16; have hfzf_16 := kF_ BK364.1 16; have hczf_17 : wf364.cell? ⟨gb364, 17, none⟩ = some (.slice A363_17 (rd_T97 l0_3 x9_1).f4.length c363_17) := kC_ BK364.1 17; have hfzf_17 := kF_ BK364.1 17; have hczf_18 : wf364.cell? ⟨gb364, 18, none⟩ = some (.int .i64 (rd_T97 l0_3 x9_1).f5) := kC_ BK364.1 18; have hfzf_18 := kF_ BK364.1 18; have hczf_19 : wf364.cell? ⟨gb364, 19, none⟩ = some (.int .i64 (rd_T97 l0_3 x9_1).f6) := kC_ BK364.1 19; have hfzf_19 := kF_ BK364.1 19; have hczf_20 : wf364.cell? ⟨gb364, 20, none⟩ = some (.slice A363_20 (rd_T97 l0_3 x9_1).f7.length c363_20) := kC_ BK364.1 20; have hfzf_20 := kF_ BK364.1 20; have hczf_21 : wf364.cell? ⟨gb364, 21, none⟩ = some (.slice A363_21 (rd_T97 l0_3 x9_1).f8.length c363_21) := kC_ BK364.1 21; have hfzf_21 := kF_ BK364.1 21) | ((with_reducible refine gate_dst (N := 1) rfl ?_); refine box_event ?hg (N := 1) ?hd (cs := #[.slice A0_0 l0_0.length c0_0, .int .i64 a0_1, .int .i64 a0_2, .slice A0_3 l0_3.length c0_3, .int .i64 a0_4, .int .i64 a0_5, .int .i64 a0_6]) (t := 33) ?hr ?_; (case hd => rfl); (case hg => rfl); (case hr => first | (go_simp; done) | (go_simp; rfl)); intro gb362 hg w2 hbox hb; have n0_ := Am_ (bT_ (by repeat (first | (with_reducible first | exact HB.1 | apply bA_ | apply bN_ | apply bD_) | exact HB.1)) hb); have n1_ := Am_ (hbox); have n2_ := Am_ ((by rw [hg]; exact (bZ_ (by repeat (first | (with_reducible first | exact HB.1 | apply bA_ | apply bN_ | apply bD_) | exact HB.1))) : w.heap.size ≤ gb362)); have n3_ := Am_ ((by rw [hg]; exact (bZ_ (by repeat (first | (with_reducible first | exact HB.1 | apply bA_ | apply bN_ | apply bD_) | exact HB.1))) : w.heap.size ≤ gb362)); clear HB; have HB := n0_; have BK362 := n1_; have GW362 := n2_; have GE362 := n3_; clear n0_ n1_ n2_ n3_ hb hbox hg; have hcz3_0 : w2.cell? ⟨gb362, 0, none⟩ = some (.slice A0_0 l0_0.length c0_0) := kC_ BK362.1 0; have hcz3_1 : w2.cell? ⟨gb362, 1, none⟩ = some (.int .i64 a0_1) := kC_ BK362.1 1; have hcz3_2 : w2.cell? ⟨gb362, 2, none⟩ = some (.int .i64 a0_2) := kC_ BK362.1 2; have hcz3_3 : w2.cell? ⟨gb362, 3, none⟩ = some (.slice A0_3 l0_3.length c0_3) := kC_ BK362.1 3; have hcz3_4 : w2.cell? ⟨gb362, 4, none⟩ = some (.int .i64 a0_4) := kC_ BK362.1 4; have hcz3_5 : w2.cell? ⟨gb362, 5, none⟩ = some (.int .i64 a0_5) := kC_ BK362.1 5; have hcz3_6 : w2.cell? ⟨gb362, 6, none⟩ = some (.int .i64 a0_6) := kC_ BK362.1 6; have hfz3_0 := kF_ BK362.1 0; have hfz3_1 := kF_ BK362.1 1; have hfz3_2 := kF_ BK362.1 2; have hfz3_3 := kF_ BK362.1 3; have hfz3_4 := kF_ BK362.1 4; have hfz3_5 := kF_ BK362.1 5; have hfz3_6 := kF_ BK362.1 6)))
 go_loopg [3, 9] k (fun kq v3 v9 w' => ∃ (x3_1 : Int) (x9_1 : Int), v3 = .int .i64 x3_1 ∧ v9 = .int .i64 x9_1 ∧ Aside0 (impl_UnfinishedFrames.l0 kq x3_1 l0_3 (l0_3.length : Int) x9_1 = some r) ∧ Aside0 (kq ≤ k) ∧ Aside0 (w'.heap[gb362]? = some (.cells #[(.slice A0_0 l0_0.length c0_0), .int .i64 a0_1, .int .i64 a0_2, (.slice A0_3 l0_3.length c0_3), .int .i64 a0_4, .int .i64 a0_5, .int .i64 a0_6] 33 (0, 0))) ∧ Aside0 (Below w.heap.size w w'))
 case atStart => exact ⟨(0), (0), (by first | rfl | (simp [i64_w]; done) | (simp; done) | (simp [*]; done)), (by first | rfl | (simp [i64_w]; done) | (simp; done) | (simp [*]; done)), H', ⟨Nat.le_refl _⟩, ⟨by (with_reducible repeat (first | refine kN_ ?_ _ | refine kD_ ?_ | refine kA_ ?_ _)); exact BK362.1⟩, ⟨by repeat (first | (with_reducible first | exact HB.1 | apply bA_ | apply bN_ | apply bD_ | refine bS_ ?_ GE362.1) | exact HB.1)⟩⟩
 case round =>
  clear H'
  try clear c1
  try clear p2
  try clear hcz3_0
  try clear hcz3_1
  try clear hcz3_2
  try clear hcz3_3
  try clear hcz3_4
  try clear hcz3_5
  try clear hcz3_6
  try clear hfz3_0
  try clear hfz3_1
  try clear hfz3_2
  try clear hfz3_3
  try clear hfz3_4
  try clear hfz3_5
  try clear hfz3_6
  obtain ⟨x3_1, x9_1, rfl, rfl, HA, HK1, BK362, HB⟩ := hrel
  cases gk with
  | zero => exact absurd HA.1 (by simp [impl_UnfinishedFrames.l0])
  | succ k1 =>
   have H := HA.1
   clear HA
   simp only [impl_UnfinishedFrames.l0] at H
   by_cases c4 : x9_1 < (l0_3.length : Int)
   ·rw [if_pos c4] at H
    have c4b0 : decide (x9_1 < (l0_3.length : Int)) = true := decide_eq_true c4
    clear c4
    by_cases c5 : 0 ≤ x9_1
    ·rw [if_pos c5] at H
     have c5b0 : decide (0 ≤ x9_1) = true := decide_eq_true c5
     clear c5
     by_cases c6 : x9_1 < (l0_3.length : Int)
     ·rw [if_pos c6] at H
      have c6b0 : decide (x9_1 < (l0_3.length : Int)) = true := decide_eq_true c6
      clear c6
      replace H := Option.bind_eq_some_iff.mp H
      obtain ⟨t365, A70, H⟩ := H
      replace H : (impl_UnfinishedFrames.l0 k1 (wrap64 (x3_1 + (wrap64 ((((rd_T97 l0_3 x9_1).f0.f0).length : Int) + t365)))) l0_3 (l0_3.length : Int) (wrap64 (x9_1 + 1))) = some r := H
      have A7 := Am_ A70
      clear A70
      have H' := Am_ H
      clear H
      have p363 : 0 ≤ (x9_1 : Int) := of_decide_eq_true (by first | (with_reducible assumption) | assumption)
      have q363 : x9_1 < (l0_3.length : Int) := of_decide_eq_true (by first | (with_reducible assumption) | assumption)
      obtain ⟨ad363, A363_0, c363_0, A363_6, c363_6, A363_17, c363_17, A363_20, c363_20, A363_21, c363_21, e363, hx363, hl363_0, hi363_0, hl363_6, hi363_6, hl363_17, hi363_17, hl363_20, hi363_20, hl363_21, hi363_21⟩ := atL_T97 HR0_3.1 x9_1 p363 q363
      cases e363
      have HR363_0 := Am_ hi363_0
      have HC363_0 := Am_ hl363_0
      clear hi363_0 hl363_0
      have HR363_6 := Am_ hi363_6
      have HC363_6 := Am_ hl363_6
      clear hi363_6 hl363_6
      have HR363_17 := Am_ hi363_17
      have HC363_17 := Am_ hl363_17
      clear hi363_17 hl363_17
      have HR363_20 := Am_ hi363_20
      have HC363_20 := Am_ hl363_20
      clear hi363_20 hl363_20
      have HR363_21 := Am_ hi363_21
      have HC363_21 := Am_ hl363_21
      clear hi363_21 hl363_21
      replace p363 := eq_true p363
      replace q363 := eq_true q363
      go_wp2_with (first | ((with_reducible refine gate_dst (N := 12) rfl ?_); refine Go.Proofs.Ytlkofdedkfmaeaa.X.loadL_event ?hg (N := 12) ?hd (t := 97) (p := .tmp 11) ?ho ?hp Try.underlying97 rfl ?hi (fun j u hj => (Below.cell (by repeat (first | (with_reducible first | exact HB.1 | apply bA_ | apply bN_ | apply bD_ | refine bS_ ?_ GE362.1 | refine bS_ ?_ GE364.1) | exact HB.1) : Below w.heap.size w _) (World.block_lt_of_cell? w _ (hx363 j u hj))).trans (hx363 j u hj)) ?_; (case hd => rfl); (case hg => rfl); (case ho => rfl); (case hi => kernel_rfl); (case hp => first | rfl | (go_simp; done) | (go_simp; rfl))) | ((with_reducible refine gate_ (.store 97 (.tmp 5) (.tmp 12)) rfl ?_); refine Go.Proofs.Ytlkofdedkfmaeaa.X.fillL_event ?hg (t := 97) (p := .tmp 5) (v := .tmp 12) ?ho ?hN (g := gb364) (cs := [.slice A363_0 (rd_T97 l0_3 x9_1).f0.f0.length c363_0, .int .i64 (rd_T97 l0_3 x9_1).f0.f1, .bool (rd_T97 l0_3 x9_1).f1, .int .i64 (rd_T97 l0_3 x9_1).f2.f0, .int .i64 (rd_T97 l0_3 x9_1).f2.f1, .int .i64 (rd_T97 l0_3 x9_1).f2.f2, .slice A363_6 (rd_T97 l0_3 x9_1).f2.f3.length c363_6, .bool (rd_T97 l0_3 x9_1).f2.f4, .int .i64 (rd_T97 l0_3 x9_1).f3.f0.f0, .int .i64 (rd_T97 l0_3 x9_1).f3.f0.f1, .int .i64 (rd_T97 l0_3 x9_1).f3.f0.f2, .int .i64 (rd_T97 l0_3 x9_1).f3.f0.f3, .int .i64 (rd_T97 l0_3 x9_1).f3.f1, .int .i64 (rd_T97 l0_3 x9_1).f3.f2, .int .i64 (rd_T97 l0_3 x9_1).f3.f3, .int .i64 (rd_T97 l0_3 x9_1).f3.f4, .int .i64 (rd_T97 l0_3 x9_1).f3.f5, .slice A363_17 (rd_T97 l0_3 x9_1).f4.length c363_17, .int .i64 (rd_T97 l0_3 x9_1).f5, .int .i64 (rd_T97 l0_3 x9_1).f6, .slice A363_20 (rd_T97 l0_3 x9_1).f7.length c363_20, .slice A363_21 (rd_T97 l0_3 x9_1).f8.length c363_21]) ?hp (u := .agg #[.slice A363_0 (rd_T97 l0_3 x9_1).f0.f0.length c363_0, .int .i64 (rd_T97 l0_3 x9_1).f0.f1, .bool (rd_T97 l0_3 x9_1).f1, .int .i64 (rd_T97 l0_3 x9_1).f2.f0, .int .i64 (rd_T97 l0_3 x9_1).f2.f1, .int .i64 (rd_T97 l0_3 x9_1).f2.f2, .slice A363_6 (rd_T97 l0_3 x9_1).f2.f3.length c363_6, .bool (rd_T97 l0_3 x9_1).f2.f4, .int .i64 (rd_T97 l0_3 x9_1).f3.f0.f0, .int .i64 (rd_T97 l0_3 x9_1).f3.f0.f1, .int .i64 (rd_T97 l0_3 x9_1).f3.f0.f2, .int .i64 (rd_T97 l0_3 x9_1).f3.f0.f3, .int .i64 (rd_T97 l0_3 x9_1).f3.f1, .int .i64 (rd_T97 l0_3 x9_1).f3.f2, .int .i64 (rd_T97 l0_3 x9_1).f3.f3, .int .i64 (rd_T97 l0_3 x9_1).f3.f4, .int .i64 (rd_T97 l0_3 x9_1).f3.f5, .slice A363_17 (rd_T97 l0_3 x9_1).f4.length c363_17, .int .i64 (rd_T97 l0_3 x9_1).f5, .int .i64 (rd_T97 l0_3 x9_1).f6, .slice A363_20 (rd_T97 l0_3 x9_1).f7.length c363_20, .slice A363_21 (rd_T97 l0_3 x9_1).f8.length c363_21]) ?hu ?huc BK364.1 ?hsz ?ht ?h1 ?_; (case hg => rfl); (case ho => rfl); (case hN => rfl); (case hp => first | rfl | (go_simp; done) | (go_simp; rfl)); (case hu => first | rfl | (go_simp; done) | (go_simp; rfl)); (case huc => rfl); (case hsz => rfl); (case ht => kernel_rfl); (case h1 => (intro q hq; simp only [List.mem_cons, List.not_mem_nil, or_false] at hq; rcases hq with rfl | rfl | rfl | rfl | rfl | rfl | rfl | rfl | rfl | rfl | rfl | rfl | rfl | rfl | rfl | rfl | rfl | rfl | rfl | rfl | rfl | rfl <;> rfl)); intro wf364 hf1 hf2 hf3; have n0_ := Am_ (Go.Proofs.Ytlkofdedkfmaeaa.X.far_blk BK362.1 NB362_364.1 hf2); have nB_ := Am_ (hf3 _ _ (by repeat (first | (with_reducible first | exact HB.1 | apply bA_ | apply bN_ | apply bD_ | refine bS_ ?_ GE362.1 | refine bS_ ?_ GE364.1) | exact HB.1) : Below w.heap.size w _) GE364.1); clear BK364 HB BK362; have BK362 := n0_; have HB := nB_; have BK364 := Am_ hf1; clear n0_ nB_ hf1 hf2 hf3; have hczf_0 : wf364.cell? ⟨gb364, 0, none⟩ = some (.slice A363_0 (rd_T97 l0_3 x9_1).f0.f0.length c363_0) := kC_ BK364.1 0; have hfzf_0 := kF_ BK364.1 0; have hczf_1 : wf364.cell? ⟨gb364, 1, none⟩ = some (.int .i64 (rd_T97 l0_3 x9_1).f0.f1) := kC_ BK364.1 1; have hfzf_1 := kF_ BK364.1 1; have hczf_2 : wf364.cell? ⟨gb364, 2, none⟩ = some (.bool (rd_T97 l0_3 x9_1).f1) := kC_ BK364.1 2; have hfzf_2 := kF_ BK364.1 2; have hczf_3 : wf364.cell? ⟨gb364, 3, none⟩ = some (.int .i64 (rd_T97 l0_3 x9_1).f2.f0) := kC_ BK364.1 3; have hfzf_3 := kF_ BK364.1 3; have hczf_4 : wf364.cell? ⟨gb364, 4, none⟩ = some (.int .i64 (rd_T97 l0_3 x9_1).f2.f1) := kC_ BK364.1 4; have hfzf_4 := kF_ BK364.1 4; have hczf_5 : wf364.cell? ⟨gb364, 5, none⟩ = some (.int .i64 (rd_T97 l0_3 x9_1).f2.f2) := kC_ BK364.1 5; have hfzf_5 := kF_ BK364.1 5; have hczf_6 : wf364.cell? ⟨gb364, 6, none⟩ = some (.slice A363_6 (rd_T97 l0_3 x9_1).f2.f3.length c363_6) := kC_ BK364.1 6; have hfzf_6 := kF_ BK364.1 6; have hczf_7 : wf364.cell? ⟨gb364, 7, none⟩ = some (.bool (rd_T97 l0_3 x9_1).f2.f4) := kC_ BK364.1 7; have hfzf_7 := kF_ BK364.1 7; have hczf_8 : wf364.cell? ⟨gb364, 8, none⟩ = some (.int .i64 (rd_T97 l0_3 x9_1).f3.f0.f0) := kC_ BK364.1 8; have hfzf_8 := kF_ BK364.1 8; have hczf_9 : wf364.cell? ⟨gb364, 9, none⟩ = some (.int .i64 (rd_T97 l0_3 x9_1).f3.f0.f1) := kC_ BK364.1 9; have hfzf_9 := kF_ BK364.1 9; have hczf_10 : wf364.cell? ⟨gb364, 10, none⟩ = some (.int .i64 (rd_T97 l0_3 x9_1).f3.f0.f2) := kC_ BK364.1 10; have hfzf_10 := kF_ BK364.1 10; have hczf_11 : wf364.cell? ⟨gb364, 11, none⟩ = some (.int .i64 (rd_T97 l0_3 x9_1).f3.f0.f3) := kC_ BK364.1 11; have hfzf_11 := kF_ BK364.1 11; have hczf_12 : wf364.cell? ⟨gb364, 12, none⟩ = some (.int .i64 (rd_T97 l0_3 x9_1).f3.f1) := kC_ BK364.1 12; have hfzf_12 := kF_ BK364.1 12; have hczf_13 : wf364.cell? ⟨gb364, 13, none⟩ = some (.int .i64 (rd_T97 l0_3 x9_1).f3.f2) := kC_ BK364.1 13; have hfzf_13 := kF_ BK364.1 13; have hczf_14 : wf364.cell? ⟨gb364, 14, none⟩ = some (.int .i64 (rd_T97 l0_3 x9_1).f3.f3) := kC_ BK364.1 14; have hfzf_14 := kF_ BK364.1 14; have hczf_15 : wf364.cell? ⟨gb364, 15, none⟩ = some (.int .i64 (rd_T97 l0_3 x9_1).f3.f4) := kC_ BK364.1 15; have hfzf_15 := kF_ BK364.1 15; have hczf_16 : wf364.cell? ⟨gb364, 16, none⟩ = some (.int .i64 (rd_T97 l0_3 x9_1).f3.f5) := kC_ BK364.1 16; have hfzf_16 := kF_ BK364.1 16; have hczf_17 : wf364.cell? ⟨gb364, 17, none⟩ = some (.slice A363_17 (rd_T97 l0_3 x9_1).f4.length c363_17) := kC_ BK364.1 17; have hfzf_17 := kF_ BK364.1 17; have hczf_18 : wf364.cell? ⟨gb364, 18, none⟩ = some (.int .i64 (rd_T97 l0_3 x9_1).f5) := kC_ BK364.1 18; have hfzf_18 := kF_ BK364.1 18; have hczf_19 : wf364.cell? ⟨gb364, 19, none⟩ = some (.int .i64 (rd_T97 l0_3 x9_1).f6) := kC_ BK364.1 19; have hfzf_19 := kF_ BK364.1 19; have hczf_20 : wf364.cell? ⟨gb364, 20, none⟩ = some (.slice A363_20 (rd_T97 l0_3 x9_1).f7.length c363_20) := kC_ BK364.1 20; have hfzf_20 := kF_ BK364.1 20; have hczf_21 : wf364.cell? ⟨gb364, 21, none⟩ = some (.slice A363_21 (rd_T97 l0_3 x9_1).f8.length c363_21) := kC_ BK364.1 21; have hfzf_21 := kF_ BK364.1 21) | ((with_reducible refine gate_dst (N := 5) rfl ?_); refine box_event ?hg (N := 5) ?hd (cs := #[.slice none 0 0, .int .i64 0, .bool false, .int .i64 0, .int .i64 0, .int .i64 0, .slice none 0 0, .bool false, .int .i64 0, .int .i64 0, .int .i64 0, .int .i64 0, .int .i64 0, .int .i64 0, .int .i64 0, .int .i64 0, .int .i64 0, .slice none 0 0, .int .i64 0, .int .i64 0, .slice none 0 0, .slice none 0 0]) (t := 97) ?hr ?_; (case hd => rfl); (case hg => rfl); (case hr => first | (go_simp; done) | (go_simp; rfl)); intro gb364 hg w8 hbox hb; have n0_ := Am_ (kB_ (g := gb362) (by (with_reducible repeat (first | refine kN_ ?_ _ | refine kD_ ?_ | refine kA_ ?_ _)); exact BK362.1) hb); have n1_ := Am_ (bT_ (by repeat (first | (with_reducible first | exact HB.1 | apply bA_ | apply bN_ | apply bD_ | refine bS_ ?_ GE362.1) | exact HB.1)) hb); have n2_ := Am_ (hbox); have n3_ := Am_ ((by rw [hg]; exact (bZ_ (by repeat (first | (with_reducible first | exact HB.1 | apply bA_ | apply bN_ | apply bD_ | refine bS_ ?_ GE362.1) | exact HB.1))) : w.heap.size ≤ gb364)); have n4_ := Am_ ((by rw [hg]; exact (bZ_ (by repeat (first | (with_reducible first | exact HB.1 | apply bA_ | apply bN_ | apply bD_ | refine bS_ ?_ GE362.1) | exact HB.1))) : w.heap.size ≤ gb364)); have n5_ := Am_ ((by rw [hg]; exact Nat.ne_of_lt (blk_lt (g := gb362) (by (with_reducible repeat (first | refine kN_ ?_ _ | refine kD_ ?_ | refine kA_ ?_ _)); exact BK362.1)) : gb362 ≠ gb364)); have n6_ := Am_ ((by rw [hg]; exact Nat.ne_of_gt (blk_lt (g := gb362) (by (with_reducible repeat (first | refine kN_ ?_ _ | refine kD_ ?_ | refine kA_ ?_ _)); exact BK362.1)) : gb364 ≠ gb362)); clear BK362 HB; have BK362 := n0_; have HB := n1_; have BK364 := n2_; have GW364 := n3_; have GE364 := n4_; have NB362_364 := n5_; have NB364_362 := n6_; clear n0_ n1_ n2_ n3_ n4_ n5_ n6_ hb hbox hg; have hnb9 := NB364_362.1; have hnc9 := NB362_364.1; have hcz10_0 : w8.cell? ⟨gb364, 0, none⟩ = some (.slice none 0 0) := kC_ BK364.1 0; have hcz10_1 : w8.cell? ⟨gb364, 1, none⟩ = some (.int .i64 0) := kC_ BK364.1 1; have hcz10_2 : w8.cell? ⟨gb364, 2, none⟩ = some (.bool false) := kC_ BK364.1 2; have hcz10_3 : w8.cell? ⟨gb364, 3, none⟩ = some (.int .i64 0) := kC_ BK364.1 3; have hcz10_4 : w8.cell? ⟨gb364, 4, none⟩ = some (.int .i64 0) := kC_ BK364.1 4; have hcz10_5 : w8.cell? ⟨gb364, 5, none⟩ = some (.int .i64 0) := kC_ BK364.1 5; have hcz10_6 : w8.cell? ⟨gb364, 6, none⟩ = some (.slice none 0 0) := kC_ BK364.1 6; have hcz10_7 : w8.cell? ⟨gb364, 7, none⟩ = some (.bool false) := kC_ BK364.1 7; have hcz10_8 : w8.cell? ⟨gb364, 8, none⟩ = some (.int .i64 0) := kC_ BK364.1 8; have hcz10_9 : w8.cell? ⟨gb364, 9, none⟩ = some (.int .i64 0) := kC_ BK364.1 9; have hcz10_10 : w8.cell? ⟨gb364, 10, none⟩ = some (.int .i64 0) := kC_ BK364.1 10; have hcz10_11 : w8.cell? ⟨gb364, 11, none⟩ = some (.int .i64 0) := kC_ BK364.1 11; have hcz10_12 : w8.cell? ⟨gb364, 12, none⟩ = some (.int .i64 0) := kC_ BK364.1 12; have hcz10_13 : w8.cell? ⟨gb364, 13, none⟩ = some (.int .i64 0) := kC_ BK364.1 13; have hcz10_14 : w8.cell? ⟨gb364, 14, none⟩ = some (.int .i64 0) := kC_ BK364.1 14; have hcz10_15 : w8.cell? ⟨gb364, 15, none⟩ = some (.int .i64 0) := kC_ BK364.1 15; have hcz10_16 : w8.cell? ⟨gb364, 16, none⟩ = some (.int .i64 0) := kC_ BK364.1 16; have hcz10_17 : w8.cell? ⟨gb364, 17, none⟩ = some (.slice none 0 0) := kC_ BK364.1 17; have hcz10_18 : w8.cell? ⟨gb364, 18, none⟩ = some (.int .i64 0) := kC_ BK364.1 18; have hcz10_19 : w8.cell? ⟨gb364, 19, none⟩ = some (.int .i64 0) := kC_ BK364.1 19; have hcz10_20 : w8.cell? ⟨gb364, 20, none⟩ = some (.slice none 0 0) := kC_ BK364.1 20; have hcz10_21 : w8.cell? ⟨gb364, 21, none⟩ = some (.slice none 0 0) := kC_ BK364.1 21; have hfz10_0 := kF_ BK364.1 0; have hfz10_1 := kF_ BK364.1 1; have hfz10_2 := kF_ BK364.1 2; have hfz10_3 := kF_ BK364.1 3; have hfz10_4 := kF_ BK364.1 4; have hfz10_5 := kF_ BK364.1 5; have hfz10_6 := kF_ BK364.1 6; have hfz10_7 := kF_ BK364.1 7; have hfz10_8 := kF_ BK364.1 8; have hfz10_9 := kF_ BK364.1 9; have hfz10_10 := kF_ BK364.1 10; have hfz10_11 := kF_ BK364.1 11; have hfz10_12 := kF_ BK364.1 12; have hfz10_13 := kF_ BK364.1 13; have hfz10_14 := kF_ BK364.1 14; have hfz10_15 := kF_ BK364.1 15; have hfz10_16 := kF_ BK364.1 16; have hfz10_17 := kF_ BK364.1 17; have hfz10_18 := kF_ BK364.1 18; have hfz10_19 := kF_ BK364.1 19; have hfz10_20 := kF_ BK364.1 20; have hfz10_21 := kF_ BK364.1 21) | (go_at_call 67; (with_reducible refine (impl_boolToInt.calls ((rd_T97 l0_3 x9_1).f1) t365 _ A7.1).mono ?_); rintro e w' ⟨rfl, ⟨nd, rfl⟩⟩; (try first | exact ⟨rfl, _, World.drewN_drewN _ _ _⟩ | exact ⟨rfl, _, Eq.trans (World.drewN_drewN _ _ _) (congrArg (World.drewN _) (Nat.add_assoc _ _ _))⟩)))
      repeat (go_quiet (first | ((with_reducible refine gate_dst (N := 12) rfl ?_); refine Go.Proofs.Ytlkofdedkfmaeaa.X.loadL_event ?hg (N := 12) ?hd (t := 97) (p := .tmp 11) ?ho ?hp Try.underlying97 rfl ?hi (fun j u hj => (Below.cell (by repeat (first | (with_reducible first | exact HB.1 | apply bA_ | apply bN_ | apply bD_ | refine bS_ ?_ GE362.1 | refine bS_ ?_ GE364.1) | exact HB.1) : Below w.heap.size w _) (World.block_lt_of_cell? w _ (hx363 j u hj))).trans (hx363 j u hj)) ?_; (case hd => rfl); (case hg => rfl); (case ho => rfl); (case hi => kernel_rfl); (case hp => first | rfl | (go_simp; done) | (go_simp; rfl))) | ((with_reducible refine gate_ (.store 97 (.tmp 5) (.tmp 12)) rfl ?_); refine Go.Proofs.Ytlkofdedkfmaeaa.X.fillL_event ?hg (t := 97) (p := .tmp 5) (v := .tmp 12) ?ho ?hN (g := gb364) (cs := [.slice A363_0 (rd_T97 l0_3 x9_1).f0.f0.length c363_0, .int .i64 (rd_T97 l0_3 x9_1).f0.f1, .bool (rd_T97 l0_3 x9_1).f1, .int .i64 (rd_T97 l0_3 x9_1).f2.f0, .int .i64 (rd_T97 l0_3 x9_1).f2.f1, .int .i64 (rd_T97 l0_3 x9_1).f2.f2, .slice A363_6 (rd_T97 l0_3 x9_1).f2.f3.length c363_6, .bool (rd_T97 l0_3 x9_1).f2.f4, .int .i64 (rd_T97 l0_3 x9_1).f3.f0.f0, .int .i64 (rd_T97 l0_3 x9_1).f3.f0.f1, .int .i64 (rd_T97 l0_3 x9_1).f3.f0.f2, .int .i64 (rd_T97 l0_3 x9_1).f3.f0.f3, .int .i64 (rd_T97 l0_3 x9_1).f3.f1, .int .i64 (rd_T97 l0_3 x9_1).f3.f2, .int .i64 (rd_T97 l0_3 x9_1).f3.f3, .int .i64 (rd_T97 l0_3 x9_1).f3.f4, .int .i64 (rd_T97 l0_3 x9_1).f3.f5, .slice A363_17 (rd_T97 l0_3 x9_1).f4.length c363_17, .int .i64 (rd_T97 l0_3 x9_1).f5, .int .i64 (rd_T97 l0_3 x9_1).f6, .slice A363_20 (rd_T97 l0_3 x9_1).f7.length c363_20, .slice A363_21 (rd_T97 l0_3 x9_1).f8.length c363_21]) ?hp (u := .agg #[.slice A363_0 (rd_T97 l0_3 x9_1).f0.f0.length c363_0, .int .i64 (rd_T97 l0_3 x9_1).f0.f1, .bool (rd_T97 l0_3 x9_1).f1, .int .i64 (rd_T97 l0_3 x9_1).f2.f0, .int .i64 (rd_T97 l0_3 x9_1).f2.f1, .int .i64 (rd_T97 l0_3 x9_1).f2.f2, .slice A363_6 (rd_T97 l0_3 x9_1).f2.f3.length c363_6, .bool (rd_T97 l0_3 x9_1).f2.f4, .int .i64 (rd_T97 l0_3 x9_1).f3.f0.f0, .int .i64 (rd_T97 l0_3 x9_1).f3.f0.f1, .int .i64 (rd_T97 l0_3 x9_1).f3.f0.f2, .int .i64 (rd_T97 l0_3 x9_1).f3.f0.f3, .int .i64 (rd_T97 l0_3 x9_1).f3.f1, .int .i64 (rd_T97 l0_3 x9_1).f3.f2, .int .i64 (rd_T97 l0_3 x9_1).f3.f3, .int .i64 (rd_T97 l0_3 x9_1).f3.f4, .int .i64 (rd_T97 l0_3 x9_1).f3.f5, .slice A363_17 (rd_T97 l0_3 x9_1).f4.length c363_17, .int .i64 (rd_T97 l0_3 x9_1).f5, .int .i64 (rd_T97 l0_3 x9_1).f6, .slice A363_20 (rd_T97 l0_3 x9_1).f7.length c363_20, .slice A363_21 (rd_T97 l0_3 x9_1).f8.length c363_21]) ?hu ?huc BK364.1 ?hsz ?ht ?h1 ?_; (case hg => rfl); (case ho => rfl); (case hN => rfl); (case hp => first | rfl | (go_simp; done) | (go_simp; rfl)); (case hu => first | rfl | (go_simp; done) | (go_simp; rfl)); (case huc => rfl); (case hsz => rfl); (case ht => kernel_rfl); (case h1 => (intro q hq; simp only [List.mem_cons, List.not_mem_nil, or_false] at hq; rcases hq with rfl | rfl | rfl | rfl | rfl | rfl | rfl | rfl | rfl | rfl | rfl | rfl | rfl | rfl | rfl | rfl | rfl | rfl | rfl | rfl | rfl | rfl <;> rfl)); intro wf364 hf1 hf2 hf3; have n0_ := Am_ (Go.Proofs.Ytlkofdedkfmaeaa.X.far_blk BK362.1 NB362_364.1 hf2); have nB_ := Am_ (hf3 _ _ (by repeat (first | (with_reducible first | exact HB.1 | apply bA_ | apply bN_ | apply bD_ | refine bS_ ?_ GE362.1 | refine bS_ ?_ GE364.1) | exact HB.1) : Below w.heap.size w _) GE364.1); clear BK364 HB BK362; have BK362 := n0_; have HB := nB_; have BK364 := Am_ hf1; clear n0_ nB_ hf1 hf2 hf3; have hczf_0 : wf364.cell? ⟨gb364, 0, none⟩ = some (.slice A363_0 (rd_T97 l0_3 x9_1).f0.f0.length c363_0) := kC_ BK364.1 0; have hfzf_0 := kF_ BK364.1 0; have hczf_1 : wf364.cell? ⟨gb364, 1, none⟩ = some (.int .i64 (rd_T97 l0_3 x9_1).f0.f1) := kC_ BK364.1 1; have hfzf_1 := kF_ BK364.1 1; have hczf_2 : wf364.cell? ⟨gb364, 2, none⟩ = some (.bool (rd_T97 l0_3 x9_1).f1) := kC_ BK364.1 2; have hfzf_2 := kF_ BK364.1 2; have hczf_3 : wf364.cell? ⟨gb364, 3, none⟩ = some (.int .i64 (rd_T97 l0_3 x9_1).f2.f0) := kC_ BK364.1 3; have hfzf_3 := kF_ BK364.1 3; have hczf_4 : wf364.cell? ⟨gb364, 4, none⟩ = some (.int .i64 (rd_T97 l0_3 x9_1).f2.f1) := kC_ BK364.1 4; have hfzf_4 := kF_ BK364.1 4; have hczf_5 : wf364.cell? ⟨gb364, 5, none⟩ = some (.int .i64 (rd_T97 l0_3 x9_1).f2.f2) := kC_ BK364.1 5; have hfzf_5 := kF_ BK364.1 5; have hczf_6 : wf364.cell? ⟨gb364, 6, none⟩ = some (.slice A363_6 (rd_T97 l0_3 x9_1).f2.f3.length c363_6) := kC_ BK364.1 6; have hfzf_6 := kF_ BK364.1 6; have hczf_7 : wf364.cell? ⟨gb364, 7, none⟩ = some (.bool (rd_T97 l0_3 x9_1).f2.f4) := kC_ BK364.1 7; have hfzf_7 := kF_ BK364.1 7; have hczf_8 : wf364.cell? ⟨gb364, 8, none⟩ = some (.int .i64 (rd_T97 l0_3 x9_1).f3.f0.f0) := kC_ BK364.1 8; have hfzf_8 := kF_ BK364.1 8; have hczf_9 : wf364.cell? ⟨gb364, 9, none⟩ = some (.int .i64 (rd_T97 l0_3 x9_1).f3.f0.f1) := kC_ BK364.1 9; have hfzf_9 := kF_ BK364.1 9; have hczf_10 : wf364.cell? ⟨gb364, 10, none⟩ = some (.int .i64 (rd_T97 l0_3 x9_1).f3.f0.f2) := kC_ BK364.1 10; have hfzf_10 := kF_ BK364.1 10; have hczf_11 : wf364.cell? ⟨gb364, 11, none⟩ = some (.int .i64 (rd_T97 l0_3 x9_1).f3.f0.f3) := kC_ BK364.1 11; have hfzf_11 := kF_ BK364.1 11; have hczf_12 : wf364.cell? ⟨gb364, 12, none⟩ = some (.int .i64 (rd_T97 l0_3 x9_1).f3.f1) := kC_ BK364.1 12; have hfzf_12 := kF_ BK364.1 12; have hczf_13 : wf364.cell? ⟨gb364, 13, none⟩ = some (.int .i64 (rd_T97 l0_3 x9_1).f3.f2) := kC_ BK364.1 13; have hfzf_13 := kF_ BK364.1 13; have hczf_14 : wf364.cell? ⟨gb364, 14, none⟩ = some (.int .i64 (rd_T97 l0_3 x9_1).f3.f3) := kC_ BK364.1 14; have hfzf_14 := kF_ BK364.1 14; have hczf_15 : wf364.cell? ⟨gb364, 15, none⟩ = some (.int .i64 (rd_T97 l0_3 x9_1).f3.f4) := kC_ BK364.1 15; have hfzf_15 := kF_ BK364.1 15; have hczf_16 : wf364.cell? ⟨gb364, 16, none⟩ = some (.int .i64 (rd_T97 l0_3 x9_1).f3.f5) := kC_ BK364.1 16; have hfzf_16 := kF_ BK364.1 16; have hczf_17 : wf364.cell? ⟨gb364, 17, none⟩ = some (.slice A363_17 (rd_T97 l0_3 x9_1).f4.length c363_17) := kC_ BK364.1 17; have hfzf_17 := kF_ BK364.1 17; have hczf_18 : wf364.cell? ⟨gb364, 18, none⟩ = some (.int .i64 (rd_T97 l0_3 x9_1).f5) := kC_ BK364.1 18; have hfzf_18 := kF_ BK364.1 18; have hczf_19 : wf364.cell? ⟨gb364, 19, none⟩ = some (.int .i64 (rd_T97 l0_3 x9_1).f6) := kC_ BK364.1 19; have hfzf_19 := kF_ BK364.1 19; have hczf_20 : wf364.cell? ⟨gb364, 20, none⟩ = some (.slice A363_20 (rd_T97 l0_3 x9_1).f7.length c363_20) := kC_ BK364.1 20; have hfzf_20 := kF_ BK364.1 20; have hczf_21 : wf364.cell? ⟨gb364, 21, none⟩ = some (.slice A363_21 (rd_T97 l0_3 x9_1).f8.length c363_21) := kC_ BK364.1 21; have hfzf_21 := kF_ BK364.1 21) | ((with_reducible refine gate_dst (N := 5) rfl ?_); refine box_event ?hg (N := 5) ?hd (cs := #[.slice none 0 0, .int .i64 0, .bool false, .int .i64 0, .int .i64 0, .int .i64 0, .slice none 0 0, .bool false, .int .i64 0, .int .i64 0, .int .i64 0, .int .i64 0, .int .i64 0, .int .i64 0, .int .i64 0, .int .i64 0, .int .i64 0, .slice none 0 0, .int .i64 0, .int .i64 0, .slice none 0 0, .slice none 0 0]) (t := 97) ?hr ?_; (case hd => rfl); (case hg => rfl); (case hr => first | (go_simp; done) | (go_simp; rfl)); intro gb364 hg w8 hbox hb; have n0_ := Am_ (kB_ (g := gb362) (by (with_reducible repeat (first | refine kN_ ?_ _ | refine kD_ ?_ | refine kA_ ?_ _)); exact BK362.1) hb); have n1_ := Am_ (bT_ (by repeat (first | (with_reducible first | exact HB.1 | apply bA_ | apply bN_ | apply bD_ | refine bS_ ?_ GE362.1) | exact HB.1)) hb); have n2_ := Am_ (hbox); have n3_ := Am_ ((by rw [hg]; exact (bZ_ (by repeat (first | (with_reducible first | exact HB.1 | apply bA_ | apply bN_ | apply bD_ | refine bS_ ?_ GE362.1) | exact HB.1))) : w.heap.size ≤ gb364)); have n4_ := Am_ ((by rw [hg]; exact (bZ_ (by repeat (first | (with_reducible first | exact HB.1 | apply bA_ | apply bN_ | apply bD_ | refine bS_ ?_ GE362.1) | exact HB.1))) : w.heap.size ≤ gb364)); have n5_ := Am_ ((by rw [hg]; exact Nat.ne_of_lt (blk_lt (g := gb362) (by (with_reducible repeat (first | refine kN_ ?_ _ | refine kD_ ?_ | refine kA_ ?_ _)); exact BK362.1)) : gb362 ≠ gb364)); have n6_ := Am_ ((by rw [hg]; exact Nat.ne_of_gt (blk_lt (g := gb362) (by (with_reducible repeat (first | refine kN_ ?_ _ | refine kD_ ?_ | refine kA_ ?_ _)); exact BK362.1)) : gb364 ≠ gb362)); clear BK362 HB; have BK362 := n0_; have HB := n1_; have BK364 := n2_; have GW364 := n3_; have GE364 := n4_; have NB362_364 := n5_; have NB364_362 := n6_; clear n0_ n1_ n2_ n3_ n4_ n5_ n6_ hb hbox hg; have hnb9 := NB364_362.1; have hnc9 := NB362_364.1; have hcz10_0 : w8.cell? ⟨gb364, 0, none⟩ = some (.slice none 0 0) := kC_ BK364.1 0; have hcz10_1 : w8.cell? ⟨gb364, 1, none⟩ = some (.int .i64 0) := kC_ BK364.1 1; have hcz10_2 : w8.cell? ⟨gb364, 2, none⟩ = some (.bool false) := kC_ BK364.1 2; have hcz10_3 : w8.cell? ⟨gb364, 3, none⟩ = some (.int .i64 0) := kC_ BK364.1 3; have hcz10_4 : w8.cell? ⟨gb364, 4, none⟩ = some (.int .i64 0) := kC_ BK364.1 4; have hcz10_5 : w8.cell? ⟨gb364, 5, none⟩ = some (.int .i64 0) := kC_ BK364.1 5; have hcz10_6 : w8.cell? ⟨gb364, 6, none⟩ = some (.slice none 0 0) := kC_ BK364.1 6; have hcz10_7 : w8.cell? ⟨gb364, 7, none⟩ = some (.bool false) := kC_ BK364.1 7; have hcz10_8 : w8.cell? ⟨gb364, 8, none⟩ = some (.int .i64 0) := kC_ BK364.1 8; have hcz10_9 : w8.cell? ⟨gb364, 9, none⟩ = some (.int .i64 0) := kC_ BK364.1 9; have hcz10_10 : w8.cell? ⟨gb364, 10, none⟩ = some (.int .i64 0) := kC_ BK364.1 10; have hcz10_11 : w8.cell? ⟨gb364, 11, none⟩ = some (.int .i64 0) := kC_ BK364.1 11; have hcz10_12 : w8.cell? ⟨gb364, 12, none⟩ = some (.int .i64 0) := kC_ BK364.1 12; have hcz10_13 : w8.cell? ⟨gb364, 13, none⟩ = some (.int .i64 0) := kC_ BK364.1 13; have hcz10_14 : w8.cell? ⟨gb364, 14, none⟩ = some (.int .i64 0) := kC_ BK364.1 14; have hcz10_15 : w8.cell? ⟨gb364, 15, none⟩ = some (.int .i64 0) := kC_ BK364.1 15; have hcz10_16 : w8.cell? ⟨gb364, 16, none⟩ = some (.int .i64 0) := kC_ BK364.1 16; have hcz10_17 : w8.cell? ⟨gb364, 17, none⟩ = some (.slice none 0 0) := kC_ BK364.1 17; have hcz10_18 : w8.cell? ⟨gb364, 18, none⟩ = some (.int .i64 0) := kC_ BK364.1 18; have hcz10_19 : w8.cell? ⟨gb364, 19, none⟩ = some (.int .i64 0) := kC_ BK364.1 19; have hcz10_20 : w8.cell? ⟨gb364, 20, none⟩ = some (.slice none 0 0) := kC_ BK364.1 20; have hcz10_21 : w8.cell? ⟨gb364, 21, none⟩ = some (.slice none 0 0) := kC_ BK364.1 21; have hfz10_0 := kF_ BK364.1 0; have hfz10_1 := kF_ BK364.1 1; have hfz10_2 := kF_ BK364.1 2; have hfz10_3 := kF_ BK364.1 3; have hfz10_4 := kF_ BK364.1 4; have hfz10_5 := kF_ BK364.1 5; have hfz10_6 := kF_ BK364.1 6; have hfz10_7 := kF_ BK364.1 7; have hfz10_8 := kF_ BK364.1 8; have hfz10_9 := kF_ BK364.1 9; have hfz10_10 := kF_ BK364.1 10; have hfz10_11 := kF_ BK364.1 11; have hfz10_12 := kF_ BK364.1 12; have hfz10_13 := kF_ BK364.1 13; have hfz10_14 := kF_ BK364.1 14; have hfz10_15 := kF_ BK364.1 15; have hfz10_16 := kF_ BK364.1 16; have hfz10_17 := kF_ BK364.1 17; have hfz10_18 := kF_ BK364.1 18; have hfz10_19 := kF_ BK364.1 19; have hfz10_20 := kF_ BK364.1 20; have hfz10_21 := kF_ BK364.1 21) | (go_at_call 67; (with_reducible refine (impl_boolToInt.calls ((rd_T97 l0_3 x9_1).f1) t365 _ A7.1).mono ?_); rintro e w' ⟨rfl, ⟨nd, rfl⟩⟩; (try first | exact ⟨rfl, _, World.drewN_drewN _ _ _⟩ | exact ⟨rfl, _, Eq.trans (World.drewN_drewN _ _ _) (congrArg (World.drewN _) (Nat.add_assoc _ _ _))⟩))); try go_wp2_with (first | ((with_reducible refine gate_dst (N := 12) rfl ?_); refine Go.Proofs.Ytlkofdedkfmaeaa.X.loadL_event ?hg (N := 12) ?hd (t := 97) (p := .tmp 11) ?ho ?hp Try.underlying97 rfl ?hi (fun j u hj => (Below.cell (by repeat (first | (with_reducible first | exact HB.1 | apply bA_ | apply bN_ | apply bD_ | refine bS_ ?_ GE362.1 | refine bS_ ?_ GE364.1) | exact HB.1) : Below w.heap.size w _) (World.block_lt_of_cell? w _ (hx363 j u hj))).trans (hx363 j u hj)) ?_; (case hd => rfl); (case hg => rfl); (case ho => rfl); (case hi => kernel_rfl); (case hp => first | rfl | (go_simp; done) | (go_simp; rfl))) | ((with_reducible refine gate_ (.store 97 (.tmp 5) (.tmp 12)) rfl ?_); refine Go.Proofs.Ytlkofdedkfmaeaa.X.fillL_event ?hg (t := 97) (p := .tmp 5) (v := .tmp 12) ?ho ?hN (g := gb364) (cs := [.slice A363_0 (rd_T97 l0_3 x9_1).f0.f0.length c363_0, .int .i64 (rd_T97 l0_3 x9_1).f0.f1, .bool (rd_T97 l0_3 x9_1).f1, .int .i64 (rd_T97 l0_3 x9_1).f2.f0, .int .i64 (rd_T97 l0_3 x9_1).f2.f1, .int .i64 (rd_T97 l0_3 x9_1).f2.f2, .slice A363_6 (rd_T97 l0_3 x9_1).f2.f3.length c363_6, .bool (rd_T97 l0_3 x9_1).f2.f4, .int .i64 (rd_T97 l0_3 x9_1).f3.f0.f0, .int .i64 (rd_T97 l0_3 x9_1).f3.f0.f1, .int .i64 (rd_T97 l0_3 x9_1).f3.f0.f2, .int .i64 (rd_T97 l0_3 x9_1).f3.f0.f3, .int .i64 (rd_T97 l0_3 x9_1).f3.f1, .int .i64 (rd_T97 l0_3 x9_1).f3.f2, .int .i64 (rd_T97 l0_3 x9_1).f3.f3, .int .i64 (rd_T97 l0_3 x9_1).f3.f4, .int .i64 (rd_T97 l0_3 x9_1).f3.f5, .slice A363_17 (rd_T97 l0_3 x9_1).f4.length c363_17, .int .i64 (rd_T97 l0_3 x9_1).f5, .int .i64 (rd_T97 l0_3 x9_1).f6, .slice A363_20 (rd_T97 l0_3 x9_1).f7.length c363_20, .slice A363_21 (rd_T97 l0_3 x9_1).f8.length c363_21]) ?hp (u := .agg #[.slice A363_0 (rd_T97 l0_3 x9_1).f0.f0.length c363_0, .int .i64 (rd_T97 l0_3 x9_1).f0.f1, .bool (rd_T97 l0_3 x9_1).f1, .int .i64 (rd_T97 l0_3 x9_1).f2.f0, .int .i64 (rd_T97 l0_3 x9_1).f2.f1, .int .i64 (rd_T97 l0_3 x9_1).f2.f2, .slice A363_6 (rd_T97 l0_3 x9_1).f2.f3.length c363_6, .bool (rd_T97 l0_3 x9_1).f2.f4, .int .i64 (rd_T97 l0_3 x9_1).f3.f0.f0, .int .i64 (rd_T97 l0_3 x9_1).f3.f0.f1, .int .i64 (rd_T97 l0_3 x9_1).f3.f0.f2, .int .i64 (rd_T97 l0_3 x9_1).f3.f0.f3, .int .i64 (rd_T97 l0_3 x9_1).f3.f1, .int .i64 (rd_T97 l0_3 x9_1).f3.f2, .int .i64 (rd_T97 l0_3 x9_1).f3.f3, .int .i64 (rd_T97 l0_3 x9_1).f3.f4, .int .i64 (rd_T97 l0_3 x9_1).f3.f5, .slice A363_17 (rd_T97 l0_3 x9_1).f4.length c363_17, .int .i64 (rd_T97 l0_3 x9_1).f5, .int .i64 (rd_T97 l0_3 x9_1).f6, .slice A363_20 (rd_T97 l0_3 x9_1).f7.length c363_20, .slice A363_21 (rd_T97 l0_3 x9_1).f8.length c363_21]) ?hu ?huc BK364.1 ?hsz ?ht ?h1 ?_; (case hg => rfl); (case ho => rfl); (case hN => rfl); (case hp => first | rfl | (go_simp; done) | (go_simp; rfl)); (case hu => first | rfl | (go_simp; done) | (go_simp; rfl)); (case huc => rfl); (case hsz => rfl); (case ht => kernel_rfl); (case h1 => (intro q hq; simp only [List.mem_cons, List.not_mem_nil, or_false] at hq; rcases hq with rfl | rfl | rfl | rfl | rfl | rfl | rfl | rfl | rfl | rfl | rfl | rfl | rfl | rfl | rfl | rfl | rfl | rfl | rfl | rfl | rfl | rfl <;> rfl)); intro wf364 hf1 hf2 hf3; have n0_ := Am_ (Go.Proofs.Ytlkofdedkfmaeaa.X.far_blk BK362.1 NB362_364.1 hf2); have nB_ := Am_ (hf3 _ _ (by repeat (first | (with_reducible first | exact HB.1 | apply bA_ | apply bN_ | apply bD_ | refine bS_ ?_ GE362.1 | refine bS_ ?_ GE364.1) | exact HB.1) : Below w.heap.size w _) GE364.1); clear BK364 HB BK362; have BK362 := n0_; have HB := nB_; have BK364 := Am_ hf1; clear n0_ nB_ hf1 hf2 hf3; have hczf_0 : wf364.cell? ⟨gb364, 0, none⟩ = some (.slice A363_0 (rd_T97 l0_3 x9_1).f0.f0.length c363_0) := kC_ BK364.1 0; have hfzf_0 := kF_ BK364.1 0; have hczf_1 : wf364.cell? ⟨gb364, 1, none⟩ = some (.int .i64 (rd_T97 l0_3 x9_1).f0.f1) := kC_ BK364.1 1; have hfzf_1 := kF_ BK364.1 1; have hczf_2 : wf364.cell? ⟨gb364, 2, none⟩ = some (.bool (rd_T97 l0_3 x9_1).f1) := kC_ BK364.1 2; have hfzf_2 := kF_ BK364.1 2; have hczf_3 : wf364.cell? ⟨gb364, 3, none⟩ = some (.int .i64 (rd_T97 l0_3 x9_1).f2.f0) := kC_ BK364.1 3; have hfzf_3 := kF_ BK364.1 3; have hczf_4 : wf364.cell? ⟨gb364, 4, none⟩ = some (.int .i64 (rd_T97 l0_3 x9_1).f2.f1) := kC_ BK364.1 4; have hfzf_4 := kF_ BK364.1 4; have hczf_5 : wf364.cell? ⟨gb364, 5, none⟩ = some (.int .i64 (rd_T97 l0_3 x9_1).f2.f2) := kC_ BK364.1 5; have hfzf_5 := kF_ BK364.1 5; have hczf_6 : wf364.cell? ⟨gb364, 6, none⟩ = some (.slice A363_6 (rd_T97 l0_3 x9_1).f2.f3.length c363_6) := kC_ BK364.1 6; have hfzf_6 := kF_ BK364.1 6; have hczf_7 : wf364.cell? ⟨gb364, 7, none⟩ = some (.bool (rd_T97 l0_3 x9_1).f2.f4) := kC_ BK364.1 7; have hfzf_7 := kF_ BK364.1 7; have hczf_8 : wf364.cell? ⟨gb364, 8, none⟩ = some (.int .i64 (rd_T97 l0_3 x9_1).f3.f0.f0) := kC_ BK364.1 8; have hfzf_8 := kF_ BK364.1 8; have hczf_9 : wf364.cell? ⟨gb364, 9, none⟩ = some (.int .i64 (rd_T97 l0_3 x9_1).f3.f0.f1) := kC_ BK364.1 9; have hfzf_9 := kF_ BK364.1 9; have hczf_10 : wf364.cell? ⟨gb364, 10, none⟩ = some (.int .i64 (rd_T97 l0_3 x9_1).f3.f0.f2) := kC_ BK364.1 10; have hfzf_10 := kF_ BK364.1 10; have hczf_11 : wf364.cell? ⟨gb364, 11, none⟩ = some (.int .i64 (rd_T97 l0_3 x9_1).f3.f0.f3) := kC_ BK364.1 11; have hfzf_11 := kF_ BK364.1 11; have hczf_12 : wf364.cell? ⟨gb364, 12, none⟩ = some (.int .i64 (rd_T97 l0_3 x9_1).f3.f1) := kC_ BK364.1 12; have hfzf_12 := kF_ BK364.1 12; have hczf_13 : wf364.cell? ⟨gb364, 13, none⟩ = some (.int .i64 (rd_T97 l0_3 x9_1).f3.f2) := kC_ BK364.1 13; have hfzf_13 := kF_ BK364.1 13; have hczf_14 : wf364.cell? ⟨gb364, 14, none⟩ = some (.int .i64 (rd_T97 l0_3 x9_1).f3.f3) := kC_ BK364.1 14; have hfzf_14 := kF_ BK364.1 14; have hczf_15 : wf364.cell? ⟨gb364, 15, none⟩ = some (.int .i64 (rd_T97 l0_3 x9_1).f3.f4) := kC_ BK364.1 15; have hfzf_15 := kF_ BK364.1 15; have hczf_16 : wf364.cell? ⟨gb364, 16, none⟩ = some (.int .i64 (rd_T97 l0_3 x9_1).f3.f5) := kC_ BK364.1 16; have hfzf_16 := kF_ BK364.1 16; have hczf_17 : wf364.cell? ⟨gb364, 17, none⟩ = some (.slice A363_17 (rd_T97 l0_3 x9_1).f4.length c363_17) := kC_ BK364.1 17; have hfzf_17 := kF_ BK364.1 17; have hczf_18 : wf364.cell? ⟨gb364, 18, none⟩ = some (.int .i64 (rd_T97 l0_3 x9_1).f5) := kC_ BK364.1 18; have hfzf_18 := kF_ BK364.1 18; have hczf_19 : wf364.cell? ⟨gb364, 19, none⟩ = some (.int .i64 (rd_T97 l0_3 x9_1).f6) := kC_ BK364.1 19; have hfzf_19 := kF_ BK364.1 19; have hczf_20 : wf364.cell? ⟨gb364, 20, none⟩ = some (.slice A363_20 (rd_T97 l0_3 x9_1).f7.length c363_20) := kC_ BK364.1 20; have hfzf_20 := kF_ BK364.1 20; have hczf_21 : wf364.cell? ⟨gb364, 21, none⟩ = some (.slice A363_21 (rd_T97 l0_3 x9_1).f8.length c363_21) := kC_ BK364.1 21; have hfzf_21 := kF_ BK364.1 21) | ((with_reducible refine gate_dst (N := 5) rfl ?_); refine box_event ?hg (N := 5) ?hd (cs := #[.slice none 0 0, .int .i64 0, .bool false, .int .i64 0, .int .i64 0, .int .i64 0, .slice none 0 0, .bool false, .int .i64 0, .int .i64 0, .int .i64 0, .int .i64 0, .int .i64 0, .int .i64 0, .int .i64 0, .int .i64 0, .int .i64 0, .slice none 0 0, .int .i64 0, .int .i64 0, .slice none 0 0, .slice none 0 0]) (t := 97) ?hr ?_; (case hd => rfl); (case hg => rfl); (case hr => first | (go_simp; done) | (go_simp; rfl)); intro gb364 hg w8 hbox hb; have n0_ := Am_ (kB_ (g := gb362) (by (with_reducible repeat (first | refine kN_ ?_ _ | refine kD_ ?_ | refine kA_ ?_ _)); exact BK362.1) hb); have n1_ := Am_ (bT_ (by repeat (first | (with_reducible first | exact HB.1 | apply bA_ | apply bN_ | apply bD_ | refine bS_ ?_ GE362.1) | exact HB.1)) hb); have n2_ := Am_ (hbox); have n3_ := Am_ ((by rw [hg]; exact (bZ_ (by repeat (first | (with_reducible first | exact HB.1 | apply bA_ | apply bN_ | apply bD_ | refine bS_ ?_ GE362.1) | exact HB.1))) : w.heap.size ≤ gb364)); have n4_ := Am_ ((by rw [hg]; exact (bZ_ (by repeat (first | (with_reducible first | exact HB.1 | apply bA_ | apply bN_ | apply bD_ | refine bS_ ?_ GE362.1) | exact HB.1))) : w.heap.size ≤ gb364)); have n5_ := Am_ ((by rw [hg]; exact Nat.ne_of_lt (blk_lt (g := gb362) (by (with_reducible repeat (first | refine kN_ ?_ _ | refine kD_ ?_ | refine kA_ ?_ _)); exact BK362.1)) : gb362 ≠ gb364)); have n6_ := Am_ ((by rw [hg]; exact Nat.ne_of_gt (blk_lt (g := gb362) (by (with_reducible repeat (first | refine kN_ ?_ _ | refine kD_ ?_ | refine kA_ ?_ _)); exact BK362.1)) : gb364 ≠ gb362)); clear BK362 HB; have BK362 := n0_; have HB := n1_; have BK364 := n2_; have GW364 := n3_; have GE364 := n4_; have NB362_364 := n5_; have NB364_362 := n6_; clear n0_ n1_ n2_ n3_ n4_ n5_ n6_ hb hbox hg; have hnb9 := NB364_362.1; have hnc9 := NB362_364.1; have hcz10_0 : w8.cell? ⟨gb364, 0, none⟩ = some (.slice none 0 0) := kC_ BK364.1 0; have hcz10_1 : w8.cell? ⟨gb364, 1, none⟩ = some (.int .i64 0) := kC_ BK364.1 1; have hcz10_2 : w8.cell? ⟨gb364, 2, none⟩ = some (.bool false) := kC_ BK364.1 2; have hcz10_3 : w8.cell? ⟨gb364, 3, none⟩ = some (.int .i64 0) := kC_ BK364.1 3; have hcz10_4 : w8.cell? ⟨gb364, 4, none⟩ = some (.int .i64 0) := kC_ BK364.1 4; have hcz10_5 : w8.cell? ⟨gb364, 5, none⟩ = some (.int .i64 0) := kC_ BK364.1 5; have hcz10_6 : w8.cell? ⟨gb364, 6, none⟩ = some (.slice none 0 0) := kC_ BK364.1 6; have hcz10_7 : w8.cell? ⟨gb364, 7, none⟩ = some (.bool false) := kC_ BK364.1 7; have hcz10_8 : w8.cell? ⟨gb364, 8, none⟩ = some (.int .i64 0) := kC_ BK364.1 8; have hcz10_9 : w8.cell? ⟨gb364, 9, none⟩ = some (.int .i64 0) := kC_ BK364.1 9; have hcz10_10 : w8.cell? ⟨gb364, 10, none⟩ = some (.int .i64 0) := kC_ BK364.1 10; have hcz10_11 : w8.cell? ⟨gb364, 11, none⟩ = some (.int .i64 0) := kC_ BK364.1 11; have hcz10_12 : w8.cell? ⟨gb364, 12, none⟩ = some (.int .i64 0) := kC_ BK364.1 12; have hcz10_13 : w8.cell? ⟨gb364, 13, none⟩ = some (.int .i64 0) := kC_ BK364.1 13; have hcz10_14 : w8.cell? ⟨gb364, 14, none⟩ = some (.int .i64 0) := kC_ BK364.1 14; have hcz10_15 : w8.cell? ⟨gb364, 15, none⟩ = some (.int .i64 0) := kC_ BK364.1 15; have hcz10_16 : w8.cell? ⟨gb364, 16, none⟩ = some (.int .i64 0) := kC_ BK364.1 16; have hcz10_17 : w8.cell? ⟨gb364, 17, none⟩ = some (.slice none 0 0) := kC_ BK364.1 17; have hcz10_18 : w8.cell? ⟨gb364, 18, none⟩ = some (.int .i64 0) := kC_ BK364.1 18; have hcz10_19 : w8.cell? ⟨gb364, 19, none⟩ = some (.int .i64 0) := kC_ BK364.1 19; have hcz10_20 : w8.cell? ⟨gb364, 20, none⟩ = some (.slice none 0 0) := kC_ BK364.1 20; have hcz10_21 : w8.cell? ⟨gb364, 21, none⟩ = some (.slice none 0 0) := kC_ BK364.1 21; have hfz10_0 := kF_ BK364.1 0; have hfz10_1 := kF_ BK364.1 1; have hfz10_2 := kF_ BK364.1 2; have hfz10_3 := kF_ BK364.1 3; have hfz10_4 := kF_ BK364.1 4; have hfz10_5 := kF_ BK364.1 5; have hfz10_6 := kF_ BK364.1 6; have hfz10_7 := kF_ BK364.1 7; have hfz10_8 := kF_ BK364.1 8; have hfz10_9 := kF_ BK364.1 9; have hfz10_10 := kF_ BK364.1 10; have hfz10_11 := kF_ BK364.1 11; have hfz10_12 := kF_ BK364.1 12; have hfz10_13 := kF_ BK364.1 13; have hfz10_14 := kF_ BK364.1 14; have hfz10_15 := kF_ BK364.1 15; have hfz10_16 := kF_ BK364.1 16; have hfz10_17 := kF_ BK364.1 17; have hfz10_18 := kF_ BK364.1 18; have hfz10_19 := kF_ BK364.1 19; have hfz10_20 := kF_ BK364.1 20; have hfz10_21 := kF_ BK364.1 21) | (go_at_call 67; (with_reducible refine (impl_boolToInt.calls ((rd_T97 l0_3 x9_1).f1) t365 _ A7.1).mono ?_); rintro e w' ⟨rfl, ⟨nd, rfl⟩⟩; (try first | exact ⟨rfl, _, World.drewN_drewN _ _ _⟩ | exact ⟨rfl, _, Eq.trans (World.drewN_drewN _ _ _) (congrArg (World.drewN _) (Nat.add_assoc _ _ _))⟩))))
      go_roundg k1
      case measure => have := HK1.1; omega
      case rel => exact ⟨(wrap64 (x3_1 + (wrap64 ((((rd_T97 l0_3 x9_1).f0.f0).length : Int) + t365)))), (wrap64 (x9_1 + 1)), (by first | rfl | (simp [i64_w]; done) | (simp; done) | (simp [*]; done)), (by first | rfl | (simp [i64_w]; done) | (simp; done) | (simp [*]; done)), H', ⟨by have := HK1.1; omega⟩, ⟨by (with_reducible repeat (first | refine kN_ ?_ _ | refine kD_ ?_ | refine kA_ ?_ _)); exact BK362.1⟩, ⟨by repeat (first | (with_reducible first | exact HB.1 | apply bA_ | apply bN_ | apply bD_ | refine bS_ ?_ GE362.1 | refine bS_ ?_ GE364.1) | exact HB.1)⟩⟩
     ·rw [if_neg c6] at H
      exact absurd H (by simp)
    ·rw [if_neg c5] at H
     exact absurd H (by simp)
   ·rw [if_neg c4] at H
    have c4b0 : decide (x9_1 < (l0_3.length : Int)) = false := decide_eq_false c4
    clear c4
    obtain rfl := Option.some.inj H
    go_wp2
    repeat (go_quiet (fail); try go_wp2)
    go_ret
    exact ⟨by first | rfl | (simp [errW_none, errW_some] <;> rfl) | (simp [*, errW_none, errW_some] <;> rfl), by repeat (first | (with_reducible first | exact HB.1 | apply bA_ | apply bN_ | apply bD_ | refine bS_ ?_ GE362.1) | exact HB.1)⟩

/-! ### impl_SlotBound: function 27 -/
def impl_SlotBound.f (k : Nat) (l0_0 : List Int) (a0_1 : Int) (a0_2 : Int) (l0_3 : List (S97)) (a0_4 : Int) (a0_5 : Int) (a0_6 : Int) : Option (Int) := (impl_UnfinishedFrames.f k l0_0 a0_1 a0_2 l0_3 a0_4 a0_5 a0_6).bind fun t367 => (some (wrap64 ((wrap64 ((wrap64 (t367 * 8)) * 23)) + 1)))
theorem impl_SlotBound.mono : ∀ a0 a1 a2 a3 a4 a5 a6 k, LeO (impl_SlotBound.f k a0 a1 a2 a3 a4 a5 a6) (impl_SlotBound.f (k + 1) a0 a1 a2 a3 a4 a5 a6) := by
 intro a0 a1 a2 a3 a4 a5 a6 k
 unfold impl_SlotBound.f
 repeat' first
   | (with_reducible exact impl_UnfinishedFrames.mono _ _ _ _ _ _ _ _)
   | (with_reducible exact LeO.refl _)
   | (with_reducible exact LeO.none _)
   | (with_reducible refine LeO.ite ?_ ?_)
   | (with_reducible refine LeO.bind ?_ (fun _ => ?_))
   | exact impl_UnfinishedFrames.mono _ _ _ _ _ _ _ _
   | exact LeO.none _
   | refine LeO.ite ?_ ?_
   | refine LeO.bind ?_ (fun _ => ?_)
set_option maxHeartbeats 8000000 in
set_option maxRecDepth 100000 in
theorem impl_SlotBound.calls (k : Nat) (A0_0 : Option Addr) (c0_0 : Nat) (l0_0 : List Int) (a0_1 : Int) (a0_2 : Int) (A0_3 : Option Addr) (c0_3 : Nat) (l0_3 : List (S97)) (a0_4 : Int) (a0_5 : Int) (a0_6 : Int) (r : Int) (w : World) (hr0_0 : Kd.C (Kd.int .i64) w A0_0 l0_0.length l0_0) (hc0_0 : l0_0.length ≤ c0_0) (hr0_3 : Kd.C k97 w A0_3 l0_3.length l0_3) (hc0_3 : l0_3.length ≤ c0_3) (h : impl_SlotBound.f k l0_0 a0_1 a0_2 l0_3 a0_4 a0_5 a0_6 = some r) :
  Calls Try.prog 27 #[.agg #[.slice A0_0 l0_0.length c0_0, .int .i64 a0_1, .int .i64 a0_2, .slice A0_3 l0_3.length c0_3, .int .i64 a0_4, .int .i64 a0_5, .int .i64 a0_6]] w fun e w' => e = .returned (.int .i64 r) ∧ Below w.heap.size w w' := by
 have hu33 := Try.underlying33
 have HR0_0 := Am_ hr0_0
 have HC0_0 := Am_ hc0_0
 clear hr0_0 hc0_0
 have HR0_3 := Am_ hr0_3
 have HC0_3 := Am_ hc0_3
 clear hr0_3 hc0_3
 have HB := Am_ (Below.refl w.heap.size w)
 have H : ((impl_UnfinishedFrames.f k l0_0 a0_1 a0_2 l0_3 a0_4 a0_5 a0_6).bind fun t367 => (some (wrap64 ((wrap64 ((wrap64 (t367 * 8)) * 23)) + 1)))) = some r := h
 clear h
 replace H := Option.bind_eq_some_iff.mp H
 obtain ⟨t367, A20, H⟩ := H
 replace H : (some (wrap64 ((wrap64 ((wrap64 (t367 * 8)) * 23)) + 1))) = some r := H
 have A2 := Am_ A20
 clear A20
 obtain rfl := Option.some.inj H
 go_enter Try.func27, Try.ntmps27
 go_wp2_with (first | ((with_reducible refine gate_dst (N := 1) rfl ?_); refine box_event ?hg (N := 1) ?hd (cs := #[.slice A0_0 l0_0.length c0_0, .int .i64 a0_1, .int .i64 a0_2, .slice A0_3 l0_3.length c0_3, .int .i64 a0_4, .int .i64 a0_5, .int .i64 a0_6]) (t := 33) ?hr ?_; (case hd => rfl); (case hg => rfl); (case hr => first | (go_simp; done) | (go_simp; rfl)); intro gb366 hg w3 hbox hb; have n0_ := Am_ (bT_ (by repeat (first | (with_reducible first | exact HB.1 | apply bA_ | apply bN_ | apply bD_) | exact HB.1)) hb); have n1_ := Am_ (hbox); have n2_ := Am_ ((by rw [hg]; exact (bZ_ (by repeat (first | (with_reducible first | exact HB.1 | apply bA_ | apply bN_ | apply bD_) | exact HB.1))) : w.heap.size ≤ gb366)); have n3_ := Am_ ((by rw [hg]; exact (bZ_ (by repeat (first | (with_reducible first | exact HB.1 | apply bA_ | apply bN_ | apply bD_) | exact HB.1))) : w.heap.size ≤ gb366)); clear HB; have HB := n0_; have BK366 := n1_; have GW366 := n2_; have GE366 := n3_; clear n0_ n1_ n2_ n3_ hb hbox hg; have hcz4_0 : w3.cell? ⟨gb366, 0, none⟩ = some (.slice A0_0 l0_0.length c0_0) := kC_ BK366.1 0; have hcz4_1 : w3.cell? ⟨gb366, 1, none⟩ = some (.int .i64 a0_1) := kC_ BK366.1 1; have hcz4_2 : w3.cell? ⟨gb366, 2, none⟩ = some (.int .i64 a0_2) := kC_ BK366.1 2; have hcz4_3 : w3.cell? ⟨gb366, 3, none⟩ = some (.slice A0_3 l0_3.length c0_3) := kC_ BK366.1 3; have hcz4_4 : w3.cell? ⟨gb366, 4, none⟩ = some (.int .i64 a0_4) := kC_ BK366.1 4; have hcz4_5 : w3.cell? ⟨gb366, 5, none⟩ = some (.int .i64 a0_5) := kC_ BK366.1 5; have hcz4_6 : w3.cell? ⟨gb366, 6, none⟩ = some (.int .i64 a0_6) := kC_ BK366.1 6; have hfz4_0 := kF_ BK366.1 0; have hfz4_1 := kF_ BK366.1 1; have hfz4_2 := kF_ BK366.1 2; have hfz4_3 := kF_ BK366.1 3; have hfz4_4 := kF_ BK366.1 4; have hfz4_5 := kF_ BK366.1 5; have hfz4_6 := kF_ BK366.1 6) | ((with_reducible refine gate_callee (f := 18) rfl ?_); refine goesL_ (some 4) rfl rfl Try.func18 (by kernel_rfl) rfl #[.agg #[.slice A0_0 l0_0.length c0_0, .int .i64 a0_1, .int .i64 a0_2, .slice A0_3 l0_3.length c0_3, .int .i64 a0_4, .int .i64 a0_5, .int .i64 a0_6]] rfl (by (try simp only [List.map_toArray, List.map_cons, List.map_nil]); first | done | rfl | (simp only [List.length_drop, List.length_take]; rfl)) ?_; (with_reducible refine (impl_UnfinishedFrames.calls k _ _ l0_0 a0_1 a0_2 _ _ l0_3 a0_4 a0_5 a0_6 t367 _ ?side1 ?side2 ?side3 ?side4 A2.1).mono ?_); (case side1 => repeat (first | exact (Kd.C_below HR0_0.1 HB.1) | (with_reducible refine Kd.C_alloc ?_ _) | (with_reducible refine Kd.C_drewN ?_ _) | (with_reducible refine Kd.C_drew ?_))); (case side2 => exact HC0_0.1); (case side3 => repeat (first | exact (Kd.C_below HR0_3.1 HB.1) | (with_reducible refine Kd.C_alloc ?_ _) | (with_reducible refine Kd.C_drewN ?_ _) | (with_reducible refine Kd.C_drew ?_))); (case side4 => exact HC0_3.1); rintro e w5 ⟨rfl, hb⟩; refine ⟨_, rfl, ?_⟩; have n0_ := Am_ (kB_ (g := gb366) (by (with_reducible repeat (first | refine kN_ ?_ _ | refine kD_ ?_ | refine kA_ ?_ _)); exact BK366.1) hb); have n1_ := Am_ (bT_ (by repeat (first | (with_reducible first | exact HB.1 | apply bA_ | apply bN_ | apply bD_ | refine bS_ ?_ GE366.1) | exact HB.1)) hb); clear BK366 HB; have BK366 := n0_; have HB := n1_; clear n0_ n1_; (try clear hb); (try clear hb2); (try clear hk); (try clear hi)))
 go_ret
 exact ⟨by first | rfl | (simp [errW_none, errW_some] <;> rfl) | (simp [*, errW_none, errW_some] <;> rfl), by repeat (first | (with_reducible first | exact HB.1 | apply bA_ | apply bN_ | apply bD_ | refine bS_ ?_ GE366.1) | exact HB.1)⟩

end Go.Proofs.Ytlkofdedkfmaeaa.XFnExactSlotBound
