/- The functions that the law reaches as plain Lean functions, and of each a proof that its call computes it. Conditions: those that each theorem names. -/
import Derived.Test.YtlkofdedkfmaeaaWS
import Derived.Test.YtlkofdedkfmaeaaXFnExactCountDeliveredx0
import Derived.Test.YtlkofdedkfmaeaaXFnExactCountDeliveredx8
namespace Go.Proofs.Ytlkofdedkfmaeaa.XFnExactCountDelivered
open Go.RowKit Go.Proofs.YtlkofdedkfmaeaaW.PrintWords Go.Proofs.YtlkofdedkfmaeaaW.PrintLast Go.Proofs.YtlkofdedkfmaeaaW.PrintMore Go.Proofs.Ytlkofdedkfmaeaa.X
attribute [local go_sem] max2_int min2_int max_two min_two max_three min_three max_four min_four   -- for this text's walks alone
set_option linter.unusedVariables false
set_option linter.unusedSimpArgs false

/-! ### spec_CountDelivered: function 24 -/
def spec_CountDelivered.l0 : Nat → Int → Int → List (S102) → Int → Option (Int)
 | 0, _, _, _, _ => none
 | k + 1, x1, x7, x8, x9 => if x9 < (x8.length : Int) then (if 0 ≤ x9 then (if ((rd_T102 x8 x9).f0) = x1 then (spec_CountDelivered.l0 k x1 (wrap64 (x7 + 1)) x8 (wrap64 (x9 + 1))) else (spec_CountDelivered.l0 k x1 x7 x8 (wrap64 (x9 + 1)))) else (none)) else (some x7)
def spec_CountDelivered.f (k : Nat) (l0_0 : List Int) (a0_1 : Int) (a0_2 : Int) (l0_3 : List (S97)) (a0_4 : Int) (a0_5 : Int) (a0_6 : Int) (a1 : Int) (a2 : Int) : Option (Int) := (spec_l1In.f a2 0 (wrap64 ((l0_3.length : Int) - 1))).bind fun t358 => (if t358 = true then (if 0 ≤ a2 then (if a2 < (l0_3.length : Int) then (spec_CountDelivered.l0 k a1 0 ((rd_T97 l0_3 a2).f8) 0) else (none)) else (none)) else (some 0))
theorem spec_CountDelivered.mono_l : ∀ k, (∀ y0 y1 y2 y3, LeO (spec_CountDelivered.l0 k y0 y1 y2 y3) (spec_CountDelivered.l0 (k + 1) y0 y1 y2 y3))
 | 0 => fun _ _ _ _ r h => by simp [spec_CountDelivered.l0] at h
 | k + 1 => by
  have ih0 := spec_CountDelivered.mono_l k
  ·intro y0 y1 y2 y3
   unfold spec_CountDelivered.l0
   repeat' first
   | (with_reducible exact ih0 _ _ _ _)
   | (with_reducible exact LeO.refl _)
   | (with_reducible exact LeO.none _)
   | (with_reducible refine LeO.ite ?_ ?_)
   | (with_reducible refine LeO.bind ?_ (fun _ => ?_))
   | exact ih0 _ _ _ _
   | exact LeO.none _
   | refine LeO.ite ?_ ?_
   | refine LeO.bind ?_ (fun _ => ?_)
theorem spec_CountDelivered.mono : ∀ a0 a1 a2 a3 a4 a5 a6 a7 a8 k, LeO (spec_CountDelivered.f k a0 a1 a2 a3 a4 a5 a6 a7 a8) (spec_CountDelivered.f (k + 1) a0 a1 a2 a3 a4 a5 a6 a7 a8) := by
 intro a0 a1 a2 a3 a4 a5 a6 a7 a8 k
 have ih0 := spec_CountDelivered.mono_l k
 unfold spec_CountDelivered.f
 repeat' first
   | (with_reducible exact ih0 _ _ _ _)
   | (with_reducible exact LeO.refl _)
   | (with_reducible exact LeO.none _)
   | (with_reducible refine LeO.ite ?_ ?_)
   | (with_reducible refine LeO.bind ?_ (fun _ => ?_))
   | exact ih0 _ _ _ _
   | exact LeO.none _
   | refine LeO.ite ?_ ?_
   | refine LeO.bind ?_ (fun _ => ?_)
set_option maxHeartbeats 8000000 in
set_option maxRecDepth 100000 in
theorem spec_CountDelivered.calls (k : Nat) (A0_0 : Option Addr) (c0_0 : Nat) (l0_0 : List Int) (a0_1 : Int) (a0_2 : Int) (A0_3 : Option Addr) (c0_3 : Nat) (l0_3 : List (S97)) (a0_4 : Int) (a0_5 : Int) (a0_6 : Int) (a1 : Int) (a2 : Int) (r : Int) (w : World) (hr0_0 : Kd.C (Kd.int .i64) w A0_0 l0_0.length l0_0) (hc0_0 : l0_0.length ≤ c0_0) (hr0_3 : Kd.C k97 w A0_3 l0_3.length l0_3) (hc0_3 : l0_3.length ≤ c0_3) (h : spec_CountDelivered.f k l0_0 a0_1 a0_2 l0_3 a0_4 a0_5 a0_6 a1 a2 = some r) :
  Calls Try.prog 24 #[.agg #[.slice A0_0 l0_0.length c0_0, .int .i64 a0_1, .int .i64 a0_2, .slice A0_3 l0_3.length c0_3, .int .i64 a0_4, .int .i64 a0_5, .int .i64 a0_6], .int .i64 a1, .int .i64 a2] w fun e w' => e = .returned (.int .i64 r) ∧ Below w.heap.size w w' := by
 have hu33 := Try.underlying33
 have HR0_0 := Am_ hr0_0
 have HC0_0 := Am_ hc0_0
 clear hr0_0 hc0_0
 have HR0_3 := Am_ hr0_3
 have HC0_3 := Am_ hc0_3
 clear hr0_3 hc0_3
 have HB := Am_ (Below.refl w.heap.size w)
 have H : ((spec_l1In.f a2 0 (wrap64 ((l0_3.length : Int) - 1))).bind fun t358 => (if t358 = true then (if 0 ≤ a2 then (if a2 < (l0_3.length : Int) then (spec_CountDelivered.l0 k a1 0 ((rd_T97 l0_3 a2).f8) 0) else (none)) else (none)) else (some 0))) = some r := h
 clear h
 replace H := Option.bind_eq_some_iff.mp H
 obtain ⟨t358, A40, H⟩ := H
 replace H : (if t358 = true then (if 0 ≤ a2 then (if a2 < (l0_3.length : Int) then (spec_CountDelivered.l0 k a1 0 ((rd_T97 l0_3 a2).f8) 0) else (none)) else (none)) else (some 0)) = some r := H
 have A4 := Am_ A40
 clear A40
 by_cases c5 : t358 = true
 ·subst c5
  have H1 : (if 0 ≤ a2 then (if a2 < (l0_3.length : Int) then (spec_CountDelivered.l0 k a1 0 ((rd_T97 l0_3 a2).f8) 0) else (none)) else (none)) = some r := by rw [if_pos rfl] at H; exact H
  clear H
  have H := H1
  clear H1
  by_cases c6 : 0 ≤ a2
  ·rw [if_pos c6] at H
   have c6b0 : decide (0 ≤ a2) = true := decide_eq_true c6
   clear c6
   by_cases c7 : a2 < (l0_3.length : Int)
   ·rw [if_pos c7] at H
    have c7b0 : decide (a2 < (l0_3.length : Int)) = true := decide_eq_true c7
    clear c7
    have H' := Am_ H
    clear H
    go_enter Try.func24, Try.ntmps24
    go_wp2_with (first | ((with_reducible refine gate_dst (N := 3) rfl ?_); refine box_event ?hg (N := 3) ?hd (cs := #[.slice A0_0 l0_0.length c0_0, .int .i64 a0_1, .int .i64 a0_2, .slice A0_3 l0_3.length c0_3, .int .i64 a0_4, .int .i64 a0_5, .int .i64 a0_6]) (t := 33) ?hr ?_; (case hd => rfl); (case hg => rfl); (case hr => first | (go_simp; done) | (go_simp; rfl)); intro gb357 hg w8 hbox hb; have n0_ := Am_ (bT_ (by repeat (first | (with_reducible first | exact HB.1 | apply bA_ | apply bN_ | apply bD_) | exact HB.1)) hb); have n1_ := Am_ (hbox); have n2_ := Am_ ((by rw [hg]; exact (bZ_ (by repeat (first | (with_reducible first | exact HB.1 | apply bA_ | apply bN_ | apply bD_) | exact HB.1))) : w.heap.size ≤ gb357)); have n3_ := Am_ ((by rw [hg]; exact (bZ_ (by repeat (first | (with_reducible first | exact HB.1 | apply bA_ | apply bN_ | apply bD_) | exact HB.1))) : w.heap.size ≤ gb357)); clear HB; have HB := n0_; have BK357 := n1_; have GW357 := n2_; have GE357 := n3_; clear n0_ n1_ n2_ n3_ hb hbox hg; have hcz9_0 : w8.cell? ⟨gb357, 0, none⟩ = some (.slice A0_0 l0_0.length c0_0) := kC_ BK357.1 0; have hcz9_1 : w8.cell? ⟨gb357, 1, none⟩ = some (.int .i64 a0_1) := kC_ BK357.1 1; have hcz9_2 : w8.cell? ⟨gb357, 2, none⟩ = some (.int .i64 a0_2) := kC_ BK357.1 2; have hcz9_3 : w8.cell? ⟨gb357, 3, none⟩ = some (.slice A0_3 l0_3.length c0_3) := kC_ BK357.1 3; have hcz9_4 : w8.cell? ⟨gb357, 4, none⟩ = some (.int .i64 a0_4) := kC_ BK357.1 4; have hcz9_5 : w8.cell? ⟨gb357, 5, none⟩ = some (.int .i64 a0_5) := kC_ BK357.1 5; have hcz9_6 : w8.cell? ⟨gb357, 6, none⟩ = some (.int .i64 a0_6) := kC_ BK357.1 6; have hfz9_0 := kF_ BK357.1 0; have hfz9_1 := kF_ BK357.1 1; have hfz9_2 := kF_ BK357.1 2; have hfz9_3 := kF_ BK357.1 3; have hfz9_4 := kF_ BK357.1 4; have hfz9_5 := kF_ BK357.1 5; have hfz9_6 := kF_ BK357.1 6) | ((with_reducible refine gate_callee (f := 69) rfl ?_); refine goesL_ (some 15) rfl rfl Try.func69 (by kernel_rfl) rfl #[.int .i64 a2, .int .i64 0, .int .i64 (wrap64 ((l0_3.length : Int) - 1))] rfl (by (try simp only [List.map_toArray, List.map_cons, List.map_nil]); first | done | rfl | (simp only [List.length_drop, List.length_take]; rfl)) ?_; (with_reducible refine (spec_l1In.calls a2 0 (wrap64 ((l0_3.length : Int) - 1)) true _ A4.1).mono ?_); rintro e w' ⟨rfl, ⟨nd, rfl⟩⟩; refine ⟨_, rfl, ?_⟩; have p359 : 0 ≤ (a2 : Int) := of_decide_eq_true (by first | (with_reducible assumption) | assumption); have q359 : a2 < (l0_3.length : Int) := of_decide_eq_true (by first | (with_reducible assumption) | assumption); obtain ⟨ad359, A359_0, c359_0, A359_6, c359_6, A359_17, c359_17, A359_20, c359_20, A359_21, c359_21, e359, hx359_0, hx359_1, hx359_2, hx359_3, hx359_4, hx359_5, hx359_6, hx359_7, hx359_8, hx359_9, hx359_10, hx359_11, hx359_12, hx359_13, hx359_14, hx359_15, hx359_16, hx359_17, hx359_18, hx359_19, hx359_20, hx359_21, hl359_0, hi359_0, hl359_6, hi359_6, hl359_17, hi359_17, hl359_20, hi359_20, hl359_21, hi359_21⟩ := at_T97 HR0_3.1 a2 p359 q359; cases e359; replace hx359_0 := (HB.1.cell (World.block_lt_of_cell? w _ hx359_0)).trans hx359_0; replace hx359_1 := (HB.1.cell (World.block_lt_of_cell? w _ hx359_1)).trans hx359_1; replace hx359_2 := (HB.1.cell (World.block_lt_of_cell? w _ hx359_2)).trans hx359_2; replace hx359_3 := (HB.1.cell (World.block_lt_of_cell? w _ hx359_3)).trans hx359_3; replace hx359_4 := (HB.1.cell (World.block_lt_of_cell? w _ hx359_4)).trans hx359_4; replace hx359_5 := (HB.1.cell (World.block_lt_of_cell? w _ hx359_5)).trans hx359_5; replace hx359_6 := (HB.1.cell (World.block_lt_of_cell? w _ hx359_6)).trans hx359_6; replace hx359_7 := (HB.1.cell (World.block_lt_of_cell? w _ hx359_7)).trans hx359_7; replace hx359_8 := (HB.1.cell (World.block_lt_of_cell? w _ hx359_8)).trans hx359_8; replace hx359_9 := (HB.1.cell (World.block_lt_of_cell? w _ hx359_9)).trans hx359_9; replace hx359_10 := (HB.1.cell (World.block_lt_of_cell? w _ hx359_10)).trans hx359_10; replace hx359_11 := (HB.1.cell (World.block_lt_of_cell? w _ hx359_11)).trans hx359_11; replace hx359_12 := (HB.1.cell (World.block_lt_of_cell? w _ hx359_12)).trans hx359_12; replace hx359_13 := (HB.1.cell (World.block_lt_of_cell? w _ hx359_13)).trans hx359_13; replace hx359_14 := (HB.1.cell (World.block_lt_of_cell? w _ hx359_14)).trans hx359_14; replace hx359_15 := (HB.1.cell (World.block_lt_of_cell? w _ hx359_15)).trans hx359_15; replace hx359_16 := (HB.1.cell (World.block_lt_of_cell? w _ hx359_16)).trans hx359_16; replace hx359_17 := (HB.1.cell (World.block_lt_of_cell? w _ hx359_17)).trans hx359_17; replace hx359_18 := (HB.1.cell (World.block_lt_of_cell? w _ hx359_18)).trans hx359_18; replace hx359_19 := (HB.1.cell (World.block_lt_of_cell? w _ hx359_19)).trans hx359_19; replace hx359_20 := (HB.1.cell (World.block_lt_of_cell? w _ hx359_20)).trans hx359_20; replace hx359_21 := (HB.1.cell (World.block_lt_of_cell? w _ hx359_21)).trans hx359_21; have HR359_0 := Am_ hi359_0; have HC359_0 := Am_ hl359_0; clear hi359_0 hl359_0; have HR359_6 := Am_ hi359_6; have HC359_6 := Am_ hl359_6; clear hi359_6 hl359_6; have HR359_17 := Am_ hi359_17; have HC359_17 := Am_ hl359_17; clear hi359_17 hl359_17; have HR359_20 := Am_ hi359_20; have HC359_20 := Am_ hl359_20; clear hi359_20 hl359_20; have HR359_21 := Am_ hi359_21; have HC359_21 := Am_ hl359_21; clear hi359_21 hl359_21; replace p359 := eq_true p359; replace q359 := eq_true q359))
    go_loopg [7, 9] k (fun kq v7 v9 w' => ∃ (x7_1 : Int) (x9_1 : Int), v7 = .int .i64 x7_1 ∧ v9 = .int .i64 x9_1 ∧ Aside0 (spec_CountDelivered.l0 kq a1 x7_1 ((rd_T97 l0_3 a2).f8) x9_1 = some r) ∧ Aside0 (kq ≤ k) ∧ Aside0 (w'.heap[gb357]? = some (.cells #[(.slice A0_0 l0_0.length c0_0), .int .i64 a0_1, .int .i64 a0_2, (.slice (some ad359) l0_3.length c0_3), .int .i64 a0_4, .int .i64 a0_5, .int .i64 a0_6] 33 (0, 0))) ∧ Aside0 (Below w.heap.size w w'))
    case atStart => exact ⟨(0), (0), (by first | rfl | (simp; done) | (simp [*]; done)), (by first | rfl | (simp; done) | (simp [*]; done)), H', ⟨Nat.le_refl _⟩, ⟨by (with_reducible repeat (first | refine kN_ ?_ _ | refine kD_ ?_ | refine kA_ ?_ _)); exact BK357.1⟩, ⟨by repeat (first | (with_reducible first | exact HB.1 | apply bA_ | apply bN_ | apply bD_ | refine bS_ ?_ GE357.1) | exact HB.1)⟩⟩
    case round =>
     clear H'
     try clear c2
     try clear p2
     try clear c3
     try clear p3
     try clear q3
     try clear hx3
     try clear c5
     try clear c6
     try clear c6b0
     try clear p6
     try clear c7
     try clear c7b0
     try clear hcz9_0
     try clear hcz9_1
     try clear hcz9_2
     try clear hcz9_3
     try clear hcz9_4
     try clear hcz9_5
     try clear hcz9_6
     try clear hfz9_0
     try clear hfz9_1
     try clear hfz9_2
     try clear hfz9_3
     try clear hfz9_4
     try clear hfz9_5
     try clear hfz9_6
     try clear hx359_0
     try clear hx359_1
     try clear hx359_10
     try clear hx359_11
     try clear hx359_12
     try clear hx359_13
     try clear hx359_14
     try clear hx359_15
     try clear hx359_16
     try clear hx359_17
     try clear hx359_18
     try clear hx359_19
     try clear hx359_2
     try clear hx359_20
     try clear hx359_21
     try clear hx359_3
     try clear hx359_4
     try clear hx359_5
     try clear hx359_6
     try clear hx359_7
     try clear hx359_8
     try clear hx359_9
     try clear p359
     try clear q359
     obtain ⟨x7_1, x9_1, rfl, rfl, HA, HK1, BK357, HB⟩ := hrel
     cases gk with
     | zero => exact absurd HA.1 (by simp [spec_CountDelivered.l0])
     | succ k1 =>
      have H := HA.1
      clear HA
      simp only [spec_CountDelivered.l0] at H
      by_cases c10 : x9_1 < (((rd_T97 l0_3 a2).f8).length : Int)
      ·rw [if_pos c10] at H
       have c10b0 : decide (x9_1 < (((rd_T97 l0_3 a2).f8).length : Int)) = true := decide_eq_true c10
       clear c10
       by_cases c11 : 0 ≤ x9_1
       ·rw [if_pos c11] at H
        have c11b0 : decide (0 ≤ x9_1) = true := decide_eq_true c11
        clear c11
        by_cases c12 : ((rd_T102 ((rd_T97 l0_3 a2).f8) x9_1).f0) = a1
        ·rw [if_pos c12] at H
         have c12b0 : (((rd_T102 ((rd_T97 l0_3 a2).f8) x9_1).f0) == a1) = true := beq_iff_eq.mpr c12
         have c12b1 : (((rd_T102 ((rd_T97 l0_3 a2).f8) x9_1).f0) != a1) = false := bne_eq_false_iff_eq.mpr c12
         clear c12
         have H' := Am_ H
         clear H
         have p360 : 0 ≤ (x9_1 : Int) := of_decide_eq_true (by first | (with_reducible assumption) | assumption)
         have q360 : x9_1 < (((rd_T97 l0_3 a2).f8).length : Int) := of_decide_eq_true (by first | (with_reducible assumption) | assumption)
         obtain ⟨ad360, A360_3, c360_3, e360, hx360_0, hx360_1, hx360_2, hx360_3, hl360_3, hi360_3⟩ := at_T102 HR359_21.1 x9_1 p360 q360
         cases e360
         replace hx360_0 := (HB.1.cell (World.block_lt_of_cell? w _ hx360_0)).trans hx360_0
         replace hx360_1 := (HB.1.cell (World.block_lt_of_cell? w _ hx360_1)).trans hx360_1
         replace hx360_2 := (HB.1.cell (World.block_lt_of_cell? w _ hx360_2)).trans hx360_2
         replace hx360_3 := (HB.1.cell (World.block_lt_of_cell? w _ hx360_3)).trans hx360_3
         have HR360_3 := Am_ hi360_3
         have HC360_3 := Am_ hl360_3
         clear hi360_3 hl360_3
         replace p360 := eq_true p360
         replace q360 := eq_true q360
         go_wp2
         go_roundg k1
         case measure => have := HK1.1; omega
         case rel => exact ⟨(wrap64 (x7_1 + 1)), (wrap64 (x9_1 + 1)), (by first | rfl | (simp; done) | (simp [*]; done)), (by first | rfl | (simp; done) | (simp [*]; done)), H', ⟨by have := HK1.1; omega⟩, ⟨by (with_reducible repeat (first | refine kN_ ?_ _ | refine kD_ ?_ | refine kA_ ?_ _)); exact BK357.1⟩, ⟨by repeat (first | (with_reducible first | exact HB.1 | apply bA_ | apply bN_ | apply bD_ | refine bS_ ?_ GE357.1) | exact HB.1)⟩⟩
        ·rw [if_neg c12] at H
         have c12b0 : (((rd_T102 ((rd_T97 l0_3 a2).f8) x9_1).f0) == a1) = false := beq_eq_false_iff_ne.mpr c12
         have c12b1 : (((rd_T102 ((rd_T97 l0_3 a2).f8) x9_1).f0) != a1) = true := bne_iff_ne.mpr c12
         have H' := Am_ H
         clear H
         have p360 : 0 ≤ (x9_1 : Int) := of_decide_eq_true (by first | (with_reducible assumption) | assumption)
         have q360 : x9_1 < (((rd_T97 l0_3 a2).f8).length : Int) := of_decide_eq_true (by first | (with_reducible assumption) | assumption)
         obtain ⟨ad360, A360_3, c360_3, e360, hx360_0, hx360_1, hx360_2, hx360_3, hl360_3, hi360_3⟩ := at_T102 HR359_21.1 x9_1 p360 q360
         cases e360
         replace hx360_0 := (HB.1.cell (World.block_lt_of_cell? w _ hx360_0)).trans hx360_0
         replace hx360_1 := (HB.1.cell (World.block_lt_of_cell? w _ hx360_1)).trans hx360_1
         replace hx360_2 := (HB.1.cell (World.block_lt_of_cell? w _ hx360_2)).trans hx360_2
         replace hx360_3 := (HB.1.cell (World.block_lt_of_cell? w _ hx360_3)).trans hx360_3
         have HR360_3 := Am_ hi360_3
         have HC360_3 := Am_ hl360_3
         clear hi360_3 hl360_3
         replace p360 := eq_true p360
         replace q360 := eq_true q360
         go_wp2
         go_roundg k1
         case measure => have := HK1.1; omega
         case rel => exact ⟨(x7_1), (wrap64 (x9_1 + 1)), (by first | rfl | (simp; done) | (simp [*]; done)), (by first | rfl | (simp; done) | (simp [*]; done)), H', ⟨by have := HK1.1; omega⟩, ⟨by (with_reducible repeat (first | refine kN_ ?_ _ | refine kD_ ?_ | refine kA_ ?_ _)); exact BK357.1⟩, ⟨by repeat (first | (with_reducible first | exact HB.1 | apply bA_ | apply bN_ | apply bD_ | refine bS_ ?_ GE357.1) | exact HB.1)⟩⟩
       ·rw [if_neg c11] at H
        exact absurd H (by simp)
      ·rw [if_neg c10] at H
       have c10b0 : decide (x9_1 < (((rd_T97 l0_3 a2).f8).length : Int)) = false := decide_eq_false c10
       clear c10
       obtain rfl := Option.some.inj H
       go_wp2
       go_ret
       exact ⟨by first | rfl | (simp [errW_none, errW_some] <;> rfl) | (simp [*, errW_none, errW_some] <;> rfl), by repeat (first | (with_reducible first | exact HB.1 | apply bA_ | apply bN_ | apply bD_ | refine bS_ ?_ GE357.1) | exact HB.1)⟩
   ·rw [if_neg c7] at H
    exact absurd H (by simp)
  ·rw [if_neg c6] at H
   exact absurd H (by simp)
 ·replace c5 := Bool.eq_false_iff.mpr c5
  subst c5
  have H1 : (some 0) = some r := by rw [if_neg (show ¬ (false = true) by decide)] at H; exact H
  clear H
  have H := H1
  clear H1
  obtain rfl := Option.some.inj H
  go_enter Try.func24, Try.ntmps24
  go_wp2_with (first | ((with_reducible refine gate_dst (N := 3) rfl ?_); refine box_event ?hg (N := 3) ?hd (cs := #[.slice A0_0 l0_0.length c0_0, .int .i64 a0_1, .int .i64 a0_2, .slice A0_3 l0_3.length c0_3, .int .i64 a0_4, .int .i64 a0_5, .int .i64 a0_6]) (t := 33) ?hr ?_; (case hd => rfl); (case hg => rfl); (case hr => first | (go_simp; done) | (go_simp; rfl)); intro gb357 hg w13 hbox hb; have n0_ := Am_ (bT_ (by repeat (first | (with_reducible first | exact HB.1 | apply bA_ | apply bN_ | apply bD_) | exact HB.1)) hb); have n1_ := Am_ (hbox); have n2_ := Am_ ((by rw [hg]; exact (bZ_ (by repeat (first | (with_reducible first | exact HB.1 | apply bA_ | apply bN_ | apply bD_) | exact HB.1))) : w.heap.size ≤ gb357)); have n3_ := Am_ ((by rw [hg]; exact (bZ_ (by repeat (first | (with_reducible first | exact HB.1 | apply bA_ | apply bN_ | apply bD_) | exact HB.1))) : w.heap.size ≤ gb357)); clear HB; have HB := n0_; have BK357 := n1_; have GW357 := n2_; have GE357 := n3_; clear n0_ n1_ n2_ n3_ hb hbox hg; have hcz14_0 : w13.cell? ⟨gb357, 0, none⟩ = some (.slice A0_0 l0_0.length c0_0) := kC_ BK357.1 0; have hcz14_1 : w13.cell? ⟨gb357, 1, none⟩ = some (.int .i64 a0_1) := kC_ BK357.1 1; have hcz14_2 : w13.cell? ⟨gb357, 2, none⟩ = some (.int .i64 a0_2) := kC_ BK357.1 2; have hcz14_3 : w13.cell? ⟨gb357, 3, none⟩ = some (.slice A0_3 l0_3.length c0_3) := kC_ BK357.1 3; have hcz14_4 : w13.cell? ⟨gb357, 4, none⟩ = some (.int .i64 a0_4) := kC_ BK357.1 4; have hcz14_5 : w13.cell? ⟨gb357, 5, none⟩ = some (.int .i64 a0_5) := kC_ BK357.1 5; have hcz14_6 : w13.cell? ⟨gb357, 6, none⟩ = some (.int .i64 a0_6) := kC_ BK357.1 6; have hfz14_0 := kF_ BK357.1 0; have hfz14_1 := kF_ BK357.1 1; have hfz14_2 := kF_ BK357.1 2; have hfz14_3 := kF_ BK357.1 3; have hfz14_4 := kF_ BK357.1 4; have hfz14_5 := kF_ BK357.1 5; have hfz14_6 := kF_ BK357.1 6) | ((with_reducible refine gate_callee (f := 69) rfl ?_); refine goesL_ (some 15) rfl rfl Try.func69 (by kernel_rfl) rfl #[.int .i64 a2, .int .i64 0, .int .i64 (wrap64 ((l0_3.length : Int) - 1))] rfl (by (try simp only [List.map_toArray, List.map_cons, List.map_nil]); first | done | rfl | (simp only [List.length_drop, List.length_take]; rfl)) ?_; (with_reducible refine (spec_l1In.calls a2 0 (wrap64 ((l0_3.length : Int) - 1)) false _ A4.1).mono ?_); rintro e w' ⟨rfl, ⟨nd, rfl⟩⟩; refine ⟨_, rfl, ?_⟩))
  go_ret
  exact ⟨by first | rfl | (simp [errW_none, errW_some] <;> rfl) | (simp [*, errW_none, errW_some] <;> rfl), by repeat (first | (with_reducible first | exact HB.1 | apply bA_ | apply bN_ | apply bD_ | refine bS_ ?_ GE357.1) | exact HB.1)⟩

/-! ### impl_isAirStation: function 70 -/
def impl_isAirStation.f (l0_0 : List Int) (a0_1 : Int) (a0_2 : Int) (l0_3 : List (S97)) (a0_4 : Int) (a0_5 : Int) (a0_6 : Int) (a1 : Int) : Option (Bool) := if a1 ≥ 0 then (some (decide (a1 < (l0_3.length : Int)))) else (some false)
set_option maxHeartbeats 8000000 in
set_option maxRecDepth 100000 in
theorem impl_isAirStation.calls (A0_0 : Option Addr) (c0_0 : Nat) (l0_0 : List Int) (a0_1 : Int) (a0_2 : Int) (A0_3 : Option Addr) (c0_3 : Nat) (l0_3 : List (S97)) (a0_4 : Int) (a0_5 : Int) (a0_6 : Int) (a1 : Int) (r : Bool) (w : World) (hr0_0 : Kd.C (Kd.int .i64) w A0_0 l0_0.length l0_0) (hc0_0 : l0_0.length ≤ c0_0) (hr0_3 : Kd.C k97 w A0_3 l0_3.length l0_3) (hc0_3 : l0_3.length ≤ c0_3) (h : impl_isAirStation.f l0_0 a0_1 a0_2 l0_3 a0_4 a0_5 a0_6 a1 = some r) :
  Calls Try.prog 70 #[.agg #[.slice A0_0 l0_0.length c0_0, .int .i64 a0_1, .int .i64 a0_2, .slice A0_3 l0_3.length c0_3, .int .i64 a0_4, .int .i64 a0_5, .int .i64 a0_6], .int .i64 a1] w fun e w' => e = .returned (.bool r) ∧ Below w.heap.size w w' := by
 have hu33 := Try.underlying33
 have HR0_0 := Am_ hr0_0
 have HC0_0 := Am_ hc0_0
 clear hr0_0 hc0_0
 have HR0_3 := Am_ hr0_3
 have HC0_3 := Am_ hc0_3
 clear hr0_3 hc0_3
 have HB := Am_ (Below.refl w.heap.size w)
 have H : (if a1 ≥ 0 then (some (decide (a1 < (l0_3.length : Int)))) else (some false)) = some r := h
 clear h
 by_cases c3 : a1 ≥ 0
 ·rw [if_pos c3] at H
  have c3b0 : decide (0 ≤ a1) = true := decide_eq_true c3
  clear c3
  obtain rfl := Option.some.inj H
  go_enter Try.func70, Try.ntmps70
  go_wp2_with (first | ((with_reducible refine gate_dst (N := 2) rfl ?_); (try (refine gate_guard (by rfl) ?_; dsimp only)); refine box_event ?hg (N := 2) ?hd (cs := #[.slice A0_0 l0_0.length c0_0, .int .i64 a0_1, .int .i64 a0_2, .slice A0_3 l0_3.length c0_3, .int .i64 a0_4, .int .i64 a0_5, .int .i64 a0_6]) (t := 33) ?hr ?_; (case hd => rfl); (case hg => rfl); (case hr => first | (go_simp; done) | (go_simp; rfl)); intro gb361 hg w4 hbox hb; have n0_ := Am_ (bT_ (by repeat (first | (with_reducible first | exact HB.1 | apply bA_ | apply bN_ | apply bD_) | exact HB.1)) hb); have n1_ := Am_ (hbox); have n2_ := Am_ ((by rw [hg]; exact (bZ_ (by repeat (first | (with_reducible first | exact HB.1 | apply bA_ | apply bN_ | apply bD_) | exact HB.1))) : w.heap.size ≤ gb361)); have n3_ := Am_ ((by rw [hg]; exact (bZ_ (by repeat (first | (with_reducible first | exact HB.1 | apply bA_ | apply bN_ | apply bD_) | exact HB.1))) : w.heap.size ≤ gb361)); clear HB; have HB := n0_; have BK361 := n1_; have GW361 := n2_; have GE361 := n3_; clear n0_ n1_ n2_ n3_ hb hbox hg; have hcz5_0 : w4.cell? ⟨gb361, 0, none⟩ = some (.slice A0_0 l0_0.length c0_0) := kC_ BK361.1 0; have hcz5_1 : w4.cell? ⟨gb361, 1, none⟩ = some (.int .i64 a0_1) := kC_ BK361.1 1; have hcz5_2 : w4.cell? ⟨gb361, 2, none⟩ = some (.int .i64 a0_2) := kC_ BK361.1 2; have hcz5_3 : w4.cell? ⟨gb361, 3, none⟩ = some (.slice A0_3 l0_3.length c0_3) := kC_ BK361.1 3; have hcz5_4 : w4.cell? ⟨gb361, 4, none⟩ = some (.int .i64 a0_4) := kC_ BK361.1 4; have hcz5_5 : w4.cell? ⟨gb361, 5, none⟩ = some (.int .i64 a0_5) := kC_ BK361.1 5; have hcz5_6 : w4.cell? ⟨gb361, 6, none⟩ = some (.int .i64 a0_6) := kC_ BK361.1 6; have hfz5_0 := kF_ BK361.1 0; have hfz5_1 := kF_ BK361.1 1; have hfz5_2 := kF_ BK361.1 2; have hfz5_3 := kF_ BK361.1 3; have hfz5_4 := kF_ BK361.1 4; have hfz5_5 := kF_ BK361.1 5; have hfz5_6 := kF_ BK361.1 6))
  go_ret
  exact ⟨by first | rfl | (simp [errW_none, errW_some] <;> rfl) | (simp [*, errW_none, errW_some] <;> rfl), by repeat (first | (with_reducible first | exact HB.1 | apply bA_ | apply bN_ | apply bD_ | refine bS_ ?_ GE361.1) | exact HB.1)⟩
 ·rw [if_neg c3] at H
  have c3b0 : decide (0 ≤ a1) = false := decide_eq_false c3
  clear c3
  obtain rfl := Option.some.inj H
  go_enter Try.func70, Try.ntmps70
  go_wp2_with (first | ((with_reducible refine gate_dst (N := 2) rfl ?_); (try (refine gate_guard (by rfl) ?_; dsimp only)); refine box_event ?hg (N := 2) ?hd (cs := #[.slice A0_0 l0_0.length c0_0, .int .i64 a0_1, .int .i64 a0_2, .slice A0_3 l0_3.length c0_3, .int .i64 a0_4, .int .i64 a0_5, .int .i64 a0_6]) (t := 33) ?hr ?_; (case hd => rfl); (case hg => rfl); (case hr => first | (go_simp; done) | (go_simp; rfl)); intro gb361 hg w6 hbox hb; have n0_ := Am_ (bT_ (by repeat (first | (with_reducible first | exact HB.1 | apply bA_ | apply bN_ | apply bD_) | exact HB.1)) hb); have n1_ := Am_ (hbox); have n2_ := Am_ ((by rw [hg]; exact (bZ_ (by repeat (first | (with_reducible first | exact HB.1 | apply bA_ | apply bN_ | apply bD_) | exact HB.1))) : w.heap.size ≤ gb361)); have n3_ := Am_ ((by rw [hg]; exact (bZ_ (by repeat (first | (with_reducible first | exact HB.1 | apply bA_ | apply bN_ | apply bD_) | exact HB.1))) : w.heap.size ≤ gb361)); clear HB; have HB := n0_; have BK361 := n1_; have GW361 := n2_; have GE361 := n3_; clear n0_ n1_ n2_ n3_ hb hbox hg))
  go_ret
  exact ⟨by first | rfl | (simp [errW_none, errW_some] <;> rfl) | (simp [*, errW_none, errW_some] <;> rfl), by repeat (first | (with_reducible first | exact HB.1 | apply bA_ | apply bN_ | apply bD_ | refine bS_ ?_ GE361.1) | exact HB.1)⟩

/-! ### impl_CountDelivered: function 25 -/
def impl_CountDelivered.l0 : Nat → Int → Int → List (S102) → Int → Int → Option (Int)
 | 0, _, _, _, _, _ => none
 | k + 1, x1, x7, x19, x20, x21 => if x21 < x20 then (if 0 ≤ x21 then (if x21 < (x19.length : Int) then (if ((rd_T102 x19 x21).f0) = x1 then (impl_CountDelivered.l0 k x1 (wrap64 (x7 + 1)) x19 x20 (wrap64 (x21 + 1))) else (impl_CountDelivered.l0 k x1 x7 x19 x20 (wrap64 (x21 + 1)))) else (none)) else (none)) else (some x7)
def impl_CountDelivered.f (k : Nat) (l0_0 : List Int) (a0_1 : Int) (a0_2 : Int) (l0_3 : List (S97)) (a0_4 : Int) (a0_5 : Int) (a0_6 : Int) (a1 : Int) (a2 : Int) : Option (Int) := (impl_isAirStation.f l0_0 a0_1 a0_2 l0_3 a0_4 a0_5 a0_6 a2).bind fun t363 => (if t363 = true then (if 0 ≤ a2 then (if a2 < (l0_3.length : Int) then (impl_CountDelivered.l0 k a1 0 ((rd_T97 l0_3 a2).f8) (((rd_T97 l0_3 a2).f8).length : Int) 0) else (none)) else (none)) else (some 0))
theorem impl_CountDelivered.mono_l : ∀ k, (∀ y0 y1 y2 y3 y4, LeO (impl_CountDelivered.l0 k y0 y1 y2 y3 y4) (impl_CountDelivered.l0 (k + 1) y0 y1 y2 y3 y4))
 | 0 => fun _ _ _ _ _ r h => by simp [impl_CountDelivered.l0] at h
 | k + 1 => by
  have ih0 := impl_CountDelivered.mono_l k
  ·intro y0 y1 y2 y3 y4
   unfold impl_CountDelivered.l0
   repeat' first
   | (with_reducible exact ih0 _ _ _ _ _)
   | (with_reducible exact LeO.refl _)
   | (with_reducible exact LeO.none _)
   | (with_reducible refine LeO.ite ?_ ?_)
   | (with_reducible refine LeO.bind ?_ (fun _ => ?_))
   | exact ih0 _ _ _ _ _
   | exact LeO.none _
   | refine LeO.ite ?_ ?_
   | refine LeO.bind ?_ (fun _ => ?_)
theorem impl_CountDelivered.mono : ∀ a0 a1 a2 a3 a4 a5 a6 a7 a8 k, LeO (impl_CountDelivered.f k a0 a1 a2 a3 a4 a5 a6 a7 a8) (impl_CountDelivered.f (k + 1) a0 a1 a2 a3 a4 a5 a6 a7 a8) := by
 intro a0 a1 a2 a3 a4 a5 a6 a7 a8 k
 have ih0 := impl_CountDelivered.mono_l k
 unfold impl_CountDelivered.f
 repeat' first
   | (with_reducible exact ih0 _ _ _ _ _)
   | (with_reducible exact LeO.refl _)
   | (with_reducible exact LeO.none _)
   | (with_reducible refine LeO.ite ?_ ?_)
   | (with_reducible refine LeO.bind ?_ (fun _ => ?_))
   | exact ih0 _ _ _ _ _
   | exact LeO.none _
   | refine LeO.ite ?_ ?_
   | refine LeO.bind ?_ (fun _ => ?_)
set_option maxHeartbeats 8000000 in
set_option maxRecDepth 100000 in
theorem impl_CountDelivered.calls (k : Nat) (A0_0 : Option Addr) (c0_0 : Nat) (l0_0 : List Int) (a0_1 : Int) (a0_2 : Int) (A0_3 : Option Addr) (c0_3 : Nat) (l0_3 : List (S97)) (a0_4 : Int) (a0_5 : Int) (a0_6 : Int) (a1 : Int) (a2 : Int) (r : Int) (w : World) (hr0_0 : Kd.C (Kd.int .i64) w A0_0 l0_0.length l0_0) (hc0_0 : l0_0.length ≤ c0_0) (hr0_3 : Kd.C k97 w A0_3 l0_3.length l0_3) (hc0_3 : l0_3.length ≤ c0_3) (h : impl_CountDelivered.f k l0_0 a0_1 a0_2 l0_3 a0_4 a0_5 a0_6 a1 a2 = some r) :
  Calls Try.prog 25 #[.agg #[.slice A0_0 l0_0.length c0_0, .int .i64 a0_1, .int .i64 a0_2, .slice A0_3 l0_3.length c0_3, .int .i64 a0_4, .int .i64 a0_5, .int .i64 a0_6], .int .i64 a1, .int .i64 a2] w fun e w' => e = .returned (.int .i64 r) ∧ Below w.heap.size w w' := by
 have hu33 := Try.underlying33
 have hu102 := Try.underlying102
 have HR0_0 := Am_ hr0_0
 have HC0_0 := Am_ hc0_0
 clear hr0_0 hc0_0
 have HR0_3 := Am_ hr0_3
 have HC0_3 := Am_ hc0_3
 clear hr0_3 hc0_3
 have HB := Am_ (Below.refl w.heap.size w)
 have H : ((impl_isAirStation.f l0_0 a0_1 a0_2 l0_3 a0_4 a0_5 a0_6 a2).bind fun t363 => (if t363 = true then (if 0 ≤ a2 then (if a2 < (l0_3.length : Int) then (impl_CountDelivered.l0 k a1 0 ((rd_T97 l0_3 a2).f8) (((rd_T97 l0_3 a2).f8).length : Int) 0) else (none)) else (none)) else (some 0))) = some r := h
 clear h
 replace H := Option.bind_eq_some_iff.mp H
 obtain ⟨t363, A40, H⟩ := H
 replace H : (if t363 = true then (if 0 ≤ a2 then (if a2 < (l0_3.length : Int) then (impl_CountDelivered.l0 k a1 0 ((rd_T97 l0_3 a2).f8) (((rd_T97 l0_3 a2).f8).length : Int) 0) else (none)) else (none)) else (some 0)) = some r := H
 have A4 := Am_ A40
 clear A40
 by_cases c5 : t363 = true
 ·subst c5
  have H1 : (if 0 ≤ a2 then (if a2 < (l0_3.length : Int) then (impl_CountDelivered.l0 k a1 0 ((rd_T97 l0_3 a2).f8) (((rd_T97 l0_3 a2).f8).length : Int) 0) else (none)) else (none)) = some r := by rw [if_pos rfl] at H; exact H
  clear H
  have H := H1
  clear H1
  by_cases c6 : 0 ≤ a2
  ·rw [if_pos c6] at H
   have c6b0 : decide (0 ≤ a2) = true := decide_eq_true c6
   clear c6
   by_cases c7 : a2 < (l0_3.length : Int)
   ·rw [if_pos c7] at H
    have c7b0 : decide (a2 < (l0_3.length : Int)) = true := decide_eq_true c7
    clear c7
    have H' := Am_ H
    clear H
    go_enter Try.func25, Try.ntmps25
    go_wp2_with (first | ((with_reducible refine gate_dst (N := 3) rfl ?_); refine box_event ?hg (N := 3) ?hd (cs := #[.slice A0_0 l0_0.length c0_0, .int .i64 a0_1, .int .i64 a0_2, .slice A0_3 l0_3.length c0_3, .int .i64 a0_4, .int .i64 a0_5, .int .i64 a0_6]) (t := 33) ?hr ?_; (case hd => rfl); (case hg => rfl); (case hr => first | (go_simp; done) | (go_simp; rfl)); intro gb362 hg w8 hbox hb; have n0_ := Am_ (bT_ (by repeat (first | (with_reducible first | exact HB.1 | apply bA_ | apply bN_ | apply bD_) | exact HB.1)) hb); have n1_ := Am_ (hbox); have n2_ := Am_ ((by rw [hg]; exact (bZ_ (by repeat (first | (with_reducible first | exact HB.1 | apply bA_ | apply bN_ | apply bD_) | exact HB.1))) : w.heap.size ≤ gb362)); have n3_ := Am_ ((by rw [hg]; exact (bZ_ (by repeat (first | (with_reducible first | exact HB.1 | apply bA_ | apply bN_ | apply bD_) | exact HB.1))) : w.heap.size ≤ gb362)); clear HB; have HB := n0_; have BK362 := n1_; have GW362 := n2_; have GE362 := n3_; clear n0_ n1_ n2_ n3_ hb hbox hg; have hcz9_0 : w8.cell? ⟨gb362, 0, none⟩ = some (.slice A0_0 l0_0.length c0_0) := kC_ BK362.1 0; have hcz9_1 : w8.cell? ⟨gb362, 1, none⟩ = some (.int .i64 a0_1) := kC_ BK362.1 1; have hcz9_2 : w8.cell? ⟨gb362, 2, none⟩ = some (.int .i64 a0_2) := kC_ BK362.1 2; have hcz9_3 : w8.cell? ⟨gb362, 3, none⟩ = some (.slice A0_3 l0_3.length c0_3) := kC_ BK362.1 3; have hcz9_4 : w8.cell? ⟨gb362, 4, none⟩ = some (.int .i64 a0_4) := kC_ BK362.1 4; have hcz9_5 : w8.cell? ⟨gb362, 5, none⟩ = some (.int .i64 a0_5) := kC_ BK362.1 5; have hcz9_6 : w8.cell? ⟨gb362, 6, none⟩ = some (.int .i64 a0_6) := kC_ BK362.1 6; have hfz9_0 := kF_ BK362.1 0; have hfz9_1 := kF_ BK362.1 1; have hfz9_2 := kF_ BK362.1 2; have hfz9_3 := kF_ BK362.1 3; have hfz9_4 := kF_ BK362.1 4; have hfz9_5 := kF_ BK362.1 5; have hfz9_6 := kF_ BK362.1 6) | ((with_reducible refine gate_callee (f := 70) rfl ?_); refine goesL_ (some 12) rfl rfl Try.func70 (by kernel_rfl) rfl #[.agg #[.slice A0_0 l0_0.length c0_0, .int .i64 a0_1, .int .i64 a0_2, .slice A0_3 l0_3.length c0_3, .int .i64 a0_4, .int .i64 a0_5, .int .i64 a0_6], .int .i64 a2] rfl (by (try simp only [List.map_toArray, List.map_cons, List.map_nil]); first | done | rfl | (simp only [List.length_drop, List.length_take]; rfl)) ?_; (with_reducible refine (impl_isAirStation.calls _ _ l0_0 a0_1 a0_2 _ _ l0_3 a0_4 a0_5 a0_6 a2 true _ ?side1 ?side2 ?side3 ?side4 A4.1).mono ?_); (case side1 => repeat (first | exact (Kd.C_below HR0_0.1 HB.1) | (with_reducible refine Kd.C_alloc ?_ _) | (with_reducible refine Kd.C_drewN ?_ _) | (with_reducible refine Kd.C_drew ?_))); (case side2 => exact HC0_0.1); (case side3 => repeat (first | exact (Kd.C_below HR0_3.1 HB.1) | (with_reducible refine Kd.C_alloc ?_ _) | (with_reducible refine Kd.C_drewN ?_ _) | (with_reducible refine Kd.C_drew ?_))); (case side4 => exact HC0_3.1); rintro e w10 ⟨rfl, hb⟩; refine ⟨_, rfl, ?_⟩; have n0_ := Am_ (kB_ (g := gb362) (by (with_reducible repeat (first | refine kN_ ?_ _ | refine kD_ ?_ | refine kA_ ?_ _)); exact BK362.1) hb); have n1_ := Am_ (bT_ (by repeat (first | (with_reducible first | exact HB.1 | apply bA_ | apply bN_ | apply bD_ | refine bS_ ?_ GE362.1) | exact HB.1)) hb); clear BK362 HB; have BK362 := n0_; have HB := n1_; clear n0_ n1_; (try clear hb); (try clear hb2); (try clear hk); (try clear hi); have hcz11_0 : w10.cell? ⟨gb362, 0, none⟩ = some (.slice A0_0 l0_0.length c0_0) := kC_ BK362.1 0; have hcz11_1 : w10.cell? ⟨gb362, 1, none⟩ = some (.int .i64 a0_1) := kC_ BK362.1 1; have hcz11_2 : w10.cell? ⟨gb362, 2, none⟩ = some (.int .i64 a0_2) := kC_ BK362.1 2; have hcz11_3 : w10.cell? ⟨gb362, 3, none⟩ = some (.slice A0_3 l0_3.length c0_3) := kC_ BK362.1 3; have hcz11_4 : w10.cell? ⟨gb362, 4, none⟩ = some (.int .i64 a0_4) := kC_ BK362.1 4; have hcz11_5 : w10.cell? ⟨gb362, 5, none⟩ = some (.int .i64 a0_5) := kC_ BK362.1 5; have hcz11_6 : w10.cell? ⟨gb362, 6, none⟩ = some (.int .i64 a0_6) := kC_ BK362.1 6; have hfz11_0 := kF_ BK362.1 0; have hfz11_1 := kF_ BK362.1 1; have hfz11_2 := kF_ BK362.1 2; have hfz11_3 := kF_ BK362.1 3; have hfz11_4 := kF_ BK362.1 4; have hfz11_5 := kF_ BK362.1 5; have hfz11_6 := kF_ BK362.1 6; have p364 : 0 ≤ (a2 : Int) := of_decide_eq_true (by first | (with_reducible assumption) | assumption); have q364 : a2 < (l0_3.length : Int) := of_decide_eq_true (by first | (with_reducible assumption) | assumption); obtain ⟨ad364, A364_0, c364_0, A364_6, c364_6, A364_17, c364_17, A364_20, c364_20, A364_21, c364_21, e364, hx364_0, hx364_1, hx364_2, hx364_3, hx364_4, hx364_5, hx364_6, hx364_7, hx364_8, hx364_9, hx364_10, hx364_11, hx364_12, hx364_13, hx364_14, hx364_15, hx364_16, hx364_17, hx364_18, hx364_19, hx364_20, hx364_21, hl364_0, hi364_0, hl364_6, hi364_6, hl364_17, hi364_17, hl364_20, hi364_20, hl364_21, hi364_21⟩ := at_T97 HR0_3.1 a2 p364 q364; cases e364; replace hx364_0 := (HB.1.cell (World.block_lt_of_cell? w _ hx364_0)).trans hx364_0; replace hx364_1 := (HB.1.cell (World.block_lt_of_cell? w _ hx364_1)).trans hx364_1; replace hx364_2 := (HB.1.cell (World.block_lt_of_cell? w _ hx364_2)).trans hx364_2; replace hx364_3 := (HB.1.cell (World.block_lt_of_cell? w _ hx364_3)).trans hx364_3; replace hx364_4 := (HB.1.cell (World.block_lt_of_cell? w _ hx364_4)).trans hx364_4; replace hx364_5 := (HB.1.cell (World.block_lt_of_cell? w _ hx364_5)).trans hx364_5; replace hx364_6 := (HB.1.cell (World.block_lt_of_cell? w _ hx364_6)).trans hx364_6; replace hx364_7 := (HB.1.cell (World.block_lt_of_cell? w _ hx364_7)).trans hx364_7; replace hx364_8 := (HB.1.cell (World.block_lt_of_cell? w _ hx364_8)).trans hx364_8; replace hx364_9 := (HB.1.cell (World.block_lt_of_cell? w _ hx364_9)).trans hx364_9; replace hx364_10 := (HB.1.cell (World.block_lt_of_cell? w _ hx364_10)).trans hx364_10; replace hx364_11 := (HB.1.cell (World.block_lt_of_cell? w _ hx364_11)).trans hx364_11; replace hx364_12 := (HB.1.cell (World.block_lt_of_cell? w _ hx364_12)).trans hx364_12; replace hx364_13 := (HB.1.cell (World.block_lt_of_cell? w _ hx364_13)).trans hx364_13; replace hx364_14 := (HB.1.cell (World.block_lt_of_cell? w _ hx364_14)).trans hx364_14; replace hx364_15 := (HB.1.cell (World.block_lt_of_cell? w _ hx364_15)).trans hx364_15; replace hx364_16 := (HB.1.cell (World.block_lt_of_cell? w _ hx364_16)).trans hx364_16; replace hx364_17 := (HB.1.cell (World.block_lt_of_cell? w _ hx364_17)).trans hx364_17; replace hx364_18 := (HB.1.cell (World.block_lt_of_cell? w _ hx364_18)).trans hx364_18; replace hx364_19 := (HB.1.cell (World.block_lt_of_cell? w _ hx364_19)).trans hx364_19; replace hx364_20 := (HB.1.cell (World.block_lt_of_cell? w _ hx364_20)).trans hx364_20; replace hx364_21 := (HB.1.cell (World.block_lt_of_cell? w _ hx364_21)).trans hx364_21; have HR364_0 := Am_ hi364_0; have HC364_0 := Am_ hl364_0; clear hi364_0 hl364_0; have HR364_6 := Am_ hi364_6; have HC364_6 := Am_ hl364_6; clear hi364_6 hl364_6; have HR364_17 := Am_ hi364_17; have HC364_17 := Am_ hl364_17; clear hi364_17 hl364_17; have HR364_20 := Am_ hi364_20; have HC364_20 := Am_ hl364_20; clear hi364_20 hl364_20; have HR364_21 := Am_ hi364_21; have HC364_21 := Am_ hl364_21; clear hi364_21 hl364_21; replace p364 := eq_true p364; replace q364 := eq_true q364))
    go_loopg [7, 21] k (fun kq v7 v21 w' => ∃ (x7_1 : Int) (x21_1 : Int), v7 = .int .i64 x7_1 ∧ v21 = .int .i64 x21_1 ∧ Aside0 (impl_CountDelivered.l0 kq a1 x7_1 ((rd_T97 l0_3 a2).f8) (((rd_T97 l0_3 a2).f8).length : Int) x21_1 = some r) ∧ Aside0 (kq ≤ k) ∧ Aside0 (w'.heap[gb362]? = some (.cells #[(.slice A0_0 l0_0.length c0_0), .int .i64 a0_1, .int .i64 a0_2, (.slice (some ad364) l0_3.length c0_3), .int .i64 a0_4, .int .i64 a0_5, .int .i64 a0_6] 33 (0, 0))) ∧ Aside0 (Below w.heap.size w w'))
    case atStart => exact ⟨(0), (0), (by first | rfl | (simp; done) | (simp [*]; done)), (by first | rfl | (simp; done) | (simp [*]; done)), H', ⟨Nat.le_refl _⟩, ⟨by (with_reducible repeat (first | refine kN_ ?_ _ | refine kD_ ?_ | refine kA_ ?_ _)); exact BK362.1⟩, ⟨by repeat (first | (with_reducible first | exact HB.1 | apply bA_ | apply bN_ | apply bD_ | refine bS_ ?_ GE362.1) | exact HB.1)⟩⟩
    case round =>
     clear H'
     try clear c2
     try clear p2
     try clear c3
     try clear p3
     try clear q3
     try clear hx3
     try clear c5
     try clear c6
     try clear c6b0
     try clear c7
     try clear c7b0
     try clear hcz11_0
     try clear hcz11_1
     try clear hcz11_2
     try clear hcz11_3
     try clear hcz11_4
     try clear hcz11_5
     try clear hcz11_6
     try clear hcz9_0
     try clear hcz9_1
     try clear hcz9_2
     try clear hcz9_3
     try clear hcz9_4
     try clear hcz9_5
     try clear hcz9_6
     try clear hfz11_0
     try clear hfz11_1
     try clear hfz11_2
     try clear hfz11_3
     try clear hfz11_4
     try clear hfz11_5
     try clear hfz11_6
     try clear hfz9_0
     try clear hfz9_1
     try clear hfz9_2
     try clear hfz9_3
     try clear hfz9_4
     try clear hfz9_5
     try clear hfz9_6
     try clear hx364_0
     try clear hx364_1
     try clear hx364_10
     try clear hx364_11
     try clear hx364_12
     try clear hx364_13
     try clear hx364_14
     try clear hx364_15
     try clear hx364_16
     try clear hx364_17
     try clear hx364_18
     try clear hx364_19
     try clear hx364_2
     try clear hx364_20
     try clear hx364_21
     try clear hx364_3
     try clear hx364_4
     try clear hx364_5
     try clear hx364_6
     try clear hx364_7
     try clear hx364_8
     try clear hx364_9
     try clear p364
     try clear q364
     obtain ⟨x7_1, x21_1, rfl, rfl, HA, HK1, BK362, HB⟩ := hrel
     cases gk with
     | zero => exact absurd HA.1 (by simp [impl_CountDelivered.l0])
     | succ k1 =>
      have H := HA.1
      clear HA
      simp only [impl_CountDelivered.l0] at H
      by_cases c12 : x21_1 < (((rd_T97 l0_3 a2).f8).length : Int)
      ·rw [if_pos c12] at H
       have c12b0 : decide (x21_1 < (((rd_T97 l0_3 a2).f8).length : Int)) = true := decide_eq_true c12
       clear c12
       by_cases c13 : 0 ≤ x21_1
       ·rw [if_pos c13] at H
        have c13b0 : decide (0 ≤ x21_1) = true := decide_eq_true c13
        clear c13
        by_cases c14 : x21_1 < (((rd_T97 l0_3 a2).f8).length : Int)
        ·rw [if_pos c14] at H
         have c14b0 : decide (x21_1 < (((rd_T97 l0_3 a2).f8).length : Int)) = true := decide_eq_true c14
         clear c14
         by_cases c15 : ((rd_T102 ((rd_T97 l0_3 a2).f8) x21_1).f0) = a1
         ·rw [if_pos c15] at H
          have c15b0 : (((rd_T102 ((rd_T97 l0_3 a2).f8) x21_1).f0) == a1) = true := beq_iff_eq.mpr c15
          have c15b1 : (((rd_T102 ((rd_T97 l0_3 a2).f8) x21_1).f0) != a1) = false := bne_eq_false_iff_eq.mpr c15
          clear c15
          have H' := Am_ H
          clear H
          have p365 : 0 ≤ (x21_1 : Int) := of_decide_eq_true (by first | (with_reducible assumption) | assumption)
          have q365 : x21_1 < (((rd_T97 l0_3 a2).f8).length : Int) := of_decide_eq_true (by first | (with_reducible assumption) | assumption)
          obtain ⟨ad365, A365_3, c365_3, e365, hx365_0, hx365_1, hx365_2, hx365_3, hl365_3, hi365_3⟩ := at_T102 HR364_21.1 x21_1 p365 q365
          cases e365
          replace hx365_0 := (HB.1.cell (World.block_lt_of_cell? w _ hx365_0)).trans hx365_0
          replace hx365_1 := (HB.1.cell (World.block_lt_of_cell? w _ hx365_1)).trans hx365_1
          replace hx365_2 := (HB.1.cell (World.block_lt_of_cell? w _ hx365_2)).trans hx365_2
          replace hx365_3 := (HB.1.cell (World.block_lt_of_cell? w _ hx365_3)).trans hx365_3
          have HR365_3 := Am_ hi365_3
          have HC365_3 := Am_ hl365_3
          clear hi365_3 hl365_3
          replace p365 := eq_true p365
          replace q365 := eq_true q365
          go_wp2_with (first | ((with_reducible refine gate_dst (N := 9) rfl ?_); refine box_event ?hg (N := 9) ?hd (cs := #[.int .i64 0, .int .i64 0, .int .i64 0, .slice none 0 0]) (t := 102) ?hr ?_; (case hd => rfl); (case hg => rfl); (case hr => first | (go_simp; done) | (go_simp; rfl)); intro gb366 hg w16 hbox hb; have n0_ := Am_ (kB_ (g := gb362) (by (with_reducible repeat (first | refine kN_ ?_ _ | refine kD_ ?_ | refine kA_ ?_ _)); exact BK362.1) hb); have n1_ := Am_ (bT_ (by repeat (first | (with_reducible first | exact HB.1 | apply bA_ | apply bN_ | apply bD_ | refine bS_ ?_ GE362.1) | exact HB.1)) hb); have n2_ := Am_ (hbox); have n3_ := Am_ ((by rw [hg]; exact (bZ_ (by repeat (first | (with_reducible first | exact HB.1 | apply bA_ | apply bN_ | apply bD_ | refine bS_ ?_ GE362.1) | exact HB.1))) : w.heap.size ≤ gb366)); have n4_ := Am_ ((by rw [hg]; exact (bZ_ (by repeat (first | (with_reducible first | exact HB.1 | apply bA_ | apply bN_ | apply bD_ | refine bS_ ?_ GE362.1) | exact HB.1))) : w.heap.size ≤ gb366)); have n5_ := Am_ ((by rw [hg]; exact Nat.ne_of_lt (blk_lt (g := gb362) (by (with_reducible repeat (first | refine kN_ ?_ _ | refine kD_ ?_ | refine kA_ ?_ _)); exact BK362.1)) : gb362 ≠ gb366)); have n6_ := Am_ ((by rw [hg]; exact Nat.ne_of_gt (blk_lt (g := gb362) (by (with_reducible repeat (first | refine kN_ ?_ _ | refine kD_ ?_ | refine kA_ ?_ _)); exact BK362.1)) : gb366 ≠ gb362)); clear BK362 HB; have BK362 := n0_; have HB := n1_; have BK366 := n2_; have GW366 := n3_; have GE366 := n4_; have NB362_366 := n5_; have NB366_362 := n6_; clear n0_ n1_ n2_ n3_ n4_ n5_ n6_ hb hbox hg; have hnb17 := NB366_362.1; have hnc17 := NB362_366.1; have hcz18_0 : w16.cell? ⟨gb366, 0, none⟩ = some (.int .i64 0) := kC_ BK366.1 0; have hcz18_1 : w16.cell? ⟨gb366, 1, none⟩ = some (.int .i64 0) := kC_ BK366.1 1; have hcz18_2 : w16.cell? ⟨gb366, 2, none⟩ = some (.int .i64 0) := kC_ BK366.1 2; have hcz18_3 : w16.cell? ⟨gb366, 3, none⟩ = some (.slice none 0 0) := kC_ BK366.1 3; have hfz18_0 := kF_ BK366.1 0; have hfz18_1 := kF_ BK366.1 1; have hfz18_2 := kF_ BK366.1 2; have hfz18_3 := kF_ BK366.1 3))
          go_roundg k1
          case measure => have := HK1.1; omega
          case rel => exact ⟨(wrap64 (x7_1 + 1)), (wrap64 (x21_1 + 1)), (by first | rfl | (simp; done) | (simp [*]; done)), (by first | rfl | (simp; done) | (simp [*]; done)), H', ⟨by have := HK1.1; omega⟩, ⟨by (with_reducible repeat (first | refine kN_ ?_ _ | refine kD_ ?_ | refine kA_ ?_ _)); refine blk_far ?_ NB362_366.1 _; (with_reducible repeat (first | refine kN_ ?_ _ | refine kD_ ?_ | refine kA_ ?_ _)); refine blk_far ?_ NB362_366.1 _; (with_reducible repeat (first | refine kN_ ?_ _ | refine kD_ ?_ | refine kA_ ?_ _)); refine blk_far ?_ NB362_366.1 _; (with_reducible repeat (first | refine kN_ ?_ _ | refine kD_ ?_ | refine kA_ ?_ _)); refine blk_far ?_ NB362_366.1 _; (with_reducible repeat (first | refine kN_ ?_ _ | refine kD_ ?_ | refine kA_ ?_ _)); exact BK362.1⟩, ⟨by repeat (first | (with_reducible first | exact HB.1 | apply bA_ | apply bN_ | apply bD_ | refine bS_ ?_ GE362.1 | refine bS_ ?_ GE366.1) | exact HB.1)⟩⟩
         ·rw [if_neg c15] at H
          have c15b0 : (((rd_T102 ((rd_T97 l0_3 a2).f8) x21_1).f0) == a1) = false := beq_eq_false_iff_ne.mpr c15
          have c15b1 : (((rd_T102 ((rd_T97 l0_3 a2).f8) x21_1).f0) != a1) = true := bne_iff_ne.mpr c15
          have H' := Am_ H
          clear H
          have p365 : 0 ≤ (x21_1 : Int) := of_decide_eq_true (by first | (with_reducible assumption) | assumption)
          have q365 : x21_1 < (((rd_T97 l0_3 a2).f8).length : Int) := of_decide_eq_true (by first | (with_reducible assumption) | assumption)
          obtain ⟨ad365, A365_3, c365_3, e365, hx365_0, hx365_1, hx365_2, hx365_3, hl365_3, hi365_3⟩ := at_T102 HR364_21.1 x21_1 p365 q365
          cases e365
          replace hx365_0 := (HB.1.cell (World.block_lt_of_cell? w _ hx365_0)).trans hx365_0
          replace hx365_1 := (HB.1.cell (World.block_lt_of_cell? w _ hx365_1)).trans hx365_1
          replace hx365_2 := (HB.1.cell (World.block_lt_of_cell? w _ hx365_2)).trans hx365_2
          replace hx365_3 := (HB.1.cell (World.block_lt_of_cell? w _ hx365_3)).trans hx365_3
          have HR365_3 := Am_ hi365_3
          have HC365_3 := Am_ hl365_3
          clear hi365_3 hl365_3
          replace p365 := eq_true p365
          replace q365 := eq_true q365
          go_wp2_with (first | ((with_reducible refine gate_dst (N := 9) rfl ?_); refine box_event ?hg (N := 9) ?hd (cs := #[.int .i64 0, .int .i64 0, .int .i64 0, .slice none 0 0]) (t := 102) ?hr ?_; (case hd => rfl); (case hg => rfl); (case hr => first | (go_simp; done) | (go_simp; rfl)); intro gb366 hg w19 hbox hb; have n0_ := Am_ (kB_ (g := gb362) (by (with_reducible repeat (first | refine kN_ ?_ _ | refine kD_ ?_ | refine kA_ ?_ _)); exact BK362.1) hb); have n1_ := Am_ (bT_ (by repeat (first | (with_reducible first | exact HB.1 | apply bA_ | apply bN_ | apply bD_ | refine bS_ ?_ GE362.1) | exact HB.1)) hb); have n2_ := Am_ (hbox); have n3_ := Am_ ((by rw [hg]; exact (bZ_ (by repeat (first | (with_reducible first | exact HB.1 | apply bA_ | apply bN_ | apply bD_ | refine bS_ ?_ GE362.1) | exact HB.1))) : w.heap.size ≤ gb366)); have n4_ := Am_ ((by rw [hg]; exact (bZ_ (by repeat (first | (with_reducible first | exact HB.1 | apply bA_ | apply bN_ | apply bD_ | refine bS_ ?_ GE362.1) | exact HB.1))) : w.heap.size ≤ gb366)); have n5_ := Am_ ((by rw [hg]; exact Nat.ne_of_lt (blk_lt (g := gb362) (by (with_reducible repeat (first | refine kN_ ?_ _ | refine kD_ ?_ | refine kA_ ?_ _)); exact BK362.1)) : gb362 ≠ gb366)); have n6_ := Am_ ((by rw [hg]; exact Nat.ne_of_gt (blk_lt (g := gb362) (by (with_reducible repeat (first | refine kN_ ?_ _ | refine kD_ ?_ | refine kA_ ?_ _)); exact BK362.1)) : gb366 ≠ gb362)); clear BK362 HB; have BK362 := n0_; have HB := n1_; have BK366 := n2_; have GW366 := n3_; have GE366 := n4_; have NB362_366 := n5_; have NB366_362 := n6_; clear n0_ n1_ n2_ n3_ n4_ n5_ n6_ hb hbox hg; have hnb20 := NB366_362.1; have hnc20 := NB362_366.1; have hcz21_0 : w19.cell? ⟨gb366, 0, none⟩ = some (.int .i64 0) := kC_ BK366.1 0; have hcz21_1 : w19.cell? ⟨gb366, 1, none⟩ = some (.int .i64 0) := kC_ BK366.1 1; have hcz21_2 : w19.cell? ⟨gb366, 2, none⟩ = some (.int .i64 0) := kC_ BK366.1 2; have hcz21_3 : w19.cell? ⟨gb366, 3, none⟩ = some (.slice none 0 0) := kC_ BK366.1 3; have hfz21_0 := kF_ BK366.1 0; have hfz21_1 := kF_ BK366.1 1; have hfz21_2 := kF_ BK366.1 2; have hfz21_3 := kF_ BK366.1 3))
          go_roundg k1
          case measure => have := HK1.1; omega
          case rel => exact ⟨(x7_1), (wrap64 (x21_1 + 1)), (by first | rfl | (simp; done) | (simp [*]; done)), (by first | rfl | (simp; done) | (simp [*]; done)), H', ⟨by have := HK1.1; omega⟩, ⟨by (with_reducible repeat (first | refine kN_ ?_ _ | refine kD_ ?_ | refine kA_ ?_ _)); refine blk_far ?_ NB362_366.1 _; (with_reducible repeat (first | refine kN_ ?_ _ | refine kD_ ?_ | refine kA_ ?_ _)); refine blk_far ?_ NB362_366.1 _; (with_reducible repeat (first | refine kN_ ?_ _ | refine kD_ ?_ | refine kA_ ?_ _)); refine blk_far ?_ NB362_366.1 _; (with_reducible repeat (first | refine kN_ ?_ _ | refine kD_ ?_ | refine kA_ ?_ _)); refine blk_far ?_ NB362_366.1 _; (with_reducible repeat (first | refine kN_ ?_ _ | refine kD_ ?_ | refine kA_ ?_ _)); exact BK362.1⟩, ⟨by repeat (first | (with_reducible first | exact HB.1 | apply bA_ | apply bN_ | apply bD_ | refine bS_ ?_ GE362.1 | refine bS_ ?_ GE366.1) | exact HB.1)⟩⟩
        ·rw [if_neg c14] at H
         exact absurd H (by simp)
       ·rw [if_neg c13] at H
        exact absurd H (by simp)
      ·rw [if_neg c12] at H
       have c12b0 : decide (x21_1 < (((rd_T97 l0_3 a2).f8).length : Int)) = false := decide_eq_false c12
       clear c12
       obtain rfl := Option.some.inj H
       go_wp2
       go_ret
       exact ⟨by first | rfl | (simp [errW_none, errW_some] <;> rfl) | (simp [*, errW_none, errW_some] <;> rfl), by repeat (first | (with_reducible first | exact HB.1 | apply bA_ | apply bN_ | apply bD_ | refine bS_ ?_ GE362.1) | exact HB.1)⟩
   ·rw [if_neg c7] at H
    exact absurd H (by simp)
  ·rw [if_neg c6] at H
   exact absurd H (by simp)
 ·replace c5 := Bool.eq_false_iff.mpr c5
  subst c5
  have H1 : (some 0) = some r := by rw [if_neg (show ¬ (false = true) by decide)] at H; exact H
  clear H
  have H := H1
  clear H1
  obtain rfl := Option.some.inj H
  go_enter Try.func25, Try.ntmps25
  go_wp2_with (first | ((with_reducible refine gate_dst (N := 3) rfl ?_); refine box_event ?hg (N := 3) ?hd (cs := #[.slice A0_0 l0_0.length c0_0, .int .i64 a0_1, .int .i64 a0_2, .slice A0_3 l0_3.length c0_3, .int .i64 a0_4, .int .i64 a0_5, .int .i64 a0_6]) (t := 33) ?hr ?_; (case hd => rfl); (case hg => rfl); (case hr => first | (go_simp; done) | (go_simp; rfl)); intro gb362 hg w22 hbox hb; have n0_ := Am_ (bT_ (by repeat (first | (with_reducible first | exact HB.1 | apply bA_ | apply bN_ | apply bD_) | exact HB.1)) hb); have n1_ := Am_ (hbox); have n2_ := Am_ ((by rw [hg]; exact (bZ_ (by repeat (first | (with_reducible first | exact HB.1 | apply bA_ | apply bN_ | apply bD_) | exact HB.1))) : w.heap.size ≤ gb362)); have n3_ := Am_ ((by rw [hg]; exact (bZ_ (by repeat (first | (with_reducible first | exact HB.1 | apply bA_ | apply bN_ | apply bD_) | exact HB.1))) : w.heap.size ≤ gb362)); clear HB; have HB := n0_; have BK362 := n1_; have GW362 := n2_; have GE362 := n3_; clear n0_ n1_ n2_ n3_ hb hbox hg; have hcz23_0 : w22.cell? ⟨gb362, 0, none⟩ = some (.slice A0_0 l0_0.length c0_0) := kC_ BK362.1 0; have hcz23_1 : w22.cell? ⟨gb362, 1, none⟩ = some (.int .i64 a0_1) := kC_ BK362.1 1; have hcz23_2 : w22.cell? ⟨gb362, 2, none⟩ = some (.int .i64 a0_2) := kC_ BK362.1 2; have hcz23_3 : w22.cell? ⟨gb362, 3, none⟩ = some (.slice A0_3 l0_3.length c0_3) := kC_ BK362.1 3; have hcz23_4 : w22.cell? ⟨gb362, 4, none⟩ = some (.int .i64 a0_4) := kC_ BK362.1 4; have hcz23_5 : w22.cell? ⟨gb362, 5, none⟩ = some (.int .i64 a0_5) := kC_ BK362.1 5; have hcz23_6 : w22.cell? ⟨gb362, 6, none⟩ = some (.int .i64 a0_6) := kC_ BK362.1 6; have hfz23_0 := kF_ BK362.1 0; have hfz23_1 := kF_ BK362.1 1; have hfz23_2 := kF_ BK362.1 2; have hfz23_3 := kF_ BK362.1 3; have hfz23_4 := kF_ BK362.1 4; have hfz23_5 := kF_ BK362.1 5; have hfz23_6 := kF_ BK362.1 6) | ((with_reducible refine gate_callee (f := 70) rfl ?_); refine goesL_ (some 12) rfl rfl Try.func70 (by kernel_rfl) rfl #[.agg #[.slice A0_0 l0_0.length c0_0, .int .i64 a0_1, .int .i64 a0_2, .slice A0_3 l0_3.length c0_3, .int .i64 a0_4, .int .i64 a0_5, .int .i64 a0_6], .int .i64 a2] rfl (by (try simp only [List.map_toArray, List.map_cons, List.map_nil]); first | done | rfl | (simp only [List.length_drop, List.length_take]; rfl)) ?_; (with_reducible refine (impl_isAirStation.calls _ _ l0_0 a0_1 a0_2 _ _ l0_3 a0_4 a0_5 a0_6 a2 false _ ?side1 ?side2 ?side3 ?side4 A4.1).mono ?_); (case side1 => repeat (first | exact (Kd.C_below HR0_0.1 HB.1) | (with_reducible refine Kd.C_alloc ?_ _) | (with_reducible refine Kd.C_drewN ?_ _) | (with_reducible refine Kd.C_drew ?_))); (case side2 => exact HC0_0.1); (case side3 => repeat (first | exact (Kd.C_below HR0_3.1 HB.1) | (with_reducible refine Kd.C_alloc ?_ _) | (with_reducible refine Kd.C_drewN ?_ _) | (with_reducible refine Kd.C_drew ?_))); (case side4 => exact HC0_3.1); rintro e w24 ⟨rfl, hb⟩; refine ⟨_, rfl, ?_⟩; have n0_ := Am_ (kB_ (g := gb362) (by (with_reducible repeat (first | refine kN_ ?_ _ | refine kD_ ?_ | refine kA_ ?_ _)); exact BK362.1) hb); have n1_ := Am_ (bT_ (by repeat (first | (with_reducible first | exact HB.1 | apply bA_ | apply bN_ | apply bD_ | refine bS_ ?_ GE362.1) | exact HB.1)) hb); clear BK362 HB; have BK362 := n0_; have HB := n1_; clear n0_ n1_; (try clear hb); (try clear hb2); (try clear hk); (try clear hi)))
  go_ret
  exact ⟨by first | rfl | (simp [errW_none, errW_some] <;> rfl) | (simp [*, errW_none, errW_some] <;> rfl), by repeat (first | (with_reducible first | exact HB.1 | apply bA_ | apply bN_ | apply bD_ | refine bS_ ?_ GE362.1) | exact HB.1)⟩

end Go.Proofs.Ytlkofdedkfmaeaa.XFnExactCountDelivered
