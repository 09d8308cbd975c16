/- The functions that the law reaches as plain Lean functions, and of each a proof that its call computes it. Conditions: those that each theorem names. -/
import Derived.Test.YtlkofdedkfmaeaaWS
import Derived.Test.YtlkofdedkfmaeaaWB
import Derived.Test.YtlkofdedkfmaeaaXFnExactUnfinishedFramesx0
import Derived.Test.YtlkofdedkfmaeaaXFnExactUnfinishedFramesx1
namespace Go.Proofs.Ytlkofdedkfmaeaa.XFnExactUnfinishedFrames
open Go.RowKit Go.Proofs.YtlkofdedkfmaeaaW.PrintWords Go.Proofs.YtlkofdedkfmaeaaW.PrintLast Go.Proofs.YtlkofdedkfmaeaaW.PrintMore Go.Proofs.Ytlkofdedkfmaeaa.X
attribute [local go_sem] max2_int min2_int max_two min_two max_three min_three max_four min_four   -- for this text's walks alone
set_option linter.unusedVariables false
set_option linter.unusedSimpArgs false

/-! ### laws_szAirStationS: function 65 -/
def laws_szAirStationS.l0 : Nat → List (S136) → Int → Int → Option (Int)
 | 0, _, _, _ => none
 | k + 1, x0, x1, x5 => if x5 < (x0.length : Int) then (if 0 ≤ x5 then ((laws_szAirStation.f k ((rd_T136 x0 x5).f0.f0) ((rd_T136 x0 x5).f0.f1) ((rd_T136 x0 x5).f1) ((rd_T136 x0 x5).f2.f0) ((rd_T136 x0 x5).f2.f1) ((rd_T136 x0 x5).f2.f2) ((rd_T136 x0 x5).f2.f3) ((rd_T136 x0 x5).f2.f4) ((rd_T136 x0 x5).f3.f0.f0) ((rd_T136 x0 x5).f3.f0.f1) ((rd_T136 x0 x5).f3.f0.f2) ((rd_T136 x0 x5).f3.f0.f3) ((rd_T136 x0 x5).f3.f1) ((rd_T136 x0 x5).f3.f2) ((rd_T136 x0 x5).f3.f3) ((rd_T136 x0 x5).f3.f4) ((rd_T136 x0 x5).f3.f5) ((rd_T136 x0 x5).f4) ((rd_T136 x0 x5).f5) ((rd_T136 x0 x5).f6) ((rd_T136 x0 x5).f7) ((rd_T136 x0 x5).f8) x1).bind fun t124 => (if t124 < 0 then (some (-1)) else (laws_szAirStationS.l0 k x0 t124 (wrap64 (x5 + 1))))) else (none)) else (some x1)
def laws_szAirStationS.f (k : Nat) (l0 : List (S136)) (a1 : Int) : Option (Int) := if (wrap64 (a1 - (l0.length : Int))) < 0 then (some (-1)) else (laws_szAirStationS.l0 k l0 (wrap64 (a1 - (l0.length : Int))) 0)
theorem laws_szAirStationS.mono_l : ∀ k, (∀ y0 y1 y2, LeO (laws_szAirStationS.l0 k y0 y1 y2) (laws_szAirStationS.l0 (k + 1) y0 y1 y2))
 | 0 => fun _ _ _ r h => by simp [laws_szAirStationS.l0] at h
 | k + 1 => by
  have ih0 := laws_szAirStationS.mono_l k
  ·intro y0 y1 y2
   unfold laws_szAirStationS.l0
   repeat' first
   | (with_reducible exact ih0 _ _ _)
   | (with_reducible exact laws_szAirStation.mono _ _ _ _ _ _ _ _ _ _ _ _ _ _ _ _ _ _ _ _ _ _ _ _)
   | (with_reducible exact LeO.refl _)
   | (with_reducible exact LeO.none _)
   | (with_reducible refine LeO.ite ?_ ?_)
   | (with_reducible refine LeO.bind ?_ (fun _ => ?_))
   | exact ih0 _ _ _
   | exact laws_szAirStation.mono _ _ _ _ _ _ _ _ _ _ _ _ _ _ _ _ _ _ _ _ _ _ _ _
   | exact LeO.none _
   | refine LeO.ite ?_ ?_
   | refine LeO.bind ?_ (fun _ => ?_)
theorem laws_szAirStationS.mono : ∀ a0 a1 k, LeO (laws_szAirStationS.f k a0 a1) (laws_szAirStationS.f (k + 1) a0 a1) := by
 intro a0 a1 k
 have ih0 := laws_szAirStationS.mono_l k
 unfold laws_szAirStationS.f
 repeat' first
   | (with_reducible exact ih0 _ _ _)
   | (with_reducible exact laws_szAirStation.mono _ _ _ _ _ _ _ _ _ _ _ _ _ _ _ _ _ _ _ _ _ _ _ _)
   | (with_reducible exact LeO.refl _)
   | (with_reducible exact LeO.none _)
   | (with_reducible refine LeO.ite ?_ ?_)
   | (with_reducible refine LeO.bind ?_ (fun _ => ?_))
   | exact ih0 _ _ _
   | exact laws_szAirStation.mono _ _ _ _ _ _ _ _ _ _ _ _ _ _ _ _ _ _ _ _ _ _ _ _
   | exact LeO.none _
   | refine LeO.ite ?_ ?_
   | refine LeO.bind ?_ (fun _ => ?_)
set_option maxHeartbeats 8000000 in
set_option maxRecDepth 100000 in
theorem laws_szAirStationS.calls (k : Nat) (A0 : Option Addr) (c0 : Nat) (l0 : List (S136)) (a1 : Int) (r : Int) (w : World) (hr0 : Kd.C k136 w A0 l0.length l0) (hc0 : l0.length ≤ c0) (h : laws_szAirStationS.f k l0 a1 = some r) :
  Calls Try.prog 65 #[.slice A0 l0.length c0, .int .i64 a1] w fun e w' => e = .returned (.int .i64 r) ∧ Below w.heap.size w w' := by
 have hu136 := Try.underlying136
 have HR0 := Am_ hr0
 have HC0 := Am_ hc0
 clear hr0 hc0
 have HB := Am_ (Below.refl w.heap.size w)
 have H : (if (wrap64 (a1 - (l0.length : Int))) < 0 then (some (-1)) else (laws_szAirStationS.l0 k l0 (wrap64 (a1 - (l0.length : Int))) 0)) = some r := h
 clear h
 by_cases c3 : (wrap64 (a1 - (l0.length : Int))) < 0
 ·rw [if_pos c3] at H
  have c3b0 : decide ((wrap64 (a1 - (l0.length : Int))) < 0) = true := decide_eq_true c3
  clear c3
  obtain rfl := Option.some.inj H
  go_enter Try.func65, Try.ntmps65
  go_wp2
  go_ret
  exact ⟨by first | rfl | (simp [errW_none, errW_some] <;> rfl) | (simp [*, errW_none, errW_some] <;> rfl), by repeat (first | (with_reducible first | exact HB.1 | apply bA_ | apply bN_ | apply bD_) | exact HB.1)⟩
 ·rw [if_neg c3] at H
  have c3b0 : decide ((wrap64 (a1 - (l0.length : Int))) < 0) = false := decide_eq_false c3
  clear c3
  have H' := Am_ H
  clear H
  go_enter Try.func65, Try.ntmps65
  go_wp2
  go_loopg [1, 5] k (fun kq v1 v5 w' => ∃ (x1_1 : Int) (x5_1 : Int), v1 = .int .i64 x1_1 ∧ v5 = .int .i64 x5_1 ∧ Aside0 (laws_szAirStationS.l0 kq l0 x1_1 x5_1 = some r) ∧ Aside0 (kq ≤ k) ∧ Aside0 (Below w.heap.size w w'))
  case atStart => exact ⟨(wrap64 (a1 - (l0.length : Int))), (0), (by first | rfl | (simp [i64_w]; done) | (simp; done) | (simp [*]; done)), (by first | rfl | (simp [i64_w]; done) | (simp; done) | (simp [*]; done)), H', ⟨Nat.le_refl _⟩, ⟨by repeat (first | (with_reducible first | exact HB.1 | apply bA_ | apply bN_ | apply bD_) | exact HB.1)⟩⟩
  case round =>
   clear H'
   try clear p2
   try clear c3
   try clear c3b0
   obtain ⟨x1_1, x5_1, rfl, rfl, HA, HK1, HB⟩ := hrel
   cases gk with
   | zero => exact absurd HA.1 (by simp [laws_szAirStationS.l0])
   | succ k1 =>
    have H := HA.1
    clear HA
    simp only [laws_szAirStationS.l0] at H
    by_cases c4 : x5_1 < (l0.length : Int)
    ·rw [if_pos c4] at H
     have c4b0 : decide (x5_1 < (l0.length : Int)) = true := decide_eq_true c4
     clear c4
     by_cases c5 : 0 ≤ x5_1
     ·rw [if_pos c5] at H
      have c5b0 : decide (0 ≤ x5_1) = true := decide_eq_true c5
      clear c5
      replace H := Option.bind_eq_some_iff.mp H
      obtain ⟨t124, A60, H⟩ := H
      replace H : (if t124 < 0 then (some (-1)) else (laws_szAirStationS.l0 k1 l0 t124 (wrap64 (x5_1 + 1)))) = some r := H
      have A6 := Am_ A60
      clear A60
      by_cases c7 : t124 < 0
      ·rw [if_pos c7] at H
       have c7b0 : decide (t124 < 0) = true := decide_eq_true c7
       clear c7
       obtain rfl := Option.some.inj H
       have p123 : 0 ≤ (x5_1 : Int) := of_decide_eq_true (by first | (with_reducible assumption) | assumption)
       have q123 : x5_1 < (l0.length : Int) := of_decide_eq_true (by first | (with_reducible assumption) | assumption)
       obtain ⟨ad123, A123_0, c123_0, A123_6, c123_6, A123_17, c123_17, A123_20, c123_20, A123_21, c123_21, e123, hx123, hl123_0, hi123_0, hl123_6, hi123_6, hl123_17, hi123_17, hl123_20, hi123_20, hl123_21, hi123_21⟩ := atL_T136 HR0.1 x5_1 p123 q123
       cases e123
       have HR123_0 := Am_ hi123_0
       have HC123_0 := Am_ hl123_0
       clear hi123_0 hl123_0
       have HR123_6 := Am_ hi123_6
       have HC123_6 := Am_ hl123_6
       clear hi123_6 hl123_6
       have HR123_17 := Am_ hi123_17
       have HC123_17 := Am_ hl123_17
       clear hi123_17 hl123_17
       have HR123_20 := Am_ hi123_20
       have HC123_20 := Am_ hl123_20
       clear hi123_20 hl123_20
       have HR123_21 := Am_ hi123_21
       have HC123_21 := Am_ hl123_21
       clear hi123_21 hl123_21
       replace p123 := eq_true p123
       replace q123 := eq_true q123
       go_wp2_with (first | ((with_reducible refine gate_dst (N := 21) rfl ?_); refine Go.Proofs.Ytlkofdedkfmaeaa.X.loadL_event ?hg (N := 21) ?hd (t := 136) (p := .tmp 20) ?ho ?hp Try.underlying136 rfl ?hi (fun j u hj => (Below.cell (by repeat (first | (with_reducible first | exact HB.1 | apply bA_ | apply bN_ | apply bD_) | exact HB.1) : Below w.heap.size w _) (World.block_lt_of_cell? w _ (hx123 j u hj))).trans (hx123 j u hj)) ?_; (case hd => rfl); (case hg => rfl); (case ho => rfl); (case hi => kernel_rfl); (case hp => first | rfl | (go_simp; done) | (go_simp; rfl))) | ((with_reducible refine gate_callee (f := 100) rfl ?_); refine goesL_ (some 23) rfl rfl Try.func100 (by kernel_rfl) rfl #[.agg #[.slice A123_0 ((rd_T136 l0 x5_1).f0.f0).length c123_0, .int .i64 ((rd_T136 l0 x5_1).f0.f1), .bool ((rd_T136 l0 x5_1).f1), .int .i64 ((rd_T136 l0 x5_1).f2.f0), .int .i64 ((rd_T136 l0 x5_1).f2.f1), .int .i64 ((rd_T136 l0 x5_1).f2.f2), .slice A123_6 ((rd_T136 l0 x5_1).f2.f3).length c123_6, .bool ((rd_T136 l0 x5_1).f2.f4), .int .i64 ((rd_T136 l0 x5_1).f3.f0.f0), .int .i64 ((rd_T136 l0 x5_1).f3.f0.f1), .int .i64 ((rd_T136 l0 x5_1).f3.f0.f2), .int .i64 ((rd_T136 l0 x5_1).f3.f0.f3), .int .i64 ((rd_T136 l0 x5_1).f3.f1), .int .i64 ((rd_T136 l0 x5_1).f3.f2), .int .i64 ((rd_T136 l0 x5_1).f3.f3), .int .i64 ((rd_T136 l0 x5_1).f3.f4), .int .i64 ((rd_T136 l0 x5_1).f3.f5), .slice A123_17 ((rd_T136 l0 x5_1).f4).length c123_17, .int .i64 ((rd_T136 l0 x5_1).f5), .int .i64 ((rd_T136 l0 x5_1).f6), .slice A123_20 ((rd_T136 l0 x5_1).f7).length c123_20, .slice A123_21 ((rd_T136 l0 x5_1).f8).length c123_21], .int .i64 x1_1] rfl (by (try simp only [List.map_toArray, List.map_cons, List.map_nil]); first | done | rfl | (simp only [List.length_drop, List.length_take]; rfl)) ?_; (with_reducible refine (laws_szAirStation.calls k1 _ _ ((rd_T136 l0 x5_1).f0.f0) ((rd_T136 l0 x5_1).f0.f1) ((rd_T136 l0 x5_1).f1) ((rd_T136 l0 x5_1).f2.f0) ((rd_T136 l0 x5_1).f2.f1) ((rd_T136 l0 x5_1).f2.f2) _ _ ((rd_T136 l0 x5_1).f2.f3) ((rd_T136 l0 x5_1).f2.f4) ((rd_T136 l0 x5_1).f3.f0.f0) ((rd_T136 l0 x5_1).f3.f0.f1) ((rd_T136 l0 x5_1).f3.f0.f2) ((rd_T136 l0 x5_1).f3.f0.f3) ((rd_T136 l0 x5_1).f3.f1) ((rd_T136 l0 x5_1).f3.f2) ((rd_T136 l0 x5_1).f3.f3) ((rd_T136 l0 x5_1).f3.f4) ((rd_T136 l0 x5_1).f3.f5) _ _ ((rd_T136 l0 x5_1).f4) ((rd_T136 l0 x5_1).f5) ((rd_T136 l0 x5_1).f6) _ _ ((rd_T136 l0 x5_1).f7) _ _ ((rd_T136 l0 x5_1).f8) x1_1 t124 _ ?side1 ?side2 ?side3 ?side4 ?side5 ?side6 ?side7 ?side8 ?side9 ?side10 A6.1).mono ?_); (case side1 => repeat (first | exact (Kd.C_below HR123_0.1 HB.1) | (with_reducible refine Kd.C_alloc ?_ _) | (with_reducible refine Kd.C_drewN ?_ _) | (with_reducible refine Kd.C_drew ?_))); (case side2 => exact HC123_0.1); (case side3 => repeat (first | exact (Kd.C_below HR123_6.1 HB.1) | (with_reducible refine Kd.C_alloc ?_ _) | (with_reducible refine Kd.C_drewN ?_ _) | (with_reducible refine Kd.C_drew ?_))); (case side4 => exact HC123_6.1); (case side5 => repeat (first | exact (Kd.C_below HR123_17.1 HB.1) | (with_reducible refine Kd.C_alloc ?_ _) | (with_reducible refine Kd.C_drewN ?_ _) | (with_reducible refine Kd.C_drew ?_))); (case side6 => exact HC123_17.1); (case side7 => repeat (first | exact (Kd.C_below HR123_20.1 HB.1) | (with_reducible refine Kd.C_alloc ?_ _) | (with_reducible refine Kd.C_drewN ?_ _) | (with_reducible refine Kd.C_drew ?_))); (case side8 => exact HC123_20.1); (case side9 => repeat (first | exact (Kd.C_below HR123_21.1 HB.1) | (with_reducible refine Kd.C_alloc ?_ _) | (with_reducible refine Kd.C_drewN ?_ _) | (with_reducible refine Kd.C_drew ?_))); (case side10 => exact HC123_21.1); rintro e w8 ⟨rfl, hb⟩; refine ⟨_, rfl, ?_⟩; have n0_ := Am_ (bT_ (by repeat (first | (with_reducible first | exact HB.1 | apply bA_ | apply bN_ | apply bD_) | exact HB.1)) hb); clear HB; have HB := n0_; clear n0_; (try clear hb); (try clear hb2); (try clear hk); (try clear hi)))
       go_ret
       exact ⟨by first | rfl | (simp [errW_none, errW_some] <;> rfl) | (simp [*, errW_none, errW_some] <;> rfl), by repeat (first | (with_reducible first | exact HB.1 | apply bA_ | apply bN_ | apply bD_) | exact HB.1)⟩
      ·rw [if_neg c7] at H
       have c7b0 : decide (t124 < 0) = false := decide_eq_false c7
       clear c7
       have H' := Am_ H
       clear H
       have p123 : 0 ≤ (x5_1 : Int) := of_decide_eq_true (by first | (with_reducible assumption) | assumption)
       have q123 : x5_1 < (l0.length : Int) := of_decide_eq_true (by first | (with_reducible assumption) | assumption)
       obtain ⟨ad123, A123_0, c123_0, A123_6, c123_6, A123_17, c123_17, A123_20, c123_20, A123_21, c123_21, e123, hx123, hl123_0, hi123_0, hl123_6, hi123_6, hl123_17, hi123_17, hl123_20, hi123_20, hl123_21, hi123_21⟩ := atL_T136 HR0.1 x5_1 p123 q123
       cases e123
       have HR123_0 := Am_ hi123_0
       have HC123_0 := Am_ hl123_0
       clear hi123_0 hl123_0
       have HR123_6 := Am_ hi123_6
       have HC123_6 := Am_ hl123_6
       clear hi123_6 hl123_6
       have HR123_17 := Am_ hi123_17
       have HC123_17 := Am_ hl123_17
       clear hi123_17 hl123_17
       have HR123_20 := Am_ hi123_20
       have HC123_20 := Am_ hl123_20
       clear hi123_20 hl123_20
       have HR123_21 := Am_ hi123_21
       have HC123_21 := Am_ hl123_21
       clear hi123_21 hl123_21
       replace p123 := eq_true p123
       replace q123 := eq_true q123
       go_wp2_with (first | ((with_reducible refine gate_dst (N := 21) rfl ?_); refine Go.Proofs.Ytlkofdedkfmaeaa.X.loadL_event ?hg (N := 21) ?hd (t := 136) (p := .tmp 20) ?ho ?hp Try.underlying136 rfl ?hi (fun j u hj => (Below.cell (by repeat (first | (with_reducible first | exact HB.1 | apply bA_ | apply bN_ | apply bD_) | exact HB.1) : Below w.heap.size w _) (World.block_lt_of_cell? w _ (hx123 j u hj))).trans (hx123 j u hj)) ?_; (case hd => rfl); (case hg => rfl); (case ho => rfl); (case hi => kernel_rfl); (case hp => first | rfl | (go_simp; done) | (go_simp; rfl))) | ((with_reducible refine gate_callee (f := 100) rfl ?_); refine goesL_ (some 23) rfl rfl Try.func100 (by kernel_rfl) rfl #[.agg #[.slice A123_0 ((rd_T136 l0 x5_1).f0.f0).length c123_0, .int .i64 ((rd_T136 l0 x5_1).f0.f1), .bool ((rd_T136 l0 x5_1).f1), .int .i64 ((rd_T136 l0 x5_1).f2.f0), .int .i64 ((rd_T136 l0 x5_1).f2.f1), .int .i64 ((rd_T136 l0 x5_1).f2.f2), .slice A123_6 ((rd_T136 l0 x5_1).f2.f3).length c123_6, .bool ((rd_T136 l0 x5_1).f2.f4), .int .i64 ((rd_T136 l0 x5_1).f3.f0.f0), .int .i64 ((rd_T136 l0 x5_1).f3.f0.f1), .int .i64 ((rd_T136 l0 x5_1).f3.f0.f2), .int .i64 ((rd_T136 l0 x5_1).f3.f0.f3), .int .i64 ((rd_T136 l0 x5_1).f3.f1), .int .i64 ((rd_T136 l0 x5_1).f3.f2), .int .i64 ((rd_T136 l0 x5_1).f3.f3), .int .i64 ((rd_T136 l0 x5_1).f3.f4), .int .i64 ((rd_T136 l0 x5_1).f3.f5), .slice A123_17 ((rd_T136 l0 x5_1).f4).length c123_17, .int .i64 ((rd_T136 l0 x5_1).f5), .int .i64 ((rd_T136 l0 x5_1).f6), .slice A123_20 ((rd_T136 l0 x5_1).f7).length c123_20, .slice A123_21 ((rd_T136 l0 x5_1).f8).length c123_21], .int .i64 x1_1] rfl (by (try simp only [List.map_toArray, List.map_cons, List.map_nil]); first | done | rfl | (simp only [List.length_drop, List.length_take]; rfl)) ?_; (with_reducible refine (laws_szAirStation.calls k1 _ _ ((rd_T136 l0 x5_1).f0.f0) ((rd_T136 l0 x5_1).f0.f1) ((rd_T136 l0 x5_1).f1) ((rd_T136 l0 x5_1).f2.f0) ((rd_T136 l0 x5_1).f2.f1) ((rd_T136 l0 x5_1).f2.f2) _ _ ((rd_T136 l0 x5_1).f2.f3) ((rd_T136 l0 x5_1).f2.f4) ((rd_T136 l0 x5_1).f3.f0.f0) ((rd_T136 l0 x5_1).f3.f0.f1) ((rd_T136 l0 x5_1).f3.f0.f2) ((rd_T136 l0 x5_1).f3.f0.f3) ((rd_T136 l0 x5_1).f3.f1) ((rd_T136 l0 x5_1).f3.f2) ((rd_T136 l0 x5_1).f3.f3) ((rd_T136 l0 x5_1).f3.f4) ((rd_T136 l0 x5_1).f3.f5) _ _ ((rd_T136 l0 x5_1).f4) ((rd_T136 l0 x5_1).f5) ((rd_T136 l0 x5_1).f6) _ _ ((rd_T136 l0 x5_1).f7) _ _ ((rd_T136 l0 x5_1).f8) x1_1 t124 _ ?side1 ?side2 ?side3 ?side4 ?side5 ?side6 ?side7 ?side8 ?side9 ?side10 A6.1).mono ?_); (case side1 => repeat (first | exact (Kd.C_below HR123_0.1 HB.1) | (with_reducible refine Kd.C_alloc ?_ _) | (with_reducible refine Kd.C_drewN ?_ _) | (with_reducible refine Kd.C_drew ?_))); (case side2 => exact HC123_0.1); (case side3 => repeat (first | exact (Kd.C_below HR123_6.1 HB.1) | (with_reducible refine Kd.C_alloc ?_ _) | (with_reducible refine Kd.C_drewN ?_ _) | (with_reducible refine Kd.C_drew ?_))); (case side4 => exact HC123_6.1); (case side5 => repeat (first | exact (Kd.C_below HR123_17.1 HB.1) | (with_reducible refine Kd.C_alloc ?_ _) | (with_reducible refine Kd.C_drewN ?_ _) | (with_reducible refine Kd.C_drew ?_))); (case side6 => exact HC123_17.1); (case side7 => repeat (first | exact (Kd.C_below HR123_20.1 HB.1) | (with_reducible refine Kd.C_alloc ?_ _) | (with_reducible refine Kd.C_drewN ?_ _) | (with_reducible refine Kd.C_drew ?_))); (case side8 => exact HC123_20.1); (case side9 => repeat (first | exact (Kd.C_below HR123_21.1 HB.1) | (with_reducible refine Kd.C_alloc ?_ _) | (with_reducible refine Kd.C_drewN ?_ _) | (with_reducible refine Kd.C_drew ?_))); (case side10 => exact HC123_21.1); rintro e w9 ⟨rfl, hb⟩; refine ⟨_, rfl, ?_⟩; have n0_ := Am_ (bT_ (by repeat (first | (with_reducible first | exact HB.1 | apply bA_ | apply bN_ | apply bD_) | exact HB.1)) hb); clear HB; have HB := n0_; clear n0_; (try clear hb); (try clear hb2); (try clear hk); (try clear hi)))
       go_roundg k1
       case measure => have := HK1.1; omega
       case rel => exact ⟨(t124), (wrap64 (x5_1 + 1)), (by first | rfl | (simp [i64_w]; done) | (simp; done) | (simp [*]; done)), (by first | rfl | (simp [i64_w]; done) | (simp; done) | (simp [*]; done)), H', ⟨by have := HK1.1; omega⟩, ⟨by repeat (first | (with_reducible first | exact HB.1 | apply bA_ | apply bN_ | apply bD_) | exact HB.1)⟩⟩
     ·rw [if_neg c5] at H
      exact absurd H (by simp)
    ·rw [if_neg c4] at H
     have c4b0 : decide (x5_1 < (l0.length : Int)) = false := decide_eq_false c4
     clear c4
     obtain rfl := Option.some.inj H
     go_wp2
     go_ret
     exact ⟨by first | rfl | (simp [errW_none, errW_some] <;> rfl) | (simp [*, errW_none, errW_some] <;> rfl), by repeat (first | (with_reducible first | exact HB.1 | apply bA_ | apply bN_ | apply bD_) | exact HB.1)⟩

/-! ### laws_szAir: function 15 -/
def laws_szAir.f (k : Nat) (l0_0 : List Int) (a0_1 : Int) (a0_2 : Int) (l0_3 : List (S136)) (a0_4 : Int) (a0_5 : Int) (a0_6 : Int) (a1 : Int) : Option (Int) := (laws_szPlacement.f l0_0 a0_1 a0_2 a1).bind fun t126 => (if t126 < 0 then (some (-1)) else ((laws_szAirStationS.f k l0_3 t126).bind fun t127 => (if t127 < 0 then (some (-1)) else (some t127))))
theorem laws_szAir.mono : ∀ a0 a1 a2 a3 a4 a5 a6 a7 k, LeO (laws_szAir.f k a0 a1 a2 a3 a4 a5 a6 a7) (laws_szAir.f (k + 1) a0 a1 a2 a3 a4 a5 a6 a7) := by
 intro a0 a1 a2 a3 a4 a5 a6 a7 k
 unfold laws_szAir.f
 repeat' first
   | (with_reducible exact laws_szAirStationS.mono _ _ _)
   | (with_reducible exact LeO.refl _)
   | (with_reducible exact LeO.none _)
   | (with_reducible refine LeO.ite ?_ ?_)
   | (with_reducible refine LeO.bind ?_ (fun _ => ?_))
   | exact laws_szAirStationS.mono _ _ _
   | exact LeO.none _
   | refine LeO.ite ?_ ?_
   | refine LeO.bind ?_ (fun _ => ?_)
set_option maxHeartbeats 8000000 in
set_option maxRecDepth 100000 in
theorem laws_szAir.calls (k : Nat) (A0_0 : Option Addr) (c0_0 : Nat) (l0_0 : List Int) (a0_1 : Int) (a0_2 : Int) (A0_3 : Option Addr) (c0_3 : Nat) (l0_3 : List (S136)) (a0_4 : Int) (a0_5 : Int) (a0_6 : Int) (a1 : Int) (r : Int) (w : World) (hr0_0 : Kd.C (Kd.int .i64) w A0_0 l0_0.length l0_0) (hc0_0 : l0_0.length ≤ c0_0) (hr0_3 : Kd.C k136 w A0_3 l0_3.length l0_3) (hc0_3 : l0_3.length ≤ c0_3) (h : laws_szAir.f k l0_0 a0_1 a0_2 l0_3 a0_4 a0_5 a0_6 a1 = some r) :
  Calls Try.prog 15 #[.agg #[.slice A0_0 l0_0.length c0_0, .int .i64 a0_1, .int .i64 a0_2, .slice A0_3 l0_3.length c0_3, .int .i64 a0_4, .int .i64 a0_5, .int .i64 a0_6], .int .i64 a1] w fun e w' => e = .returned (.int .i64 r) ∧ Below w.heap.size w w' := by
 have hu27 := Try.underlying27
 have hu24 := Try.underlying24
 have HR0_0 := Am_ hr0_0
 have HC0_0 := Am_ hc0_0
 clear hr0_0 hc0_0
 have HR0_3 := Am_ hr0_3
 have HC0_3 := Am_ hc0_3
 clear hr0_3 hc0_3
 have HB := Am_ (Below.refl w.heap.size w)
 have H : ((laws_szPlacement.f l0_0 a0_1 a0_2 a1).bind fun t126 => (if t126 < 0 then (some (-1)) else ((laws_szAirStationS.f k l0_3 t126).bind fun t127 => (if t127 < 0 then (some (-1)) else (some t127))))) = some r := h
 clear h
 replace H := Option.bind_eq_some_iff.mp H
 obtain ⟨t126, A30, H⟩ := H
 replace H : (if t126 < 0 then (some (-1)) else ((laws_szAirStationS.f k l0_3 t126).bind fun t127 => (if t127 < 0 then (some (-1)) else (some t127)))) = some r := H
 have A3 := Am_ A30
 clear A30
 by_cases c4 : t126 < 0
 ·rw [if_pos c4] at H
  have c4b0 : decide (t126 < 0) = true := decide_eq_true c4
  clear c4
  obtain rfl := Option.some.inj H
  go_enter Try.func15, Try.ntmps15
  go_wp2_with (first | ((with_reducible refine gate_dst (N := 2) rfl ?_); refine box_event ?hg (N := 2) ?hd (cs := #[.slice A0_0 l0_0.length c0_0, .int .i64 a0_1, .int .i64 a0_2, .slice A0_3 l0_3.length c0_3, .int .i64 a0_4, .int .i64 a0_5, .int .i64 a0_6]) (t := 27) ?hr ?_; (case hd => rfl); (case hg => rfl); (case hr => first | (go_simp; done) | (go_simp; rfl)); intro gb125 hg w5 hbox hb; have n0_ := Am_ (bT_ (by repeat (first | (with_reducible first | exact HB.1 | apply bA_ | apply bN_ | apply bD_) | exact HB.1)) hb); have n1_ := Am_ (hbox); have n2_ := Am_ ((by rw [hg]; exact (bZ_ (by repeat (first | (with_reducible first | exact HB.1 | apply bA_ | apply bN_ | apply bD_) | exact HB.1))) : w.heap.size ≤ gb125)); have n3_ := Am_ ((by rw [hg]; exact (bZ_ (by repeat (first | (with_reducible first | exact HB.1 | apply bA_ | apply bN_ | apply bD_) | exact HB.1))) : w.heap.size ≤ gb125)); clear HB; have HB := n0_; have BK125 := n1_; have GW125 := n2_; have GE125 := n3_; clear n0_ n1_ n2_ n3_ hb hbox hg; have hcz6_0 : w5.cell? ⟨gb125, 0, none⟩ = some (.slice A0_0 l0_0.length c0_0) := kC_ BK125.1 0; have hcz6_1 : w5.cell? ⟨gb125, 1, none⟩ = some (.int .i64 a0_1) := kC_ BK125.1 1; have hcz6_2 : w5.cell? ⟨gb125, 2, none⟩ = some (.int .i64 a0_2) := kC_ BK125.1 2; have hfz6_0 := kF_ BK125.1 0; have hfz6_1 := kF_ BK125.1 1; have hfz6_2 := kF_ BK125.1 2) | ((with_reducible refine gate_callee (f := 40) rfl ?_); refine goesL_ (some 8) rfl rfl Try.func40 (by kernel_rfl) rfl #[.agg #[.slice A0_0 l0_0.length c0_0, .int .i64 a0_1, .int .i64 a0_2], .int .i64 a1] rfl (by (try simp only [List.map_toArray, List.map_cons, List.map_nil]); first | done | rfl | (simp only [List.length_drop, List.length_take]; rfl)) ?_; (with_reducible refine (laws_szPlacement.calls _ _ l0_0 a0_1 a0_2 a1 t126 _ ?side1 ?side2 A3.1).mono ?_); (case side1 => repeat (first | exact (Kd.C_below HR0_0.1 HB.1) | (with_reducible refine Kd.C_alloc ?_ _) | (with_reducible refine Kd.C_drewN ?_ _) | (with_reducible refine Kd.C_drew ?_))); (case side2 => exact HC0_0.1); rintro e w7 ⟨rfl, hb⟩; refine ⟨_, rfl, ?_⟩; have n0_ := Am_ (kB_ (g := gb125) (by (with_reducible repeat (first | refine kN_ ?_ _ | refine kD_ ?_ | refine kA_ ?_ _)); exact BK125.1) hb); have n1_ := Am_ (bT_ (by repeat (first | (with_reducible first | exact HB.1 | apply bA_ | apply bN_ | apply bD_ | refine bS_ ?_ GE125.1) | exact HB.1)) hb); clear BK125 HB; have BK125 := n0_; have HB := n1_; clear n0_ n1_; (try clear hb); (try clear hb2); (try clear hk); (try clear hi)))
  go_ret
  exact ⟨by first | rfl | (simp [errW_none, errW_some] <;> rfl) | (simp [*, errW_none, errW_some] <;> rfl), by repeat (first | (with_reducible first | exact HB.1 | apply bA_ | apply bN_ | apply bD_ | refine bS_ ?_ GE125.1) | exact HB.1)⟩
 ·rw [if_neg c4] at H
  have c4b0 : decide (t126 < 0) = false := decide_eq_false c4
  clear c4
  replace H := Option.bind_eq_some_iff.mp H
  obtain ⟨t127, A80, H⟩ := H
  replace H : (if t127 < 0 then (some (-1)) else (some t127)) = some r := H
  have A8 := Am_ A80
  clear A80
  by_cases c9 : t127 < 0
  ·rw [if_pos c9] at H
   have c9b0 : decide (t127 < 0) = true := decide_eq_true c9
   clear c9
   obtain rfl := Option.some.inj H
   go_enter Try.func15, Try.ntmps15
   go_wp2_with (first | ((with_reducible refine gate_dst (N := 2) rfl ?_); refine box_event ?hg (N := 2) ?hd (cs := #[.slice A0_0 l0_0.length c0_0, .int .i64 a0_1, .int .i64 a0_2, .slice A0_3 l0_3.length c0_3, .int .i64 a0_4, .int .i64 a0_5, .int .i64 a0_6]) (t := 27) ?hr ?_; (case hd => rfl); (case hg => rfl); (case hr => first | (go_simp; done) | (go_simp; rfl)); intro gb125 hg w10 hbox hb; have n0_ := Am_ (bT_ (by repeat (first | (with_reducible first | exact HB.1 | apply bA_ | apply bN_ | apply bD_) | exact HB.1)) hb); have n1_ := Am_ (hbox); have n2_ := Am_ ((by rw [hg]; exact (bZ_ (by repeat (first | (with_reducible first | exact HB.1 | apply bA_ | apply bN_ | apply bD_) | exact HB.1))) : w.heap.size ≤ gb125)); have n3_ := Am_ ((by rw [hg]; exact (bZ_ (by repeat (first | (with_reducible first | exact HB.1 | apply bA_ | apply bN_ | apply bD_) | exact HB.1))) : w.heap.size ≤ gb125)); clear HB; have HB := n0_; have BK125 := n1_; have GW125 := n2_; have GE125 := n3_; clear n0_ n1_ n2_ n3_ hb hbox hg; have hcz11_0 : w10.cell? ⟨gb125, 0, none⟩ = some (.slice A0_0 l0_0.length c0_0) := kC_ BK125.1 0; have hcz11_1 : w10.cell? ⟨gb125, 1, none⟩ = some (.int .i64 a0_1) := kC_ BK125.1 1; have hcz11_2 : w10.cell? ⟨gb125, 2, none⟩ = some (.int .i64 a0_2) := kC_ BK125.1 2; have hfz11_0 := kF_ BK125.1 0; have hfz11_1 := kF_ BK125.1 1; have hfz11_2 := kF_ BK125.1 2) | ((with_reducible refine gate_callee (f := 40) rfl ?_); refine goesL_ (some 8) rfl rfl Try.func40 (by kernel_rfl) rfl #[.agg #[.slice A0_0 l0_0.length c0_0, .int .i64 a0_1, .int .i64 a0_2], .int .i64 a1] rfl (by (try simp only [List.map_toArray, List.map_cons, List.map_nil]); first | done | rfl | (simp only [List.length_drop, List.length_take]; rfl)) ?_; (with_reducible refine (laws_szPlacement.calls _ _ l0_0 a0_1 a0_2 a1 t126 _ ?side1 ?side2 A3.1).mono ?_); (case side1 => repeat (first | exact (Kd.C_below HR0_0.1 HB.1) | (with_reducible refine Kd.C_alloc ?_ _) | (with_reducible refine Kd.C_drewN ?_ _) | (with_reducible refine Kd.C_drew ?_))); (case side2 => exact HC0_0.1); rintro e w12 ⟨rfl, hb⟩; refine ⟨_, rfl, ?_⟩; have n0_ := Am_ (kB_ (g := gb125) (by (with_reducible repeat (first | refine kN_ ?_ _ | refine kD_ ?_ | refine kA_ ?_ _)); exact BK125.1) hb); have n1_ := Am_ (bT_ (by repeat (first | (with_reducible first | exact HB.1 | apply bA_ | apply bN_ | apply bD_ | refine bS_ ?_ GE125.1) | exact HB.1)) hb); clear BK125 HB; have BK125 := n0_; have HB := n1_; clear n0_ n1_; (try clear hb); (try clear hb2); (try clear hk); (try clear hi); have hcz13_3 : w12.cell? ⟨gb125, 3, none⟩ = some (.slice A0_3 l0_3.length c0_3) := kC_ BK125.1 3; have hfz13_3 := kF_ BK125.1 3) | ((with_reducible refine gate_callee (f := 65) rfl ?_); refine goesL_ (some 14) rfl rfl Try.func65 (by kernel_rfl) rfl #[.slice A0_3 l0_3.length c0_3, .int .i64 t126] rfl (by (try simp only [List.map_toArray, List.map_cons, List.map_nil]); first | done | rfl | (simp only [List.length_drop, List.length_take]; rfl)) ?_; (with_reducible refine (laws_szAirStationS.calls k _ _ l0_3 t126 t127 _ ?side1 ?side2 A8.1).mono ?_); (case side1 => repeat (first | exact (Kd.C_below HR0_3.1 HB.1) | (with_reducible refine Kd.C_alloc ?_ _) | (with_reducible refine Kd.C_drewN ?_ _) | (with_reducible refine Kd.C_drew ?_))); (case side2 => exact HC0_3.1); rintro e w14 ⟨rfl, hb⟩; refine ⟨_, rfl, ?_⟩; have n0_ := Am_ (kB_ (g := gb125) (by (with_reducible repeat (first | refine kN_ ?_ _ | refine kD_ ?_ | refine kA_ ?_ _)); exact BK125.1) hb); have n1_ := Am_ (bT_ (by repeat (first | (with_reducible first | exact HB.1 | apply bA_ | apply bN_ | apply bD_ | refine bS_ ?_ GE125.1) | exact HB.1)) hb); clear BK125 HB; have BK125 := n0_; have HB := n1_; clear n0_ n1_; (try clear hb); (try clear hb2); (try clear hk); (try clear hi)))
   go_ret
   exact ⟨by first | rfl | (simp [errW_none, errW_some] <;> rfl) | (simp [*, errW_none, errW_some] <;> rfl), by repeat (first | (with_reducible first | exact HB.1 | apply bA_ | apply bN_ | apply bD_ | refine bS_ ?_ GE125.1) | exact HB.1)⟩
  ·rw [if_neg c9] at H
   have c9b0 : decide (t127 < 0) = false := decide_eq_false c9
   clear c9
   obtain rfl := Option.some.inj H
   go_enter Try.func15, Try.ntmps15
   go_wp2_with (first | ((with_reducible refine gate_dst (N := 2) rfl ?_); refine box_event ?hg (N := 2) ?hd (cs := #[.slice A0_0 l0_0.length c0_0, .int .i64 a0_1, .int .i64 a0_2, .slice A0_3 l0_3.length c0_3, .int .i64 a0_4, .int .i64 a0_5, .int .i64 a0_6]) (t := 27) ?hr ?_; (case hd => rfl); (case hg => rfl); (case hr => first | (go_simp; done) | (go_simp; rfl)); intro gb125 hg w15 hbox hb; have n0_ := Am_ (bT_ (by repeat (first | (with_reducible first | exact HB.1 | apply bA_ | apply bN_ | apply bD_) | exact HB.1)) hb); have n1_ := Am_ (hbox); have n2_ := Am_ ((by rw [hg]; exact (bZ_ (by repeat (first | (with_reducible first | exact HB.1 | apply bA_ | apply bN_ | apply bD_) | exact HB.1))) : w.heap.size ≤ gb125)); have n3_ := Am_ ((by rw [hg]; exact (bZ_ (by repeat (first | (with_reducible first | exact HB.1 | apply bA_ | apply bN_ | apply bD_) | exact HB.1))) : w.heap.size ≤ gb125)); clear HB; have HB := n0_; have BK125 := n1_; have GW125 := n2_; have GE125 := n3_; clear n0_ n1_ n2_ n3_ hb hbox hg; have hcz16_0 : w15.cell? ⟨gb125, 0, none⟩ = some (.slice A0_0 l0_0.length c0_0) := kC_ BK125.1 0; have hcz16_1 : w15.cell? ⟨gb125, 1, none⟩ = some (.int .i64 a0_1) := kC_ BK125.1 1; have hcz16_2 : w15.cell? ⟨gb125, 2, none⟩ = some (.int .i64 a0_2) := kC_ BK125.1 2; have hfz16_0 := kF_ BK125.1 0; have hfz16_1 := kF_ BK125.1 1; have hfz16_2 := kF_ BK125.1 2) | ((with_reducible refine gate_callee (f := 40) rfl ?_); refine goesL_ (some 8) rfl rfl Try.func40 (by kernel_rfl) rfl #[.agg #[.slice A0_0 l0_0.length c0_0, .int .i64 a0_1, .int .i64 a0_2], .int .i64 a1] rfl (by (try simp only [List.map_toArray, List.map_cons, List.map_nil]); first | done | rfl | (simp only [List.length_drop, List.length_take]; rfl)) ?_; (with_reducible refine (laws_szPlacement.calls _ _ l0_0 a0_1 a0_2 a1 t126 _ ?side1 ?side2 A3.1).mono ?_); (case side1 => repeat (first | exact (Kd.C_below HR0_0.1 HB.1) | (with_reducible refine Kd.C_alloc ?_ _) | (with_reducible refine Kd.C_drewN ?_ _) | (with_reducible refine Kd.C_drew ?_))); (case side2 => exact HC0_0.1); rintro e w17 ⟨rfl, hb⟩; refine ⟨_, rfl, ?_⟩; have n0_ := Am_ (kB_ (g := gb125) (by (with_reducible repeat (first | refine kN_ ?_ _ | refine kD_ ?_ | refine kA_ ?_ _)); exact BK125.1) hb); have n1_ := Am_ (bT_ (by repeat (first | (with_reducible first | exact HB.1 | apply bA_ | apply bN_ | apply bD_ | refine bS_ ?_ GE125.1) | exact HB.1)) hb); clear BK125 HB; have BK125 := n0_; have HB := n1_; clear n0_ n1_; (try clear hb); (try clear hb2); (try clear hk); (try clear hi); have hcz18_3 : w17.cell? ⟨gb125, 3, none⟩ = some (.slice A0_3 l0_3.length c0_3) := kC_ BK125.1 3; have hfz18_3 := kF_ BK125.1 3) | ((with_reducible refine gate_callee (f := 65) rfl ?_); refine goesL_ (some 14) rfl rfl Try.func65 (by kernel_rfl) rfl #[.slice A0_3 l0_3.length c0_3, .int .i64 t126] rfl (by (try simp only [List.map_toArray, List.map_cons, List.map_nil]); first | done | rfl | (simp only [List.length_drop, List.length_take]; rfl)) ?_; (with_reducible refine (laws_szAirStationS.calls k _ _ l0_3 t126 t127 _ ?side1 ?side2 A8.1).mono ?_); (case side1 => repeat (first | exact (Kd.C_below HR0_3.1 HB.1) | (with_reducible refine Kd.C_alloc ?_ _) | (with_reducible refine Kd.C_drewN ?_ _) | (with_reducible refine Kd.C_drew ?_))); (case side2 => exact HC0_3.1); rintro e w19 ⟨rfl, hb⟩; refine ⟨_, rfl, ?_⟩; have n0_ := Am_ (kB_ (g := gb125) (by (with_reducible repeat (first | refine kN_ ?_ _ | refine kD_ ?_ | refine kA_ ?_ _)); exact BK125.1) hb); have n1_ := Am_ (bT_ (by repeat (first | (with_reducible first | exact HB.1 | apply bA_ | apply bN_ | apply bD_ | refine bS_ ?_ GE125.1) | exact HB.1)) hb); clear BK125 HB; have BK125 := n0_; have HB := n1_; clear n0_ n1_; (try clear hb); (try clear hb2); (try clear hk); (try clear hi)))
   go_ret
   exact ⟨by first | rfl | (simp [errW_none, errW_some] <;> rfl) | (simp [*, errW_none, errW_some] <;> rfl), by repeat (first | (with_reducible first | exact HB.1 | apply bA_ | apply bN_ | apply bD_ | refine bS_ ?_ GE125.1) | exact HB.1)⟩

/-! ### spec_UnfinishedFrames: function 16 -/
def spec_UnfinishedFrames.l0 : Nat → Int → Int → List Int → Int → Int → List (S97) → Int → Int → Int → Option (Int)
 | 0, _, _, _, _, _, _, _, _, _ => none
 | k + 1, x3, x4, x129000, x129001, x129002, x129003, x129004, x129005, x129006 => if x4 < (x129003.length : Int) then (if 0 ≤ x4 then (if (rd_T97 x129003 x4).f1 = true then (spec_UnfinishedFrames.l0 k (wrap64 ((wrap64 (x3 + (((rd_T97 x129003 x4).f0.f0).length : Int))) + 1)) (wrap64 (x4 + 1)) x129000 x129001 x129002 x129003 x129004 x129005 x129006) else (spec_UnfinishedFrames.l0 k (wrap64 (x3 + (((rd_T97 x129003 x4).f0.f0).length : Int))) (wrap64 (x4 + 1)) x129000 x129001 x129002 x129003 x129004 x129005 x129006)) else (none)) else (some x3)
def spec_UnfinishedFrames.f (k : Nat) (l0_0 : List Int) (a0_1 : Int) (a0_2 : Int) (l0_3 : List (S97)) (a0_4 : Int) (a0_5 : Int) (a0_6 : Int) : Option (Int) := spec_UnfinishedFrames.l0 k 0 0 l0_0 a0_1 a0_2 l0_3 a0_4 a0_5 a0_6
theorem spec_UnfinishedFrames.mono_l : ∀ k, (∀ y0 y1 y2 y3 y4 y5 y6 y7 y8, LeO (spec_UnfinishedFrames.l0 k y0 y1 y2 y3 y4 y5 y6 y7 y8) (spec_UnfinishedFrames.l0 (k + 1) y0 y1 y2 y3 y4 y5 y6 y7 y8))
 | 0 => fun _ _ _ _ _ _ _ _ _ r h => by simp [spec_UnfinishedFrames.l0] at h
 | k + 1 => by
  have ih0 := spec_UnfinishedFrames.mono_l k
  ·intro y0 y1 y2 y3 y4 y5 y6 y7 y8
   unfold spec_UnfinishedFrames.l0
   repeat' first
   | (with_reducible exact ih0 _ _ _ _ _ _ _ _ _)
   | (with_reducible exact LeO.refl _)
   | (with_reducible exact LeO.none _)
   | (with_reducible refine LeO.ite ?_ ?_)
   | (with_reducible refine LeO.bind ?_ (fun _ => ?_))
   | exact ih0 _ _ _ _ _ _ _ _ _
   | exact LeO.none _
   | refine LeO.ite ?_ ?_
   | refine LeO.bind ?_ (fun _ => ?_)
theorem spec_UnfinishedFrames.mono : ∀ a0 a1 a2 a3 a4 a5 a6 k, LeO (spec_UnfinishedFrames.f k a0 a1 a2 a3 a4 a5 a6) (spec_UnfinishedFrames.f (k + 1) a0 a1 a2 a3 a4 a5 a6) := by
 intro a0 a1 a2 a3 a4 a5 a6 k
 have ih0 := spec_UnfinishedFrames.mono_l k
 unfold spec_UnfinishedFrames.f
 repeat' first
   | (with_reducible exact ih0 _ _ _ _ _ _ _ _ _)
   | (with_reducible exact LeO.refl _)
   | (with_reducible exact LeO.none _)
   | (with_reducible refine LeO.ite ?_ ?_)
   | (with_reducible refine LeO.bind ?_ (fun _ => ?_))
   | exact ih0 _ _ _ _ _ _ _ _ _
   | exact LeO.none _
   | refine LeO.ite ?_ ?_
   | refine LeO.bind ?_ (fun _ => ?_)
set_option maxHeartbeats 8000000 in
set_option maxRecDepth 100000 in
theorem spec_UnfinishedFrames.calls (k : Nat) (A0_0 : Option Addr) (c0_0 : Nat) (l0_0 : List Int) (a0_1 : Int) (a0_2 : Int) (A0_3 : Option Addr) (c0_3 : Nat) (l0_3 : List (S97)) (a0_4 : Int) (a0_5 : Int) (a0_6 : Int) (r : Int) (w : World) (hr0_0 : Kd.C (Kd.int .i64) w A0_0 l0_0.length l0_0) (hc0_0 : l0_0.length ≤ c0_0) (hr0_3 : Kd.C k97 w A0_3 l0_3.length l0_3) (hc0_3 : l0_3.length ≤ c0_3) (h : spec_UnfinishedFrames.f k l0_0 a0_1 a0_2 l0_3 a0_4 a0_5 a0_6 = some r) :
  Calls Try.prog 16 #[.agg #[.slice A0_0 l0_0.length c0_0, .int .i64 a0_1, .int .i64 a0_2, .slice A0_3 l0_3.length c0_3, .int .i64 a0_4, .int .i64 a0_5, .int .i64 a0_6]] w fun e w' => e = .returned (.int .i64 r) ∧ Below w.heap.size w w' := by
 have hu33 := Try.underlying33
 have HR0_0 := Am_ hr0_0
 have HC0_0 := Am_ hc0_0
 clear hr0_0 hc0_0
 have HR0_3 := Am_ hr0_3
 have HC0_3 := Am_ hc0_3
 clear hr0_3 hc0_3
 have HB := Am_ (Below.refl w.heap.size w)
 have H : (spec_UnfinishedFrames.l0 k 0 0 l0_0 a0_1 a0_2 l0_3 a0_4 a0_5 a0_6) = some r := h
 clear h
 have H' := Am_ H
 clear H
 go_enter Try.func16, Try.ntmps16
 go_wp2_with (first | ((with_reducible refine gate_dst (N := 1) rfl ?_); refine box_event ?hg (N := 1) ?hd (cs := #[.slice A0_0 l0_0.length c0_0, .int .i64 a0_1, .int .i64 a0_2, .slice A0_3 l0_3.length c0_3, .int .i64 a0_4, .int .i64 a0_5, .int .i64 a0_6]) (t := 33) ?hr ?_; (case hd => rfl); (case hg => rfl); (case hr => first | (go_simp; done) | (go_simp; rfl)); intro gb128 hg w2 hbox hb; have n0_ := Am_ (bT_ (by repeat (first | (with_reducible first | exact HB.1 | apply bA_ | apply bN_ | apply bD_) | exact HB.1)) hb); have n1_ := Am_ (hbox); have n2_ := Am_ ((by rw [hg]; exact (bZ_ (by repeat (first | (with_reducible first | exact HB.1 | apply bA_ | apply bN_ | apply bD_) | exact HB.1))) : w.heap.size ≤ gb128)); have n3_ := Am_ ((by rw [hg]; exact (bZ_ (by repeat (first | (with_reducible first | exact HB.1 | apply bA_ | apply bN_ | apply bD_) | exact HB.1))) : w.heap.size ≤ gb128)); clear HB; have HB := n0_; have BK128 := n1_; have GW128 := n2_; have GE128 := n3_; clear n0_ n1_ n2_ n3_ hb hbox hg))
 go_loopg [3, 4] k (fun kq v3 v4 w' => ∃ (x3_1 : Int) (x4_1 : Int), v3 = .int .i64 x3_1 ∧ v4 = .int .i64 x4_1 ∧ Aside0 (spec_UnfinishedFrames.l0 kq x3_1 x4_1 l0_0 a0_1 a0_2 l0_3 a0_4 a0_5 a0_6 = some r) ∧ Aside0 (kq ≤ k) ∧ Aside0 (w'.heap[gb128]? = some (.cells #[(.slice A0_0 l0_0.length c0_0), .int .i64 a0_1, .int .i64 a0_2, (.slice A0_3 l0_3.length c0_3), .int .i64 a0_4, .int .i64 a0_5, .int .i64 a0_6] 33 (0, 0))) ∧ Aside0 (Below w.heap.size w w'))
 case atStart => exact ⟨(0), (0), (by first | rfl | (simp; done) | (simp [*]; done)), (by first | rfl | (simp; done) | (simp [*]; done)), H', ⟨Nat.le_refl _⟩, ⟨by (with_reducible repeat (first | refine kN_ ?_ _ | refine kD_ ?_ | refine kA_ ?_ _)); exact BK128.1⟩, ⟨by repeat (first | (with_reducible first | exact HB.1 | apply bA_ | apply bN_ | apply bD_ | refine bS_ ?_ GE128.1) | exact HB.1)⟩⟩
 case round =>
  clear H'
  try clear c1
  try clear p2
  obtain ⟨x3_1, x4_1, rfl, rfl, HA, HK1, BK128, HB⟩ := hrel
  cases gk with
  | zero => exact absurd HA.1 (by simp [spec_UnfinishedFrames.l0])
  | succ k1 =>
   have H := HA.1
   clear HA
   simp only [spec_UnfinishedFrames.l0] at H
   by_cases c3 : x4_1 < (l0_3.length : Int)
   ·rw [if_pos c3] at H
    have c3b0 : decide (x4_1 < (l0_3.length : Int)) = true := decide_eq_true c3
    clear c3
    by_cases c4 : 0 ≤ x4_1
    ·rw [if_pos c4] at H
     have c4b0 : decide (0 ≤ x4_1) = true := decide_eq_true c4
     clear c4
     obtain ⟨bq5, hbq5⟩ : ∃ b_ : Bool, b_ = ((rd_T97 l0_3 x4_1).f1) := ⟨_, rfl⟩
     replace H : (if bq5 = true then (spec_UnfinishedFrames.l0 k1 (wrap64 ((wrap64 (x3_1 + (((rd_T97 l0_3 x4_1).f0.f0).length : Int))) + 1)) (wrap64 (x4_1 + 1)) l0_0 a0_1 a0_2 l0_3 a0_4 a0_5 a0_6) else (spec_UnfinishedFrames.l0 k1 (wrap64 (x3_1 + (((rd_T97 l0_3 x4_1).f0.f0).length : Int))) (wrap64 (x4_1 + 1)) l0_0 a0_1 a0_2 l0_3 a0_4 a0_5 a0_6)) = some r := by rw [← hbq5] at H; exact H
     have Nbq5 := Am_ hbq5
     clear hbq5
     by_cases c6 : bq5 = true
     ·subst c6
      have H1 : (spec_UnfinishedFrames.l0 k1 (wrap64 ((wrap64 (x3_1 + (((rd_T97 l0_3 x4_1).f0.f0).length : Int))) + 1)) (wrap64 (x4_1 + 1)) l0_0 a0_1 a0_2 l0_3 a0_4 a0_5 a0_6) = some r := by rw [if_pos rfl] at H; exact H
      clear H
      have H := H1
      clear H1
      have H' := Am_ H
      clear H
      have hcz7_0 : wr.cell? ⟨gb128, 0, none⟩ = some (.slice A0_0 l0_0.length c0_0) := kC_ BK128.1 0
      have hcz7_1 : wr.cell? ⟨gb128, 1, none⟩ = some (.int .i64 a0_1) := kC_ BK128.1 1
      have hcz7_2 : wr.cell? ⟨gb128, 2, none⟩ = some (.int .i64 a0_2) := kC_ BK128.1 2
      have hcz7_3 : wr.cell? ⟨gb128, 3, none⟩ = some (.slice A0_3 l0_3.length c0_3) := kC_ BK128.1 3
      have hcz7_4 : wr.cell? ⟨gb128, 4, none⟩ = some (.int .i64 a0_4) := kC_ BK128.1 4
      have hcz7_5 : wr.cell? ⟨gb128, 5, none⟩ = some (.int .i64 a0_5) := kC_ BK128.1 5
      have hcz7_6 : wr.cell? ⟨gb128, 6, none⟩ = some (.int .i64 a0_6) := kC_ BK128.1 6
      have hfz7_0 := kF_ BK128.1 0
      have hfz7_1 := kF_ BK128.1 1
      have hfz7_2 := kF_ BK128.1 2
      have hfz7_3 := kF_ BK128.1 3
      have hfz7_4 := kF_ BK128.1 4
      have hfz7_5 := kF_ BK128.1 5
      have hfz7_6 := kF_ BK128.1 6
      have p129 : 0 ≤ (x4_1 : Int) := of_decide_eq_true (by first | (with_reducible assumption) | assumption)
      have q129 : x4_1 < (l0_3.length : Int) := of_decide_eq_true (by first | (with_reducible assumption) | assumption)
      obtain ⟨ad129, A129_0, c129_0, A129_6, c129_6, A129_17, c129_17, A129_20, c129_20, A129_21, c129_21, e129, hx129_0, hx129_1, hx129_2, hx129_3, hx129_4, hx129_5, hx129_6, hx129_7, hx129_8, hx129_9, hx129_10, hx129_11, hx129_12, hx129_13, hx129_14, hx129_15, hx129_16, hx129_17, hx129_18, hx129_19, hx129_20, hx129_21, hl129_0, hi129_0, hl129_6, hi129_6, hl129_17, hi129_17, hl129_20, hi129_20, hl129_21, hi129_21⟩ := at_T97 HR0_3.1 x4_1 p129 q129
      (try rw [← Nbq5.1] at hx129_2)
      (try rw [← Nbq5.1] at hx129_7)
      cases e129
      replace hx129_0 := (HB.1.cell (World.block_lt_of_cell? w _ hx129_0)).trans hx129_0
      replace hx129_1 := (HB.1.cell (World.block_lt_of_cell? w _ hx129_1)).trans hx129_1
      replace hx129_2 := (HB.1.cell (World.block_lt_of_cell? w _ hx129_2)).trans hx129_2
      replace hx129_3 := (HB.1.cell (World.block_lt_of_cell? w _ hx129_3)).trans hx129_3
      replace hx129_4 := (HB.1.cell (World.block_lt_of_cell? w _ hx129_4)).trans hx129_4
      replace hx129_5 := (HB.1.cell (World.block_lt_of_cell? w _ hx129_5)).trans hx129_5
      replace hx129_6 := (HB.1.cell (World.block_lt_of_cell? w _ hx129_6)).trans hx129_6
      replace hx129_7 := (HB.1.cell (World.block_lt_of_cell? w _ hx129_7)).trans hx129_7
      replace hx129_8 := (HB.1.cell (World.block_lt_of_cell? w _ hx129_8)).trans hx129_8
      replace hx129_9 := (HB.1.cell (World.block_lt_of_cell? w _ hx129_9)).trans hx129_9
      replace hx129_10 := (HB.1.cell (World.block_lt_of_cell? w _ hx129_10)).trans hx129_10
      replace hx129_11 := (HB.1.cell (World.block_lt_of_cell? w _ hx129_11)).trans hx129_11
      replace hx129_12 := (HB.1.cell (World.block_lt_of_cell? w _ hx129_12)).trans hx129_12
      replace hx129_13 := (HB.1.cell (World.block_lt_of_cell? w _ hx129_13)).trans hx129_13
      replace hx129_14 := (HB.1.cell (World.block_lt_of_cell? w _ hx129_14)).trans hx129_14
      replace hx129_15 := (HB.1.cell (World.block_lt_of_cell? w _ hx129_15)).trans hx129_15
      replace hx129_16 := (HB.1.cell (World.block_lt_of_cell? w _ hx129_16)).trans hx129_16
      replace hx129_17 := (HB.1.cell (World.block_lt_of_cell? w _ hx129_17)).trans hx129_17
      replace hx129_18 := (HB.1.cell (World.block_lt_of_cell? w _ hx129_18)).trans hx129_18
      replace hx129_19 := (HB.1.cell (World.block_lt_of_cell? w _ hx129_19)).trans hx129_19
      replace hx129_20 := (HB.1.cell (World.block_lt_of_cell? w _ hx129_20)).trans hx129_20
      replace hx129_21 := (HB.1.cell (World.block_lt_of_cell? w _ hx129_21)).trans hx129_21
      have HR129_0 := Am_ hi129_0
      have HC129_0 := Am_ hl129_0
      clear hi129_0 hl129_0
      have HR129_6 := Am_ hi129_6
      have HC129_6 := Am_ hl129_6
      clear hi129_6 hl129_6
      have HR129_17 := Am_ hi129_17
      have HC129_17 := Am_ hl129_17
      clear hi129_17 hl129_17
      have HR129_20 := Am_ hi129_20
      have HC129_20 := Am_ hl129_20
      clear hi129_20 hl129_20
      have HR129_21 := Am_ hi129_21
      have HC129_21 := Am_ hl129_21
      clear hi129_21 hl129_21
      replace p129 := eq_true p129
      replace q129 := eq_true q129
      have p130 : 0 ≤ (x4_1 : Int) := of_decide_eq_true (by first | (with_reducible assumption) | assumption)
      have q130 : x4_1 < (l0_3.length : Int) := of_decide_eq_true (by first | (with_reducible assumption) | assumption)
      obtain ⟨ad130, A130_0, c130_0, A130_6, c130_6, A130_17, c130_17, A130_20, c130_20, A130_21, c130_21, e130, hx130_0, hx130_1, hx130_2, hx130_3, hx130_4, hx130_5, hx130_6, hx130_7, hx130_8, hx130_9, hx130_10, hx130_11, hx130_12, hx130_13, hx130_14, hx130_15, hx130_16, hx130_17, hx130_18, hx130_19, hx130_20, hx130_21, hl130_0, hi130_0, hl130_6, hi130_6, hl130_17, hi130_17, hl130_20, hi130_20, hl130_21, hi130_21⟩ := at_T97 HR0_3.1 x4_1 p130 q130
      (try rw [← Nbq5.1] at hx130_2)
      (try rw [← Nbq5.1] at hx130_7)
      obtain rfl : ad129 = ad130 := (by injection e130)
      replace hx130_0 := (HB.1.cell (World.block_lt_of_cell? w _ hx130_0)).trans hx130_0
      replace hx130_1 := (HB.1.cell (World.block_lt_of_cell? w _ hx130_1)).trans hx130_1
      replace hx130_2 := (HB.1.cell (World.block_lt_of_cell? w _ hx130_2)).trans hx130_2
      replace hx130_3 := (HB.1.cell (World.block_lt_of_cell? w _ hx130_3)).trans hx130_3
      replace hx130_4 := (HB.1.cell (World.block_lt_of_cell? w _ hx130_4)).trans hx130_4
      replace hx130_5 := (HB.1.cell (World.block_lt_of_cell? w _ hx130_5)).trans hx130_5
      replace hx130_6 := (HB.1.cell (World.block_lt_of_cell? w _ hx130_6)).trans hx130_6
      replace hx130_7 := (HB.1.cell (World.block_lt_of_cell? w _ hx130_7)).trans hx130_7
      replace hx130_8 := (HB.1.cell (World.block_lt_of_cell? w _ hx130_8)).trans hx130_8
      replace hx130_9 := (HB.1.cell (World.block_lt_of_cell? w _ hx130_9)).trans hx130_9
      replace hx130_10 := (HB.1.cell (World.block_lt_of_cell? w _ hx130_10)).trans hx130_10
      replace hx130_11 := (HB.1.cell (World.block_lt_of_cell? w _ hx130_11)).trans hx130_11
      replace hx130_12 := (HB.1.cell (World.block_lt_of_cell? w _ hx130_12)).trans hx130_12
      replace hx130_13 := (HB.1.cell (World.block_lt_of_cell? w _ hx130_13)).trans hx130_13
      replace hx130_14 := (HB.1.cell (World.block_lt_of_cell? w _ hx130_14)).trans hx130_14
      replace hx130_15 := (HB.1.cell (World.block_lt_of_cell? w _ hx130_15)).trans hx130_15
      replace hx130_16 := (HB.1.cell (World.block_lt_of_cell? w _ hx130_16)).trans hx130_16
      replace hx130_17 := (HB.1.cell (World.block_lt_of_cell? w _ hx130_17)).trans hx130_17
      replace hx130_18 := (HB.1.cell (World.block_lt_of_cell? w _ hx130_18)).trans hx130_18
      replace hx130_19 := (HB.1.cell (World.block_lt_of_cell? w _ hx130_19)).trans hx130_19
      replace hx130_20 := (HB.1.cell (World.block_lt_of_cell? w _ hx130_20)).trans hx130_20
      replace hx130_21 := (HB.1.cell (World.block_lt_of_cell? w _ hx130_21)).trans hx130_21
      have HR130_0 := Am_ hi130_0
      have HC130_0 := Am_ hl130_0
      clear hi130_0 hl130_0
      have HR130_6 := Am_ hi130_6
      have HC130_6 := Am_ hl130_6
      clear hi130_6 hl130_6
      have HR130_17 := Am_ hi130_17
      have HC130_17 := Am_ hl130_17
      clear hi130_17 hl130_17
      have HR130_20 := Am_ hi130_20
      have HC130_20 := Am_ hl130_20
      clear hi130_20 hl130_20
      have HR130_21 := Am_ hi130_21
      have HC130_21 := Am_ hl130_21
      clear hi130_21 hl130_21
      replace p130 := eq_true p130
      replace q130 := eq_true q130
      have ea_ := Option.some.inj (hx129_0.symm.trans hx130_0)
      injection ea_ with ea_ en_ ec_
      subst ea_
      subst ec_
      clear en_
      have ea_ := Option.some.inj (hx129_6.symm.trans hx130_6)
      injection ea_ with ea_ en_ ec_
      subst ea_
      subst ec_
      clear en_
      have ea_ := Option.some.inj (hx129_17.symm.trans hx130_17)
      injection ea_ with ea_ en_ ec_
      subst ea_
      subst ec_
      clear en_
      have ea_ := Option.some.inj (hx129_20.symm.trans hx130_20)
      injection ea_ with ea_ en_ ec_
      subst ea_
      subst ec_
      clear en_
      have ea_ := Option.some.inj (hx129_21.symm.trans hx130_21)
      injection ea_ with ea_ en_ ec_
      subst ea_
      subst ec_
      clear en_
      go_wp2
      go_roundg k1
      case measure => have := HK1.1; omega
      case rel => exact ⟨(wrap64 ((wrap64 (x3_1 + (((rd_T97 l0_3 x4_1).f0.f0).length : Int))) + 1)), (wrap64 (x4_1 + 1)), (by first | rfl | (simp; done) | (simp [*]; done)), (by first | rfl | (simp; done) | (simp [*]; done)), H', ⟨by have := HK1.1; omega⟩, ⟨by (with_reducible repeat (first | refine kN_ ?_ _ | refine kD_ ?_ | refine kA_ ?_ _)); exact BK128.1⟩, ⟨by repeat (first | (with_reducible first | exact HB.1 | apply bA_ | apply bN_ | apply bD_ | refine bS_ ?_ GE128.1) | exact HB.1)⟩⟩
     ·replace c6 := Bool.eq_false_iff.mpr c6
      subst c6
      have H1 : (spec_UnfinishedFrames.l0 k1 (wrap64 (x3_1 + (((rd_T97 l0_3 x4_1).f0.f0).length : Int))) (wrap64 (x4_1 + 1)) l0_0 a0_1 a0_2 l0_3 a0_4 a0_5 a0_6) = some r := by rw [if_neg (show ¬ (false = true) by decide)] at H; exact H
      clear H
      have H := H1
      clear H1
      have H' := Am_ H
      clear H
      have hcz8_0 : wr.cell? ⟨gb128, 0, none⟩ = some (.slice A0_0 l0_0.length c0_0) := kC_ BK128.1 0
      have hcz8_1 : wr.cell? ⟨gb128, 1, none⟩ = some (.int .i64 a0_1) := kC_ BK128.1 1
      have hcz8_2 : wr.cell? ⟨gb128, 2, none⟩ = some (.int .i64 a0_2) := kC_ BK128.1 2
      have hcz8_3 : wr.cell? ⟨gb128, 3, none⟩ = some (.slice A0_3 l0_3.length c0_3) := kC_ BK128.1 3
      have hcz8_4 : wr.cell? ⟨gb128, 4, none⟩ = some (.int .i64 a0_4) := kC_ BK128.1 4
      have hcz8_5 : wr.cell? ⟨gb128, 5, none⟩ = some (.int .i64 a0_5) := kC_ BK128.1 5
      have hcz8_6 : wr.cell? ⟨gb128, 6, none⟩ = some (.int .i64 a0_6) := kC_ BK128.1 6
      have hfz8_0 := kF_ BK128.1 0
      have hfz8_1 := kF_ BK128.1 1
      have hfz8_2 := kF_ BK128.1 2
      have hfz8_3 := kF_ BK128.1 3
      have hfz8_4 := kF_ BK128.1 4
      have hfz8_5 := kF_ BK128.1 5
      have hfz8_6 := kF_ BK128.1 6
      have p129 : 0 ≤ (x4_1 : Int) := of_decide_eq_true (by first | (with_reducible assumption) | assumption)
      have q129 : x4_1 < (l0_3.length : Int) := of_decide_eq_true (by first | (with_reducible assumption) | assumption)
      obtain ⟨ad129, A129_0, c129_0, A129_6, c129_6, A129_17, c129_17, A129_20, c129_20, A129_21, c129_21, e129, hx129_0, hx129_1, hx129_2, hx129_3, hx129_4, hx129_5, hx129_6, hx129_7, hx129_8, hx129_9, hx129_10, hx129_11, hx129_12, hx129_13, hx129_14, hx129_15, hx129_16, hx129_17, hx129_18, hx129_19, hx129_20, hx129_21, hl129_0, hi129_0, hl129_6, hi129_6, hl129_17, hi129_17, hl129_20, hi129_20, hl129_21, hi129_21⟩ := at_T97 HR0_3.1 x4_1 p129 q129
      (try rw [← Nbq5.1] at hx129_2)
      (try rw [← Nbq5.1] at hx129_7)
      cases e129
      replace hx129_0 := (HB.1.cell (World.block_lt_of_cell? w _ hx129_0)).trans hx129_0
      replace hx129_1 := (HB.1.cell (World.block_lt_of_cell? w _ hx129_1)).trans hx129_1
      replace hx129_2 := (HB.1.cell (World.block_lt_of_cell? w _ hx129_2)).trans hx129_2
      replace hx129_3 := (HB.1.cell (World.block_lt_of_cell? w _ hx129_3)).trans hx129_3
      replace hx129_4 := (HB.1.cell (World.block_lt_of_cell? w _ hx129_4)).trans hx129_4
      replace hx129_5 := (HB.1.cell (World.block_lt_of_cell? w _ hx129_5)).trans hx129_5
      replace hx129_6 := (HB.1.cell (World.block_lt_of_cell? w _ hx129_6)).trans hx129_6
      replace hx129_7 := (HB.1.cell (World.block_lt_of_cell? w _ hx129_7)).trans hx129_7
      replace hx129_8 := (HB.1.cell (World.block_lt_of_cell? w _ hx129_8)).trans hx129_8
      replace hx129_9 := (HB.1.cell (World.block_lt_of_cell? w _ hx129_9)).trans hx129_9
      replace hx129_10 := (HB.1.cell (World.block_lt_of_cell? w _ hx129_10)).trans hx129_10
      replace hx129_11 := (HB.1.cell (World.block_lt_of_cell? w _ hx129_11)).trans hx129_11
      replace hx129_12 := (HB.1.cell (World.block_lt_of_cell? w _ hx129_12)).trans hx129_12
      replace hx129_13 := (HB.1.cell (World.block_lt_of_cell? w _ hx129_13)).trans hx129_13
      replace hx129_14 := (HB.1.cell (World.block_lt_of_cell? w _ hx129_14)).trans hx129_14
      replace hx129_15 := (HB.1.cell (World.block_lt_of_cell? w _ hx129_15)).trans hx129_15
      replace hx129_16 := (HB.1.cell (World.block_lt_of_cell? w _ hx129_16)).trans hx129_16
      replace hx129_17 := (HB.1.cell (World.block_lt_of_cell? w _ hx129_17)).trans hx129_17
      replace hx129_18 := (HB.1.cell (World.block_lt_of_cell? w _ hx129_18)).trans hx129_18
      replace hx129_19 := (HB.1.cell (World.block_lt_of_cell? w _ hx129_19)).trans hx129_19
      replace hx129_20 := (HB.1.cell (World.block_lt_of_cell? w _ hx129_20)).trans hx129_20
      replace hx129_21 := (HB.1.cell (World.block_lt_of_cell? w _ hx129_21)).trans hx129_21
      have HR129_0 := Am_ hi129_0
      have HC129_0 := Am_ hl129_0
      clear hi129_0 hl129_0
      have HR129_6 := Am_ hi129_6
      have HC129_6 := Am_ hl129_6
      clear hi129_6 hl129_6
      have HR129_17 := Am_ hi129_17
      have HC129_17 := Am_ hl129_17
      clear hi129_17 hl129_17
      have HR129_20 := Am_ hi129_20
      have HC129_20 := Am_ hl129_20
      clear hi129_20 hl129_20
      have HR129_21 := Am_ hi129_21
      have HC129_21 := Am_ hl129_21
      clear hi129_21 hl129_21
      replace p129 := eq_true p129
      replace q129 := eq_true q129
      have p130 : 0 ≤ (x4_1 : Int) := of_decide_eq_true (by first | (with_reducible assumption) | assumption)
      have q130 : x4_1 < (l0_3.length : Int) := of_decide_eq_true (by first | (with_reducible assumption) | assumption)
      obtain ⟨ad130, A130_0, c130_0, A130_6, c130_6, A130_17, c130_17, A130_20, c130_20, A130_21, c130_21, e130, hx130_0, hx130_1, hx130_2, hx130_3, hx130_4, hx130_5, hx130_6, hx130_7, hx130_8, hx130_9, hx130_10, hx130_11, hx130_12, hx130_13, hx130_14, hx130_15, hx130_16, hx130_17, hx130_18, hx130_19, hx130_20, hx130_21, hl130_0, hi130_0, hl130_6, hi130_6, hl130_17, hi130_17, hl130_20, hi130_20, hl130_21, hi130_21⟩ := at_T97 HR0_3.1 x4_1 p130 q130
      (try rw [← Nbq5.1] at hx130_2)
      (try rw [← Nbq5.1] at hx130_7)
      obtain rfl : ad129 = ad130 := (by injection e130)
      replace hx130_0 := (HB.1.cell (World.block_lt_of_cell? w _ hx130_0)).trans hx130_0
      replace hx130_1 := (HB.1.cell (World.block_lt_of_cell? w _ hx130_1)).trans hx130_1
      replace hx130_2 := (HB.1.cell (World.block_lt_of_cell? w _ hx130_2)).trans hx130_2
      replace hx130_3 := (HB.1.cell (World.block_lt_of_cell? w _ hx130_3)).trans hx130_3
      replace hx130_4 := (HB.1.cell (World.block_lt_of_cell? w _ hx130_4)).trans hx130_4
      replace hx130_5 := (HB.1.cell (World.block_lt_of_cell? w _ hx130_5)).trans hx130_5
      replace hx130_6 := (HB.1.cell (World.block_lt_of_cell? w _ hx130_6)).trans hx130_6
      replace hx130_7 := (HB.1.cell (World.block_lt_of_cell? w _ hx130_7)).trans hx130_7
      replace hx130_8 := (HB.1.cell (World.block_lt_of_cell? w _ hx130_8)).trans hx130_8
      replace hx130_9 := (HB.1.cell (World.block_lt_of_cell? w _ hx130_9)).trans hx130_9
      replace hx130_10 := (HB.1.cell (World.block_lt_of_cell? w _ hx130_10)).trans hx130_10
      replace hx130_11 := (HB.1.cell (World.block_lt_of_cell? w _ hx130_11)).trans hx130_11
      replace hx130_12 := (HB.1.cell (World.block_lt_of_cell? w _ hx130_12)).trans hx130_12
      replace hx130_13 := (HB.1.cell (World.block_lt_of_cell? w _ hx130_13)).trans hx130_13
      replace hx130_14 := (HB.1.cell (World.block_lt_of_cell? w _ hx130_14)).trans hx130_14
      replace hx130_15 := (HB.1.cell (World.block_lt_of_cell? w _ hx130_15)).trans hx130_15
      replace hx130_16 := (HB.1.cell (World.block_lt_of_cell? w _ hx130_16)).trans hx130_16
      replace hx130_17 := (HB.1.cell (World.block_lt_of_cell? w _ hx130_17)).trans hx130_17
      replace hx130_18 := (HB.1.cell (World.block_lt_of_cell? w _ hx130_18)).trans hx130_18
      replace hx130_19 := (HB.1.cell (World.block_lt_of_cell? w _ hx130_19)).trans hx130_19
      replace hx130_20 := (HB.1.cell (World.block_lt_of_cell? w _ hx130_20)).trans hx130_20
      replace hx130_21 := (HB.1.cell (World.block_lt_of_cell? w _ hx130_21)).trans hx130_21
      have HR130_0 := Am_ hi130_0
      have HC130_0 := Am_ hl130_0
      clear hi130_0 hl130_0
      have HR130_6 := Am_ hi130_6
      have HC130_6 := Am_ hl130_6
      clear hi130_6 hl130_6
      have HR130_17 := Am_ hi130_17
      have HC130_17 := Am_ hl130_17
      clear hi130_17 hl130_17
      have HR130_20 := Am_ hi130_20
      have HC130_20 := Am_ hl130_20
      clear hi130_20 hl130_20
      have HR130_21 := Am_ hi130_21
      have HC130_21 := Am_ hl130_21
      clear hi130_21 hl130_21
      replace p130 := eq_true p130
      replace q130 := eq_true q130
      have ea_ := Option.some.inj (hx129_0.symm.trans hx130_0)
      injection ea_ with ea_ en_ ec_
      subst ea_
      subst ec_
      clear en_
      have ea_ := Option.some.inj (hx129_6.symm.trans hx130_6)
      injection ea_ with ea_ en_ ec_
      subst ea_
      subst ec_
      clear en_
      have ea_ := Option.some.inj (hx129_17.symm.trans hx130_17)
      injection ea_ with ea_ en_ ec_
      subst ea_
      subst ec_
      clear en_
      have ea_ := Option.some.inj (hx129_20.symm.trans hx130_20)
      injection ea_ with ea_ en_ ec_
      subst ea_
      subst ec_
      clear en_
      have ea_ := Option.some.inj (hx129_21.symm.trans hx130_21)
      injection ea_ with ea_ en_ ec_
      subst ea_
      subst ec_
      clear en_
      go_wp2
      go_roundg k1
      case measure => have := HK1.1; omega
      case rel => exact ⟨(wrap64 (x3_1 + (((rd_T97 l0_3 x4_1).f0.f0).length : Int))), (wrap64 (x4_1 + 1)), (by first | rfl | (simp; done) | (simp [*]; done)), (by first | rfl | (simp; done) | (simp [*]; done)), H', ⟨by have := HK1.1; omega⟩, ⟨by (with_reducible repeat (first | refine kN_ ?_ _ | refine kD_ ?_ | refine kA_ ?_ _)); exact BK128.1⟩, ⟨by repeat (first | (with_reducible first | exact HB.1 | apply bA_ | apply bN_ | apply bD_ | refine bS_ ?_ GE128.1) | exact HB.1)⟩⟩
    ·rw [if_neg c4] at H
     exact absurd H (by simp)
   ·rw [if_neg c3] at H
    have c3b0 : decide (x4_1 < (l0_3.length : Int)) = false := decide_eq_false c3
    clear c3
    obtain rfl := Option.some.inj H
    have hcz9_0 : wr.cell? ⟨gb128, 0, none⟩ = some (.slice A0_0 l0_0.length c0_0) := kC_ BK128.1 0
    have hcz9_1 : wr.cell? ⟨gb128, 1, none⟩ = some (.int .i64 a0_1) := kC_ BK128.1 1
    have hcz9_2 : wr.cell? ⟨gb128, 2, none⟩ = some (.int .i64 a0_2) := kC_ BK128.1 2
    have hcz9_3 : wr.cell? ⟨gb128, 3, none⟩ = some (.slice A0_3 l0_3.length c0_3) := kC_ BK128.1 3
    have hcz9_4 : wr.cell? ⟨gb128, 4, none⟩ = some (.int .i64 a0_4) := kC_ BK128.1 4
    have hcz9_5 : wr.cell? ⟨gb128, 5, none⟩ = some (.int .i64 a0_5) := kC_ BK128.1 5
    have hcz9_6 : wr.cell? ⟨gb128, 6, none⟩ = some (.int .i64 a0_6) := kC_ BK128.1 6
    have hfz9_0 := kF_ BK128.1 0
    have hfz9_1 := kF_ BK128.1 1
    have hfz9_2 := kF_ BK128.1 2
    have hfz9_3 := kF_ BK128.1 3
    have hfz9_4 := kF_ BK128.1 4
    have hfz9_5 := kF_ BK128.1 5
    have hfz9_6 := kF_ BK128.1 6
    go_wp2
    go_ret
    exact ⟨by first | rfl | (simp [errW_none, errW_some] <;> rfl) | (simp [*, errW_none, errW_some] <;> rfl), by repeat (first | (with_reducible first | exact HB.1 | apply bA_ | apply bN_ | apply bD_ | refine bS_ ?_ GE128.1) | exact HB.1)⟩

/-! ### laws_toIntS: function 83 -/
def laws_toIntS.l0 : Nat → List Int → List Int → Int → Option (List Int)
 | 0, _, _, _ => none
 | k + 1, x0, x3, x4 => if x4 < (x0.length : Int) then (if 0 ≤ x4 then (if x4 < (x3.length : Int) then (laws_toIntS.l0 k x0 (x3.set (x4 : Int).toNat (rd x0 x4)) (wrap64 (x4 + 1))) else (none)) else (none)) else (some x3)
def laws_toIntS.f (k : Nat) (l0 : List Int) : Option (List Int) := if 0 ≤ (l0.length : Int) then (if ((l0.length : Int) : Int).toNat ≤ 35184372088832 then (laws_toIntS.l0 k l0 (List.replicate ((l0.length : Int) : Int).toNat 0) 0) else (none)) else (none)
theorem laws_toIntS.mono_l : ∀ k, (∀ y0 y1 y2, LeO (laws_toIntS.l0 k y0 y1 y2) (laws_toIntS.l0 (k + 1) y0 y1 y2))
 | 0 => fun _ _ _ r h => by simp [laws_toIntS.l0] at h
 | k + 1 => by
  have ih0 := laws_toIntS.mono_l k
  ·intro y0 y1 y2
   unfold laws_toIntS.l0
   repeat' first
   | (with_reducible exact ih0 _ _ _)
   | (with_reducible exact LeO.refl _)
   | (with_reducible exact LeO.none _)
   | (with_reducible refine LeO.ite ?_ ?_)
   | (with_reducible refine LeO.bind ?_ (fun _ => ?_))
   | exact ih0 _ _ _
   | exact LeO.none _
   | refine LeO.ite ?_ ?_
   | refine LeO.bind ?_ (fun _ => ?_)
theorem laws_toIntS.mono : ∀ a0 k, LeO (laws_toIntS.f k a0) (laws_toIntS.f (k + 1) a0) := by
 intro a0 k
 have ih0 := laws_toIntS.mono_l k
 unfold laws_toIntS.f
 repeat' first
   | (with_reducible exact ih0 _ _ _)
   | (with_reducible exact LeO.refl _)
   | (with_reducible exact LeO.none _)
   | (with_reducible refine LeO.ite ?_ ?_)
   | (with_reducible refine LeO.bind ?_ (fun _ => ?_))
   | exact ih0 _ _ _
   | exact LeO.none _
   | refine LeO.ite ?_ ?_
   | refine LeO.bind ?_ (fun _ => ?_)
set_option maxHeartbeats 8000000 in
set_option maxRecDepth 100000 in
theorem laws_toIntS.calls (k : Nat) (A0 : Option Addr) (c0 : Nat) (l0 : List Int) (r : List Int) (w : World) (hr0 : Kd.C (Kd.int .i64) w A0 l0.length l0) (hc0 : l0.length ≤ c0) (h : laws_toIntS.f k l0 = some r) :
  Calls Try.prog 83 #[.slice A0 l0.length c0] w fun e w' => ∃ v0_ : Value, e = .returned (v0_) ∧ Kd.R (Kd.int .i64) 3 w' w.heap.size (fun _ => True) v0_ r ∧ Below w.heap.size w w' := by
 have HR0 := Am_ hr0
 have HC0 := Am_ hc0
 clear hr0 hc0
 have HB := Am_ (Below.refl w.heap.size w)
 have H : (if 0 ≤ (l0.length : Int) then (if ((l0.length : Int) : Int).toNat ≤ 35184372088832 then (laws_toIntS.l0 k l0 (List.replicate ((l0.length : Int) : Int).toNat 0) 0) else (none)) else (none)) = some r := h
 clear h
 by_cases c2 : 0 ≤ (l0.length : Int)
 ·rw [if_pos c2] at H
  have c2b0 := eq_true c2
  have c2b1 : decide (0 ≤ (l0.length : Int)) = true := decide_eq_true c2
  clear c2
  by_cases c3 : ((l0.length : Int) : Int).toNat ≤ 35184372088832
  ·rw [if_pos c3] at H
   have c3b0 := eq_true c3
   have c3b1 : decide (((l0.length : Int) : Int).toNat ≤ 35184372088832) = true := decide_eq_true c3
   clear c3
   obtain ⟨y131, hy131⟩ : ∃ y_ : List Int, y_ = (List.replicate ((l0.length : Int) : Int).toNat 0) := ⟨_, rfl⟩
   replace H : (laws_toIntS.l0 k l0 y131 0) = some r := by first | (rw [hy131]; with_reducible exact H) | (have H2_ := (Option.bind_some _ _).symm.trans H; rw [hy131]; with_reducible exact H2_) | (have H2_ := (Option.bind_some _ _).symm.trans H; with_reducible exact H2_) | with_reducible exact H | (rw [hy131]; exact H) | exact H
   have Ny131 := Am_ hy131
   clear hy131
   have H' := Am_ H
   clear H
   go_enter Try.func83, Try.ntmps83
   go_wp2_with (first | ((with_reducible refine gate_dst (N := 7) rfl ?_); refine Kd.R_make (Kd.int .i64) _ 3 rfl (N := 7) rfl 22 _ _ rfl (l0.length : Int) rfl rfl Try.underlying22 (.int .i64 0) 8 info3 rfl (by decide) (by omega) 0 (ok := fun _ => True) (okp := fun _ => True) rfl (fun _ hk => hk) trivial (of_decide_eq_true (by first | (with_reducible assumption) | assumption)) (Nat.le_trans (Nat.mul_le_mul_right _ (of_decide_eq_true (by first | (with_reducible assumption) | assumption) : (l0.length : Int).toNat ≤ 35184372088832)) (by omega)) (Below.refl _ _) (Nat.le_refl _) ?_; intro v132 w4 ho5 hb hg_ hnew_; clear hg_ hnew_; (first | rw [← Ny131.1] at ho5 | (simp only [Int.reduceToNat] at ho5; rw [← Ny131.1] at ho5)); have n0_ := Am_ (Kd.R_lower ho5 (bZ_ (by repeat (first | (with_reducible first | exact HB.1 | apply bA_ | apply bN_ | apply bD_) | exact HB.1)))); have n1_ := Am_ (bT_ (by repeat (first | (with_reducible first | exact HB.1 | apply bA_ | apply bN_ | apply bD_) | exact HB.1)) hb); clear HB; have HO133 := n0_; have HB := n1_; clear n0_ n1_ hb ho5))
   go_loopg [4] k (fun kq v4 w' => ∃ (x3_1 : List Int) (x4_1 : Int), v4 = .int .i64 x4_1 ∧ Aside0 (laws_toIntS.l0 kq l0 x3_1 x4_1 = some r) ∧ Aside0 (kq ≤ k) ∧ Aside0 (Kd.R (Kd.int .i64) 3 w' w.heap.size (fun _ => True) v132 x3_1) ∧ Aside0 (Below w.heap.size w w'))
   case atStart => exact ⟨(y131), (0), (by first | rfl | (simp; done) | (simp [*]; done)), H', ⟨Nat.le_refl _⟩, ⟨by (with_reducible repeat (first | apply rA_ | apply rN_ | apply rD_)); exact HO133.1⟩, ⟨by repeat (first | (with_reducible first | exact HB.1 | apply bA_ | apply bN_ | apply bD_) | exact HB.1)⟩⟩
   case round =>
    clear H'
    try clear c2
    try clear c2b0
    try clear c2b1
    try clear p2
    try clear c3
    try clear c3b0
    try clear c3b1
    obtain ⟨x3_1, x4_1, rfl, HA, HK1, HO_3, HB⟩ := hrel
    cases gk with
    | zero => exact absurd HA.1 (by simp [laws_toIntS.l0])
    | succ k1 =>
     have H := HA.1
     clear HA
     simp only [laws_toIntS.l0] at H
     by_cases c6 : x4_1 < (l0.length : Int)
     ·rw [if_pos c6] at H
      have c6b0 : decide (x4_1 < (l0.length : Int)) = true := decide_eq_true c6
      clear c6
      by_cases c7 : 0 ≤ x4_1
      ·rw [if_pos c7] at H
       have c7b0 : decide (0 ≤ x4_1) = true := decide_eq_true c7
       clear c7
       by_cases c8 : x4_1 < (x3_1.length : Int)
       ·rw [if_pos c8] at H
        have c8b0 : decide (x4_1 < (x3_1.length : Int)) = true := decide_eq_true c8
        clear c8
        obtain ⟨y135, hy135⟩ : ∃ y_ : List Int, y_ = (x3_1.set (x4_1 : Int).toNat (rd l0 x4_1)) := ⟨_, rfl⟩
        replace H : (laws_toIntS.l0 k1 l0 y135 (wrap64 (x4_1 + 1))) = some r := by first | (rw [hy135]; with_reducible exact H) | (have H2_ := (Option.bind_some _ _).symm.trans H; rw [hy135]; with_reducible exact H2_) | (have H2_ := (Option.bind_some _ _).symm.trans H; with_reducible exact H2_) | with_reducible exact H | (rw [hy135]; exact H) | exact H
        have Ny135 := Am_ hy135
        clear hy135
        have H' := Am_ H
        clear H
        have p134 : 0 ≤ (x4_1 : Int) := of_decide_eq_true (by first | (with_reducible assumption) | assumption)
        have q134 : x4_1 < (l0.length : Int) := of_decide_eq_true (by first | (with_reducible assumption) | assumption)
        obtain ⟨ad134, e134, hx134_0⟩ := Kd.at_int HR0.1 x4_1 p134 q134
        cases e134
        replace hx134_0 := (HB.1.cell (World.block_lt_of_cell? w _ hx134_0)).trans hx134_0
        replace p134 := eq_true p134
        replace q134 := eq_true q134
        have p9 : 0 ≤ (x4_1 : Int) := of_decide_eq_true (by first | (with_reducible assumption) | assumption)
        have q9 : (x4_1 : Int) < ((x3_1.length : Int) : Int) := of_decide_eq_true (by first | (with_reducible assumption) | assumption)
        obtain ⟨go9, co9, eo9, gb9, gl9, cl9, HG9⟩ := Kd.R_form HO_3.1 (by omega)
        (first | cases eo9 | (injection eo9 with ea_ en_ ec_; (first | subst ea_ | (injection ea_ with ea_; subst ea_)); subst ec_; clear en_))
        have GB9 := Am_ gb9
        have GG9 := Am_ HG9
        clear gb9 gl9 HG9
        obtain ⟨hx9_0, hf9_0⟩ := Kd.R_celln 0 HO_3.1 (x4_1 : Int) p9 q9
        replace p9 := eq_true p9
        replace q9 := eq_true q9
        have HP10 := Kd.R_putg HO_3.1 (x4_1 : Int) (rd l0 x4_1)
        go_wp2_with (first | ((with_reducible refine gate_store (t := 3) (p := 20) rfl ?_); refine store_event (t := 3) (p := 20) (v := ?vo_w11) (w1 := (wr.setCell ⟨go9, (x4_1 : Int).toNat, none⟩ (.int .i64 (rd l0 x4_1)))) ?hg ?ho ?hn ?hr ?_; (case ho => rfl); (case hg => rfl); (case hn => rfl); (case hr => first | (go_simp; done) | (go_simp; rfl)); intro w11 hw; have hg : wr.grownBy w11 (some go9) := (by rw [hw]; exact HP10.2); have hp_ : Kd.R (Kd.int .i64) 3 w11 w.heap.size (fun _ => True) (.slice (some ⟨go9, 0, none⟩) x3_1.length co9) y135 := (by rw [hw, Ny135.1]; exact HP10.1); clear HP10; have n0_ := Am_ (hp_); have n1_ := Am_ ((by rw [hw]; exact bS_ (HB.1) GB9.out : Below w.heap.size w w11)); clear HO_3 HB; have HO_3 := n0_; have HB := n1_; clear n0_ n1_ hg hw hp_))
        go_roundg k1
        case measure => have := HK1.1; omega
        case rel => exact ⟨(y135), (wrap64 (x4_1 + 1)), (by first | rfl | (simp; done) | (simp [*]; done)), H', ⟨by have := HK1.1; omega⟩, ⟨by (with_reducible repeat (first | apply rA_ | apply rN_ | apply rD_)); exact HO_3.1⟩, ⟨by repeat (first | (with_reducible first | exact HB.1 | apply bA_ | apply bN_ | apply bD_) | exact HB.1)⟩⟩
       ·rw [if_neg c8] at H
        exact absurd H (by simp)
      ·rw [if_neg c7] at H
       exact absurd H (by simp)
     ·rw [if_neg c6] at H
      have c6b0 : decide (x4_1 < (l0.length : Int)) = false := decide_eq_false c6
      clear c6
      obtain rfl := Option.some.inj H
      go_wp2
      go_ret
      exact ⟨_, by first | rfl | (simp [errW_none, errW_some] <;> rfl) | (simp [*, errW_none, errW_some] <;> rfl), by (with_reducible repeat (first | apply rA_ | apply rN_ | apply rD_)); exact HO_3.1, by repeat (first | (with_reducible first | exact HB.1 | apply bA_ | apply bN_ | apply bD_) | exact HB.1)⟩
  ·rw [if_neg c3] at H
   exact absurd H (by simp)
 ·rw [if_neg c2] at H
  exact absurd H (by simp)

/-! ### laws_toPlacement: function 42 -/
def laws_toPlacement.f (k : Nat) (l0_0 : List Int) (a0_1 : Int) (a0_2 : Int) : Option (List Int × Int × Int) := (laws_toIntS.f k l0_0).bind fun t139 => (some (t139, a0_1, a0_2))
theorem laws_toPlacement.mono : ∀ a0 a1 a2 k, LeO (laws_toPlacement.f k a0 a1 a2) (laws_toPlacement.f (k + 1) a0 a1 a2) := by
 intro a0 a1 a2 k
 unfold laws_toPlacement.f
 repeat' first
   | (with_reducible exact laws_toIntS.mono _ _)
   | (with_reducible exact LeO.refl _)
   | (with_reducible exact LeO.none _)
   | (with_reducible refine LeO.ite ?_ ?_)
   | (with_reducible refine LeO.bind ?_ (fun _ => ?_))
   | exact laws_toIntS.mono _ _
   | exact LeO.none _
   | refine LeO.ite ?_ ?_
   | refine LeO.bind ?_ (fun _ => ?_)
set_option maxHeartbeats 8000000 in
set_option maxRecDepth 100000 in
theorem laws_toPlacement.calls (k : Nat) (A0_0 : Option Addr) (c0_0 : Nat) (l0_0 : List Int) (a0_1 : Int) (a0_2 : Int) (r1 : List Int) (r2 : Int) (r3 : Int) (w : World) (hr0_0 : Kd.C (Kd.int .i64) w A0_0 l0_0.length l0_0) (hc0_0 : l0_0.length ≤ c0_0) (h : laws_toPlacement.f k l0_0 a0_1 a0_2 = some (r1, r2, r3)) :
  Calls Try.prog 42 #[.agg #[.slice A0_0 l0_0.length c0_0, .int .i64 a0_1, .int .i64 a0_2]] w fun e w' => ∃ v0_ : Value, e = .returned (.agg #[v0_, .int .i64 r2, .int .i64 r3]) ∧ Kd.R (Kd.int .i64) 3 w' w.heap.size (fun _ => True) v0_ r1 ∧ Below w.heap.size w w' := by
 have hu24 := Try.underlying24
 have hu30 := Try.underlying30
 have HR0_0 := Am_ hr0_0
 have HC0_0 := Am_ hc0_0
 clear hr0_0 hc0_0
 have HB := Am_ (Below.refl w.heap.size w)
 have H : ((laws_toIntS.f k l0_0).bind fun t139 => (some (t139, a0_1, a0_2))) = some (r1, r2, r3) := h
 clear h
 replace H := Option.bind_eq_some_iff.mp H
 obtain ⟨t139, A20, H⟩ := H
 replace H : (some (t139, a0_1, a0_2)) = some (r1, r2, r3) := H
 have A2 := Am_ A20
 clear A20
 simp only [Option.some.injEq, Prod.mk.injEq] at H
 obtain ⟨rfl, rfl, rfl⟩ := H
 go_enter Try.func42, Try.ntmps42
 go_wp2_with (first | ((with_reducible refine gate_dst (N := 1) rfl ?_); refine box_event ?hg (N := 1) ?hd (cs := #[.slice A0_0 l0_0.length c0_0, .int .i64 a0_1, .int .i64 a0_2]) (t := 24) ?hr ?_; (case hd => rfl); (case hg => rfl); (case hr => first | (go_simp; done) | (go_simp; rfl)); intro gb136 hg w3 hbox hb; have n0_ := Am_ (bT_ (by repeat (first | (with_reducible first | exact HB.1 | apply bA_ | apply bN_ | apply bD_) | exact HB.1)) hb); have n1_ := Am_ (hbox); have n2_ := Am_ ((by rw [hg]; exact (bZ_ (by repeat (first | (with_reducible first | exact HB.1 | apply bA_ | apply bN_ | apply bD_) | exact HB.1))) : w.heap.size ≤ gb136)); have n3_ := Am_ ((by rw [hg]; exact (bZ_ (by repeat (first | (with_reducible first | exact HB.1 | apply bA_ | apply bN_ | apply bD_) | exact HB.1))) : w.heap.size ≤ gb136)); clear HB; have HB := n0_; have BK136 := n1_; have GW136 := n2_; have GE136 := n3_; clear n0_ n1_ n2_ n3_ hb hbox hg) | ((with_reducible refine gate_dst (N := 2) rfl ?_); refine box_event ?hg (N := 2) ?hd (cs := #[.slice none 0 0, .int .i64 0, .int .i64 0]) (t := 30) ?hr ?_; (case hd => rfl); (case hg => rfl); (case hr => first | (go_simp; done) | (go_simp; rfl)); intro gb137 hg w4 hbox hb; have n0_ := Am_ (kB_ (g := gb136) (by (with_reducible repeat (first | refine kN_ ?_ _ | refine kD_ ?_ | refine kA_ ?_ _)); exact BK136.1) hb); have n1_ := Am_ (bT_ (by repeat (first | (with_reducible first | exact HB.1 | apply bA_ | apply bN_ | apply bD_ | refine bS_ ?_ GE136.1) | exact HB.1)) hb); have n2_ := Am_ (hbox); have n3_ := Am_ ((by rw [hg]; exact (bZ_ (by repeat (first | (with_reducible first | exact HB.1 | apply bA_ | apply bN_ | apply bD_ | refine bS_ ?_ GE136.1) | exact HB.1))) : w.heap.size ≤ gb137)); have n4_ := Am_ ((by rw [hg]; exact (bZ_ (by repeat (first | (with_reducible first | exact HB.1 | apply bA_ | apply bN_ | apply bD_ | refine bS_ ?_ GE136.1) | exact HB.1))) : w.heap.size ≤ gb137)); have n5_ := Am_ ((by rw [hg]; exact Nat.ne_of_lt (blk_lt (g := gb136) (by (with_reducible repeat (first | refine kN_ ?_ _ | refine kD_ ?_ | refine kA_ ?_ _)); exact BK136.1)) : gb136 ≠ gb137)); have n6_ := Am_ ((by rw [hg]; exact Nat.ne_of_gt (blk_lt (g := gb136) (by (with_reducible repeat (first | refine kN_ ?_ _ | refine kD_ ?_ | refine kA_ ?_ _)); exact BK136.1)) : gb137 ≠ gb136)); clear BK136 HB; have BK136 := n0_; have HB := n1_; have BK137 := n2_; have GW137 := n3_; have GE137 := n4_; have NB136_137 := n5_; have NB137_136 := n6_; clear n0_ n1_ n2_ n3_ n4_ n5_ n6_ hb hbox hg) | ((with_reducible refine gate_dst (N := 3) rfl ?_); refine box_event ?hg (N := 3) ?hd (cs := #[.slice none 0 0, .int .i64 0, .int .i64 0]) (t := 30) ?hr ?_; (case hd => rfl); (case hg => rfl); (case hr => first | (go_simp; done) | (go_simp; rfl)); intro gb138 hg w5 hbox hb; have n0_ := Am_ (kB_ (g := gb136) (by (with_reducible repeat (first | refine kN_ ?_ _ | refine kD_ ?_ | refine kA_ ?_ _)); exact BK136.1) hb); have n1_ := Am_ (kB_ (g := gb137) (by (with_reducible repeat (first | refine kN_ ?_ _ | refine kD_ ?_ | refine kA_ ?_ _)); exact BK137.1) hb); have n2_ := Am_ (bT_ (by repeat (first | (with_reducible first | exact HB.1 | apply bA_ | apply bN_ | apply bD_ | refine bS_ ?_ GE136.1 | refine bS_ ?_ GE137.1) | exact HB.1)) hb); have n3_ := Am_ (hbox); have n4_ := Am_ ((by rw [hg]; exact (bZ_ (by repeat (first | (with_reducible first | exact HB.1 | apply bA_ | apply bN_ | apply bD_ | refine bS_ ?_ GE136.1 | refine bS_ ?_ GE137.1) | exact HB.1))) : w.heap.size ≤ gb138)); have n5_ := Am_ ((by rw [hg]; exact (bZ_ (by repeat (first | (with_reducible first | exact HB.1 | apply bA_ | apply bN_ | apply bD_ | refine bS_ ?_ GE136.1 | refine bS_ ?_ GE137.1) | exact HB.1))) : w.heap.size ≤ gb138)); have n6_ := Am_ ((by rw [hg]; exact Nat.ne_of_lt (blk_lt (g := gb136) (by (with_reducible repeat (first | refine kN_ ?_ _ | refine kD_ ?_ | refine kA_ ?_ _)); exact BK136.1)) : gb136 ≠ gb138)); have n7_ := Am_ ((by rw [hg]; exact Nat.ne_of_gt (blk_lt (g := gb136) (by (with_reducible repeat (first | refine kN_ ?_ _ | refine kD_ ?_ | refine kA_ ?_ _)); exact BK136.1)) : gb138 ≠ gb136)); have n8_ := Am_ ((by rw [hg]; exact Nat.ne_of_lt (blk_lt (g := gb137) (by (with_reducible repeat (first | refine kN_ ?_ _ | refine kD_ ?_ | refine kA_ ?_ _)); exact BK137.1)) : gb137 ≠ gb138)); have n9_ := Am_ ((by rw [hg]; exact Nat.ne_of_gt (blk_lt (g := gb137) (by (with_reducible repeat (first | refine kN_ ?_ _ | refine kD_ ?_ | refine kA_ ?_ _)); exact BK137.1)) : gb138 ≠ gb137)); clear BK136 BK137 HB; have BK136 := n0_; have BK137 := n1_; have HB := n2_; have BK138 := n3_; have GW138 := n4_; have GE138 := n5_; have NB136_138 := n6_; have NB138_136 := n7_; have NB137_138 := n8_; have NB138_137 := n9_; clear n0_ n1_ n2_ n3_ n4_ n5_ n6_ n7_ n8_ n9_ hb hbox hg; have hnb6 := NB136_137.1; have hnc6 := NB137_136.1; have hnb7 := NB136_138.1; have hnc7 := NB138_136.1; have hcz8_0 : w5.cell? ⟨gb136, 0, none⟩ = some (.slice A0_0 l0_0.length c0_0) := kC_ BK136.1 0; have hcz8_1 : w5.cell? ⟨gb136, 1, none⟩ = some (.int .i64 a0_1) := kC_ BK136.1 1; have hcz8_2 : w5.cell? ⟨gb136, 2, none⟩ = some (.int .i64 a0_2) := kC_ BK136.1 2; have hfz8_0 := kF_ BK136.1 0; have hfz8_1 := kF_ BK136.1 1; have hfz8_2 := kF_ BK136.1 2) | ((with_reducible refine gate_callee (f := 83) rfl ?_); refine goesL_ (some 6) rfl rfl Try.func83 (by kernel_rfl) rfl #[.slice A0_0 l0_0.length c0_0] rfl (by (try simp only [List.map_toArray, List.map_cons, List.map_nil]); first | done | rfl | (simp only [List.length_drop, List.length_take]; rfl)) ?_; (with_reducible refine (laws_toIntS.calls k _ _ l0_0 t139 _ ?side1 ?side2 A2.1).mono ?_); (case side1 => repeat (first | exact (Kd.C_below HR0_0.1 HB.1) | (with_reducible refine Kd.C_alloc ?_ _) | (with_reducible refine Kd.C_drewN ?_ _) | (with_reducible refine Kd.C_drew ?_))); (case side2 => exact HC0_0.1); rintro e w9 ⟨v140, rfl, ho0, hb⟩; refine ⟨_, rfl, ?_⟩; have n0_ := Am_ (Kd.R_lower ho0 (bZ_ (by repeat (first | (with_reducible first | exact HB.1 | apply bA_ | apply bN_ | apply bD_ | refine bS_ ?_ GE136.1 | refine bS_ ?_ GE137.1 | refine bS_ ?_ GE138.1) | exact HB.1)))); have n1_ := Am_ (kB_ (g := gb136) (by (with_reducible repeat (first | refine kN_ ?_ _ | refine kD_ ?_ | refine kA_ ?_ _)); exact BK136.1) hb); have n2_ := Am_ (kB_ (g := gb137) (by (with_reducible repeat (first | refine kN_ ?_ _ | refine kD_ ?_ | refine kA_ ?_ _)); exact BK137.1) hb); have n3_ := Am_ (kB_ (g := gb138) (by (with_reducible repeat (first | refine kN_ ?_ _ | refine kD_ ?_ | refine kA_ ?_ _)); exact BK138.1) hb); have n4_ := Am_ (bT_ (by repeat (first | (with_reducible first | exact HB.1 | apply bA_ | apply bN_ | apply bD_ | refine bS_ ?_ GE136.1 | refine bS_ ?_ GE137.1 | refine bS_ ?_ GE138.1) | exact HB.1)) hb); clear BK136 BK137 BK138 HB; have HO141 := n0_; have BK136 := n1_; have BK137 := n2_; have BK138 := n3_; have HB := n4_; clear n0_ n1_ n2_ n3_ n4_; (try clear hb); (try clear hb2); (try clear hk); (try clear hi); (try clear ho0); obtain ⟨Ao10, co10, eo10⟩ := Kd.R_slice HO141.1; subst eo10; have hnb11 := NB138_137.1; have hnc11 := NB137_138.1; have hcz12_0 : w9.cell? ⟨gb138, 0, none⟩ = some (.slice none 0 0) := kC_ BK138.1 0; have hcz12_1 : w9.cell? ⟨gb138, 1, none⟩ = some (.int .i64 0) := kC_ BK138.1 1; have hcz12_2 : w9.cell? ⟨gb138, 2, none⟩ = some (.int .i64 0) := kC_ BK138.1 2; have hfz12_0 := kF_ BK138.1 0; have hfz12_1 := kF_ BK138.1 1; have hfz12_2 := kF_ BK138.1 2; have hcz13_0 : w9.cell? ⟨gb136, 0, none⟩ = some (.slice A0_0 l0_0.length c0_0) := kC_ BK136.1 0; have hcz13_1 : w9.cell? ⟨gb136, 1, none⟩ = some (.int .i64 a0_1) := kC_ BK136.1 1; have hcz13_2 : w9.cell? ⟨gb136, 2, none⟩ = some (.int .i64 a0_2) := kC_ BK136.1 2; have hfz13_0 := kF_ BK136.1 0; have hfz13_1 := kF_ BK136.1 1; have hfz13_2 := kF_ BK136.1 2; have hcz14_0 : w9.cell? ⟨gb137, 0, none⟩ = some (.slice none 0 0) := kC_ BK137.1 0; have hcz14_1 : w9.cell? ⟨gb137, 1, none⟩ = some (.int .i64 0) := kC_ BK137.1 1; have hcz14_2 : w9.cell? ⟨gb137, 2, none⟩ = some (.int .i64 0) := kC_ BK137.1 2; have hfz14_0 := kF_ BK137.1 0; have hfz14_1 := kF_ BK137.1 1; have hfz14_2 := kF_ BK137.1 2))
 refine bodyPost_ret (results_cell_row rfl _ _ gb137 30 #[.slice Ao10 t139.length co10, .int .i64 a0_1, .int .i64 a0_2] (0, 0) _ rfl (by (with_reducible repeat (first | refine kN_ ?_ _ | refine kD_ ?_ | refine kA_ ?_ _)); refine blk_put (cs := #[.slice Ao10 t139.length co10, .int .i64 a0_1, .int .i64 0]) ?_ 2 _ rfl; (with_reducible repeat (first | refine kN_ ?_ _ | refine kD_ ?_ | refine kA_ ?_ _)); refine blk_put (cs := #[.slice Ao10 t139.length co10, .int .i64 0, .int .i64 0]) ?_ 1 _ rfl; (with_reducible repeat (first | refine kN_ ?_ _ | refine kD_ ?_ | refine kA_ ?_ _)); refine blk_put (cs := #[.slice none 0 0, .int .i64 0, .int .i64 0]) ?_ 0 _ rfl; (with_reducible repeat (first | refine kN_ ?_ _ | refine kD_ ?_ | refine kA_ ?_ _)); refine blk_far ?_ NB137_138.1 _; (with_reducible repeat (first | refine kN_ ?_ _ | refine kD_ ?_ | refine kA_ ?_ _)); refine blk_far ?_ NB137_138.1 _; (with_reducible repeat (first | refine kN_ ?_ _ | refine kD_ ?_ | refine kA_ ?_ _)); refine blk_far ?_ NB137_138.1 _; (with_reducible repeat (first | refine kN_ ?_ _ | refine kD_ ?_ | refine kA_ ?_ _)); exact BK137.1) Try.underlying30 rfl (by kernel_rfl)) rfl ?_
 exact ⟨_, by first | rfl | (simp [errW_none, errW_some] <;> rfl) | (simp [*, errW_none, errW_some] <;> rfl), by (with_reducible repeat (first | apply rA_ | apply rN_ | apply rD_)); exact Kd.R_mono (rF_ (p := ⟨gb137, 2, none⟩) (rF_ (p := ⟨gb137, 1, none⟩) (rF_ (p := ⟨gb137, 0, none⟩) (rF_ (p := ⟨gb138, 2, none⟩) (rF_ (p := ⟨gb138, 1, none⟩) (rF_ (p := ⟨gb138, 0, none⟩) (Kd.R_types (Kd.R_types HO141.1 BK138.1 (by decide)) BK137.1 (by decide)) (fun _ hk => hk.1.2) (.slice Ao10 t139.length co10)) (fun _ hk => hk.1.2) (.int .i64 a0_1)) (fun _ hk => hk.1.2) (.int .i64 a0_2)) (fun _ hk => hk.2) (.slice Ao10 t139.length co10)) (fun _ hk => hk.2) (.int .i64 a0_1)) (fun _ hk => hk.2) (.int .i64 a0_2)) (fun _ hk => trivial), by repeat (first | (with_reducible first | exact HB.1 | apply bA_ | apply bN_ | apply bD_ | refine bS_ ?_ GE136.1 | refine bS_ ?_ GE137.1 | refine bS_ ?_ GE138.1) | exact HB.1)⟩

end Go.Proofs.Ytlkofdedkfmaeaa.XFnExactUnfinishedFrames
