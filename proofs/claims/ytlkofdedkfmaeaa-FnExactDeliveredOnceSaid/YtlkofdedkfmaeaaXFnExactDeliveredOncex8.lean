/- The functions that the law reaches as plain Lean functions, and of each a proof that its call computes it. Conditions: those that each theorem names. -/
import Derived.Test.YtlkofdedkfmaeaaWS
import Derived.Test.YtlkofdedkfmaeaaWB
import Derived.Test.YtlkofdedkfmaeaaXFnExactDeliveredOncex0
import Derived.Test.YtlkofdedkfmaeaaXFnExactDeliveredOncex4
import Derived.Test.YtlkofdedkfmaeaaXFnExactDeliveredOncex7
namespace Go.Proofs.Ytlkofdedkfmaeaa.XFnExactDeliveredOnce
open Go.RowKit Go.Proofs.YtlkofdedkfmaeaaW.PrintWords Go.Proofs.YtlkofdedkfmaeaaW.PrintLast Go.Proofs.YtlkofdedkfmaeaaW.PrintMore Go.Proofs.Ytlkofdedkfmaeaa.X
attribute [local go_sem] max2_int min2_int max_two min_two max_three min_three max_four min_four   -- for this text's walks alone
set_option linter.unusedVariables false
set_option linter.unusedSimpArgs false

/-! ### laws_eqAirStationS: function 68 -/
def laws_eqAirStationS.l0 : Nat → List (S97) → List (S97) → Int → Option (Bool)
 | 0, _, _, _ => none
 | k + 1, x0, x1, x5 => if x5 < (x0.length : Int) then (if 0 ≤ x5 then (if x5 < (x1.length : Int) then ((laws_eqAirStation.f k ((rd_T97 x0 x5).f0.f0) ((rd_T97 x0 x5).f0.f1) ((rd_T97 x0 x5).f1) ((rd_T97 x0 x5).f2.f0) ((rd_T97 x0 x5).f2.f1) ((rd_T97 x0 x5).f2.f2) ((rd_T97 x0 x5).f2.f3) ((rd_T97 x0 x5).f2.f4) ((rd_T97 x0 x5).f3.f0.f0) ((rd_T97 x0 x5).f3.f0.f1) ((rd_T97 x0 x5).f3.f0.f2) ((rd_T97 x0 x5).f3.f0.f3) ((rd_T97 x0 x5).f3.f1) ((rd_T97 x0 x5).f3.f2) ((rd_T97 x0 x5).f3.f3) ((rd_T97 x0 x5).f3.f4) ((rd_T97 x0 x5).f3.f5) ((rd_T97 x0 x5).f4) ((rd_T97 x0 x5).f5) ((rd_T97 x0 x5).f6) ((rd_T97 x0 x5).f7) ((rd_T97 x0 x5).f8) ((rd_T97 x1 x5).f0.f0) ((rd_T97 x1 x5).f0.f1) ((rd_T97 x1 x5).f1) ((rd_T97 x1 x5).f2.f0) ((rd_T97 x1 x5).f2.f1) ((rd_T97 x1 x5).f2.f2) ((rd_T97 x1 x5).f2.f3) ((rd_T97 x1 x5).f2.f4) ((rd_T97 x1 x5).f3.f0.f0) ((rd_T97 x1 x5).f3.f0.f1) ((rd_T97 x1 x5).f3.f0.f2) ((rd_T97 x1 x5).f3.f0.f3) ((rd_T97 x1 x5).f3.f1) ((rd_T97 x1 x5).f3.f2) ((rd_T97 x1 x5).f3.f3) ((rd_T97 x1 x5).f3.f4) ((rd_T97 x1 x5).f3.f5) ((rd_T97 x1 x5).f4) ((rd_T97 x1 x5).f5) ((rd_T97 x1 x5).f6) ((rd_T97 x1 x5).f7) ((rd_T97 x1 x5).f8)).bind fun t352 => (if t352 = true then (laws_eqAirStationS.l0 k x0 x1 (wrap64 (x5 + 1))) else (some false))) else (none)) else (none)) else (some true)
def laws_eqAirStationS.f (k : Nat) (l0 : List (S97)) (l1 : List (S97)) : Option (Bool) := if (l0.length : Int) = (l1.length : Int) then (laws_eqAirStationS.l0 k l0 l1 0) else (some false)
theorem laws_eqAirStationS.mono_l : ∀ k, (∀ y0 y1 y2, LeO (laws_eqAirStationS.l0 k y0 y1 y2) (laws_eqAirStationS.l0 (k + 1) y0 y1 y2))
 | 0 => fun _ _ _ r h => by simp [laws_eqAirStationS.l0] at h
 | k + 1 => by
  have ih0 := laws_eqAirStationS.mono_l k
  ·intro y0 y1 y2
   unfold laws_eqAirStationS.l0
   repeat' first
   | (with_reducible exact ih0 _ _ _)
   | (with_reducible exact laws_eqAirStation.mono _ _ _ _ _ _ _ _ _ _ _ _ _ _ _ _ _ _ _ _ _ _ _ _ _ _ _ _ _ _ _ _ _ _ _ _ _ _ _ _ _ _ _ _ _)
   | (with_reducible exact LeO.refl _)
   | (with_reducible exact LeO.none _)
   | (with_reducible refine LeO.ite ?_ ?_)
   | (with_reducible refine LeO.bind ?_ (fun _ => ?_))
   | exact ih0 _ _ _
   | exact laws_eqAirStation.mono _ _ _ _ _ _ _ _ _ _ _ _ _ _ _ _ _ _ _ _ _ _ _ _ _ _ _ _ _ _ _ _ _ _ _ _ _ _ _ _ _ _ _ _ _
   | exact LeO.none _
   | refine LeO.ite ?_ ?_
   | refine LeO.bind ?_ (fun _ => ?_)
theorem laws_eqAirStationS.mono : ∀ a0 a1 k, LeO (laws_eqAirStationS.f k a0 a1) (laws_eqAirStationS.f (k + 1) a0 a1) := by
 intro a0 a1 k
 have ih0 := laws_eqAirStationS.mono_l k
 unfold laws_eqAirStationS.f
 repeat' first
   | (with_reducible exact ih0 _ _ _)
   | (with_reducible exact laws_eqAirStation.mono _ _ _ _ _ _ _ _ _ _ _ _ _ _ _ _ _ _ _ _ _ _ _ _ _ _ _ _ _ _ _ _ _ _ _ _ _ _ _ _ _ _ _ _ _)
   | (with_reducible exact LeO.refl _)
   | (with_reducible exact LeO.none _)
   | (with_reducible refine LeO.ite ?_ ?_)
   | (with_reducible refine LeO.bind ?_ (fun _ => ?_))
   | exact ih0 _ _ _
   | exact laws_eqAirStation.mono _ _ _ _ _ _ _ _ _ _ _ _ _ _ _ _ _ _ _ _ _ _ _ _ _ _ _ _ _ _ _ _ _ _ _ _ _ _ _ _ _ _ _ _ _
   | exact LeO.none _
   | refine LeO.ite ?_ ?_
   | refine LeO.bind ?_ (fun _ => ?_)
def laws_eqAirStationS.T6 : Bool × List (List Nat × List Nat) := (true, [([], []), ([], []), ([0, 1], [0, 1]), ([2], [2]), ([], []), ([], []), ([4, 5], [4, 5]), ([6], [6]), ([3, 7], [3, 7]), ([8], [8])])
def laws_eqAirStationS.B6 : List Nat := [0, 0, 3, 7, 0, 0, 48, 112, 255, 511]
theorem laws_eqAirStationS.tab6 : rtab .any (opsOf Try.f68 6) = laws_eqAirStationS.T6 := by kernel_rfl
theorem laws_eqAirStationS.bits6 : waitsOk laws_eqAirStationS.T6.2 laws_eqAirStationS.B6 = true := by kernel_rfl
set_option maxHeartbeats 8000000 in
set_option maxRecDepth 100000 in
theorem laws_eqAirStationS.calls (k : Nat) (A0 : Option Addr) (c0 : Nat) (l0 : List (S97)) (A1 : Option Addr) (c1 : Nat) (l1 : List (S97)) (r : Bool) (w : World) (hr0 : Kd.C k97 w A0 l0.length l0) (hc0 : l0.length ≤ c0) (hr1 : Kd.C k97 w A1 l1.length l1) (hc1 : l1.length ≤ c1) (h : laws_eqAirStationS.f k l0 l1 = some r) (hT : r = true := by rfl) :
  Calls Try.prog 68 #[.slice A0 l0.length c0, .slice A1 l1.length c1] w fun e w' => e = .returned (.bool r) ∧ Below w.heap.size w w' := by
 have hu97 := Try.underlying97
 have HR0 := Am_ hr0
 have HC0 := Am_ hc0
 clear hr0 hc0
 have HR1 := Am_ hr1
 have HC1 := Am_ hc1
 clear hr1 hc1
 have HB := Am_ (Below.refl w.heap.size w)
 have H : (if (l0.length : Int) = (l1.length : Int) then (laws_eqAirStationS.l0 k l0 l1 0) else (some false)) = some r := h
 clear h
 by_cases c3 : (l0.length : Int) = (l1.length : Int)
 ·rw [if_pos c3] at H
  have c3b0 : ((l0.length : Int) == (l1.length : Int)) = true := beq_iff_eq.mpr c3
  have c3b1 : ((l0.length : Int) != (l1.length : Int)) = false := bne_eq_false_iff_eq.mpr c3
  have c3b2 : (l0.length == l1.length) = true := by first | simpa using c3 | (simp at c3 ⊢; omega)
  clear c3
  have H' := Am_ H
  clear H
  go_enter Try.func68, Try.ntmps68
  go_wp2
  go_loopg [5] k (fun kq v5 w' => ∃ (x5_1 : Int), v5 = .int .i64 x5_1 ∧ Aside0 (laws_eqAirStationS.l0 kq l0 l1 x5_1 = some r) ∧ Aside0 (kq ≤ k) ∧ Aside0 (Below w.heap.size w w'))
  case atStart => exact ⟨(0), (by first | rfl | (simp [i64_w]; done) | (simp; done) | (simp [*]; done)), H', ⟨Nat.le_refl _⟩, ⟨by repeat (first | (with_reducible first | exact HB.1 | apply bA_ | apply bN_ | apply bD_) | exact HB.1)⟩⟩
  case round =>
   clear H'
   try clear c1
   try clear p2
   try clear c3
   try clear c3b0
   try clear c3b1
   try clear c3b2
   obtain ⟨x5_1, rfl, HA, HK1, HB⟩ := hrel
   cases gk with
   | zero => exact absurd HA.1 (by simp [laws_eqAirStationS.l0])
   | succ k1 =>
    have H := HA.1
    clear HA
    simp only [laws_eqAirStationS.l0] at H
    by_cases c4 : x5_1 < (l0.length : Int)
    ·rw [if_pos c4] at H
     have c4b0 : decide (x5_1 < (l0.length : Int)) = true := decide_eq_true c4
     clear c4
     by_cases c5 : 0 ≤ x5_1
     ·rw [if_pos c5] at H
      have c5b0 : decide (0 ≤ x5_1) = true := decide_eq_true c5
      clear c5
      by_cases c6 : x5_1 < (l1.length : Int)
      ·rw [if_pos c6] at H
       have c6b0 : decide (x5_1 < (l1.length : Int)) = true := decide_eq_true c6
       clear c6
       replace H := Option.bind_eq_some_iff.mp H
       obtain ⟨t352, A70, H⟩ := H
       replace H : (if t352 = true then (laws_eqAirStationS.l0 k1 l0 l1 (wrap64 (x5_1 + 1))) else (some false)) = some r := H
       have A7 := Am_ A70
       clear A70
       by_cases c8 : t352 = true
       ·subst c8
        have H1 : (laws_eqAirStationS.l0 k1 l0 l1 (wrap64 (x5_1 + 1))) = some r := by rw [if_pos rfl] at H; exact H
        clear H
        have H := H1
        clear H1
        have H' := Am_ H
        clear H
        try go_wp2
        have n0_ := Am_ (bD_ HB.1)
        clear HB
        have HB := n0_
        clear n0_
        have p350 : 0 ≤ (x5_1 : Int) := of_decide_eq_true (by first | (with_reducible assumption) | assumption)
        have q350 : x5_1 < (l0.length : Int) := of_decide_eq_true (by first | (with_reducible assumption) | assumption)
        obtain ⟨ad350, A350_0, c350_0, A350_6, c350_6, A350_17, c350_17, A350_20, c350_20, A350_21, c350_21, e350, hx350, hl350_0, hi350_0, hl350_6, hi350_6, hl350_17, hi350_17, hl350_20, hi350_20, hl350_21, hi350_21⟩ := atL_T97 HR0.1 x5_1 p350 q350
        have hw350 := hx350
        cases e350
        replace hx350 := fun (j : Nat) (u : Value) hj => (HB.1.cell (World.block_lt_of_cell? w _ (hx350 j u hj))).trans (hx350 j u hj)
        have HR350_0 := Am_ hi350_0
        have HC350_0 := Am_ hl350_0
        clear hi350_0 hl350_0
        have HR350_6 := Am_ hi350_6
        have HC350_6 := Am_ hl350_6
        clear hi350_6 hl350_6
        have HR350_17 := Am_ hi350_17
        have HC350_17 := Am_ hl350_17
        clear hi350_17 hl350_17
        have HR350_20 := Am_ hi350_20
        have HC350_20 := Am_ hl350_20
        clear hi350_20 hl350_20
        have HR350_21 := Am_ hi350_21
        have HC350_21 := Am_ hl350_21
        clear hi350_21 hl350_21
        replace p350 := eq_true p350
        replace q350 := eq_true q350
        have p351 : 0 ≤ (x5_1 : Int) := of_decide_eq_true (by first | (with_reducible assumption) | assumption)
        have q351 : x5_1 < (l1.length : Int) := of_decide_eq_true (by first | (with_reducible assumption) | assumption)
        obtain ⟨ad351, A351_0, c351_0, A351_6, c351_6, A351_17, c351_17, A351_20, c351_20, A351_21, c351_21, e351, hx351, hl351_0, hi351_0, hl351_6, hi351_6, hl351_17, hi351_17, hl351_20, hi351_20, hl351_21, hi351_21⟩ := atL_T97 HR1.1 x5_1 p351 q351
        have hw351 := hx351
        cases e351
        replace hx351 := fun (j : Nat) (u : Value) hj => (HB.1.cell (World.block_lt_of_cell? w _ (hx351 j u hj))).trans (hx351 j u hj)
        have HR351_0 := Am_ hi351_0
        have HC351_0 := Am_ hl351_0
        clear hi351_0 hl351_0
        have HR351_6 := Am_ hi351_6
        have HC351_6 := Am_ hl351_6
        clear hi351_6 hl351_6
        have HR351_17 := Am_ hi351_17
        have HC351_17 := Am_ hl351_17
        clear hi351_17 hl351_17
        have HR351_20 := Am_ hi351_20
        have HC351_20 := Am_ hl351_20
        clear hi351_20 hl351_20
        have HR351_21 := Am_ hi351_21
        have HC351_21 := Am_ hl351_21
        clear hi351_21 hl351_21
        replace p351 := eq_true p351
        replace q351 := eq_true q351
        refine start_ (n := 10) (S := fun w' => (∀ (j : Nat) (u : Value), ([.slice A350_0 ((rd_T97 l0 x5_1).f0.f0).length c350_0, .int .i64 ((rd_T97 l0 x5_1).f0.f1), .bool ((rd_T97 l0 x5_1).f1), .int .i64 ((rd_T97 l0 x5_1).f2.f0), .int .i64 ((rd_T97 l0 x5_1).f2.f1), .int .i64 ((rd_T97 l0 x5_1).f2.f2), .slice A350_6 ((rd_T97 l0 x5_1).f2.f3).length c350_6, .bool ((rd_T97 l0 x5_1).f2.f4), .int .i64 ((rd_T97 l0 x5_1).f3.f0.f0), .int .i64 ((rd_T97 l0 x5_1).f3.f0.f1), .int .i64 ((rd_T97 l0 x5_1).f3.f0.f2), .int .i64 ((rd_T97 l0 x5_1).f3.f0.f3), .int .i64 ((rd_T97 l0 x5_1).f3.f1), .int .i64 ((rd_T97 l0 x5_1).f3.f2), .int .i64 ((rd_T97 l0 x5_1).f3.f3), .int .i64 ((rd_T97 l0 x5_1).f3.f4), .int .i64 ((rd_T97 l0 x5_1).f3.f5), .slice A350_17 ((rd_T97 l0 x5_1).f4).length c350_17, .int .i64 ((rd_T97 l0 x5_1).f5), .int .i64 ((rd_T97 l0 x5_1).f6), .slice A350_20 ((rd_T97 l0 x5_1).f7).length c350_20, .slice A350_21 ((rd_T97 l0 x5_1).f8).length c350_21] : List Value)[j]? = some u → w'.cell? ((ad350.add ((x5_1).toNat * 22)).add j) = some u) ∧ (∀ (j : Nat) (u : Value), ([.slice A351_0 ((rd_T97 l1 x5_1).f0.f0).length c351_0, .int .i64 ((rd_T97 l1 x5_1).f0.f1), .bool ((rd_T97 l1 x5_1).f1), .int .i64 ((rd_T97 l1 x5_1).f2.f0), .int .i64 ((rd_T97 l1 x5_1).f2.f1), .int .i64 ((rd_T97 l1 x5_1).f2.f2), .slice A351_6 ((rd_T97 l1 x5_1).f2.f3).length c351_6, .bool ((rd_T97 l1 x5_1).f2.f4), .int .i64 ((rd_T97 l1 x5_1).f3.f0.f0), .int .i64 ((rd_T97 l1 x5_1).f3.f0.f1), .int .i64 ((rd_T97 l1 x5_1).f3.f0.f2), .int .i64 ((rd_T97 l1 x5_1).f3.f0.f3), .int .i64 ((rd_T97 l1 x5_1).f3.f1), .int .i64 ((rd_T97 l1 x5_1).f3.f2), .int .i64 ((rd_T97 l1 x5_1).f3.f3), .int .i64 ((rd_T97 l1 x5_1).f3.f4), .int .i64 ((rd_T97 l1 x5_1).f3.f5), .slice A351_17 ((rd_T97 l1 x5_1).f4).length c351_17, .int .i64 ((rd_T97 l1 x5_1).f5), .int .i64 ((rd_T97 l1 x5_1).f6), .slice A351_20 ((rd_T97 l1 x5_1).f7).length c351_20, .slice A351_21 ((rd_T97 l1 x5_1).f8).length c351_21] : List Value)[j]? = some u → w'.cell? ((ad351.add ((x5_1).toNat * 22)).add j) = some u)) (ds := []) #[false, false, false, false, false, false, false, false, false, false] (by kernel_rfl) rfl rfl ⟨(fun j u hj => (HB.1.cell (World.block_lt_of_cell? w _ (hw350 j u hj))).trans (hw350 j u hj)), (fun j u hj => (HB.1.cell (World.block_lt_of_cell? w _ (hw351 j u hj))).trans (hw351 j u hj))⟩ (fun hHeld => ?_); refine with_tabW laws_eqAirStationS.tab6 laws_eqAirStationS.bits6 (fun HT_ HW_ => ?_)
        generalize wr.drew = w9 at HB HR350_0 HR350_17 HR350_20 HR350_21 HR350_6 HR351_0 HR351_17 HR351_20 HR351_21 HR351_6 hx350 hx351 hHeld ⊢
        refine pure_ (i := 0) (N := some 17) (v := ?_) (a' := ?_) #[true, false, false, false, false, false, false, false, false, false] rfl rfl (any_of HT_.out (by kernel_rfl)) (fun _ _ _ h => h) (Or.inl ⟨by rfl, ?_⟩) ?_ ?_
        rotate_left
        ·intro w'
         go_simp
         with_reducible rfl
        rotate_left
        ·simp only [Act.put, List.setIfInBounds_toArray, List.set_cons_zero, List.set_cons_succ, i64_w, i32_w]
         rfl
        refine pure_ (i := 1) (N := some 18) (v := ?_) (a' := ?_) #[true, true, false, false, false, false, false, false, false, false] rfl rfl (any_of HT_.out (by kernel_rfl)) (fun _ _ _ h => h) (Or.inl ⟨by rfl, ?_⟩) ?_ ?_
        rotate_left
        ·intro w'
         go_simp
         with_reducible rfl
        rotate_left
        ·simp only [Act.put, List.setIfInBounds_toArray, List.set_cons_zero, List.set_cons_succ, i64_w, i32_w]
         rfl
        refine pure_ (i := 2) (N := some 19) (v := ?_) (a' := ?_) #[true, true, true, false, false, false, false, false, false, false] rfl rfl (any_of HT_.out (by kernel_rfl)) (fun _ _ _ h => h) (Or.inl ⟨by rfl, ?_⟩) ?_ ?_
        rotate_left
        ·intro w'
         go_simp
         with_reducible rfl
        rotate_left
        ·simp only [Act.put, List.setIfInBounds_toArray, List.set_cons_zero, List.set_cons_succ, i64_w, i32_w]
         rfl
        refine pure_ (i := 4) (N := some 21) (v := ?_) (a' := ?_) #[true, true, true, false, true, false, false, false, false, false] rfl rfl (any_of HT_.out (by kernel_rfl)) (fun _ _ _ h => h) (Or.inl ⟨by rfl, ?_⟩) ?_ ?_
        rotate_left
        ·intro w'
         go_simp
         with_reducible rfl
        rotate_left
        ·simp only [Act.put, List.setIfInBounds_toArray, List.set_cons_zero, List.set_cons_succ, i64_w, i32_w]
         rfl
        refine pure_ (i := 5) (N := some 22) (v := ?_) (a' := ?_) #[true, true, true, false, true, true, false, false, false, false] rfl rfl (any_of HT_.out (by kernel_rfl)) (fun _ _ _ h => h) (Or.inl ⟨by rfl, ?_⟩) ?_ ?_
        rotate_left
        ·intro w'
         go_simp
         with_reducible rfl
        rotate_left
        ·simp only [Act.put, List.setIfInBounds_toArray, List.set_cons_zero, List.set_cons_succ, i64_w, i32_w]
         rfl
        refine pure_ (i := 6) (N := some 23) (v := ?_) (a' := ?_) #[true, true, true, false, true, true, true, false, false, false] rfl rfl (any_of HT_.out (by kernel_rfl)) (fun _ _ _ h => h) (Or.inl ⟨by rfl, ?_⟩) ?_ ?_
        rotate_left
        ·intro w'
         go_simp
         with_reducible rfl
        rotate_left
        ·simp only [Act.put, List.setIfInBounds_toArray, List.set_cons_zero, List.set_cons_succ, i64_w, i32_w]
         rfl
        refine take_ (i := 3) (N := some 20) (v := ?_) (a' := ?_) #[true, true, true, true, true, true, true, false, false, false] rfl rfl (take_ofW HT_.out HW_.out (by kernel_rfl)) (fun _ _ _ h => h) (Or.inl ⟨by rfl, ?_⟩) hHeld ?_ ?_
        rotate_left
        ·rintro w' ⟨s0, s1⟩
         first | (refine Go.Proofs.Ytlkofdedkfmaeaa.X.loadL_run (t := 97) (p := .tmp 19) ?ho ?hp Try.underlying97 rfl ?hi s0; (case ho => rfl); (case hp => rfl); (case hi => rfl)) | (refine Go.Proofs.Ytlkofdedkfmaeaa.X.loadL_run (t := 97) (p := .tmp 19) ?ho ?hp Try.underlying97 rfl ?hi s1; (case ho => rfl); (case hp => rfl); (case hi => rfl)) | (go_simp; with_reducible rfl)
        rotate_left
        ·simp only [Act.put, List.setIfInBounds_toArray, List.set_cons_zero, List.set_cons_succ, i64_w, i32_w]
         rfl
        refine take_ (i := 7) (N := some 24) (v := ?_) (a' := ?_) #[true, true, true, true, true, true, true, true, false, false] rfl rfl (take_ofW HT_.out HW_.out (by kernel_rfl)) (fun _ _ _ h => h) (Or.inl ⟨by rfl, ?_⟩) hHeld ?_ ?_
        rotate_left
        ·rintro w' ⟨s0, s1⟩
         first | (refine Go.Proofs.Ytlkofdedkfmaeaa.X.loadL_run (t := 97) (p := .tmp 23) ?ho ?hp Try.underlying97 rfl ?hi s0; (case ho => rfl); (case hp => rfl); (case hi => rfl)) | (refine Go.Proofs.Ytlkofdedkfmaeaa.X.loadL_run (t := 97) (p := .tmp 23) ?ho ?hp Try.underlying97 rfl ?hi s1; (case ho => rfl); (case hp => rfl); (case hi => rfl)) | (go_simp; with_reducible rfl)
        rotate_left
        ·simp only [Act.put, List.setIfInBounds_toArray, List.set_cons_zero, List.set_cons_succ, i64_w, i32_w]
         rfl
        refine one_ (i := 8) (N := some 25) #[true, true, true, true, true, true, true, true, true, false] rfl rfl (one_of HT_.out (by kernel_rfl)) (by decide) (fun K hK => ?_)
        refine goes_ Try.func102 (by kernel_rfl) rfl #[.agg #[.slice A350_0 ((rd_T97 l0 x5_1).f0.f0).length c350_0, .int .i64 ((rd_T97 l0 x5_1).f0.f1), .bool ((rd_T97 l0 x5_1).f1), .int .i64 ((rd_T97 l0 x5_1).f2.f0), .int .i64 ((rd_T97 l0 x5_1).f2.f1), .int .i64 ((rd_T97 l0 x5_1).f2.f2), .slice A350_6 ((rd_T97 l0 x5_1).f2.f3).length c350_6, .bool ((rd_T97 l0 x5_1).f2.f4), .int .i64 ((rd_T97 l0 x5_1).f3.f0.f0), .int .i64 ((rd_T97 l0 x5_1).f3.f0.f1), .int .i64 ((rd_T97 l0 x5_1).f3.f0.f2), .int .i64 ((rd_T97 l0 x5_1).f3.f0.f3), .int .i64 ((rd_T97 l0 x5_1).f3.f1), .int .i64 ((rd_T97 l0 x5_1).f3.f2), .int .i64 ((rd_T97 l0 x5_1).f3.f3), .int .i64 ((rd_T97 l0 x5_1).f3.f4), .int .i64 ((rd_T97 l0 x5_1).f3.f5), .slice A350_17 ((rd_T97 l0 x5_1).f4).length c350_17, .int .i64 ((rd_T97 l0 x5_1).f5), .int .i64 ((rd_T97 l0 x5_1).f6), .slice A350_20 ((rd_T97 l0 x5_1).f7).length c350_20, .slice A350_21 ((rd_T97 l0 x5_1).f8).length c350_21], .agg #[.slice A351_0 ((rd_T97 l1 x5_1).f0.f0).length c351_0, .int .i64 ((rd_T97 l1 x5_1).f0.f1), .bool ((rd_T97 l1 x5_1).f1), .int .i64 ((rd_T97 l1 x5_1).f2.f0), .int .i64 ((rd_T97 l1 x5_1).f2.f1), .int .i64 ((rd_T97 l1 x5_1).f2.f2), .slice A351_6 ((rd_T97 l1 x5_1).f2.f3).length c351_6, .bool ((rd_T97 l1 x5_1).f2.f4), .int .i64 ((rd_T97 l1 x5_1).f3.f0.f0), .int .i64 ((rd_T97 l1 x5_1).f3.f0.f1), .int .i64 ((rd_T97 l1 x5_1).f3.f0.f2), .int .i64 ((rd_T97 l1 x5_1).f3.f0.f3), .int .i64 ((rd_T97 l1 x5_1).f3.f1), .int .i64 ((rd_T97 l1 x5_1).f3.f2), .int .i64 ((rd_T97 l1 x5_1).f3.f3), .int .i64 ((rd_T97 l1 x5_1).f3.f4), .int .i64 ((rd_T97 l1 x5_1).f3.f5), .slice A351_17 ((rd_T97 l1 x5_1).f4).length c351_17, .int .i64 ((rd_T97 l1 x5_1).f5), .int .i64 ((rd_T97 l1 x5_1).f6), .slice A351_20 ((rd_T97 l1 x5_1).f7).length c351_20, .slice A351_21 ((rd_T97 l1 x5_1).f8).length c351_21]] (by rfl) rfl rfl (by (try simp only [List.map_toArray, List.map_cons, List.map_nil]); first | done | rfl | (simp only [List.length_drop, List.length_take]; rfl)) ?_
        with_reducible refine (laws_eqAirStation.calls k1 _ _ ((rd_T97 l0 x5_1).f0.f0) ((rd_T97 l0 x5_1).f0.f1) ((rd_T97 l0 x5_1).f1) ((rd_T97 l0 x5_1).f2.f0) ((rd_T97 l0 x5_1).f2.f1) ((rd_T97 l0 x5_1).f2.f2) _ _ ((rd_T97 l0 x5_1).f2.f3) ((rd_T97 l0 x5_1).f2.f4) ((rd_T97 l0 x5_1).f3.f0.f0) ((rd_T97 l0 x5_1).f3.f0.f1) ((rd_T97 l0 x5_1).f3.f0.f2) ((rd_T97 l0 x5_1).f3.f0.f3) ((rd_T97 l0 x5_1).f3.f1) ((rd_T97 l0 x5_1).f3.f2) ((rd_T97 l0 x5_1).f3.f3) ((rd_T97 l0 x5_1).f3.f4) ((rd_T97 l0 x5_1).f3.f5) _ _ ((rd_T97 l0 x5_1).f4) ((rd_T97 l0 x5_1).f5) ((rd_T97 l0 x5_1).f6) _ _ ((rd_T97 l0 x5_1).f7) _ _ ((rd_T97 l0 x5_1).f8) _ _ ((rd_T97 l1 x5_1).f0.f0) ((rd_T97 l1 x5_1).f0.f1) ((rd_T97 l1 x5_1).f1) ((rd_T97 l1 x5_1).f2.f0) ((rd_T97 l1 x5_1).f2.f1) ((rd_T97 l1 x5_1).f2.f2) _ _ ((rd_T97 l1 x5_1).f2.f3) ((rd_T97 l1 x5_1).f2.f4) ((rd_T97 l1 x5_1).f3.f0.f0) ((rd_T97 l1 x5_1).f3.f0.f1) ((rd_T97 l1 x5_1).f3.f0.f2) ((rd_T97 l1 x5_1).f3.f0.f3) ((rd_T97 l1 x5_1).f3.f1) ((rd_T97 l1 x5_1).f3.f2) ((rd_T97 l1 x5_1).f3.f3) ((rd_T97 l1 x5_1).f3.f4) ((rd_T97 l1 x5_1).f3.f5) _ _ ((rd_T97 l1 x5_1).f4) ((rd_T97 l1 x5_1).f5) ((rd_T97 l1 x5_1).f6) _ _ ((rd_T97 l1 x5_1).f7) _ _ ((rd_T97 l1 x5_1).f8) true _ ?side1 ?side2 ?side3 ?side4 ?side5 ?side6 ?side7 ?side8 ?side9 ?side10 ?side11 ?side12 ?side13 ?side14 ?side15 ?side16 ?side17 ?side18 ?side19 ?side20 A7.1).mono ?_
        (case side1 => repeat (first | exact (Kd.C_below HR350_0.1 HB.1) | (with_reducible refine Kd.C_alloc ?_ _) | (with_reducible refine Kd.C_drewN ?_ _) | (with_reducible refine Kd.C_drew ?_)))
        (case side2 => exact HC350_0.1)
        (case side3 => repeat (first | exact (Kd.C_below HR350_6.1 HB.1) | (with_reducible refine Kd.C_alloc ?_ _) | (with_reducible refine Kd.C_drewN ?_ _) | (with_reducible refine Kd.C_drew ?_)))
        (case side4 => exact HC350_6.1)
        (case side5 => repeat (first | exact (Kd.C_below HR350_17.1 HB.1) | (with_reducible refine Kd.C_alloc ?_ _) | (with_reducible refine Kd.C_drewN ?_ _) | (with_reducible refine Kd.C_drew ?_)))
        (case side6 => exact HC350_17.1)
        (case side7 => repeat (first | exact (Kd.C_below HR350_20.1 HB.1) | (with_reducible refine Kd.C_alloc ?_ _) | (with_reducible refine Kd.C_drewN ?_ _) | (with_reducible refine Kd.C_drew ?_)))
        (case side8 => exact HC350_20.1)
        (case side9 => repeat (first | exact (Kd.C_below HR350_21.1 HB.1) | (with_reducible refine Kd.C_alloc ?_ _) | (with_reducible refine Kd.C_drewN ?_ _) | (with_reducible refine Kd.C_drew ?_)))
        (case side10 => exact HC350_21.1)
        (case side11 => repeat (first | exact (Kd.C_below HR351_0.1 HB.1) | (with_reducible refine Kd.C_alloc ?_ _) | (with_reducible refine Kd.C_drewN ?_ _) | (with_reducible refine Kd.C_drew ?_)))
        (case side12 => exact HC351_0.1)
        (case side13 => repeat (first | exact (Kd.C_below HR351_6.1 HB.1) | (with_reducible refine Kd.C_alloc ?_ _) | (with_reducible refine Kd.C_drewN ?_ _) | (with_reducible refine Kd.C_drew ?_)))
        (case side14 => exact HC351_6.1)
        (case side15 => repeat (first | exact (Kd.C_below HR351_17.1 HB.1) | (with_reducible refine Kd.C_alloc ?_ _) | (with_reducible refine Kd.C_drewN ?_ _) | (with_reducible refine Kd.C_drew ?_)))
        (case side16 => exact HC351_17.1)
        (case side17 => repeat (first | exact (Kd.C_below HR351_20.1 HB.1) | (with_reducible refine Kd.C_alloc ?_ _) | (with_reducible refine Kd.C_drewN ?_ _) | (with_reducible refine Kd.C_drew ?_)))
        (case side18 => exact HC351_20.1)
        (case side19 => repeat (first | exact (Kd.C_below HR351_21.1 HB.1) | (with_reducible refine Kd.C_alloc ?_ _) | (with_reducible refine Kd.C_drewN ?_ _) | (with_reducible refine Kd.C_drew ?_)))
        (case side20 => exact HC351_21.1)
        rintro e w10 ⟨rfl, hb⟩
        refine ⟨_, rfl, ?_⟩
        have n0_ := Am_ (bT_ (by repeat (first | (with_reducible first | exact HB.1 | apply bA_ | apply bN_ | apply bD_) | exact HB.1)) hb)
        clear HB
        have HB := n0_
        clear n0_
        (try clear hb)
        (try clear hb2)
        (try clear hk)
        (try clear hi)
        refine hK.out _ _ ⟨(fun j u hj => (HB.1.cell (World.block_lt_of_cell? w _ (hw350 j u hj))).trans (hw350 j u hj)), (fun j u hj => (HB.1.cell (World.block_lt_of_cell? w _ (hw351 j u hj))).trans (hw351 j u hj))⟩ (fun hHeld => ?_)
        clear hK K
        refine norm_ (a' := ?_) ?_ ?_
        rotate_left
        ·show Act.put _ (some 25) _ = _
         simp only [Act.put, List.setIfInBounds_toArray, List.set_cons_zero, List.set_cons_succ, i64_w, i32_w]
         rfl
        refine pure_ (i := 9) (N := some 26) (v := ?_) (a' := ?_) #[true, true, true, true, true, true, true, true, true, true] rfl rfl (any_of HT_.out (by kernel_rfl)) (fun _ _ _ h => h) (Or.inl ⟨by rfl, ?_⟩) ?_ ?_
        rotate_left
        ·intro w'
         go_simp
         with_reducible rfl
        rotate_left
        ·simp only [Act.put, List.setIfInBounds_toArray, List.set_cons_zero, List.set_cons_succ, i64_w, i32_w]
         rfl
        refine done_ (done_of HT_.out (by kernel_rfl)) ?_
        try go_wp2
        go_roundg k1
        case measure => have := HK1.1; omega
        case rel => exact ⟨(wrap64 (x5_1 + 1)), (by first | rfl | (simp [i64_w]; done) | (simp; done) | (simp [*]; done)), H', ⟨by have := HK1.1; omega⟩, ⟨by repeat (first | (with_reducible first | exact HB.1 | apply bA_ | apply bN_ | apply bD_) | exact HB.1)⟩⟩
       ·replace c8 := Bool.eq_false_iff.mpr c8
        subst c8
        have H1 : (some false) = some r := by rw [if_neg (show ¬ (false = true) by decide)] at H; exact H
        clear H
        have H := H1
        clear H1
        obtain rfl := Option.some.inj H
        exact absurd hT (by decide)
      ·rw [if_neg c6] at H
       exact absurd H (by simp)
     ·rw [if_neg c5] at H
      exact absurd H (by simp)
    ·rw [if_neg c4] at H
     have c4b0 : decide (x5_1 < (l0.length : Int)) = false := decide_eq_false c4
     clear c4
     obtain rfl := Option.some.inj H
     go_wp2
     go_ret
     exact ⟨by first | rfl | (simp [errW_none, errW_some] <;> rfl) | (simp [*, errW_none, errW_some] <;> rfl), by repeat (first | (with_reducible first | exact HB.1 | apply bA_ | apply bN_ | apply bD_) | exact HB.1)⟩
 ·rw [if_neg c3] at H
  have c3b0 : ((l0.length : Int) == (l1.length : Int)) = false := beq_eq_false_iff_ne.mpr c3
  have c3b1 : ((l0.length : Int) != (l1.length : Int)) = true := bne_iff_ne.mpr c3
  have c3b2 : (l0.length == l1.length) = false := by first | simpa using c3 | (simp at c3 ⊢; omega)
  obtain rfl := Option.some.inj H
  exact absurd hT (by decide)

/-! ### laws_eqAir: function 19 -/
def laws_eqAir.f (k : Nat) (l0_0 : List Int) (a0_1 : Int) (a0_2 : Int) (l0_3 : List (S97)) (a0_4 : Int) (a0_5 : Int) (a0_6 : Int) (l1_0 : List Int) (a1_1 : Int) (a1_2 : Int) (l1_3 : List (S97)) (a1_4 : Int) (a1_5 : Int) (a1_6 : Int) : Option (Bool) := (laws_eqPlacement.f k l0_0 a0_1 a0_2 l1_0 a1_1 a1_2).bind fun t355 => (if t355 = true then ((laws_eqAirStationS.f k l0_3 l1_3).bind fun t356 => (if t356 = true then (if a0_4 = a1_4 then (if a0_5 = a1_5 then (if a0_6 = a1_6 then (some true) else (some false)) else (some false)) else (some false)) else (some false))) else (some false))
theorem laws_eqAir.mono : ∀ a0 a1 a2 a3 a4 a5 a6 a7 a8 a9 a10 a11 a12 a13 k, LeO (laws_eqAir.f k a0 a1 a2 a3 a4 a5 a6 a7 a8 a9 a10 a11 a12 a13) (laws_eqAir.f (k + 1) a0 a1 a2 a3 a4 a5 a6 a7 a8 a9 a10 a11 a12 a13) := by
 intro a0 a1 a2 a3 a4 a5 a6 a7 a8 a9 a10 a11 a12 a13 k
 unfold laws_eqAir.f
 repeat' first
   | (with_reducible exact laws_eqAirStationS.mono _ _ _)
   | (with_reducible exact laws_eqPlacement.mono _ _ _ _ _ _ _)
   | (with_reducible exact LeO.refl _)
   | (with_reducible exact LeO.none _)
   | (with_reducible refine LeO.ite ?_ ?_)
   | (with_reducible refine LeO.bind ?_ (fun _ => ?_))
   | exact laws_eqAirStationS.mono _ _ _
   | exact laws_eqPlacement.mono _ _ _ _ _ _ _
   | exact LeO.none _
   | refine LeO.ite ?_ ?_
   | refine LeO.bind ?_ (fun _ => ?_)
set_option maxHeartbeats 8000000 in
set_option maxRecDepth 100000 in
theorem laws_eqAir.calls (k : Nat) (A0_0 : Option Addr) (c0_0 : Nat) (l0_0 : List Int) (a0_1 : Int) (a0_2 : Int) (A0_3 : Option Addr) (c0_3 : Nat) (l0_3 : List (S97)) (a0_4 : Int) (a0_5 : Int) (a0_6 : Int) (A1_0 : Option Addr) (c1_0 : Nat) (l1_0 : List Int) (a1_1 : Int) (a1_2 : Int) (A1_3 : Option Addr) (c1_3 : Nat) (l1_3 : List (S97)) (a1_4 : Int) (a1_5 : Int) (a1_6 : Int) (r : Bool) (w : World) (hr0_0 : Kd.C (Kd.int .i64) w A0_0 l0_0.length l0_0) (hc0_0 : l0_0.length ≤ c0_0) (hr0_3 : Kd.C k97 w A0_3 l0_3.length l0_3) (hc0_3 : l0_3.length ≤ c0_3) (hr1_0 : Kd.C (Kd.int .i64) w A1_0 l1_0.length l1_0) (hc1_0 : l1_0.length ≤ c1_0) (hr1_3 : Kd.C k97 w A1_3 l1_3.length l1_3) (hc1_3 : l1_3.length ≤ c1_3) (h : laws_eqAir.f k l0_0 a0_1 a0_2 l0_3 a0_4 a0_5 a0_6 l1_0 a1_1 a1_2 l1_3 a1_4 a1_5 a1_6 = some r) (hT : r = true := by rfl) :
  Calls Try.prog 19 #[.agg #[.slice A0_0 l0_0.length c0_0, .int .i64 a0_1, .int .i64 a0_2, .slice A0_3 l0_3.length c0_3, .int .i64 a0_4, .int .i64 a0_5, .int .i64 a0_6], .agg #[.slice A1_0 l1_0.length c1_0, .int .i64 a1_1, .int .i64 a1_2, .slice A1_3 l1_3.length c1_3, .int .i64 a1_4, .int .i64 a1_5, .int .i64 a1_6]] w fun e w' => e = .returned (.bool r) ∧ Below w.heap.size w w' := by
 have hu33 := Try.underlying33
 have hu30 := Try.underlying30
 have HR0_0 := Am_ hr0_0
 have HC0_0 := Am_ hc0_0
 clear hr0_0 hc0_0
 have HR0_3 := Am_ hr0_3
 have HC0_3 := Am_ hc0_3
 clear hr0_3 hc0_3
 have HR1_0 := Am_ hr1_0
 have HC1_0 := Am_ hc1_0
 clear hr1_0 hc1_0
 have HR1_3 := Am_ hr1_3
 have HC1_3 := Am_ hc1_3
 clear hr1_3 hc1_3
 have HB := Am_ (Below.refl w.heap.size w)
 have H : ((laws_eqPlacement.f k l0_0 a0_1 a0_2 l1_0 a1_1 a1_2).bind fun t355 => (if t355 = true then ((laws_eqAirStationS.f k l0_3 l1_3).bind fun t356 => (if t356 = true then (if a0_4 = a1_4 then (if a0_5 = a1_5 then (if a0_6 = a1_6 then (some true) else (some false)) else (some false)) else (some false)) else (some false))) else (some false))) = some r := h
 clear h
 replace H := Option.bind_eq_some_iff.mp H
 obtain ⟨t355, A30, H⟩ := H
 replace H : (if t355 = true then ((laws_eqAirStationS.f k l0_3 l1_3).bind fun t356 => (if t356 = true then (if a0_4 = a1_4 then (if a0_5 = a1_5 then (if a0_6 = a1_6 then (some true) else (some false)) else (some false)) else (some false)) else (some false))) else (some false)) = some r := H
 have A3 := Am_ A30
 clear A30
 by_cases c4 : t355 = true
 ·subst c4
  have H1 : ((laws_eqAirStationS.f k l0_3 l1_3).bind fun t356 => (if t356 = true then (if a0_4 = a1_4 then (if a0_5 = a1_5 then (if a0_6 = a1_6 then (some true) else (some false)) else (some false)) else (some false)) else (some false))) = some r := by rw [if_pos rfl] at H; exact H
  clear H
  have H := H1
  clear H1
  replace H := Option.bind_eq_some_iff.mp H
  obtain ⟨t356, A50, H⟩ := H
  replace H : (if t356 = true then (if a0_4 = a1_4 then (if a0_5 = a1_5 then (if a0_6 = a1_6 then (some true) else (some false)) else (some false)) else (some false)) else (some false)) = some r := H
  have A5 := Am_ A50
  clear A50
  by_cases c6 : t356 = true
  ·subst c6
   have H1 : (if a0_4 = a1_4 then (if a0_5 = a1_5 then (if a0_6 = a1_6 then (some true) else (some false)) else (some false)) else (some false)) = some r := by rw [if_pos rfl] at H; exact H
   clear H
   have H := H1
   clear H1
   by_cases c7 : a0_4 = a1_4
   ·rw [if_pos c7] at H
    have c7b0 : (a0_4 == a1_4) = true := beq_iff_eq.mpr c7
    have c7b1 : (a0_4 != a1_4) = false := bne_eq_false_iff_eq.mpr c7
    clear c7
    by_cases c8 : a0_5 = a1_5
    ·rw [if_pos c8] at H
     have c8b0 : (a0_5 == a1_5) = true := beq_iff_eq.mpr c8
     have c8b1 : (a0_5 != a1_5) = false := bne_eq_false_iff_eq.mpr c8
     clear c8
     by_cases c9 : a0_6 = a1_6
     ·rw [if_pos c9] at H
      have c9b0 : (a0_6 == a1_6) = true := beq_iff_eq.mpr c9
      have c9b1 : (a0_6 != a1_6) = false := bne_eq_false_iff_eq.mpr c9
      clear c9
      obtain rfl := Option.some.inj H
      go_enter Try.func19, Try.ntmps19
      go_wp2_with (first | ((with_reducible refine gate_dst (N := 2) rfl ?_); refine box_event ?hg (N := 2) ?hd (cs := #[.slice A0_0 l0_0.length c0_0, .int .i64 a0_1, .int .i64 a0_2, .slice A0_3 l0_3.length c0_3, .int .i64 a0_4, .int .i64 a0_5, .int .i64 a0_6]) (t := 33) ?hr ?_; (case hd => rfl); (case hg => rfl); (case hr => first | (go_simp; done) | (go_simp; rfl)); intro gb353 hg w10 hbox hb; have n0_ := Am_ (bT_ (by repeat (first | (with_reducible first | exact HB.1 | apply bA_ | apply bN_ | apply bD_) | exact HB.1)) hb); have n1_ := Am_ (hbox); have n2_ := Am_ ((by rw [hg]; exact (bZ_ (by repeat (first | (with_reducible first | exact HB.1 | apply bA_ | apply bN_ | apply bD_) | exact HB.1))) : w.heap.size ≤ gb353)); have n3_ := Am_ ((by rw [hg]; exact (bZ_ (by repeat (first | (with_reducible first | exact HB.1 | apply bA_ | apply bN_ | apply bD_) | exact HB.1))) : w.heap.size ≤ gb353)); clear HB; have HB := n0_; have BK353 := n1_; have GW353 := n2_; have GE353 := n3_; clear n0_ n1_ n2_ n3_ hb hbox hg) | ((with_reducible refine gate_dst (N := 3) rfl ?_); refine box_event ?hg (N := 3) ?hd (cs := #[.slice A1_0 l1_0.length c1_0, .int .i64 a1_1, .int .i64 a1_2, .slice A1_3 l1_3.length c1_3, .int .i64 a1_4, .int .i64 a1_5, .int .i64 a1_6]) (t := 33) ?hr ?_; (case hd => rfl); (case hg => rfl); (case hr => first | (go_simp; done) | (go_simp; rfl)); intro gb354 hg w11 hbox hb; have n0_ := Am_ (kB_ (g := gb353) (by (with_reducible repeat (first | refine kN_ ?_ _ | refine kD_ ?_ | refine kA_ ?_ _)); exact BK353.1) hb); have n1_ := Am_ (bT_ (by repeat (first | (with_reducible first | exact HB.1 | apply bA_ | apply bN_ | apply bD_ | refine bS_ ?_ GE353.1) | exact HB.1)) hb); have n2_ := Am_ (hbox); have n3_ := Am_ ((by rw [hg]; exact (bZ_ (by repeat (first | (with_reducible first | exact HB.1 | apply bA_ | apply bN_ | apply bD_ | refine bS_ ?_ GE353.1) | exact HB.1))) : w.heap.size ≤ gb354)); have n4_ := Am_ ((by rw [hg]; exact (bZ_ (by repeat (first | (with_reducible first | exact HB.1 | apply bA_ | apply bN_ | apply bD_ | refine bS_ ?_ GE353.1) | exact HB.1))) : w.heap.size ≤ gb354)); have n5_ := Am_ ((by rw [hg]; exact Nat.ne_of_lt (blk_lt (g := gb353) (by (with_reducible repeat (first | refine kN_ ?_ _ | refine kD_ ?_ | refine kA_ ?_ _)); exact BK353.1)) : gb353 ≠ gb354)); have n6_ := Am_ ((by rw [hg]; exact Nat.ne_of_gt (blk_lt (g := gb353) (by (with_reducible repeat (first | refine kN_ ?_ _ | refine kD_ ?_ | refine kA_ ?_ _)); exact BK353.1)) : gb354 ≠ gb353)); clear BK353 HB; have BK353 := n0_; have HB := n1_; have BK354 := n2_; have GW354 := n3_; have GE354 := n4_; have NB353_354 := n5_; have NB354_353 := n6_; clear n0_ n1_ n2_ n3_ n4_ n5_ n6_ hb hbox hg; have hnb12 := NB353_354.1; have hnc12 := NB354_353.1; have hcz13_0 : w11.cell? ⟨gb353, 0, none⟩ = some (.slice A0_0 l0_0.length c0_0) := kC_ BK353.1 0; have hcz13_1 : w11.cell? ⟨gb353, 1, none⟩ = some (.int .i64 a0_1) := kC_ BK353.1 1; have hcz13_2 : w11.cell? ⟨gb353, 2, none⟩ = some (.int .i64 a0_2) := kC_ BK353.1 2; have hcz13_4 : w11.cell? ⟨gb353, 4, none⟩ = some (.int .i64 a0_4) := kC_ BK353.1 4; have hcz13_5 : w11.cell? ⟨gb353, 5, none⟩ = some (.int .i64 a0_5) := kC_ BK353.1 5; have hcz13_6 : w11.cell? ⟨gb353, 6, none⟩ = some (.int .i64 a0_6) := kC_ BK353.1 6; have hfz13_0 := kF_ BK353.1 0; have hfz13_1 := kF_ BK353.1 1; have hfz13_2 := kF_ BK353.1 2; have hfz13_4 := kF_ BK353.1 4; have hfz13_5 := kF_ BK353.1 5; have hfz13_6 := kF_ BK353.1 6; have hcz14_0 : w11.cell? ⟨gb354, 0, none⟩ = some (.slice A1_0 l1_0.length c1_0) := kC_ BK354.1 0; have hcz14_1 : w11.cell? ⟨gb354, 1, none⟩ = some (.int .i64 a1_1) := kC_ BK354.1 1; have hcz14_2 : w11.cell? ⟨gb354, 2, none⟩ = some (.int .i64 a1_2) := kC_ BK354.1 2; have hcz14_4 : w11.cell? ⟨gb354, 4, none⟩ = some (.int .i64 a1_4) := kC_ BK354.1 4; have hcz14_5 : w11.cell? ⟨gb354, 5, none⟩ = some (.int .i64 a1_5) := kC_ BK354.1 5; have hcz14_6 : w11.cell? ⟨gb354, 6, none⟩ = some (.int .i64 a1_6) := kC_ BK354.1 6; have hfz14_0 := kF_ BK354.1 0; have hfz14_1 := kF_ BK354.1 1; have hfz14_2 := kF_ BK354.1 2; have hfz14_4 := kF_ BK354.1 4; have hfz14_5 := kF_ BK354.1 5; have hfz14_6 := kF_ BK354.1 6) | ((with_reducible refine gate_callee (f := 44) rfl ?_); refine goesL_ (some 9) rfl rfl Try.func44 (by kernel_rfl) rfl #[.agg #[.slice A0_0 l0_0.length c0_0, .int .i64 a0_1, .int .i64 a0_2], .agg #[.slice A1_0 l1_0.length c1_0, .int .i64 a1_1, .int .i64 a1_2]] rfl (by (try simp only [List.map_toArray, List.map_cons, List.map_nil]); first | done | rfl | (simp only [List.length_drop, List.length_take]; rfl)) ?_; (with_reducible refine (laws_eqPlacement.calls k _ _ l0_0 a0_1 a0_2 _ _ l1_0 a1_1 a1_2 true _ ?side1 ?side2 ?side3 ?side4 A3.1).mono ?_); (case side1 => repeat (first | exact (Kd.C_below HR0_0.1 HB.1) | (with_reducible refine Kd.C_alloc ?_ _) | (with_reducible refine Kd.C_drewN ?_ _) | (with_reducible refine Kd.C_drew ?_))); (case side2 => exact HC0_0.1); (case side3 => repeat (first | exact (Kd.C_below HR1_0.1 HB.1) | (with_reducible refine Kd.C_alloc ?_ _) | (with_reducible refine Kd.C_drewN ?_ _) | (with_reducible refine Kd.C_drew ?_))); (case side4 => exact HC1_0.1); rintro e w15 ⟨rfl, hb⟩; refine ⟨_, rfl, ?_⟩; have n0_ := Am_ (kB_ (g := gb353) (by (with_reducible repeat (first | refine kN_ ?_ _ | refine kD_ ?_ | refine kA_ ?_ _)); exact BK353.1) hb); have n1_ := Am_ (kB_ (g := gb354) (by (with_reducible repeat (first | refine kN_ ?_ _ | refine kD_ ?_ | refine kA_ ?_ _)); exact BK354.1) hb); have n2_ := Am_ (bT_ (by repeat (first | (with_reducible first | exact HB.1 | apply bA_ | apply bN_ | apply bD_ | refine bS_ ?_ GE353.1 | refine bS_ ?_ GE354.1) | exact HB.1)) hb); clear BK353 BK354 HB; have BK353 := n0_; have BK354 := n1_; have HB := n2_; clear n0_ n1_ n2_; (try clear hb); (try clear hb2); (try clear hk); (try clear hi); have hcz16_3 : w15.cell? ⟨gb353, 3, none⟩ = some (.slice A0_3 l0_3.length c0_3) := kC_ BK353.1 3; have hcz16_4 : w15.cell? ⟨gb353, 4, none⟩ = some (.int .i64 a0_4) := kC_ BK353.1 4; have hcz16_5 : w15.cell? ⟨gb353, 5, none⟩ = some (.int .i64 a0_5) := kC_ BK353.1 5; have hcz16_6 : w15.cell? ⟨gb353, 6, none⟩ = some (.int .i64 a0_6) := kC_ BK353.1 6; have hfz16_3 := kF_ BK353.1 3; have hfz16_4 := kF_ BK353.1 4; have hfz16_5 := kF_ BK353.1 5; have hfz16_6 := kF_ BK353.1 6; have hcz17_3 : w15.cell? ⟨gb354, 3, none⟩ = some (.slice A1_3 l1_3.length c1_3) := kC_ BK354.1 3; have hcz17_4 : w15.cell? ⟨gb354, 4, none⟩ = some (.int .i64 a1_4) := kC_ BK354.1 4; have hcz17_5 : w15.cell? ⟨gb354, 5, none⟩ = some (.int .i64 a1_5) := kC_ BK354.1 5; have hcz17_6 : w15.cell? ⟨gb354, 6, none⟩ = some (.int .i64 a1_6) := kC_ BK354.1 6; have hfz17_3 := kF_ BK354.1 3; have hfz17_4 := kF_ BK354.1 4; have hfz17_5 := kF_ BK354.1 5; have hfz17_6 := kF_ BK354.1 6) | ((with_reducible refine gate_callee (f := 68) rfl ?_); refine goesL_ (some 15) rfl rfl Try.func68 (by kernel_rfl) rfl #[.slice A0_3 l0_3.length c0_3, .slice A1_3 l1_3.length c1_3] rfl (by (try simp only [List.map_toArray, List.map_cons, List.map_nil]); first | done | rfl | (simp only [List.length_drop, List.length_take]; rfl)) ?_; (with_reducible refine (laws_eqAirStationS.calls k _ _ l0_3 _ _ l1_3 true _ ?side1 ?side2 ?side3 ?side4 A5.1).mono ?_); (case side1 => repeat (first | exact (Kd.C_below HR0_3.1 HB.1) | (with_reducible refine Kd.C_alloc ?_ _) | (with_reducible refine Kd.C_drewN ?_ _) | (with_reducible refine Kd.C_drew ?_))); (case side2 => exact HC0_3.1); (case side3 => repeat (first | exact (Kd.C_below HR1_3.1 HB.1) | (with_reducible refine Kd.C_alloc ?_ _) | (with_reducible refine Kd.C_drewN ?_ _) | (with_reducible refine Kd.C_drew ?_))); (case side4 => exact HC1_3.1); rintro e w18 ⟨rfl, hb⟩; refine ⟨_, rfl, ?_⟩; have n0_ := Am_ (kB_ (g := gb353) (by (with_reducible repeat (first | refine kN_ ?_ _ | refine kD_ ?_ | refine kA_ ?_ _)); exact BK353.1) hb); have n1_ := Am_ (kB_ (g := gb354) (by (with_reducible repeat (first | refine kN_ ?_ _ | refine kD_ ?_ | refine kA_ ?_ _)); exact BK354.1) hb); have n2_ := Am_ (bT_ (by repeat (first | (with_reducible first | exact HB.1 | apply bA_ | apply bN_ | apply bD_ | refine bS_ ?_ GE353.1 | refine bS_ ?_ GE354.1) | exact HB.1)) hb); clear BK353 BK354 HB; have BK353 := n0_; have BK354 := n1_; have HB := n2_; clear n0_ n1_ n2_; (try clear hb); (try clear hb2); (try clear hk); (try clear hi); have hcz19_4 : w18.cell? ⟨gb353, 4, none⟩ = some (.int .i64 a0_4) := kC_ BK353.1 4; have hcz19_5 : w18.cell? ⟨gb353, 5, none⟩ = some (.int .i64 a0_5) := kC_ BK353.1 5; have hcz19_6 : w18.cell? ⟨gb353, 6, none⟩ = some (.int .i64 a0_6) := kC_ BK353.1 6; have hfz19_4 := kF_ BK353.1 4; have hfz19_5 := kF_ BK353.1 5; have hfz19_6 := kF_ BK353.1 6; have hcz20_4 : w18.cell? ⟨gb354, 4, none⟩ = some (.int .i64 a1_4) := kC_ BK354.1 4; have hcz20_5 : w18.cell? ⟨gb354, 5, none⟩ = some (.int .i64 a1_5) := kC_ BK354.1 5; have hcz20_6 : w18.cell? ⟨gb354, 6, none⟩ = some (.int .i64 a1_6) := kC_ BK354.1 6; have hfz20_4 := kF_ BK354.1 4; have hfz20_5 := kF_ BK354.1 5; have hfz20_6 := kF_ BK354.1 6))
      go_ret
      exact ⟨by first | rfl | (simp [errW_none, errW_some] <;> rfl) | (simp [*, errW_none, errW_some] <;> rfl), by repeat (first | (with_reducible first | exact HB.1 | apply bA_ | apply bN_ | apply bD_ | refine bS_ ?_ GE353.1 | refine bS_ ?_ GE354.1) | exact HB.1)⟩
     ·rw [if_neg c9] at H
      have c9b0 : (a0_6 == a1_6) = false := beq_eq_false_iff_ne.mpr c9
      have c9b1 : (a0_6 != a1_6) = true := bne_iff_ne.mpr c9
      obtain rfl := Option.some.inj H
      exact absurd hT (by decide)
    ·rw [if_neg c8] at H
     have c8b0 : (a0_5 == a1_5) = false := beq_eq_false_iff_ne.mpr c8
     have c8b1 : (a0_5 != a1_5) = true := bne_iff_ne.mpr c8
     obtain rfl := Option.some.inj H
     exact absurd hT (by decide)
   ·rw [if_neg c7] at H
    have c7b0 : (a0_4 == a1_4) = false := beq_eq_false_iff_ne.mpr c7
    have c7b1 : (a0_4 != a1_4) = true := bne_iff_ne.mpr c7
    obtain rfl := Option.some.inj H
    exact absurd hT (by decide)
  ·replace c6 := Bool.eq_false_iff.mpr c6
   subst c6
   have H1 : (some false) = some r := by rw [if_neg (show ¬ (false = true) by decide)] at H; exact H
   clear H
   have H := H1
   clear H1
   obtain rfl := Option.some.inj H
   exact absurd hT (by decide)
 ·replace c4 := Bool.eq_false_iff.mpr c4
  subst c4
  have H1 : (some false) = some r := by rw [if_neg (show ¬ (false = true) by decide)] at H; exact H
  clear H
  have H := H1
  clear H1
  obtain rfl := Option.some.inj H
  exact absurd hT (by decide)

end Go.Proofs.Ytlkofdedkfmaeaa.XFnExactDeliveredOnce
